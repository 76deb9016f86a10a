import PyProof.Rows.All
import Wide.All
import OpenK.AllK
import Wide.FinOn
import HandS.ForMost
import HandS.Exc
import HandS.TryOnly
import HandS.ExcOwn
import HandS.WordsExc
import HandS.IsInst
import HandS.CallSlots
import HandS.Walk
import HandS.TupAny
import HandS.TupMul
import HandS.Deep
import HandS.Style
import HandS.Wide
import HandS.Conv
import HandS.TupLen
import HandS.SetKeys
import HandS.TupSets
import HandS.Zip
import HandS.Defaults
import KE.GoesMore
import HandS.DictTup
import KE.KDictDisplayH
import KE.KDictPairs
import HandS.Star
import HandS.Zip0
import PyProof.ListNew
import KE.KStateDown
import Lean
import HandS.Base
import HandS.Call
import HandS.Ends
import HandS.More
import HandS.Words
import HandS.Head0
import HandS.Head1
import HandS.Head2
import HandS.HeadEnd
import HandS.HeadHook1
import HandS.HeadHook2
import HandS.HeadHook4
import HandS.HeadWalk
import KE.KNestM
import PySem.Challenge.RW_mendring_k04_whole_rules_of_dijkstra
set_option Elab.async false
set_option linter.all false
set_option maxRecDepth 100000
set_option maxHeartbeats 4000000
/-! part DLa -/
namespace DL
open PySem PySem.Spec L2

inductive D where
  | non | bl (b : Bool) | int (i : Int) | str (x : Str)
  | tup (xs : List D) | lst (xs : List D)
  | dK (kvs : List (Key × V)) | dT (kvs : List (List Key × V))
  | ob (a : Addr)

mutual
inductive Rep (F : Hp) : V → D → Prop
  | non : Rep F .non .non
  | bl (b : Bool) : Rep F (.bl b) (.bl b)
  | int (i : Int) : Rep F (.int i) (.int i)
  | str (x : Str) : Rep F (.str x) (.str x)
  | tup {a : Addr} {vs : List V} {ds : List D} : F a = some (.tup vs) → RepL F vs ds → Rep F (.ref a) (.tup ds)
  | lst {a : Addr} {vs : List V} {ds : List D} : F a = some (.lst vs) → RepL F vs ds → Rep F (.ref a) (.lst ds)
  | dK {a : Addr} {o : Obj} {kvs : List (Key × V)} : F a = some (.frz o (.dK kvs)) → Rep F (.ref a) (.dK kvs)
  | dT {a : Addr} {o : Obj} {kvs : List (List Key × V)} : F a = some (.frz o (.dT kvs)) → Rep F (.ref a) (.dT kvs)
  | ob (a : Addr) : Rep F (.ref a) (.ob a)
inductive RepL (F : Hp) : List V → List D → Prop
  | nil : RepL F [] []
  | cons {v : V} {vs : List V} {d : D} {ds : List D} : Rep F v d → RepL F vs ds → RepL F (v :: vs) (d :: ds)
end

mutual
theorem Rep.mono {F F' : Hp} (e : Same F F') : ∀ {v : V} {d : D}, Rep F v d → Rep F' v d
  | _, _, .non => .non
  | _, _, .bl b => .bl b
  | _, _, .int i => .int i
  | _, _, .str x => .str x
  | _, _, .tup h r => .tup (e _ _ h) (RepL.mono e r)
  | _, _, .lst h r => .lst (e _ _ h) (RepL.mono e r)
  | _, _, .dK h => .dK (e _ _ h)
  | _, _, .dT h => .dT (e _ _ h)
  | _, _, .ob a => .ob a
theorem RepL.mono {F F' : Hp} (e : Same F F') : ∀ {vs : List V} {ds : List D}, RepL F vs ds → RepL F' vs ds
  | _, _, .nil => .nil
  | _, _, .cons h r => .cons (Rep.mono e h) (RepL.mono e r)
end
theorem RepL.length {F : Hp} : ∀ {vs : List V} {ds : List D}, RepL F vs ds → vs.length = ds.length
  | _, _, .nil => rfl
  | _, _, .cons _ r => by simp [RepL.length r]
theorem RepL.get {F : Hp} : ∀ {vs : List V} {ds : List D} {i : Nat} {d : D}, RepL F vs ds → ds[i]? = some d → ∃ v, vs[i]? = some v ∧ Rep F v d
  | _, _, i, _, .nil, h => by simp at h
  | _, _, 0, _, .cons h r, e => by
    simp at e; subst e
    exact ⟨_, rfl, h⟩
  | _, _, i + 1, _, .cons h r, e => by
    simp at e
    obtain ⟨v, h1, h2⟩ := RepL.get r e
    exact ⟨v, by simpa using h1, h2⟩
theorem RepL.get' {F : Hp} : ∀ {vs : List V} {ds : List D} {i : Nat} {v : V}, RepL F vs ds → vs[i]? = some v → ∃ d, ds[i]? = some d ∧ Rep F v d
  | _, _, i, _, .nil, h => by simp at h
  | _, _, 0, _, .cons h r, e => by
    simp at e; subst e
    exact ⟨_, rfl, h⟩
  | _, _, i + 1, _, .cons h r, e => by
    simp at e
    obtain ⟨v, h1, h2⟩ := RepL.get' r e
    exact ⟨v, by simpa using h1, h2⟩
theorem RepL.append {F : Hp} : ∀ {vs ws : List V} {ds es : List D}, RepL F vs ds → RepL F ws es → RepL F (vs ++ ws) (ds ++ es)
  | _, _, _, _, .nil, s => s
  | _, _, _, _, .cons h r, s => .cons h (RepL.append r s)
theorem RepL.drop {F : Hp} : ∀ {vs : List V} {ds : List D} (n : Nat), RepL F vs ds → RepL F (vs.drop n) (ds.drop n)
  | _, _, 0, r => r
  | _, _, _ + 1, .nil => .nil
  | _, _, n + 1, .cons _ r => RepL.drop n r
theorem RepL.take {F : Hp} : ∀ {vs : List V} {ds : List D} (n : Nat), RepL F vs ds → RepL F (vs.take n) (ds.take n)
  | _, _, 0, _ => .nil
  | _, _, _ + 1, .nil => .nil
  | _, _, n + 1, .cons h r => .cons h (RepL.take n r)
theorem RepL.reverse {F : Hp} {vs : List V} {ds : List D} (h : RepL F vs ds) : RepL F vs.reverse ds.reverse := by
  induction vs generalizing ds with
  | nil => cases h; exact .nil
  | cons v vs ih => cases h with
    | cons h1 h2 => rw [List.reverse_cons, List.reverse_cons]; exact (ih h2).append (.cons h1 .nil)
theorem RepL.set {F : Hp} : ∀ {vs : List V} {ds : List D} {v : V} {d : D} (i : Nat), Rep F v d → RepL F vs ds → RepL F (vs.set i v) (ds.set i d)
  | _, _, _, _, _, _, .nil => .nil
  | _, _, _, _, 0, h, .cons _ r => .cons h r
  | _, _, _, _, i + 1, h, .cons h1 r => .cons h1 (RepL.set i h r)
theorem RepL.ints {F : Hp} : ∀ {vs : List V} {ns : List Int}, RepL F vs (ns.map D.int) → vs = ns.map V.int
  | _, [], .nil => rfl
  | _, n :: ns, .cons h r => by cases h; rw [RepL.ints r]; rfl
theorem RepL.of_ints {F : Hp} : ∀ (ns : List Int), RepL F (ns.map V.int) (ns.map D.int)
  | [] => .nil
  | n :: ns => .cons (.int n) (RepL.of_ints ns)
theorem RepL.bls {F : Hp} : ∀ {vs : List V} {ns : List Bool}, RepL F vs (ns.map D.bl) → vs = ns.map V.bl
  | _, [], .nil => rfl
  | _, n :: ns, .cons h r => by cases h; rw [RepL.bls r]; rfl
theorem RepL.rep {F : Hp} {vs : List V} {ds : List D} (h : RepL F vs ds) : ∀ k : Nat, RepL F (List.replicate k vs).flatten (List.replicate k ds).flatten
  | 0 => .nil
  | k + 1 => by
    rw [List.replicate_succ, List.replicate_succ, List.flatten_cons, List.flatten_cons]
    exact h.append (RepL.rep h k)

/-! part DLa -/
/-- an error: its class's name, what it bears -/
structure Exn where
  c : Str
  d : D
structure MM where
  T : Type
  foot : T → Addr → Prop
  ok : Hp → T → Prop
  there : ∀ {H μ b}, ok H μ → foot μ b → ∃ o, H b = some o
  stay : ∀ {H H' μ}, ok H μ → (∀ b, foot μ b → H' b = H b) → ok H' μ
  nt : ∀ {H μ b vs}, ok H μ → foot μ b → H b ≠ some (.tup vs)
  /-- how an error lies -/
  ex : Exn → Value → Option Addr → Hp → Prop
abbrev MM.Er (_ : MM) : Type := Exn

/-- F: what never changes; P: what may -/
structure Ev (F H : Hp) (P : Addr → Prop) (F' H' : Hp) (P' : Addr → Prop) : Prop where
  fr : Same F F'
  nw : ∀ b o, H b = some o → ¬ P b → (∀ vs, o ≠ HO.tup vs) → F' b = F b
  kp : ∀ b o, H b = some o → ¬ P b → H' b = some o
  ft : ∀ b, P' b → P b ∨ H b = none
  tr : ∀ b o, H b = some o → ∃ o', H' b = some o'
theorem Ev.refl (F H : Hp) (P : Addr → Prop) : Ev F H P F H P := ⟨Same.refl _, fun _ _ _ _ _ => rfl, fun _ _ h _ => h, fun _ h => .inl h, fun _ o h => ⟨o, h⟩⟩
theorem Ev.trans {F H F' H' F2 H2 : Hp} {P P' P2 : Addr → Prop} (a : Ev F H P F' H' P') (b : Ev F' H' P' F2 H2 P2) : Ev F H P F2 H2 P2 where
  fr := a.fr.trans b.fr
  nw := fun c o h n nt => by
    have n' : ¬ P' c := fun q => by
      rcases a.ft c q with z | z
      · exact n z
      · rw [h] at z; cases z
    rw [b.nw c o (a.kp c o h n) n' nt, a.nw c o h n nt]
  kp := fun c o h n => b.kp c o (a.kp c o h n) fun q => by
    rcases a.ft c q with z | z
    · exact n z
    · rw [h] at z; cases z
  ft := fun c q => by
    rcases b.ft c q with z | z
    · exact a.ft c z
    · refine .inr ?_
      cases e : H c with
      | none => rfl
      | some o =>
        obtain ⟨o', e'⟩ := a.tr c o e
        rw [e'] at z; cases z
  tr := fun c o h => by
    obtain ⟨o', h'⟩ := a.tr c o h
    exact b.tr c o' h'
/-- a new frozen object -/
theorem Ev.freeze {F H : Hp} {P : Addr → Prop} {p : Addr} {o : HO} (hp : H p = none) (fh : Same F H) : Ev F H P (upd F p o) (upd H p o) P where
  fr := fun b u h => by rw [upd_ne (ne_of_none (fh b u h) hp)]; exact h
  nw := fun b u h _ _ => upd_ne (ne_of_none h hp)
  kp := fun b u h _ => by rw [upd_ne (ne_of_none h hp)]; exact h
  ft := fun _ h => .inl h
  tr := fun b u h => ⟨u, by rw [upd_ne (ne_of_none h hp)]; exact h⟩
/-- a new object, not frozen -/
theorem Ev.fresh {F H : Hp} {P : Addr → Prop} {p : Addr} {o : HO} (hp : H p = none) : Ev F H P F (upd H p o) P where
  fr := Same.refl _
  nw := fun _ _ _ _ _ => rfl
  kp := fun b u h _ => by rw [upd_ne (ne_of_none h hp)]; exact h
  ft := fun _ h => .inl h
  tr := fun b u h => ⟨u, by rw [upd_ne (ne_of_none h hp)]; exact h⟩
theorem same_upd {F H : Hp} {p : Addr} {o : HO} (hp : H p = none) (fh : Same F H) : Same (upd F p o) (upd H p o) := fun b u h => by
  by_cases e : b = p
  · subst e; rw [upd_same] at h ⊢; exact h
  · rw [upd_ne e] at h ⊢; exact fh b u h
theorem same_upd' {F H : Hp} {p : Addr} {o : HO} (hp : F p = none) (fh : Same F H) : Same F (upd H p o) := fun b u h => by
  rw [upd_ne (ne_of_none h hp)]; exact fh b u h

/-- the memory is held: nothing of it is frozen -/
structure MOk (M : MM) (F H : Hp) (μ : M.T) : Prop where
  fh : Same F H
  ok : M.ok H μ
  nf : ∀ b, M.foot μ b → F b = none
theorem MOk.freeze {M : MM} {F H : Hp} {μ : M.T} {p : Addr} {o : HO} (m : MOk M F H μ) (hp : H p = none) : MOk M (upd F p o) (upd H p o) μ where
  fh := same_upd hp m.fh
  ok := M.stay m.ok fun b hb => by
    obtain ⟨u, hu⟩ := M.there m.ok hb
    exact upd_ne (ne_of_none hu hp)
  nf := fun b hb => by
    obtain ⟨u, hu⟩ := M.there m.ok hb
    rw [upd_ne (ne_of_none hu hp)]; exact m.nf b hb
theorem MOk.fresh {M : MM} {F H : Hp} {μ : M.T} {p : Addr} {o : HO} (m : MOk M F H μ) (hp : H p = none) : MOk M F (upd H p o) μ where
  fh := same_upd' (m.fh.free hp) m.fh
  ok := M.stay m.ok fun b hb => by
    obtain ⟨u, hu⟩ := M.there m.ok hb
    exact upd_ne (ne_of_none hu hp)
  nf := m.nf

/-! part DLa -/
/-- what stands in a container of one's own -/
inductive Co where
  | lst (ds : List D) | dK (kvs : List (Key × V)) | dT (kvs : List (List Key × V))
inductive Sl where
  | un | fz (d : D) | ow (c : Co)
abbrev En := List Sl
def CoAt (F H : Hp) (a : Addr) : Co → Prop
  | .lst ds => ∃ vs, H a = some (.lst vs) ∧ RepL F vs ds
  | .dK kvs => H a = some (.dK kvs)
  | .dT kvs => H a = some (.dT kvs)
theorem CoAt.there {F H : Hp} {a : Addr} {c : Co} (h : CoAt F H a c) : ∃ o, H a = some o := by
  cases c with
  | lst ds => obtain ⟨vs, h, _⟩ := h; exact ⟨_, h⟩
  | dK kvs => exact ⟨_, h⟩
  | dT kvs => exact ⟨_, h⟩
theorem CoAt.nt {F H : Hp} {a : Addr} {c : Co} {o : HO} (h : CoAt F H a c) (e : H a = some o) : ∀ vs, o ≠ HO.tup vs := fun vs z => by
  subst z
  cases c with
  | lst ds => obtain ⟨vs, h, _⟩ := h; rw [h] at e; cases e
  | dK kvs => rw [show H a = _ from h] at e; cases e
  | dT kvs => rw [show H a = _ from h] at e; cases e
theorem CoAt.mono {F H F' H' : Hp} {a : Addr} {c : Co} (h : CoAt F H a c) (e : Same F F') (k : H' a = H a) : CoAt F' H' a c := by
  cases c with
  | lst ds => obtain ⟨vs, h, r⟩ := h; exact ⟨vs, by rw [k]; exact h, r.mono e⟩
  | dK kvs => exact k.trans h
  | dT kvs => exact k.trans h
/-- the data that a container is, once it is frozen -/
def Co.d : Co → D
  | .lst ds => .lst ds
  | .dK kvs => .dK kvs
  | .dT kvs => .dT kvs
def Own (ρ : En) (σ : St) (b : Addr) : Prop := ∃ (i : Nat) (c : Co), ρ[i]? = some (Sl.ow c) ∧ σ[i]? = some (some (V.ref b))
structure SlOk (M : MM) (F H : Hp) (μ : M.T) (ρ : En) (σ : St) : Prop where
  fz : ∀ (i : Nat) (d : D), ρ[i]? = some (Sl.fz d) → ∃ v, σ[i]? = some (some v) ∧ Rep F v d
  ow : ∀ (i : Nat) (c : Co), ρ[i]? = some (Sl.ow c) → ∃ a : Addr, σ[i]? = some (some (V.ref a)) ∧ F a = none ∧ ¬ M.foot μ a ∧ CoAt F H a c
  ap : ∀ (i j : Nat) (c e : Co) (a : Addr), ρ[i]? = some (Sl.ow c) → ρ[j]? = some (Sl.ow e) → σ[i]? = some (some (V.ref a)) → σ[j]? = some (some (V.ref a)) → i = j
  len : ρ.length = σ.length
theorem SlOk.own {M : MM} {F H : Hp} {μ : M.T} {ρ : En} {σ : St} (s : SlOk M F H μ ρ σ) {b : Addr} (h : Own ρ σ b) : F b = none ∧ ¬ M.foot μ b ∧ ∃ o, H b = some o := by
  obtain ⟨i, c, h1, h2⟩ := h
  obtain ⟨a, h3, h4, h5, h6⟩ := s.ow i c h1
  rw [h2] at h3
  cases h3
  exact ⟨h4, h5, h6.there⟩
theorem SlOk.ev {M : MM} {F H F' H' : Hp} {μ μ' : M.T} {ρ : En} {σ : St} (s : SlOk M F H μ ρ σ) (e : Ev F H (M.foot μ) F' H' (M.foot μ')) : SlOk M F' H' μ' ρ σ where
  fz := fun i d h => by
    obtain ⟨v, h1, h2⟩ := s.fz i d h
    exact ⟨v, h1, h2.mono e.fr⟩
  ow := fun i c h => by
    obtain ⟨a, h1, h2, h3, h4⟩ := s.ow i c h
    obtain ⟨o, ho⟩ := h4.there
    refine ⟨a, h1, by rw [e.nw a o ho h3 (h4.nt ho)]; exact h2, fun q => ?_, h4.mono e.fr (by rw [e.kp a o ho h3, ho])⟩
    rcases e.ft a q with z | z
    · exact h3 z
    · rw [ho] at z; cases z
  ap := s.ap
  len := s.len
end DL

set_option Elab.async false
set_option linter.all false
set_option maxRecDepth 100000
set_option maxHeartbeats 4000000
/-! part DLb -/
namespace DL
open PySem PySem.Spec L2

/-- what a body's context is known by -/
structure Ctx where
  P : Program
  w : World
  K : PySem.W.Frag
  mg : Str → Option Value
  base : Heap
  N : List Str
  sc : Scope
  os : Scope
  k : Nat
  M : MM
  W : WX
structure Ctx.In (c : Ctx) (X : Cx) : Prop where
  hP : X.prog = c.P
  hw : X.w = c.w
  hK : X.K = c.K
  hmg : X.mg = c.mg
  hb : X.base = c.base
  hN : X.N = c.N
  nd : c.N.Nodup
  hsc : X.env.scope = c.sc
  cl : X.calm = true
  rm : Room c.k X.A
  fn : ∀ x, Loc c.os x → Loc X.env.scope x ∧ (X.fn x = true ∨ X.env.scope.names.lookup x = some .local)
  pw : PassesOwn (model X.prog X.w) X.A X.env X.xe
  tk : Takes X c.W
abbrev Ctx.T (c : Ctx) : Type := c.M.T
abbrev Ctx.ft (c : Ctx) (μ : c.T) : Addr → Prop := c.M.foot μ
abbrev Pre (c : Ctx) : Type := Hp → Hp → c.T → Prop
def Stab (c : Ctx) (P : Pre c) : Prop := ∀ F H μ F' H' μ', Ev F H (c.ft μ) F' H' (c.ft μ') → P F H μ → P F' H' μ'
theorem Stab.true {c : Ctx} : Stab c fun _ _ _ => True := fun _ _ _ _ _ _ _ h => h
theorem Stab.and {c : Ctx} {P Q : Pre c} (p : Stab c P) (q : Stab c Q) : Stab c fun F H μ => P F H μ ∧ Q F H μ := fun _ _ _ _ _ _ e h => ⟨p _ _ _ _ _ _ e h.1, q _ _ _ _ _ _ e h.2⟩
theorem Stab.rep {c : Ctx} {v : V} {d : D} : Stab c fun F _ _ => Rep F v d := fun _ _ _ _ _ _ e h => h.mono e.fr
theorem Stab.repL {c : Ctx} {v : List V} {d : List D} : Stab c fun F _ _ => RepL F v d := fun _ _ _ _ _ _ e h => h.mono e.fr

/-- data-level meaning of an expression: slots, memory, what is wanted of the value, of an exception -/
abbrev DE (c : Ctx) (α : Type) := En → c.T → (α → c.T → Prop) → (c.M.Er → c.T → Prop) → Prop
/-- how what comes lies: the heap ahead, then F, H, μ behind -/
abbrev Rl (c : Ctx) (β α : Type) := Hp → Hp → Hp → c.T → β → α → Prop
def SndG (c : Ctx) {β α : Type} (P : Pre c) (R : Rl c β α) (t : L2.St → Hp → (β → Hp → Prop) → Prop) (f : DE c α) : Prop :=
  ∀ (F H : Hp) (μ : c.T) (ρ : En) (σ : L2.St) (Q : α → c.T → Prop) (E : c.M.Er → c.T → Prop) (Qh : β → Hp → Prop),
    MOk c.M F H μ → SlOk c.M F H μ ρ σ → P F H μ → f ρ μ Q E →
    (∀ v d F' H' μ', Ev F H (c.ft μ) F' H' (c.ft μ') → MOk c.M F' H' μ' → R H F' H' μ' v d → Q d μ' → Qh v H') →
    (∀ e F' H' μ' cls dd, Ev F H (c.ft μ) F' H' (c.ft μ') → MOk c.M F' H' μ' → E e μ' → c.M.ex e cls dd H' → c.W cls dd σ H') →
    t σ H Qh
theorem SndG.weak {c : Ctx} {β α : Type} {P P' : Pre c} {R : Rl c β α} {t : L2.St → Hp → (β → Hp → Prop) → Prop} {f : DE c α} (h : SndG c P R t f) (hp : ∀ F H μ, P' F H μ → P F H μ) : SndG c P' R t f :=
  fun F H μ ρ σ Q E Qh m s p => h F H μ ρ σ Q E Qh m s (hp _ _ _ p)
/-- the heap ahead does not matter, or only by what is free in it -/
def Back (c : Ctx) {β α : Type} (R : Rl c β α) : Prop := ∀ F H μ F1 H1 μ1 F2 H2 μ2 v d, Ev F H (c.ft μ) F1 H1 (c.ft μ1) → R H1 F2 H2 μ2 v d → R H F2 H2 μ2 v d
def bindE {c : Ctx} {α α' : Type} (fa : DE c α) (fb : α → DE c α') : DE c α' := fun ρ μ Q E => fa ρ μ (fun d μ1 => fb d ρ μ1 Q E) E
theorem SndG.bind {c : Ctx} {β α β' α' : Type} {P : Pre c} {Ra : Rl c β α} {R : Rl c β' α'} {ta : L2.St → Hp → (β → Hp → Prop) → Prop} {fa : DE c α} {tb : β → L2.St → Hp → (β' → Hp → Prop) → Prop} {fb : α → DE c α'}
    (S : β → α → Pre c) (hS : ∀ H0 F H μ x d, Ra H0 F H μ x d → S x d F H μ) (ha : SndG c (fun _ _ _ => True) Ra ta fa) (hP : Stab c P) (hR : Back c R)
    (hb : ∀ x d, SndG c (fun F H μ => P F H μ ∧ S x d F H μ) R (tb x) (fb d)) : SndG c P R (fun σ H Q => ta σ H fun x H1 => tb x σ H1 Q) (bindE fa fb) := by
  intro F H μ ρ σ Q E Qh m s p h kq ke
  refine ha F H μ ρ σ _ E _ m s trivial h (fun x d F1 H1 μ1 e1 m1 r q => ?_) ke
  refine hb x d F1 H1 μ1 ρ σ Q E Qh m1 (s.ev e1) ⟨hP _ _ _ _ _ _ e1 p, hS _ _ _ _ _ _ r⟩ q (fun v d' F2 H2 μ2 e2 m2 r2 q2 => kq v d' F2 H2 μ2 (e1.trans e2) m2 (hR _ _ _ _ _ _ _ _ _ _ _ e1 r2) q2) fun e F2 H2 μ2 cls dd e2 m2 q2 x2 => ke e F2 H2 μ2 cls dd (e1.trans e2) m2 q2 x2

/-! part DLb -/
abbrev RD (c : Ctx) : Rl c V D := fun _ F _ _ v d => Rep F v d
abbrev RB (c : Ctx) : Rl c Bool Bool := fun _ _ _ _ v d => v = d
abbrev RA (c : Ctx) : Rl c (List V) (List D) := fun _ F _ _ v d => RepL F v d
abbrev RI (c : Ctx) : Rl c (Option Int) (Option Int) := fun _ _ _ _ v d => v = d
/-- a container of one's own, just made -/
def RO (c : Ctx) : Rl c V Co := fun H0 F H μ v co => ∃ a, v = .ref a ∧ H0 a = none ∧ F a = none ∧ ¬ c.ft μ a ∧ CoAt F H a co
theorem back_D {c : Ctx} : Back c (RD c) := fun _ _ _ _ _ _ _ _ _ _ _ _ h => h
theorem back_B {c : Ctx} : Back c (RB c) := fun _ _ _ _ _ _ _ _ _ _ _ _ h => h
theorem back_A {c : Ctx} : Back c (RA c) := fun _ _ _ _ _ _ _ _ _ _ _ _ h => h
theorem back_I {c : Ctx} : Back c (RI c) := fun _ _ _ _ _ _ _ _ _ _ _ _ h => h
theorem back_O {c : Ctx} : Back c (RO c) := fun F H μ F1 H1 μ1 F2 H2 μ2 v d e ⟨a, h1, h2, h3⟩ => by
  have h4 : H a = none := by
    cases q : H a with
    | none => rfl
    | some o =>
      obtain ⟨o', z⟩ := e.tr a o q
      rw [z] at h2; cases h2
  exact ⟨a, h1, h4, h3⟩

/-! part DLb -/
def PD (c : Ctx) (e : Expr) (f : DE c D) : Prop := ∃ t : TE, (∀ X, c.In X → PE X e t) ∧ SndG c (fun _ _ _ => True) (RD c) t f
def PB (c : Ctx) (e : Expr) (f : DE c Bool) : Prop := ∃ t : TT, (∀ X, c.In X → PT X e t) ∧ SndG c (fun _ _ _ => True) (RB c) t f
def PBw (c : Ctx) (e : Expr) (f : DE c Bool) : Prop := ∃ t : TT, (∀ X, c.In X → PW X e t) ∧ SndG c (fun _ _ _ => True) (RB c) t f
def PAs (c : Ctx) (es : List Expr) (f : DE c (List D)) : Prop := ∃ t : TA, (∀ X, c.In X → PA X es t) ∧ SndG c (fun _ _ _ => True) (RA c) t f
def PN (c : Ctx) (e : Expr) (f : DE c Co) : Prop := ∃ t : TE, (∀ X, c.In X → PE X e t) ∧ SndG c (fun _ _ _ => True) (RO c) t f
def POp (c : Ctx) (e : Option Expr) (f : DE c (Option Int)) : Prop := ∃ t : TO, (∀ X, c.In X → PO X e t) ∧ SndG c (fun _ _ _ => True) (RI c) t f

/-! part DLb -/
theorem MOk.cong {M : MM} {F H : Hp} {μ : M.T} {a : Addr} {o : HO} (m : MOk M F H μ) (ha : F a = none) (hn : ¬ M.foot μ a) (h : H a = some o) : MOk M (upd F a o) H μ where
  fh := fun b u e => by
    by_cases q : b = a
    · subst q; rw [upd_same] at e; cases e; exact h
    · rw [upd_ne q] at e; exact m.fh b u e
  ok := m.ok
  nf := fun b hb => by
    have : b ≠ a := fun z => by subst z; exact hn hb
    rw [upd_ne this]; exact m.nf b hb
/-- a list just made is data -/
theorem PN.pd {c : Ctx} {e : Expr} {f : DE c Co} (h : PN c e f) : PD c e (fun ρ μ Q E => f ρ μ (fun co μ' => ∃ ds, co = .lst ds ∧ Q (.lst ds) μ') E) := by
  obtain ⟨t, h1, h2⟩ := h
  refine ⟨t, h1, fun F H μ ρ σ Q E Qh m s p hf kq ke => h2 F H μ ρ σ _ E Qh m s trivial hf (fun v co F1 H1 μ1 e1 m1 r q => ?_) ke⟩
  obtain ⟨ds, rfl, q⟩ := q
  obtain ⟨a, rfl, h3, h4, h5, vs, h6, h7⟩ := r
  have ss : Same F1 (upd F1 a (.lst vs)) := fun b u z => by rw [upd_ne (ne_of_none z h4)]; exact z
  refine kq _ _ (upd F1 a (.lst vs)) H1 μ1 ⟨e1.fr.trans ss, fun b o z n nt => ?_, e1.kp, e1.ft, e1.tr⟩ (m1.cong h4 h5 h6) (.lst upd_same (h7.mono ss)) q
  rw [upd_ne (ne_of_none z h3)]
  exact e1.nw b o z n nt
end DL

set_option Elab.async false
set_option linter.all false
set_option maxRecDepth 100000
set_option maxHeartbeats 4000000
/-! part DLc -/
namespace DL
open PySem PySem.Spec L2
variable {c : Ctx}

def ret (o : Option D) : DE c D := fun _ μ Q _ => ∃ d, o = some d ∧ Q d μ
def retB (o : Option Bool) : DE c Bool := fun _ μ Q _ => ∃ d, o = some d ∧ Q d μ
def op2 (g : D → D → Option D) (fa fb : DE c D) : DE c D := bindE fa fun a => bindE fb fun b => ret (g a b)
def op1 (g : D → Option D) (fa : DE c D) : DE c D := bindE fa fun a => ret (g a)

/-- the end where nothing was made -/
theorem SndG.here {c : Ctx} {P : Pre c} {x : Hp → Hp → c.T → Prop} {t : L2.St → Hp → VK → Prop} {o : Option D}
    (h : ∀ F H μ d (Qh : VK), MOk c.M F H μ → P F H μ → o = some d → (∀ v F' H', Ev F H (c.ft μ) F' H' (c.ft μ) → MOk c.M F' H' μ → Rep F' v d → Qh v H') → ∀ σ, t σ H Qh) : SndG c P (RD c) t (ret o) :=
  fun F H μ ρ σ Q E Qh m s p hf kq ke => by
    obtain ⟨d, e, q⟩ := hf
    exact h F H μ d Qh m p e (fun v F' H' ev m' r => kq v d F' H' μ ev m' r q) σ
/-- what a rule by values must do -/
def R2S (c : Ctx) (r : R2) (g : D → D → Option D) : Prop := ∀ (F H : Hp) (μ : c.T) (x y : V) (a b d : D) (Qh : VK), MOk c.M F H μ → Rep F x a → Rep F y b → g a b = some d →
  (∀ v F' H', Ev F H (c.ft μ) F' H' (c.ft μ) → MOk c.M F' H' μ → Rep F' v d → Qh v H') → r x y H Qh
def R1S (c : Ctx) (r : V → Hp → VK → Prop) (g : D → Option D) : Prop := ∀ (F H : Hp) (μ : c.T) (x : V) (a d : D) (Qh : VK), MOk c.M F H μ → Rep F x a → g a = some d →
  (∀ v F' H', Ev F H (c.ft μ) F' H' (c.ft μ) → MOk c.M F' H' μ → Rep F' v d → Qh v H') → r x H Qh
theorem snd_op2 {ta tb : TE} {fa fb : DE c D} {r : R2} {g : D → D → Option D} (hs : R2S c r g) (ha : SndG c (fun _ _ _ => True) (RD c) ta fa) (hb : SndG c (fun _ _ _ => True) (RD c) tb fb) : SndG c (fun _ _ _ => True) (RD c) (tOp r ta tb) (op2 g fa fb) := by
  refine SndG.bind (tb := fun x σ H Q => tb σ H fun y H2 => r x y H2 Q) (fb := fun a => bindE fb fun b => ret (g a b)) (fun x d F _ _ => Rep F x d) (fun _ _ _ _ _ _ h => h) ha Stab.true back_D fun x a => ?_
  refine SndG.bind (tb := fun y σ H Q => r x y H Q) (fb := fun b => ret (g a b)) (fun y b F _ _ => Rep F y b) (fun _ _ _ _ _ _ h => h) hb (Stab.true.and Stab.rep) back_D fun y b => ?_
  exact SndG.here (x := fun _ _ _ => True) fun F H μ d Qh m p e k σ => hs F H μ x y a b d Qh m p.1.2 p.2 e k
theorem snd_op1 {ta : TE} {fa : DE c D} {r : V → Hp → VK → Prop} {g : D → Option D} (hs : R1S c r g) (ha : SndG c (fun _ _ _ => True) (RD c) ta fa) : SndG c (fun _ _ _ => True) (RD c) (fun σ H Q => ta σ H fun x H1 => r x H1 Q) (op1 g fa) := by
  refine SndG.bind (tb := fun x σ H Q => r x H Q) (fb := fun a => ret (g a)) (fun x d F _ _ => Rep F x d) (fun _ _ _ _ _ _ h => h) ha Stab.true back_D fun x a => ?_
  exact SndG.here (x := fun _ _ _ => True) fun F H μ d Qh m p e k σ => hs F H μ x a d Qh m p.2 e k
/-- handing on a value as it is -/
theorem keep {F H : Hp} {μ : c.T} {v : V} {d : D} {Qh : VK} (m : MOk c.M F H μ) (r : Rep F v d) (k : ∀ v F' H', Ev F H (c.ft μ) F' H' (c.ft μ) → MOk c.M F' H' μ → Rep F' v d → Qh v H') : Qh v H := k v F H (Ev.refl _ _ _) m r
/-- a new tuple -/
theorem newT {F H : Hp} {μ : c.T} {vs : List V} {ds : List D} {Qh : VK} (m : MOk c.M F H μ) (r : RepL F vs ds) (k : ∀ v F' H', Ev F H (c.ft μ) F' H' (c.ft μ) → MOk c.M F' H' μ → Rep F' v (.tup ds) → Qh v H') : ∀ p, H p = none → Qh (.ref p) (upd H p (.tup vs)) := fun p hp => by
  have e : Ev F H (c.ft μ) (upd F p (.tup vs)) (upd H p (.tup vs)) (c.ft μ) := Ev.freeze hp m.fh
  exact k _ _ _ e (m.freeze hp) (.tup upd_same (r.mono e.fr))
/-- a new list, at once data -/
theorem newL {F H : Hp} {μ : c.T} {vs : List V} {ds : List D} {Qh : VK} (m : MOk c.M F H μ) (r : RepL F vs ds) (k : ∀ v F' H', Ev F H (c.ft μ) F' H' (c.ft μ) → MOk c.M F' H' μ → Rep F' v (.lst ds) → Qh v H') : ∀ p, H p = none → Qh (.ref p) (upd H p (.lst vs)) := fun p hp => by
  have e : Ev F H (c.ft μ) (upd F p (.lst vs)) (upd H p (.lst vs)) (c.ft μ) := Ev.freeze hp m.fh
  exact k _ _ _ e (m.freeze hp) (.lst upd_same (r.mono e.fr))

/-! part DLc -/
theorem Ctx.In.vis {X : Cx} (h : c.In X) {x : Str} (v : Vis c.sc x) : Vis X.env.scope x := by rw [h.hsc]; exact v
def Glb (c : Ctx) (x : Str) : Prop := c.sc.names.lookup x = some .globalImplicit
theorem Ctx.In.gl {X : Cx} (h : c.In X) {x : Str} (v : Glb c x) : Gl X x := by
  show X.env.scope.names.lookup x = _
  rw [h.hsc]; exact v
theorem Ctx.In.mgn {X : Cx} (h : c.In X) {x : Str} {o : Option Value} (v : c.mg x = o) : X.mg x = o := by rw [h.hmg]; exact v
theorem Ctx.In.nx {X : Cx} (h : c.In X) {i : Nat} {x : Str} (v : c.N[i]? = some x) : X.N[i]? = some x := by rw [h.hN]; exact v
theorem Ctx.In.ndX {X : Cx} (h : c.In X) : X.N.Nodup := by rw [h.hN]; exact h.nd
theorem Ctx.In.hu {X : Cx} (h : c.In X) : X.A.units + 64 < cLine := h.rm.units
theorem Ctx.In.hu1 {X : Cx} (h : c.In X) : X.A.units + 1 < cLine := hu_of h.rm
theorem Ctx.In.hu65 {X : Cx} (h : c.In X) : X.A.units + 65 < cLine := by have := h.rm.un; omega

/-! part DLc -/
def var (i : Nat) : DE c D := fun ρ μ Q _ => ∃ d, ρ[i]? = some (Sl.fz d) ∧ Q d μ
theorem pd_var (i : Nat) {x : Str} {pos : Pos} (hN : c.N[i]? = some x := by rfl) (hv : Vis c.sc x := by first | exact Or.inl rfl | exact Or.inr (Or.inl rfl) | exact Or.inr (Or.inr rfl)) (hd : (x == ("__debug__" : Str)) = false := by decide) (hcd : (x == ("__classdict__" : Str)) = false := by decide) : PD c (.Name x pos) (var i) := by
  refine ⟨tVar i, fun X h => pe_var (h.nx hN) (h.vis hv) hd hcd, fun F H μ ρ σ Q E Qh m s p hf kq ke => ?_⟩
  obtain ⟨d, e, q⟩ := hf
  obtain ⟨v, h1, h2⟩ := s.fz i d e
  exact ⟨v, h1, kq v d F H μ (Ev.refl _ _ _) m h2 q⟩
theorem snd_const {v : V} {d : D} (h : ∀ F, Rep F v d) : SndG c (fun _ _ _ => True) (RD c) (tC v) (ret (some d)) :=
  SndG.here (x := fun _ _ _ => True) fun F H μ d' Qh m _ e k σ => by cases e; exact keep m (h F) k
theorem pd_int {i j pos} : PD c (.Constant (.int i) j pos) (ret (some (.int i))) := ⟨_, fun _ _ => pe_int, snd_const fun _ => .int i⟩
theorem pd_bl {b j pos} : PD c (.Constant (.bool b) j pos) (ret (some (.bl b))) := ⟨_, fun _ _ => pe_bl, snd_const fun _ => .bl b⟩
theorem pd_non {j pos} : PD c (.Constant .none j pos) (ret (some .non)) := ⟨_, fun _ _ => pe_non, snd_const fun _ => .non⟩
theorem pd_str {x j pos} : PD c (.Constant (.str x) j pos) (ret (some (.str x))) := ⟨_, fun _ _ => pe_str, snd_const fun _ => .str x⟩
/-- a module's whole number -/
theorem pd_gint {x : Str} {i : Int} {pos : Pos} (hm : ∃ t, c.mg x = some (.int i t)) (hg : Glb c x := by rfl) (hd : (x == ("__debug__" : Str)) = false := by decide) : PD c (.Name x pos) (ret (some (.int i))) := by
  obtain ⟨t, hm⟩ := hm
  exact ⟨_, fun X h => pe_glob (v := .int i) (h.gl hg) (h.mgn hm) ⟨t, rfl⟩ hd, snd_const fun _ => .int i⟩

/-! part DLc -/
theorem pd_bin {op : Operator} {r : Cx → R2} {r' : R2} {g : D → D → Option D} {a b : Expr} {fa fb : DE c D} {pos : Pos} (ho : ∀ X, c.In X → OpR X (binaryOp op) r') (hs : R2S c r' g) (ha : PD c a fa) (hb : PD c b fb) : PD c (.BinOp a op b pos) (op2 g fa fb) := by
  obtain ⟨ta, a1, a2⟩ := ha
  obtain ⟨tb, b1, b2⟩ := hb
  exact ⟨_, fun X h => pe_op (ho X h) (a1 X h) (b1 X h), snd_op2 hs a2 b2⟩
theorem pd_cmp {op : CmpOp} {r' : R2} {g : D → D → Option D} {a b : Expr} {fa fb : DE c D} {pos : Pos} (ho : ∀ X, c.In X → OpR X (compareOp op) r') (hs : R2S c r' g) (ha : PD c a fa) (hb : PD c b fb) (hm : behindInMarks op b = false) : PD c (.Compare a [op] [b] pos) (op2 g fa fb) := by
  obtain ⟨ta, a1, a2⟩ := ha
  obtain ⟨tb, b1, b2⟩ := hb
  exact ⟨_, fun X h => pe_cmpR (ho X h) (a1 X h) (b1 X h) hm, snd_op2 hs a2 b2⟩
/-- what is true or false of ints -/
def intB (p : Int → Int → Bool) : D → D → Option D
  | .int i, .int j => some (.bl (p i j))
  | _, _ => none
def intI (C : Int → Int → Bool) (p : Int → Int → Int) : D → D → Option D
  | .int i, .int j => if C i j = true then some (.int (p i j)) else none
  | _, _ => none
theorem r2_intB {g : Int → Int → V} {p : Int → Int → Bool} (h : ∀ i j, g i j = .bl (p i j)) : R2S c (rI0 g) (intB p) := by
  intro F H μ x y a b d Qh m ra rb e k
  cases a <;> try (simp [intB] at e; done)
  cases b <;> try (simp [intB] at e; done)
  cases ra; cases rb
  cases e
  exact ⟨_, _, rfl, rfl, by rw [h]; exact keep m (.bl _) k⟩
theorem r2_intI {C : Int → Int → Prop} {C' : Int → Int → Bool} {g : Int → Int → V} {p : Int → Int → Int} (hc : ∀ i j, C' i j = true → C i j) (h : ∀ i j, C' i j = true → g i j = .int (p i j)) : R2S c (rI C g) (intI C' p) := by
  intro F H μ x y a b d Qh m ra rb e k
  cases a <;> try (simp [intI] at e; done)
  cases b <;> try (simp [intI] at e; done)
  cases ra; cases rb
  simp only [intI] at e
  split at e
  · rename_i hh
    cases e
    exact ⟨_, _, rfl, rfl, hc _ _ hh, by rw [h _ _ hh]; exact keep m (.int _) k⟩
  · cases e
theorem pd_lt {a b : Expr} {fa fb : DE c D} {pos} (ha : PD c a fa) (hb : PD c b fb) : PD c (.Compare a [.Lt] [b] pos) (op2 (intB fun i j => decide (i < j)) fa fb) := pd_cmp (fun _ _ => op_lt) (r2_intB fun _ _ => rfl) ha hb (nomark _)
theorem pd_le {a b : Expr} {fa fb : DE c D} {pos} (ha : PD c a fa) (hb : PD c b fb) : PD c (.Compare a [.LtE] [b] pos) (op2 (intB fun i j => decide (i ≤ j)) fa fb) := pd_cmp (fun _ _ => op_le) (r2_intB fun _ _ => rfl) ha hb (nomark _)
theorem pd_gt {a b : Expr} {fa fb : DE c D} {pos} (ha : PD c a fa) (hb : PD c b fb) : PD c (.Compare a [.Gt] [b] pos) (op2 (intB fun i j => decide (j < i)) fa fb) := pd_cmp (fun _ _ => op_gt) (r2_intB fun _ _ => rfl) ha hb (nomark _)
theorem pd_ge {a b : Expr} {fa fb : DE c D} {pos} (ha : PD c a fa) (hb : PD c b fb) : PD c (.Compare a [.GtE] [b] pos) (op2 (intB fun i j => decide (j ≤ i)) fa fb) := pd_cmp (fun _ _ => op_ge) (r2_intB fun _ _ => rfl) ha hb (nomark _)
def subD : D → D → Option D := intI (fun _ _ => true) fun i j => i - j
theorem r2_sub : R2S c (rI0 fun i j => .int (i - j)) subD := by
  intro F H μ x y a b d Qh m ra rb e k
  cases a <;> try (simp [subD, intI] at e; done)
  cases b <;> try (simp [subD, intI] at e; done)
  cases ra; cases rb
  simp [subD, intI] at e; subst e
  exact ⟨_, _, rfl, rfl, keep m (.int _) k⟩
theorem pd_sub {a b : Expr} {fa fb : DE c D} {pos} (ha : PD c a fa) (hb : PD c b fb) : PD c (.BinOp a .Sub b pos) (op2 subD fa fb) := pd_bin (r := fun _ => rI0 fun i j => .int (i - j)) (fun _ _ => op_sub) r2_sub ha hb
/-- |i| < b, by a test that the kernel never runs digit by digit -/
def smI (b : Nat) (i : Int) : Bool := Nat.ble (i.natAbs + 1) b
theorem smI_iff {b : Nat} {i : Int} : smI b i = true ↔ i.natAbs < b := by
  unfold smI
  rw [Nat.ble_eq]
  exact Iff.rfl
def mulD : D → D → Option D := intI (fun i j => smI 18446744073709551616 i || smI 18446744073709551616 j) fun i j => i * j
theorem pd_mul {a b : Expr} {fa fb : DE c D} {pos} (ha : PD c a fa) (hb : PD c b fb) : PD c (.BinOp a .Mult b pos) (op2 mulD fa fb) :=
  pd_bin (r := fun _ => rI CMul fun i j => .int (i * j)) (fun _ _ => op_mul) (r2_intI (fun i j h => by
    simp only [Bool.or_eq_true, smI_iff] at h
    show (-(2 ^ 64) < i ∧ i < 2 ^ 64) ∨ (-(2 ^ 64) < j ∧ j < 2 ^ 64)
    omega) fun _ _ _ => rfl) ha hb
def modD : D → D → Option D := intI (fun _ j => decide (0 < j)) fun i j => i % j
theorem pd_mod {a b : Expr} {fa fb : DE c D} {pos} (ha : PD c a fa) (hb : PD c b fb) : PD c (.BinOp a .Mod b pos) (op2 modD fa fb) :=
  pd_bin (r := fun _ => rI (fun _ j => 0 < j) fun i j => .int (i % j)) (fun _ _ => op_mod) (r2_intI (fun i j h => of_decide_eq_true h) fun _ _ _ => rfl) ha hb
def fdivD : D → D → Option D := intI (fun _ j => decide (0 < j) && smI 1073741824 j) fun i j => i / j
theorem pd_fdiv {a b : Expr} {fa fb : DE c D} {pos} (ha : PD c a fa) (hb : PD c b fb) : PD c (.BinOp a .FloorDiv b pos) (op2 fdivD fa fb) :=
  pd_bin (r := fun _ => rI CDiv fun i j => .int (i / j)) (fun _ _ => op_fdiv) (r2_intI (fun i j h => by
    simp only [Bool.and_eq_true, smI_iff, decide_eq_true_eq] at h
    show 0 < j ∧ j < 1073741824
    omega) fun _ _ _ => rfl) ha hb
def powD : D → D → Option D := intI (fun i j => decide (0 ≤ j) && smI 1000001 j && smI 18446744073709551616 i) fun i j => i ^ j.toNat
theorem pd_pow {a b : Expr} {fa fb : DE c D} {pos} (ha : PD c a fa) (hb : PD c b fb) : PD c (.BinOp a .Pow b pos) (op2 powD fa fb) :=
  pd_bin (r := fun _ => rI CPow fun i j => .int (i ^ j.toNat)) (fun _ _ => op_pow) (r2_intI (fun i j h => by
    simp only [Bool.and_eq_true, smI_iff, decide_eq_true_eq] at h
    show 0 ≤ j ∧ j ≤ 1000000 ∧ i.natAbs < 2 ^ 64
    omega) fun _ _ _ => rfl) ha hb
/-- + of ints, texts, lists, tuples -/
def addD : D → D → Option D
  | .int i, .int j => some (.int (i + j))
  | .str x, .str y => if x.length + y.length ≤ sizeLine then some (.str (x ++ y)) else none
  | .lst xs, .lst ys => if xs.length + ys.length ≤ sizeLine then some (.lst (xs ++ ys)) else none
  | .tup xs, .tup ys => if xs.length + ys.length ≤ sizeLine then some (.tup (xs ++ ys)) else none
  | _, _ => none
def rAddA (K : PySem.W.Frag) : R2 := fun x y H Q => (rI0 (fun i j => .int (i + j)) x y H Q ∨ (∃ i j, x = .str i ∧ y = .str j ∧ i.length + j.length ≤ sizeLine ∧ Q (.str (i ++ j)) H)) ∨ (rCat x y H Q ∨ rCatA K x y H Q)
theorem op_addA {X : Cx} : OpR X (binaryOp .Add) (rAddA X.K) := (op_add.or op_add_str).or (op_cat.or op_catA)
theorem r2_add {K : PySem.W.Frag} : R2S c (rAddA K) addD := by
  intro F H μ x y a b d Qh m ra rb e k
  cases ra with
  | int i =>
    cases rb <;> try (simp [addD] at e; done)
    cases e
    exact .inl (.inl ⟨_, _, rfl, rfl, keep m (.int _) k⟩)
  | str i =>
    cases rb <;> try (simp [addD] at e; done)
    simp only [addD] at e
    split at e
    · rename_i hh
      cases e
      exact .inl (.inr ⟨_, _, rfl, rfl, hh, keep m (.str _) k⟩)
    · cases e
  | lst h1 r1 =>
    cases rb <;> try (simp [addD] at e; done)
    rename_i h2 r2
    simp only [addD] at e
    split at e
    · rename_i hh
      cases e
      exact .inr (.inl ⟨_, _, _, _, rfl, rfl, m.fh _ _ h1, m.fh _ _ h2, by rw [r1.length, r2.length]; exact hh, newL m (r1.append r2) k⟩)
    · cases e
  | tup h1 r1 =>
    cases rb <;> try (simp [addD] at e; done)
    rename_i h2 r2
    simp only [addD] at e
    split at e
    · rename_i hh
      cases e
      refine .inr (.inr ⟨_, _, _, _, rfl, rfl, SqT.of (m.fh _ _ h1), SqT.of (m.fh _ _ h2), by rw [r1.length, r2.length]; exact hh, fun e0 => ?_, fun _ e0 => ?_, fun _ _ => newT m (r1.append r2) k⟩)
      · subst e0
        cases r1
        exact keep m (.tup h2 r2) k
      · subst e0
        cases r2
        refine keep m ?_ k
        rw [List.append_nil]
        exact .tup h1 r1
    · cases e
  | _ => simp [addD] at e
theorem pd_add {a b : Expr} {fa fb : DE c D} {pos} (ha : PD c a fa) (hb : PD c b fb) : PD c (.BinOp a .Add b pos) (op2 addD fa fb) :=
  pd_bin (r := fun _ => rAddA c.K) (r' := rAddA c.K) (fun X h => by rw [← h.hK]; exact op_addA) r2_add ha hb

/-! part DLc -/
mutual
def D.py : D → PyData
  | .non => .none
  | .bl b => .bool b
  | .int i => .int i
  | .str x => .str x
  | .tup xs => .tuple (D.pys xs)
  | .lst xs => .list (D.pys xs)
  | .dK _ => .dict []
  | .dT _ => .dict []
  | .ob _ => .dict []
def D.pys : List D → List PyData
  | [] => []
  | x :: xs => x.py :: D.pys xs
end
mutual
def D.flat : D → Bool
  | .tup xs => D.flats xs
  | .lst xs => D.flats xs
  | .dK _ => false
  | .dT _ => false
  | .ob _ => false
  | _ => true
def D.flats : List D → Bool
  | [] => true
  | x :: xs => x.flat && D.flats xs
end
mutual
theorem Rep.dp {K : PySem.W.Frag} {F H : Hp} (fh : Same F H) : ∀ {v : V} {d : D}, Rep F v d → d.flat = true → Dp K H v d.py
  | _, _, .non, _ => .non
  | _, _, .bl b, _ => .bl b
  | _, _, .int i, _ => .int i
  | _, _, .str x, _ => .str x
  | _, .tup ds, .tup h r, f => by
    rw [D.py]
    exact .tup (SqT.of (fh _ _ h)) (RepL.dp fh r (by rw [D.flat] at f; exact f))
  | _, .lst ds, .lst h r, f => by
    rw [D.py]
    exact .lst (SqL.of (fh _ _ h)) (RepL.dp fh r (by rw [D.flat] at f; exact f))
  | _, _, .dK _, f => by rw [D.flat] at f; cases f
  | _, _, .dT _, f => by rw [D.flat] at f; cases f
  | _, _, .ob _, f => by rw [D.flat] at f; cases f
theorem RepL.dp {K : PySem.W.Frag} {F H : Hp} (fh : Same F H) : ∀ {vs : List V} {ds : List D}, RepL F vs ds → D.flats ds = true → DpAll K H vs (D.pys ds)
  | _, _, .nil, _ => by rw [D.pys]; exact .nil
  | _, d :: ds, .cons h r, f => by
    rw [D.flats] at f
    rw [D.pys]
    have f := Bool.and_eq_true_iff.mp f
    exact .cons (Rep.dp fh h f.1) (RepL.dp fh r f.2)
end
def eqOk (a b : D) : Bool := a.flat && b.flat && SeqAt.shaped a.py && SeqAt.shaped b.py
def eqD (a b : D) : Option D := if eqOk a b = true then some (.bl (PyData.eqv a.py b.py)) else none
def neD (a b : D) : Option D := if eqOk a b = true then some (.bl (!PyData.eqv a.py b.py)) else none
theorem eqOk_of {a b : D} (h : eqOk a b = true) : (a.flat = true ∧ b.flat = true) ∧ SeqAt.shaped a.py = true ∧ SeqAt.shaped b.py = true := by
  unfold eqOk at h
  simp only [Bool.and_eq_true] at h
  exact ⟨⟨h.1.1.1, h.1.1.2⟩, h.1.2, h.2⟩
theorem r2_eq {K : PySem.W.Frag} : R2S c (rEqD K) eqD := by
  intro F H μ x y a b d Qh m ra rb e k
  simp only [eqD] at e
  split at e
  · rename_i hh
    obtain ⟨⟨h1, h2⟩, h3, h4⟩ := eqOk_of hh
    cases e
    exact ⟨_, _, ra.dp m.fh h1, rb.dp m.fh h2, h3, h4, keep m (.bl _) k⟩
  · cases e
theorem r2_ne {K : PySem.W.Frag} : R2S c (rNeD K) neD := by
  intro F H μ x y a b d Qh m ra rb e k
  simp only [neD] at e
  split at e
  · rename_i hh
    obtain ⟨⟨h1, h2⟩, h3, h4⟩ := eqOk_of hh
    cases e
    exact ⟨_, _, ra.dp m.fh h1, rb.dp m.fh h2, h3, h4, keep m (.bl _) k⟩
  · cases e
theorem pd_eq {a b : Expr} {fa fb : DE c D} {pos} (ha : PD c a fa) (hb : PD c b fb) : PD c (.Compare a [.Eq] [b] pos) (op2 eqD fa fb) :=
  pd_cmp (r' := rEqD c.K) (fun X h => by rw [← h.hK]; exact op_eqD h.hu) (r2_eq (K := c.K)) ha hb (nomark _)
theorem pd_ne {a b : Expr} {fa fb : DE c D} {pos} (ha : PD c a fa) (hb : PD c b fb) : PD c (.Compare a [.NotEq] [b] pos) (op2 neD fa fb) :=
  pd_cmp (r' := rNeD c.K) (fun X h => by rw [← h.hK]; exact op_neD h.hu) (r2_ne (K := c.K)) ha hb (nomark _)

/-! part DLc -/
def isN : D → Bool
  | .non => true
  | _ => false
theorem isN_rep {F : Hp} {v : V} {d : D} (r : Rep F v d) : decide (v = .non) = isN d := by
  cases r <;> first | rfl | (simp [isN])
theorem pd_isN {a : Expr} {fa : DE c D} {j p pos} (ha : PD c a fa) : PD c (.Compare a [.Is] [.Constant .none j p] pos) (op1 (fun d => some (.bl (isN d))) fa) := by
  obtain ⟨ta, a1, a2⟩ := ha
  refine ⟨tIsN ta, fun X h => pe_cmp (pc_isN (a1 X h)) (nobehind _ (by decide) (by decide)), snd_op1 (r := fun x H Q => Q (.bl (decide (x = .non))) H) (fun F H μ x a d Qh m ra e k => ?_) a2⟩
  cases e
  show Qh _ _
  rw [isN_rep ra]
  exact keep m (.bl _) k
theorem pd_notN {a : Expr} {fa : DE c D} {j p pos} (ha : PD c a fa) : PD c (.Compare a [.IsNot] [.Constant .none j p] pos) (op1 (fun d => some (.bl (!isN d))) fa) := by
  obtain ⟨ta, a1, a2⟩ := ha
  refine ⟨tNotN ta, fun X h => pe_cmp (pc_notN (a1 X h)) (nobehind _ (by decide) (by decide)), snd_op1 (r := fun x H Q => Q (.bl (!decide (x = .non))) H) (fun F H μ x a d Qh m ra e k => ?_) a2⟩
  cases e
  show Qh _ _
  rw [isN_rep ra]
  exact keep m (.bl _) k
def isB : D → D → Option D
  | .bl a, .bl b => some (.bl (decide (a = b)))
  | _, _ => none
theorem pd_isB {a b : Expr} {fa fb : DE c D} {pos} (ha : PD c a fa) (hb : PD c b fb) : PD c (.Compare a [.Is] [b] pos) (op2 isB fa fb) := by
  refine pd_cmp (r' := rIsB) (fun X h => op_isBl) (fun F H μ x y a b d Qh m ra rb e k => ?_) ha hb (nomark _)
  cases ra <;> try (simp [isB] at e; done)
  cases rb <;> try (simp [isB] at e; done)
  cases e
  exact ⟨_, _, rfl, rfl, keep m (.bl _) k⟩
end DL

set_option Elab.async false
set_option linter.all false
set_option maxRecDepth 100000
set_option maxHeartbeats 4000000
/-! part DLd -/
namespace DL
open PySem PySem.Spec L2
variable {c : Ctx}

/-! part DLd -/
def andE (fa fb : DE c D) : DE c D := bindE fa fun a => fun ρ μ Q E => ∃ b, a = .bl b ∧ if b = true then fb ρ μ Q E else Q (.bl false) μ
def orE (fa fb : DE c D) : DE c D := bindE fa fun a => fun ρ μ Q E => ∃ b, a = .bl b ∧ if b = true then Q (.bl true) μ else fb ρ μ Q E
def notD : D → Option D
  | .bl b => some (.bl (!b))
  | _ => none
theorem rep_bl {F : Hp} {v : V} {b : Bool} (r : Rep F v (.bl b)) : v = .bl b := by cases r; rfl
theorem pd_and {a b : Expr} {rest : List Expr} {fa fb : DE c D} {pos} (ha : PD c a fa) (hb : PD c (.BoolOp .And (b :: rest) pos) fb) : PD c (.BoolOp .And (a :: b :: rest) pos) (andE fa fb) := by
  obtain ⟨ta, a1, a2⟩ := ha
  obtain ⟨tb, b1, b2⟩ := hb
  refine ⟨tAndV ta tb, fun X h => pe_and (a1 X h) (b1 X h), ?_⟩
  refine SndG.bind (tb := fun x σ H Q => ∃ c, x = .bl c ∧ if c = true then tb σ H Q else Q (.bl false) H) (fb := fun a => fun ρ μ Q E => ∃ b, a = .bl b ∧ if b = true then fb ρ μ Q E else Q (.bl false) μ) (fun x d F _ _ => Rep F x d) (fun _ _ _ _ _ _ h => h) a2 Stab.true back_D fun x a => ?_
  intro F H μ ρ σ Q E Qh m s p hf kq ke
  obtain ⟨k, rfl, hf⟩ := hf
  refine ⟨k, rep_bl p.2, ?_⟩
  cases k with
  | true => exact b2 F H μ ρ σ Q E Qh m s trivial hf kq ke
  | false => exact kq _ _ F H μ (Ev.refl _ _ _) m (.bl false) hf
theorem pd_or {a b : Expr} {rest : List Expr} {fa fb : DE c D} {pos} (ha : PD c a fa) (hb : PD c (.BoolOp .Or (b :: rest) pos) fb) : PD c (.BoolOp .Or (a :: b :: rest) pos) (orE fa fb) := by
  obtain ⟨ta, a1, a2⟩ := ha
  obtain ⟨tb, b1, b2⟩ := hb
  refine ⟨tOrV ta tb, fun X h => pe_or (a1 X h) (b1 X h), ?_⟩
  refine SndG.bind (tb := fun x σ H Q => ∃ c, x = .bl c ∧ if c = true then Q (.bl true) H else tb σ H Q) (fb := fun a => fun ρ μ Q E => ∃ b, a = .bl b ∧ if b = true then Q (.bl true) μ else fb ρ μ Q E) (fun x d F _ _ => Rep F x d) (fun _ _ _ _ _ _ h => h) a2 Stab.true back_D fun x a => ?_
  intro F H μ ρ σ Q E Qh m s p hf kq ke
  obtain ⟨k, rfl, hf⟩ := hf
  refine ⟨k, rep_bl p.2, ?_⟩
  cases k with
  | false => exact b2 F H μ ρ σ Q E Qh m s trivial hf kq ke
  | true => exact kq _ _ F H μ (Ev.refl _ _ _) m (.bl true) hf
theorem pd_one {op} {a : Expr} {fa : DE c D} {pos} (ha : PD c a fa) : PD c (.BoolOp op [a] pos) fa := by
  obtain ⟨ta, a1, a2⟩ := ha
  exact ⟨ta, fun X h => pe_one (a1 X h), a2⟩
theorem pd_not {a : Expr} {fa : DE c D} {pos} (ha : PD c a fa) : PD c (.UnaryOp .Not a pos) (op1 notD fa) := by
  obtain ⟨ta, a1, a2⟩ := ha
  refine ⟨tNotV ta, fun X h => pe_not (a1 X h), snd_op1 (r := fun x H Q => ∃ c, x = .bl c ∧ Q (.bl (!c)) H) (fun F H μ x a d Qh m ra e k => ?_) a2⟩
  cases a <;> try (simp [notD] at e; done)
  cases e
  exact ⟨_, rep_bl ra, keep m (.bl _) k⟩
/-- a value that is True or False, as a test -/
def tst (fa : DE c D) : DE c Bool := bindE fa fun a => fun ρ μ Q E => ∃ b, a = .bl b ∧ Q b μ
theorem snd_tst {ta : TE} {fa : DE c D} (a2 : SndG c (fun _ _ _ => True) (RD c) ta fa) : SndG c (fun _ _ _ => True) (RB c) (tB ta) (tst fa) := by
  refine SndG.bind (tb := fun x σ H Q => ∃ c, x = .bl c ∧ Q c H) (fb := fun a => fun ρ μ Q E => ∃ b, a = .bl b ∧ Q b μ) (fun x d F _ _ => Rep F x d) (fun _ _ _ _ _ _ h => h) a2 Stab.true back_B fun x a => ?_
  intro F H μ ρ σ Q E Qh m s p hf kq ke
  obtain ⟨k, rfl, hf⟩ := hf
  exact ⟨k, rep_bl p.2, kq _ _ F H μ (Ev.refl _ _ _) m rfl hf⟩
theorem pb_val {a : Expr} {fa : DE c D} (ha : PD c a fa) (he : ∀ env whole, isTrue a env whole = (do let v ← whole; standAt a.pos; holding [v] (truthy v)) := by intro _ _; rfl) : PB c a (tst fa) := by
  obtain ⟨ta, a1, a2⟩ := ha
  exact ⟨tB ta, fun X h => pt_val (a1 X h) (he _), snd_tst a2⟩
theorem pb_cmp {op : CmpOp} {r' : R2} {g : D → D → Option D} {a b : Expr} {fa fb : DE c D} {pos : Pos} (ho : ∀ X, c.In X → OpR X (compareOp op) r') (hs : R2S c r' g) (ha : PD c a fa) (hb : PD c b fb) (hm : behindInMarks op b = false) : PB c (.Compare a [op] [b] pos) (tst (op2 g fa fb)) := by
  obtain ⟨ta, a1, a2⟩ := ha
  obtain ⟨tb, b1, b2⟩ := hb
  exact ⟨_, fun X h => pt_cmpR (ho X h) (a1 X h) (b1 X h) hm, snd_tst (snd_op2 hs a2 b2)⟩
theorem pb_lt {a b : Expr} {fa fb : DE c D} {pos} (ha : PD c a fa) (hb : PD c b fb) : PB c (.Compare a [.Lt] [b] pos) (tst (op2 (intB fun i j => decide (i < j)) fa fb)) := pb_cmp (fun _ _ => op_lt) (r2_intB fun _ _ => rfl) ha hb (nomark _)
theorem pb_le {a b : Expr} {fa fb : DE c D} {pos} (ha : PD c a fa) (hb : PD c b fb) : PB c (.Compare a [.LtE] [b] pos) (tst (op2 (intB fun i j => decide (i ≤ j)) fa fb)) := pb_cmp (fun _ _ => op_le) (r2_intB fun _ _ => rfl) ha hb (nomark _)
theorem pb_gt {a b : Expr} {fa fb : DE c D} {pos} (ha : PD c a fa) (hb : PD c b fb) : PB c (.Compare a [.Gt] [b] pos) (tst (op2 (intB fun i j => decide (j < i)) fa fb)) := pb_cmp (fun _ _ => op_gt) (r2_intB fun _ _ => rfl) ha hb (nomark _)
theorem pb_ge {a b : Expr} {fa fb : DE c D} {pos} (ha : PD c a fa) (hb : PD c b fb) : PB c (.Compare a [.GtE] [b] pos) (tst (op2 (intB fun i j => decide (j ≤ i)) fa fb)) := pb_cmp (fun _ _ => op_ge) (r2_intB fun _ _ => rfl) ha hb (nomark _)
theorem pb_eq {a b : Expr} {fa fb : DE c D} {pos} (ha : PD c a fa) (hb : PD c b fb) : PB c (.Compare a [.Eq] [b] pos) (tst (op2 eqD fa fb)) :=
  pb_cmp (r' := rEqD c.K) (fun X h => by rw [← h.hK]; exact op_eqD h.hu) (r2_eq (K := c.K)) ha hb (nomark _)
theorem pb_ne {a b : Expr} {fa fb : DE c D} {pos} (ha : PD c a fa) (hb : PD c b fb) : PB c (.Compare a [.NotEq] [b] pos) (tst (op2 neD fa fb)) :=
  pb_cmp (r' := rNeD c.K) (fun X h => by rw [← h.hK]; exact op_neD h.hu) (r2_ne (K := c.K)) ha hb (nomark _)
theorem pb_isN {a : Expr} {fa : DE c D} {j p pos} (ha : PD c a fa) : PB c (.Compare a [.Is] [.Constant .none j p] pos) (tst (op1 (fun d => some (.bl (isN d))) fa)) := by
  obtain ⟨ta, a1, a2⟩ := ha
  refine ⟨_, fun X h => pt_cmp (pc_isN (a1 X h)) (nobehind _ (by decide) (by decide)), snd_tst (snd_op1 (r := fun x H Q => Q (.bl (decide (x = .non))) H) (fun F H μ x a d Qh m ra e k => ?_) a2)⟩
  cases e
  show Qh _ _
  rw [isN_rep ra]
  exact keep m (.bl _) k
theorem pb_notN {a : Expr} {fa : DE c D} {j p pos} (ha : PD c a fa) : PB c (.Compare a [.IsNot] [.Constant .none j p] pos) (tst (op1 (fun d => some (.bl (!isN d))) fa)) := by
  obtain ⟨ta, a1, a2⟩ := ha
  refine ⟨_, fun X h => pt_cmp (pc_notN (a1 X h)) (nobehind _ (by decide) (by decide)), snd_tst (snd_op1 (r := fun x H Q => Q (.bl (!decide (x = .non))) H) (fun F H μ x a d Qh m ra e k => ?_) a2)⟩
  cases e
  show Qh _ _
  rw [isN_rep ra]
  exact keep m (.bl _) k
def andB (fa fb : DE c Bool) : DE c Bool := bindE fa fun b => fun ρ μ Q E => if b = true then fb ρ μ Q E else Q false μ
def orB (fa fb : DE c Bool) : DE c Bool := bindE fa fun b => fun ρ μ Q E => if b = true then Q true μ else fb ρ μ Q E
def notB (fa : DE c Bool) : DE c Bool := bindE fa fun b => fun ρ μ Q E => Q (!b) μ
theorem pbw_and1 {a : Expr} {fa : DE c Bool} {pos} (ha : PB c a fa) : PBw c (.BoolOp .And [a] pos) fa := by
  obtain ⟨ta, a1, a2⟩ := ha
  exact ⟨ta, fun X h => pw_and1 (a1 X h), a2⟩
theorem pbw_or1 {a : Expr} {fa : DE c Bool} {pos} (ha : PB c a fa) : PBw c (.BoolOp .Or [a] pos) fa := by
  obtain ⟨ta, a1, a2⟩ := ha
  exact ⟨ta, fun X h => pw_or1 (a1 X h), a2⟩
theorem PBw.pb {a : Expr} {fa : DE c Bool} (ha : PBw c a fa) : PB c a fa := by
  obtain ⟨ta, a1, a2⟩ := ha
  exact ⟨ta, fun X h => (a1 X h).pt, a2⟩
theorem pbw_and {a b : Expr} {rest : List Expr} {fa fb : DE c Bool} {pos} (ha : PB c a fa) (hb : PBw c (.BoolOp .And (b :: rest) pos) fb) : PBw c (.BoolOp .And (a :: b :: rest) pos) (andB fa fb) := by
  obtain ⟨ta, a1, a2⟩ := ha
  obtain ⟨tb, b1, b2⟩ := hb
  refine ⟨tAnd ta tb, fun X h => pw_and (a1 X h) (b1 X h), ?_⟩
  refine SndG.bind (tb := fun x σ H Q => if x = true then tb σ H Q else Q false H) (fb := fun b => fun ρ μ Q E => if b = true then fb ρ μ Q E else Q false μ) (fun x d _ _ _ => x = d) (fun _ _ _ _ _ _ h => h) a2 Stab.true back_B fun x a => ?_
  intro F H μ ρ σ Q E Qh m s p hf kq ke
  obtain ⟨_, rfl⟩ := p
  cases x with
  | true => exact b2 F H μ ρ σ Q E Qh m s trivial hf kq ke
  | false => exact kq _ _ F H μ (Ev.refl _ _ _) m rfl hf
theorem pbw_or {a b : Expr} {rest : List Expr} {fa fb : DE c Bool} {pos} (ha : PB c a fa) (hb : PBw c (.BoolOp .Or (b :: rest) pos) fb) : PBw c (.BoolOp .Or (a :: b :: rest) pos) (orB fa fb) := by
  obtain ⟨ta, a1, a2⟩ := ha
  obtain ⟨tb, b1, b2⟩ := hb
  refine ⟨tOr ta tb, fun X h => pw_or (a1 X h) (b1 X h), ?_⟩
  refine SndG.bind (tb := fun x σ H Q => if x = true then Q true H else tb σ H Q) (fb := fun b => fun ρ μ Q E => if b = true then Q true μ else fb ρ μ Q E) (fun x d _ _ _ => x = d) (fun _ _ _ _ _ _ h => h) a2 Stab.true back_B fun x a => ?_
  intro F H μ ρ σ Q E Qh m s p hf kq ke
  obtain ⟨_, rfl⟩ := p
  cases x with
  | false => exact b2 F H μ ρ σ Q E Qh m s trivial hf kq ke
  | true => exact kq _ _ F H μ (Ev.refl _ _ _) m rfl hf
theorem pb_not {a : Expr} {fa : DE c Bool} {pos} (ha : PB c a fa) : PB c (.UnaryOp .Not a pos) (notB fa) := by
  obtain ⟨ta, a1, a2⟩ := ha
  refine ⟨tNot ta, fun X h => pt_not (a1 X h), ?_⟩
  refine SndG.bind (tb := fun x σ H Q => Q (!x) H) (fb := fun b => fun ρ μ Q E => Q (!b) μ) (fun x d _ _ _ => x = d) (fun _ _ _ _ _ _ h => h) a2 Stab.true back_B fun x a => ?_
  intro F H μ ρ σ Q E Qh m s p hf kq ke
  obtain ⟨_, rfl⟩ := p
  exact kq _ _ F H μ (Ev.refl _ _ _) m rfl hf
def ifE (ft : DE c Bool) (fa fb : DE c D) : DE c D := bindE ft fun b => fun ρ μ Q E => if b = true then fa ρ μ Q E else fb ρ μ Q E
theorem pd_if {t a b : Expr} {ft : DE c Bool} {fa fb : DE c D} {pos} (ht : PB c t ft) (ha : PD c a fa) (hb : PD c b fb) : PD c (.IfExp t a b pos) (ifE ft fa fb) := by
  obtain ⟨tt, t1, t2⟩ := ht
  obtain ⟨ta, a1, a2⟩ := ha
  obtain ⟨tb, b1, b2⟩ := hb
  refine ⟨tIf tt ta tb, fun X h => pe_ifExp (t1 X h) (a1 X h) (b1 X h), ?_⟩
  refine SndG.bind (tb := fun x σ H Q => if x = true then ta σ H Q else tb σ H Q) (fb := fun b => fun ρ μ Q E => if b = true then fa ρ μ Q E else fb ρ μ Q E) (fun x d _ _ _ => x = d) (fun _ _ _ _ _ _ h => h) t2 Stab.true back_D fun x a => ?_
  intro F H μ ρ σ Q E Qh m s p hf kq ke
  obtain ⟨_, rfl⟩ := p
  cases x with
  | true => exact a2 F H μ ρ σ Q E Qh m s trivial hf kq ke
  | false => exact b2 F H μ ρ σ Q E Qh m s trivial hf kq ke
/-- a < b < c over ints -/
def chainE (g g' : D → D → Option D) (fa fb fc : DE c D) : DE c D := bindE fa fun a => bindE fb fun b => fun ρ μ Q E => ∃ k, g a b = some (.bl k) ∧ if k = true then fc ρ μ (fun z μ' => ∃ d, g' b z = some d ∧ Q d μ') E else Q (.bl false) μ
theorem snd_chain {ta tb tc : TE} {fa fb fc : DE c D} {r r' : R2} {g g' : D → D → Option D} (hs : R2S c r g) (hs' : R2S c r' g') (ha : SndG c (fun _ _ _ => True) (RD c) ta fa) (hb : SndG c (fun _ _ _ => True) (RD c) tb fb) (hc : SndG c (fun _ _ _ => True) (RD c) tc fc) :
    SndG c (fun _ _ _ => True) (RD c) (tChain r r' ta tb tc) (chainE g g' fa fb fc) := by
  refine SndG.bind (tb := fun x σ H Q => tb σ H fun y H2 => r x y H2 fun z H3 => ∃ k, z = .bl k ∧ if k = true then tc σ H3 (fun w H4 => r' y w H4 Q) else Q (.bl false) H3)
    (fb := fun a => bindE fb fun b => fun ρ μ Q E => ∃ k, g a b = some (.bl k) ∧ if k = true then fc ρ μ (fun z μ' => ∃ d, g' b z = some d ∧ Q d μ') E else Q (.bl false) μ) (fun x d F _ _ => Rep F x d) (fun _ _ _ _ _ _ h => h) ha Stab.true back_D fun x a => ?_
  refine SndG.bind (tb := fun y σ H Q => r x y H fun z H3 => ∃ k, z = .bl k ∧ if k = true then tc σ H3 (fun w H4 => r' y w H4 Q) else Q (.bl false) H3)
    (fb := fun b => fun ρ μ Q E => ∃ k, g a b = some (.bl k) ∧ if k = true then fc ρ μ (fun z μ' => ∃ d, g' b z = some d ∧ Q d μ') E else Q (.bl false) μ) (fun y b F _ _ => Rep F y b) (fun _ _ _ _ _ _ h => h) hb (Stab.true.and Stab.rep) back_D fun y b => ?_
  intro F H μ ρ σ Q E Qh m s p hf kq ke
  obtain ⟨k, hg, hf⟩ := hf
  refine hs F H μ x y a b (.bl k) _ m p.1.2 p.2 hg fun v F1 H1 e1 m1 r1 => ⟨k, rep_bl r1, ?_⟩
  cases k with
  | false => exact kq _ _ F1 H1 μ e1 m1 (.bl false) hf
  | true =>
    refine hc F1 H1 μ ρ σ _ E _ m1 (s.ev e1) trivial hf (fun w d F2 H2 μ2 e2 m2 r2 q2 => ?_) fun e F2 H2 μ2 cls dd e2 m2 q2 x2 => ke e F2 H2 μ2 cls dd (e1.trans e2) m2 q2 x2
    obtain ⟨d', hg', q⟩ := q2
    exact hs' F2 H2 μ2 y w b d d' _ m2 (p.2.mono (e1.trans e2).fr) r2 hg' fun v F3 H3 e3 m3 r3 => kq v d' F3 H3 μ2 ((e1.trans e2).trans e3) m3 r3 q
theorem pd_chain {op op' : CmpOp} {r r' : R2} {g g' : D → D → Option D} {a b d : Expr} {fa fb fd : DE c D} {pos : Pos} (ho : ∀ X, c.In X → OpR X (compareOp op) r) (ho' : ∀ X, c.In X → OpR X (compareOp op') r') (hs : R2S c r g) (hs' : R2S c r' g') (ha : PD c a fa) (hb : PD c b fb) (hd : PD c d fd)
    (hm : ∀ X, c.In X → ∀ ta tb tc, PE X a ta → PE X b tb → PE X d tc → PE X (.Compare a [op, op'] [b, d] pos) (tChain r r' ta tb tc)) : PD c (.Compare a [op, op'] [b, d] pos) (chainE g g' fa fb fd) := by
  obtain ⟨ta, a1, a2⟩ := ha
  obtain ⟨tb, b1, b2⟩ := hb
  obtain ⟨td, d1, d2⟩ := hd
  exact ⟨_, fun X h => hm X h ta tb td (a1 X h) (b1 X h) (d1 X h), snd_chain hs hs' a2 b2 d2⟩
abbrev leI : D → D → Option D := intB fun i j => decide (i ≤ j)
theorem pd_lele {a b d : Expr} {fa fb fd : DE c D} {pos : Pos} (ha : PD c a fa) (hb : PD c b fb) (hd : PD c d fd) : PD c (.Compare a [.LtE, .LtE] [b, d] pos) (chainE leI leI fa fb fd) :=
  pd_chain (r := rI0 fun i j => .bl (decide (i ≤ j))) (r' := rI0 fun i j => .bl (decide (i ≤ j))) (fun _ _ => op_le) (fun _ _ => op_le) (r2_intB fun _ _ => rfl) (r2_intB fun _ _ => rfl) ha hb hd fun X h ta tb tc h1 h2 h3 => pe_chain op_le op_le h1 h2 h3 (show lastMarks [.LtE, .LtE] [b, d] = false from nobehind d (by decide) (by decide))
/-- the same as a test -/
theorem pb_lele {a b d : Expr} {fa fb fd : DE c D} {pos : Pos} (ha : PD c a fa) (hb : PD c b fb) (hd : PD c d fd)
    (hm : ∀ X, c.In X → ∀ ta tb tc, PE X a ta → PE X b tb → PE X d tc → PT X (.Compare a [.LtE, .LtE] [b, d] pos) (tB (tChain (rI0 fun i j => .bl (decide (i ≤ j))) (rI0 fun i j => .bl (decide (i ≤ j))) ta tb tc)) := by intro X h ta tb tc h1 h2 h3; exact pt_chain op_le op_le h1 h2 h3 (show lastMarks [.LtE, .LtE] [_, _] = false from nobehind _ (by decide) (by decide))) : PB c (.Compare a [.LtE, .LtE] [b, d] pos) (tst (chainE leI leI fa fb fd)) := by
  obtain ⟨ta, a1, a2⟩ := ha
  obtain ⟨tb, b1, b2⟩ := hb
  obtain ⟨td, d1, d2⟩ := hd
  exact ⟨_, fun X h => hm X h ta tb td (a1 X h) (b1 X h) (d1 X h), snd_tst (snd_chain (r2_intB fun _ _ => rfl) (r2_intB fun _ _ => rfl) a2 b2 d2)⟩

/-! part DLd -/
def nilE : DE c (List D) := fun _ μ Q _ => Q [] μ
def consE (fa : DE c D) (fr : DE c (List D)) : DE c (List D) := bindE fa fun a => bindE fr fun r => fun _ μ Q _ => Q (a :: r) μ
theorem pas_nil : PAs c [] nilE := ⟨tNil, fun _ _ => pa_nil, fun F H μ ρ σ Q E Qh m s p hf kq ke => kq [] [] F H μ (Ev.refl _ _ _) m .nil hf⟩
theorem pas_cons {e : Expr} {es : List Expr} {fa : DE c D} {fr : DE c (List D)} (ha : PD c e fa) (hr : PAs c es fr) (hs : ∀ env, starEach (e :: es) env = (false, eval e env) :: starEach es env := by intro _; rfl) : PAs c (e :: es) (consE fa fr) := by
  obtain ⟨ta, a1, a2⟩ := ha
  obtain ⟨tr, r1, r2⟩ := hr
  refine ⟨tCons ta tr, fun X h => pa_cons (a1 X h) (r1 X h) (hs _), ?_⟩
  refine SndG.bind (tb := fun x σ H Q => tr σ H fun xs H2 => Q (x :: xs) H2) (fb := fun a => bindE fr fun r => fun _ μ Q _ => Q (a :: r) μ) (fun x d F _ _ => Rep F x d) (fun _ _ _ _ _ _ h => h) a2 Stab.true back_A fun x a => ?_
  refine SndG.bind (tb := fun xs σ H Q => Q (x :: xs) H) (fb := fun r => fun _ μ Q _ => Q (a :: r) μ) (fun y b F _ _ => RepL F y b) (fun _ _ _ _ _ _ h => h) r2 (Stab.true.and Stab.rep) back_A fun y b => ?_
  intro F H μ ρ σ Q E Qh m s p hf kq ke
  exact kq _ _ F H μ (Ev.refl _ _ _) m (.cons p.1.2 p.2) hf
def tupE (f : DE c (List D)) : DE c D := bindE f fun ds => fun _ μ Q _ => ds.length ≤ sizeLine ∧ Q (.tup ds) μ
theorem pd_tup {es : List Expr} {f : DE c (List D)} {x1 pos} (h : PAs c es f) : PD c (.Tuple es x1 pos) (tupE f) := by
  obtain ⟨t, h1, h2⟩ := h
  refine ⟨tTup t, fun X h => pe_tup (h1 X h), ?_⟩
  refine SndG.bind (tb := fun xs σ H Q => xs.length ≤ sizeLine ∧ ∀ p, H p = none → Q (.ref p) (upd H p (.tup xs))) (fb := fun ds => fun _ μ Q _ => ds.length ≤ sizeLine ∧ Q (.tup ds) μ) (fun y b F _ _ => RepL F y b) (fun _ _ _ _ _ _ h => h) h2 Stab.true back_D fun x a => ?_
  intro F H μ ρ σ Q E Qh m s p hf kq ke
  exact ⟨by rw [p.2.length]; exact hf.1, newT m p.2 fun v F' H' e m' r => kq v _ F' H' μ e m' r hf.2⟩
def lstE (f : DE c (List D)) : DE c Co := bindE f fun ds => fun _ μ Q _ => ds.length ≤ sizeLine ∧ Q (.lst ds) μ
theorem fresh_O {F H : Hp} {μ : c.T} {p : Addr} (m : MOk c.M F H μ) (hp : H p = none) : F p = none ∧ ¬ c.ft μ p := ⟨m.fh.free hp, fun q => by
  obtain ⟨o, z⟩ := c.M.there m.ok q
  rw [hp] at z; cases z⟩
theorem pn_lst {es : List Expr} {f : DE c (List D)} {pos} (h : PAs c es f) : PN c (.List es pos) (lstE f) := by
  obtain ⟨t, h1, h2⟩ := h
  refine ⟨tLst t, fun X h => pe_lst (h1 X h), ?_⟩
  refine SndG.bind (tb := fun xs σ H Q => xs.length ≤ sizeLine ∧ ∀ p, H p = none → Q (.ref p) (upd H p (.lst xs))) (fb := fun ds => fun _ μ Q _ => ds.length ≤ sizeLine ∧ Q (.lst ds) μ) (fun y b F _ _ => RepL F y b) (fun _ _ _ _ _ _ h => h) h2 Stab.true back_O fun x a => ?_
  intro F H μ ρ σ Q E Qh m s p hf kq ke
  refine ⟨by rw [p.2.length]; exact hf.1, fun q hq => ?_⟩
  obtain ⟨f1, f2⟩ := fresh_O m hq
  exact kq _ (.lst a) F _ μ (Ev.fresh hq) (m.fresh hq) ⟨q, rfl, hq, f1, f2, x, upd_same, p.2⟩ hf.2
theorem pn_dK {pos} : PN c (.Dict [] [] pos) (fun _ μ Q _ => Q (.dK []) μ) :=
  ⟨tDNewK, fun _ _ => pe_dnewK, fun F H μ ρ σ Q E Qh m s p hf kq ke q hq => kq _ (.dK []) F _ μ (Ev.fresh hq) (m.fresh hq) ⟨q, rfl, hq, (fresh_O m hq).1, (fresh_O m hq).2, upd_same⟩ hf⟩
theorem pn_dT {pos} : PN c (.Dict [] [] pos) (fun _ μ Q _ => Q (.dT []) μ) :=
  ⟨tDNewT, fun _ _ => pe_dnewT, fun F H μ ρ σ Q E Qh m s p hf kq ke q hq => kq _ (.dT []) F _ μ (Ev.fresh hq) (m.fresh hq) ⟨q, rfl, hq, (fresh_O m hq).1, (fresh_O m hq).2, upd_same⟩ hf⟩
end DL

set_option Elab.async false
set_option linter.all false
set_option maxRecDepth 100000
set_option maxHeartbeats 4000000
/-! part DLe -/
namespace DL
open PySem PySem.Spec L2
variable {c : Ctx}

/-! part DLe -/
def PkAt (F H : Hp) (a : Addr) : Co → Prop
  | .lst ds => ∃ vs, H a = some (.lst vs) ∧ RepL F vs ds
  | .dK kvs => Rd H a (.dK kvs)
  | .dT kvs => Rd H a (.dT kvs)
def RPk (c : Ctx) : Hp → Hp → c.T → V → Co → Prop := fun F H μ v co => ∃ a, v = .ref a ∧ ¬ c.ft μ a ∧ PkAt F H a co
abbrev RP (c : Ctx) : Rl c V Co := fun _ F H μ v co => RPk c F H μ v co
theorem back_P {c : Ctx} : Back c (RP c) := fun _ _ _ _ _ _ _ _ _ _ _ _ h => h
theorem Stab.pk {c : Ctx} {v : V} {co : Co} : Stab c fun F H μ => RPk c F H μ v co := fun F H μ F' H' μ' e ⟨a, h1, h2, h3⟩ => by
  have key : ∀ o, H a = some o → H' a = some o := fun o ho => e.kp a o ho h2
  refine ⟨a, h1, fun q => ?_, ?_⟩
  · rcases e.ft a q with z | z
    · exact h2 z
    · cases co with
      | lst ds => obtain ⟨vs, h, _⟩ := h3; rw [z] at h; cases h
      | dK kvs => rcases h3 with h | ⟨o, h⟩ <;> (rw [z] at h; cases h)
      | dT kvs => rcases h3 with h | ⟨o, h⟩ <;> (rw [z] at h; cases h)
  · cases co with
    | lst ds => obtain ⟨vs, h, r⟩ := h3; exact ⟨vs, key _ h, r.mono e.fr⟩
    | dK kvs => rcases h3 with h | ⟨o, h⟩; exact .inl (key _ h); exact .inr ⟨o, key _ h⟩
    | dT kvs => rcases h3 with h | ⟨o, h⟩; exact .inl (key _ h); exact .inr ⟨o, key _ h⟩
def PP (c : Ctx) (e : Expr) (f : DE c Co) : Prop := ∃ t : TE, (∀ X, c.In X → PE X e t) ∧ SndG c (fun _ _ _ => True) (RP c) t f
def toCo : D → Option Co
  | .lst ds => some (.lst ds)
  | .dK kvs => some (.dK kvs)
  | .dT kvs => some (.dT kvs)
  | _ => none
theorem toCo_pk {F H : Hp} {μ : c.T} {v : V} {d : D} {co : Co} (m : MOk c.M F H μ) (r : Rep F v d) (h : toCo d = some co) : RPk c F H μ v co := by
  have nf : ∀ {a : Addr} {o : HO}, F a = some o → ¬ c.ft μ a := fun {a o} h q => by
    have := m.nf a q
    rw [h] at this; cases this
  cases r <;> simp only [toCo, Option.some.injEq, reduceCtorEq] at h
  · subst h; rename_i h1 h2; exact ⟨_, rfl, nf h1, _, m.fh _ _ h1, h2⟩
  · subst h; rename_i h1; exact ⟨_, rfl, nf h1, .inr ⟨_, m.fh _ _ h1⟩⟩
  · subst h; rename_i h1; exact ⟨_, rfl, nf h1, .inr ⟨_, m.fh _ _ h1⟩⟩
def pkE (f : DE c D) : DE c Co := bindE f fun d => fun _ μ Q _ => ∃ co, toCo d = some co ∧ Q co μ
theorem PD.pk {e : Expr} {f : DE c D} (h : PD c e f) : PP c e (pkE f) := by
  obtain ⟨t, h1, h2⟩ := h
  refine ⟨t, h1, fun F H μ ρ σ Q E Qh m s p hf kq ke => h2 F H μ ρ σ _ E Qh m s trivial hf (fun v d F1 H1 μ1 e1 m1 r q => ?_) ke⟩
  obtain ⟨co, hc, q⟩ := q
  exact kq v co F1 H1 μ1 e1 m1 (toCo_pk m1 r hc) q
theorem PN.pk {e : Expr} {f : DE c Co} (h : PN c e f) : PP c e f := by
  obtain ⟨t, h1, h2⟩ := h
  refine ⟨t, h1, fun F H μ ρ σ Q E Qh m s p hf kq ke => h2 F H μ ρ σ _ E Qh m s trivial hf (fun v co F1 H1 μ1 e1 m1 r q => ?_) ke⟩
  obtain ⟨a, rfl, h3, h4, h5, h6⟩ := r
  refine kq _ co F1 H1 μ1 e1 m1 ⟨a, rfl, h5, ?_⟩ q
  cases co with
  | lst ds => exact h6
  | dK kvs => exact .inl h6
  | dT kvs => exact .inl h6
def slCo : Sl → Option Co
  | .ow co => some co
  | .fz d => toCo d
  | .un => none
def varP (i : Nat) : DE c Co := fun ρ μ Q _ => ∃ s co, ρ[i]? = some s ∧ slCo s = some co ∧ Q co μ
theorem pp_var (i : Nat) {x : Str} {pos : Pos} (hN : c.N[i]? = some x := by rfl) (hv : Vis c.sc x := by first | exact Or.inl rfl | exact Or.inr (Or.inl rfl) | exact Or.inr (Or.inr rfl)) (hd : (x == ("__debug__" : Str)) = false := by decide) (hcd : (x == ("__classdict__" : Str)) = false := by decide) : PP c (.Name x pos) (varP i) := by
  refine ⟨tVar i, fun X h => pe_var (h.nx hN) (h.vis hv) hd hcd, fun F H μ ρ σ Q E Qh m s p hf kq ke => ?_⟩
  obtain ⟨sl, co, e, e2, q⟩ := hf
  cases sl with
  | un => cases e2
  | fz d =>
    obtain ⟨v, h1, h2⟩ := s.fz i d e
    exact ⟨v, h1, kq v co F H μ (Ev.refl _ _ _) m (toCo_pk m h2 e2) q⟩
  | ow co' =>
    cases e2
    obtain ⟨a, h1, h2, h3, h4⟩ := s.ow i _ e
    refine ⟨_, h1, kq _ _ F H μ (Ev.refl _ _ _) m ⟨a, rfl, h3, ?_⟩ q⟩
    cases co with
    | lst ds => exact h4
    | dK kvs => exact .inl h4
    | dT kvs => exact .inl h4

/-! part DLe -/
def keyOf : D → Option Key
  | .int i => some (.inl i)
  | .str x => some (.inr x)
  | _ => none
def keysOf : List D → Option (List Key)
  | [] => some []
  | d :: ds => match keyOf d, keysOf ds with
    | some k, some ks => some (k :: ks)
    | _, _ => none
theorem keyOf_rep {F : Hp} {v : V} {d : D} {k : Key} (r : Rep F v d) (h : keyOf d = some k) : v = kV k := by
  cases r <;> simp only [keyOf, Option.some.injEq, reduceCtorEq] at h
  · subst h; rfl
  · subst h; rfl
theorem keysOf_rep {F : Hp} : ∀ {vs : List V} {ds : List D} {ks : List Key}, RepL F vs ds → keysOf ds = some ks → vs = ks.map kV
  | _, _, _, .nil, h => by cases h; rfl
  | _, d :: ds, ks, .cons h r, e => by
    simp only [keysOf] at e
    cases h1 : keyOf d with
    | none => rw [h1] at e; simp at e
    | some k =>
      cases h2 : keysOf ds with
      | none => rw [h1, h2] at e; simp at e
      | some ks' =>
        rw [h1, h2] at e
        cases e
        rw [keyOf_rep h h1, keysOf_rep r h2]; rfl
def ofV : V → Option D
  | .non => some .non
  | .bl b => some (.bl b)
  | .int i => some (.int i)
  | .str x => some (.str x)
  | _ => none
theorem ofV_rep {F : Hp} {v : V} {d : D} (h : ofV v = some d) : Rep F v d := by
  cases v <;> simp only [ofV, Option.some.injEq, reduceCtorEq] at h
  · subst h; exact .non
  · subst h; exact .bl _
  · subst h; exact .int _
  · subst h; exact .str _
def toV : D → Option V
  | .non => some .non
  | .bl b => some (.bl b)
  | .int i => some (.int i)
  | .str x => some (.str x)
  | _ => none
theorem toV_rep {F : Hp} {v w : V} {d : D} (r : Rep F v d) (h : toV d = some w) : v = w := by
  cases r <;> simp only [toV, Option.some.injEq, reduceCtorEq] at h <;> exact h
/-- what a dict holds at a key -/
def lookCo (co : Co) (k : D) : Option (Option V) := match co with
  | .dK kvs => (keyOf k).map fun k => valV kvs k
  | .dT kvs => match k with
    | .tup ds => (keysOf ds).map fun k => valV kvs k
    | _ => none
  | .lst _ => none
theorem look_get {F H : Hp} {μ : c.T} {v y : V} {co : Co} {k : D} {o : Option V} (m : MOk c.M F H μ) (p : RPk c F H μ v co) (r : Rep F y k) (h : lookCo co k = some o) : ∃ a, v = .ref a ∧ DGet H a y o := by
  obtain ⟨a, rfl, _, q⟩ := p
  refine ⟨a, rfl, ?_⟩
  cases co with
  | lst ds => cases h
  | dK kvs =>
    simp only [lookCo] at h
    obtain ⟨k', hk, e⟩ := Option.map_eq_some_iff.mp h
    subst e
    exact .inl ⟨kvs, k', q, keyOf_rep r hk, rfl⟩
  | dT kvs =>
    cases r <;> simp only [lookCo, reduceCtorEq] at h
    rename_i b vs ds hb rb
    obtain ⟨k', hk, e⟩ := Option.map_eq_some_iff.mp h
    subst e
    exact .inr ⟨kvs, k', b, q, rfl, by rw [m.fh _ _ hb, keysOf_rep rb hk], rfl⟩

/-! part DLe -/
section
variable {X : Cx}
theorem op_inDict (hu : X.A.units + 1 < cLine) : OpR X (compareOp .In) (fun y x H Q => ∃ a o, x = .ref a ∧ DGet H a y o ∧ Q (.bl o.isSome) H) := by
  intro pins s σ H y x u v Q I ry rx h
  obtain ⟨a, o, rfl, g, q⟩ := h
  cases rx
  exact d_in hu I g ry fun s' I' => ⟨.bl _, H, I', rfl, q⟩
theorem op_notInDict (hu : X.A.units + 1 < cLine) : OpR X (compareOp .NotIn) (fun y x H Q => ∃ a o, x = .ref a ∧ DGet H a y o ∧ Q (.bl (!o.isSome)) H) := by
  intro pins s σ H y x u v Q I ry rx h
  obtain ⟨a, o, rfl, g, q⟩ := h
  cases rx
  exact d_notIn hu I g ry fun s' I' => ⟨.bl _, H, I', rfl, q⟩
end
def inCo (x : D) (co : Co) : Option Bool := match co with
  | .lst ds => if (x.flat && D.flats ds && SeqAt.shaped x.py && SeqAt.shaped (.list (D.pys ds))) = true then some ((D.pys ds).any fun z => PyData.eqv z x.py) else none
  | co => (lookCo co x).map Option.isSome
def opP (g : D → Co → Option D) (fa : DE c D) (fb : DE c Co) : DE c D := bindE fa fun a => bindE fb fun b => ret (g a b)
def R2P (c : Ctx) (r : R2) (g : D → Co → Option D) : Prop := ∀ (F H : Hp) (μ : c.T) (x y : V) (a : D) (b : Co) (d : D) (Qh : VK), MOk c.M F H μ → Rep F x a → RPk c F H μ y b → g a b = some d →
  (∀ v F' H', Ev F H (c.ft μ) F' H' (c.ft μ) → MOk c.M F' H' μ → Rep F' v d → Qh v H') → r x y H Qh
theorem snd_opP {ta tb : TE} {fa : DE c D} {fb : DE c Co} {r : R2} {g : D → Co → Option D} (hs : R2P c r g) (ha : SndG c (fun _ _ _ => True) (RD c) ta fa) (hb : SndG c (fun _ _ _ => True) (RP c) tb fb) : SndG c (fun _ _ _ => True) (RD c) (tOp r ta tb) (opP g fa fb) := by
  refine SndG.bind (tb := fun x σ H Q => tb σ H fun y H2 => r x y H2 Q) (fb := fun a => bindE fb fun b => ret (g a b)) (fun x d F _ _ => Rep F x d) (fun _ _ _ _ _ _ h => h) ha Stab.true back_D fun x a => ?_
  refine SndG.bind (tb := fun y σ H Q => r x y H Q) (fb := fun b => ret (g a b)) (fun y b F H μ => RPk c F H μ y b) (fun _ _ _ _ _ _ h => h) hb (Stab.true.and Stab.rep) back_D fun y b => ?_
  exact SndG.here (x := fun _ _ _ => True) fun F H μ d Qh m p e k σ => hs F H μ x y a b d Qh m p.1.2 p.2 e k
def rInA (K : PySem.W.Frag) : R2 := fun x y H Q => rInD K x y H Q ∨ ∃ a o, y = .ref a ∧ DGet H a x o ∧ Q (.bl o.isSome) H
def rNotInA (K : PySem.W.Frag) : R2 := fun x y H Q => rNotInD K x y H Q ∨ ∃ a o, y = .ref a ∧ DGet H a x o ∧ Q (.bl (!o.isSome)) H
theorem inCo_lst {x : D} {ds : List D} {b : Bool} (h : inCo x (.lst ds) = some b) : x.flat = true ∧ D.flats ds = true ∧ SeqAt.shaped x.py = true ∧ SeqAt.shaped (.list (D.pys ds)) = true ∧ b = ((D.pys ds).any fun z => PyData.eqv z x.py) := by
  simp only [inCo] at h
  split at h
  · rename_i hh
    simp only [Bool.and_eq_true] at hh
    cases h
    exact ⟨hh.1.1.1, hh.1.1.2, hh.1.2, hh.2, rfl⟩
  · cases h
theorem r2_in {K : PySem.W.Frag} : R2P c (rInA K) (fun a b => (inCo a b).map D.bl) := by
  intro F H μ x y a b d Qh m ra pb e k
  obtain ⟨q, h, rfl⟩ := Option.map_eq_some_iff.mp e
  cases b with
  | lst ds =>
    obtain ⟨a', rfl, _, vs, h1, h2⟩ := pb
    obtain ⟨e1, e2, e3, e4, rfl⟩ := inCo_lst h
    exact .inl ⟨_, _, ra.dp m.fh e1, .lst (SqL.of h1) (h2.dp m.fh e2), e3, e4, keep m (.bl _) k⟩
  | dK kvs =>
    obtain ⟨o, ho, rfl⟩ := Option.map_eq_some_iff.mp (show (lookCo (.dK kvs) a).map Option.isSome = some q from h)
    obtain ⟨a', rfl, g⟩ := look_get m pb ra ho
    exact .inr ⟨a', o, rfl, g, keep m (.bl _) k⟩
  | dT kvs =>
    obtain ⟨o, ho, rfl⟩ := Option.map_eq_some_iff.mp (show (lookCo (.dT kvs) a).map Option.isSome = some q from h)
    obtain ⟨a', rfl, g⟩ := look_get m pb ra ho
    exact .inr ⟨a', o, rfl, g, keep m (.bl _) k⟩
theorem r2_notIn {K : PySem.W.Frag} : R2P c (rNotInA K) (fun a b => (inCo a b).map fun q => D.bl (!q)) := by
  intro F H μ x y a b d Qh m ra pb e k
  obtain ⟨q, h, rfl⟩ := Option.map_eq_some_iff.mp e
  cases b with
  | lst ds =>
    obtain ⟨a', rfl, _, vs, h1, h2⟩ := pb
    obtain ⟨e1, e2, e3, e4, rfl⟩ := inCo_lst h
    exact .inl ⟨_, _, ra.dp m.fh e1, .lst (SqL.of h1) (h2.dp m.fh e2), e3, e4, keep m (.bl _) k⟩
  | dK kvs =>
    obtain ⟨o, ho, rfl⟩ := Option.map_eq_some_iff.mp (show (lookCo (.dK kvs) a).map Option.isSome = some q from h)
    obtain ⟨a', rfl, g⟩ := look_get m pb ra ho
    exact .inr ⟨a', o, rfl, g, keep m (.bl _) k⟩
  | dT kvs =>
    obtain ⟨o, ho, rfl⟩ := Option.map_eq_some_iff.mp (show (lookCo (.dT kvs) a).map Option.isSome = some q from h)
    obtain ⟨a', rfl, g⟩ := look_get m pb ra ho
    exact .inr ⟨a', o, rfl, g, keep m (.bl _) k⟩
theorem pd_in {a b : Expr} {fa : DE c D} {fb : DE c Co} {pos} (ha : PD c a fa) (hb : PP c b fb) (hm : behindInMarks .In b = false := by rfl) : PD c (.Compare a [.In] [b] pos) (opP (fun a b => (inCo a b).map D.bl) fa fb) := by
  obtain ⟨ta, a1, a2⟩ := ha
  obtain ⟨tb, b1, b2⟩ := hb
  exact ⟨_, fun X h => pe_cmpR (r := rInA c.K) (by rw [← h.hK]; exact (op_inD h.hu65).or (op_inDict h.hu1)) (a1 X h) (b1 X h) hm, snd_opP r2_in a2 b2⟩
theorem pb_in {a b : Expr} {fa : DE c D} {fb : DE c Co} {pos} (ha : PD c a fa) (hb : PP c b fb) (hm : behindInMarks .In b = false := by rfl) : PB c (.Compare a [.In] [b] pos) (tst (opP (fun a b => (inCo a b).map D.bl) fa fb)) := by
  obtain ⟨ta, a1, a2⟩ := ha
  obtain ⟨tb, b1, b2⟩ := hb
  exact ⟨_, fun X h => pt_cmpR (r := rInA c.K) (by rw [← h.hK]; exact (op_inD h.hu65).or (op_inDict h.hu1)) (a1 X h) (b1 X h) hm, snd_tst (snd_opP r2_in a2 b2)⟩
theorem pb_notIn {a b : Expr} {fa : DE c D} {fb : DE c Co} {pos} (ha : PD c a fa) (hb : PP c b fb) (hm : behindInMarks .NotIn b = false := by rfl) : PB c (.Compare a [.NotIn] [b] pos) (tst (opP (fun a b => (inCo a b).map fun q => D.bl (!q)) fa fb)) := by
  obtain ⟨ta, a1, a2⟩ := ha
  obtain ⟨tb, b1, b2⟩ := hb
  exact ⟨_, fun X h => pt_cmpR (r := rNotInA c.K) (by rw [← h.hK]; exact (op_notInD h.hu65).or (op_notInDict h.hu1)) (a1 X h) (b1 X h) hm, snd_tst (snd_opP r2_notIn a2 b2)⟩

/-! part DLe -/
def getE (fd : DE c Co) (fk : DE c D) : DE c D := bindE fd fun co => bindE fk fun k => fun _ μ Q _ => ∃ v d, lookCo co k = some (some v) ∧ ofV v = some d ∧ Q d μ
theorem pd_dget {o i : Expr} {fd : DE c Co} {fk : DE c D} {pos} (ho : PP c o fd) (hi : PD c i fk) (hs : NoSl i := by intro _ _; rfl) : PD c (.Subscript o i pos) (getE fd fk) := by
  obtain ⟨td, d1, d2⟩ := ho
  obtain ⟨tk, k1, k2⟩ := hi
  refine ⟨tDGet td tk, fun X h => pe_dget h.hu1 (d1 X h) (k1 X h) hs, ?_⟩
  refine SndG.bind (tb := fun x σ H Q => tk σ H fun y H2 => ∃ a v, x = .ref a ∧ DGet H2 a y (some v) ∧ Q v H2) (fb := fun co => bindE fk fun k => fun _ μ Q _ => ∃ v d, lookCo co k = some (some v) ∧ ofV v = some d ∧ Q d μ) (fun x co F H μ => RPk c F H μ x co) (fun _ _ _ _ _ _ h => h) d2 Stab.true back_D fun x co => ?_
  refine SndG.bind (tb := fun y σ H Q => ∃ a v, x = .ref a ∧ DGet H a y (some v) ∧ Q v H) (fb := fun k => fun _ μ Q _ => ∃ v d, lookCo co k = some (some v) ∧ ofV v = some d ∧ Q d μ) (fun y b F _ _ => Rep F y b) (fun _ _ _ _ _ _ h => h) k2 (Stab.true.and Stab.pk) back_D fun y k => ?_
  intro F H μ ρ σ Q E Qh m s p hf kq ke
  obtain ⟨v, d, h1, h2, q⟩ := hf
  obtain ⟨a, e, g⟩ := look_get m p.1.2 p.2 h1
  exact ⟨a, v, e, g, kq v d F H μ (Ev.refl _ _ _) m (ofV_rep h2) q⟩
def get2E (fd : DE c Co) (fk fx : DE c D) : DE c D := bindE fd fun co => bindE fk fun k => bindE fx fun x => fun _ μ Q _ => ∃ o d, lookCo co k = some o ∧ (match o with | some v => ofV v | none => some x) = some d ∧ Q d μ
theorem isD_pk {F H : Hp} {μ : c.T} {v : V} {co : Co} (p : RPk c F H μ v co) (h : ∀ ds, co ≠ .lst ds) : ∃ a, v = .ref a ∧ IsD H a := by
  obtain ⟨a, rfl, _, q⟩ := p
  refine ⟨a, rfl, ?_⟩
  cases co with
  | lst ds => exact absurd rfl (h ds)
  | dK kvs => exact .inl ⟨_, q⟩
  | dT kvs => exact .inr ⟨_, q⟩
end DL

set_option Elab.async false
set_option linter.all false
set_option maxRecDepth 100000
set_option maxHeartbeats 4000000
/-! part DLf -/
namespace DL
open PySem PySem.Spec L2
variable {c : Ctx}

/-! part DLf -/
def Co.isD : Co → Bool
  | .lst _ => false
  | _ => true
theorem isD_of {F H : Hp} {μ : c.T} {v : V} {co : Co} (p : RPk c F H μ v co) (h : co.isD = true) : ∃ a, v = .ref a ∧ IsD H a :=
  isD_pk p fun ds e => by subst e; cases h
def pick (co : Co) (k x : D) : Option D := match lookCo co k with
  | some (some v) => ofV v
  | some none => some x
  | none => none
def getDE (fd : DE c Co) (fk fx : DE c D) : DE c D := bindE fd fun co => fun ρ μ Q E => co.isD = true ∧ (bindE fk fun k => bindE fx fun x => ret (pick co k x)) ρ μ Q E
theorem pd_get2 {o e f : Expr} {fd : DE c Co} {fk fx : DE c D} {apos cpos} (ho : PP c o fd) (he : PD c e fk) (hf : PD c f fx) (m : ∀ X, c.In X → M2 X o "get" apos e f cpos := by intro X h; exact ⟨rfl, rfl, rfl, rfl⟩) :
    PD c (.Call (.Attribute o "get" apos) [e, f] [] cpos) (getDE fd fk fx) := by
  obtain ⟨td, d1, d2⟩ := ho
  obtain ⟨tk, k1, k2⟩ := he
  obtain ⟨tx, x1, x2⟩ := hf
  refine ⟨tDGet2 td tk tx, fun X h => pe_dget2 h.hu1 (d1 X h) (k1 X h) (x1 X h) (m X h), ?_⟩
  refine SndG.bind (tb := fun x σ H Q => ∃ a, x = .ref a ∧ IsD H a ∧ tk σ H fun y H2 => tx σ H2 fun z H3 => ∃ o, DGet H3 a y o ∧ Q (o.getD z) H3)
    (fb := fun co => fun ρ μ Q E => co.isD = true ∧ (bindE fk fun k => bindE fx fun x => ret (pick co k x)) ρ μ Q E) (fun x co F H μ => RPk c F H μ x co) (fun _ _ _ _ _ _ h => h) d2 Stab.true back_D fun x co => ?_
  intro F H μ ρ σ Q E Qh m s p hf kq ke
  obtain ⟨hd, hf⟩ := hf
  obtain ⟨a, ex, ia⟩ := isD_of p.2 hd
  refine ⟨a, ex, ia, ?_⟩
  have key : SndG c (fun F H μ => RPk c F H μ x co) (RD c) (fun σ H Q => tk σ H fun y H2 => tx σ H2 fun z H3 => ∃ o, DGet H3 a y o ∧ Q (o.getD z) H3) (bindE fk fun k => bindE fx fun x => ret (pick co k x)) := by
    refine SndG.bind (tb := fun y σ H Q => tx σ H fun z H3 => ∃ o, DGet H3 a y o ∧ Q (o.getD z) H3) (fb := fun k => bindE fx fun x => ret (pick co k x)) (fun y b F _ _ => Rep F y b) (fun _ _ _ _ _ _ h => h) k2 Stab.pk back_D fun y k => ?_
    refine SndG.bind (tb := fun z σ H Q => ∃ o, DGet H a y o ∧ Q (o.getD z) H) (fb := fun x => ret (pick co k x)) (fun y b F _ _ => Rep F y b) (fun _ _ _ _ _ _ h => h) x2 (Stab.pk.and Stab.rep) back_D fun z xd => ?_
    refine SndG.here (x := fun _ _ _ => True) fun F H μ d Qh m p e k' σ => ?_
    unfold pick at e
    split at e
    · rename_i v hv
      obtain ⟨a', e', g⟩ := look_get m p.1.1 p.1.2 hv
      rw [ex] at e'; cases e'
      exact ⟨_, g, keep m (ofV_rep e) k'⟩
    · rename_i hv
      obtain ⟨a', e', g⟩ := look_get m p.1.1 p.1.2 hv
      rw [ex] at e'; cases e'
      cases e
      exact ⟨_, g, keep m p.2 k'⟩
    · cases e
  exact key F H μ ρ σ Q E Qh m s p.2 hf kq ke

theorem Stab.const {p : Prop} : Stab c fun _ _ _ => p := fun _ _ _ _ _ _ _ h => h
/-! part DLf -/
def idxD : D → D → Option D
  | .tup ds, .int i => atI ds i
  | .lst ds, .int i => atI ds i
  | .str z, .int i => if z.length ≤ sizeLine then (atI z.cps.toList i).map fun c => .str ⟨#[c]⟩ else none
  | _, _ => none
theorem atI_rep {F : Hp} {vs : List V} {ds : List D} {i : Int} {d : D} (r : RepL F vs ds) (h : atI ds i = some d) : ∃ v, atI vs i = some v ∧ Rep F v d := by
  unfold atI at h ⊢
  rw [r.length]
  cases e : ixN ds.length i with
  | none => rw [e] at h; cases h
  | some j =>
    rw [e] at h
    exact r.get (show ds[j]? = some d from h)
theorem r2_idx {K : PySem.W.Frag} : R2S c (rIx K) idxD := by
  intro F H μ x y a b d Qh m ra rb e k
  cases ra <;> cases rb <;> simp only [idxD, reduceCtorEq] at e
  · split at e
    · rename_i hz
      obtain ⟨cc, h1, rfl⟩ := Option.map_eq_some_iff.mp e
      exact .inr (.inr ⟨_, _, cc, rfl, rfl, hz, h1, keep m (.str _) k⟩)
    · cases e
  · rename_i h1 r1 _
    obtain ⟨v, h2, r2⟩ := atI_rep r1 e
    exact .inr (.inl ⟨_, _, _, v, rfl, rfl, SqT.of (m.fh _ _ h1), h2, keep m r2 k⟩)
  · rename_i h1 r1 _
    obtain ⟨v, h2, r2⟩ := atI_rep r1 e
    exact .inl ⟨_, _, _, v, rfl, rfl, SqL.of (m.fh _ _ h1), h2, keep m r2 k⟩
theorem pd_ix {a b : Expr} {fa fb : DE c D} {pos} (ha : PD c a fa) (hb : PD c b fb) (hs : PlainIx b := by intro _ _; rfl) : PD c (.Subscript a b pos) (op2 idxD fa fb) := by
  obtain ⟨ta, a1, a2⟩ := ha
  obtain ⟨tb, b1, b2⟩ := hb
  exact ⟨_, fun X h => pe_ix (r := rIx c.K) (by rw [← h.hK]; exact ix_seq) (a1 X h) (b1 X h) hs, snd_op2 r2_idx a2 b2⟩
/-- of a list of one's own -/
def ixPD : Co → D → Option D
  | .lst ds, b => idxD (.lst ds) b
  | _, _ => none
def ixPE (fa : DE c Co) (fb : DE c D) : DE c D := bindE fa fun a => bindE fb fun b => ret (ixPD a b)
theorem pp_ix {a b : Expr} {fa : DE c Co} {fb : DE c D} {pos} (ha : PP c a fa) (hb : PD c b fb) (hs : PlainIx b := by intro _ _; rfl) : PD c (.Subscript a b pos) (ixPE fa fb) := by
  obtain ⟨ta, a1, a2⟩ := ha
  obtain ⟨tb, b1, b2⟩ := hb
  refine ⟨_, fun X h => pe_ix (r := rIx c.K) (by rw [← h.hK]; exact ix_seq) (a1 X h) (b1 X h) hs, ?_⟩
  refine SndG.bind (tb := fun x σ H Q => tb σ H fun y H2 => rIx c.K x y H2 Q) (fb := fun a => bindE fb fun b => ret (ixPD a b)) (fun x co F H μ => RPk c F H μ x co) (fun _ _ _ _ _ _ h => h) a2 Stab.true back_D fun x co => ?_
  refine SndG.bind (tb := fun y σ H Q => rIx c.K x y H Q) (fb := fun b => ret (ixPD co b)) (fun y b F _ _ => Rep F y b) (fun _ _ _ _ _ _ h => h) b2 (Stab.true.and Stab.pk) back_D fun y b => ?_
  refine SndG.here (x := fun _ _ _ => True) fun F H μ d Qh m p e k σ => ?_
  cases co with
  | lst ds =>
    obtain ⟨⟨_, a', rfl, _, vs, h1, r1⟩, rb⟩ := p
    cases rb <;> simp only [ixPD, idxD, reduceCtorEq] at e
    obtain ⟨v, h2, r2⟩ := atI_rep r1 e
    exact .inl ⟨_, _, _, v, rfl, rfl, SqL.of h1, h2, keep m r2 k⟩
  | _ => cases e

/-! part DLf -/
def noneP : DE c (Option Int) := fun _ μ Q _ => Q none μ
def someP (fa : DE c D) : DE c (Option Int) := bindE fa fun a => fun _ μ Q _ => ∃ i, a = .int i ∧ Q (some i) μ
theorem po_no : POp c none noneP := ⟨tNoPart, fun _ _ => po_none, fun F H μ ρ σ Q E Qh m s p hf kq ke => kq none none F H μ (Ev.refl _ _ _) m rfl hf⟩
theorem po_so {e : Expr} {fa : DE c D} (ha : PD c e fa) : POp c (some e) (someP fa) := by
  obtain ⟨ta, a1, a2⟩ := ha
  refine ⟨tPart ta, fun X h => po_some (a1 X h), ?_⟩
  refine SndG.bind (tb := fun x σ H Q => ∃ i, x = .int i ∧ Q (some i) H) (fb := fun a => fun _ μ Q _ => ∃ i, a = .int i ∧ Q (some i) μ) (fun x d F _ _ => Rep F x d) (fun _ _ _ _ _ _ h => h) a2 Stab.true back_I fun x a => ?_
  intro F H μ ρ σ Q E Qh m s p hf kq ke
  obtain ⟨i, rfl, q⟩ := hf
  obtain ⟨_, r⟩ := p
  cases r
  exact ⟨i, rfl, kq _ _ F H μ (Ev.refl _ _ _) m rfl q⟩
def cutD {α : Type} (xs : List α) (lo hi : Option Int) : List α := (xs.drop (HT.sIx xs.length 0 lo)).take (HT.sIx xs.length xs.length hi - HT.sIx xs.length 0 lo)
theorem cut_rep {F : Hp} {vs : List V} {ds : List D} {lo hi : Option Int} (r : RepL F vs ds) : RepL F (cutV vs lo hi) (cutD ds lo hi) := by
  unfold cutV cutD
  rw [r.length]
  exact (r.drop _).take _
theorem cut_whole {ds : List D} {lo hi : Option Int} (h : HT.sIx ds.length 0 lo = 0 ∧ HT.sIx ds.length ds.length hi = ds.length) : cutD ds lo hi = ds := by
  unfold cutD
  rw [h.1, h.2]
  simp
/-- of a tuple -/
def slTD : D → Option Int → Option Int → Option D
  | .tup ds, l, h => some (.tup (cutD ds l h))
  | _, _, _ => none
def slTE (fa : DE c D) (fl fh : DE c (Option Int)) : DE c D := bindE fa fun a => bindE fl fun l => bindE fh fun h => ret (slTD a l h)
theorem pd_slT {e : Expr} {lo hi : Option Expr} {fa : DE c D} {fl fh : DE c (Option Int)} {p2 pos} (ha : PD c e fa) (hl : POp c lo fl) (hh : POp c hi fh) : PD c (.Subscript e (.Slice lo hi none p2) pos) (slTE fa fl fh) := by
  obtain ⟨ta, a1, a2⟩ := ha
  obtain ⟨tl, l1, l2⟩ := hl
  obtain ⟨th, h1, h2⟩ := hh
  refine ⟨tSl (rSlA c.K) ta tl th, fun X h => pe_slice (by rw [← h.hK]; exact sl_tupA) (a1 X h) (l1 X h) (h1 X h), ?_⟩
  refine SndG.bind (tb := fun x σ H Q => tl σ H fun l H2 => th σ H2 fun u H3 => rSlA c.K x l u H3 Q) (fb := fun a => bindE fl fun l => bindE fh fun h => ret (slTD a l h)) (fun x d F _ _ => Rep F x d) (fun _ _ _ _ _ _ h => h) a2 Stab.true back_D fun x a => ?_
  refine SndG.bind (tb := fun l σ H Q => th σ H fun u H3 => rSlA c.K x l u H3 Q) (fb := fun l => bindE fh fun h => ret (slTD a l h)) (fun l l' _ _ _ => l = l') (fun _ _ _ _ _ _ h => h) l2 (Stab.true.and Stab.rep) back_D fun l l' => ?_
  refine SndG.bind (tb := fun u σ H Q => rSlA c.K x l u H Q) (fb := fun h => ret (slTD a l' h)) (fun l l' _ _ _ => l = l') (fun _ _ _ _ _ _ h => h) h2 ((Stab.true.and Stab.rep).and Stab.const) back_D fun u u' => ?_
  refine SndG.here (x := fun _ _ _ => True) fun F H μ d Qh m p e k σ => ?_
  obtain ⟨⟨⟨_, ra⟩, rfl⟩, rfl⟩ := p
  cases ra <;> simp only [slTD, reduceCtorEq, Option.some.injEq] at e
  subst e
  rename_i hb rb
  refine ⟨_, _, rfl, SqT.of (m.fh _ _ hb), fun w => ?_, fun w => newT m (cut_rep rb) k⟩
  rw [rb.length] at w
  rw [cut_whole w] at k
  exact keep m (.tup hb rb) k
/-- of a list: a new one -/
def slLE (fa : DE c Co) (fl fh : DE c (Option Int)) : DE c Co := bindE fa fun a => bindE fl fun l => bindE fh fun h => fun _ μ Q _ => ∃ ds, a = .lst ds ∧ Q (.lst (cutD ds l h)) μ
theorem newO {F H : Hp} {μ : c.T} {vs : List V} {ds : List D} {Qh : VK} (m : MOk c.M F H μ) (r : RepL F vs ds) (k : ∀ v co F' H', Ev F H (c.ft μ) F' H' (c.ft μ) → MOk c.M F' H' μ → RO c H F' H' μ v co → co = .lst ds → Qh v H') : ∀ p, H p = none → Qh (.ref p) (upd H p (.lst vs)) := fun p hp => by
  obtain ⟨f1, f2⟩ := fresh_O m hp
  exact k _ (.lst ds) F _ (Ev.fresh hp) (m.fresh hp) ⟨p, rfl, hp, f1, f2, vs, upd_same, r⟩ rfl
theorem pn_sl {e : Expr} {lo hi : Option Expr} {fa : DE c Co} {fl fh : DE c (Option Int)} {p2 pos} (ha : PP c e fa) (hl : POp c lo fl) (hh : POp c hi fh) : PN c (.Subscript e (.Slice lo hi none p2) pos) (slLE fa fl fh) := by
  obtain ⟨ta, a1, a2⟩ := ha
  obtain ⟨tl, l1, l2⟩ := hl
  obtain ⟨th, h1, h2⟩ := hh
  refine ⟨tSl (rSlL c.K) ta tl th, fun X h => pe_slice (by rw [← h.hK]; exact sl_list) (a1 X h) (l1 X h) (h1 X h), ?_⟩
  refine SndG.bind (tb := fun x σ H Q => tl σ H fun l H2 => th σ H2 fun u H3 => rSlL c.K x l u H3 Q) (fb := fun a => bindE fl fun l => bindE fh fun h => fun _ μ Q _ => ∃ ds, a = .lst ds ∧ Q (.lst (cutD ds l h)) μ) (fun x co F H μ => RPk c F H μ x co) (fun _ _ _ _ _ _ h => h) a2 Stab.true back_O fun x co => ?_
  refine SndG.bind (tb := fun l σ H Q => th σ H fun u H3 => rSlL c.K x l u H3 Q) (fb := fun l => bindE fh fun h => fun _ μ Q _ => ∃ ds, co = .lst ds ∧ Q (.lst (cutD ds l h)) μ) (fun l l' _ _ _ => l = l') (fun _ _ _ _ _ _ h => h) l2 (Stab.true.and Stab.pk) back_O fun l l' => ?_
  refine SndG.bind (tb := fun u σ H Q => rSlL c.K x l u H Q) (fb := fun h => fun _ μ Q _ => ∃ ds, co = .lst ds ∧ Q (.lst (cutD ds l' h)) μ) (fun l l' _ _ _ => l = l') (fun _ _ _ _ _ _ h => h) h2 ((Stab.true.and Stab.pk).and Stab.const) back_O fun u u' => ?_
  intro F H μ ρ σ Q E Qh m s p hf kq ke
  obtain ⟨ds, rfl, q⟩ := hf
  obtain ⟨⟨⟨_, a, rfl, _, vs, h3, r3⟩, rfl⟩, rfl⟩ := p
  exact ⟨_, _, rfl, SqL.of h3, newO m (cut_rep r3) fun v co F' H' e m' r ec => kq v _ F' H' μ e m' (by rw [← ec]; exact r) q⟩

/-! part DLf -/
def R1C (c : Ctx) (r : List V → Hp → VK → Prop) (g : D → Option D) : Prop := ∀ (F H : Hp) (μ : c.T) (x : V) (a d : D) (Qh : VK), MOk c.M F H μ → Rep F x a → g a = some d →
  (∀ v F' H', Ev F H (c.ft μ) F' H' (c.ft μ) → MOk c.M F' H' μ → Rep F' v d → Qh v H') → r [x] H Qh
theorem snd_call1 {ta : TE} {fa : DE c D} {r : List V → Hp → VK → Prop} {g : D → Option D} (hs : R1C c r g) (ha : SndG c (fun _ _ _ => True) (RD c) ta fa) : SndG c (fun _ _ _ => True) (RD c) (tCB r (tCons ta tNil)) (op1 g fa) := by
  refine SndG.bind (tb := fun x σ H Q => r [x] H Q) (fb := fun a => ret (g a)) (fun x d F _ _ => Rep F x d) (fun _ _ _ _ _ _ h => h) ha Stab.true back_D fun x a => ?_
  exact SndG.here (x := fun _ _ _ => True) fun F H μ d Qh m p e k σ => hs F H μ x a d Qh m p.2 e k
section
variable {a : Expr} {fa : DE c D} {x : Str} {id T : String} {r : List V → Hp → VK → Prop} {g : D → Option D} {p pos : Pos}
theorem pd_callB (hc : ∀ X, c.In X → CallR X (.builtin id) r) (hs : R1C c r g) (hg : Glb c x) (hm : c.mg x = none) (hv : bootBuiltins x = some (.builtin id)) (ha : PD c a fa) (hn : x ≠ "__name__" := by decide) (hdb : (x == ("__debug__" : Str)) = false := by decide)
    (he : ∀ env, starEach [a] env = (false, eval a env) :: starEach [] env := by intro _; rfl) : PD c (.Call (.Name x p) [a] [] pos) (op1 g fa) := by
  obtain ⟨ta, a1, a2⟩ := ha
  exact ⟨_, fun X h => pe_callB (hc X h) (h.gl hg) (h.mgn hm) hv (pa_cons (a1 X h) pa_nil (he _)) hn hdb (he _) rfl, snd_call1 hs a2⟩
theorem pd_callTy (hc : ∀ X, c.In X → CallR X (.type T) r) (hs : R1C c r g) (hg : Glb c x) (hm : c.mg x = none) (hv : bootBuiltins x = some (.type T)) (ha : PD c a fa) (hn : x ≠ "__name__" := by decide) (hdb : (x == ("__debug__" : Str)) = false := by decide)
    (he : ∀ env, starEach [a] env = (false, eval a env) :: starEach [] env := by intro _; rfl) : PD c (.Call (.Name x p) [a] [] pos) (op1 g fa) := by
  obtain ⟨ta, a1, a2⟩ := ha
  exact ⟨_, fun X h => pe_callTy (hc X h) (h.gl hg) (h.mgn hm) hv (pa_cons (a1 X h) pa_nil (he _)) hn hdb (he _) rfl, snd_call1 hs a2⟩
end
/-- len -/
def lenD : D → Option D
  | .tup ds => some (.int ds.length)
  | .lst ds => some (.int ds.length)
  | .str z => if z.length ≤ sizeLine then some (.int z.length) else none
  | .dK kvs => some (.int kvs.length)
  | .dT kvs => some (.int kvs.length)
  | _ => none
theorem call_len_rd {X : Cx} : CallR X (.builtin "len") (fun xs H Q => ∃ (p : Addr) (n : Nat), xs = [.ref p] ∧ ((∃ kvs : List (Key × V), Rd H p (.dK kvs) ∧ n = kvs.length) ∨ ∃ kvs : List (List Key × V), Rd H p (.dT kvs) ∧ n = kvs.length) ∧ Q (.int (n : Nat)) H) := by
  intro pins s σ H xs us Q I r h
  obtain ⟨p, n, rfl, hp, q⟩ := h
  obtain ⟨u, rfl, rx⟩ := vals1 r
  obtain rfl : u = .ref p := rx
  rcases hp with ⟨kvs, hp, rfl⟩ | ⟨kvs, hp, rfl⟩
  · exact d_len I hp fun t s' I' => ⟨.int _, H, I', ⟨_, rfl⟩, q⟩
  · obtain ⟨z, hd, ys, rel, dd⟩ := dt_rd I.hok hp
    have hl : kvs.length = ys.length := Paired.length rel
    refine call_len_dictH hd dd (by rw [← hl]; rw [sizeLine_eq] at z; omega) ?_
    rw [← hl]
    exact ⟨.int ((kvs.length : Nat) : Int), H, I.tok _, ⟨_, rfl⟩, q⟩
def rLenA (K : PySem.W.Frag) : List V → Hp → VK → Prop := fun xs H Q => (∃ x n, xs = [x] ∧ LenV K x H n ∧ Q (.int n) H) ∨ ∃ (p : Addr) (n : Nat), xs = [.ref p] ∧ ((∃ kvs : List (Key × V), Rd H p (.dK kvs) ∧ n = kvs.length) ∨ ∃ kvs : List (List Key × V), Rd H p (.dT kvs) ∧ n = kvs.length) ∧ Q (.int (n : Nat)) H
theorem call_lenA {X : Cx} : CallR X (.builtin "len") (rLenA X.K) := call_len.or call_len_rd
theorem r1_len {K : PySem.W.Frag} : R1C c (rLenA K) lenD := by
  intro F H μ x a d Qh m ra e k
  cases ra <;> simp only [lenD, reduceCtorEq, Option.some.injEq] at e
  · split at e
    · rename_i hz
      cases e
      exact .inl ⟨_, _, rfl, ⟨hz, rfl⟩, keep m (.int _) k⟩
    · cases e
  · rename_i h1 r1
    subst e
    exact .inl ⟨_, _, rfl, .inr ⟨_, SqT.of (m.fh _ _ h1), r1.length.symm⟩, keep m (.int _) k⟩
  · rename_i h1 r1
    subst e
    exact .inl ⟨_, _, rfl, .inl ⟨_, SqL.of (m.fh _ _ h1), r1.length.symm⟩, keep m (.int _) k⟩
  · rename_i h1
    subst e
    exact .inr ⟨_, _, rfl, .inl ⟨_, .inr ⟨_, m.fh _ _ h1⟩, rfl⟩, keep m (.int _) k⟩
  · rename_i h1
    subst e
    exact .inr ⟨_, _, rfl, .inr ⟨_, .inr ⟨_, m.fh _ _ h1⟩, rfl⟩, keep m (.int _) k⟩
theorem pd_len {a : Expr} {fa : DE c D} {p pos : Pos} (ha : PD c a fa) (hm : c.mg "len" = none) (hg : Glb c "len" := by rfl) (he : ∀ env, starEach [a] env = (false, eval a env) :: starEach [] env := by intro _; rfl) : PD c (.Call (.Name "len" p) [a] [] pos) (op1 lenD fa) :=
  pd_callB (r := rLenA c.K) (fun X h => by rw [← h.hK]; exact call_lenA) r1_len hg hm PySem.boot_len ha (by decide) (by decide) he
/-- all, any of truths -/
def blsOf : List D → Option (List Bool)
  | [] => some []
  | .bl b :: ds => (blsOf ds).map (b :: ·)
  | _ :: _ => none
theorem blsOf_eq : ∀ {ds : List D} {bs : List Bool}, blsOf ds = some bs → ds = bs.map D.bl
  | [], _, h => by cases h; rfl
  | .bl b :: ds, _, h => by
    obtain ⟨bs, h1, rfl⟩ := Option.map_eq_some_iff.mp (show (blsOf ds).map (b :: ·) = _ from h)
    rw [blsOf_eq h1]; rfl
  | .non :: _, _, h => by cases h
  | .int _ :: _, _, h => by cases h
  | .str _ :: _, _, h => by cases h
  | .tup _ :: _, _, h => by cases h
  | .lst _ :: _, _, h => by cases h
  | .dK _ :: _, _, h => by cases h
  | .dT _ :: _, _, h => by cases h
  | .ob _ :: _, _, h => by cases h
def allD : D → Option D
  | .lst ds => (blsOf ds).map fun bs => .bl (bs.all id)
  | _ => none
def anyD : D → Option D
  | .lst ds => (blsOf ds).map fun bs => .bl (bs.any id)
  | _ => none
theorem r1_all {K : PySem.W.Frag} : R1C c (rAll K) allD := by
  intro F H μ x a d Qh m ra e k
  cases ra <;> simp only [allD, reduceCtorEq] at e
  rename_i h1 r1
  obtain ⟨bs, h2, rfl⟩ := Option.map_eq_some_iff.mp e
  rw [blsOf_eq h2] at r1
  rw [r1.bls] at h1
  exact ⟨_, bs, rfl, SqL.of (m.fh _ _ h1), keep m (.bl _) k⟩
theorem r1_any {K : PySem.W.Frag} : R1C c (rAny K) anyD := by
  intro F H μ x a d Qh m ra e k
  cases ra <;> simp only [anyD, reduceCtorEq] at e
  rename_i h1 r1
  obtain ⟨bs, h2, rfl⟩ := Option.map_eq_some_iff.mp e
  rw [blsOf_eq h2] at r1
  rw [r1.bls] at h1
  exact ⟨_, bs, rfl, SqL.of (m.fh _ _ h1), keep m (.bl _) k⟩
theorem pd_all {a : Expr} {fa : DE c D} {p pos : Pos} (ha : PD c a fa) (hm : c.mg "all" = none) (hg : Glb c "all" := by rfl) (he : ∀ env, starEach [a] env = (false, eval a env) :: starEach [] env := by intro _; rfl) : PD c (.Call (.Name "all" p) [a] [] pos) (op1 allD fa) :=
  pd_callB (r := rAll c.K) (fun X h => by rw [← h.hK]; exact cr_all h.cl) r1_all hg hm (by decide +kernel) ha (by decide) (by decide) he
theorem pd_any {a : Expr} {fa : DE c D} {p pos : Pos} (ha : PD c a fa) (hm : c.mg "any" = none) (hg : Glb c "any" := by rfl) (he : ∀ env, starEach [a] env = (false, eval a env) :: starEach [] env := by intro _; rfl) : PD c (.Call (.Name "any" p) [a] [] pos) (op1 anyD fa) :=
  pd_callB (r := rAny c.K) (fun X h => by rw [← h.hK]; exact cr_any h.cl) r1_any hg hm (by decide +kernel) ha (by decide) (by decide) he
/-- max, min of ints -/
def intsOf : List D → Option (List Int)
  | [] => some []
  | .int b :: ds => (intsOf ds).map (b :: ·)
  | _ :: _ => none
theorem intsOf_eq : ∀ {ds : List D} {bs : List Int}, intsOf ds = some bs → ds = bs.map D.int
  | [], _, h => by cases h; rfl
  | .int b :: ds, _, h => by
    obtain ⟨bs, h1, rfl⟩ := Option.map_eq_some_iff.mp (show (intsOf ds).map (b :: ·) = _ from h)
    rw [intsOf_eq h1]; rfl
  | .non :: _, _, h => by cases h
  | .bl _ :: _, _, h => by cases h
  | .str _ :: _, _, h => by cases h
  | .tup _ :: _, _, h => by cases h
  | .lst _ :: _, _, h => by cases h
  | .dK _ :: _, _, h => by cases h
  | .dT _ :: _, _, h => by cases h
  | .ob _ :: _, _, h => by cases h
def maxL : List Int → Option Int
  | [] => none
  | x :: xs => some (xs.foldl (fun m y => if m < y then y else m) x)
def minL : List Int → Option Int
  | [] => none
  | x :: xs => some (xs.foldl (fun m y => if y < m then y else m) x)
theorem maxF (xs : List Int) : ∀ x, (xs.foldl (fun m y => if m < y then y else m) x = x ∨ xs.foldl (fun m y => if m < y then y else m) x ∈ xs) ∧ x ≤ xs.foldl (fun m y => if m < y then y else m) x ∧ ∀ y ∈ xs, y ≤ xs.foldl (fun m y => if m < y then y else m) x := by
  induction xs with
  | nil => intro x; simp
  | cons z xs ih =>
    intro x
    obtain ⟨h1, h2, h3⟩ := ih (if x < z then z else x)
    simp only [List.foldl_cons]
    refine ⟨?_, ?_, ?_⟩
    · rcases h1 with h1 | h1
      · rw [h1]; split
        · exact .inr List.mem_cons_self
        · exact .inl rfl
      · exact .inr (List.mem_cons_of_mem _ h1)
    · refine Int.le_trans ?_ h2; split <;> omega
    · intro y hy
      rcases List.mem_cons.mp hy with rfl | hy
      · refine Int.le_trans ?_ h2; split <;> omega
      · exact h3 y hy
theorem minF (xs : List Int) : ∀ x, (xs.foldl (fun m y => if y < m then y else m) x = x ∨ xs.foldl (fun m y => if y < m then y else m) x ∈ xs) ∧ xs.foldl (fun m y => if y < m then y else m) x ≤ x ∧ ∀ y ∈ xs, xs.foldl (fun m y => if y < m then y else m) x ≤ y := by
  induction xs with
  | nil => intro x; simp
  | cons z xs ih =>
    intro x
    obtain ⟨h1, h2, h3⟩ := ih (if z < x then z else x)
    simp only [List.foldl_cons]
    refine ⟨?_, ?_, ?_⟩
    · rcases h1 with h1 | h1
      · rw [h1]; split
        · exact .inr List.mem_cons_self
        · exact .inl rfl
      · exact .inr (List.mem_cons_of_mem _ h1)
    · refine Int.le_trans h2 ?_; split <;> omega
    · intro y hy
      rcases List.mem_cons.mp hy with rfl | hy
      · refine Int.le_trans h2 ?_; split <;> omega
      · exact h3 y hy
theorem maxL_spec {xs : List Int} {k : Int} (h : maxL xs = some k) : k ∈ xs ∧ ∀ y ∈ xs, y ≤ k := by
  cases xs with
  | nil => cases h
  | cons x xs =>
    cases h
    obtain ⟨h1, h2, h3⟩ := maxF xs x
    refine ⟨?_, fun y hy => ?_⟩
    · rcases h1 with h1 | h1
      · rw [h1]; exact List.mem_cons_self
      · exact List.mem_cons_of_mem _ h1
    · rcases List.mem_cons.mp hy with rfl | hy
      · exact h2
      · exact h3 y hy
theorem minL_spec {xs : List Int} {k : Int} (h : minL xs = some k) : k ∈ xs ∧ ∀ y ∈ xs, k ≤ y := by
  cases xs with
  | nil => cases h
  | cons x xs =>
    cases h
    obtain ⟨h1, h2, h3⟩ := minF xs x
    refine ⟨?_, fun y hy => ?_⟩
    · rcases h1 with h1 | h1
      · rw [h1]; exact List.mem_cons_self
      · exact List.mem_cons_of_mem _ h1
    · rcases List.mem_cons.mp hy with rfl | hy
      · exact h2
      · exact h3 y hy
def maxD : D → Option D
  | .lst ds => (intsOf ds).bind fun bs => (maxL bs).map D.int
  | _ => none
def minD : D → Option D
  | .lst ds => (intsOf ds).bind fun bs => (minL bs).map D.int
  | _ => none
theorem r1_max {K : PySem.W.Frag} : R1C c (rMax K) maxD := by
  intro F H μ x a d Qh m ra e k
  cases ra <;> simp only [maxD, reduceCtorEq] at e
  rename_i h1 r1
  obtain ⟨bs, h2, e⟩ := Option.bind_eq_some_iff.mp e
  obtain ⟨z, h3, rfl⟩ := Option.map_eq_some_iff.mp e
  rw [intsOf_eq h2] at r1
  rw [r1.ints] at h1
  obtain ⟨s1, s2⟩ := maxL_spec h3
  refine ⟨_, bs, rfl, SqL.of (m.fh _ _ h1), List.length_pos_of_mem s1, fun w hw hle => ?_⟩
  have : w = z := Int.le_antisymm (s2 w hw) (hle z s1)
  subst this
  exact keep m (.int _) k
theorem r1_min {K : PySem.W.Frag} : R1C c (rMin K) minD := by
  intro F H μ x a d Qh m ra e k
  cases ra <;> simp only [minD, reduceCtorEq] at e
  rename_i h1 r1
  obtain ⟨bs, h2, e⟩ := Option.bind_eq_some_iff.mp e
  obtain ⟨z, h3, rfl⟩ := Option.map_eq_some_iff.mp e
  rw [intsOf_eq h2] at r1
  rw [r1.ints] at h1
  obtain ⟨s1, s2⟩ := minL_spec h3
  refine ⟨_, bs, rfl, SqL.of (m.fh _ _ h1), List.length_pos_of_mem s1, fun w hw hle => ?_⟩
  have : w = z := Int.le_antisymm (hle z s1) (s2 w hw)
  subst this
  exact keep m (.int _) k
theorem pd_max {a : Expr} {fa : DE c D} {p pos : Pos} (ha : PD c a fa) (hm : c.mg "max" = none) (hg : Glb c "max" := by rfl) (he : ∀ env, starEach [a] env = (false, eval a env) :: starEach [] env := by intro _; rfl) : PD c (.Call (.Name "max" p) [a] [] pos) (op1 maxD fa) :=
  pd_callB (r := rMax c.K) (fun X h => by rw [← h.hK]; exact cr_max h.cl) r1_max hg hm (by decide +kernel) ha (by decide) (by decide) he
theorem pd_minL {a : Expr} {fa : DE c D} {p pos : Pos} (ha : PD c a fa) (hm : c.mg "min" = none) (hg : Glb c "min" := by rfl) (he : ∀ env, starEach [a] env = (false, eval a env) :: starEach [] env := by intro _; rfl) : PD c (.Call (.Name "min" p) [a] [] pos) (op1 minD fa) :=
  pd_callB (r := rMin c.K) (fun X h => by rw [← h.hK]; exact cr_min h.cl) r1_min hg hm (by decide +kernel) ha (by decide) (by decide) he
/-- tuple(list or tuple), int(int or bool) -/
def tupleD : D → Option D
  | .lst ds => some (.tup ds)
  | .tup ds => some (.tup ds)
  | _ => none
theorem r1_tuple {K : PySem.W.Frag} : R1C c (fun xs H Q => ∃ p ys, xs = [.ref p] ∧ ((SqL K H p ys ∧ ∀ l, H l = none → Q (.ref l) (upd H l (.tup ys))) ∨ (SqT K H p ys ∧ Q (.ref p) H))) tupleD := by
  intro F H μ x a d Qh m ra e k
  cases ra <;> simp only [tupleD, reduceCtorEq, Option.some.injEq] at e
  · subst e
    rename_i h1 r1
    exact ⟨_, _, rfl, .inr ⟨SqT.of (m.fh _ _ h1), keep m (.tup h1 r1) k⟩⟩
  · subst e
    rename_i h1 r1
    exact ⟨_, _, rfl, .inl ⟨SqL.of (m.fh _ _ h1), newT m r1 k⟩⟩
theorem pd_tuple {a : Expr} {fa : DE c D} {p pos : Pos} (ha : PD c a fa) (hm : c.mg "tuple" = none) (hg : Glb c "tuple" := by rfl) (he : ∀ env, starEach [a] env = (false, eval a env) :: starEach [] env := by intro _; rfl) : PD c (.Call (.Name "tuple" p) [a] [] pos) (op1 tupleD fa) :=
  pd_callTy (r := fun xs H Q => ∃ p ys, xs = [.ref p] ∧ ((SqL c.K H p ys ∧ ∀ l, H l = none → Q (.ref l) (upd H l (.tup ys))) ∨ (SqT c.K H p ys ∧ Q (.ref p) H))) (fun X h => by rw [← h.hK]; exact call_tuple_of) r1_tuple hg hm (by decide +kernel) ha (by decide) (by decide) he
def intD : D → Option D
  | .int i => some (.int i)
  | .bl b => some (.int (if b then 1 else 0))
  | _ => none
theorem r1_int : R1C c (fun xs H Q => (∃ i, xs = [.int i] ∧ Q (.int i) H) ∨ ∃ k, xs = [.bl k] ∧ Q (.int (if k then 1 else 0)) H) intD := by
  intro F H μ x a d Qh m ra e k
  cases ra <;> simp only [intD, reduceCtorEq, Option.some.injEq] at e
  · subst e
    exact .inr ⟨_, rfl, keep m (.int _) k⟩
  · subst e
    exact .inl ⟨_, rfl, keep m (.int _) k⟩
theorem pd_intc {a : Expr} {fa : DE c D} {p pos : Pos} (ha : PD c a fa) (hm : c.mg "int" = none) (hg : Glb c "int" := by rfl) (he : ∀ env, starEach [a] env = (false, eval a env) :: starEach [] env := by intro _; rfl) : PD c (.Call (.Name "int" p) [a] [] pos) (op1 intD fa) :=
  pd_callTy (fun X h => call_int1) r1_int hg hm (by decide +kernel) ha (by decide) (by decide) he
end DL

set_option Elab.async false
set_option linter.all false
set_option maxRecDepth 100000
set_option maxHeartbeats 4000000
/-! part DLg -/
namespace DL
open PySem PySem.Spec L2
variable {c : Ctx}

structure DEnds (c : Ctx) where
  nx : En → c.T → Prop
  rt : D → c.T → Prop
  bk : En → c.T → Prop
  ct : En → c.T → Prop
  ex : c.M.Er → En → c.T → Prop
abbrev DS (c : Ctx) := DEnds c → En → c.T → Prop
def Pst (c : Ctx) (μ : c.T) (ρ : En) (σ : L2.St) : Addr → Prop := fun b => c.ft μ b ∨ Own ρ σ b
structure Kp (c : Ctx) (F H : Hp) (P : Addr → Prop) (Dn : Ends) (De : DEnds c) : Prop where
  nx : ∀ F' H' μ' ρ' σ', Ev F H P F' H' (Pst c μ' ρ' σ') → MOk c.M F' H' μ' → SlOk c.M F' H' μ' ρ' σ' → De.nx ρ' μ' → Dn.nx σ' H'
  rt : ∀ v d F' H' μ', Ev F H P F' H' (c.ft μ') → MOk c.M F' H' μ' → Rep F' v d → De.rt d μ' → Dn.rt v H'
  bk : ∀ F' H' μ' ρ' σ', Ev F H P F' H' (Pst c μ' ρ' σ') → MOk c.M F' H' μ' → SlOk c.M F' H' μ' ρ' σ' → De.bk ρ' μ' → Dn.bk σ' H'
  ct : ∀ F' H' μ' ρ' σ', Ev F H P F' H' (Pst c μ' ρ' σ') → MOk c.M F' H' μ' → SlOk c.M F' H' μ' ρ' σ' → De.ct ρ' μ' → Dn.ct σ' H'
  ex : ∀ e F' H' μ' ρ' σ' cls dd, Ev F H P F' H' (Pst c μ' ρ' σ') → MOk c.M F' H' μ' → SlOk c.M F' H' μ' ρ' σ' → De.ex e ρ' μ' → c.M.ex e cls dd H' → c.W cls dd σ' H'
theorem Kp.go {F H F1 H1 : Hp} {P P1 : Addr → Prop} {Dn : Ends} {De : DEnds c} (k : Kp c F H P Dn De) (e : Ev F H P F1 H1 P1) : Kp c F1 H1 P1 Dn De :=
  ⟨fun F' H' μ' ρ' σ' e' => k.nx F' H' μ' ρ' σ' (e.trans e'), fun v d F' H' μ' e' => k.rt v d F' H' μ' (e.trans e'), fun F' H' μ' ρ' σ' e' => k.bk F' H' μ' ρ' σ' (e.trans e'), fun F' H' μ' ρ' σ' e' => k.ct F' H' μ' ρ' σ' (e.trans e'), fun er F' H' μ' ρ' σ' cls dd e' => k.ex er F' H' μ' ρ' σ' cls dd (e.trans e')⟩
def SndS (c : Ctx) (t : TS) (f : DS c) : Prop := ∀ (F H : Hp) (μ : c.T) (ρ : En) (σ : L2.St) (Dn : Ends) (De : DEnds c), MOk c.M F H μ → SlOk c.M F H μ ρ σ → f De ρ μ → Kp c F H (Pst c μ ρ σ) Dn De → t Dn σ H
def PSd (c : Ctx) (st : Stmt) (f : DS c) : Prop := ∃ t : TS, (∀ X, c.In X → PS X st t) ∧ SndS c t f
def PSsd (c : Ctx) (st : List Stmt) (f : DS c) : Prop := ∃ t : TS, (∀ X, c.In X → PSs X st t) ∧ SndS c t f
theorem Ev.pst {F H F' H' : Hp} {μ μ' : c.T} {ρ : En} {σ : L2.St} (e : Ev F H (c.ft μ) F' H' (c.ft μ')) : Ev F H (Pst c μ ρ σ) F' H' (Pst c μ' ρ σ) where
  fr := e.fr
  nw := fun b o h n nt => e.nw b o h (fun q => n (.inl q)) nt
  kp := fun b o h n => e.kp b o h fun q => n (.inl q)
  ft := fun b q => q.elim (fun z => (e.ft b z).elim (fun z => .inl (.inl z)) .inr) fun z => .inl (.inr z)
  tr := e.tr
theorem Ev.pst0 {F H F' H' : Hp} {μ μ' : c.T} {ρ : En} {σ : L2.St} (e : Ev F H (c.ft μ) F' H' (c.ft μ')) : Ev F H (Pst c μ ρ σ) F' H' (c.ft μ') where
  fr := e.fr
  nw := fun b o h n nt => e.nw b o h (fun q => n (.inl q)) nt
  kp := fun b o h n => e.kp b o h fun q => n (.inl q)
  ft := fun b q => (e.ft b q).elim (fun z => .inl (.inl z)) .inr
  tr := e.tr

/-! part DLg -/
def nextS : DS c := fun De ρ μ => De.nx ρ μ
def seqS (f g : DS c) : DS c := fun De ρ μ => f { De with nx := fun ρ' μ' => g De ρ' μ' } ρ μ
theorem pssd_nil : PSsd c [] nextS := ⟨tNext, fun _ _ => pss_nil, fun F H μ ρ σ Dn De m s hf k => k.nx F H μ ρ σ (Ev.refl _ _ _) m s hf⟩
theorem pssd_cons {st : Stmt} {rest : List Stmt} {f g : DS c} (h1 : PSd c st f) (h2 : PSsd c rest g) : PSsd c (st :: rest) (seqS f g) := by
  obtain ⟨t, t1, t2⟩ := h1
  obtain ⟨u, u1, u2⟩ := h2
  refine ⟨tSeq t u, fun X h => pss_cons (t1 X h) (u1 X h), fun F H μ ρ σ Dn De m s hf k => ?_⟩
  refine t2 F H μ ρ σ { Dn with nx := u Dn } { De with nx := fun ρ' μ' => g De ρ' μ' } m s hf ⟨fun F' H' μ' ρ' σ' e m' s' q => ?_, k.rt, k.bk, k.ct, k.ex⟩
  exact u2 F' H' μ' ρ' σ' Dn De m' s' q (k.go e)
theorem pssd_one {st : Stmt} {f : DS c} (h1 : PSd c st f) : PSsd c [st] f := by
  obtain ⟨t, t1, t2⟩ := h1
  exact ⟨t, fun X h => pss_one (t1 X h), t2⟩
def neverS : DS c := fun _ _ _ => False
theorem pssd_never {sts : List Stmt} : PSsd c sts neverS := ⟨tNever, fun _ _ => pss_never, fun F H μ ρ σ Dn De m s hf k => hf.elim⟩
theorem psd_pass {pos} : PSd c (.Pass pos) nextS := ⟨tNext, fun _ _ => ps_pass, fun F H μ ρ σ Dn De m s hf k => k.nx F H μ ρ σ (Ev.refl _ _ _) m s hf⟩
theorem psd_break {pos} : PSd c (.Break pos) (fun De ρ μ => De.bk ρ μ) := ⟨tBreak, fun _ _ => ps_break, fun F H μ ρ σ Dn De m s hf k => k.bk F H μ ρ σ (Ev.refl _ _ _) m s hf⟩
def retS (fe : DE c D) : DS c := fun De ρ μ => fe ρ μ De.rt fun e μ' => De.ex e ρ μ'
theorem psd_ret {e : Expr} {fe : DE c D} {pos} (he : PD c e fe) : PSd c (.Return (some e) pos) (retS fe) := by
  obtain ⟨t, t1, t2⟩ := he
  refine ⟨tRet t, fun X h => ps_ret (t1 X h), fun F H μ ρ σ Dn De m s hf k => ?_⟩
  exact t2 F H μ ρ σ _ _ _ m s trivial hf (fun v d F' H' μ' e m' r q => k.rt v d F' H' μ' e.pst0 m' r q) fun er F' H' μ' cls dd e m' q x => k.ex er F' H' μ' ρ σ cls dd e.pst m' (s.ev e) q x
theorem psd_retN {pos} : PSd c (.Return none pos) (fun De ρ μ => De.rt .non μ) := ⟨tRetN, fun _ _ => ps_retN, fun F H μ ρ σ Dn De m s hf k => k.rt .non .non F H μ (Ev.refl F H (c.ft μ)).pst0 m .non hf⟩
def exprS (fe : DE c D) : DS c := fun De ρ μ => fe ρ μ (fun _ μ' => De.nx ρ μ') fun e μ' => De.ex e ρ μ'
theorem psd_expr {e : Expr} {fe : DE c D} {pos} (he : PD c e fe) (hs : ∀ env, swapsWith e none pos.line env = pure false := by intro _; rfl) : PSd c (.Expr e pos) (exprS fe) := by
  obtain ⟨t, t1, t2⟩ := he
  refine ⟨tDrop t, fun X h => ps_expr (t1 X h) (hs _), fun F H μ ρ σ Dn De m s hf k => ?_⟩
  exact t2 F H μ ρ σ _ _ _ m s trivial hf (fun v d F' H' μ' e m' r q => k.nx F' H' μ' ρ σ e.pst m' (s.ev e) q) fun er F' H' μ' cls dd e m' q x => k.ex er F' H' μ' ρ σ cls dd e.pst m' (s.ev e) q x
def ifS (ft : DE c Bool) (f g : DS c) : DS c := fun De ρ μ => ft ρ μ (fun b μ' => if b = true then f De ρ μ' else g De ρ μ') fun e μ' => De.ex e ρ μ'
theorem psd_if {t : Expr} {a b : List Stmt} {ft : DE c Bool} {f g : DS c} {pos} (ht : PB c t ft) (ha : PSsd c a f) (hb : PSsd c b g) : PSd c (.If t a b pos) (ifS ft f g) := by
  obtain ⟨tt, t1, t2⟩ := ht
  obtain ⟨ta, a1, a2⟩ := ha
  obtain ⟨tb, b1, b2⟩ := hb
  refine ⟨tIfS tt ta tb, fun X h => ps_if (t1 X h) (a1 X h) (b1 X h), fun F H μ ρ σ Dn De m s hf k => ?_⟩
  refine t2 F H μ ρ σ _ _ _ m s trivial hf (fun v d F' H' μ' e m' r q => ?_) fun er F' H' μ' cls dd e m' q x => k.ex er F' H' μ' ρ σ cls dd e.pst m' (s.ev e) q x
  subst r
  cases v with
  | true => exact a2 F' H' μ' ρ σ Dn De m' (s.ev e) q (k.go e.pst)
  | false => exact b2 F' H' μ' ρ σ Dn De m' (s.ev e) q (k.go e.pst)

/-! part DLg -/
/-- what comes may be data, or a container of one's own -/
def RXr (c : Ctx) : Hp → Hp → Hp → c.T → V → Sl → Prop := fun H0 F H μ v sl => match sl with
  | .un => False
  | .fz d => Rep F v d
  | .ow co => RO c H0 F H μ v co
abbrev RX (c : Ctx) : Rl c V Sl := RXr c
def PX (c : Ctx) (e : Expr) (f : DE c Sl) : Prop := ∃ t : TE, (∀ X, c.In X → PE X e t) ∧ SndG c (fun _ _ _ => True) (RX c) t f
def fzE (f : DE c D) : DE c Sl := fun ρ μ Q E => f ρ μ (fun d μ' => Q (.fz d) μ') E
def owE (f : DE c Co) : DE c Sl := fun ρ μ Q E => f ρ μ (fun d μ' => Q (.ow d) μ') E
theorem PD.px {e : Expr} {f : DE c D} (h : PD c e f) : PX c e (fzE f) := by
  obtain ⟨t, h1, h2⟩ := h
  exact ⟨t, h1, fun F H μ ρ σ Q E Qh m s p hf kq ke => h2 F H μ ρ σ _ E Qh m s trivial hf (fun v d F1 H1 μ1 e1 m1 r q => kq v (.fz d) F1 H1 μ1 e1 m1 r q) ke⟩
theorem snd_owX {t : TE} {f : DE c Co} (h2 : SndG c (fun _ _ _ => True) (RO c) t f) : SndG c (fun _ _ _ => True) (RX c) t (owE f) :=
  fun F H μ ρ σ Q E Qh m s p hf kq ke => h2 F H μ ρ σ _ E Qh m s trivial hf (fun v d F1 H1 μ1 e1 m1 r q => kq v (.ow d) F1 H1 μ1 e1 m1 r q) ke
theorem PN.px {e : Expr} {f : DE c Co} (h : PN c e f) : PX c e (owE f) := by
  obtain ⟨t, h1, h2⟩ := h
  exact ⟨t, h1, snd_owX h2⟩
theorem getset {α : Type} {l : List α} {i j : Nat} {x y : α} (h : (l.set i x)[j]? = some y) : (j = i ∧ y = x ∧ i < l.length) ∨ (j ≠ i ∧ l[j]? = some y) := by
  by_cases e : j = i
  · subst e
    have hl : j < l.length := by
      have := (List.getElem?_eq_some_iff.mp h).1
      simpa using this
    rw [List.getElem?_set_self hl] at h
    cases h
    exact .inl ⟨rfl, rfl, hl⟩
  · rw [List.getElem?_set_ne (Ne.symm e)] at h
    exact .inr ⟨e, h⟩
/-- the slots behind a store of data, or of a fresh container -/
theorem SlOk.store {M : MM} {F H : Hp} {μ : M.T} {ρ : En} {σ : L2.St} {i : Nat} {v : V} {sl : Sl} (s : SlOk M F H μ ρ σ)
    (hv : match sl with | .un => False | .fz d => Rep F v d | .ow co => ∃ a, v = .ref a ∧ F a = none ∧ ¬ M.foot μ a ∧ CoAt F H a co ∧ ∀ j c, j ≠ i → ρ[j]? = some (Sl.ow c) → σ[j]? ≠ some (some (.ref a))) : SlOk M F H μ (ρ.set i sl) (σ.set i (some v)) where
  fz := fun j d h => by
    rcases getset h with ⟨rfl, rfl, hl⟩ | ⟨ne, h⟩
    · exact ⟨v, List.getElem?_set_self (by rw [← s.len]; exact hl), hv⟩
    · obtain ⟨w, h1, h2⟩ := s.fz j d h
      exact ⟨w, by rw [List.getElem?_set_ne (Ne.symm ne)]; exact h1, h2⟩
  ow := fun j co h => by
    rcases getset h with ⟨rfl, rfl, hl⟩ | ⟨ne, h⟩
    · obtain ⟨a, rfl, h1, h2, h3, _⟩ := hv
      exact ⟨a, List.getElem?_set_self (by rw [← s.len]; exact hl), h1, h2, h3⟩
    · obtain ⟨w, h1, h2⟩ := s.ow j co h
      exact ⟨w, by rw [List.getElem?_set_ne (Ne.symm ne)]; exact h1, h2⟩
  ap := fun j l co co' a h1 h2 h3 h4 => by
    rcases getset h1 with ⟨rfl, e1, hl⟩ | ⟨ne, g1⟩
    · rcases getset h2 with ⟨rfl, _, _⟩ | ⟨ne2, g2⟩
      · rfl
      · subst e1
        obtain ⟨a', rfl, _, _, _, h5⟩ := hv
        rw [List.getElem?_set_self (by rw [← s.len]; exact hl)] at h3
        cases h3
        rw [List.getElem?_set_ne (Ne.symm ne2)] at h4
        exact absurd h4 (h5 l _ ne2 g2)
    · rcases getset h2 with ⟨rfl, e2, hl⟩ | ⟨ne2, g2⟩
      · subst e2
        obtain ⟨a', rfl, _, _, _, h5⟩ := hv
        rw [List.getElem?_set_self (by rw [← s.len]; exact hl)] at h4
        cases h4
        rw [List.getElem?_set_ne (Ne.symm ne)] at h3
        exact absurd h3 (h5 j _ ne g1)
      · rw [List.getElem?_set_ne (Ne.symm ne)] at h3
        rw [List.getElem?_set_ne (Ne.symm ne2)] at h4
        exact s.ap j l co co' a g1 g2 h3 h4
  len := by simp [s.len]
theorem own_set {ρ : En} {σ : L2.St} {i : Nat} {v : V} {sl : Sl} {b : Addr} (h : Own (ρ.set i sl) (σ.set i (some v)) b) : Own ρ σ b ∨ (v = .ref b ∧ ∃ co, sl = .ow co) := by
  obtain ⟨j, co, h1, h2⟩ := h
  rcases getset h1 with ⟨rfl, e, hl⟩ | ⟨ne, h1⟩
  · rcases getset h2 with ⟨_, e2, _⟩ | ⟨ne, _⟩
    · cases e2
      exact .inr ⟨rfl, co, e.symm⟩
    · exact absurd rfl ne
  · rw [List.getElem?_set_ne (Ne.symm ne)] at h2
    exact .inl ⟨j, co, h1, h2⟩
/-- the state behind a store of what an expression gave -/
theorem stored {F H F1 H1 : Hp} {μ μ1 : c.T} {ρ : En} {σ : L2.St} {i : Nat} {v : V} {sl : Sl} (s : SlOk c.M F H μ ρ σ) (e : Ev F H (c.ft μ) F1 H1 (c.ft μ1)) (r : RXr c H F1 H1 μ1 v sl) :
    SlOk c.M F1 H1 μ1 (ρ.set i sl) (σ.set i (some v)) ∧ Ev F H (Pst c μ ρ σ) F1 H1 (Pst c μ1 (ρ.set i sl) (σ.set i (some v))) := by
  have fresh : ∀ a co, sl = .ow co → v = .ref a → H a = none := fun a co h1 h2 => by
    subst h1; subst h2
    obtain ⟨a', e1, h, _⟩ := r
    cases e1
    exact h
  refine ⟨(s.ev e).store ?_, ⟨e.fr, fun b o h n nt => e.nw b o h (fun q => n (.inl q)) nt, fun b o h n => e.kp b o h fun q => n (.inl q), fun b q => ?_, e.tr⟩⟩
  · cases sl with
    | un => exact r
    | fz d => exact r
    | ow co =>
      obtain ⟨a, rfl, h1, h2, h3, h4⟩ := r
      refine ⟨a, rfl, h2, h3, h4, fun j co' ne hj hz => ?_⟩
      obtain ⟨_, _, o, ho⟩ := s.own ⟨j, co', hj, hz⟩
      rw [h1] at ho; cases ho
  · rcases q with q | q
    · rcases e.ft b q with z | z
      · exact .inl (.inl z)
      · exact .inr z
    · rcases own_set q with z | ⟨z, co, hco⟩
      · exact .inl (.inr z)
      · exact .inr (fresh b co hco z)
def setS (i : Nat) (fe : DE c Sl) : DS c := fun De ρ μ => fe ρ μ (fun sl μ' => De.nx (ρ.set i sl) μ') fun e μ' => De.ex e ρ μ'
theorem snd_set {i : Nat} {t : TE} {fe : DE c Sl} (h2 : SndG c (fun _ _ _ => True) (RX c) t fe) : SndS c (tAsg t (gName i)) (setS i fe) := fun F H μ ρ σ Dn De m s hf k => by
  refine h2 F H μ ρ σ _ _ _ m s trivial hf (fun v sl F' H' μ' e m' r q => ?_) fun er F' H' μ' cls dd e m' q x => k.ex er F' H' μ' ρ σ cls dd e.pst m' (s.ev e) q x
  obtain ⟨s1, e1⟩ := stored (i := i) s e r
  exact k.nx F' H' μ' _ _ e1 m' s1 q
theorem psd_set (i : Nat) {x : Str} {e : Expr} {fe : DE c Sl} {pos pos'} (he : PX c e fe) (hi : c.N[i]? = some x := by rfl) (hl : Loc c.os x := by first | exact Or.inl rfl | exact Or.inr rfl) (hs : ∀ env, swapsWith e (some (.Name x pos')) pos.line env = pure false := by intro _; rfl) :
    PSd c (.Assign [.Name x pos'] e pos) (setS i fe) := by
  obtain ⟨t, t1, t2⟩ := he
  exact ⟨tAsg t (gName i), fun X h => ps_set h.ndX (h.nx hi) (h.fn x hl).1 (t1 X h) (hs _) (h.fn x hl).2, snd_set t2⟩

/-! part DLg -/
def PGd (c : Ctx) (tg : Expr) (sl : List Nat) (g : D → En → Option En) : Prop := ∃ t : TG, (∀ X, c.In X → PG X tg t) ∧
  ∀ (F H : Hp) (μ : c.T) (ρ ρ' : En) (σ : L2.St) (v : V) (d : D) (Q : L2.St → Hp → Prop), MOk c.M F H μ → SlOk c.M F H μ ρ σ → Rep F v d → g d ρ = some ρ' →
    (∀ σ', SlOk c.M F H μ ρ' σ' → (∀ b, Own ρ' σ' b → Own ρ σ b) → (∀ j, j ∉ sl → σ'[j]? = σ[j]?) → σ'.length = σ.length → Q σ' H) → t v σ H Q
def PGsd (c : Ctx) (tg : List Expr) (sl : List Nat) (g : List D → En → Option En) : Prop := ∃ t : TGs, (∀ X, c.In X → PGs X tg t) ∧
  ∀ (F H : Hp) (μ : c.T) (ρ ρ' : En) (σ : L2.St) (vs : List V) (ds : List D) (Q : L2.St → Hp → Prop), MOk c.M F H μ → SlOk c.M F H μ ρ σ → RepL F vs ds → g ds ρ = some ρ' →
    (∀ σ', SlOk c.M F H μ ρ' σ' → (∀ b, Own ρ' σ' b → Own ρ σ b) → (∀ j, j ∉ sl → σ'[j]? = σ[j]?) → σ'.length = σ.length → Q σ' H) → t vs σ H Q
def tgN (i : Nat) : D → En → Option En := fun d ρ => some (ρ.set i (.fz d))
theorem pgd_name (i : Nat) {x : Str} {pos} (hi : c.N[i]? = some x := by rfl) (hl : Loc c.os x := by first | exact Or.inl rfl | exact Or.inr rfl) : PGd c (.Name x pos) [i] (tgN i) := by
  refine ⟨gName i, fun X h => pg_name h.ndX (h.nx hi) (h.fn x hl).1 (h.fn x hl).2, fun F H μ ρ ρ' σ v d Q m s r e k => ?_⟩
  cases e
  refine k _ (s.store r) (fun b q => ?_) (fun j hj => ?_) (by simp)
  · rcases own_set q with z | ⟨_, _, z⟩
    · exact z
    · cases z
  · rw [List.getElem?_set_ne]
    intro z; exact hj (by simp [z])
def tgsNil : List D → En → Option En
  | [], ρ => some ρ
  | _, _ => none
def tgsCons (g : D → En → Option En) (gs : List D → En → Option En) : List D → En → Option En
  | d :: ds, ρ => (g d ρ).bind fun ρ' => gs ds ρ'
  | [], _ => none
theorem pgsd_nil : PGsd c [] [] tgsNil := ⟨gNil, fun _ _ => pgs_nil, fun F H μ ρ ρ' σ vs ds Q m s r e k => by
  cases r with
  | nil => cases e; exact ⟨rfl, k σ s (fun _ h => h) (fun _ _ => rfl) rfl⟩
  | cons _ _ => cases e⟩
theorem pgsd_cons {e : Expr} {es : List Expr} {sl sls : List Nat} {g : D → En → Option En} {gs : List D → En → Option En} (h1 : PGd c e sl g) (h2 : PGsd c es sls gs)
    (hs : ∀ env, (assignEach (e :: es) env).map (·.2) = assign e env :: (assignEach es env).map (·.2) := by intro _; rfl) : PGsd c (e :: es) (sl ++ sls) (tgsCons g gs) := by
  obtain ⟨t, t1, t2⟩ := h1
  obtain ⟨u, u1, u2⟩ := h2
  refine ⟨gCons t u, fun X h => pgs_cons (t1 X h) (u1 X h) (hs _), fun F H μ ρ ρ' σ vs ds Q m s r e k => ?_⟩
  cases r with
  | nil => cases e
  | cons r rr =>
    rename_i v vs' d ds'
    obtain ⟨ρ1, e1, e2⟩ := Option.bind_eq_some_iff.mp (show (g d ρ).bind (fun ρ' => gs ds' ρ') = some ρ' from e)
    refine ⟨v, vs', rfl, t2 F H μ ρ ρ1 σ v d _ m s r e1 fun σ1 s1 o1 j1 l1 => ?_⟩
    refine u2 F H μ ρ1 ρ' σ1 vs' ds' Q m s1 rr e2 fun σ2 s2 o2 j2 l2 => k σ2 s2 (fun b q => o1 b (o2 b q)) (fun j hj => ?_) (l2.trans l1)
    have hj' := fun z => hj (List.mem_append.mpr z)
    rw [j2 j fun z => hj' (.inr z), j1 j fun z => hj' (.inl z)]
def tgTup (n : Nat) (gs : List D → En → Option En) : D → En → Option En
  | .tup ds, ρ => if ds.length = n then gs ds ρ else none
  | _, _ => none
theorem pgd_tup {es : List Expr} {k : Nat} {sl : List Nat} {gs : List D → En → Option En} {n : Nat} {pos} (h : PGsd c es sl gs) (hn : ∀ env, (assignEach es env).length = n := by intro _; rfl) (hst : ∀ env, (assignEach es env).findIdx? (·.1) = none := by intro _; rfl) :
    PGd c (.Tuple es k pos) sl (tgTup n gs) := by
  obtain ⟨t, t1, t2⟩ := h
  refine ⟨gTup c.K n t, fun X h => by rw [← h.hK]; exact pg_tup h.cl (t1 X h) (hn _) (hst _), fun F H μ ρ ρ' σ v d Q m s r e k => ?_⟩
  cases r <;> simp only [tgTup, reduceCtorEq] at e
  rename_i ha rr
  split at e
  · rename_i hl
    exact ⟨_, _, rfl, SqT.of (m.fh _ _ ha), by rw [rr.length]; exact hl, t2 F H μ ρ ρ' σ _ _ Q m s rr e k⟩
  · cases e
/-- target = e -/
def asgS (g : D → En → Option En) (fe : DE c D) : DS c := fun De ρ μ => fe ρ μ (fun d μ' => ∃ ρ', g d ρ = some ρ' ∧ De.nx ρ' μ') fun e μ' => De.ex e ρ μ'
theorem own_ev {F H : Hp} {μ : c.T} {ρ ρ' : En} {σ σ' : L2.St} (h : ∀ b, Own ρ' σ' b → Own ρ σ b) : Ev F H (Pst c μ ρ σ) F H (Pst c μ ρ' σ') :=
  ⟨Same.refl _, fun _ _ _ _ _ => rfl, fun _ _ h _ => h, fun b q => .inl (q.elim .inl fun z => .inr (h b z)), fun _ o h => ⟨o, h⟩⟩
theorem psd_asg {tg e : Expr} {sl : List Nat} {g : D → En → Option En} {fe : DE c D} {pos} (he : PD c e fe) (hg : PGd c tg sl g) (hs : ∀ X, c.In X → swapsWithSole [tg] e pos.line X.env = pure false := by intro _ _; rfl) (hw : ∀ X, c.In X → swappedStores [tg] e X.env = pure none := by intro _ _; rfl)
    (h1 : ∀ env, (assignEach [tg] env).map (·.2) = [assign tg env] := by intro _; rfl) : PSd c (.Assign [tg] e pos) (asgS g fe) := by
  obtain ⟨t, t1, t2⟩ := he
  obtain ⟨u, u1, u2⟩ := hg
  refine ⟨tAsg t u, fun X h => ps_asg (t1 X h) (u1 X h) (hs X h) (hw X h) (h1 _), fun F H μ ρ σ Dn De m s hf k => ?_⟩
  refine t2 F H μ ρ σ _ _ _ m s trivial hf (fun v d F' H' μ' e m' r q => ?_) fun er F' H' μ' cls dd e m' q x => k.ex er F' H' μ' ρ σ cls dd e.pst m' (s.ev e) q x
  obtain ⟨ρ', e1, q⟩ := q
  exact u2 F' H' μ' ρ ρ' σ v d _ m' (s.ev e) r e1 fun σ' s' o _ _ => k.nx F' H' μ' ρ' σ' (e.pst.trans (own_ev o)) m' s' q
end DL

set_option Elab.async false
set_option linter.all false
set_option maxRecDepth 100000
set_option maxHeartbeats 4000000
/-! part DLh -/
namespace DL
open PySem PySem.Spec L2
variable {c : Ctx}

/-! part DLh -/
theorem SlOk.change {M : MM} {F H : Hp} {μ : M.T} {ρ : En} {σ : L2.St} {i : Nat} {a : Addr} {co co' : Co} {o : HO} (s : SlOk M F H μ ρ σ) (hi : ρ[i]? = some (Sl.ow co)) (ha : σ[i]? = some (some (V.ref a)))
    (hc : CoAt F (upd H a o) a co') : SlOk M F (upd H a o) μ (ρ.set i (.ow co')) σ where
  fz := fun j d h => by
    rcases getset h with ⟨_, e, _⟩ | ⟨_, h⟩
    · cases e
    · exact s.fz j d h
  ow := fun j e h => by
    rcases getset h with ⟨rfl, e1, _⟩ | ⟨ne, h⟩
    · cases e1
      obtain ⟨b, h1, h2, h3, _⟩ := s.ow j _ hi
      rw [ha] at h1; cases h1
      exact ⟨a, ha, h2, h3, hc⟩
    · obtain ⟨b, h1, h2, h3, h4⟩ := s.ow j _ h
      refine ⟨b, h1, h2, h3, h4.mono (Same.refl _) (upd_ne fun z => ?_)⟩
      subst z
      exact ne (s.ap j i _ _ _ h hi h1 ha)
  ap := fun j l e e' b h1 h2 h3 h4 => by
    have g1 : ∃ e, ρ[j]? = some (Sl.ow e) := by
      rcases getset h1 with ⟨rfl, _, _⟩ | ⟨_, h⟩
      · exact ⟨_, hi⟩
      · exact ⟨_, h⟩
    have g2 : ∃ e, ρ[l]? = some (Sl.ow e) := by
      rcases getset h2 with ⟨rfl, _, _⟩ | ⟨_, h⟩
      · exact ⟨_, hi⟩
      · exact ⟨_, h⟩
    obtain ⟨_, g1⟩ := g1
    obtain ⟨_, g2⟩ := g2
    exact s.ap j l _ _ b g1 g2 h3 h4
  len := by simp [s.len]
theorem own_mut {ρ : En} {σ : L2.St} {i : Nat} {co co' : Co} (hi : ρ[i]? = some (Sl.ow co)) {b : Addr} (h : Own (ρ.set i (.ow co')) σ b) : Own ρ σ b := by
  obtain ⟨j, e, h1, h2⟩ := h
  rcases getset h1 with ⟨rfl, _, _⟩ | ⟨_, h⟩
  · exact ⟨_, _, hi, h2⟩
  · exact ⟨_, _, h, h2⟩
theorem changed {F H : Hp} {μ : c.T} {ρ : En} {σ : L2.St} {i : Nat} {a : Addr} {co co' : Co} {o : HO} (m : MOk c.M F H μ) (s : SlOk c.M F H μ ρ σ) (hi : ρ[i]? = some (Sl.ow co)) (ha : σ[i]? = some (some (V.ref a)))
    (hc : CoAt F (upd H a o) a co') : MOk c.M F (upd H a o) μ ∧ SlOk c.M F (upd H a o) μ (ρ.set i (.ow co')) σ ∧ Ev F H (Pst c μ ρ σ) F (upd H a o) (Pst c μ (ρ.set i (.ow co')) σ) := by
  have ow : Own ρ σ a := ⟨i, co, hi, ha⟩
  obtain ⟨f1, f2, u, f3⟩ := s.own ow
  refine ⟨⟨same_upd' f1 m.fh, c.M.stay m.ok fun b hb => upd_ne fun z => f2 (by rw [← z]; exact hb), m.nf⟩, s.change hi ha hc, ⟨Same.refl _, fun _ _ _ _ _ => rfl, fun b w h n => ?_, fun b q => ?_, fun b w h => ?_⟩⟩
  · rw [upd_ne fun z => n (.inr (by rw [z]; exact ow))]; exact h
  · exact .inl (q.elim .inl fun z => .inr (own_mut hi z))
  · by_cases e : b = a
    · exact ⟨o, by rw [e, upd_same]⟩
    · exact ⟨w, by rw [upd_ne e]; exact h⟩
/-- x.append(e) -/
def appS (i : Nat) (fe : DE c D) : DS c := fun De ρ μ => ∃ ds, ρ[i]? = some (Sl.ow (.lst ds)) ∧ fe ρ μ (fun d μ' => ds.length < sizeLine ∧ De.nx (ρ.set i (.ow (.lst (ds ++ [d])))) μ') fun e μ' => De.ex e ρ μ'
theorem psd_append (i : Nat) {x : Str} {e : Expr} {fe : DE c D} {p apos cpos pos} (he : PD c e fe) (hi : c.N[i]? = some x := by rfl) (hv : Vis c.sc x := by first | exact Or.inl rfl | exact Or.inr (Or.inl rfl) | exact Or.inr (Or.inr rfl))
    (hb : ∀ X, c.In X → ∀ te, PE X e te → PE X (.Name x p) (tVar i) → PE X (.Call (.Attribute (.Name x p) "append" apos) [e] [] cpos) (tBM X.K "list" rAppend (tVar i) (tCons te tNil)) := by
      intro X h te h1 h2; exact pe_bm PySem.F.plainAttrs_list PySem.F.slot_list_append PySem.F.type_list_append mt_append h2 (pa_cons h1 pa_nil))
    (hd : (x == ("__debug__" : Str)) = false := by decide) (hcd : (x == ("__classdict__" : Str)) = false := by decide) (hs : ∀ env, swapsWith (.Call (.Attribute (.Name x p) "append" apos) [e] [] cpos) none pos.line env = pure false := by intro _; rfl) :
    PSd c (.Expr (.Call (.Attribute (.Name x p) "append" apos) [e] [] cpos) pos) (appS i fe) := by
  obtain ⟨t, t1, t2⟩ := he
  refine ⟨tDrop (tBM c.K "list" rAppend (tVar i) (tCons t tNil)), fun X h => by rw [← h.hK]; exact ps_expr (hb X h t (t1 X h) (pe_var (h.nx hi) (h.vis hv) hd hcd)) (hs _), fun F H μ ρ σ Dn De m s hf k => ?_⟩
  obtain ⟨ds, e1, hf⟩ := hf
  obtain ⟨a, h1, h2, h3, vs, h4, h5⟩ := s.ow i _ e1
  refine ⟨_, h1, .inl ⟨rfl, _, SqL.of h4⟩, ?_⟩
  refine t2 F H μ ρ σ _ _ _ m s trivial hf (fun v d F' H' μ' e m' r q => ?_) fun er F' H' μ' cls dd e m' q x => k.ex er F' H' μ' ρ σ cls dd e.pst m' (s.ev e) q x
  have g4 : H' a = some (.lst vs) := e.kp a _ h4 h3
  refine ⟨a, vs, v, rfl, rfl, g4, by rw [h5.length]; exact q.1, ?_⟩
  obtain ⟨m2, s2, e2⟩ := changed (co' := .lst (ds ++ [d])) (o := .lst (vs ++ [v])) m' (s.ev e) e1 h1 ⟨_, upd_same, (h5.mono e.fr).append (.cons r .nil)⟩
  exact k.nx F' _ μ' _ σ (e.pst.trans e2) m2 s2 q.2
/-- x[k] = v, x a dict of one's own -/
def putCo (co : Co) (k d : D) : Option Co := match co with
  | .dK kvs => match keyOf k, toV d with
    | some k, some v => if kvs.length < sizeLine then some (.dK (putK kvs k v)) else none
    | _, _ => none
  | .dT kvs => match k with
    | .tup ds => match keysOf ds, toV d with
      | some k, some v => if kvs.length < sizeLine then some (.dT (putK kvs k v)) else none
      | _, _ => none
    | _ => none
  | .lst _ => none
def putS (i : Nat) (fk fv : DE c D) : DS c := fun De ρ μ => ∃ co, ρ[i]? = some (Sl.ow co) ∧ fv ρ μ (fun v μ1 => fk ρ μ1 (fun k μ2 => ∃ co', putCo co k v = some co' ∧ De.nx (ρ.set i (.ow co')) μ2) fun e μ' => De.ex e ρ μ') fun e μ' => De.ex e ρ μ'
theorem putCo_at {F H : Hp} {a : Addr} {co co' : Co} {k d : D} {y v : V} (fh : Same F H) (hc : CoAt F H a co) (rk : Rep F y k) (rv : Rep F v d) (h : putCo co k d = some co') : ∃ o, DPut H a y v (upd H a o) ∧ CoAt F (upd H a o) a co' := by
  cases co with
  | lst ds => cases h
  | dK kvs =>
    simp only [putCo] at h
    split at h
    · rename_i k' v' h1 h2
      split at h
      · rename_i hl
        cases h
        rw [toV_rep rv h2, keyOf_rep rk h1]
        exact ⟨_, DPut.k hc hl, upd_same⟩
      · cases h
    · cases h
  | dT kvs =>
    cases rk <;> simp only [putCo, reduceCtorEq] at h
    rename_i hb rb
    split at h
    · rename_i k' v' h1 h2
      split at h
      · rename_i hl
        cases h
        rw [toV_rep rv h2]
        exact ⟨_, DPut.t hc (by rw [fh _ _ hb, keysOf_rep rb h1]) hl, upd_same⟩
      · cases h
    · cases h
theorem psd_put (i : Nat) {x : Str} {k v : Expr} {fk fv : DE c D} {p pos' pos} (hk : PD c k fk) (hval : PD c v fv) (hi : c.N[i]? = some x := by rfl) (hv : Vis c.sc x := by first | exact Or.inl rfl | exact Or.inr (Or.inl rfl) | exact Or.inr (Or.inr rfl)) (hd : (x == ("__debug__" : Str)) = false := by decide) (hcd : (x == ("__classdict__" : Str)) = false := by decide)
    (hs : ∀ env, swapsWith v (some (.Subscript (.Name x p) k pos')) pos.line env = pure false := by intro _; rfl) : PSd c (.Assign [.Subscript (.Name x p) k pos'] v pos) (putS i fk fv) := by
  obtain ⟨tk, k1, k2⟩ := hk
  obtain ⟨tv, v1, v2⟩ := hval
  refine ⟨sDPut (tVar i) tk tv, fun X h => ps_dput h.hu1 (pe_var (h.nx hi) (h.vis hv) hd hcd) (k1 X h) (v1 X h) (hs _), fun F H μ ρ σ Dn De m s hf k => ?_⟩
  obtain ⟨co, h1, hf⟩ := hf
  obtain ⟨a, ha, g2, g3, g4⟩ := s.ow i _ h1
  refine v2 F H μ ρ σ _ _ _ m s trivial hf (fun vv d F1 H1 μ1 e1 m1 r1 q1 => ?_) fun er F' H' μ' cls dd e m' q x => k.ex er F' H' μ' ρ σ cls dd e.pst m' (s.ev e) q x
  have s1 := s.ev e1
  refine ⟨_, ha, ?_⟩
  refine k2 F1 H1 μ1 ρ σ _ _ _ m1 s1 trivial q1 (fun y kd F2 H2 μ2 e2 m2 r2 q2 => ?_) fun er F' H' μ' cls dd e m' q x => k.ex er F' H' μ' ρ σ cls dd (e1.trans e).pst m' (s1.ev e) q x
  obtain ⟨co', h2, q⟩ := q2
  have s2 := s1.ev e2
  obtain ⟨a', g1, g2, g3, g4⟩ := s2.ow i _ h1
  rw [ha] at g1; cases g1
  obtain ⟨o, p1, p2⟩ := putCo_at m2.fh g4 r2 (r1.mono e2.fr) h2
  obtain ⟨m3, s3, e3⟩ := changed (co' := co') (o := o) m2 s2 h1 ha p2
  exact ⟨_, _, rfl, p1, k.nx F2 _ μ2 _ σ ((e1.trans e2).pst.trans e3) m3 s3 q⟩
end DL

set_option Elab.async false
set_option linter.all false
set_option maxRecDepth 100000
set_option maxHeartbeats 4000000
/-! part DLi -/
namespace DL
open PySem PySem.Spec L2
variable {c : Ctx}

/-! part DLi -/
def freezeEn (ρ : En) (i : Nat) : En := match ρ[i]? with
  | some (.ow co) => ρ.set i (.fz co.d)
  | _ => ρ
def freezeS (i : Nat) (f : DS c) : DS c := fun De ρ μ => f De (freezeEn ρ i) μ
/-- a dict is locked for good -/
theorem ps_lockS {X : Cx} {sts : List Stmt} {i : Nat} {t : TS} (h : PSs X sts t) : PSs X sts (fun Dn σ H => (∃ a u, σ[i]? = some (some (V.ref a)) ∧ H a = some u ∧ Mut (some u) ∧ ∀ od, t Dn σ (upd H a (.frz od u))) ∨ t Dn σ H) := by
  refine ⟨fun pins s σ H D I hw => ?_⟩
  rcases hw with ⟨a, u, _, hd, mu, hw⟩ | hw
  · obtain ⟨od, I1⟩ := I.lock hd mu
    exact h.run pins s σ _ D I1 (hw od)
  · exact h.run pins s σ _ D I hw
theorem own_frz {ρ : En} {σ : L2.St} {i : Nat} {d : D} {b : Addr} (h : Own (ρ.set i (.fz d)) σ b) : Own ρ σ b := by
  obtain ⟨j, e, h1, h2⟩ := h
  rcases getset h1 with ⟨_, z, _⟩ | ⟨_, h⟩
  · cases z
  · exact ⟨_, _, h, h2⟩
/-- what stood at a is frozen as o (the same, or locked) -/
theorem frozen {F H : Hp} {μ : c.T} {ρ : En} {σ : L2.St} {i : Nat} {a : Addr} {co : Co} {o : HO} {d : D} (m : MOk c.M F H μ) (s : SlOk c.M F H μ ρ σ) (hi : ρ[i]? = some (Sl.ow co)) (ha : σ[i]? = some (some (V.ref a)))
    (hr : ∀ F', Same F F' → F' a = some o → Rep F' (.ref a) d) : MOk c.M (upd F a o) (upd H a o) μ ∧ SlOk c.M (upd F a o) (upd H a o) μ (ρ.set i (.fz d)) σ ∧ Ev F H (Pst c μ ρ σ) (upd F a o) (upd H a o) (Pst c μ (ρ.set i (.fz d)) σ) := by
  have ow : Own ρ σ a := ⟨i, co, hi, ha⟩
  obtain ⟨f1, f2, u, f3⟩ := s.own ow
  have ss : Same F (upd F a o) := fun b w z => by rw [upd_ne (ne_of_none z f1)]; exact z
  have nf : ∀ b, c.ft μ b → b ≠ a := fun b hb z => f2 (by rw [← z]; exact hb)
  refine ⟨⟨?_, c.M.stay m.ok fun b hb => upd_ne (nf b hb), fun b hb => by rw [upd_ne (nf b hb)]; exact m.nf b hb⟩, ⟨fun j e h => ?_, fun j e h => ?_, fun j l e e' b h1 h2 h3 h4 => ?_, by simp [s.len]⟩, ⟨ss, fun b w h n _ => ?_, fun b w h n => ?_, fun b q => ?_, fun b w h => ?_⟩⟩
  · intro b w z
    by_cases e : b = a
    · subst e; rw [upd_same] at z ⊢; exact z
    · rw [upd_ne e] at z ⊢; exact m.fh b w z
  · rcases getset h with ⟨rfl, e, _⟩ | ⟨_, h⟩
    · cases e
      exact ⟨_, ha, hr _ ss upd_same⟩
    · obtain ⟨v, h1, h2⟩ := s.fz j e h
      exact ⟨v, h1, h2.mono ss⟩
  · rcases getset h with ⟨_, e, _⟩ | ⟨ne, h⟩
    · cases e
    · obtain ⟨b, h1, h2, h3, h4⟩ := s.ow j e h
      have nb : b ≠ a := fun z => ne (s.ap j i _ _ a h hi (by rw [← z]; exact h1) ha)
      exact ⟨b, h1, by rw [upd_ne nb]; exact h2, h3, h4.mono ss (upd_ne nb)⟩
  · rcases getset h1 with ⟨_, z, _⟩ | ⟨_, g1⟩
    · cases z
    · rcases getset h2 with ⟨_, z, _⟩ | ⟨_, g2⟩
      · cases z
      · exact s.ap j l _ _ b g1 g2 h3 h4
  · rw [upd_ne fun z => n (.inr (by rw [z]; exact ow))]
  · rw [upd_ne fun z => n (.inr (by rw [z]; exact ow))]; exact h
  · exact .inl (q.elim .inl fun z => .inr (own_frz z))
  · by_cases e : b = a
    · exact ⟨o, by rw [e, upd_same]⟩
    · exact ⟨w, by rw [upd_ne e]; exact h⟩
theorem upd_self {H : Hp} {a : Addr} {o : HO} (h : H a = some o) : upd H a o = H := by
  funext b
  by_cases e : b = a
  · rw [e, upd_same, h]
  · rw [upd_ne e]
theorem pssd_freeze {sts : List Stmt} {f : DS c} (i : Nat) (h : PSsd c sts f) : PSsd c sts (freezeS i f) := by
  obtain ⟨t, t1, t2⟩ := h
  refine ⟨_, fun X h => ps_lockS (i := i) (t1 X h), fun F H μ ρ σ Dn De m s hf k => ?_⟩
  have hf : f De (freezeEn ρ i) μ := hf
  unfold freezeEn at hf
  split at hf
  · rename_i co hi
    obtain ⟨a, h1, h2, h3, h4⟩ := s.ow i _ hi
    cases co with
    | lst ds =>
      obtain ⟨vs, h5, h6⟩ := h4
      obtain ⟨m2, s2, e2⟩ := frozen (c := c) (o := .lst vs) (d := .lst ds) m s hi h1 fun F' ss z => .lst z (h6.mono ss)
      rw [upd_self h5] at m2 s2 e2
      exact .inr (t2 _ H μ _ σ Dn De m2 s2 hf (k.go e2))
    | dK kvs =>
      refine .inl ⟨a, _, h1, h4, trivial, fun od => ?_⟩
      obtain ⟨m2, s2, e2⟩ := frozen (c := c) (o := .frz od (.dK kvs)) (d := .dK kvs) m s hi h1 fun F' ss z => .dK z
      exact t2 _ _ μ _ σ Dn De m2 s2 hf (k.go e2)
    | dT kvs =>
      refine .inl ⟨a, _, h1, h4, trivial, fun od => ?_⟩
      obtain ⟨m2, s2, e2⟩ := frozen (c := c) (o := .frz od (.dT kvs)) (d := .dT kvs) m s hi h1 fun F' ss z => .dT z
      exact t2 _ _ μ _ σ Dn De m2 s2 hf (k.go e2)
  · exact .inr (t2 F H μ ρ σ Dn De m s hf k)

/-! part DLi -/
def parS (i j : Nat) (fa fb : DE c Sl) : DS c := fun De ρ μ => fa ρ μ (fun a μ1 => fb ρ μ1 (fun b μ2 => De.nx ((ρ.set i a).set j b) μ2) fun e μ' => De.ex e ρ μ') fun e μ' => De.ex e ρ μ'
theorem RXr.ev {F H F1 H1 F2 H2 : Hp} {μ1 μ2 : c.T} {v : V} {sl : Sl} {H0 : Hp} (r : RXr c H0 F1 H1 μ1 v sl) (e : Ev F1 H1 (c.ft μ1) F2 H2 (c.ft μ2)) : RXr c H0 F2 H2 μ2 v sl := by
  cases sl with
  | un => exact r
  | fz d => exact r.mono e.fr
  | ow co =>
    obtain ⟨a, h1, h2, h3, h4, h5⟩ := r
    obtain ⟨o, ho⟩ := h5.there
    refine ⟨a, h1, h2, by rw [e.nw a o ho h4 (h5.nt ho)]; exact h3, fun q => ?_, h5.mono e.fr (by rw [e.kp a o ho h4, ho])⟩
    rcases e.ft a q with z | z
    · exact h4 z
    · rw [ho] at z; cases z
theorem snd_par {i j : Nat} {ta tb : TE} {fa fb : DE c Sl} (hij : i ≠ j) (ha : SndG c (fun _ _ _ => True) (RX c) ta fa) (hb : SndG c (fun _ _ _ => True) (RX c) tb fb) : SndS c (tPar i j (tCons ta (tCons tb tNil))) (parS i j fa fb) := fun F H μ ρ σ Dn De m s hf k => by
  refine ha F H μ ρ σ _ _ _ m s trivial hf (fun v a F1 H1 μ1 e1 m1 r1 q1 => ?_) fun er F' H' μ' cls dd e m' q x => k.ex er F' H' μ' ρ σ cls dd e.pst m' (s.ev e) q x
  have s1 := s.ev e1
  refine hb F1 H1 μ1 ρ σ _ _ _ m1 s1 trivial q1 (fun w b F2 H2 μ2 e2 m2 r2 q2 => ?_) fun er F' H' μ' cls dd e m' q x => k.ex er F' H' μ' ρ σ cls dd (e1.trans e).pst m' (s1.ev e) q x
  refine ⟨v, w, rfl, ?_⟩
  obtain ⟨s3, e3⟩ := stored (i := i) (s := s) (e1.trans e2) (r1.ev (F := F) (H := H) e2)
  -- the second one: apart from the first
  have own2 : ∀ co a', b = .ow co → w = .ref a' → H1 a' = none := fun co a' h1 h2 => by
    subst h1; subst h2
    obtain ⟨a2, z, h, _⟩ := r2
    cases z
    exact h
  have tr : ∀ a' o, H a' = some o → H1 a' ≠ none := fun a' o h z => by
    obtain ⟨o', h'⟩ := e1.tr a' o h
    rw [h'] at z; cases z
  have s4 : SlOk c.M F2 H2 μ2 ((ρ.set i a).set j b) ((σ.set i (some v)).set j (some w)) := by
    refine s3.store ?_
    cases b with
    | un => exact r2
    | fz d => exact r2
    | ow co =>
      obtain ⟨a2, rfl, h1, h2, h3, h4⟩ := r2
      refine ⟨a2, rfl, h2, h3, h4, fun l co' ne hl hz => ?_⟩
      rcases getset hl with ⟨rfl, z, hlen⟩ | ⟨ne2, hl⟩
      · rw [List.getElem?_set_self (by rw [← s.len]; exact hlen)] at hz
        cases hz
        subst z
        obtain ⟨a1, z, g1, g2, g3, g4⟩ := r1
        cases z
        obtain ⟨o, ho⟩ := g4.there
        rw [ho] at h1; cases h1
      · rw [List.getElem?_set_ne (Ne.symm ne2)] at hz
        obtain ⟨_, _, o, ho⟩ := s1.own ⟨l, co', hl, hz⟩
        rw [ho] at h1; cases h1
  refine k.nx F2 H2 μ2 _ _ ⟨e3.fr, e3.nw, e3.kp, fun b' q => ?_, e3.tr⟩ m2 s4 q2
  rcases q with q | q
  · exact e3.ft b' (.inl q)
  · rcases own_set q with z | ⟨z, co, hco⟩
    · exact e3.ft b' (.inr z)
    · refine .inr ?_
      cases hH : H b' with
      | none => rfl
      | some o => exact absurd (own2 co b' hco z) (tr b' o hH)
theorem psd_par (i j : Nat) {x y : Str} {a b : Expr} {fa fb : DE c Sl} {px py pt pos : Pos} {kt k2 pt2} (ha : PX c a fa) (hb : PX c b fb)
    (hst : ∀ env : Env, env.scope.kind = .function → env.kindOf x = some .local → env.kindOf y = some .local → swappedStores [.Tuple [.Name x px, .Name y py] kt pt] (.Tuple [a, b] k2 pt2) env = pure (some [x, y]))
    (hi : c.N[i]? = some x := by rfl) (hj : c.N[j]? = some y := by rfl) (hij : i ≠ j := by decide) (hx : c.sc.names.lookup x = some .local := by rfl) (hy : c.sc.names.lookup y = some .local := by rfl) (hk : c.sc.kind = .function := by rfl)
    (hs : ∀ env, swapsWithSole [.Tuple [.Name x px, .Name y py] kt pt] (.Tuple [a, b] k2 pt2) pos.line env = pure false := by intro _; rfl)
    (he : ∀ env, starEach [a, b] env = (false, eval a env) :: starEach [b] env := by intro _; rfl) (he2 : ∀ env, starEach [b] env = (false, eval b env) :: starEach [] env := by intro _; rfl) :
    PSd c (.Assign [.Tuple [.Name x px, .Name y py] kt pt] (.Tuple [a, b] k2 pt2) pos) (parS i j fa fb) := by
  obtain ⟨ta, a1, a2⟩ := ha
  obtain ⟨tb, b1, b2⟩ := hb
  refine ⟨_, fun X h => ps_par h.cl h.ndX (h.nx hi) (h.nx hj) hij (by rw [h.hsc]; exact hx) (by rw [h.hsc]; exact hy) (pa_cons (a1 X h) (pa_cons (b1 X h) pa_nil (he2 _)) (he _)) (hst _ (by rw [h.hsc]; exact hk) (by show X.env.scope.names.lookup x = _; rw [h.hsc]; exact hx) (by show X.env.scope.names.lookup y = _; rw [h.hsc]; exact hy)) (hs _), snd_par hij a2 b2⟩

/-! part DLi -/
/-- a step that only lays tuples -/
def Step (F H F' H' : Hp) : Prop := ∀ (M : MM) (μ : M.T), MOk M F H μ → Ev F H (M.foot μ) F' H' (M.foot μ) ∧ MOk M F' H' μ
theorem Step.refl (F H : Hp) : Step F H F H := fun M μ m => ⟨Ev.refl _ _ _, m⟩
theorem Step.eq {F H F' H' : Hp} (e : F' = F) (e2 : H' = H) : Step F H F' H' := by subst e e2; exact Step.refl _ _
theorem Step.new {F H : Hp} {p : Addr} {o : HO} (hp : H p = none) : Step F H (upd F p o) (upd H p o) := fun M μ m => ⟨Ev.freeze hp m.fh, m.freeze hp⟩
theorem Step.trans {F H F' H' F2 H2 : Hp} (a : Step F H F' H') (b : Step F' H' F2 H2) : Step F H F2 H2 := fun M μ m => ⟨(a M μ m).1.trans (b M μ (a M μ m).2).1, (b M μ (a M μ m).2).2⟩
/-- a tuple that stands is data -/
theorem Step.tup {F H : Hp} {p : Addr} {vs : List V} (hp : H p = some (.tup vs)) : Step F H (upd F p (.tup vs)) H := fun M μ m => by
  have ss : Same F (upd F p (.tup vs)) := fun b o e => by
    by_cases q : b = p
    · subst q
      have := m.fh _ _ e
      rw [hp] at this; cases this
      exact upd_same
    · rw [upd_ne q]; exact e
  refine ⟨⟨ss, fun b o h n nt => ?_, fun b o h _ => h, fun b h => .inl h, fun b o h => ⟨o, h⟩⟩, ⟨fun b o e => ?_, m.ok, fun b hb => ?_⟩⟩
  · refine upd_ne fun q => ?_
    subst q
    rw [hp] at h; cases h
    exact nt _ rfl
  · by_cases q : b = p
    · subst q
      rw [upd_same] at e; cases e
      exact hp
    · rw [upd_ne q] at e; exact m.fh _ _ e
  · rw [upd_ne fun q => by subst q; exact M.nt m.ok hb hp]
    exact m.nf b hb
structure DWalk (F1 : Hp) (J : It) (ds : List D) : Prop where
  goes : ∀ i F H, i < ds.length → Same F1 F → Same F H → J.go i H
  stops : ∀ F H, Same F1 F → Same F H → J.stop ds.length H
  yields : ∀ i F H x H', i < ds.length → Same F1 F → Same F H → J.yld i H x H' → ∃ F' d, ds[i]? = some d ∧ Rep F' x d ∧ Step F H F' H'
def PId (c : Ctx) (tg iter : Expr) (f : DE c (List D)) : Prop := ∃ t : TI, (∀ X, c.In X → PI X tg iter t) ∧
  ∀ (F H : Hp) (μ : c.T) (ρ : En) (σ : L2.St) (Q : List D → c.T → Prop) (E : c.M.Er → c.T → Prop) (R : It → Hp → Prop), MOk c.M F H μ → SlOk c.M F H μ ρ σ → f ρ μ Q E →
    (∀ J ds F1 H1 μ1, Ev F H (c.ft μ) F1 H1 (c.ft μ1) → MOk c.M F1 H1 μ1 → DWalk F1 J ds → Q ds μ1 → R J H1) →
    (∀ e F' H' μ' cls dd, Ev F H (c.ft μ) F' H' (c.ft μ') → MOk c.M F' H' μ' → E e μ' → c.M.ex e cls dd H' → c.W cls dd σ H') → t σ H R
def itemsD : D → Option (List D)
  | .tup ds => some ds
  | .lst ds => some ds
  | _ => none
def seqE (f : DE c D) : DE c (List D) := bindE f fun d => fun _ μ Q _ => ∃ ds, itemsD d = some ds ∧ Q ds μ
def iSeq (K : PySem.W.Frag) (tl : TE) : TI := fun σ H R => tl σ H fun x H1 => (∃ a, x = .ref a ∧ (∃ xs, SqL K H1 a xs) ∧ R (Itl K a) H1) ∨ ∃ a, x = .ref a ∧ (∃ xs, SqT K H1 a xs) ∧ R (Itt K a) H1
/-- a list or a tuple -/
theorem pi_seq {X : Cx} {tg l : Expr} {tl : TE} (hl : PE X l tl) : PI X tg l (iSeq X.K tl) := by
  refine ⟨fun pins s σ H R I h => ?_⟩
  refine thn (hl.run pins s σ H _ I h) fun v s1 ⟨x, H1, I1, r1, q1⟩ => ?_
  rcases q1 with ⟨a, e, ⟨xs, hq⟩, q⟩ | ⟨a, e, ⟨xs, hq⟩, q⟩
  · subst e
    cases r1
    obtain ⟨its, rv, p, hz⟩ := I1.list hq
    refine wpAny_pyIter_list p.isList ?_
    refine ⟨s1.heap.objs.size, [s1.heap.objs.size], _, _, H1, rfl, I1.kept (t' := s1.toks) fun b o e => Heap.get?_push_of_some _ e, turn_list a _, ⟨_, Heap.get?_push_size _ rfl, rfl, rfl⟩, fun b hb => ?_, q⟩
    have e : b = s1.heap.objs.size := by simpa using hb
    subst e
    exact I1.fpOk (Nat.le_refl _) (I1.hok.fresh (Nat.le_refl _))
  · subst e
    cases r1
    obtain ⟨its, rv, p, hz⟩ := I1.tuple hq
    refine wpAny_pyIter_tuple (show s1.heap.IsTuple a its.toArray from p) ?_
    refine ⟨s1.heap.objs.size, [s1.heap.objs.size], _, _, H1, rfl, I1.kept (t' := s1.toks) fun b o e => Heap.get?_push_of_some _ e, turn_tuple a _, ⟨_, Heap.get?_push_size _ rfl, rfl, rfl⟩, fun b hb => ?_, q⟩
    have e : b = s1.heap.objs.size := by simpa using hb
    subst e
    exact I1.fpOk (Nat.le_refl _) (I1.hok.fresh (Nat.le_refl _))
theorem walkL {K : PySem.W.Frag} {F1 : Hp} {a : Addr} {vs : List V} {ds : List D} (h : F1 a = some (.lst vs)) (r : RepL F1 vs ds) : DWalk F1 (Itl K a) ds where
  goes := fun i F H hi s1 s2 => by
    have hl : i < vs.length := by rw [r.length]; exact hi
    exact ⟨vs, vs[i], SqL.of (s2 _ _ (s1 _ _ h)), by simp [hl]⟩
  stops := fun F H s1 s2 => ⟨vs, SqL.of (s2 _ _ (s1 _ _ h)), by rw [r.length]; exact Nat.le_refl _⟩
  yields := fun i F H x H' hi s1 s2 y => by
    obtain ⟨e, y⟩ := y
    obtain ⟨d, h1, h2⟩ := (r.mono s1).get' (y vs (SqL.of (s2 _ _ (s1 _ _ h))))
    exact ⟨F, d, h1, h2, .eq rfl e⟩
theorem walkT {K : PySem.W.Frag} {F1 : Hp} {a : Addr} {vs : List V} {ds : List D} (h : F1 a = some (.tup vs)) (r : RepL F1 vs ds) : DWalk F1 (Itt K a) ds where
  goes := fun i F H hi s1 s2 => by
    have hl : i < vs.length := by rw [r.length]; exact hi
    exact ⟨vs, vs[i], SqT.of (s2 _ _ (s1 _ _ h)), by simp [hl]⟩
  stops := fun F H s1 s2 => ⟨vs, SqT.of (s2 _ _ (s1 _ _ h)), by rw [r.length]; exact Nat.le_refl _⟩
  yields := fun i F H x H' hi s1 s2 y => by
    obtain ⟨e, y⟩ := y
    obtain ⟨d, h1, h2⟩ := (r.mono s1).get' (y vs (SqT.of (s2 _ _ (s1 _ _ h))))
    exact ⟨F, d, h1, h2, .eq rfl e⟩
theorem pid_seq {tg l : Expr} {fl : DE c D} (hl : PD c l fl) : PId c tg l (seqE fl) := by
  obtain ⟨t, t1, t2⟩ := hl
  refine ⟨iSeq c.K t, fun X h => by rw [← h.hK]; exact pi_seq (t1 X h), fun F H μ ρ σ Q E R m s hf kq ke => ?_⟩
  refine t2 F H μ ρ σ _ E _ m s trivial hf (fun v d F1 H1 μ1 e1 m1 r1 q1 => ?_) ke
  obtain ⟨ds, h1, q⟩ := q1
  cases r1 <;> simp only [itemsD, reduceCtorEq, Option.some.injEq] at h1
  · subst h1
    rename_i hb rb
    exact .inr ⟨_, rfl, ⟨_, SqT.of (m1.fh _ _ hb)⟩, kq _ _ F1 H1 μ1 e1 m1 (walkT hb rb) q⟩
  · subst h1
    rename_i hb rb
    exact .inl ⟨_, rfl, ⟨_, SqL.of (m1.fh _ _ hb)⟩, kq _ _ F1 H1 μ1 e1 m1 (walkL hb rb) q⟩
/-- range -/
def rgD (lo : Int) (n : Nat) : List D := (List.range n).map fun i => .int (lo + (i : Nat))
theorem walkR {F1 : Hp} {lo : Int} {n : Nat} : DWalk F1 (Itr lo n) (rgD lo n) where
  goes := fun i F H hi _ _ => by show i < n; simpa [rgD] using hi
  stops := fun F H _ _ => by show n ≤ (rgD lo n).length; simp [rgD]
  yields := fun i F H x H' hi s1 s2 y => by
    obtain ⟨e, rfl⟩ := y
    have hi' : i < n := by simpa [rgD] using hi
    exact ⟨F, .int (lo + (i : Nat)), by simp [rgD, hi'], .int _, .eq rfl e⟩
def rg1E (f : DE c D) : DE c (List D) := bindE f fun d => fun _ μ Q _ => ∃ j : Int, d = .int j ∧ smI 4611686018427387904 j = true ∧ Q (rgD 0 j.toNat) μ
theorem pid_range1 {tg a : Expr} {fa : DE c D} {p pos : Pos} (hm : c.mg "range" = none) (ha : PD c a fa) (hg : Glb c "range" := by rfl) (hs : ∀ env, starEach [a] env = [(false, eval a env)] := by intro _; rfl) : PId c tg (.Call (.Name "range" p) [a] [] pos) (rg1E fa) := by
  obtain ⟨t, t1, t2⟩ := ha
  refine ⟨iRng1 (tCons t tNil), fun X h => pi_range1 (h.gl hg) (h.mgn hm) (pa_cons (t1 X h) pa_nil (hs _)) (hs _), fun F H μ ρ σ Q E R m s hf kq ke => ?_⟩
  refine t2 F H μ ρ σ _ E _ m s trivial hf (fun v d F1 H1 μ1 e1 m1 r1 q1 => ?_) ke
  obtain ⟨j, rfl, h, q⟩ := q1
  have h := smI_iff.mp h
  cases r1
  exact ⟨j, rfl, by omega, by omega, kq _ _ F1 H1 μ1 e1 m1 walkR q⟩
def rg2E (f g : DE c D) : DE c (List D) := bindE f fun d => bindE g fun e => fun _ μ Q _ => ∃ i j : Int, d = .int i ∧ e = .int j ∧ (smI 4611686018427387904 i && smI 4611686018427387904 j) = true ∧ Q (rgD i (j - i).toNat) μ
theorem pid_range2 {tg a b : Expr} {fa fb : DE c D} {p pos : Pos} (hm : c.mg "range" = none) (ha : PD c a fa) (hb : PD c b fb) (hg : Glb c "range" := by rfl) (hs : ∀ env, starEach [a, b] env = [(false, eval a env), (false, eval b env)] := by intro _; rfl) (hs2 : ∀ env, starEach [b] env = [(false, eval b env)] := by intro _; rfl) : PId c tg (.Call (.Name "range" p) [a, b] [] pos) (rg2E fa fb) := by
  obtain ⟨t, t1, t2⟩ := ha
  obtain ⟨u, u1, u2⟩ := hb
  refine ⟨iRng2 (tCons t (tCons u tNil)), fun X h => pi_range2 (h.gl hg) (h.mgn hm) (pa_cons (t1 X h) (pa_cons (u1 X h) pa_nil (hs2 _)) (by rw [hs, hs2])) (hs _) (hs2 _), fun F H μ ρ σ Q E R m s hf kq ke => ?_⟩
  refine t2 F H μ ρ σ _ E _ m s trivial hf (fun v d F1 H1 μ1 e1 m1 r1 q1 => ?_) ke
  refine u2 F1 H1 μ1 ρ σ _ E _ m1 (s.ev e1) trivial q1 (fun w d' F2 H2 μ2 e2 m2 r2 q2 => ?_) fun e F' H' μ' cls dd e' m' q x => ke e F' H' μ' cls dd (e1.trans e') m' q x
  obtain ⟨i, j, rfl, rfl, h, q⟩ := q2
  simp only [Bool.and_eq_true, smI_iff] at h
  cases r1
  cases r2
  exact ⟨i, j, rfl, by omega, kq _ _ F2 H2 μ2 (e1.trans e2) m2 walkR q⟩

/-! part DLi -/
def forW (g : D → En → Option En) (body : DS c) (De : DEnds c) : List D → En → c.T → Prop
  | [], ρ, μ => De.nx ρ μ
  | d :: ds, ρ, μ => ∃ ρ', g d ρ = some ρ' ∧ body { nx := fun ρ2 μ2 => forW g body De ds ρ2 μ2, ct := fun ρ2 μ2 => forW g body De ds ρ2 μ2, bk := De.nx, rt := De.rt, ex := De.ex } ρ' μ
def forS (fi : DE c (List D)) (g : D → En → Option En) (body : DS c) : DS c := fun De ρ μ => fi ρ μ (fun ds μ' => forW g body De ds ρ μ') fun e μ' => De.ex e ρ μ'
theorem psd_for {tg iter : Expr} {sl : List Nat} {body : List Stmt} {fi : DE c (List D)} {g : D → En → Option En} {fb : DS c} {pos : Pos} (hi : PId c tg iter fi) (hg : PGd c tg sl g) (hb : PSsd c body fb) (hs : ∀ env x, foldedSetIterable iter env x = pure x := by intro _ _; rfl) :
    PSd c (.For tg iter body [] pos) (forS fi g fb) := by
  obtain ⟨ti, i1, i2⟩ := hi
  obtain ⟨tg', g1, g2⟩ := hg
  obtain ⟨tb, b1, b2⟩ := hb
  refine ⟨tFor ti tg' tb, fun X h => ps_for h.pw h.cl (i1 X h) (g1 X h) (b1 X h) (hs _), fun F H μ ρ σ Dn De m s hf k => ?_⟩
  refine i2 F H μ ρ σ _ _ _ m s hf (fun J ds F1 H1 μ1 e1 m1 w q => ?_) fun er F' H' μ' cls dd e m' q x => k.ex er F' H' μ' ρ σ cls dd e.pst m' (s.ev e) q x
  refine ⟨fun i n σ2 H2 => n = ds.length - i ∧ i ≤ ds.length ∧ ∃ F2 μ2 ρ2, Same F1 F2 ∧ Ev F H (Pst c μ ρ σ) F2 H2 (Pst c μ2 ρ2 σ2) ∧ MOk c.M F2 H2 μ2 ∧ SlOk c.M F2 H2 μ2 ρ2 σ2 ∧ forW g fb De (ds.drop i) ρ2 μ2,
    ⟨ds.length, rfl, Nat.zero_le _, F1, μ1, ρ, Same.refl _, e1.pst, m1, s.ev e1, q⟩, ?_⟩
  rintro i n σ2 H2 ⟨rfl, hi, F2, μ2, ρ2, ss, e2, m2, s2, q2⟩
  by_cases hlt : i < ds.length
  · have hd : ds.drop i = ds[i] :: ds.drop (i + 1) := (List.drop_eq_getElem_cons hlt)
    rw [hd] at q2
    obtain ⟨ρ3, h3, q3⟩ := q2
    refine .inr ⟨w.goes i F2 H2 hlt ss m2.fh, fun σ' H' => ds.length - (i + 1) = ds.length - (i + 1) ∧ i + 1 ≤ ds.length ∧ ∃ F2 μ2 ρ2, Same F1 F2 ∧ Ev F H (Pst c μ ρ σ) F2 H' (Pst c μ2 ρ2 σ') ∧ MOk c.M F2 H' μ2 ∧ SlOk c.M F2 H' μ2 ρ2 σ' ∧ forW g fb De (ds.drop (i + 1)) ρ2 μ2,
      fun σ' H' p => ⟨ds.length - (i + 1), by omega, p⟩, fun x H' y => ?_⟩
    obtain ⟨F4, d, hd', rd, hh⟩ := w.yields i F2 H2 x H' hlt ss m2.fh y
    have ed : d = ds[i] := by
      rw [List.getElem?_eq_getElem hlt] at hd'
      exact (Option.some.inj hd').symm
    subst ed
    have step : Ev F2 H2 (c.ft μ2) F4 H' (c.ft μ2) ∧ MOk c.M F4 H' μ2 := by
      exact hh c.M μ2 m2
    obtain ⟨e4, m4⟩ := step
    have s4 := s2.ev e4
    refine g2 F4 H' μ2 ρ2 ρ3 σ2 x _ _ m4 s4 rd h3 fun σ5 s5 o5 _ _ => ?_
    have e5 : Ev F H (Pst c μ ρ σ) F4 H' (Pst c μ2 ρ3 σ5) := (e2.trans e4.pst).trans (own_ev o5)
    refine b2 F4 H' μ2 ρ3 σ5 _ _ m4 s5 q3 ⟨fun F' H'' μ' ρ' σ' e m s q => ?_, fun v d F' H'' μ' e m r q => k.rt v d F' H'' μ' (e5.trans e) m r q, fun F' H'' μ' ρ' σ' e m s q => k.nx F' H'' μ' ρ' σ' (e5.trans e) m s q, fun F' H'' μ' ρ' σ' e m s q => ?_, fun er F' H'' μ' ρ' σ' cls dd e m s q x => k.ex er F' H'' μ' ρ' σ' cls dd (e5.trans e) m s q x⟩
    · exact ⟨rfl, hlt, F', μ', ρ', ss.trans (e4.fr.trans e.fr), e5.trans e, m, s, q⟩
    · exact ⟨rfl, hlt, F', μ', ρ', ss.trans (e4.fr.trans e.fr), e5.trans e, m, s, q⟩
  · have e : i = ds.length := by omega
    subst e
    rw [List.drop_length] at q2
    exact .inl ⟨w.stops F2 H2 ss m2.fh, k.nx F2 H2 μ2 ρ2 σ2 e2 m2 s2 q2⟩

/-! part DLi -/
def whileN (ft : DE c Bool) (fb : DS c) (De : DEnds c) : Nat → En → c.T → Prop
  | 0, _, _ => False
  | n + 1, ρ, μ => ft ρ μ (fun b μ1 => if b = true then fb { nx := fun ρ2 μ2 => whileN ft fb De n ρ2 μ2, ct := fun ρ2 μ2 => whileN ft fb De n ρ2 μ2, bk := De.nx, rt := De.rt, ex := De.ex } ρ μ1 else De.nx ρ μ1) fun e μ1 => De.ex e ρ μ1
def whileS (ft : DE c Bool) (fb : DS c) : DS c := fun De ρ μ => ∃ n, whileN ft fb De n ρ μ
theorem psd_while {t : Expr} {body : List Stmt} {ft : DE c Bool} {fb : DS c} {pos : Pos} (ht : PB c t ft) (hb : PSsd c body fb) : PSd c (.While t body [] pos) (whileS ft fb) := by
  obtain ⟨tt, t1, t2⟩ := ht
  obtain ⟨tb, b1, b2⟩ := hb
  refine ⟨tWhile tt tb, fun X h => ps_while h.pw (t1 X h) (b1 X h), fun F H μ ρ σ Dn De m s hf k => ?_⟩
  obtain ⟨n0, hf⟩ := hf
  refine ⟨fun n σ2 H2 => ∃ F2 μ2 ρ2, Ev F H (Pst c μ ρ σ) F2 H2 (Pst c μ2 ρ2 σ2) ∧ MOk c.M F2 H2 μ2 ∧ SlOk c.M F2 H2 μ2 ρ2 σ2 ∧ whileN ft fb De n ρ2 μ2, ⟨n0, F, μ, ρ, Ev.refl _ _ _, m, s, hf⟩, ?_⟩
  rintro n σ2 H2 ⟨F2, μ2, ρ2, e2, m2, s2, q2⟩
  cases n with
  | zero => exact q2.elim
  | succ n =>
    refine t2 F2 H2 μ2 ρ2 σ2 _ _ _ m2 s2 trivial q2 (fun v d F3 H3 μ3 e3 m3 r3 q3 => ?_) fun er F' H' μ' cls dd e m' q x => k.ex er F' H' μ' ρ2 σ2 cls dd (e2.trans e.pst) m' (s2.ev e) q x
    subst r3
    have e4 := e2.trans (Ev.pst (ρ := ρ2) (σ := σ2) e3)
    cases v with
    | false => exact k.nx F3 H3 μ3 ρ2 σ2 e4 m3 (s2.ev e3) q3
    | true =>
      refine ⟨fun σ' H' => ∃ F2 μ2 ρ2, Ev F H (Pst c μ ρ σ) F2 H' (Pst c μ2 ρ2 σ') ∧ MOk c.M F2 H' μ2 ∧ SlOk c.M F2 H' μ2 ρ2 σ' ∧ whileN ft fb De n ρ2 μ2, fun σ' H' p => ⟨n, Nat.lt_succ_self _, p⟩, ?_⟩
      refine b2 F3 H3 μ3 ρ2 σ2 _ _ m3 (s2.ev e3) q3 ⟨fun F' H'' μ' ρ' σ' e m s q => ⟨F', μ', ρ', e4.trans e, m, s, q⟩, fun v d F' H'' μ' e m r q => k.rt v d F' H'' μ' (e4.trans e) m r q, fun F' H'' μ' ρ' σ' e m s q => k.nx F' H'' μ' ρ' σ' (e4.trans e) m s q, fun F' H'' μ' ρ' σ' e m s q => ⟨F', μ', ρ', e4.trans e, m, s, q⟩, fun er F' H'' μ' ρ' σ' cls dd e m s q x => k.ex er F' H'' μ' ρ' σ' cls dd (e4.trans e) m s q x⟩
end DL

set_option Elab.async false
set_option linter.all false
set_option maxRecDepth 100000
set_option maxHeartbeats 4000000
/-! part DLj -/
namespace DL
open PySem PySem.Spec L2
variable {c : Ctx}

/-! part DLj -/
/-- the context of a comprehension's block -/
def Ctx.blk (c : Ctx) (scope : Scope) : Ctx := { c with sc := relS scope c.sc, os := scope, W := fun _ _ _ _ => False }
theorem relS_keep {scope sc : Scope} {x : Str} {k : NameKind} (hk : k ≠ .free) (h : scope.names.lookup x = some k) : (relS scope sc).names.lookup x = some k := lookup_relS_keep hk h
theorem Ctx.In.blk {X : Cx} (h : c.In X) {scope : Scope} (s : Shared) (H : Hp) (C : Addr) (cl : List (Str × Addr)) (fp : List Addr) : (c.blk scope).In (X.blk s H scope (compEnvC scope cl C X.env) fp) where
  hP := h.hP
  hw := h.hw
  hK := h.hK
  hmg := h.hmg
  hb := h.hb
  hN := h.hN
  nd := h.nd
  hsc := by
    show relS scope X.env.scope = relS scope c.sc
    rw [h.hsc]
  cl := h.cl
  rm := h.rm
  fn := fun x hx => by
    have e : relS scope X.env.scope = relS scope c.sc := by rw [h.hsc]
    rcases hx with q | q
    · have q : scope.names.lookup x = some .local := q
      refine ⟨.inl (relS_keep (by decide) q), .inr ?_⟩
      exact relS_keep (by decide) q
    · have q : scope.names.lookup x = some .cell := q
      refine ⟨.inr (relS_keep (by decide) q), .inl ?_⟩
      show (scope.names.lookup x == some .cell) = true
      rw [q]; rfl
  pw := PassesOwn.never
  tk := takes0
def wipeEn (ρ : En) : List Nat → En
  | [] => ρ
  | v :: vs => (wipeEn ρ vs).set v .un
theorem wipeEn_get {ρ : En} {vs : List Nat} {i : Nat} {s : Sl} (h : (wipeEn ρ vs)[i]? = some s) (hs : s ≠ .un) : ρ[i]? = some s ∧ i ∉ vs := by
  induction vs with
  | nil => exact ⟨h, by simp⟩
  | cons v vs ih =>
    unfold wipeEn at h
    rcases getset h with ⟨_, e, _⟩ | ⟨ne, h⟩
    · exact absurd e hs
    · obtain ⟨h1, h2⟩ := ih h
      exact ⟨h1, by simp [ne, h2]⟩
theorem wipe_get {σ : L2.St} {vs : List Nat} {i : Nat} (h : i ∉ vs) : (wipe σ vs)[i]? = σ[i]? := wipe_out h
theorem wipeEn_length (ρ : En) : ∀ vs : List Nat, (wipeEn ρ vs).length = ρ.length
  | [] => rfl
  | v :: vs => by unfold wipeEn; rw [List.length_set, wipeEn_length ρ vs]
theorem SlOk.wiped {M : MM} {F H : Hp} {μ : M.T} {ρ : En} {σ : L2.St} (s : SlOk M F H μ ρ σ) (vs : List Nat) : SlOk M F H μ (wipeEn ρ vs) (wipe σ vs) where
  fz := fun i d h => by
    obtain ⟨h1, h2⟩ := wipeEn_get h (by simp)
    obtain ⟨v, h3, h4⟩ := s.fz i d h1
    exact ⟨v, by rw [wipe_get h2]; exact h3, h4⟩
  ow := fun i d h => by
    obtain ⟨h1, h2⟩ := wipeEn_get h (by simp)
    obtain ⟨v, h3, h4⟩ := s.ow i d h1
    exact ⟨v, by rw [wipe_get h2]; exact h3, h4⟩
  ap := fun i j d e a h1 h2 h3 h4 => by
    obtain ⟨g1, n1⟩ := wipeEn_get h1 (by simp)
    obtain ⟨g2, n2⟩ := wipeEn_get h2 (by simp)
    rw [wipe_get n1] at h3
    rw [wipe_get n2] at h4
    exact s.ap i j d e a g1 g2 h3 h4
  len := by rw [wipeEn_length, wipe_length, s.len]
theorem wipe_eq {σ σ' : L2.St} {vs : List Nat} (hl : σ'.length = σ.length) (h : ∀ j, j ∉ vs → σ'[j]? = σ[j]?) : wipe σ' vs = wipe σ vs := by
  apply List.ext_getElem?
  intro j
  by_cases hj : j ∈ vs
  · have key : ∀ (τ : L2.St) (ws : List Nat), j ∈ ws → (wipe τ ws)[j]? = if j < τ.length then some none else none := by
      intro τ ws
      induction ws with
      | nil => intro z; cases z
      | cons w ws ih =>
        intro z
        unfold wipe
        by_cases e : w = j
        · subst e
          by_cases hlt : w < τ.length
          · rw [List.getElem?_set_self (by rw [wipe_length]; exact hlt), if_pos hlt]
          · rw [List.getElem?_eq_none (by rw [List.length_set, wipe_length]; omega), if_neg hlt]
        · rw [List.getElem?_set_ne e]
          exact ih (by simpa [Ne.symm e] using z)
    rw [key σ' vs hj, key σ vs hj, hl]
  · rw [wipe_get hj, wipe_get hj, h j hj]
def lcW (g : D → En → Option En) (ft : DE c Bool) (fe : DE c D) (ρ0 : En) (Q : Co → c.T → Prop) : List D → List D → c.T → Prop
  | [], acc, μ => Q (.lst acc) μ
  | d :: ds, acc, μ => ∃ ρ', g d ρ0 = some ρ' ∧ ft ρ' μ (fun b μ1 => if b = true then fe ρ' μ1 (fun y μ2 => acc.length < sizeLine ∧ lcW g ft fe ρ0 Q ds (acc ++ [y]) μ2) (fun _ _ => False) else lcW g ft fe ρ0 Q ds acc μ1) (fun _ _ => False)
def lcE (vs : List Nat) (fi : DE c (List D)) (g : D → En → Option En) (ft : DE c Bool) (fe : DE c D) : DE c Co := fun ρ μ Q E => fi ρ μ (fun ds μ' => lcW g ft fe (wipeEn ρ vs) Q ds [] μ') E
theorem snd_lc {scope : Scope} {ti : TI} {tg : TG} {tt : TT} {te : TE} {vs sl : List Nat} {fi : DE c (List D)} {g : D → En → Option En} {ft : DE c Bool} {fe : DE c D} (hsl : ∀ j ∈ sl, j ∈ vs)
    (i2 : ∀ (F H : Hp) (μ : c.T) (ρ : En) (σ : L2.St) (Q : List D → c.T → Prop) (E : c.M.Er → c.T → Prop) (R : It → Hp → Prop), MOk c.M F H μ → SlOk c.M F H μ ρ σ → fi ρ μ Q E →
      (∀ J ds F1 H1 μ1, Ev F H (c.ft μ) F1 H1 (c.ft μ1) → MOk c.M F1 H1 μ1 → DWalk F1 J ds → Q ds μ1 → R J H1) →
      (∀ e F' H' μ' cls dd, Ev F H (c.ft μ) F' H' (c.ft μ') → MOk c.M F' H' μ' → E e μ' → c.M.ex e cls dd H' → c.W cls dd σ H') → ti σ H R)
    (g2 : ∀ (F H : Hp) (μ : c.T) (ρ ρ' : En) (σ : L2.St) (v : V) (d : D) (Q : L2.St → Hp → Prop), MOk c.M F H μ → SlOk c.M F H μ ρ σ → Rep F v d → g d ρ = some ρ' →
      (∀ σ', SlOk c.M F H μ ρ' σ' → (∀ b, Own ρ' σ' b → Own ρ σ b) → (∀ j, j ∉ sl → σ'[j]? = σ[j]?) → σ'.length = σ.length → Q σ' H) → tg v σ H Q)
    (t2 : SndG (c.blk scope) (fun _ _ _ => True) (RB (c.blk scope)) tt ft) (e2 : SndG (c.blk scope) (fun _ _ _ => True) (RD (c.blk scope)) te fe) : SndG c (fun _ _ _ => True) (RO c) (tLc ti tg tt te vs) (lcE vs fi g ft fe) := by
  intro F H μ ρ σ Q E Qh m s p hf kq ke
  refine i2 F H μ ρ σ _ E _ m s hf (fun J ds F1 H1 μ1 e1 m1 w q => ?_) ke
  intro Dn hDn
  have s1 := s.ev e1
  obtain ⟨fd1, fd2⟩ := fresh_O m1 hDn
  have eD : Ev F1 H1 (c.ft μ1) F1 (upd H1 Dn (.lst [])) (c.ft μ1) := Ev.fresh hDn
  refine ⟨fun i n H2 => n = ds.length - i ∧ i ≤ ds.length ∧ ∃ F2 μ2 acc vs', Same F1 F2 ∧ Ev F H (c.ft μ) F2 H2 (c.ft μ2) ∧ MOk c.M F2 H2 μ2 ∧ SlOk c.M F2 H2 μ2 (wipeEn ρ vs) (wipe σ vs) ∧ H2 Dn = some (.lst vs') ∧ RepL F2 vs' acc ∧ F2 Dn = none ∧ ¬ c.ft μ2 Dn ∧ lcW g ft fe (wipeEn ρ vs) Q (ds.drop i) acc μ2,
    ⟨ds.length, rfl, Nat.zero_le _, F1, μ1, [], [], Same.refl _, e1.trans eD, m1.fresh hDn, (s1.ev eD).wiped vs, upd_same, .nil, fd1, fd2, q⟩, ?_⟩
  rintro i n H2 ⟨rfl, hi, F2, μ2, acc, vs', ss, ev2, m2, s2, hD, rD, nf, nft, q2⟩
  by_cases hlt : i < ds.length
  · rw [List.drop_eq_getElem_cons hlt] at q2
    obtain ⟨ρ3, h3, q3⟩ := q2
    refine .inr ⟨w.goes i F2 H2 hlt ss m2.fh, fun H' => i + 1 ≤ ds.length ∧ ∃ F2 μ2 acc vs', Same F1 F2 ∧ Ev F H (c.ft μ) F2 H' (c.ft μ2) ∧ MOk c.M F2 H' μ2 ∧ SlOk c.M F2 H' μ2 (wipeEn ρ vs) (wipe σ vs) ∧ H' Dn = some (.lst vs') ∧ RepL F2 vs' acc ∧ F2 Dn = none ∧ ¬ c.ft μ2 Dn ∧ lcW g ft fe (wipeEn ρ vs) Q (ds.drop (i + 1)) acc μ2,
      fun H' p => ⟨ds.length - (i + 1), by omega, rfl, p⟩, fun x H' y => ?_⟩
    obtain ⟨F4, d, hd', rd, hh⟩ := w.yields i F2 H2 x H' hlt ss m2.fh y
    have ed : d = ds[i] := by
      rw [List.getElem?_eq_getElem hlt] at hd'
      exact (Option.some.inj hd').symm
    subst ed
    have step : Ev F2 H2 (c.ft μ2) F4 H' (c.ft μ2) ∧ MOk c.M F4 H' μ2 := by
      exact hh c.M μ2 m2
    obtain ⟨e4, m4⟩ := step
    have s4 := s2.ev e4
    refine g2 F4 H' μ2 _ ρ3 _ x _ _ m4 s4 rd h3 fun σ5 s5 o5 j5 l5 => ?_
    have hw : wipe σ5 vs = wipe σ vs := by
      rw [wipe_eq l5 fun j hj => j5 j fun z => hj (hsl j z)]
      exact wipe_eq (wipe_length σ vs) fun j hj => wipe_get hj
    refine ⟨hw, ?_⟩
    -- what the accumulator is behind a step of an expression
    have acc_keep : ∀ {Fa Ha Fb Hb : Hp} {μa μb : c.T} {us : List V} {as : List D}, Ev Fa Ha (c.ft μa) Fb Hb (c.ft μb) → Ha Dn = some (.lst us) → RepL Fa us as → Fa Dn = none → ¬ c.ft μa Dn → Hb Dn = some (.lst us) ∧ RepL Fb us as ∧ Fb Dn = none ∧ ¬ c.ft μb Dn := by
      intro Fa Ha Fb Hb μa μb us as e h1 h2 h3 h4
      refine ⟨e.kp _ _ h1 h4, h2.mono e.fr, by rw [e.nw _ _ h1 h4 (fun _ z => by cases z)]; exact h3, fun z => ?_⟩
      rcases e.ft _ z with z | z
      · exact h4 z
      · rw [h1] at z; cases z
    obtain ⟨a1, a2, a3, a4⟩ := acc_keep e4 hD rD nf nft
    refine t2 F4 H' μ2 ρ3 σ5 _ _ _ m4 s5 trivial q3 (fun v b F6 H6 μ6 e6 m6 r6 q6 => ?_) fun er F' H'' μ' cls dd e m' q x => q
    subst r6
    obtain ⟨b1, b2, b3, b4⟩ := acc_keep e6 a1 a2 a3 a4
    have wsl : ∀ {Fa Ha : Hp} {μa : c.T}, Ev F2 H2 (c.ft μ2) Fa Ha (c.ft μa) → SlOk c.M Fa Ha μa (wipeEn ρ vs) (wipe σ vs) := fun e => s2.ev e
    cases v with
    | false =>
      exact ⟨hlt, F6, μ6, acc, vs', ss.trans (e4.fr.trans e6.fr), (ev2.trans e4).trans e6, m6, wsl (e4.trans e6), b1, b2, b3, b4, q6⟩
    | true =>
      refine e2 F6 H6 μ6 ρ3 σ5 _ _ _ m6 (s5.ev e6) trivial q6 (fun v y F7 H7 μ7 e7 m7 r7 q7 => ?_) fun er F' H'' μ' cls dd e m' q x => q
      obtain ⟨c1, c2, c3, c4⟩ := acc_keep e7 b1 b2 b3 b4
      refine ⟨vs', c1, by rw [c2.length]; exact q7.1, hlt, F7, μ7, acc ++ [y], vs' ++ [v], ss.trans (e4.fr.trans (e6.fr.trans e7.fr)), ?_, ?_, ?_, upd_same, c2.append (.cons r7 .nil), c3, c4, q7.2⟩
      · have eh := ((ev2.trans e4).trans e6).trans e7
        have hfr : H Dn = none := by
          cases z : H Dn with
          | none => rfl
          | some o =>
            obtain ⟨o', z'⟩ := e1.tr _ o z
            rw [hDn] at z'; cases z'
        exact ⟨eh.fr, eh.nw, fun b o h n => by rw [upd_ne (ne_of_none h hfr)]; exact eh.kp b o h n, eh.ft, fun b o h => by
          rw [upd_ne (ne_of_none h hfr)]; exact eh.tr b o h⟩
      · exact ⟨same_upd' c3 m7.fh, c.M.stay m7.ok fun b hb => upd_ne fun z => c4 (by rw [← z]; exact hb), m7.nf⟩
      · have s7 := wsl ((e4.trans e6).trans e7)
        refine ⟨s7.fz, fun j co h => ?_, s7.ap, s7.len⟩
        obtain ⟨a, h1, h2, h3, h4⟩ := s7.ow j co h
        refine ⟨a, h1, h2, h3, h4.mono (Same.refl _) (upd_ne fun z => ?_)⟩
        -- an own container of the frame is older than the accumulator
        subst z
        obtain ⟨g1, g2⟩ := wipeEn_get h (by simp)
        rw [wipe_get g2] at h1
        obtain ⟨_, _, o, ho⟩ := s1.own ⟨j, co, g1, h1⟩
        rw [hDn] at ho; cases ho
  · have e : i = ds.length := by omega
    subst e
    rw [List.drop_length] at q2
    refine .inl ⟨w.stops F2 H2 ss m2.fh, kq _ (.lst acc) F2 H2 μ2 ev2 m2 ⟨Dn, rfl, ?_, nf, nft, vs', hD, rD⟩ q2⟩
    cases z : H Dn with
    | none => rfl
    | some o =>
      obtain ⟨o', z'⟩ := e1.tr _ o z
      rw [hDn] at z'; cases z'
def PTsd (c : Ctx) (ifs : List Expr) (f : DE c Bool) : Prop := ∃ t : TT, (∀ X, c.In X → PTs X ifs t) ∧ SndG c (fun _ _ _ => True) (RB c) t f
theorem ptsd_nil : PTsd c [] (fun _ μ Q _ => Q true μ) := ⟨tYes, fun _ _ => pts_nil, fun F H μ ρ σ Q E Qh m s p hf kq ke => kq true true F H μ (Ev.refl _ _ _) m rfl hf⟩
theorem ptsd_one {e : Expr} {f : DE c Bool} (h : PB c e f) : PTsd c [e] f := by
  obtain ⟨t, t1, t2⟩ := h
  exact ⟨t, fun X h => pts_one (t1 X h), t2⟩
section
variable {elt tg iter : Expr} {ifs : List Expr} {scope : Scope} {own : List (Str × Nat)} {sl : List Nat} {pos : Pos} {fi : DE c (List D)} {g : D → En → Option En} {ft : DE c Bool} {fe : DE c D}
theorem pn_lc (own : List (Str × Nat)) (hi : PId c tg iter fi) (hg : PGd (c.blk scope) tg sl g) (ht : PTsd (c.blk scope) ifs ft) (he : PD (c.blk scope) elt fe) (ok : blkC c.N c.sc scope own = true := by rfl) (hsl : ∀ j ∈ sl, j ∈ own.map (·.2) := by decide) (hs : ∀ env x, foldedSetIterable iter env x = pure x := by intro _ _; rfl) :
    PN c (.ListComp elt [⟨tg, iter, ifs, 0⟩] scope pos) (lcE (own.map (·.2)) fi g ft fe) := by
  obtain ⟨ti, i1, i2⟩ := hi
  obtain ⟨tg', g1, g2⟩ := hg
  obtain ⟨tt, t1, t2⟩ := ht
  obtain ⟨te, e1, e2⟩ := he
  refine ⟨tLc ti tg' tt te (own.map (·.2)), fun X h => pe_lc h.cl h.ndX (i1 X h) (by rw [h.hN, h.hsc]; exact blkOk_by ok) (fun s H C cl fp => g1 _ (h.blk s H C cl fp)) (fun s H C cl fp => t1 _ (h.blk s H C cl fp)) (fun s H C cl fp => e1 _ (h.blk s H C cl fp)) (hs _), ?_⟩
  exact snd_lc hsl i2 g2 t2 e2
/-- name = [..], the name a local of the def -/
theorem psd_setLc (i : Nat) {y : Str} {py spos : Pos} (own : List (Str × Nat)) (hi : PId c tg iter fi) (hg : PGd (c.blk scope) tg sl g) (ht : PTsd (c.blk scope) ifs ft) (he : PD (c.blk scope) elt fe) (ok : blkC c.N c.sc scope own = true := by rfl) (hsl : ∀ j ∈ sl, j ∈ own.map (·.2) := by decide) (hn : c.N[i]? = some y := by rfl) (hy : c.sc.names.lookup y = some .local := by rfl)
    (hk : c.sc.kind = .function := by rfl) (hl : (py.line == pos.line) = true := by rfl) (ha : (scope.names.any fun (n, k) => n == y && (k == .local || k == .cell)) = false := by decide +kernel) (hs : ∀ env x, foldedSetIterable iter env x = pure x := by intro _ _; rfl) :
    PSd c (.Assign [.Name y py] (.ListComp elt [⟨tg, iter, ifs, 0⟩] scope pos) spos) (setS i (owE (lcE (own.map (·.2)) fi g ft fe))) := by
  obtain ⟨ti, i1, i2⟩ := hi
  obtain ⟨tg', g1, g2⟩ := hg
  obtain ⟨tt, t1, t2⟩ := ht
  obtain ⟨te, e1, e2⟩ := he
  refine ⟨tAsg (tLc ti tg' tt te (own.map (·.2))) (gName i), fun X h => ps_setLc h.cl h.ndX (h.nx hn) (by rw [h.hsc]; exact hy) (sw_true (by rw [h.hsc]; exact hk) (by rw [h.hsc]; exact hy) hl ha) (i1 X h) (by rw [h.hN, h.hsc]; exact blkOk_by ok) (fun s H C cl fp => g1 _ (h.blk s H C cl fp)) (fun s H C cl fp => t1 _ (h.blk s H C cl fp)) (fun s H C cl fp => e1 _ (h.blk s H C cl fp)) (hs _), ?_⟩
  exact snd_set (snd_owX (snd_lc hsl i2 g2 t2 e2))
end

/-! part DLj -/
/-- what a def promises, over data -/
abbrev DSp (M : MM) := List D → M.T → (D → M.T → Prop) → (M.Er → M.T → Prop) → Prop
def toSp (M : MM) (C : DSp M) : Sp := fun vs H Qh Eh => ∃ (F : Hp) (μ : M.T) (ds : List D) (Q : D → M.T → Prop) (E : M.Er → M.T → Prop), MOk M F H μ ∧ RepL F vs ds ∧ C ds μ Q E ∧
  (∀ v d F' H' μ', Ev F H (M.foot μ) F' H' (M.foot μ') → MOk M F' H' μ' → Rep F' v d → Q d μ' → Qh v H') ∧
  (∀ e F' H' μ' cls dd, Ev F H (M.foot μ) F' H' (M.foot μ') → MOk M F' H' μ' → E e μ' → M.ex e cls dd H' → Eh cls dd H')
/-- what a whole law's walk has in common -/
structure Gx where
  P : Program
  w : World
  K : PySem.W.Frag
  mg : Str → Option Value
  base : Heap
  M : MM
abbrev Ctx.g (c : Ctx) : Gx := ⟨c.P, c.w, c.K, c.mg, c.base, c.M⟩
/-- a def of the text that keeps its promise -/
def FnD (G : Gx) (j : Nat) (x : Str) (C : DSp G.M) : Prop := ∃ (f : Addr) (fd : FuncData) (ps : List Str), G.mg x = some (.ref f) ∧ PySem.W.keepIn G.K (.ref f) = true ∧ Binds G.K fd ps [] ∧ FnOk G.P G.w G.K G.mg G.base (L2.CX G.P G.w) j f fd ps (toSp G.M C)
def callE (C : DSp c.M) (fa : DE c (List D)) : DE c D := bindE fa fun ds => fun _ μ Q E => C ds μ Q E
theorem pd_call {j : Nat} {x : Str} {C : DSp c.M} {e : Expr} {es : List Expr} {fa : DE c (List D)} {p pos : Pos} (F : FnD c.g j x C) (ha : PAs c (e :: es) fa) (hj : j ≤ c.k := by exact Nat.le_of_ble_eq_true rfl) (hg : Glb c x := by rfl) (hdb : (x == ("__debug__" : Str)) = false := by decide)
    (he : ∀ env, starEach (e :: es) env = (false, eval e env) :: starEach es env := by intro _; rfl) (hpl : ∀ env, (backTo pos (starEach es env)).any (·.1) = false := by intro _; rfl) : PD c (.Call (.Name x p) (e :: es) [] pos) (callE C fa) := by
  obtain ⟨f, fd, ps, f1, f2, f3, f4⟩ := F
  obtain ⟨t, t1, t2⟩ := ha
  refine ⟨tCallS (toSp c.M C) (WE c.W) t, fun X h => pe_callS (k := j) (by rw [h.hP, h.hw, h.hK, h.hmg, h.hb]; exact f4) (h.rm.mono hj) (h.gl hg) (h.mgn f1) (by rw [h.hK]; exact f2) (by rw [h.hK]; exact f3) (fun σ => by have := passAt h.tk σ; rw [h.hP, h.hw] at this; exact this) (t1 X h) hdb (he _) (hpl _), ?_⟩
  refine SndG.bind (tb := fun vs σ H Q => toSp c.M C vs H Q (WE c.W σ)) (fb := fun ds => fun _ μ Q E => C ds μ Q E) (fun y b F _ _ => RepL F y b) (fun _ _ _ _ _ _ h => h) t2 Stab.true back_D fun vs ds => ?_
  intro F H μ ρ σ Q E Qh m s p hf kq ke
  exact ⟨F, μ, ds, Q, E, m, p.2, hf, kq, ke⟩
/-- the slots at a def's entry -/
def startEn (n : Nat) (ds : List D) : En := ds.map Sl.fz ++ List.replicate (n - ds.length) Sl.un
def defCtx (G : Gx) (N : List Str) (sc : Scope) (k : Nat) (W : WX) : Ctx := ⟨G.P, G.w, G.K, G.mg, G.base, N, sc, sc, k, G.M, W⟩
theorem slOk_start {M : MM} {F H : Hp} {μ : M.T} {N : List Str} {vs : List V} {ds : List D} (r : RepL F vs ds) : SlOk M F H μ (startEn N.length ds) (L2.start N vs) where
  fz := fun i d h => by
    unfold startEn at h
    unfold L2.start
    by_cases hi : i < ds.length
    · rw [List.getElem?_append_left (by simpa using hi), List.getElem?_map] at h
      cases e : ds[i]? with
      | none => rw [e] at h; cases h
      | some d' =>
        rw [e] at h; cases h
        obtain ⟨v, h1, h2⟩ := r.get e
        refine ⟨v, ?_, h2⟩
        rw [List.getElem?_append_left (by simpa [r.length] using hi), List.getElem?_map, h1]; rfl
    · rw [List.getElem?_append_right (by simpa using hi), List.getElem?_replicate] at h
      split at h <;> cases h
  ow := fun i d h => by
    exfalso
    unfold startEn at h
    by_cases hi : i < ds.length
    · rw [List.getElem?_append_left (by simpa using hi), List.getElem?_map] at h
      cases e : ds[i]? with
      | none => rw [e] at h; cases h
      | some d' => rw [e] at h; cases h
    · rw [List.getElem?_append_right (by simpa using hi), List.getElem?_replicate] at h
      split at h <;> cases h
  ap := fun i j d e a h _ _ _ => by
    exfalso
    unfold startEn at h
    by_cases hi : i < ds.length
    · rw [List.getElem?_append_left (by simpa using hi), List.getElem?_map] at h
      cases e : ds[i]? with
      | none => rw [e] at h; cases h
      | some d' => rw [e] at h; cases h
    · rw [List.getElem?_append_right (by simpa using hi), List.getElem?_replicate] at h
      split at h <;> cases h
  len := by
    unfold startEn L2.start
    simp [r.length]
theorem own_start {N : Nat} {ds : List D} {σ : L2.St} {b : Addr} (h : Own (startEn N ds) σ b) : False := by
  obtain ⟨i, co, h, _⟩ := h
  unfold startEn at h
  by_cases hi : i < ds.length
  · rw [List.getElem?_append_left (by simpa using hi), List.getElem?_map] at h
    cases e : ds[i]? with
    | none => rw [e] at h; cases h
    | some d' => rw [e] at h; cases h
  · rw [List.getElem?_append_right (by simpa using hi), List.getElem?_replicate] at h
    split at h <;> cases h
abbrev DSM (M : MM) : Type := (D → M.T → Prop) → (M.Er → M.T → Prop) → List D → M.T → Prop
/-- what a body comes to, from the arguments -/
def runB {c : Ctx} (n : Nat) (fb : DS c) : DSp c.M := fun ds μ Q E => fb { nx := fun _ μ' => Q .non μ', rt := Q, bk := fun _ _ => False, ct := fun _ _ => False, ex := fun e _ μ' => E e μ' } (startEn n ds) μ
theorem fn_ok {G : Gx} {x qual : Str} {st : Stmt} {f : Addr} {fd : FuncData} {N ps : List Str} {k : Nat} {C : DSp G.M} (F : FunD G.K x qual (defArgs st) (defBody st) (defScope st) [] [] f fd) (S : FnScope N ps (defScope st))
    (hb : ∀ W, ∃ fb : DS (defCtx G N (defScope st) k W), PSsd (defCtx G N (defScope st) k W) (defBody st) fb ∧ ∀ ds μ Q E, C ds μ Q E → ds.length = ps.length ∧ runB N.length fb ds μ Q E) :
    FnOk G.P G.w G.K G.mg G.base (L2.CX G.P G.w) (k + 1) f fd ps (toSp G.M C) := by
  refine FunD.ok (CX := L2.CX G.P G.w) F S (fun vs H Q E h => ?_) (fun cdv A outer s H vs Q E hr h => ?_)
  · obtain ⟨F, μ, ds, Qd, Ed, m, r, hC, _⟩ := h
    obtain ⟨fb, _, h2⟩ := hb fun _ _ _ _ => False
    rw [r.length]
    exact (h2 ds μ Qd Ed hC).1
  · obtain ⟨F0, μ, ds, Qd, Ed, m, r, hC, kq, ke⟩ := h
    obtain ⟨fb, ⟨t, t1, t2⟩, h2⟩ := hb fun cls dd _ H => E cls dd H
    obtain ⟨hl, hrun⟩ := h2 ds μ Qd Ed hC
    refine ⟨t, t1 _ ⟨rfl, rfl, rfl, rfl, rfl, rfl, S.nd, rfl, rfl, hr, fun x hx => ⟨hx, .inl rfl⟩, passes_of rfl, takes_of rfl rfl rfl rfl⟩, ?_⟩
    refine t2 F0 H μ (startEn N.length ds) (L2.start N vs) _ _ m (slOk_start r) hrun ⟨fun F' H' μ' ρ' σ' e m' s' q => ?_, fun v d F' H' μ' e m' r' q => ?_, fun _ _ _ _ _ _ _ _ q => q, fun _ _ _ _ _ _ _ _ q => q, fun er F' H' μ' ρ' σ' cls dd e m' s' q x' => ?_⟩
    · refine kq .non .non F' H' μ' ⟨e.fr, fun b o h n nt => e.nw b o h ?_ nt, fun b o h n => e.kp b o h ?_, fun b z => ?_, e.tr⟩ m' .non q
      · exact fun z => z.elim n fun z => own_start z
      · exact fun z => z.elim n fun z => own_start z
      · rcases e.ft b (.inl z) with z | z
        · exact z.elim .inl fun z => (own_start z).elim
        · exact .inr z
    · refine kq v d F' H' μ' ⟨e.fr, fun b o h n nt => e.nw b o h ?_ nt, fun b o h n => e.kp b o h ?_, fun b z => ?_, e.tr⟩ m' r' q
      · exact fun z => z.elim n fun z => own_start z
      · exact fun z => z.elim n fun z => own_start z
      · rcases e.ft b z with z | z
        · exact z.elim .inl fun z => (own_start z).elim
        · exact .inr z
    · refine ke er F' H' μ' cls dd ⟨e.fr, fun b o h n nt => e.nw b o h ?_ nt, fun b o h n => e.kp b o h ?_, fun b z => ?_, e.tr⟩ m' q x'
      · exact fun z => z.elim n fun z => own_start z
      · exact fun z => z.elim n fun z => own_start z
      · rcases e.ft b (.inl z) with z | z
        · exact z.elim .inl fun z => (own_start z).elim
        · exact .inr z
/-- a def of the text, by its body -/
theorem fn_D {G : Gx} {x : Str} {st : Stmt} {f : Addr} {fd : FuncData} {N ps : List Str} {k : Nat} {C : DSp G.M} (F : FunD G.K x x (defArgs st) (defBody st) (defScope st) [] [] f fd) (hm : G.mg x = some (.ref f)) (S : FnScope N ps (defScope st))
    (hbd : ∀ (kV doc pm : Value) (an : Option Addr) (cdv ct : Value) (us : List Value), us.length = ps.length → bindArgs (PySem.W.fnOf x x (defArgs st) (defBody st) (defScope st) .none kV doc pm an cdv ct) ⟨us, []⟩ = pure (ps.zip us))
    (hb : ∀ W, ∃ fb : DS (defCtx G N (defScope st) k W), PSsd (defCtx G N (defScope st) k W) (defBody st) fb ∧ ∀ ds μ Q E, C ds μ Q E → ds.length = ps.length ∧ runB N.length fb ds μ Q E) : FnD G (k + 1) x C :=
  ⟨f, fd, ps, hm, F.kp, F.bindsN hbd, fn_ok F S hb⟩
end DL

set_option Elab.async false
set_option linter.all false
set_option maxRecDepth 100000
set_option maxHeartbeats 4000000
/-! part DLk -/
namespace DL
open PySem PySem.Spec L2
variable {c : Ctx}

def pnE (f : DE c Co) : DE c D := fun ρ μ Q E => f ρ μ (fun co μ' => ∃ ds, co = .lst ds ∧ Q (.lst ds) μ') E
def negD : D → Option D
  | .int i => some (.int (-i))
  | _ => none
theorem pd_neg {a : Expr} {fa : DE c D} {pos} (ha : PD c a fa) : PD c (.UnaryOp .USub a pos) (op1 negD fa) := by
  obtain ⟨ta, a1, a2⟩ := ha
  refine ⟨_, fun X h => pe_un un_neg (a1 X h), snd_op1 (r := rU fun i => .int (-i)) (fun F H μ x a d Qh m ra e k => ?_) a2⟩
  cases ra <;> simp only [negD, reduceCtorEq, Option.some.injEq] at e
  subst e
  exact ⟨_, rfl, keep m (.int _) k⟩

/-! part DLk -/
def tyN : D → Option String
  | .non => some "NoneType"
  | .bl _ => some "bool"
  | .int _ => some "int"
  | .str _ => some "str"
  | .tup _ => some "tuple"
  | .lst _ => some "list"
  | _ => none
theorem tyN_rep {K : PySem.W.Frag} {F H : Hp} {v : V} {d : D} {n : String} (fh : Same F H) (r : Rep F v d) (h : tyN d = some n) : TyX K H v (.type n) := by
  cases r <;> simp only [tyN, reduceCtorEq, Option.some.injEq] at h <;> subst h
  · exact .base .non
  · exact .base (.bl _)
  · exact .base (.int _)
  · exact .base (.str _)
  · rename_i h1 _; exact .base (.tup (fh _ _ h1))
  · rename_i h1 _; exact .base (.lst (fh _ _ h1))
theorem pd_isi (T : String) (g : D → Option D) (hgT : ∀ d b, g d = some b → ∃ n r, tyN d = some n ∧ kitB n T = some r ∧ b = .bl r) {a : Expr} {fa : DE c D} {x : Str} {p p2 pos : Pos} (ha : PD c a fa) (hm : c.mg "isinstance" = none) (hm2 : c.mg x = none) (hv : bootBuiltins x = some (.type T)) (hg : Glb c "isinstance") (hg2 : Glb c x)
    (hn : x ≠ "__name__") (hdb : (x == ("__debug__" : Str)) = false) (he : ∀ env, starEach [a, .Name x p2] env = (false, eval a env) :: starEach [.Name x p2] env := by intro _; rfl) (he2 : ∀ env, starEach [.Name x p2] env = (false, eval (.Name x p2) env) :: starEach [] env := by intro _; rfl) :
    PD c (.Call (.Name "isinstance" p) [a, .Name x p2] [] pos) (op1 g fa) := by
  obtain ⟨ta, a1, a2⟩ := ha
  refine ⟨tCB (rIsi c.K) (tCons ta (tCons (tC (.ty T)) tNil)), fun X h => ?_, ?_⟩
  · exact pe_callB (r := rIsi c.K) (by rw [← h.hK]; exact call_isi) (h.gl hg) (h.mgn hm) (by decide +kernel) (pa_cons (a1 X h) (pa_cons (pe_bltn (v := .ty T) (h.gl hg2) (h.mgn hm2) hv rfl hn hdb) pa_nil (he2 _)) (he _)) (by decide) (by decide) (he _) rfl
  · refine SndG.bind (tb := fun x σ H Q => rIsi c.K [x, .ty T] H Q) (fb := fun a => ret (g a)) (fun x d F _ _ => Rep F x d) (fun _ _ _ _ _ _ h => h) a2 Stab.true back_D fun x a => ?_
    refine SndG.here (x := fun _ _ _ => True) fun F H μ d Qh m p e k σ => ?_
    obtain ⟨n, r, h1, h2, rfl⟩ := hgT a d e
    exact ⟨x, .ty T, .type n, .type T, r, rfl, .ty T, tyN_rep m.fh p.2 h1, kit_ty h2, keep m (.bl _) k⟩
def isi_int : D → Option D
  | .bl _ => some (.bl true) | .int _ => some (.bl true)
  | .non => some (.bl false) | .str _ => some (.bl false) | .tup _ => some (.bl false) | .lst _ => some (.bl false)
  | _ => none
def isi_bool : D → Option D
  | .bl _ => some (.bl true)
  | .int _ => some (.bl false) | .non => some (.bl false) | .str _ => some (.bl false) | .tup _ => some (.bl false) | .lst _ => some (.bl false)
  | _ => none
def isi_str : D → Option D
  | .str _ => some (.bl true)
  | .int _ => some (.bl false) | .non => some (.bl false) | .bl _ => some (.bl false) | .tup _ => some (.bl false) | .lst _ => some (.bl false)
  | _ => none
def isi_tuple : D → Option D
  | .tup _ => some (.bl true)
  | .int _ => some (.bl false) | .non => some (.bl false) | .bl _ => some (.bl false) | .str _ => some (.bl false) | .lst _ => some (.bl false)
  | _ => none
def isi_list : D → Option D
  | .lst _ => some (.bl true)
  | .int _ => some (.bl false) | .non => some (.bl false) | .bl _ => some (.bl false) | .str _ => some (.bl false) | .tup _ => some (.bl false)
  | _ => none
section
variable {a : Expr} {fa : DE c D} {p p2 pos : Pos}
theorem pd_isi_int (ha : PD c a fa) (hm : c.mg "isinstance" = none) (hm2 : c.mg "int" = none) (hg : Glb c "isinstance" := by rfl) (hg2 : Glb c "int" := by rfl) (he : ∀ env, starEach [a, .Name "int" p2] env = (false, eval a env) :: starEach [.Name "int" p2] env := by intro _; rfl) : PD c (.Call (.Name "isinstance" p) [a, .Name "int" p2] [] pos) (op1 isi_int fa) :=
  pd_isi "int" isi_int (fun d b h => by cases d <;> simp only [isi_int, reduceCtorEq, Option.some.injEq] at h <;> subst h <;> exact ⟨_, _, rfl, by decide +kernel, rfl⟩) ha hm hm2 (by decide +kernel) hg hg2 (by decide) (by decide) he
theorem pd_isi_bool (ha : PD c a fa) (hm : c.mg "isinstance" = none) (hm2 : c.mg "bool" = none) (hg : Glb c "isinstance" := by rfl) (hg2 : Glb c "bool" := by rfl) (he : ∀ env, starEach [a, .Name "bool" p2] env = (false, eval a env) :: starEach [.Name "bool" p2] env := by intro _; rfl) : PD c (.Call (.Name "isinstance" p) [a, .Name "bool" p2] [] pos) (op1 isi_bool fa) :=
  pd_isi "bool" isi_bool (fun d b h => by cases d <;> simp only [isi_bool, reduceCtorEq, Option.some.injEq] at h <;> subst h <;> exact ⟨_, _, rfl, by decide +kernel, rfl⟩) ha hm hm2 (by decide +kernel) hg hg2 (by decide) (by decide) he
theorem pd_isi_str (ha : PD c a fa) (hm : c.mg "isinstance" = none) (hm2 : c.mg "str" = none) (hg : Glb c "isinstance" := by rfl) (hg2 : Glb c "str" := by rfl) (he : ∀ env, starEach [a, .Name "str" p2] env = (false, eval a env) :: starEach [.Name "str" p2] env := by intro _; rfl) : PD c (.Call (.Name "isinstance" p) [a, .Name "str" p2] [] pos) (op1 isi_str fa) :=
  pd_isi "str" isi_str (fun d b h => by cases d <;> simp only [isi_str, reduceCtorEq, Option.some.injEq] at h <;> subst h <;> exact ⟨_, _, rfl, by decide +kernel, rfl⟩) ha hm hm2 (by decide +kernel) hg hg2 (by decide) (by decide) he
theorem pd_isi_tuple (ha : PD c a fa) (hm : c.mg "isinstance" = none) (hm2 : c.mg "tuple" = none) (hg : Glb c "isinstance" := by rfl) (hg2 : Glb c "tuple" := by rfl) (he : ∀ env, starEach [a, .Name "tuple" p2] env = (false, eval a env) :: starEach [.Name "tuple" p2] env := by intro _; rfl) : PD c (.Call (.Name "isinstance" p) [a, .Name "tuple" p2] [] pos) (op1 isi_tuple fa) :=
  pd_isi "tuple" isi_tuple (fun d b h => by cases d <;> simp only [isi_tuple, reduceCtorEq, Option.some.injEq] at h <;> subst h <;> exact ⟨_, _, rfl, by decide +kernel, rfl⟩) ha hm hm2 (by decide +kernel) hg hg2 (by decide) (by decide) he
theorem pd_isi_list (ha : PD c a fa) (hm : c.mg "isinstance" = none) (hm2 : c.mg "list" = none) (hg : Glb c "isinstance" := by rfl) (hg2 : Glb c "list" := by rfl) (he : ∀ env, starEach [a, .Name "list" p2] env = (false, eval a env) :: starEach [.Name "list" p2] env := by intro _; rfl) : PD c (.Call (.Name "isinstance" p) [a, .Name "list" p2] [] pos) (op1 isi_list fa) :=
  pd_isi "list" isi_list (fun d b h => by cases d <;> simp only [isi_list, reduceCtorEq, Option.some.injEq] at h <;> subst h <;> exact ⟨_, _, rfl, by decide +kernel, rfl⟩) ha hm hm2 (by decide +kernel) hg hg2 (by decide) (by decide) he
end

/-! part DLk -/
def inG (ws : List Str) : D → Option D
  | .str x => some (.bl (decide (x ∈ ws)))
  | _ => none
def notInG (ws : List Str) : D → Option D
  | .str x => some (.bl (!decide (x ∈ ws)))
  | _ => none
/-- the module's name x is a tuple of these texts -/
def GTup (mg : Str → Option Value) (K : PySem.W.Frag) (x : Str) (ws : List Str) : Prop := ∃ a, mg x = some (.ref a) ∧ ∀ H, SqT K H a (ws.map V.str)
theorem inV_str (x : Str) : ∀ ws : List Str, inV (.str x) (ws.map V.str) = decide (x ∈ ws)
  | [] => rfl
  | w :: ws => by
    have ih := inV_str x ws
    unfold inV at ih ⊢
    rw [List.map_cons, List.any_cons, ih]
    show (eqV (.str w) (.str x) || decide (x ∈ ws)) = decide (x ∈ w :: ws)
    have : eqV (.str w) (.str x) = decide (x = w) := by
      show (w == x) = decide (x = w)
      by_cases h : x = w
      · subst h; simp
      · have h' : ¬ w = x := fun e => h e.symm
        simp [h, h']
    rw [this]
    by_cases h : x = w <;> simp [h]
theorem flat_strs : ∀ ws : List Str, (ws.map V.str).all flatV = true
  | [] => rfl
  | w :: ws => by rw [List.map_cons, List.all_cons, flat_strs ws]; rfl
theorem pb_notInG {a : Expr} {fa : DE c D} {x : Str} {ws : List Str} {p pos : Pos} (ha : PD c a fa) (hm : GTup c.mg c.K x ws) (hg : Glb c x := by rfl) (hdb : (x == ("__debug__" : Str)) = false := by decide) : PB c (.Compare a [.NotIn] [.Name x p] pos) (tst (op1 (notInG ws) fa)) := by
  obtain ⟨ta, a1, a2⟩ := ha
  obtain ⟨b, hm, hs⟩ := hm
  refine ⟨_, fun X h => pt_cmpR (r := rIn c.K true) (by rw [← h.hK]; exact op_notIn_seq) (a1 X h) (pe_glob (v := .ref b) (h.gl hg) (h.mgn hm) rfl hdb) rfl, snd_tst ?_⟩
  refine SndG.bind (tb := fun x σ H Q => rIn c.K true x (.ref b) H Q) (fb := fun a => ret (notInG ws a)) (fun x d F _ _ => Rep F x d) (fun _ _ _ _ _ _ h => h) a2 Stab.true back_D fun x a => ?_
  refine SndG.here (x := fun _ _ _ => True) fun F H μ d Qh m p e k σ => ?_
  obtain ⟨_, r⟩ := p
  cases r <;> simp only [notInG, reduceCtorEq, Option.some.injEq] at e
  subst e
  refine ⟨b, _, rfl, .inr (hs H), rfl, flat_strs ws, ?_⟩
  rw [inV_str]
  exact keep m (.bl _) k

/-! part DLk -/
section
variable {elt tg iter : Expr} {ifs : List Expr} {scope : Scope} {sl : List Nat} {pos : Pos} {fi : DE c (List D)} {g : D → En → Option En} {ft : DE c Bool} {fe : DE c D}
theorem snd_pnX {t : TE} {f : DE c Co} (h2 : SndG c (fun _ _ _ => True) (RO c) t f) : SndG c (fun _ _ _ => True) (RX c) t (fzE (pnE f)) := by
  have h : SndG c (fun _ _ _ => True) (RD c) t (pnE f) := fun F H μ ρ σ Q E Qh m s p hf kq ke => by
    refine h2 F H μ ρ σ _ E Qh m s trivial hf (fun v co F1 H1 μ1 e1 m1 r q => ?_) ke
    obtain ⟨ds, rfl, q⟩ := q
    obtain ⟨a, rfl, h3, h4, h5, vs, h6, h7⟩ := r
    have ss : Same F1 (upd F1 a (.lst vs)) := fun b u z => by rw [upd_ne (ne_of_none z h4)]; exact z
    refine kq _ _ (upd F1 a (.lst vs)) H1 μ1 ⟨e1.fr.trans ss, fun b o z n nt => ?_, e1.kp, e1.ft, e1.tr⟩ (m1.cong h4 h5 h6) (.lst upd_same (h7.mono ss)) q
    rw [upd_ne (ne_of_none z h3)]
    exact e1.nw b o z n nt
  exact fun F H μ ρ σ Q E Qh m s p hf kq ke => h F H μ ρ σ _ E Qh m s trivial hf (fun v d F1 H1 μ1 e1 m1 r q => kq v (.fz d) F1 H1 μ1 e1 m1 r q) ke
theorem psd_setLcF (i : Nat) {y : Str} {py spos : Pos} (own : List (Str × Nat)) (hi : PId c tg iter fi) (hg : PGd (c.blk scope) tg sl g) (ht : PTsd (c.blk scope) ifs ft) (he : PD (c.blk scope) elt fe) (ok : blkC c.N c.sc scope own = true := by rfl) (hsl : ∀ j ∈ sl, j ∈ own.map (·.2) := by decide) (hn : c.N[i]? = some y := by rfl) (hy : c.sc.names.lookup y = some .local := by rfl)
    (hk : c.sc.kind = .function := by rfl) (hl : (py.line == pos.line) = true := by rfl) (ha : (scope.names.any fun (n, k) => n == y && (k == .local || k == .cell)) = false := by decide +kernel) (hs : ∀ env x, foldedSetIterable iter env x = pure x := by intro _ _; rfl) :
    PSd c (.Assign [.Name y py] (.ListComp elt [⟨tg, iter, ifs, 0⟩] scope pos) spos) (setS i (fzE (pnE (lcE (own.map (·.2)) fi g ft fe)))) := by
  obtain ⟨ti, i1, i2⟩ := hi
  obtain ⟨tg', g1, g2⟩ := hg
  obtain ⟨tt, t1, t2⟩ := ht
  obtain ⟨te, e1, e2⟩ := he
  refine ⟨tAsg (tLc ti tg' tt te (own.map (·.2))) (gName i), fun X h => ps_setLc h.cl h.ndX (h.nx hn) (by rw [h.hsc]; exact hy) (sw_true (by rw [h.hsc]; exact hk) (by rw [h.hsc]; exact hy) hl ha) (i1 X h) (by rw [h.hN, h.hsc]; exact blkOk_by ok) (fun s H C cl fp => g1 _ (h.blk s H C cl fp)) (fun s H C cl fp => t1 _ (h.blk s H C cl fp)) (fun s H C cl fp => e1 _ (h.blk s H C cl fp)) (hs _), ?_⟩
  exact snd_set (snd_pnX (snd_lc hsl i2 g2 t2 e2))
end
end DL

set_option Elab.async false
set_option linter.all false
set_option maxRecDepth 100000
set_option maxHeartbeats 4000000
/-! part DLx -/
namespace DL
open PySem PySem.Spec L2
variable {c : Ctx}

/-- how a plain program ends -/
abbrev Rs (α : Type) := Option (Except Exn α)
abbrev XE (α : Type) := En → Rs α
def lf {α : Type} (g : XE α) : DE c α := fun ρ μ Q E => match g ρ with
  | some (.ok d) => Q d μ
  | some (.error e) => E e μ
  | none => False
def bindX {α β : Type} (a : XE α) (b : α → XE β) : XE β := fun ρ => match a ρ with
  | some (.ok d) => b d ρ
  | some (.error e) => some (.error e)
  | none => none
def okX {α : Type} (o : Option α) : XE α := fun _ => match o with
  | some d => some (.ok d)
  | none => none
theorem lf_ext {α : Type} {f : DE c α} {g : XE α} (h : ∀ ρ μ Q E, f ρ μ Q E = lf g ρ μ Q E) : f = lf g := by
  funext ρ μ Q E; exact h ρ μ Q E
theorem bind_lf {α β : Type} {a : XE α} {f : α → DE c β} {b : α → XE β} (h : ∀ d, f d = lf (b d)) : bindE (lf a) f = lf (bindX a b) := lf_ext fun ρ μ Q E => by
  unfold bindE lf bindX
  cases a ρ with
  | none => rfl
  | some r =>
    cases r with
    | error e => rfl
    | ok d => exact congrFun (congrFun (congrFun (congrFun (h d) ρ) μ) Q) E
theorem ok_lf {α : Type} {o : Option α} {f : DE c α} (h : ∀ ρ μ Q E, f ρ μ Q E = ∃ d, o = some d ∧ Q d μ) : f = lf (okX o) := lf_ext fun ρ μ Q E => by
  rw [h]
  unfold lf okX
  cases o with
  | none => exact propext ⟨fun ⟨_, e, _⟩ => (by cases e), fun z => False.elim z⟩
  | some d => exact propext ⟨fun ⟨_, e, q⟩ => by cases e; exact q, fun q => ⟨d, rfl, q⟩⟩

/-! part DLx -/
def varX (i : Nat) : XE D := fun ρ => match ρ[i]? with
  | some (.fz d) => some (.ok d)
  | _ => none
theorem xvar {i : Nat} : (var i : DE c D) = lf (varX i) := lf_ext fun ρ μ Q E => by
  unfold var lf varX
  cases h : ρ[i]? with
  | none => exact propext ⟨fun ⟨_, e, _⟩ => (by cases e), fun z => False.elim z⟩
  | some s =>
    cases s with
    | fz d => exact propext ⟨fun ⟨_, e, q⟩ => by cases e; exact q, fun q => ⟨d, rfl, q⟩⟩
    | un => exact propext ⟨fun ⟨_, e, _⟩ => (by cases e), fun z => False.elim z⟩
    | ow co => exact propext ⟨fun ⟨_, e, _⟩ => (by cases e), fun z => False.elim z⟩
theorem xret {o : Option D} : (ret o : DE c D) = lf (okX o) := ok_lf fun _ _ _ _ => rfl
def op1X (g : D → Option D) (a : XE D) : XE D := bindX a fun x => okX (g x)
theorem xop1 {g : D → Option D} {a : XE D} : (op1 g (lf a) : DE c D) = lf (op1X g a) := bind_lf fun _ => xret
def op2X (g : D → D → Option D) (a b : XE D) : XE D := bindX a fun x => bindX b fun y => okX (g x y)
theorem xop2 {g : D → D → Option D} {a b : XE D} : (op2 g (lf a) (lf b) : DE c D) = lf (op2X g a b) := bind_lf fun _ => bind_lf fun _ => xret
def blO : D → Option Bool
  | .bl b => some b
  | _ => none
def onB {α : Type} (y n : XE α) : D → XE α
  | .bl b => if b = true then y else n
  | _ => fun _ => none
theorem onB_lf {α : Type} {y n : XE α} {d : D} {fy fn : DE c α} (hy : fy = lf y) (hn : fn = lf n) : (fun ρ μ Q E => ∃ b, d = D.bl b ∧ if b = true then fy ρ μ Q E else fn ρ μ Q E) = (lf (onB y n d) : DE c α) := by
  subst hy hn
  refine lf_ext fun ρ μ Q E => ?_
  cases d with
  | bl b =>
    unfold onB
    cases b with
    | true => exact propext ⟨fun ⟨_, e, q⟩ => by cases e; exact q, fun q => ⟨_, rfl, q⟩⟩
    | false => exact propext ⟨fun ⟨_, e, q⟩ => by cases e; exact q, fun q => ⟨_, rfl, q⟩⟩
  | _ => exact propext ⟨fun ⟨_, e, _⟩ => (by cases e), fun z => False.elim z⟩
def andX (a b : XE D) : XE D := bindX a (onB b (okX (some (.bl false))))
theorem xand {a b : XE D} : (andE (lf a) (lf b) : DE c D) = lf (andX a b) := bind_lf fun d => onB_lf (n := okX (some (D.bl false))) rfl (funext fun _ => funext fun _ => funext fun _ => funext fun _ => rfl)
def orX (a b : XE D) : XE D := bindX a (onB (okX (some (.bl true))) b)
theorem xor {a b : XE D} : (orE (lf a) (lf b) : DE c D) = lf (orX a b) := bind_lf fun d => onB_lf (y := okX (some (D.bl true))) (funext fun _ => funext fun _ => funext fun _ => funext fun _ => rfl) rfl
def tstX (a : XE D) : XE Bool := bindX a fun d => okX (blO d)
theorem xtst {a : XE D} : (tst (lf a) : DE c Bool) = lf (tstX a) := bind_lf fun d => ok_lf fun ρ μ Q E => by
  cases d with
  | bl b => exact propext ⟨fun ⟨_, e, q⟩ => by cases e; exact ⟨_, rfl, q⟩, fun ⟨_, e, q⟩ => by cases e; exact ⟨_, rfl, q⟩⟩
  | _ => exact propext ⟨fun ⟨_, e, _⟩ => (by cases e), fun ⟨_, e, _⟩ => (by cases e)⟩
def condX {α : Type} (t : XE Bool) (y n : XE α) : XE α := bindX t fun b => if b = true then y else n
theorem cond_lf {α : Type} {t : XE Bool} {y n : XE α} {fy fn : DE c α} (hy : fy = lf y) (hn : fn = lf n) : bindE (lf t) (fun b => fun ρ μ Q E => if b = true then fy ρ μ Q E else fn ρ μ Q E) = lf (condX t y n) := bind_lf fun b => by
  subst hy hn
  cases b <;> rfl
def andBX (a b : XE Bool) : XE Bool := condX a b (okX (some false))
theorem xandB {a b : XE Bool} : (andB (lf a) (lf b) : DE c Bool) = lf (andBX a b) := cond_lf rfl (n := okX (some false)) (funext fun _ => funext fun _ => funext fun _ => funext fun _ => rfl)
def orBX (a b : XE Bool) : XE Bool := condX a (okX (some true)) b
theorem xorB {a b : XE Bool} : (orB (lf a) (lf b) : DE c Bool) = lf (orBX a b) := cond_lf (y := okX (some true)) (funext fun _ => funext fun _ => funext fun _ => funext fun _ => rfl) rfl
def notBX (a : XE Bool) : XE Bool := bindX a fun b => okX (some !b)
theorem xnotB {a : XE Bool} : (notB (lf a) : DE c Bool) = lf (notBX a) := bind_lf fun b => funext fun _ => funext fun _ => funext fun _ => funext fun _ => rfl
def ifX (t : XE Bool) (a b : XE D) : XE D := condX t a b
theorem xif {t : XE Bool} {a b : XE D} : (ifE (lf t) (lf a) (lf b) : DE c D) = lf (ifX t a b) := cond_lf rfl rfl
def chainX (g g' : D → D → Option D) (a b z : XE D) : XE D := bindX a fun x => bindX b fun y => bindX (okX ((g x y).bind blO)) fun k => if k = true then op1X (g' y) z else okX (some (.bl false))
theorem xchain {g g' : D → D → Option D} {a b z : XE D} : (chainE g g' (lf a) (lf b) (lf z) : DE c D) = lf (chainX g g' a b z) := bind_lf fun x => bind_lf fun y => lf_ext fun ρ μ Q E => by
  cases h : g x y with
  | none => exact propext ⟨fun ⟨_, e, _⟩ => (by cases e), fun z => False.elim z⟩
  | some r =>
    cases r with
    | bl k =>
      cases k with
      | false => exact propext ⟨fun ⟨_, e, q⟩ => by cases e; exact q, fun q => ⟨_, rfl, q⟩⟩
      | true =>
        have e2 : lf (bindX (okX ((some (D.bl true)).bind blO)) fun k => if k = true then op1X (g' y) z else okX (some (.bl false))) ρ μ Q E = (op1 (g' y) (lf z) : DE c D) ρ μ Q E := by rw [xop1]; rfl
        rw [e2]
        exact propext ⟨fun ⟨_, e, q⟩ => by cases e; exact q, fun q => ⟨_, rfl, q⟩⟩
    | _ => exact propext ⟨fun ⟨_, e, _⟩ => (by cases e), fun z => False.elim z⟩
def nilX : XE (List D) := okX (some [])
theorem xnil : (nilE : DE c (List D)) = lf nilX := rfl
def consX (a : XE D) (r : XE (List D)) : XE (List D) := bindX a fun x => bindX r fun xs => okX (some (x :: xs))
theorem xcons {a : XE D} {r : XE (List D)} : (consE (lf a) (lf r) : DE c (List D)) = lf (consX a r) := bind_lf fun _ => bind_lf fun _ => rfl
def lenOk {α : Type} (ds : List D) (x : α) : Option α := if ds.length ≤ sizeLine then some x else none
theorem lenOk_lf {α : Type} {ds : List D} {x : α} : (fun _ μ Q _ => ds.length ≤ sizeLine ∧ Q x μ : DE c α) = lf (okX (lenOk ds x)) := ok_lf fun ρ μ Q E => by
  unfold lenOk
  split
  · exact propext ⟨fun ⟨_, q⟩ => ⟨_, rfl, q⟩, fun ⟨_, e, q⟩ => by cases e; exact ⟨by assumption, q⟩⟩
  · exact propext ⟨fun ⟨h, _⟩ => by contradiction, fun ⟨_, e, _⟩ => by cases e⟩
def tupX (a : XE (List D)) : XE D := bindX a fun ds => okX (lenOk ds (.tup ds))
theorem xtup {a : XE (List D)} : (tupE (lf a) : DE c D) = lf (tupX a) := bind_lf fun _ => lenOk_lf
def lstX (a : XE (List D)) : XE Co := bindX a fun ds => okX (lenOk ds (.lst ds))
theorem xlst {a : XE (List D)} : (lstE (lf a) : DE c Co) = lf (lstX a) := bind_lf fun _ => lenOk_lf
def pkX (a : XE D) : XE Co := bindX a fun d => okX (toCo d)
theorem xpk {a : XE D} : (pkE (lf a) : DE c Co) = lf (pkX a) := bind_lf fun _ => ok_lf fun _ _ _ _ => rfl
def varPX (i : Nat) : XE Co := fun ρ => okX (ρ[i]?.bind slCo) ρ
theorem xvarP {i : Nat} : (varP i : DE c Co) = lf (varPX i) := lf_ext fun ρ μ Q E => by
  show _ = lf (okX (ρ[i]?.bind slCo)) ρ μ Q E
  rw [← ok_lf (f := (fun _ μ Q _ => ∃ d, (ρ[i]?.bind slCo) = some d ∧ Q d μ : DE c Co)) (fun _ _ _ _ => rfl)]
  refine propext ⟨fun ⟨s, co, e1, e2, q⟩ => ⟨co, ?_, q⟩, fun ⟨co, e, q⟩ => ?_⟩
  · rw [e1]; exact e2
  · obtain ⟨s, e1, e2⟩ := Option.bind_eq_some_iff.mp e
    exact ⟨s, co, e1, e2, q⟩
def opPX (g : D → Co → Option D) (a : XE D) (b : XE Co) : XE D := bindX a fun x => bindX b fun y => okX (g x y)
theorem xopP {g : D → Co → Option D} {a : XE D} {b : XE Co} : (opP g (lf a) (lf b) : DE c D) = lf (opPX g a b) := bind_lf fun _ => bind_lf fun _ => xret
def getO (co : Co) (k : D) : Option D := match lookCo co k with
  | some (some v) => ofV v
  | _ => none
def getX (a : XE Co) (b : XE D) : XE D := bindX a fun x => bindX b fun y => okX (getO x y)
theorem xget {a : XE Co} {b : XE D} : (getE (lf a) (lf b) : DE c D) = lf (getX a b) := bind_lf fun co => bind_lf fun k => ok_lf fun ρ μ Q E => by
  unfold getO
  cases h : lookCo co k with
  | none => exact propext ⟨fun ⟨_, _, e, _⟩ => (by cases e), fun ⟨_, e, _⟩ => by cases e⟩
  | some o =>
    cases o with
    | none => exact propext ⟨fun ⟨_, _, e, _⟩ => (by cases e), fun ⟨_, e, _⟩ => by cases e⟩
    | some v => exact propext ⟨fun ⟨_, _, e, e2, q⟩ => by cases e; exact ⟨_, e2, q⟩, fun ⟨_, e, q⟩ => ⟨_, _, rfl, e, q⟩⟩
def getDX (a : XE Co) (b x : XE D) : XE D := bindX a fun co => if co.isD = true then bindX b fun k => bindX x fun y => okX (pick co k y) else fun _ => none
theorem xgetD {a : XE Co} {b x : XE D} : (getDE (lf a) (lf b) (lf x) : DE c D) = lf (getDX a b x) := bind_lf fun co => by
  have e : (bindE (lf b) fun k => bindE (lf x) fun y => ret (pick co k y) : DE c D) = lf (bindX b fun k => bindX x fun y => okX (pick co k y)) := bind_lf fun _ => bind_lf fun _ => xret
  rw [e]
  refine lf_ext fun ρ μ Q E => ?_
  cases h : co.isD with
  | false => exact propext ⟨fun ⟨z, _⟩ => (by cases z), fun z => False.elim z⟩
  | true => exact propext ⟨fun ⟨_, q⟩ => q, fun q => ⟨rfl, q⟩⟩
def ixPX (a : XE Co) (b : XE D) : XE D := bindX a fun x => bindX b fun y => okX (ixPD x y)
theorem xixP {a : XE Co} {b : XE D} : (ixPE (lf a) (lf b) : DE c D) = lf (ixPX a b) := bind_lf fun _ => bind_lf fun _ => xret
def nonePX : XE (Option Int) := okX (some none)
theorem xnoneP : (noneP : DE c (Option Int)) = lf nonePX := rfl
def intO : D → Option Int
  | .int i => some i
  | _ => none
theorem intO_lf {α : Type} {d : D} {f : Int → α} : (fun _ μ Q _ => ∃ i, d = D.int i ∧ Q (f i) μ : DE c α) = lf (okX ((intO d).map f)) := ok_lf fun ρ μ Q E => by
  cases d with
  | int i => exact propext ⟨fun ⟨_, e, q⟩ => by cases e; exact ⟨_, rfl, q⟩, fun ⟨_, e, q⟩ => by cases e; exact ⟨_, rfl, q⟩⟩
  | _ => exact propext ⟨fun ⟨_, e, _⟩ => (by cases e), fun ⟨_, e, _⟩ => (by cases e)⟩
def somePX (a : XE D) : XE (Option Int) := bindX a fun d => okX ((intO d).map some)
theorem xsomeP {a : XE D} : (someP (lf a) : DE c (Option Int)) = lf (somePX a) := bind_lf fun _ => intO_lf
def slTX (a : XE D) (l h : XE (Option Int)) : XE D := bindX a fun x => bindX l fun y => bindX h fun z => okX (slTD x y z)
theorem xslT {a : XE D} {l h : XE (Option Int)} : (slTE (lf a) (lf l) (lf h) : DE c D) = lf (slTX a l h) := bind_lf fun _ => bind_lf fun _ => bind_lf fun _ => xret
def slLO : Co → Option Int → Option Int → Option Co
  | .lst ds, l, h => some (.lst (cutD ds l h))
  | _, _, _ => none
def slLX (a : XE Co) (l h : XE (Option Int)) : XE Co := bindX a fun x => bindX l fun y => bindX h fun z => okX (slLO x y z)
theorem xslL {a : XE Co} {l h : XE (Option Int)} : (slLE (lf a) (lf l) (lf h) : DE c Co) = lf (slLX a l h) := bind_lf fun co => bind_lf fun _ => bind_lf fun _ => ok_lf fun ρ μ Q E => by
  cases co with
  | lst ds => exact propext ⟨fun ⟨_, e, q⟩ => by cases e; exact ⟨_, rfl, q⟩, fun ⟨_, e, q⟩ => by cases e; exact ⟨_, rfl, q⟩⟩
  | _ => exact propext ⟨fun ⟨_, e, _⟩ => (by cases e), fun ⟨_, e, _⟩ => (by cases e)⟩
def lstO : Co → Option D
  | .lst ds => some (.lst ds)
  | _ => none
def pnX (a : XE Co) : XE D := bindX a fun co => okX (lstO co)
theorem xpn {a : XE Co} : (pnE (lf a) : DE c D) = lf (pnX a) := by
  refine (show (pnE (lf a) : DE c D) = bindE (lf a) fun co => fun _ μ Q _ => ∃ ds, co = .lst ds ∧ Q (.lst ds) μ from rfl).trans (bind_lf fun co => ok_lf fun ρ μ Q E => ?_)
  cases co with
  | lst ds => exact propext ⟨fun ⟨_, e, q⟩ => by cases e; exact ⟨_, rfl, q⟩, fun ⟨_, e, q⟩ => by cases e; exact ⟨_, rfl, q⟩⟩
  | _ => exact propext ⟨fun ⟨_, e, _⟩ => (by cases e), fun ⟨_, e, _⟩ => (by cases e)⟩
theorem pn_lf {e : Expr} {g : XE Co} (h : PN c e (lf g)) : PD c e (lf (pnX g)) := by
  have := h.pd
  rw [← xpn]
  exact this
def fzX (a : XE D) : XE Sl := bindX a fun d => okX (some (.fz d))
theorem xfz {a : XE D} : (fzE (lf a) : DE c Sl) = lf (fzX a) := by
  refine (show (fzE (lf a) : DE c Sl) = bindE (lf a) fun d => fun _ μ Q _ => Q (.fz d) μ from rfl).trans (bind_lf fun co => rfl)
def owX (a : XE Co) : XE Sl := bindX a fun d => okX (some (.ow d))
theorem xow {a : XE Co} : (owE (lf a) : DE c Sl) = lf (owX a) := by
  refine (show (owE (lf a) : DE c Sl) = bindE (lf a) fun d => fun _ μ Q _ => Q (.ow d) μ from rfl).trans (bind_lf fun co => rfl)
/-! part DLx -/
def seqO : D → Option (List D) := itemsD
def seqX (a : XE D) : XE (List D) := bindX a fun d => okX (itemsD d)
theorem xseq {a : XE D} : (seqE (lf a) : DE c (List D)) = lf (seqX a) := bind_lf fun _ => ok_lf fun _ _ _ _ => rfl
def rg1O : D → Option (List D)
  | .int j => if smI 4611686018427387904 j = true then some (rgD 0 j.toNat) else none
  | _ => none
def rg1X (a : XE D) : XE (List D) := bindX a fun d => okX (rg1O d)
theorem xrg1 {a : XE D} : (rg1E (lf a) : DE c (List D)) = lf (rg1X a) := bind_lf fun d => ok_lf fun ρ μ Q E => by
  cases d with
  | int i =>
    unfold rg1O
    refine propext ⟨fun ⟨j, e, h1, q⟩ => ?_, fun ⟨d, e, q⟩ => ?_⟩
    · cases e
      exact ⟨_, if_pos h1, q⟩
    · simp only at e
      split at e
      · rename_i hh
        cases e
        exact ⟨i, rfl, hh, q⟩
      · cases e
  | _ => exact propext ⟨fun ⟨_, e, _⟩ => (by cases e), fun ⟨_, e, _⟩ => (by cases e)⟩
def rg2O : D → D → Option (List D)
  | .int i, .int j => if (smI 4611686018427387904 i && smI 4611686018427387904 j) = true then some (rgD i (j - i).toNat) else none
  | _, _ => none
def rg2X (a b : XE D) : XE (List D) := bindX a fun d => bindX b fun e => okX (rg2O d e)
theorem xrg2 {a b : XE D} : (rg2E (lf a) (lf b) : DE c (List D)) = lf (rg2X a b) := bind_lf fun d => bind_lf fun d2 => ok_lf fun ρ μ Q E => by
  refine propext ⟨fun ⟨i, j, e1, e2, h, q⟩ => ?_, fun ⟨l, e, q⟩ => ?_⟩
  · subst e1 e2
    exact ⟨_, if_pos h, q⟩
  · cases d <;> cases d2 <;> simp only [rg2O, reduceCtorEq] at e
    split at e
    · rename_i hh
      cases e
      exact ⟨_, _, rfl, rfl, hh, q⟩
    · cases e
/-! part DLx -/
def yesX : XE Bool := okX (some true)
theorem xyes : (fun _ μ Q _ => Q true μ : DE c Bool) = lf yesX := rfl
def lcWX (g : D → En → Option En) (ft : XE Bool) (fe : XE D) (ρ0 : En) : List D → List D → Option Co
  | [], acc => some (.lst acc)
  | d :: ds, acc => match g d ρ0 with
    | none => none
    | some ρ' => match ft ρ' with
      | some (.ok true) => match fe ρ' with
        | some (.ok y) => if acc.length < sizeLine then lcWX g ft fe ρ0 ds (acc ++ [y]) else none
        | _ => none
      | some (.ok false) => lcWX g ft fe ρ0 ds acc
      | _ => none
def lcX (vs : List Nat) (fi : XE (List D)) (g : D → En → Option En) (ft : XE Bool) (fe : XE D) : XE Co := bindX fi fun ds => fun ρ => okX (lcWX g ft fe (wipeEn ρ vs) ds []) ρ
theorem lcW_lf {g : D → En → Option En} {ft : XE Bool} {fe : XE D} {ρ0 : En} {Q : Co → c.T → Prop} : ∀ {ds acc : List D} {μ : c.T}, lcW g (lf ft) (lf fe) ρ0 Q ds acc μ = ∃ co, lcWX g ft fe ρ0 ds acc = some co ∧ Q co μ := by
  intro ds
  induction ds with
  | nil => intro acc μ; exact propext ⟨fun q => ⟨_, rfl, q⟩, fun ⟨_, e, q⟩ => by cases e; exact q⟩
  | cons d ds ih =>
    intro acc μ
    rw [lcW, lcWX]
    cases hg : g d ρ0 with
    | none => exact propext ⟨fun ⟨_, e, _⟩ => (by cases e), fun ⟨_, e, _⟩ => by cases e⟩
    | some ρ' =>
      have e1 : (∃ ρ'', some ρ' = some ρ'' ∧ lf ft ρ'' μ (fun b μ1 => if b = true then lf fe ρ'' μ1 (fun y μ2 => acc.length < sizeLine ∧ lcW g (lf ft) (lf fe) ρ0 Q ds (acc ++ [y]) μ2) (fun _ _ => False) else lcW g (lf ft) (lf fe) ρ0 Q ds acc μ1) (fun _ _ => False)) =
          lf ft ρ' μ (fun b μ1 => if b = true then lf fe ρ' μ1 (fun y μ2 => acc.length < sizeLine ∧ lcW g (lf ft) (lf fe) ρ0 Q ds (acc ++ [y]) μ2) (fun _ _ => False) else lcW g (lf ft) (lf fe) ρ0 Q ds acc μ1) (fun _ _ => False) :=
        propext ⟨fun ⟨_, e, q⟩ => by cases e; exact q, fun q => ⟨_, rfl, q⟩⟩
      rw [e1]
      unfold lf
      cases ht : ft ρ' with
      | none => exact propext ⟨fun z => False.elim z, fun ⟨_, e, _⟩ => by simp [ht] at e⟩
      | some r =>
        cases r with
        | error e => exact propext ⟨fun z => False.elim z, fun ⟨_, e, _⟩ => by simp [ht] at e⟩
        | ok b =>
          cases b with
          | false => simp only [ht, Bool.false_eq_true, if_false]; exact ih
          | true =>
            simp only [ht, if_true]
            cases he : fe ρ' with
            | none => exact propext ⟨fun z => False.elim z, fun ⟨_, e, _⟩ => by simp [he] at e⟩
            | some r =>
              cases r with
              | error e => exact propext ⟨fun z => False.elim z, fun ⟨_, e, _⟩ => by simp [he] at e⟩
              | ok y =>
                simp only [he]
                by_cases hl : acc.length < sizeLine
                · rw [if_pos hl]
                  have := ih (acc := acc ++ [y]) (μ := μ)
                  unfold lf at this
                  rw [this]
                  exact propext ⟨fun q => q.2, fun q => ⟨hl, q⟩⟩
                · rw [if_neg hl]
                  exact propext ⟨fun q => absurd q.1 hl, fun ⟨_, e, _⟩ => by cases e⟩
theorem xlc {vs : List Nat} {fi : XE (List D)} {g : D → En → Option En} {ft : XE Bool} {fe : XE D} : (lcE vs (lf fi) g (lf ft) (lf fe) : DE c Co) = lf (lcX vs fi g ft fe) := by
  refine (show (lcE vs (lf fi) g (lf ft) (lf fe) : DE c Co) = bindE (lf fi) fun ds => fun ρ μ Q E => lcW g (lf ft) (lf fe) (wipeEn ρ vs) Q ds [] μ from rfl).trans (bind_lf fun ds => lf_ext fun ρ μ Q E => ?_)
  rw [lcW_lf]
  show _ = lf (okX (lcWX g ft fe (wipeEn ρ vs) ds [])) ρ μ Q E
  rw [← ok_lf (f := (fun _ μ Q _ => ∃ d, lcWX g ft fe (wipeEn ρ vs) ds [] = some d ∧ Q d μ : DE c Co)) (fun _ _ _ _ => rfl)]
/-! part DLx -/
def lfC {M : MM} (x : List D → Rs D) : DSp M := fun ds μ Q E => match x ds with
  | some (.ok d) => Q d μ
  | some (.error e) => E e μ
  | none => False
def callX (x : List D → Rs D) (a : XE (List D)) : XE D := bindX a fun ds => fun _ => x ds
theorem xcall {x : List D → Rs D} {a : XE (List D)} : (callE (lfC x) (lf a) : DE c D) = lf (callX x a) := bind_lf fun ds => lf_ext fun ρ μ Q E => by
  show lfC x ds μ Q E = _
  unfold lfC lf
  cases x ds with
  | none => rfl
  | some r => cases r <;> rfl

/-! part DLx -/
inductive Fin where
  | nx (ρ : En) | rt (d : D) | bk (ρ : En) | ct (ρ : En) | ex (e : Exn) (ρ : En)
abbrev XS := En → Option Fin
def finS {c : Ctx} (De : DEnds c) (μ : c.T) : Option Fin → Prop
  | some (.nx ρ) => De.nx ρ μ
  | some (.rt d) => De.rt d μ
  | some (.bk ρ) => De.bk ρ μ
  | some (.ct ρ) => De.ct ρ μ
  | some (.ex e ρ) => De.ex e ρ μ
  | none => False
def lfS (g : XS) : DS c := fun De ρ μ => finS De μ (g ρ)
theorem lfS_ext {f : DS c} {g : XS} (h : ∀ De ρ μ, f De ρ μ = lfS g De ρ μ) : f = lfS g := by
  funext De ρ μ; exact h De ρ μ
def nextX : XS := fun ρ => some (.nx ρ)
theorem xnext : (nextS : DS c) = lfS nextX := rfl
def breakX : XS := fun ρ => some (.bk ρ)
theorem xbreak : (fun De ρ μ => De.bk ρ μ : DS c) = lfS breakX := rfl
def retNX : XS := fun ρ => some (.rt .non)
theorem xretN : (fun De ρ μ => De.rt .non μ : DS c) = lfS retNX := rfl
def neverX : XS := fun _ => none
theorem xnever : (neverS : DS c) = lfS neverX := rfl
def seqSX (f g : XS) : XS := fun ρ => match f ρ with
  | some (.nx ρ') => g ρ'
  | r => r
theorem xseqS {f g : XS} : (seqS (lfS f) (lfS g) : DS c) = lfS (seqSX f g) := lfS_ext fun De ρ μ => by
  unfold seqS lfS seqSX
  cases f ρ with
  | none => rfl
  | some r => cases r <;> rfl
/-- an expression, then what follows -/
def thenX {α : Type} (a : XE α) (f : α → XS) : XS := fun ρ => match a ρ with
  | some (.ok d) => f d ρ
  | some (.error e) => some (.ex e ρ)
  | none => none
theorem then_lf {α : Type} {a : XE α} {f : α → XS} {h : α → DS c} (e : ∀ d, h d = lfS (f d)) : (fun De ρ μ => lf a ρ μ (fun d μ' => h d De ρ μ') fun e μ' => De.ex e ρ μ' : DS c) = lfS (thenX a f) := lfS_ext fun De ρ μ => by
  unfold lf lfS thenX
  cases a ρ with
  | none => rfl
  | some r => cases r with
    | error e => rfl
    | ok d => exact congrFun (congrFun (congrFun (e d) De) ρ) μ
def retSX (a : XE D) : XS := thenX a fun d => fun _ => some (.rt d)
theorem xretS {a : XE D} : (retS (lf a) : DS c) = lfS (retSX a) := then_lf fun _ => rfl
def exprSX (a : XE D) : XS := thenX a fun _ => nextX
theorem xexprS {a : XE D} : (exprS (lf a) : DS c) = lfS (exprSX a) := then_lf fun _ => rfl
def ifSX (t : XE Bool) (f g : XS) : XS := thenX t fun b => if b = true then f else g
theorem xifS {t : XE Bool} {f g : XS} : (ifS (lf t) (lfS f) (lfS g) : DS c) = lfS (ifSX t f g) := then_lf (h := fun b De ρ μ => if b = true then lfS f De ρ μ else lfS g De ρ μ) fun b => by cases b <;> rfl
def setSX (i : Nat) (a : XE Sl) : XS := thenX a fun sl ρ => some (.nx (ρ.set i sl))
theorem xsetS {i : Nat} {a : XE Sl} : (setS i (lf a) : DS c) = lfS (setSX i a) := then_lf fun _ => rfl
def asgSX (g : D → En → Option En) (a : XE D) : XS := thenX a fun d ρ => (g d ρ).map Fin.nx
theorem xasgS {g : D → En → Option En} {a : XE D} : (asgS g (lf a) : DS c) = lfS (asgSX g a) := then_lf (h := fun d De ρ μ => ∃ ρ', g d ρ = some ρ' ∧ De.nx ρ' μ) fun d => lfS_ext fun De ρ μ => by
  show _ = finS De μ ((g d ρ).map Fin.nx)
  cases g d ρ with
  | none => exact propext ⟨fun ⟨_, e, _⟩ => (by cases e), fun z => False.elim z⟩
  | some r => exact propext ⟨fun ⟨_, e, q⟩ => by cases e; exact q, fun q => ⟨_, rfl, q⟩⟩
def appSX (i : Nat) (a : XE D) : XS := fun ρ => match ρ[i]? with
  | some (.ow (.lst ds)) => thenX a (fun d ρ => if ds.length < sizeLine then some (.nx (ρ.set i (.ow (.lst (ds ++ [d]))))) else none) ρ
  | _ => none
theorem xappS {i : Nat} {a : XE D} : (appS i (lf a) : DS c) = lfS (appSX i a) := lfS_ext fun De ρ μ => by
  unfold appS lfS appSX
  cases h : ρ[i]? with
  | none => exact propext ⟨fun ⟨_, e, _⟩ => (by cases e), fun z => False.elim z⟩
  | some s =>
    cases s with
    | un => exact propext ⟨fun ⟨_, e, _⟩ => (by cases e), fun z => False.elim z⟩
    | fz d => exact propext ⟨fun ⟨_, e, _⟩ => (by cases e), fun z => False.elim z⟩
    | ow co =>
      cases co with
      | dK k => exact propext ⟨fun ⟨_, e, _⟩ => (by cases e), fun z => False.elim z⟩
      | dT k => exact propext ⟨fun ⟨_, e, _⟩ => (by cases e), fun z => False.elim z⟩
      | lst ds =>
        have key : (∃ ds', some (Sl.ow (.lst ds)) = some (Sl.ow (.lst ds')) ∧ lf a ρ μ (fun d μ' => ds'.length < sizeLine ∧ De.nx (ρ.set i (.ow (.lst (ds' ++ [d])))) μ') fun e μ' => De.ex e ρ μ') = (lf a ρ μ (fun d μ' => ds.length < sizeLine ∧ De.nx (ρ.set i (.ow (.lst (ds ++ [d])))) μ') fun e μ' => De.ex e ρ μ') :=
          propext ⟨fun ⟨_, e, q⟩ => by cases e; exact q, fun q => ⟨_, rfl, q⟩⟩
        rw [key]
        exact congrFun (congrFun (congrFun (then_lf (h := fun d De ρ μ => ds.length < sizeLine ∧ De.nx (ρ.set i (.ow (.lst (ds ++ [d])))) μ) fun d => lfS_ext fun De ρ μ => by
          unfold lfS
          split
          · exact propext ⟨fun q => q.2, fun q => ⟨by assumption, q⟩⟩
          · exact propext ⟨fun q => absurd q.1 (by assumption), fun q => q.elim⟩) De) ρ) μ
def putSX (i : Nat) (k v : XE D) : XS := fun ρ => match ρ[i]? with
  | some (.ow co) => thenX v (fun x => thenX k fun y ρ => (putCo co y x).map fun co' => .nx (ρ.set i (.ow co'))) ρ
  | _ => none
theorem xputS {i : Nat} {k v : XE D} : (putS i (lf k) (lf v) : DS c) = lfS (putSX i k v) := lfS_ext fun De ρ μ => by
  unfold putS lfS putSX
  cases h : ρ[i]? with
  | none => exact propext ⟨fun ⟨_, e, _⟩ => (by cases e), fun z => False.elim z⟩
  | some s =>
    cases s with
    | un => exact propext ⟨fun ⟨_, e, _⟩ => (by cases e), fun z => False.elim z⟩
    | fz d => exact propext ⟨fun ⟨_, e, _⟩ => (by cases e), fun z => False.elim z⟩
    | ow co =>
      have key : (∃ co1, some (Sl.ow co) = some (Sl.ow co1) ∧ lf v ρ μ (fun v μ1 => lf k ρ μ1 (fun k μ2 => ∃ co', putCo co1 k v = some co' ∧ De.nx (ρ.set i (.ow co')) μ2) fun e μ' => De.ex e ρ μ') fun e μ' => De.ex e ρ μ') = (lf v ρ μ (fun v μ1 => lf k ρ μ1 (fun k μ2 => ∃ co', putCo co k v = some co' ∧ De.nx (ρ.set i (.ow co')) μ2) fun e μ' => De.ex e ρ μ') fun e μ' => De.ex e ρ μ') :=
        propext ⟨fun ⟨_, e, q⟩ => by cases e; exact q, fun q => ⟨_, rfl, q⟩⟩
      rw [key]
      exact congrFun (congrFun (congrFun (then_lf fun x => then_lf (h := fun y De ρ μ => ∃ co', putCo co y x = some co' ∧ De.nx (ρ.set i (.ow co')) μ) fun y => lfS_ext fun De ρ μ => by
        show _ = finS De μ ((putCo co y x).map fun co' => .nx (ρ.set i (.ow co')))
        cases putCo co y x with
        | none => exact propext ⟨fun ⟨_, e, _⟩ => (by cases e), fun z => False.elim z⟩
        | some r => exact propext ⟨fun ⟨_, e, q⟩ => by cases e; exact q, fun q => ⟨_, rfl, q⟩⟩) De) ρ) μ
def freezeSX (i : Nat) (f : XS) : XS := fun ρ => f (freezeEn ρ i)
theorem xfreezeS {i : Nat} {f : XS} : (freezeS i (lfS f) : DS c) = lfS (freezeSX i f) := rfl
def parSX (i j : Nat) (a b : XE Sl) : XS := thenX a fun x => thenX b fun y ρ => some (.nx ((ρ.set i x).set j y))
theorem xparS {i j : Nat} {a b : XE Sl} : (parS i j (lf a) (lf b) : DS c) = lfS (parSX i j a b) := then_lf fun _ => then_lf fun _ => rfl
def forWX (g : D → En → Option En) (body : XS) : List D → XS
  | [], ρ => some (.nx ρ)
  | d :: ds, ρ => match g d ρ with
    | none => none
    | some ρ' => match body ρ' with
      | some (.nx ρ2) => forWX g body ds ρ2
      | some (.ct ρ2) => forWX g body ds ρ2
      | some (.bk ρ2) => some (.nx ρ2)
      | some (.rt d) => some (.rt d)
      | some (.ex e ρ) => some (.ex e ρ)
      | none => none
def forSX (fi : XE (List D)) (g : D → En → Option En) (body : XS) : XS := thenX fi fun ds => forWX g body ds
theorem forW_lf {g : D → En → Option En} {body : XS} {De : DEnds c} : ∀ {ds : List D} {ρ : En} {μ : c.T}, forW g (lfS body) De ds ρ μ = lfS (forWX g body ds) De ρ μ := by
  intro ds
  induction ds with
  | nil => intro ρ μ; rfl
  | cons d ds ih =>
    intro ρ μ
    unfold forW lfS forWX
    cases hg : g d ρ with
    | none => exact propext ⟨fun ⟨_, e, _⟩ => (by cases e), fun z => False.elim z⟩
    | some ρ' =>
      refine (propext ⟨fun ⟨_, e, q⟩ => by cases e; exact q, fun q => ⟨_, rfl, q⟩⟩ : _ = finS _ μ (body ρ')).trans ?_
      cases hb : body ρ' with
      | none => simp only [hb]; rfl
      | some r => cases r <;> simp only [hb] <;> first | rfl | exact ih
theorem xforS {fi : XE (List D)} {g : D → En → Option En} {body : XS} : (forS (lf fi) g (lfS body) : DS c) = lfS (forSX fi g body) := then_lf (h := fun ds De ρ μ => forW g (lfS body) De ds ρ μ) fun ds => lfS_ext fun De ρ μ => forW_lf
def whileX (ft : XE Bool) (fb : XS) : Nat → XS
  | 0, _ => none
  | n + 1, ρ => thenX ft (fun b ρ => if b = true then match fb ρ with
      | some (.nx ρ2) => whileX ft fb n ρ2
      | some (.ct ρ2) => whileX ft fb n ρ2
      | some (.bk ρ2) => some (.nx ρ2)
      | some (.rt d) => some (.rt d)
      | some (.ex e ρ) => some (.ex e ρ)
      | none => none
    else some (.nx ρ)) ρ
theorem while_lf {ft : XE Bool} {fb : XS} {De : DEnds c} : ∀ {n : Nat} {ρ : En} {μ : c.T}, whileN (lf ft) (lfS fb) De n ρ μ = lfS (whileX ft fb n) De ρ μ := by
  intro n
  induction n with
  | zero => intro ρ μ; rfl
  | succ n ih =>
    intro ρ μ
    rw [whileN]
    unfold lf lfS whileX thenX
    cases ht : ft ρ with
    | none => rfl
    | some r =>
      cases r with
      | error e => rfl
      | ok b =>
        cases b with
        | false => rfl
        | true =>
          simp only [if_true]
          cases hb : fb ρ with
          | none => simp only [hb]; rfl
          | some r => cases r <;> simp only [hb] <;> first | rfl | exact ih
/-- a while that ends within n rounds -/
theorem xwhile (n : Nat) {sts : Stmt} {ft : XE Bool} {fb : XS} (h : PSd c sts (whileS (lf ft) (lfS fb))) : PSd c sts (lfS (whileX ft fb n)) := by
  obtain ⟨t, t1, t2⟩ := h
  refine ⟨t, t1, fun F H μ ρ σ Dn De m s hf k => t2 F H μ ρ σ Dn De m s ⟨n, ?_⟩ k⟩
  rw [while_lf]; exact hf
theorem PD.eq {e : Expr} {f g : DE c D} (h : PD c e f) (q : f = g) : PD c e g := q ▸ h

/-! part DLx -/
def runX (n : Nat) (fb : XS) (ds : List D) : Rs D := match fb (startEn n ds) with
  | some (.nx _) => some (.ok .non)
  | some (.rt d) => some (.ok d)
  | some (.ex e _) => some (.error e)
  | _ => none
def fnX (np n : Nat) (fb : XS) (ds : List D) : Rs D := if ds.length = np then runX n fb ds else none
theorem fn_X {G : Gx} {x : Str} {st : Stmt} {f : Addr} {fd : FuncData} {N ps : List Str} {k : Nat} {g : XS} (F : FunD G.K x x (defArgs st) (defBody st) (defScope st) [] [] f fd) (hm : G.mg x = some (.ref f)) (S : FnScope N ps (defScope st))
    (hbd : ∀ (kV doc pm : Value) (an : Option Addr) (cdv ct : Value) (us : List Value), us.length = ps.length → bindArgs (PySem.W.fnOf x x (defArgs st) (defBody st) (defScope st) .none kV doc pm an cdv ct) ⟨us, []⟩ = pure (ps.zip us))
    (hb : ∀ W, PSsd (defCtx G N (defScope st) k W) (defBody st) (lfS g)) : FnD G (k + 1) x (lfC (fnX ps.length N.length g)) :=
  fn_D F hm S hbd fun W => ⟨lfS g, hb W, fun ds μ Q E h => by
    unfold lfC fnX at h
    split at h <;> rename_i h1
    · split at h1
      · rename_i hl
        refine ⟨hl, ?_⟩
        unfold runX at h1
        unfold runB lfS
        generalize hg : g (startEn N.length ds) = r at h1
        cases r with
        | none => simp at h1
        | some r => cases r <;> simp at h1 <;> first | (subst h1; exact h) | exact h
      · cases h1
    · split at h1
      · rename_i hl
        refine ⟨hl, ?_⟩
        unfold runX at h1
        unfold runB lfS
        generalize hg : g (startEn N.length ds) = r at h1
        cases r with
        | none => simp at h1
        | some r => cases r <;> simp at h1 <;> first | (subst h1; exact h) | exact h
      · cases h1
    · exact h.elim⟩
end DL

set_option Elab.async false
set_option linter.all false
set_option maxRecDepth 100000
set_option maxHeartbeats 4000000
/-! part DLy -/
namespace DL
open PySem PySem.Spec L2
variable {c : Ctx}
theorem PB.eq {e : Expr} {f g : DE c Bool} (h : PB c e f) (q : f = g) : PB c e g := q ▸ h
theorem PBw.eq {e : Expr} {f g : DE c Bool} (h : PBw c e f) (q : f = g) : PBw c e g := q ▸ h
theorem PAs.eq {e : List Expr} {f g : DE c (List D)} (h : PAs c e f) (q : f = g) : PAs c e g := q ▸ h
theorem PN.eq {e : Expr} {f g : DE c Co} (h : PN c e f) (q : f = g) : PN c e g := q ▸ h
theorem PP.eq {e : Expr} {f g : DE c Co} (h : PP c e f) (q : f = g) : PP c e g := q ▸ h
theorem PX.eq {e : Expr} {f g : DE c Sl} (h : PX c e f) (q : f = g) : PX c e g := q ▸ h
theorem POp.eq {e : Option Expr} {f g : DE c (Option Int)} (h : POp c e f) (q : f = g) : POp c e g := q ▸ h
theorem PId.eq {t e : Expr} {f g : DE c (List D)} (h : PId c t e f) (q : f = g) : PId c t e g := q ▸ h
theorem PTsd.eq {e : List Expr} {f g : DE c Bool} (h : PTsd c e f) (q : f = g) : PTsd c e g := q ▸ h
theorem PSd.eq {e : Stmt} {f g : DS c} (h : PSd c e f) (q : f = g) : PSd c e g := q ▸ h
theorem PSsd.eq {e : List Stmt} {f g : DS c} (h : PSsd c e f) (q : f = g) : PSsd c e g := q ▸ h
/-- empty dicts, made here -/
def newX (co : Co) : XE Co := okX (some co)
theorem xnew {co : Co} : (fun _ μ Q _ => Q co μ : DE c Co) = lf (newX co) := rfl
def conX (d : D) : XE D := okX (some d)
theorem xcon {d : D} : (ret (some d) : DE c D) = lf (conX d) := xret
theorem xlfE {α : Type} {g : XE α} : (lf g : DE c α) = lf g := rfl

section
variable {elt tg iter : Expr} {ifs : List Expr} {scope : Scope} {sl : List Nat} {pos : Pos} {fi : XE (List D)} {g : D → En → Option En} {ft : XE Bool} {fe : XE D}
theorem pn_lcX (own : List (Str × Nat)) (hi : PId c tg iter (lf fi)) (hg : PGd (c.blk scope) tg sl g) (ht : PTsd (c.blk scope) ifs (lf ft)) (he : PD (c.blk scope) elt (lf fe)) (ok : blkC c.N c.sc scope own = true := by rfl) (hsl : ∀ j ∈ sl, j ∈ own.map (·.2) := by decide) (hs : ∀ env x, foldedSetIterable iter env x = pure x := by intro _ _; rfl) :
    PN c (.ListComp elt [⟨tg, iter, ifs, 0⟩] scope pos) (lf (lcX (own.map (·.2)) fi g ft fe)) := by
  have h1 := pn_lc (pos := pos) own hi hg ht he ok hsl hs
  have h2 : (lcE (own.map (·.2)) (lf fi) g (lf ft) (lf fe) : DE c Co) = lf (lcX (own.map (·.2)) fi g ft fe) := xlc
  rw [← h2]
  exact h1
theorem psd_setLcX (i : Nat) {y : Str} {py spos : Pos} (own : List (Str × Nat)) (hi : PId c tg iter (lf fi)) (hg : PGd (c.blk scope) tg sl g) (ht : PTsd (c.blk scope) ifs (lf ft)) (he : PD (c.blk scope) elt (lf fe)) (ok : blkC c.N c.sc scope own = true := by rfl) (hsl : ∀ j ∈ sl, j ∈ own.map (·.2) := by decide) (hn : c.N[i]? = some y := by rfl) (hy : c.sc.names.lookup y = some .local := by rfl)
    (hk : c.sc.kind = .function := by rfl) (hl : (py.line == pos.line) = true := by rfl) (ha : (scope.names.any fun (n, k) => n == y && (k == .local || k == .cell)) = false := by decide +kernel) (hs : ∀ env x, foldedSetIterable iter env x = pure x := by intro _ _; rfl) :
    PSd c (.Assign [.Name y py] (.ListComp elt [⟨tg, iter, ifs, 0⟩] scope pos) spos) (lfS (setSX i (owX (lcX (own.map (·.2)) fi g ft fe)))) := by
  have h1 := psd_setLc (pos := pos) (py := py) (spos := spos) i own hi hg ht he ok hsl hn hy hk hl ha hs
  have h2 : (lcE (own.map (·.2)) (lf fi) g (lf ft) (lf fe) : DE c Co) = lf (lcX (own.map (·.2)) fi g ft fe) := xlc
  rw [← xsetS, ← xow, ← h2]
  exact h1
theorem psd_setLcFX (i : Nat) {y : Str} {py spos : Pos} (own : List (Str × Nat)) (hi : PId c tg iter (lf fi)) (hg : PGd (c.blk scope) tg sl g) (ht : PTsd (c.blk scope) ifs (lf ft)) (he : PD (c.blk scope) elt (lf fe)) (ok : blkC c.N c.sc scope own = true := by rfl) (hsl : ∀ j ∈ sl, j ∈ own.map (·.2) := by decide) (hn : c.N[i]? = some y := by rfl) (hy : c.sc.names.lookup y = some .local := by rfl)
    (hk : c.sc.kind = .function := by rfl) (hl : (py.line == pos.line) = true := by rfl) (ha : (scope.names.any fun (n, k) => n == y && (k == .local || k == .cell)) = false := by decide +kernel) (hs : ∀ env x, foldedSetIterable iter env x = pure x := by intro _ _; rfl) :
    PSd c (.Assign [.Name y py] (.ListComp elt [⟨tg, iter, ifs, 0⟩] scope pos) spos) (lfS (setSX i (fzX (pnX (lcX (own.map (·.2)) fi g ft fe))))) := by
  have h1 := psd_setLcF (pos := pos) (py := py) (spos := spos) i own hi hg ht he ok hsl hn hy hk hl ha hs
  have h2 : (lcE (own.map (·.2)) (lf fi) g (lf ft) (lf fe) : DE c Co) = lf (lcX (own.map (·.2)) fi g ft fe) := xlc
  rw [← xsetS, ← xfz, ← xpn, ← h2]
  exact h1
end
/-- a def of the module, known by its name -/
def FdX (G : Gx) (x : Str) (st : Stmt) : Prop := ∃ f fd, FunD G.K x x (defArgs st) (defBody st) (defScope st) [] [] f fd ∧ G.mg x = some (.ref f)
end DL

set_option Elab.async false
set_option linter.all false
set_option maxRecDepth 100000
set_option maxHeartbeats 4000000
/-! part DLm -/
namespace DM
open PySem PySem.Spec PyProof.Rows L2

theorem meets_enumB {v1 : Value} {o1 : Obj} {H1 : Heap → Prop} (B1 : Begins v1 o1 H1) :
    Meets (Builtin.«enumerate.__new__» ⟨[.type "enumerate", v1], []⟩) (fun _ R s => H1 s.heap ∧
      R (.ok (.ret (.ref (s.heap.push o1).objs.size)))
        { s with heap := (s.heap.push o1).push { cls := .type "enumerate", data := .fields #[.none, .bool false, .ref s.heap.objs.size, rawInt 0, .none, .none] } }) :=
  .of_wp fun prog w A R s h => by
    obtain ⟨hp, g, d, tk, os⟩ := s
    obtain ⟨h1, h⟩ := h
    have hsub := sub_enumerate
    have q1 : ∀ {A' : Around} {E : Value → Shared → Prop} {Q : Value → Shared → Prop}, Q (.ref hp.objs.size) ⟨(hp.push o1), g, d, tk, os⟩ → wpAny (model prog w) A' (pyIter v1) Q E ⟨hp, g, d, tk, os⟩ :=
      fun q => B1.iter prog w _ _ ⟨hp, g, d, tk, os⟩ _ h1 q
    wp_walk
    refine wpAny_stack_any fun st => wpAny_pure ?_
    split
    · rename_i c _ _ _ _ _
      cases (c == Value.type "enumerate")
      · wp_walk using q1
        exact ⟨_, rfl, h⟩
      · wp_walk using q1
        exact ⟨_, rfl, h⟩
    · wp_walk using q1
      exact ⟨_, rfl, h⟩
theorem argsOI2 (obj v : Value) : argsOk "object.__init__" ⟨[obj, v], []⟩ := by unfold argsOk; kernel_rfl
theorem typeCallE (v : Value) : checkTypeCall "enumerate" ⟨[v], []⟩ = pure () := by kernel_rfl
theorem newCallE (v : Value) : checkBuiltinCall "enumerate.__new__" ⟨[.type "enumerate", v], []⟩ = pure () := by kernel_rfl
theorem call_enumB {prog : Program} {w : World} {A : Around} {E : Value → Shared → Prop} {s : Shared} {v1 : Value} {o1 : Obj} {H1 : Heap → Prop} {Q : Value → Shared → Prop} (B1 : Begins v1 o1 H1) (h1 : H1 s.heap)
    (h : ∀ h', IsEnum h' (s.heap.objs.size + 1) s.heap.objs.size 0 .none → h'.get? s.heap.objs.size = some o1 → (∀ b o, s.heap.get? b = some o → h'.get? b = some o) → Q (.ref (s.heap.objs.size + 1)) { s with heap := h' }) :
    wpAny (model prog w) A (call (.type "enumerate") [v1]) Q E s := by
  refine callType_new F.called_enumerate (by decide) (typeCallE _) (newCallE _) (fun obj => argsOI2 obj _) F.entry_enumerate_new
    (meets_enumB B1) ⟨h1, ?_⟩
  have hz : (s.heap.push o1).objs.size = s.heap.objs.size + 1 := Heap.size_push ..
  show _ ∧ _
  rw [hz]
  have he : IsEnum ((s.heap.push o1).push { cls := .type "enumerate", data := .fields #[.none, .bool false, .ref s.heap.objs.size, rawInt 0, .none, .none] }) (s.heap.objs.size + 1) s.heap.objs.size 0 .none := by
    have := Heap.get?_push_size (s.heap.push o1) (o := { cls := .type "enumerate", data := .fields #[.none, .bool false, .ref s.heap.objs.size, rawInt 0, .none, .none] }) rfl
    rw [hz] at this
    exact this
  exact ⟨⟨_, he, rfl⟩, h _ he (Heap.get?_push_of_some _ (Heap.get?_push_size _ B1.free)) fun b o x => Heap.get?_push_of_some _ (Heap.get?_push_of_some _ x)⟩

/-- the tuple at a, each item in a new pair -/
def IteT (K : PySem.W.Frag) (a : Addr) : It :=
  ⟨fun i H => ∃ (xs : List V) (x : V), SqT K H a xs ∧ xs[i]? = some x, fun i H v H' => ∃ T x, v = .ref T ∧ H T = none ∧ H' = upd H T (.tup [.int (i : Nat), x]) ∧ ∀ xs, SqT K H a xs → xs[i]? = some x, fun i H => ∃ xs : List V, SqT K H a xs ∧ xs.length = i⟩
theorem turn_enumT {P : Program} {w : World} {K : PySem.W.Frag} {elts : List Expr} {kk : Nat} {tpos : Pos} (a e it : Addr) :
    Turn P w K (.Tuple elts kk tpos) (IteT K a) [e, it] e (fun i h => (∃ old, IsEnum h e it ((i : Nat) : Int) old) ∧ h.IsTupleIter it a i ∧ e ≠ it ∧ a ≠ it ∧ e ≠ a) where
  mem := by simp
  obj := fun i h st b hb => by
    obtain ⟨⟨old, he⟩, ⟨o, ho, hc, hd⟩, _⟩ := st
    rcases List.mem_cons.mp hb with z | z
    · rw [z]; exact ⟨_, he, fun v q => nomatch q⟩
    · rw [List.mem_singleton.mp z]; exact ⟨o, ho, fun v q => by rw [hd] at q; cases q⟩
  keep := fun i h h' st k => by
    obtain ⟨⟨old, he⟩, hi, hne⟩ := st
    exact ⟨⟨old, k e (by simp) _ he⟩, hi.at fun o q => k it (by simp) o q, hne⟩
  item := by
    intro X hP hw hK hc i pins s σ H E I hf st hg
    subst hP hw hK
    obtain ⟨⟨old, he⟩, hit, hne, hai, hea⟩ := st
    obtain ⟨xs, x, hq, hx⟩ := hg
    obtain ⟨its, rv, p, hz⟩ := I.tuple hq
    obtain ⟨u, hu, ru⟩ := rv.get hx
    have hel : e < s.heap.objs.size := Heap.lt_size he
    have hil : it < s.heap.objs.size := by
      obtain ⟨_, q, _⟩ := hit
      exact Heap.lt_size q
    have hlt : i < its.toArray.size := by
      rw [List.size_toArray]
      exact (List.getElem?_eq_some_iff.mp hu).1
    have pT : s.heap.IsTuple a its.toArray := p
    have D := Draws.tuple (prog := X.prog) (w := X.w) (A := X.A.in1) (show X.A.in1.handled = none from (I.ok.hd hc)) it a hai its.toArray
    refine wpAny_pyNext_enum_itemD D he ⟨hit, pT⟩ hlt hne (by simp [hne, hea]) fun y h' tk hy ho st' hT hsz hk => ?_
    have ey : y = u := by
      have e2 : its[i]? = some y := by simpa using hy
      rw [hu] at e2
      exact (Option.some.inj e2).symm
    subst ey
    refine ⟨_, rfl, wpAny_letOwnedTupleGo_enum (s := { s with heap := h', toks := tk + 1 }) ho fun h'' he' sb => ?_⟩
    have hT2 : h''.get? s.heap.objs.size = some { cls := .type "tuple", data := .seq #[.int i tk, y] } := (sb.2 _ (Nat.ne_of_gt hel)).trans hT
    have new : ObjOk X.prog X.w (upd H s.heap.objs.size (.tup [.int (i : Nat), x])) h'' s.heap.objs.size (.tup [.int (i : Nat), x]) :=
      ⟨by show 2 ≤ sizeLine; decide, [.int i tk, y], .cons ⟨_, rfl⟩ (.cons ru .nil), ⟨_, hT2, rfl, _, rfl⟩⟩
    have I1 : Inv X pins σ (upd H s.heap.objs.size (.tup [.int (i : Nat), x])) { s with heap := h'', toks := tk + 1 } :=
      I.turnedNew (ch := [e, it]) (fun b ob hb q => by
        have n1 : b ≠ e := fun z => hb (by rw [z]; exact List.mem_cons_self)
        have n2 : b ≠ it := fun z => hb (by rw [z]; exact List.mem_cons_of_mem _ List.mem_cons_self)
        exact (sb.2 b n1).trans (hk b ob n1 n2 q)) hf (Nat.le_refl _) new
    refine ⟨.ref s.heap.objs.size, _, I1, rfl, ⟨_, x, rfl, I.hok.fresh (Nat.le_refl _), rfl, fun ys hy => ?_⟩, ⟨⟨y, ?_⟩, st'.1.at fun o q => (sb.2 it (Ne.symm hne)).trans q, hne, hai, hea⟩, fun b hb => ?_⟩
    · rw [I.tuple_inj hy hq]; exact hx
    · have e1 : ((i + 1 : Nat) : Int) = (i : Int) + 1 := by omega
      rw [e1]
      exact he'
    · have hb' : b < s.heap.objs.size := by
        rcases List.mem_cons.mp hb with z | z
        · rw [z]; exact hel
        · rw [List.mem_singleton.mp z]; exact hil
      rw [upd_ne (Nat.ne_of_lt hb')]
      exact (hf b hb).1
  done := by
    intro X hP hw hK hc i pins s σ H E I hf st hg
    subst hP hw hK
    obtain ⟨⟨old, he⟩, hit, hne, hai, hea⟩ := st
    obtain ⟨xs, hq, hx⟩ := hg
    obtain ⟨its, rv, p, hz⟩ := I.tuple hq
    obtain ⟨f0, f1, f2, f3, f4, f5⟩ := hf it (by simp)
    have pT : s.heap.IsTuple a its.toArray := p
    have en : i = its.toArray.size := by
      rw [List.size_toArray, ← rv.length]
      exact hx.symm
    have D := Draws.tuple (prog := X.prog) (w := X.w) (A := X.A.in1) (show X.A.in1.handled = none from (I.ok.hd hc)) it a hai its.toArray
    exact wpAny_pyNext_enum_endD D he (show _ ∧ _ from ⟨en ▸ hit, pT⟩) fun h' eb => ⟨rfl, I.turned (t' := s.toks) (fun b o hb q => eb b o hb q) f0 f1 f3 f4 f5⟩
  self := fun A i s Q E st h => by
    obtain ⟨⟨_, he⟩, _⟩ := st
    exact wpAny_pyIter_enum he h
def iEnumA (K : PySem.W.Frag) (ta : TA) : TI := fun σ H R => ta σ H fun vs H1 => ∃ a xs, vs = [.ref a] ∧ ((SqL K H1 a xs ∧ R (Ite K a) H1) ∨ (SqT K H1 a xs ∧ R (IteT K a) H1))
theorem pi_enumA {X : Cx} {e : Expr} {ta : TA} {p pos tpos : Pos} {elts : List Expr} {kk : Nat} (hg : Gl X "enumerate") (hm : X.mg "enumerate" = none) (ha : PA X [e] ta) (hs : starEach [e] X.env = [(false, eval e X.env)] := by rfl) :
    PI X (.Tuple elts kk tpos) (.Call (.Name "enumerate" p) [e] [] pos) (iEnumA X.K ta) := by
  refine ⟨fun pins s σ H R I h => ?_⟩
  refine Call_ (ld_blt I hg hm boot_enumerate (PyProof.Rows.callWith_type1 (thn (ha.run pos pins s σ H _ I h) fun us s1 ⟨vs, H1, I1, r1, q1⟩ => ?_) hs rfl))
  obtain ⟨a, xs, ex, q1⟩ := q1
  subst ex
  cases r1 with
  | cons r rr =>
    cases rr
    cases r
    have fr2 : ∀ b, b ∈ [s1.heap.objs.size + 1, s1.heap.objs.size] → FpOk X pins H1 b := fun b hb => by
      have hle : s1.heap.objs.size ≤ b := by
        rcases List.mem_cons.mp hb with z | z
        · rw [z]; exact Nat.le_add_right _ _
        · rw [List.mem_singleton.mp z]; exact Nat.le_refl _
      exact I1.fpOk hle (I1.hok.fresh hle)
    rcases q1 with ⟨hq, q⟩ | ⟨hq, q⟩
    · obtain ⟨its, rv, p', hz⟩ := I1.list hq
      refine call_enumB (begins_list a its.toArray) p'.isList fun h' he hit hk => wpAny_pyIter_enum he ?_
      have I2 : Inv X pins σ H1 { s1 with heap := h' } := I1.kept (t' := s1.toks) hk
      exact ⟨s1.heap.objs.size + 1, [s1.heap.objs.size + 1, s1.heap.objs.size], _, _, H1, rfl, I2, turn_enum a (s1.heap.objs.size + 1) s1.heap.objs.size, ⟨⟨.none, he⟩, ⟨_, hit, rfl, rfl⟩, Nat.succ_ne_self _⟩, fr2, q⟩
    · obtain ⟨its, rv, p', hz⟩ := I1.tuple hq
      have pT : s1.heap.IsTuple a its.toArray := p'
      have hal : a < s1.heap.objs.size := by
        obtain ⟨_, z, _⟩ := pT
        exact Heap.lt_size z
      refine call_enumB (begins_tuple a its.toArray) pT fun h' he hit hk => wpAny_pyIter_enum he ?_
      have I2 : Inv X pins σ H1 { s1 with heap := h' } := I1.kept (t' := s1.toks) hk
      exact ⟨s1.heap.objs.size + 1, [s1.heap.objs.size + 1, s1.heap.objs.size], _, _, H1, rfl, I2, turn_enumT a (s1.heap.objs.size + 1) s1.heap.objs.size, ⟨⟨.none, he⟩, ⟨_, hit, rfl, rfl⟩, Nat.succ_ne_self _, Nat.ne_of_lt hal, Nat.ne_of_gt (Nat.lt_succ_of_lt hal)⟩, fr2, q⟩
end DM
namespace DL
open PySem PySem.Spec L2 DM
variable {c : Ctx}
def numD : Nat → List D → List D
  | _, [] => []
  | i, d :: ds => .tup [.int (i : Nat), d] :: numD (i + 1) ds
theorem numD_get : ∀ {ds : List D} {k i : Nat} {d : D}, ds[i]? = some d → (numD k ds)[i]? = some (.tup [.int ((k + i : Nat) : Int), d])
  | [], _, i, _, h => by simp at h
  | d :: ds, k, 0, _, h => by simp at h; subst h; rfl
  | d :: ds, k, i + 1, z, h => by
    have h' : ds[i]? = some z := by simpa using h
    have := numD_get (k := k + 1) h'
    rw [numD, List.getElem?_cons_succ, this, Nat.add_assoc, Nat.add_comm 1 i]
theorem numD_len : ∀ (ds : List D) (k : Nat), (numD k ds).length = ds.length
  | [], _ => rfl
  | d :: ds, k => by rw [numD, List.length_cons, numD_len ds, List.length_cons]
def enumO (d : D) : Option (List D) := (itemsD d).map (numD 0)
def enumE (f : DE c D) : DE c (List D) := bindE f fun d => fun _ μ Q _ => ∃ ds, enumO d = some ds ∧ Q ds μ
def enumX (a : XE D) : XE (List D) := bindX a fun d => okX (enumO d)
theorem xenum {a : XE D} : (enumE (lf a) : DE c (List D)) = lf (enumX a) := bind_lf fun _ => ok_lf fun _ _ _ _ => rfl
theorem pairE {F F1 H : Hp} {i : Nat} {T : Addr} {x : V} {ds : List D} {vs : List V} {d : D} (s1 : Same F1 F) (s2 : Same F H) (r : RepL F1 vs ds) (hT : H T = none) (hx : vs[i]? = some x) :
    ∃ d, (numD 0 ds)[i]? = some d ∧ Rep (upd F T (.tup [.int (i : Nat), x])) (.ref T) d := by
  obtain ⟨d, h1, h2⟩ := (r.mono s1).get' hx
  refine ⟨.tup [.int (i : Nat), d], by rw [numD_get h1, Nat.zero_add], .tup upd_same (.cons (.int _) (.cons (h2.mono fun b o e => ?_) .nil))⟩
  rw [upd_ne (ne_of_none (s2 _ _ e) hT)]; exact e
theorem walkEL {K : PySem.W.Frag} {F1 : Hp} {a : Addr} {vs : List V} {ds : List D} (h : F1 a = some (.lst vs)) (r : RepL F1 vs ds) : DWalk F1 (Ite K a) (numD 0 ds) where
  goes := fun i F H hi s1 s2 => by
    have hl : i < vs.length := by rw [r.length, ← numD_len ds 0]; exact hi
    exact ⟨vs, vs[i], SqL.of (s2 _ _ (s1 _ _ h)), by simp [hl]⟩
  stops := fun F H s1 s2 => ⟨vs, SqL.of (s2 _ _ (s1 _ _ h)), by rw [r.length, numD_len]; exact Nat.le_refl _⟩
  yields := fun i F H x H' hi s1 s2 y => by
    obtain ⟨T, x', rfl, hT, rfl, y⟩ := y
    obtain ⟨d, h1, h2⟩ := pairE (d := .non) s1 s2 r hT (y vs (SqL.of (s2 _ _ (s1 _ _ h))))
    exact ⟨_, d, h1, h2, .new hT⟩
theorem walkET {K : PySem.W.Frag} {F1 : Hp} {a : Addr} {vs : List V} {ds : List D} (h : F1 a = some (.tup vs)) (r : RepL F1 vs ds) : DWalk F1 (IteT K a) (numD 0 ds) where
  goes := fun i F H hi s1 s2 => by
    have hl : i < vs.length := by rw [r.length, ← numD_len ds 0]; exact hi
    exact ⟨vs, vs[i], SqT.of (s2 _ _ (s1 _ _ h)), by simp [hl]⟩
  stops := fun F H s1 s2 => ⟨vs, SqT.of (s2 _ _ (s1 _ _ h)), by rw [r.length, numD_len]⟩
  yields := fun i F H x H' hi s1 s2 y => by
    obtain ⟨T, x', rfl, hT, rfl, y⟩ := y
    obtain ⟨d, h1, h2⟩ := pairE (d := .non) s1 s2 r hT (y vs (SqT.of (s2 _ _ (s1 _ _ h))))
    exact ⟨_, d, h1, h2, .new hT⟩
theorem pid_enum {elts : List Expr} {kk : Nat} {tpos : Pos} {a : Expr} {fa : DE c D} {p pos : Pos} (hm : c.mg "enumerate" = none) (ha : PD c a fa) (hg : Glb c "enumerate" := by rfl) (hs : ∀ env, starEach [a] env = [(false, eval a env)] := by intro _; rfl) : PId c (.Tuple elts kk tpos) (.Call (.Name "enumerate" p) [a] [] pos) (enumE fa) := by
  obtain ⟨t, t1, t2⟩ := ha
  refine ⟨iEnumA c.K (tCons t tNil), fun X h => by rw [← h.hK]; exact pi_enumA (h.gl hg) (h.mgn hm) (pa_cons (t1 X h) pa_nil (hs _)) (hs _), fun F H μ ρ σ Q E R m s hf kq ke => ?_⟩
  refine t2 F H μ ρ σ _ E _ m s trivial hf (fun v d F1 H1 μ1 e1 m1 r1 q1 => ?_) ke
  obtain ⟨ds, h1, q⟩ := q1
  cases r1 <;> simp only [enumO, itemsD, Option.map_some, Option.map_none, reduceCtorEq, Option.some.injEq] at h1
  · subst h1
    rename_i hb rb
    exact ⟨_, _, rfl, .inr ⟨SqT.of (m1.fh _ _ hb), kq _ _ F1 H1 μ1 e1 m1 (walkET hb rb) q⟩⟩
  · subst h1
    rename_i hb rb
    exact ⟨_, _, rfl, .inl ⟨SqL.of (m1.fh _ _ hb), kq _ _ F1 H1 μ1 e1 m1 (walkEL hb rb) q⟩⟩

/-! part DLm -/
def pairD : List D → List D → List D
  | a :: as, b :: bs => .tup [a, b] :: pairD as bs
  | _, _ => []
theorem pairD_get : ∀ {as bs : List D} {i : Nat} {a b : D}, as[i]? = some a → bs[i]? = some b → (pairD as bs)[i]? = some (.tup [a, b])
  | [], _, i, _, _, h, _ => by simp at h
  | _ :: _, [], i, _, _, _, h => by simp at h
  | a :: as, b :: bs, 0, _, _, h, g => by simp at h g; subst h g; rfl
  | a :: as, b :: bs, i + 1, z, y, h, g => by
    have h' : as[i]? = some z := by simpa using h
    have g' : bs[i]? = some y := by simpa using g
    rw [pairD, List.getElem?_cons_succ]
    exact pairD_get h' g'
theorem pairD_len : ∀ (as bs : List D), (pairD as bs).length = min as.length bs.length
  | [], bs => by simp [pairD]
  | _ :: _, [] => by simp [pairD]
  | a :: as, b :: bs => by
    have := pairD_len as bs
    simp only [pairD, List.length_cons]
    omega
def zipO : D → D → Option (List D)
  | .tup as, .tup bs => some (pairD as bs)
  | .lst as, .lst bs => some (pairD as bs)
  | _, _ => none
def zipE (f g : DE c D) : DE c (List D) := bindE f fun d => bindE g fun e => fun _ μ Q _ => ∃ ds, zipO d e = some ds ∧ Q ds μ
def zipX (a b : XE D) : XE (List D) := bindX a fun d => bindX b fun e => okX (zipO d e)
theorem xzip {a b : XE D} : (zipE (lf a) (lf b) : DE c (List D)) = lf (zipX a b) := bind_lf fun _ => bind_lf fun _ => ok_lf fun _ _ _ _ => rfl
theorem pair2 {F F1 H : Hp} {i : Nat} {T : Addr} {x y : V} {as bs : List D} {vs ws : List V} (s1 : Same F1 F) (s2 : Same F H) (r : RepL F1 vs as) (r2 : RepL F1 ws bs) (hT : H T = none) (hx : vs[i]? = some x) (hy : ws[i]? = some y) :
    ∃ d, (pairD as bs)[i]? = some d ∧ Rep (upd F T (.tup [x, y])) (.ref T) d := by
  obtain ⟨d, h1, h2⟩ := (r.mono s1).get' hx
  obtain ⟨e, g1, g2⟩ := (r2.mono s1).get' hy
  have ss : Same F (upd F T (.tup [x, y])) := fun b o e => by
    rw [upd_ne (ne_of_none (s2 _ _ e) hT)]; exact e
  exact ⟨.tup [d, e], pairD_get h1 g1, .tup upd_same (.cons (h2.mono ss) (.cons (g2.mono ss) .nil))⟩
theorem walkZL {K : PySem.W.Frag} {F1 : Hp} {a b : Addr} {vs ws : List V} {as bs : List D} (h : F1 a = some (.lst vs)) (r : RepL F1 vs as) (h2 : F1 b = some (.lst ws)) (r2 : RepL F1 ws bs) : DWalk F1 (Itz K a b) (pairD as bs) where
  goes := fun i F H hi s1 s2 => by
    rw [pairD_len] at hi
    have l1 := r.length
    have l2 := r2.length
    exact ⟨vs, ws, vs[i]'(by omega), ws[i]'(by omega), SqL.of (s2 _ _ (s1 _ _ h)), SqL.of (s2 _ _ (s1 _ _ h2)), by simp, by simp⟩
  stops := fun F H s1 s2 => by
    have l1 := r.length
    have l2 := r2.length
    exact ⟨vs, ws, SqL.of (s2 _ _ (s1 _ _ h)), SqL.of (s2 _ _ (s1 _ _ h2)), by rw [pairD_len]; omega⟩
  yields := fun i F H x H' hi s1 s2 y => by
    obtain ⟨T, x', y', rfl, hT, rfl, f1, f2⟩ := y
    obtain ⟨d, g1, g2⟩ := pair2 s1 s2 r r2 hT (f1 vs (SqL.of (s2 _ _ (s1 _ _ h)))) (f2 ws (SqL.of (s2 _ _ (s1 _ _ h2))))
    exact ⟨_, d, g1, g2, .new hT⟩
theorem walkZT {K : PySem.W.Frag} {F1 : Hp} {a b : Addr} {vs ws : List V} {as bs : List D} (h : F1 a = some (.tup vs)) (r : RepL F1 vs as) (h2 : F1 b = some (.tup ws)) (r2 : RepL F1 ws bs) : DWalk F1 (RZ.ItzT K a b) (pairD as bs) where
  goes := fun i F H hi s1 s2 => by
    rw [pairD_len] at hi
    have l1 := r.length
    have l2 := r2.length
    exact ⟨vs, ws, vs[i]'(by omega), ws[i]'(by omega), SqT.of (s2 _ _ (s1 _ _ h)), SqT.of (s2 _ _ (s1 _ _ h2)), by simp, by simp⟩
  stops := fun F H s1 s2 => by
    have l1 := r.length
    have l2 := r2.length
    exact ⟨vs, ws, SqT.of (s2 _ _ (s1 _ _ h)), SqT.of (s2 _ _ (s1 _ _ h2)), by rw [pairD_len]; omega⟩
  yields := fun i F H x H' hi s1 s2 y => by
    obtain ⟨T, x', y', rfl, hT, rfl, f1, f2⟩ := y
    obtain ⟨d, g1, g2⟩ := pair2 s1 s2 r r2 hT (f1 vs (SqT.of (s2 _ _ (s1 _ _ h)))) (f2 ws (SqT.of (s2 _ _ (s1 _ _ h2))))
    exact ⟨_, d, g1, g2, .new hT⟩
theorem pid_zip {elts : List Expr} {kk : Nat} {tpos : Pos} {a b : Expr} {fa fb : DE c D} {p pos : Pos} (hm : c.mg "zip" = none) (ha : PD c a fa) (hb : PD c b fb) (hg : Glb c "zip" := by rfl)
    (hs : ∀ env, starEach [a, b] env = (false, eval a env) :: starEach [b] env := by intro _; rfl) (hs2 : ∀ env, starEach [b] env = (false, eval b env) :: starEach [] env := by intro _; rfl) (hpl : ∀ env, (backTo pos (starEach [b] env)).any (·.1) = false := by intro _; rfl) :
    PId c (.Tuple elts kk tpos) (.Call (.Name "zip" p) [a, b] [] pos) (zipE fa fb) := by
  obtain ⟨t, t1, t2⟩ := ha
  obtain ⟨u, u1, u2⟩ := hb
  refine ⟨RZ.iZipA c.K (tCons t (tCons u tNil)), fun X h => by rw [← h.hK]; exact RZ.pi_zipA (h.gl hg) (h.mgn hm) (pa_cons (t1 X h) (pa_cons (u1 X h) pa_nil (hs2 _)) (hs _)) (hs _) (hpl _), fun F H μ ρ σ Q E R m s hf kq ke => ?_⟩
  refine t2 F H μ ρ σ _ E _ m s trivial hf (fun v d F1 H1 μ1 e1 m1 r1 q1 => ?_) ke
  refine u2 F1 H1 μ1 ρ σ _ E _ m1 (s.ev e1) trivial q1 (fun w d' F2 H2 μ2 e2 m2 r2 q2 => ?_) fun e F' H' μ' cls dd e' m' q x => ke e F' H' μ' cls dd (e1.trans e') m' q x
  obtain ⟨ds, h1, q⟩ := q2
  have r1 := r1.mono e2.fr
  cases r1 <;> cases r2 <;> simp only [zipO, reduceCtorEq, Option.some.injEq] at h1
  · subst h1
    rename_i hb rb _ _ _ hc rc
    exact ⟨_, _, _, _, rfl, .inr ⟨SqT.of (m2.fh _ _ hb), SqT.of (m2.fh _ _ hc), kq _ _ F2 H2 μ2 (e1.trans e2) m2 (walkZT hb rb hc rc) q⟩⟩
  · subst h1
    rename_i hb rb _ _ _ hc rc
    exact ⟨_, _, _, _, rfl, .inl ⟨SqL.of (m2.fh _ _ hb), SqL.of (m2.fh _ _ hc), kq _ _ F2 H2 μ2 (e1.trans e2) m2 (walkZL hb rb hc rc) q⟩⟩
end DL

set_option Elab.async false
set_option linter.all false
set_option maxRecDepth 100000
set_option maxHeartbeats 4000000
/-! part DLn -/
namespace DM
open PySem PySem.Spec PyProof.Rows L2

section
variable {X : Cx} {pins : List (Addr × Obj)} {σ : L2.St} {H : Hp} {s : Shared} {d : Addr} {o : Obj}
theorem frzTV {kvs : List (List Key × V)} (I : Inv X pins σ H s) (h : H d = some (.frz o (.dT kvs))) :
    (d == sysModules) = false ∧ s.heap.get? d = some o ∧ o.ExactDict ∧ ∃ (es : Array DictEntry) (ep : Nat), o.data = .dict es ep ∧ es.size = kvs.length ∧
      ∀ (i : Nat) (k : List Key) (v : V), kvs[i]? = some (k, v) → ∃ (en : DictEntry) (q : Addr), es[i]? = some en ∧ en.key = .ref q ∧ H q = some (.tup (k.map kV)) ∧ RelV v en.val := by
  obtain ⟨hd, z, hs, xs, pr, o', es, ep, ho, hx, hdt, he, _⟩ := I.hok d _ h
  rw [hd] at ho
  cases ho
  refine ⟨hs, hd, hx, es, ep, hdt, ?_, fun i k v e => ?_⟩
  · have l1 : es.size = xs.length := size_of_entries he
    have l2 : kvs.length = xs.length := Paired.length pr
    omega
  · obtain ⟨b, hb, e1, e2, e3⟩ := paired_get pr e
    have q := entry_at he i
    rw [hb] at q
    exact ⟨_, b.2.1, q, rfl, e2, e3⟩
end
def ItiT (d : Addr) (o : Obj) (kvs : List (List Key × V)) : It :=
  ⟨fun i H => H d = some (.frz o (.dT kvs)) ∧ i < kvs.length, fun i H x H' => ∃ T k v q, kvs[i]? = some (k, v) ∧ x = .ref T ∧ H T = none ∧ H q = some (.tup (k.map kV)) ∧ H' = upd H T (.tup [.ref q, v]), fun i H => H d = some (.frz o (.dT kvs)) ∧ kvs.length ≤ i⟩
theorem turn_itemsT {P : Program} {w : World} {K : PySem.W.Frag} {d : Addr} {o : Obj} {es : Array DictEntry} {ep : Nat} {kvs : List (List Key × V)} {elts : List Expr} {kk : Nat} {tpos : Pos} (it : Addr) (hod : o.data = .dict es ep) :
    Turn P w K (.Tuple elts kk tpos) (ItiT d o kvs) [it] it (fun i h => ∃ ok ov, IsItemIter h it d i kvs.length ep ok ov) where
  mem := by simp
  obj := fun i h st b hb => by
    have e : b = it := by simpa using hb
    subst e
    obtain ⟨ok, ov, e⟩ := st
    exact ⟨_, e, fun v z => nomatch z⟩
  keep := fun i h h' st k => by
    obtain ⟨ok, ov, e⟩ := st
    exact ⟨ok, ov, k it (by simp) _ e⟩
  item := by
    intro X hP hw hK hc i pins s σ H E I hf st hg
    subst hP hw hK
    obtain ⟨hd, hi⟩ := hg
    obtain ⟨hs, hgd, hx, es', ep', hdt, hsz, ent⟩ := frzTV I hd
    obtain ⟨rfl, rfl⟩ := dict_ep hod hdt
    obtain ⟨⟨k, v⟩, hkv⟩ : ∃ p, kvs[i]? = some p := ⟨kvs[i], List.getElem?_eq_getElem hi⟩
    obtain ⟨en, q, hen, hkey, hq, ru⟩ := ent i k v hkv
    obtain ⟨ok, ov, he⟩ := st
    rw [← hsz] at he
    have hlt : it < s.heap.objs.size := Heap.lt_size he
    have hi2 : i < es'.size := by rw [hsz]; exact hi
    have een : es'[i] = en := by
      rw [Array.getElem?_eq_getElem hi2] at hen
      exact Option.some.inj hen
    have raw : DT.Raw s.heap d es' ep' := ⟨o, hgd, hx, hdt⟩
    refine DT.nextI he raw hi2 fun h' ho hT hz hk => ?_
    rw [een, hkey] at ho hT
    refine ⟨_, rfl, wpAny_letOwnedTupleGo_items (s := { s with heap := h' }) ho fun h'' he' sb => ?_⟩
    have hT2 : h''.get? s.heap.objs.size = some { cls := .type "tuple", data := .seq #[.ref q, en.val] } := (sb.2 _ (Nat.ne_of_gt hlt)).trans hT
    have new : ObjOk X.prog X.w (upd H s.heap.objs.size (.tup [.ref q, v])) h'' s.heap.objs.size (.tup [.ref q, v]) :=
      ⟨by show 2 ≤ sizeLine; decide, [.ref q, en.val], .cons rfl (.cons ru .nil), ⟨_, hT2, rfl, _, rfl⟩⟩
    have I1 : Inv X pins σ (upd H s.heap.objs.size (.tup [.ref q, v])) { s with heap := h'' } :=
      I.turnedNew (t' := s.toks) (ch := [it]) (fun b ob hb e => by
        have n1 : b ≠ it := by simpa using hb
        exact (sb.2 b n1).trans (hk b ob n1 e)) hf (Nat.le_refl _) new
    refine ⟨.ref s.heap.objs.size, _, I1, rfl, ⟨_, k, v, q, hkv, rfl, I.hok.fresh (Nat.le_refl _), hq, rfl⟩, ⟨.ref q, en.val, ?_⟩, fun b hb => ?_⟩
    · rw [hsz] at he'; exact he'
    · have e : b = it := by simpa using hb
      rw [e, upd_ne (Nat.ne_of_lt hlt)]
      exact (hf it (by simp)).1
  done := by
    intro X hP hw hK hc i pins s σ H E I hf st hg
    subst hP hw hK
    obtain ⟨hd, hi⟩ := hg
    obtain ⟨f0, f1, f2, f3, f4, f5⟩ := hf it (by simp)
    obtain ⟨hs, hgd, hx, es', ep', hdt, hsz, ent⟩ := frzTV I hd
    obtain ⟨rfl, rfl⟩ := dict_ep hod hdt
    obtain ⟨ok, ov, he⟩ := st
    rw [← hsz] at he
    exact DT.endI (I.ok.hd hc) he ⟨o, hgd, hx, hdt⟩ (by rw [hsz]; exact hi) fun h' eb => ⟨rfl, I.turned (t' := s.toks) (fun b ob hb e => eb b ob hb e) f0 f1 f3 f4 f5⟩
  self := fun A i s Q E st h => by
    obtain ⟨_, _, e⟩ := st
    exact PySem.W.kcp_self e h
def iItemsT (td : TE) : TI := fun σ H R => td σ H fun x H1 => ∃ d o kvs, x = .ref d ∧ H1 d = some (.frz o (.dT kvs)) ∧ R (ItiT d o kvs) H1
theorem pi_itemsT {X : Cx} {e : Expr} {td : TE} {apos cpos : Pos} {elts : List Expr} {kk : Nat} {tpos : Pos} (he : PE X e td) (hbase : attributeBase e "items" X.env (eval e X.env) = eval e X.env := by rfl) (hline : (apos.endLine == cpos.line) = true := by rfl) :
    PI X (.Tuple elts kk tpos) (.Call (.Attribute e "items" apos) [] [] cpos) (iItemsT td) := by
  refine ⟨fun pins s σ H R I h => ?_⟩
  refine wpAny_Call_method (T := "dict") (id := "dict.items") hbase rfl hline F.plainAttrs_dict F.slot_dict_items F.type_dict_items (thn (he.run pins s σ H _ I h) fun u s1 ⟨x, H1, I1, rx, d, o, kvs, ex, hd, q⟩ => ?_)
  subst ex
  obtain rfl : u = Value.ref d := rx
  obtain ⟨hs, hgd, hx, es, ep, hdt, hsz, ent⟩ := frzTV I1 hd
  have raw : DT.Raw s1.heap d es ep := ⟨o, hgd, hx, hdt⟩
  refine ⟨raw.typeIs, fun b z => ?_, ?_⟩
  · cases z
    exact ⟨o, hgd, hx.2.1⟩
  have I2 : Inv X pins σ H1 { s1 with heap := s1.heap.push { cls := .type "dict_items", data := .fields #[.ref d] } } := I1.kept (t' := s1.toks) fun b ob q => Heap.get?_push_of_some _ q
  have fin : wpAny (model X.prog X.w) X.A (pyIter (.ref s1.heap.objs.size)) (PIE X pins σ (.Tuple elts kk tpos) R) X.xe { s1 with heap := s1.heap.push { cls := .type "dict_items", data := .fields #[.ref d] } } := by
    refine DT.iterI (d := d) ⟨_, Heap.get?_push_size _ rfl, rfl, rfl⟩ (raw.push _) (pi_one (tk := s1.toks) I2 _ (turn_itemsT _ hdt) ⟨.none, .none, ?_⟩ q)
    rw [← hsz]
    exact Heap.get?_push_size _ rfl
  show wpAny _ _ (callWith cpos (.builtin "dict.items") [.ref d] [] []) _ X.xe s1
  exact method_meetsIn F.slot_dict_items F.entry_dict_items rfl (PySem.evalArgs_none ⟨rfl, raw.typeIs, F.args_dict_items_1 _, _, DT.meetsItems hs, ⟨raw, fin⟩⟩)

/-! part DLn -/
def tD1T (tk tv : TE) : TE := fun σ H Q => ∀ p, H p = none → tk σ (upd H p (.dT [])) fun x H1 => tv σ H1 fun y H2 => ∃ (b : Addr) (k : List Key), x = .ref b ∧ H2 b = some (.tup (k.map kV)) ∧ H2 p = some (.dT []) ∧ Q (.ref p) (upd H2 p (.dT [(k, y)]))
theorem pe_d1T {X : Cx} {pos : Pos} {k v : Expr} {tk tv : TE} (hu : X.A.units + 1 < cLine) (hk : PE X k tk) (hv : PE X v tv) : PE X (.Dict [some k] [v] pos) (tD1T tk tv) := by
  refine ⟨fun pins s σ H Q I q => ?_⟩
  have hn := I.hok.fresh (Nat.le_refl s.heap.objs.size)
  have I1 := I.laid (a := s.heap.objs.size) (o := .dT []) (h' := s.heap.push { cls := .type "dict", data := .dict #[] }) (t' := s.toks) (fun _ _ q => Heap.get?_push_of_some _ q) (Nat.le_refl _) (dt_empty s.heap I.big)
  have hsh := zip_pairTrees [some k] [v] X.env pos rfl rfl
  rw [arm_eval_Dict, hsh, dictDisplay_pairs _ (by simp [pairTrees]) (by simp [pairTrees])]
  refine wpAny_bind (wpAny_standAt (wpAny_bind (wpAny_subDictH (knd := tupleKind (mixKind X.prog X.w)) (show (tupleKind (mixKind X.prog X.w)).room X.A from Nat.lt_of_succ_lt hu) (by simp [pairTrees]) ?_)))
  refine pairTrees_cons_walk (thn (hk.run pins _ σ _ _ I1 (q _ hn)) fun u s2 ⟨x, H1, I2, rx, q1⟩ => thn (hv.run pins s2 σ H1 _ I2 q1) fun w2 s3 ⟨y, H2, I3, ry, b, ks, ex, hb, hp, q2⟩ => pairTrees_nil_walk ?_)
  subst ex
  cases (show u = Value.ref b from rx)
  obtain ⟨z, hd, xs, rel, dd⟩ := dt_of I3.hok hp
  cases rel
  refine ⟨[(ks, b, w2)], ⟨rfl, rfl, key_of I3.hok hb, trivial⟩, dd, fun h' tk dd' hs => wpAny_pure ⟨.ref s.heap.objs.size, _, ?_, rfl, q2⟩⟩
  obtain ⟨o, es, ep, hq, h2, h3, h4, _, h5⟩ := dd'
  refine d_write (t' := tk) I3 (by rw [hp]; exact True.intro) hs ⟨o, hq⟩ ⟨by show 1 ≤ sizeLine; decide, hd, [(ks, b, w2)], .cons ⟨rfl, ?_, ry⟩ .nil, o, es, ep, hq, h2, h3, h4, h5⟩
  rw [upd_ne (ne_of hb hp (fun z => nomatch z))]
  exact hb

/-! part DLn -/
def mergeT (kvs more : List (List Key × V)) : List (List Key × V) := more.foldl (fun acc kv => putK acc kv.1 kv.2) kvs
theorem length_mergeT : ∀ (more kvs : List (List Key × V)), (mergeT kvs more).length ≤ kvs.length + more.length
  | [], kvs => by show kvs.length ≤ kvs.length + 0; omega
  | p :: r, kvs => by
    have h1 := length_mergeT r (putK kvs p.1 p.2)
    have h2 := length_putK kvs p.1 p.2
    show (mergeT (putK kvs p.1 p.2) r).length ≤ _
    rw [List.length_cons]; omega
theorem KT_merge {H : Hp} : ∀ {more : List (List Key × V)} {rs : List (List Key × Addr × Value)} {kvs : List (List Key × V)} {vs : List (List Key × Addr × Value)}, KT H more rs → KT H kvs vs → KT H (mergeT kvs more) (storedAllH vs rs) := by
  intro more rs kvs vs r
  induction r generalizing kvs vs with
  | nil => intro q; exact q
  | @cons p q ps qs h t ih =>
    intro r0
    have e : KT H (putK kvs p.1 p.2) (storedH vs q.1 q.2.1 q.2.2) := by
      have := KT.put r0 p.1 h.2.1 h.2.2
      rw [← h.1]; exact this
    exact ih e
/-- a pair's tuple, its key's tuple, the value -/
abbrev PairsT (K : PySem.W.Frag) (H : Hp) : List Addr → List (List Key × V) → Prop := Paired fun p kv => ∃ b, SqT K H p [.ref b, kv.2] ∧ H b = some (.tup (kv.1.map kV))
theorem pairsT_of {X : Cx} {pins : List (Addr × Obj)} {σ : L2.St} {H : Hp} {s : Shared} (I : Inv X pins σ H s) : ∀ {ps : List Addr} {kvs : List (List Key × V)}, PairsT X.K H ps kvs →
    ∃ rs : List (List Key × Addr × Value), KT H kvs rs ∧ rs.length = ps.length ∧ ∀ (j : Nat) (q : List Key × Addr × Value), rs[j]? = some q → ∃ b : Addr, ps[j]? = some b ∧ IsTup s.heap b #[.ref q.2.1, q.2.2] ∧ (tupleKind (mixKind X.prog X.w)).is s.heap q.1 q.2.1
  | _, _, .nil => ⟨[], .nil, rfl, fun j q e => by simp at e⟩
  | _, _, .cons (a := p) (b := kv) ⟨b, h, hb⟩ t => by
    obtain ⟨rs, r, hl, hp⟩ := pairsT_of I t
    obtain ⟨its, rv, ht, _⟩ := I.tuple h
    obtain ⟨u, y, ei, ru, ry⟩ := vals2 rv
    subst ei
    cases (show u = Value.ref b from ru)
    refine ⟨(kv.1, b, y) :: rs, .cons ⟨rfl, hb, ry⟩ r, by rw [List.length_cons, List.length_cons, hl], fun j q e => ?_⟩
    cases j with
    | zero =>
      have e' : (kv.1, b, y) = q := Option.some.inj e
      subst e'
      exact ⟨p, rfl, ht, key_of I.hok hb⟩
    | succ j =>
      obtain ⟨b', e1, e2, e3⟩ := hp j q (by simpa using e)
      exact ⟨b', by simpa using e1, e2, e3⟩
theorem keysStay {P : Program} {w : World} {H : Hp} {h h' : Heap} {d : Addr} : ∀ {kvs : List (List Key × V)} {rs : List (List Key × Addr × Value)}, KT H kvs rs → HOk P w H h → (∀ b o, b ≠ d → h.get? b = some o → h'.get? b = some o) → h.objs.size ≤ d → ∀ x ∈ rs, (tupleKind (mixKind P w)).is h' x.1 x.2.1 := by
  intro kvs rs r ok hk hd x hx
  induction r with
  | nil => exact nomatch hx
  | @cons p q ps qs hq t ih =>
    rcases List.mem_cons.mp hx with e | hx
    · subst e
      obtain ⟨o, its, n, h1, h2, h3, h4⟩ := key_of ok (show H x.2.1 = some (.tup (x.1.map kV)) by rw [← hq.1]; exact hq.2.1)
      exact ⟨o, its, n, hk _ _ (Nat.ne_of_lt (Nat.lt_of_lt_of_le (Heap.lt_size h1) hd)) h1, h2, h3, h4⟩
    · exact ih hx
theorem call_dictT {X : Cx} (hcalm : X.calm = true) (hu : X.A.units + 3 < cLine) : CallR X (.type "dict") (fun xs H Q => ∃ (a : Addr) (ps : List Addr) (kvs : List (List Key × V)), xs = [.ref a] ∧ SqL X.K H a (ps.map V.ref) ∧ PairsT X.K H ps kvs ∧
    ∀ p, H p = none → Q (.ref p) (upd H p (.dT (mergeT [] kvs)))) := by
  intro pins s σ H xs us Q I r q
  obtain ⟨a, ps, kvs, ex, hq, hp, q⟩ := q
  subst ex
  obtain ⟨u, eu, rx⟩ := vals1 r
  subst eu
  cases rx
  obtain ⟨its, rv, pl, hz⟩ := I.list hq
  have ei := refs_at rv
  subst ei
  rw [List.length_map] at hz
  obtain ⟨rs, rel, hl, hpr⟩ := pairsT_of I hp
  obtain ⟨o, n, ho, hc, hd, hdat⟩ := pl
  have hln : (rs.map fun x => (Value.ref x.2.1, x.2.2)).length = ps.length := by rw [List.length_map, hl]
  refine call_dict_pairsH (knd := tupleKind (mixKind X.prog X.w)) (ps := rs) (PairArg.list a _ (fun j => ps.getD j 0) (rs.map fun x => (Value.ref x.2.1, x.2.2))) (I.ok.hd hcalm) (show (tupleKind (mixKind X.prog X.w)).room X.A.in1.in1 from by show X.A.units + 1 + 1 < cLine; omega)
    ⟨⟨o, n, ho, hc, hd, hdat⟩, by rw [hln]; simp, fun j k v e => ?_⟩ ⟨by rw [List.length_map], fun i key v e => ?_⟩ (fun h' hk x hx => keysStay rel I.hok (fun b o hb e => hk b o hb (by simp) e) (Nat.le_refl _) x hx) (by rw [hln]; exact hz) fun h' tk hd' hk => ?_
  · rw [List.getElem?_map] at e
    obtain ⟨q', e1, e2⟩ := Option.map_eq_some_iff.mp e
    cases e2
    obtain ⟨b, e1', e2, e3⟩ := hpr j q' e1
    have eb : ps.getD j 0 = b := by rw [List.getD_eq_getElem?_getD, e1']; rfl
    simp only [eb]
    exact ⟨by simp [e1'], .inl e2⟩
  · have e : (rs.map fun x => (Value.ref x.2.1, x.2.2))[i]? = some (key, v) := e
    rw [List.getElem?_map] at e
    obtain ⟨q', e1, e2⟩ := Option.map_eq_some_iff.mp e
    cases e2
    exact ⟨q'.1, q'.2.1, e1, rfl⟩
  · have hm : (s.heap.objs.size == sysModules) = false := beq_eq_false_iff_ne.mpr (Nat.ne_of_gt I.big)
    have hlen : (mergeT [] kvs).length ≤ sizeLine := by
      refine Nat.le_trans (length_mergeT kvs []) ?_
      rw [List.length_nil, Nat.zero_add, Paired.length rel, hl]
      exact hz
    have hn := I.hok.fresh (Nat.le_refl s.heap.objs.size)
    obtain ⟨o', es, ep, hq', h2, h3, h4, _, h5⟩ := hd'
    refine ⟨.ref s.heap.objs.size, upd H s.heap.objs.size (.dT (mergeT [] kvs)), I.laid (t' := tk) (fun b o e => hk b o (by simp) e) (Nat.le_refl _) (show ObjOk X.prog X.w _ _ _ (.dT (mergeT [] kvs)) from ⟨hlen, hm, _, (KT_merge rel .nil).keeps fun b ys e => ?_, o', es, ep, hq', h2, h3, h4, h5⟩), rfl, q _ hn⟩
    rw [upd_ne (ne_of_none e hn)]; exact e
end DM
namespace DL
open PySem PySem.Spec L2 DM
variable {c : Ctx}
def keyD : Key → D
  | .inl i => .int i
  | .inr x => .str x
theorem keyD_rep {F : Hp} : ∀ k : Key, Rep F (kV k) (keyD k)
  | .inl i => .int i
  | .inr x => .str x
theorem keysD_rep {F : Hp} : ∀ ks : List Key, RepL F (ks.map kV) (ks.map keyD)
  | [] => .nil
  | k :: ks => .cons (keyD_rep k) (keysD_rep ks)
def itemT : List Key × V → Option D
  | (k, v) => (ofV v).map fun d => .tup [.tup (k.map keyD), d]
def itemsT : List (List Key × V) → Option (List D)
  | [] => some []
  | p :: ps => (itemT p).bind fun d => (itemsT ps).map (d :: ·)
theorem itemsT_len : ∀ {kvs : List (List Key × V)} {ds : List D}, itemsT kvs = some ds → ds.length = kvs.length
  | [], _, h => by cases h; rfl
  | p :: ps, _, h => by
    obtain ⟨d, h1, h2⟩ := Option.bind_eq_some_iff.mp h
    obtain ⟨ds, h3, rfl⟩ := Option.map_eq_some_iff.mp h2
    rw [List.length_cons, List.length_cons, itemsT_len h3]
theorem itemsT_get : ∀ {kvs : List (List Key × V)} {ds : List D} {i : Nat} {k : List Key} {v : V}, itemsT kvs = some ds → kvs[i]? = some (k, v) → ∃ d, ofV v = some d ∧ ds[i]? = some (.tup [.tup (k.map keyD), d])
  | [], _, i, k, v, h, e => by simp at e
  | p :: ps, _, i, k, v, h, e => by
    obtain ⟨d, h1, h2⟩ := Option.bind_eq_some_iff.mp h
    obtain ⟨ds, h3, rfl⟩ := Option.map_eq_some_iff.mp h2
    cases i with
    | zero =>
      simp only [List.getElem?_cons_zero, Option.some.injEq] at e
      subst e
      obtain ⟨d', h4, rfl⟩ := Option.map_eq_some_iff.mp h1
      exact ⟨d', h4, rfl⟩
    | succ i =>
      rw [List.getElem?_cons_succ] at e
      obtain ⟨d', h4, h5⟩ := itemsT_get h3 e
      exact ⟨d', h4, by rw [List.getElem?_cons_succ]; exact h5⟩
def itemsTO : D → Option (List D)
  | .dT kvs => itemsT kvs
  | _ => none
def itemsTE (f : DE c D) : DE c (List D) := bindE f fun d => fun _ μ Q _ => ∃ ds, itemsTO d = some ds ∧ Q ds μ
def itemsTX (a : XE D) : XE (List D) := bindX a fun d => okX (itemsTO d)
theorem xitemsT {a : XE D} : (itemsTE (lf a) : DE c (List D)) = lf (itemsTX a) := bind_lf fun _ => ok_lf fun _ _ _ _ => rfl
theorem walkIT {F1 : Hp} {a : Addr} {o : Obj} {kvs : List (List Key × V)} {ds : List D} (h : F1 a = some (.frz o (.dT kvs))) (e : itemsT kvs = some ds) : DWalk F1 (ItiT a o kvs) ds where
  goes := fun i F H hi s1 s2 => ⟨s2 _ _ (s1 _ _ h), by rw [← itemsT_len e]; exact hi⟩
  stops := fun F H s1 s2 => ⟨s2 _ _ (s1 _ _ h), by rw [itemsT_len e]; exact Nat.le_refl _⟩
  yields := fun i F H x H' hi s1 s2 y => by
    obtain ⟨T, k, v, q, h1, rfl, hT, hq, rfl⟩ := y
    obtain ⟨d, h2, h3⟩ := itemsT_get e h1
    have nq : q ≠ T := fun z => by subst z; rw [hT] at hq; cases hq
    refine ⟨_, _, h3, ?_, Step.trans (Step.tup hq) (Step.new hT)⟩
    refine .tup upd_same (.cons (.tup (vs := k.map kV) ?_ (keysD_rep k)) (.cons (ofV_rep h2) .nil))
    rw [upd_ne nq, upd_same]
theorem pid_itemsT {elts : List Expr} {kk : Nat} {tpos : Pos} {a : Expr} {fa : DE c D} {apos cpos : Pos} (ha : PD c a fa) (hb : ∀ X, c.In X → attributeBase a "items" X.env (eval a X.env) = eval a X.env := by intro _ _; rfl) (hl : (apos.endLine == cpos.line) = true := by rfl) : PId c (.Tuple elts kk tpos) (.Call (.Attribute a "items" apos) [] [] cpos) (itemsTE fa) := by
  obtain ⟨t, t1, t2⟩ := ha
  refine ⟨iItemsT t, fun X h => pi_itemsT (t1 X h) (hb X h) hl, fun F H μ ρ σ Q E R m s hf kq ke => ?_⟩
  refine t2 F H μ ρ σ _ E _ m s trivial hf (fun v d F1 H1 μ1 e1 m1 r1 q1 => ?_) ke
  obtain ⟨ds, h1, q⟩ := q1
  cases r1 <;> simp only [itemsTO, reduceCtorEq] at h1
  rename_i hb'
  exact ⟨_, _, _, rfl, m1.fh _ _ hb', kq _ _ F1 H1 μ1 e1 m1 (walkIT hb' h1) q⟩

/-! part DLn -/
def d1TO : D → D → Option Co := fun k v => putCo (.dT []) k v
def d1TE (fk fv : DE c D) : DE c Co := bindE fk fun k => bindE fv fun v => fun _ μ Q _ => ∃ co, d1TO k v = some co ∧ Q co μ
def d1TX (a b : XE D) : XE Co := bindX a fun k => bindX b fun v => okX (d1TO k v)
theorem xd1T {a b : XE D} : (d1TE (lf a) (lf b) : DE c Co) = lf (d1TX a b) := bind_lf fun _ => bind_lf fun _ => ok_lf fun _ _ _ _ => rfl
theorem d1TO_of {k v : D} {co : Co} (h : d1TO k v = some co) : ∃ ds ks w, k = .tup ds ∧ keysOf ds = some ks ∧ toV v = some w ∧ co = .dT [(ks, w)] := by
  unfold d1TO putCo at h
  cases k <;> simp only [reduceCtorEq] at h
  split at h
  · rename_i ds k' v' h1 h2
    split at h
    · cases h
      exact ⟨_, _, _, rfl, h1, h2, rfl⟩
    · cases h
  · cases h
theorem pn_d1T {k v : Expr} {fk fv : DE c D} {pos : Pos} (hk : PD c k fk) (hv : PD c v fv) : PN c (.Dict [some k] [v] pos) (d1TE fk fv) := by
  obtain ⟨tk, k1, k2⟩ := hk
  obtain ⟨tv, v1, v2⟩ := hv
  refine ⟨tD1T tk tv, fun X h => pe_d1T h.hu1 (k1 X h) (v1 X h), fun F H μ ρ σ Q E Qh m s p hf kq ke q hq => ?_⟩
  obtain ⟨g1, g2⟩ := fresh_O m hq
  have eD : Ev F H (c.ft μ) F (upd H q (.dT [])) (c.ft μ) := Ev.fresh hq
  refine k2 F _ μ ρ σ _ E _ (m.fresh hq) (s.ev eD) trivial hf (fun x kd F1 H1 μ1 e1 m1 r1 q1 => ?_) fun e F' H' μ' cls dd e' m' q x => ke e F' H' μ' cls dd (eD.trans e') m' q x
  refine v2 F1 H1 μ1 ρ σ _ E _ m1 ((s.ev eD).ev e1) trivial q1 (fun y vd F2 H2 μ2 e2 m2 r2 q2 => ?_) fun e F' H' μ' cls dd e' m' q x => ke e F' H' μ' cls dd ((eD.trans e1).trans e') m' q x
  obtain ⟨co, hc, q2⟩ := q2
  obtain ⟨ds, ks, w, rfl, h1, h2, rfl⟩ := d1TO_of hc
  have e12 := e1.trans e2
  have hp2 : H2 q = some (.dT []) := e12.kp q _ upd_same g2
  have np2 : ¬ c.ft μ2 q := fun z => by
    rcases e12.ft q z with z | z
    · exact g2 z
    · rw [upd_same] at z; cases z
  have nf2 : F2 q = none := by rw [e12.nw q _ upd_same g2 (fun _ z => by cases z)]; exact g1
  have r1 := r1.mono e2.fr
  cases r1
  rename_i b vs hb rb
  have ek := keysOf_rep rb h1
  have ew := toV_rep r2 h2
  subst ek ew
  have ss : Same F2 (upd H2 q (.dT [(ks, y)])) := fun b o e => by
    rw [upd_ne (ne_of_none e nf2)]; exact m2.fh _ _ e
  refine ⟨b, ks, rfl, m2.fh _ _ hb, hp2, kq _ (.dT [(ks, y)]) F2 _ μ2 ?_ ?_ ⟨q, rfl, hq, nf2, np2, upd_same⟩ q2⟩
  · have eh := eD.trans e12
    exact ⟨eh.fr, eh.nw, fun b o h n => by rw [upd_ne (ne_of_none h hq)]; exact eh.kp b o h n, eh.ft, fun b o h => by
      rw [upd_ne (ne_of_none h hq)]; exact eh.tr b o h⟩
  · exact ⟨ss, c.M.stay m2.ok fun b hb => upd_ne fun z => np2 (by rw [← z]; exact hb), m2.nf⟩

/-! part DLn -/
def pairT : D → Option (List Key × V)
  | .tup [.tup ds, v] => match keysOf ds, toV v with
    | some k, some w => some (k, w)
    | _, _ => none
  | _ => none
def pairsT : List D → Option (List (List Key × V))
  | [] => some []
  | p :: ps => (pairT p).bind fun d => (pairsT ps).map (d :: ·)
theorem pairT_rep {K : PySem.W.Frag} {F H : Hp} {v : V} {d : D} {kv : List Key × V} (fh : Same F H) (r : Rep F v d) (h : pairT d = some kv) : ∃ p b, v = .ref p ∧ SqT K H p [.ref b, kv.2] ∧ H b = some (.tup (kv.1.map kV)) := by
  unfold pairT at h
  split at h
  · rename_i ds w
    cases r
    rename_i a vs ha ra
    cases ra
    rename_i v1 vs1 r1 ra
    cases ra
    rename_i v2 vs2 r2 ra
    cases ra
    split at h
    · rename_i k w' h1 h2
      cases h
      cases r1
      rename_i b us hb rb
      have ek := keysOf_rep rb h1
      have ew := toV_rep r2 h2
      subst ek ew
      exact ⟨a, b, rfl, SqT.of (fh _ _ ha), fh _ _ hb⟩
    · cases h
  · cases h
theorem pairsT_rep {K : PySem.W.Frag} {F H : Hp} (fh : Same F H) : ∀ {vs : List V} {ds : List D} {kvs : List (List Key × V)}, RepL F vs ds → pairsT ds = some kvs → ∃ ps : List Addr, vs = ps.map V.ref ∧ PairsT K H ps kvs
  | _, _, _, .nil, h => by cases h; exact ⟨[], rfl, .nil⟩
  | _, d :: ds, _, .cons r rr, h => by
    obtain ⟨kv, h1, h2⟩ := Option.bind_eq_some_iff.mp h
    obtain ⟨kvs, h3, rfl⟩ := Option.map_eq_some_iff.mp h2
    obtain ⟨p, b, rfl, h4, h5⟩ := pairT_rep (K := K) fh r h1
    obtain ⟨ps, rfl, h6⟩ := pairsT_rep fh rr h3
    exact ⟨p :: ps, rfl, .cons ⟨b, h4, h5⟩ h6⟩
def dictTO : D → Option Co
  | .lst ds => (pairsT ds).map fun kvs => .dT (mergeT [] kvs)
  | _ => none
def dictTE (f : DE c D) : DE c Co := bindE f fun d => fun _ μ Q _ => ∃ co, dictTO d = some co ∧ Q co μ
def dictTX (a : XE D) : XE Co := bindX a fun d => okX (dictTO d)
theorem xdictT {a : XE D} : (dictTE (lf a) : DE c Co) = lf (dictTX a) := bind_lf fun _ => ok_lf fun _ _ _ _ => rfl
def rDictT (K : PySem.W.Frag) : List V → Hp → VK → Prop := fun xs H Q => ∃ (a : Addr) (ps : List Addr) (kvs : List (List Key × V)), xs = [.ref a] ∧ SqL K H a (ps.map V.ref) ∧ PairsT K H ps kvs ∧ ∀ p, H p = none → Q (.ref p) (upd H p (.dT (mergeT [] kvs)))
theorem pn_dictT {a : Expr} {fa : DE c D} {p pos : Pos} (ha : PD c a fa) (hm : c.mg "dict" = none) (hg : Glb c "dict" := by rfl) (he : ∀ env, starEach [a] env = (false, eval a env) :: starEach [] env := by intro _; rfl) : PN c (.Call (.Name "dict" p) [a] [] pos) (dictTE fa) := by
  obtain ⟨t, t1, t2⟩ := ha
  refine ⟨tCB (rDictT c.K) (tCons t tNil), fun X h => pe_callTy (T := "dict") (r := rDictT c.K) (by rw [← h.hK]; exact call_dictT h.cl (by have := h.hu65; omega)) (h.gl hg) (h.mgn hm) (by decide +kernel) (pa_cons (t1 X h) pa_nil (he _)) (by decide) (by decide) (he _) rfl, ?_⟩
  intro F H μ ρ σ Q E Qh m s _ hf kq ke
  refine t2 F H μ ρ σ _ E _ m s trivial hf (fun v d F1 H1 μ1 e1 m1 r1 q1 => ?_) ke
  obtain ⟨co, hc, q1⟩ := q1
  cases r1 <;> simp only [dictTO, reduceCtorEq] at hc
  rename_i a vs ds ha ra
  obtain ⟨kvs, h2, rfl⟩ := Option.map_eq_some_iff.mp hc
  obtain ⟨ps, rfl, h3⟩ := pairsT_rep (K := c.K) m1.fh ra h2
  refine ⟨a, ps, kvs, rfl, SqL.of (m1.fh _ _ ha), h3, fun p hp => ?_⟩
  obtain ⟨f1, f2⟩ := fresh_O m1 hp
  have hp0 : H p = none := by
    cases z : H p with
    | none => rfl
    | some o =>
      obtain ⟨o', z'⟩ := e1.tr _ o z
      rw [hp] at z'; cases z'
  exact kq _ (.dT (mergeT [] kvs)) F1 _ μ1 (e1.trans (Ev.fresh hp)) (m1.fresh hp) ⟨p, rfl, hp0, f1, f2, upd_same⟩ q1
end DL

set_option Elab.async false
set_option linter.all false
set_option maxRecDepth 100000
set_option maxHeartbeats 4000000
/-! part DLo -/
namespace DL
open PySem PySem.Spec L2 DM
variable {c : Ctx}
theorem code_inj {B : Int} : ∀ {x y : List Int}, x.length = y.length → TS.Bd B x → TS.Bd B y → TS.code B x = TS.code B y → x = y
  | [], [], _, _, _, _ => rfl
  | [], _ :: _, h, _, _, _ => by simp at h
  | _ :: _, [], h, _, _, _ => by simp at h
  | a :: x, b :: y, h, hx, hy, e => by
    have hl : x.length = y.length := by simpa using h
    have bx : TS.Bd B x := fun m hm => hx m (List.mem_cons_of_mem _ hm)
    have by' : TS.Bd B y := fun m hm => hy m (List.mem_cons_of_mem _ hm)
    rcases Int.lt_trichotomy a b with q | q | q
    · have := TS.code_lt (B := B) hl bx by' q
      omega
    · subst q
      rcases Int.lt_trichotomy (TS.code B x) (TS.code B y) with z | z | z
      · have := (TS.code_same (B := B) (d := a) hl).mpr z
        omega
      · rw [code_inj hl bx by' z]
      · have := (TS.code_same (B := B) (d := a) hl.symm).mpr z
        omega
    · have := TS.code_lt (B := B) hl.symm by' bx q
      omega
def insC (x : List Int) : List (List Int) → List (List Int)
  | [] => [x]
  | y :: ys => if TS.code 64 x < TS.code 64 y then x :: y :: ys else if TS.code 64 x = TS.code 64 y then y :: ys else y :: insC x ys
def sortC : List (List Int) → List (List Int)
  | [] => []
  | x :: xs => insC x (sortC xs)
theorem mem_insC {x z : List Int} : ∀ {ys : List (List Int)}, z ∈ insC x ys → z = x ∨ z ∈ ys
  | [], h => by simp [insC] at h; exact .inl h
  | y :: ys, h => by
    unfold insC at h
    split at h
    · rcases List.mem_cons.mp h with h | h
      · exact .inl h
      · exact .inr h
    · split at h
      · exact .inr h
      · rcases List.mem_cons.mp h with h | h
        · exact .inr (by rw [h]; exact List.mem_cons_self)
        · exact (mem_insC h).imp id (List.mem_cons_of_mem _)
theorem mem_sortC {z : List Int} : ∀ {xs : List (List Int)}, z ∈ sortC xs → z ∈ xs
  | [], h => by cases h
  | x :: xs, h => by
    rcases mem_insC h with h | h
    · rw [h]; exact List.mem_cons_self
    · exact List.mem_cons_of_mem _ (mem_sortC h)
abbrev Cov (zs : List (List Int)) (x : List Int) : Prop := ∃ y ∈ zs, TS.code 64 y = TS.code 64 x
theorem ins_cov {x : List Int} : ∀ {ys : List (List Int)}, Cov (insC x ys) x ∧ ∀ z ∈ ys, z ∈ insC x ys
  | [] => ⟨⟨x, by simp [insC], rfl⟩, fun z h => by cases h⟩
  | y :: ys => by
    unfold insC
    split
    · exact ⟨⟨x, List.mem_cons_self, rfl⟩, fun z h => List.mem_cons_of_mem _ h⟩
    · split
      · rename_i e
        exact ⟨⟨y, List.mem_cons_self, e.symm⟩, fun z h => h⟩
      · obtain ⟨⟨w, hw, ew⟩, h2⟩ := ins_cov (x := x) (ys := ys)
        refine ⟨⟨w, List.mem_cons_of_mem _ hw, ew⟩, fun z h => ?_⟩
        rcases List.mem_cons.mp h with h | h
        · rw [h]; exact List.mem_cons_self
        · exact List.mem_cons_of_mem _ (h2 z h)
theorem cov_sortC : ∀ {xs : List (List Int)} {x : List Int}, x ∈ xs → Cov (sortC xs) x
  | y :: xs, x, h => by
    rcases List.mem_cons.mp h with h | h
    · rw [h]; exact ins_cov.1
    · obtain ⟨w, hw, ew⟩ := cov_sortC h
      exact ⟨w, ins_cov.2 w hw, ew⟩
abbrev Rise (xs : List (List Int)) : Prop := xs.Pairwise fun a b => TS.code 64 a < TS.code 64 b
theorem rise_ins {x : List Int} : ∀ {ys : List (List Int)}, Rise ys → Rise (insC x ys)
  | [], _ => List.pairwise_singleton _ _
  | y :: ys, h => by
    obtain ⟨h1, h2⟩ := List.pairwise_cons.mp h
    unfold insC
    split
    · rename_i hlt
      exact List.pairwise_cons.mpr ⟨fun z hz => by
        rcases List.mem_cons.mp hz with e | hz
        · rw [e]; exact hlt
        · exact Int.lt_trans hlt (h1 z hz), h⟩
    · split
      · exact h
      · refine List.pairwise_cons.mpr ⟨fun z hz => ?_, rise_ins h2⟩
        rcases mem_insC hz with e | hz
        · rw [e]; omega
        · exact h1 z hz
theorem rise_sortC : ∀ {xs : List (List Int)}, Rise (sortC xs)
  | [] => List.Pairwise.nil
  | x :: xs => rise_ins rise_sortC
theorem rise_eq : ∀ {xs ys : List (List Int)}, Rise xs → Rise ys → (∀ z, z ∈ xs ↔ z ∈ ys) → xs = ys
  | [], [], _, _, _ => rfl
  | [], y :: ys, _, _, h => by have := (h y).mpr List.mem_cons_self; cases this
  | x :: xs, [], _, _, h => by have := (h x).mp List.mem_cons_self; cases this
  | x :: xs, y :: ys, hx, hy, h => by
    obtain ⟨a1, a2⟩ := List.pairwise_cons.mp hx
    obtain ⟨b1, b2⟩ := List.pairwise_cons.mp hy
    have e : x = y := by
      rcases List.mem_cons.mp ((h x).mp List.mem_cons_self) with e | e
      · exact e
      · rcases List.mem_cons.mp ((h y).mpr List.mem_cons_self) with e' | e'
        · exact e'.symm
        · have q1 := b1 x e
          have q2 := a1 y e'
          omega
    subst e
    rw [rise_eq a2 b2 fun z => ⟨fun hz => ?_, fun hz => ?_⟩]
    · rcases List.mem_cons.mp ((h z).mp (List.mem_cons_of_mem _ hz)) with e | e
      · have := a1 z hz
        rw [e] at this; omega
      · exact e
    · rcases List.mem_cons.mp ((h z).mpr (List.mem_cons_of_mem _ hz)) with e | e
      · have := b1 z hz
        rw [e] at this; omega
      · exact e
/-- the ints of a tuple -/
def tupI : D → Option (List Int)
  | .tup ds => intsOf ds
  | _ => none
def tupsI : List D → Option (List (List Int))
  | [] => some []
  | d :: ds => (tupI d).bind fun k => (tupsI ds).map (k :: ·)
def evenB (ks : List (List Int)) : Bool := match ks with
  | [] => true
  | k :: _ => decide (1 ≤ k.length) && ks.all (fun x => decide (x.length = k.length) && x.all fun m => decide (0 ≤ m ∧ m < 64))
def tupOf (k : List Int) : D := .tup (k.map D.int)
def sortedSetO : D → Option Co
  | .lst ds => (tupsI ds).bind fun ks => if ks.length < 64 ∧ evenB ks = true then some (.lst ((sortC ks).map tupOf)) else none
  | _ => none
theorem even_of {ks : List (List Int)} (h : evenB ks = true) : ∃ d, 1 ≤ d ∧ ∀ k ∈ ks, k.length = d ∧ TS.Bd 64 k := by
  cases ks with
  | nil => exact ⟨1, by omega, fun k hk => by cases hk⟩
  | cons k ks =>
    simp only [evenB, Bool.and_eq_true, decide_eq_true_eq] at h
    refine ⟨k.length, h.1, fun x hx => ?_⟩
    have := List.all_eq_true.mp h.2 x hx
    simp only [Bool.and_eq_true, decide_eq_true_eq] at this
    exact ⟨this.1, fun m hm => of_decide_eq_true (List.all_eq_true.mp this.2 m hm)⟩
theorem tupsI_rep {K : PySem.W.Frag} {F : Hp} : ∀ {vs : List V} {ds : List D} {ks : List (List Int)}, RepL F vs ds → tupsI ds = some ks → ∃ L : List (Addr × List Int), vs = L.map (fun p => V.ref p.1) ∧ L.map (·.2) = ks ∧ ∀ p ∈ L, F p.1 = some (.tup (p.2.map V.int))
  | _, _, _, .nil, h => by cases h; exact ⟨[], rfl, rfl, fun p hp => by cases hp⟩
  | _, d :: ds, _, .cons r rr, h => by
    obtain ⟨k, h1, h2⟩ := Option.bind_eq_some_iff.mp h
    obtain ⟨ks, h3, rfl⟩ := Option.map_eq_some_iff.mp h2
    obtain ⟨L, rfl, rfl, h4⟩ := tupsI_rep (K := K) rr h3
    cases r <;> simp only [tupI, reduceCtorEq] at h1
    rename_i a vs ds' ha ra
    rw [intsOf_eq h1] at ra
    have := ra.ints
    subst this
    exact ⟨(a, k) :: L, rfl, rfl, fun p hp => by
      rcases List.mem_cons.mp hp with e | hp
      · rw [e]; exact ha
      · exact h4 p hp⟩
theorem repL_tups {F : Hp} : ∀ {L : List (Addr × List Int)}, (∀ p ∈ L, F p.1 = some (.tup (p.2.map V.int))) → RepL F (L.map fun p => V.ref p.1) ((L.map (·.2)).map tupOf)
  | [], _ => .nil
  | p :: L, h => .cons (.tup (h p List.mem_cons_self) (RepL.of_ints p.2)) (repL_tups fun q hq => h q (List.mem_cons_of_mem _ hq))
def sortedSetE (f : DE c D) : DE c Co := bindE f fun d => fun _ μ Q _ => ∃ co, sortedSetO d = some co ∧ Q co μ
def sortedSetX (a : XE D) : XE Co := bindX a fun d => okX (sortedSetO d)
theorem xsortedSet {a : XE D} : (sortedSetE (lf a) : DE c Co) = lf (sortedSetX a) := bind_lf fun _ => ok_lf fun _ _ _ _ => rfl
theorem pn_sortedSet {a : Expr} {fa : DE c D} {p p2 q pos : Pos} (ha : PD c a fa) (hm : c.mg "sorted" = none) (hm2 : c.mg "set" = none) (hg : Glb c "sorted" := by rfl) (hg2 : Glb c "set" := by rfl) (he : ∀ env, starEach [a] env = (false, eval a env) :: starEach [] env := by intro _; rfl)
    (he2 : ∀ env, starEach [.Call (.Name "set" p2) [a] [] q] env = (false, eval (.Call (.Name "set" p2) [a] [] q) env) :: starEach [] env := by intro _; rfl) :
    PN c (.Call (.Name "sorted" p) [.Call (.Name "set" p2) [a] [] q] [] pos) (sortedSetE fa) := by
  obtain ⟨t, t1, t2⟩ := ha
  refine ⟨tCB (rSortedT c.K c.P c.w) (tCons (tCB (rSetOfT c.K c.P c.w) (tCons t tNil)) tNil), fun X h => ?_, ?_⟩
  · refine pe_callB (by rw [← h.hK, ← h.hP, ← h.hw]; exact cr_sortedT h.cl) (h.gl hg) (h.mgn hm) (by decide +kernel) (pa_cons ?_ pa_nil (he2 _)) (by decide) (by decide) (he2 _) rfl
    exact pe_callTy (T := "set") (r := rSetOfT c.K c.P c.w) (by rw [← h.hK, ← h.hP, ← h.hw]; exact cr_setOfT h.cl h.hu) (h.gl hg2) (h.mgn hm2) (by decide +kernel) (pa_cons (t1 X h) pa_nil (he _)) (by decide) (by decide) (he _) rfl
  intro F H μ ρ σ Q E Qh m s _ hf kq ke
  refine t2 F H μ ρ σ _ E _ m s trivial hf (fun v d F1 H1 μ1 e1 m1 r1 q1 => ?_) ke
  obtain ⟨co, hc, q1⟩ := q1
  cases r1 <;> simp only [sortedSetO, reduceCtorEq] at hc
  rename_i l vs ds hl rl
  obtain ⟨ks, h1, hc⟩ := Option.bind_eq_some_iff.mp hc
  split at hc
  · rename_i hh
    cases hc
    obtain ⟨hlen, hev⟩ := hh
    obtain ⟨d, hd1, hd⟩ := even_of hev
    obtain ⟨L0, rfl, rfl, hL0⟩ := tupsI_rep (K := c.K) rl h1
    refine ⟨l, L0, rfl, SqL.of (m1.fh _ _ hl), fun p hp => SqT.of (m1.fh _ _ (hL0 p hp)), by simpa using hlen, fun a L hna hsub hall => ?_⟩
    have key : ∀ p ∈ L, F1 p.1 = some (.tup (p.2.map V.int)) := fun p hp => hL0 p (hsub p hp)
    have lenp : ∀ p ∈ L, p.2.length = d ∧ TS.Bd 64 p.2 := fun p hp => hd p.2 (List.mem_map.mpr ⟨p, hsub p hp, rfl⟩)
    have ea : Ev F1 H1 (c.ft μ1) F1 (upd H1 a (SetTO c.P c.w a L)) (c.ft μ1) := Ev.fresh hna
    have ma := m1.fresh (o := SetTO c.P c.w a L) hna
    refine ⟨a, L, d, 64, rfl, upd_same, fun p hp => SqT.of (ma.fh _ _ (key p hp)), hd1, lenp, fun L' p pm nd hl' pw hnp => ?_⟩
    have inL : ∀ q ∈ L', q ∈ L := fun q hq => pm.mem_iff.mp hq
    have rL : Rise (L'.map (·.2)) := by
      have ndp : L'.Pairwise (fun q r => q.2 ≠ r.2) := List.pairwise_map.mp nd
      refine List.pairwise_map.mpr ((pw.and ndp).imp_of_mem fun {q r} hq hr hh => ?_)
      obtain ⟨hle, hne⟩ := hh
      obtain ⟨l1, b1⟩ := lenp q (inL q hq)
      obtain ⟨l2, b2⟩ := lenp r (inL r hr)
      rcases Int.lt_or_eq_of_le hle with z | z
      · exact z
      · exact absurd (code_inj (l1.trans l2.symm) b1 b2 z) hne
    have eL : L'.map (·.2) = sortC (L0.map (·.2)) := by
      refine rise_eq rL rise_sortC fun z => ⟨fun hz => ?_, fun hz => ?_⟩
      · obtain ⟨q, hq, rfl⟩ := List.mem_map.mp hz
        have h0 : q.2 ∈ L0.map (·.2) := List.mem_map.mpr ⟨q, hsub q (inL q hq), rfl⟩
        obtain ⟨w, hw, ew⟩ := cov_sortC h0
        obtain ⟨l1, b1⟩ := hd w (mem_sortC hw)
        obtain ⟨l2, b2⟩ := hd q.2 h0
        rw [← code_inj (l1.trans l2.symm) b1 b2 ew]
        exact hw
      · have h0 := mem_sortC hz
        obtain ⟨q, hq, rfl⟩ := List.mem_map.mp h0
        obtain ⟨r, hr, er⟩ := List.mem_map.mp (hall q hq)
        exact List.mem_map.mpr ⟨r, pm.mem_iff.mpr hr, er⟩
    obtain ⟨f1, f2⟩ := fresh_O ma hnp
    have hp0 : H p = none := by
      cases z : H p with
      | none => rfl
      | some o =>
        obtain ⟨o', z'⟩ := (e1.trans ea).tr _ o z
        rw [hnp] at z'; cases z'
    refine kq _ (.lst ((sortC (L0.map (·.2))).map tupOf)) F1 _ μ1 ((e1.trans ea).trans (Ev.fresh hnp)) (ma.fresh hnp) ⟨p, rfl, hp0, f1, f2, _, upd_same, ?_⟩ q1
    rw [← eL]
    exact repL_tups fun q hq => key q (inL q hq)
  · cases hc

/-! part DLo -/
def keyI : Key → Option Int
  | .inl i => some i
  | .inr _ => none
def keysI : List (Key × V) → Option (List Int)
  | [] => some []
  | p :: ps => (keyI p.1).bind fun i => (keysI ps).map (i :: ·)
theorem keysI_eq : ∀ {kvs : List (Key × V)} {is : List Int}, keysI kvs = some is → kvs.map (·.1) = is.map Sum.inl
  | [], _, h => by cases h; rfl
  | p :: ps, _, h => by
    obtain ⟨i, h1, h2⟩ := Option.bind_eq_some_iff.mp h
    obtain ⟨is, h3, rfl⟩ := Option.map_eq_some_iff.mp h2
    rw [List.map_cons, List.map_cons, keysI_eq h3]
    cases hp : p.1 with
    | inl j => rw [hp] at h1; cases h1; rfl
    | inr x => rw [hp] at h1; cases h1
def minKD : D → Option D
  | .dK kvs => (keysI kvs).bind fun is => (minL is).map D.int
  | _ => none
end DL
namespace L2
open PySem PySem.Spec PyProof.Rows
section
variable {X : Cx}
def rMinKA : List V → Hp → VK → Prop := fun vs H Q => ∃ (a : Addr) (kvs : List (Key × V)) (is : List Int), vs = [V.ref a] ∧ Rd H a (.dK kvs) ∧ kvs.map (·.1) = is.map Sum.inl ∧ is ≠ [] ∧ ∀ m, m ∈ is → (∀ j ∈ is, m ≤ j) → Q (.int m) H
theorem cr_minKA (hc : X.calm = true) : CallR X (.builtin "min") rMinKA := by
  intro pins s σ H vs us Q I r h
  obtain ⟨a, kvs, is, rfl, ha, hv, hne, q⟩ := h
  rw [Vals.ref1 r]
  obtain ⟨_, hsys, vs, rel, dof⟩ := dk_rd I.hok ha
  obtain ⟨ep, dat⟩ := dof.dictAt
  obtain ⟨ob, es, ho, hex, hdat, hko, hpr, hnd⟩ := id dat
  have hlt : a < s.heap.objs.size := Heap.lt_size ho
  have hkeys : vs.map (·.1) = is.map Sum.inl := (KV.keys rel).symm.trans hv
  have hlv : vs.length = is.length := by simpa using congrArg List.length hkeys
  have hlen : 0 < vs.length := by rw [hlv]; exact List.length_pos_iff.mpr hne
  have hval : ∀ (i : Nat) (v : Value), (∃ k x, vs[i]? = some (k, x) ∧ (mixKind X.prog X.w).is k v = true) → ∃ t, v = Value.int (is.getD i 0) t := fun i v ⟨k, x, hk, hkey⟩ => by
    have e1 : (vs.map (·.1))[i]? = some k := by rw [List.getElem?_map, hk]; rfl
    rw [hkeys, List.getElem?_map] at e1
    obtain ⟨j, hj, rfl⟩ := Option.map_eq_some_iff.mp e1
    obtain ⟨t, e3⟩ := Value.isInt_shape (k := j) (v := v) hkey
    exact ⟨t, by rw [e3, List.getD_eq_getElem?_getD, hj]; rfl⟩
  refine call_min_walk (wpAny_pyIter_dict (knd := mixKind X.prog X.w) hsys dat ?_)
  refine ⟨_, _, _, _, _, _, _, rfl, Walks.dictKeys (knd := mixKind X.prog X.w) (A := X.A.in1) (I.ok.hd hc) s.heap.objs.size a (Nat.ne_of_lt hlt) vs ep, ⟨⟨_, Heap.get?_push_size _ rfl, rfl, rfl⟩, dat.keep fun b u e => Heap.get?_push_of_some _ e⟩,
    fun b hb => ?_, hlen, CmpOf.ints_lt (fun i => is.getD i 0) hval, fun v h' tk hP hk => ?_⟩
  · show b < (s.heap.push _).objs.size
    rw [Heap.size_push]
    rcases List.mem_cons.mp hb with e | hb
    · rw [e]; exact Nat.lt_succ_self _
    · rw [List.mem_singleton.mp hb]; exact Nat.lt_succ_of_lt hlt
  · obtain ⟨t, rfl⟩ := hval _ v hP
    obtain ⟨b1, b2⟩ := argBest_lt (fun i => is.getD i 0) (vs.length - 1)
    have hb : argBest (fun i j => decide (is.getD i 0 < is.getD j 0)) (vs.length - 1) < is.length := by omega
    refine ⟨.int _, H, I.kept (t' := tk) fun b u e => hk b u (fun hmem => ?_) (Heap.get?_push_of_some _ e), ⟨t, rfl⟩, q _ ?_ fun j hj => ?_⟩
    · have e1 := List.mem_singleton.mp hmem
      have e2 := Heap.lt_size e
      rw [e1] at e2
      exact Nat.lt_irrefl _ e2
    · rw [List.getD_eq_getElem?_getD, List.getElem?_eq_getElem hb]
      exact List.getElem_mem hb
    · obtain ⟨i, hi, e⟩ := List.mem_iff_getElem.mp hj
      have e2 : is.getD i 0 = j := by rw [List.getD_eq_getElem?_getD, List.getElem?_eq_getElem hi, ← e]; rfl
      rw [← e2]
      exact b2 i (by omega)
end
end L2
namespace DL
open PySem PySem.Spec L2 DM
variable {c : Ctx}
theorem r1_minK : R1C c rMinKA minKD := by
  intro F H μ x a d Qh m ra e k
  cases ra <;> simp only [minKD, reduceCtorEq] at e
  rename_i h1
  obtain ⟨is, h2, e⟩ := Option.bind_eq_some_iff.mp e
  obtain ⟨z, h3, rfl⟩ := Option.map_eq_some_iff.mp e
  obtain ⟨s1, s2⟩ := minL_spec h3
  refine ⟨_, _, is, rfl, .inr ⟨_, m.fh _ _ h1⟩, keysI_eq h2, List.ne_nil_of_mem s1, fun w hw hle => ?_⟩
  have : w = z := Int.le_antisymm (hle z s1) (s2 w hw)
  subst this
  exact keep m (.int _) k
theorem pd_minK {a : Expr} {fa : DE c D} {p pos : Pos} (ha : PD c a fa) (hm : c.mg "min" = none) (hg : Glb c "min" := by rfl) (he : ∀ env, starEach [a] env = (false, eval a env) :: starEach [] env := by intro _; rfl) : PD c (.Call (.Name "min" p) [a] [] pos) (op1 minKD fa) :=
  pd_callB (r := rMinKA) (fun X h => cr_minKA h.cl) r1_minK hg hm (by decide +kernel) ha (by decide) (by decide) he
end DL

set_option Elab.async false
set_option linter.all false
set_option maxRecDepth 100000
set_option maxHeartbeats 4000000
/-! part DLz -/
namespace ZN
open PySem PyProof.Rows
open PySem.Sem (wp)
section
variable {prog : Program} {w : World} {A : Around} {E : Value → Shared → Prop} {s : Shared}

theorem dif {c d : Nat} (h : c < d ∨ d < c) : c ≠ d := by omega
theorem forIn_steps {M : Model} {α β : Type} {f : α → β → Sem (ForInStep β)} {Q : β → Shared → Prop} (Iv : Nat → β → Shared → Prop) : ∀ (xs : List α) (j : Nat) (b : β) (s : Shared), Iv j b s →
    (∀ i a b s, xs[i]? = some a → Iv (j + i) b s → wpAny M A (f a b) (fun r s' => ∃ b', r = .yield b' ∧ Iv (j + i + 1) b' s') E s) → (∀ b s, Iv (j + xs.length) b s → Q b s) → wpAny M A (forIn xs b f) Q E s
  | [], j, b, s, h, _, hq => by
    rw [List.forIn_nil]
    exact wpAny_pure (hq b s h)
  | a :: xs, j, b, s, h, hs, hq => by
    rw [List.forIn_cons]
    refine wpAny_bind (wpAny_mono (hs 0 a b s rfl h) (fun r s' hr => ?_) fun _ _ e => e)
    obtain ⟨b', rfl, h'⟩ := hr
    refine forIn_steps Iv xs (j + 1) b' s' h' (fun i a b s hi h => ?_) fun b s h => ?_
    · have := hs (i + 1) a b s (by simpa using hi) (by rw [show j + (i + 1) = j + 1 + i by omega]; exact h)
      rw [show j + 1 + i + 1 = j + (i + 1) + 1 by omega]
      exact this
    · refine hq b s ?_
      rw [List.length_cons, show j + (xs.length + 1) = j + 1 + xs.length by omega]
      exact h

/-! part DLz -/
structure ZI (h : Heap) (b : Nat) (ls : List Nat) (xss : List (List Value)) (k j : Nat) : Prop where
  ti : ∃ c, h.get? (b + ls.length) = some { cls := .type "tuple", data := .seq ((List.range ls.length).map fun i => Value.ref (b + i)).toArray c }
  it : ∀ (i : Nat) (l : Nat), ls[i]? = some l → h.IsTupleIter (b + i) l (if i < j then k + 1 else k)
  tp : ∀ (i : Nat) (l : Nat) (xs : List Value), ls[i]? = some l → xss[i]? = some xs → h.IsTuple l xs.toArray
  lo : ∀ l ∈ ls, l < b
theorem ZI.but {h h' : Heap} {b : Nat} {ls : List Nat} {xss : List (List Value)} {k j : Nat} (z : ZI h b ls xss k j) (hk : ∀ (c : Nat) (o : Obj), c ≤ b + ls.length → h.get? c = some o → h'.get? c = some o) : ZI h' b ls xss k j where
  ti := by
    obtain ⟨c, e⟩ := z.ti
    exact ⟨c, hk _ _ (Nat.le_refl _) e⟩
  it := fun i l hl => (z.it i l hl).at fun o e => hk _ o (by have := (List.getElem?_eq_some_iff.mp hl).1; omega) e
  tp := fun i l xs hl hx => (z.tp i l xs hl hx).at fun o e => hk _ o (by have := z.lo l (List.mem_of_getElem? hl); omega) e
  lo := z.lo
theorem ZI.next {b : Nat} {ls : List Nat} {xss : List (List Value)} {k j : Nat} {l : Nat} {xs : List Value} {x : Value} {Q : Value → Shared → Prop} (z : ZI s.heap b ls xss k j) (hl : ls[j]? = some l) (hxs : xss[j]? = some xs) (hx : xs[k]? = some x)
    (hQ : ∀ h', ZI h' b ls xss k (j + 1) → Heap.SameBut (b + j) s.heap h' → Q x { s with heap := h' }) : wpAny (model prog w) A (Builtin.SmallTypes.nextOf (.ref (b + j))) Q E s := by
  have hit := z.it j l hl
  rw [if_neg (Nat.lt_irrefl j)] at hit
  refine RZ.nextOf_tuple_item hit (z.tp j l xs hl hxs) (by simpa using hx) fun h' it' hs => hQ h' ⟨?_, fun i l' hl' => ?_, fun i l' xs' hl' hx' => ?_, z.lo⟩ hs
  · obtain ⟨c, e⟩ := z.ti
    refine ⟨c, (hs.2 _ ?_).trans e⟩
    have := (List.getElem?_eq_some_iff.mp hl).1
    show b + ls.length ≠ b + j
    omega
  · by_cases e : i = j
    · subst e
      rw [hl] at hl'; cases hl'
      rw [if_pos (Nat.lt_succ_self _)]
      exact it'
    · have hi := (z.it i l' hl').at (h' := h') fun o q => (hs.2 _ (show b + i ≠ b + j by omega)).trans q
      by_cases lt : i < j
      · rw [if_pos lt] at hi; rw [if_pos (Nat.lt_succ_of_lt lt)]; exact hi
      · rw [if_neg lt] at hi; rw [if_neg (by omega)]; exact hi
  · have := z.lo l' (List.mem_of_getElem? hl')
    exact (z.tp i l' xs' hl' hx').at fun o q => (hs.2 _ (show l' ≠ b + j from Nat.ne_of_lt (by omega))).trans q
theorem ZI.endOf {b : Nat} {ls : List Nat} {xss : List (List Value)} {k : Nat} {l : Nat} {xs : List Value} {Q : Value → Shared → Prop} (hh : A.handled = none) (z : ZI s.heap b ls xss k 0) (hl : ls[0]? = some l) (hxs : xss[0]? = some xs) (hx : xs[k]? = none)
    (hE : ∀ h' e, Heap.ExtBut b s.heap h' → (∃ o, h'.get? e = some o ∧ o.cls = .type "StopIteration") → E (.ref e) { s with heap := h' }) : wpAny (model prog w) A (Builtin.SmallTypes.nextOf (.ref b)) Q E s := by
  have hit := z.it 0 l hl
  rw [if_neg (Nat.lt_irrefl 0)] at hit
  exact RZ.nextOf_tuple_end hh hit (z.tp 0 l xs hl hxs) (by simpa using hx) hE
theorem ZI.turn {h : Heap} {b : Nat} {ls : List Nat} {xss : List (List Value)} {k : Nat} (z : ZI h b ls xss k ls.length) : ZI h b ls xss (k + 1) 0 where
  ti := z.ti
  it := fun i l hl => by
    have := z.it i l hl
    rw [if_pos (List.getElem?_eq_some_iff.mp hl).1] at this
    rw [if_neg (Nat.not_lt_zero _)]
    exact this
  tp := z.tp
  lo := z.lo
abbrev ZRec (h : Heap) (z : Addr) (f g : Value) (TI TO : Addr) : Prop := h.get? z = some { cls := .type "zip", data := .fields #[f, g, .bool false, .ref TI, .ref TO] }
/-- the tuple that is handed out: its first j items are this turn's -/
def TOk (h : Heap) (T n : Nat) (xss : List (List Value)) (k j : Nat) : Prop := ∃ (os : Array Value) (c : Nat), h.get? T = some { cls := .type "tuple", data := .seq os c } ∧ os.size = n ∧ ∀ (i : Nat) (xs : List Value) (x : Value), i < j → xss[i]? = some xs → xs[k]? = some x → os[i]? = some x
def Free (f : Value) : Prop := f = .none ∨ ∃ a : Nat, f = rawInt a
structure ZS (h : Heap) (b : Nat) (ls : List Nat) (xss : List (List Value)) (k : Nat) : Prop where
  rc : ∃ f g, ZRec h (b + ls.length + 2) f (.bool g) (b + ls.length) (b + ls.length + 1) ∧ Free f
  to : TOk h (b + ls.length + 1) ls.length xss k 0
  zi : ZI h b ls xss k 0
/-- the row of the k-th items -/
def rowAt (xss : List (List Value)) (k : Nat) : List Value := xss.filterMap fun xs => xs[k]?
theorem rowAt_get : ∀ {xss : List (List Value)} {k m i : Nat} {xs : List Value}, (∀ xs ∈ xss, xs.length = m) → k < m → xss[i]? = some xs → (rowAt xss k)[i]? = xs[k]?
  | [], _, _, _, _, _, _, h => by simp at h
  | x :: xss, k, m, 0, xs, hm, hk, h => by
    simp at h; subst h
    have hl := hm x List.mem_cons_self
    have : x[k]? = some (x[k]'(by omega)) := List.getElem?_eq_getElem (by omega)
    simp [rowAt, List.filterMap_cons, this]
  | x :: xss, k, m, i + 1, xs, hm, hk, h => by
    have hl := hm x List.mem_cons_self
    have e : x[k]? = some (x[k]'(by omega)) := List.getElem?_eq_getElem (by omega)
    have h' : xss[i]? = some xs := by simpa using h
    have ih := rowAt_get (xss := xss) (fun y hy => hm y (List.mem_cons_of_mem _ hy)) hk h'
    unfold rowAt at ih ⊢
    rw [List.filterMap_cons, e]
    simpa using ih
theorem rowAt_len {xss : List (List Value)} {k m : Nat} (hm : ∀ xs ∈ xss, xs.length = m) (hk : k < m) : (rowAt xss k).length = xss.length := by
  induction xss with
  | nil => rfl
  | cons x xss ih =>
    have hl := hm x List.mem_cons_self
    have e : x[k]? = some (x[k]'(by omega)) := List.getElem?_eq_getElem (by omega)
    have ih := ih fun y hy => hm y (List.mem_cons_of_mem _ hy)
    unfold rowAt at ih ⊢
    rw [List.filterMap_cons, e]
    simp [ih]

theorem sq_upd {T : Addr} {os : Array Value} {c k : Nat} {x : Value} {Q : Unit → Shared → Prop} (hT : s.heap.get? T = some { cls := .type "tuple", data := .seq os c }) (hz : os.size ≤ 100)
    (h : ∀ h', (∃ c', h'.get? T = some { cls := .type "tuple", data := .seq (os.setIfInBounds k x) c' }) → Heap.SameBut T s.heap h' → Q () { s with heap := h' }) : wpAny (model prog w) A (updateSeq T (·.setIfInBounds k x)) Q E s := by
  have e : (os.setIfInBounds k x).size = os.size := by simp
  refine wpAny_updateSeq hT rfl (h _ ?_ (Heap.SameBut.update ..)) (by rw [sizeLine_eq]; omega) (by show (os.setIfInBounds k x).size ≤ sizeLine + 1; rw [e, sizeLine_eq]; omega)
  rw [Heap.get?_update_self _ hT rfl]
  exact ⟨_, rfl⟩
/-- what a turn leaves -/
structure ZOut (h h' : Heap) (b n : Nat) (T : Addr) (row : List Value) : Prop where
  new : ∃ c, h'.get? T = some { cls := .type "tuple", data := .seq row.toArray c }
  kept : ∀ (c : Nat) (o : Obj), (c < b ∨ b + n + 2 < c) → h.get? c = some o → h'.get? c = some o
  fresh : T = h.objs.size
  size : h'.objs.size = h.objs.size + 1
theorem ro_lt {h : Heap} {b : Nat} {ls : List Nat} {f g : Value} {TI TO : Addr} (z : ZRec h (b + ls.length + 2) f g TI TO) : b + ls.length + 2 < h.objs.size := Heap.lt_size z
theorem is_free {z TI TO : Nat} {f : Value} {g : Bool} (hz : ZRec s.heap z f (.bool g) TI TO) (hf : Free f) :
    wpAny (model prog w) A (Builtin.SmallTypes.ownedTupleIsFree (.ref z)) (fun r s' => (r = true ∧ s' = s) ∨ (r = false ∧ ∃ h', s' = { s with heap := h' } ∧ ZRec h' z f (.bool true) TI TO ∧ Heap.SameBut z s.heap h')) E s := by
  unfold Builtin.SmallTypes.ownedTupleIsFree
  refine wpAny_bind (wpAny_field hz rfl (x := f) rfl ?_)
  rcases hf with rfl | ⟨a, rfl⟩
  · exact wpAny_pure (.inl ⟨rfl, rfl⟩)
  · show wpAny _ _ (loadIfAlive ((a : Int).toNat) >>= _) _ _ _
    have alive : ∀ {o : Option Obj} {Q : Option Obj → Shared → Prop}, s.heap.get? a = o → Q o s → wpAny (model prog w) A (loadIfAlive a) Q E s := fun e q => by
      subst e
      exact fun _ _ _ => q
    rw [Int.toNat_natCast]
    cases ha : s.heap.get? a with
    | none => exact wpAny_bind (alive ha (wpAny_pure (.inl ⟨rfl, rfl⟩)))
    | some o =>
      refine wpAny_bind (alive ha ?_)
      simp only [Option.isNone_some, Bool.false_eq_true, if_false]
      refine wpAny_bind (wpAny_field hz rfl (x := .bool g) rfl ?_)
      cases g with
      | true => exact wpAny_pure (.inr ⟨rfl, s.heap, rfl, hz, Heap.SameBut.refl _ _⟩)
      | false =>
        show wpAny _ _ (setField (.ref z) 1 (.bool true) >>= _) _ _ _
        refine wpAny_bind (wpAny_setField_rec hz (by simp) fun h₁ hz₁ hs₁ => wpAny_pure (.inr ⟨rfl, h₁, rfl, hz₁, hs₁⟩))
theorem zip_item {b : Nat} {ls : List Nat} {xss : List (List Value)} {k m : Nat} {Q : Value → Shared → Prop} (hn : ls.length = xss.length) (h0 : 0 < ls.length) (h6 : ls.length ≤ 100) (hm : ∀ xs ∈ xss, xs.length = m) (hk : k < m) (z : ZS s.heap b ls xss k)
    (hQ : ∀ h' T, ZS h' b ls xss (k + 1) → ZOut s.heap h' b ls.length T (rowAt xss k) → Q (.ref T) { s with heap := h' }) :
    wpAny (model prog w) A (Builtin.«zip.__next__» ⟨[.ref (b + ls.length + 2)], []⟩) (fun fin s' => ∃ v, fin = .done (.ret v) ∧ Q v s') E s := by
  obtain ⟨⟨f, g, hz, hf⟩, ⟨os, co, hTO, hos, _⟩, zi⟩ := z
  obtain ⟨ct, hTI⟩ := zi.ti
  show wpAny _ _ (field (.ref (b + ls.length + 2)) 2 >>= _) _ _ _
  refine wpAny_bind (wpAny_field hz rfl (x := .bool false) rfl ?_)
  show wpAny _ _ (field (.ref (b + ls.length + 2)) 3 >>= _) _ _ _
  refine wpAny_bind (wpAny_field hz rfl (x := .ref (b + ls.length)) rfl ?_)
  refine wpAny_bind (wpAny_seqItems hTI rfl ?_)
  have hne : ((List.range ls.length).map fun i => Value.ref (b + i)).toArray.isEmpty = false := by
    simp only [Array.isEmpty, List.size_toArray, List.length_map, List.length_range]
    exact decide_eq_false (Nat.ne_of_gt h0)
  dsimp only
  rw [hne]
  simp only [Bool.false_eq_true, if_false]
  have fr : wpAny (model prog w) A (Builtin.SmallTypes.ownedTupleIsFree (.ref (b + ls.length + 2))) (fun r s' => (r = true ∧ s' = s) ∨ (r = false ∧ ∃ h', s' = { s with heap := h' } ∧ ZRec h' (b + ls.length + 2) f (.bool true) (b + ls.length) (b + ls.length + 1) ∧ Heap.SameBut (b + ls.length + 2) s.heap h')) E s := is_free hz hf
  refine wpAny_bind (wpAny_mono fr (fun r s' hr => ?_) fun _ _ e => e)
  rcases hr with ⟨e1, e2⟩ | ⟨e1, h', e2, hz', hs⟩
  · rw [e1, e2]
    clear e1 e2 fr
    simp only [if_true]
    refine wpAny_bind (wpAny_rule ?_)
    refine wpAny_bind (wpAny_field hz rfl (x := .ref (b + ls.length + 1)) rfl ?_)
    refine wpAny_bind (wpAny_setField_rec hz (by simp) fun h₁ hz₁ hs₁ => ?_)
    replace hz₁ : ZRec h₁ (b + ls.length + 2) .ellipsis (.bool g) (b + ls.length) (b + ls.length + 1) := hz₁
    refine wpAny_bind (forIn_steps (Iv := fun j b' s' => b' = (none, ()) ∧ ∃ h', s' = { s with heap := h' } ∧ ZI h' b ls xss k j ∧ TOk h' (b + ls.length + 1) ls.length xss k j ∧ ZRec h' (b + ls.length + 2) .ellipsis (.bool g) (b + ls.length) (b + ls.length + 1) ∧
      h'.objs.size = s.heap.objs.size ∧ ∀ (c : Nat) (o : Obj), (c < b ∨ b + ls.length + 2 < c) → s.heap.get? c = some o → h'.get? c = some o) _ 0 _ _ ⟨rfl, h₁, rfl, zi.but fun c o hc e => ?_, ?_, hz₁, hs₁.1, fun c o hc e => ?_⟩ (fun i a b' s' ha hI => ?_) fun b' s' hI => ?_)
    · exact (hs₁.2 c (dif (by omega))).trans e
    · exact ⟨os, co, (hs₁.2 _ (dif (by omega))).trans hTO, hos, fun i xs x hi => absurd hi (Nat.not_lt_zero _)⟩
    · exact (hs₁.2 c (dif (by omega))).trans e
    · obtain ⟨rfl, h2, rfl, zi2, ⟨os2, c2, hT2, ho2, ht2⟩, hz2, sz2, kp2⟩ := hI
      rw [List.getElem?_zipIdx, List.getElem?_map] at ha
      obtain ⟨a', ha1, ha2⟩ := Option.map_eq_some_iff.mp ha
      obtain ⟨i', ha3, ha4⟩ := Option.map_eq_some_iff.mp ha1
      have hi : i < ls.length := by
        have := (List.getElem?_eq_some_iff.mp ha3).1
        simpa using this
      have ei : i' = i := by
        rw [List.getElem?_range hi] at ha3
        exact (Option.some.inj ha3).symm
      subst ei ha4 ha2
      rw [Nat.zero_add] at zi2 ht2
      obtain ⟨l, hl⟩ : ∃ l, ls[i']? = some l := ⟨ls[i'], List.getElem?_eq_getElem hi⟩
      obtain ⟨xs, hxs⟩ : ∃ xs, xss[i']? = some xs := ⟨xss[i']'(by omega), List.getElem?_eq_getElem (by omega)⟩
      have lxs := hm xs (List.mem_of_getElem? hxs)
      obtain ⟨x, hx⟩ : ∃ x, xs[k]? = some x := ⟨xs[k]'(by omega), List.getElem?_eq_getElem (by omega)⟩
      refine wpAny_bind (wpAny_onRaise ?_)
      show wpAny _ _ (Builtin.SmallTypes.nextOf (.ref (b + i')) >>= _) _ _ _
      refine wpAny_bind (ZI.next zi2 hl hxs hx fun h3 zi3 hs3 => wpAny_pure ?_)
      have hT3 : h3.get? (b + ls.length + 1) = some { cls := .type "tuple", data := .seq os2 c2 } := (hs3.2 _ (dif (by omega))).trans hT2
      have hz3 : ZRec h3 (b + ls.length + 2) .ellipsis (.bool g) (b + ls.length) (b + ls.length + 1) := (hs3.2 _ (dif (by omega))).trans hz2
      refine wpAny_bind (wpAny_seqItems hT3 rfl ?_)
      simp only [Nat.zero_add]
      refine wpAny_bind (sq_upd hT3 (by omega) fun h4 hT4 hs4 => ?_)
      obtain ⟨c4, hT4⟩ := hT4
      refine wpAny_bind (wpAny_letGo (wpAny_pure ⟨_, rfl, rfl, h4, rfl, zi3.but fun c o hc e => ?_, ⟨_, c4, hT4, by simpa using ho2, fun j ys y hj hys hy => ?_⟩, ?_, ?_, fun c o hc e => ?_⟩))
      · exact (hs4.2 c (dif (by omega))).trans e
      · rw [Array.getElem?_setIfInBounds]
        by_cases e : i' = j
        · subst e
          rw [if_pos rfl, if_pos (by omega)]
          rw [hxs] at hys
          cases hys
          rw [hx] at hy
          exact hy
        · rw [if_neg e]
          exact ht2 j ys y (Nat.lt_of_le_of_ne (Nat.le_of_lt_succ hj) fun z => e z.symm) hys hy
      · exact (hs4.2 _ (dif (by omega))).trans hz3
      · rw [hs4.1, hs3.1, sz2]
      · refine (hs4.2 c (dif (by omega))).trans ((hs3.2 c (dif (by omega))).trans (kp2 c o hc e))
    · obtain ⟨rfl, h2, rfl, zi2, ⟨os2, c2, hT2, ho2, ht2⟩, hz2, sz2, kp2⟩ := hI
      have ej : 0 + ((List.range ls.length).map fun i => Value.ref (b + i)).zipIdx.length = ls.length := by simp
      rw [ej] at zi2 ht2
      have eos : os2 = (rowAt xss k).toArray := by
        apply Array.ext_getElem?
        intro i
        have e1 : (rowAt xss k).toArray[i]? = (rowAt xss k)[i]? := by simp
        rw [e1]
        by_cases hi : i < ls.length
        · obtain ⟨xs, hxs⟩ : ∃ xs, xss[i]? = some xs := ⟨xss[i]'(by omega), List.getElem?_eq_getElem (by omega)⟩
          have lxs := hm xs (List.mem_of_getElem? hxs)
          have hx : xs[k]? = some (xs[k]'(by omega)) := List.getElem?_eq_getElem (by omega)
          rw [rowAt_get hm hk hxs, ht2 i xs _ hi hxs hx, hx]
        · rw [Array.getElem?_eq_none (by omega), List.getElem?_eq_none (by rw [rowAt_len hm hk]; omega)]
      show wpAny _ _ (seqItems? (.ref (b + ls.length + 1)) >>= _) _ _ _
      refine wpAny_bind (wpAny_seqItems hT2 rfl ?_)
      refine wpAny_bind (wpAny_newTuple ?_ (by rw [Array.length_toList, sizeLine_eq]; omega))
      have hl2 : b + ls.length + 2 < h2.objs.size := Heap.lt_size hz2
      have hz3 : ZRec (h2.push { cls := .type "tuple", data := .seq os2.toList.toArray }) (b + ls.length + 2) .ellipsis (.bool g) (b + ls.length) (b + ls.length + 1) := Heap.get?_push_of_some _ hz2
      show wpAny _ _ (Builtin.SmallTypes.ownedTupleHandOut (.ref (b + ls.length + 2)) (.ref h2.objs.size) >>= _) _ _ _
      refine wpAny_bind ?_
      unfold Builtin.SmallTypes.ownedTupleHandOut
      refine wpAny_bind (wpAny_setField_rec hz3 (by simp) fun h₇ hz₇ hs₇ => ?_)
      replace hz₇ : ZRec h₇ (b + ls.length + 2) (rawInt h2.objs.size) (.bool g) (b + ls.length) (b + ls.length + 1) := hz₇
      refine wpAny_setField_rec hz₇ (by simp) fun h₈ hz₈ hs₈ => ?_
      replace hz₈ : ZRec h₈ (b + ls.length + 2) (rawInt h2.objs.size) (.bool false) (b + ls.length) (b + ls.length + 1) := hz₈
      have up : ∀ (c : Nat) (o : Obj), c ≠ b + ls.length + 2 → h2.get? c = some o → h₈.get? c = some o := fun c o c1 e => hs₈.extBut _ _ c1 (hs₇.extBut _ _ c1 (Heap.get?_push_of_some _ e))
      refine wpAny_pure ⟨_, rfl, hQ h₈ _ ⟨⟨_, _, hz₈, .inr ⟨_, rfl⟩⟩, ⟨os2, c2, up _ _ (by omega) hT2, ho2, fun i xs x hi => absurd hi (Nat.not_lt_zero _)⟩, zi2.turn.but fun c o hc e => up c o (by omega) e⟩ ⟨⟨0, ?_⟩, fun c o hc e => up c o (by omega) (kp2 c o hc e), sz2, ?_⟩⟩
      · have nz : (h2.objs.size : Nat) ≠ b + ls.length + 2 := by omega
        refine hs₈.extBut _ _ nz (hs₇.extBut _ _ nz ?_)
        rw [← eos]
        have := Heap.get?_push_size h2 (o := { cls := .type "tuple", data := .seq os2.toList.toArray }) rfl
        simpa using this
      · rw [hs₈.1, hs₇.1, Heap.size_push, sz2]
  · rw [e1, e2]
    clear e1 e2 fr
    simp only [Bool.false_eq_true, if_false, List.forIn_toArray]
    have hsz : h'.objs.size = s.heap.objs.size := hs.1
    refine wpAny_bind (forIn_steps (Iv := fun j b' s' => ∃ items : Array Value, b' = (none, items) ∧ items.size = j ∧ (∀ (i : Nat) (xs : List Value) (x : Value), i < j → xss[i]? = some xs → xs[k]? = some x → items[i]? = some x) ∧ ∃ h2, s' = { s with heap := h2 } ∧ ZI h2 b ls xss k j ∧ ZRec h2 (b + ls.length + 2) f (.bool true) (b + ls.length) (b + ls.length + 1) ∧
      h2.get? (b + ls.length + 1) = some { cls := .type "tuple", data := .seq os co } ∧ h2.objs.size = s.heap.objs.size ∧ ∀ (c : Nat) (o : Obj), (c < b ∨ b + ls.length + 2 < c) → s.heap.get? c = some o → h2.get? c = some o) _ 0 _ _ ⟨#[], rfl, rfl, fun i xs x hi => absurd hi (Nat.not_lt_zero _), h', rfl, zi.but fun c o hc e => ?_, hz', ?_, hsz, fun c o hc e => ?_⟩ (fun i a b' s' ha hI => ?_) fun b' s' hI => ?_)
    · exact (hs.2 c (dif (by omega))).trans e
    · exact (hs.2 _ (dif (by omega))).trans hTO
    · exact (hs.2 c (dif (by omega))).trans e
    · obtain ⟨items, rfl, hit, htt, h2, rfl, zi2, hz2, hT2, sz2, kp2⟩ := hI
      rw [List.getElem?_map] at ha
      obtain ⟨i', ha3, rfl⟩ := Option.map_eq_some_iff.mp ha
      have hi : i < ls.length := by
        have := (List.getElem?_eq_some_iff.mp ha3).1
        simpa using this
      have ei : i' = i := by
        rw [List.getElem?_range hi] at ha3
        exact (Option.some.inj ha3).symm
      subst ei
      rw [Nat.zero_add] at zi2 htt hit
      obtain ⟨l, hl⟩ : ∃ l, ls[i']? = some l := ⟨ls[i'], List.getElem?_eq_getElem hi⟩
      obtain ⟨xs, hxs⟩ : ∃ xs, xss[i']? = some xs := ⟨xss[i']'(by omega), List.getElem?_eq_getElem (by omega)⟩
      have lxs := hm xs (List.mem_of_getElem? hxs)
      obtain ⟨x, hx⟩ : ∃ x, xs[k]? = some x := ⟨xs[k]'(by omega), List.getElem?_eq_getElem (by omega)⟩
      refine wpAny_bind (wpAny_holding ?_)
      show wpAny _ _ (Builtin.SmallTypes.nextOf (.ref (b + i')) >>= _) _ _ _
      refine wpAny_bind (ZI.next zi2 hl hxs hx fun h3 zi3 hs3 => wpAny_pure (wpAny_pure ⟨_, rfl, items.push x, rfl, ?_, fun j ys y hj hys hy => ?_, h3, rfl, ?_, (hs3.2 _ (dif (by omega))).trans hz2, (hs3.2 _ (dif (by omega))).trans hT2, by rw [hs3.1, sz2], fun c o hc e => (hs3.2 c (dif (by omega))).trans (kp2 c o hc e)⟩))
      · rw [Array.size_push, hit, Nat.zero_add]
      · rw [Array.getElem?_push]
        by_cases e : j = items.size
        · rw [if_pos e]
          have e2 : j = i' := by omega
          subst e2
          rw [hxs] at hys
          cases hys
          rw [hx] at hy
          exact hy
        · rw [if_neg e]
          exact htt j ys y (by omega) hys hy
      · rw [Nat.zero_add]; exact zi3
    · obtain ⟨items, rfl, hit, htt, h2, rfl, zi2, hz2, hT2, sz2, kp2⟩ := hI
      have ej : 0 + ((List.range ls.length).map fun i => Value.ref (b + i)).length = ls.length := by simp
      rw [ej] at zi2 htt hit
      have eos : items = (rowAt xss k).toArray := by
        apply Array.ext_getElem?
        intro i
        have e1 : (rowAt xss k).toArray[i]? = (rowAt xss k)[i]? := by simp
        rw [e1]
        by_cases hi : i < ls.length
        · obtain ⟨xs, hxs⟩ : ∃ xs, xss[i]? = some xs := ⟨xss[i]'(by omega), List.getElem?_eq_getElem (by omega)⟩
          have lxs := hm xs (List.mem_of_getElem? hxs)
          have hx : xs[k]? = some (xs[k]'(by omega)) := List.getElem?_eq_getElem (by omega)
          rw [rowAt_get hm hk hxs, htt i xs _ hi hxs hx, hx]
        · rw [Array.getElem?_eq_none (by omega), List.getElem?_eq_none (by rw [rowAt_len hm hk]; omega)]
      show wpAny _ _ (newTuple items.toList >>= _) _ _ _
      refine wpAny_bind (wpAny_newTuple ?_ (by rw [Array.length_toList, sizeLine_eq]; omega))
      have hl2 : b + ls.length + 2 < h2.objs.size := Heap.lt_size hz2
      have up : ∀ (c : Nat) (o : Obj), h2.get? c = some o → (h2.push { cls := .type "tuple", data := .seq items.toList.toArray }).get? c = some o := fun c o e => Heap.get?_push_of_some _ e
      refine wpAny_pure ⟨_, rfl, hQ _ _ ⟨⟨_, _, up _ _ hz2, hf⟩, ⟨os, co, up _ _ hT2, hos, fun i xs x hi => absurd hi (Nat.not_lt_zero _)⟩, zi2.turn.but fun c o hc e => up c o e⟩ ⟨⟨0, ?_⟩, fun c o hc e => up c o (kp2 c o hc e), sz2, ?_⟩⟩
      · rw [← eos]
        have := Heap.get?_push_size h2 (o := { cls := .type "tuple", data := .seq items.toList.toArray }) rfl
        simpa using this
      · rw [Heap.size_push, sz2]

theorem zip_end {b : Nat} {ls : List Nat} {xss : List (List Value)} {m : Nat} {Q : Fin → Shared → Prop} (hh : A.handled = none) (hn : ls.length = xss.length) (h0 : 0 < ls.length) (hm : ∀ xs ∈ xss, xs.length = m) (z : ZS s.heap b ls xss m)
    (hE : ∀ h' e, (∀ (c : Nat) (o : Obj), (c < b ∨ b + ls.length + 2 < c) → s.heap.get? c = some o → h'.get? c = some o) → (∃ o, h'.get? e = some o ∧ o.cls = .type "StopIteration") → E (.ref e) { s with heap := h' }) :
    wpAny (model prog w) A (Builtin.«zip.__next__» ⟨[.ref (b + ls.length + 2)], []⟩) Q E s := by
  obtain ⟨⟨f, g, hz, hf⟩, ⟨os, co, hTO, hos, _⟩, zi⟩ := z
  obtain ⟨ct, hTI⟩ := zi.ti
  obtain ⟨l, hl⟩ : ∃ l, ls[0]? = some l := ⟨ls[0], List.getElem?_eq_getElem h0⟩
  obtain ⟨xs, hxs⟩ : ∃ xs, xss[0]? = some xs := ⟨xss[0]'(by omega), List.getElem?_eq_getElem (by omega)⟩
  have lxs := hm xs (List.mem_of_getElem? hxs)
  have hx : xs[m]? = none := List.getElem?_eq_none (by omega)
  obtain ⟨n', hn'⟩ : ∃ n', ls.length = n' + 1 := ⟨ls.length - 1, by omega⟩
  have hrange : (List.range ls.length).map (fun i => Value.ref (b + i)) = Value.ref b :: (List.range' 1 n').map (fun i => Value.ref (b + i)) := by
    rw [hn', List.range_eq_range', List.range'_succ]
    rfl
  show wpAny _ _ (field (.ref (b + ls.length + 2)) 2 >>= _) _ _ _
  refine wpAny_bind (wpAny_field hz rfl (x := .bool false) rfl ?_)
  show wpAny _ _ (field (.ref (b + ls.length + 2)) 3 >>= _) _ _ _
  refine wpAny_bind (wpAny_field hz rfl (x := .ref (b + ls.length)) rfl ?_)
  refine wpAny_bind (wpAny_seqItems hTI rfl ?_)
  rw [hrange]
  show wpAny _ _ (Builtin.SmallTypes.ownedTupleIsFree (.ref (b + ls.length + 2)) >>= _) _ _ _
  have fr : wpAny (model prog w) A (Builtin.SmallTypes.ownedTupleIsFree (.ref (b + ls.length + 2))) (fun r s' => (r = true ∧ s' = s) ∨ (r = false ∧ ∃ h', s' = { s with heap := h' } ∧ ZRec h' (b + ls.length + 2) f (.bool true) (b + ls.length) (b + ls.length + 1) ∧ Heap.SameBut (b + ls.length + 2) s.heap h')) E s := is_free hz hf
  refine wpAny_bind (wpAny_mono fr (fun r s' hr => ?_) fun _ _ e => e)
  rcases hr with ⟨e1, e2⟩ | ⟨e1, h', e2, hz', hs⟩
  · rw [e1, e2]
    clear e1 e2 fr
    simp only [if_true]
    refine wpAny_bind (wpAny_rule ?_)
    refine wpAny_bind (wpAny_field hz rfl (x := .ref (b + ls.length + 1)) rfl ?_)
    refine wpAny_bind (wpAny_setField_rec hz (by simp) fun h₁ hz₁ hs₁ => ?_)
    replace hz₁ : ZRec h₁ (b + ls.length + 2) .ellipsis (.bool g) (b + ls.length) (b + ls.length + 1) := hz₁
    refine wpAny_bind ?_
    simp only [List.zipIdx_cons, List.forIn_cons]
    refine wpAny_bind (wpAny_bind (wpAny_onRaise ?_))
    show wpAny _ _ (Builtin.SmallTypes.nextOf (.ref b) >>= _) _ _ _
    have zi1 : ZI h₁ b ls xss m 0 := zi.but fun c o hc e => (hs₁.2 c (dif (by omega))).trans e
    refine wpAny_bind (ZI.endOf hh zi1 hl hxs hx fun h₂ e hs₂ he => ?_)
    obtain ⟨oe, hoe, hce⟩ := he
    have hz₂ : ZRec h₂ (b + ls.length + 2) .ellipsis (.bool g) (b + ls.length) (b + ls.length + 1) := hs₂ _ _ (dif (by omega)) hz₁
    have hez : e ≠ b + ls.length + 2 := fun x => by
      subst x
      rw [hz₂] at hoe
      cases hoe
      simp at hce
    refine wpAny_setField_rec hz₂ (by simp) fun h₃ _ hs₃ => hE h₃ e (fun c o hc x => hs₃.extBut _ _ (dif (by omega)) (hs₂ _ _ (dif (by omega)) (hs₁.extBut _ _ (dif (by omega)) x))) ⟨oe, hs₃.extBut _ _ hez hoe, hce⟩
  · rw [e1, e2]
    clear e1 e2 fr
    simp only [Bool.false_eq_true, if_false, List.forIn_toArray, List.forIn_cons]
    refine wpAny_bind (wpAny_bind (wpAny_bind (wpAny_holding ?_)))
    show wpAny _ _ (Builtin.SmallTypes.nextOf (.ref b) >>= _) _ _ _
    have zi1 : ZI h' b ls xss m 0 := zi.but fun c o hc e => (hs.2 c (dif (by omega))).trans e
    refine wpAny_bind (ZI.endOf hh zi1 hl hxs hx fun h₂ e hs₂ he => ?_)
    exact hE h₂ e (fun c o hc x => hs₂ _ _ (dif (by omega)) (hs.extBut _ _ (dif (by omega)) x)) he
theorem pyNext_item {b : Nat} {ls : List Nat} {xss : List (List Value)} {k m : Nat} {Q : Option Value → Shared → Prop} (hn : ls.length = xss.length) (h0 : 0 < ls.length) (h6 : ls.length ≤ 100) (hm : ∀ xs ∈ xss, xs.length = m) (hk : k < m) (z : ZS s.heap b ls xss k)
    (hQ : ∀ h' T, ZS h' b ls xss (k + 1) → ZOut s.heap h' b ls.length T (rowAt xss k) → Q (some (.ref T)) { s with heap := h' }) : wpAny (model prog w) A (pyNext (.ref (b + ls.length + 2))) Q E s := by
  obtain ⟨f, g, hz, _⟩ := z.rc
  have hT : s.TypeIs (.ref (b + ls.length + 2)) "zip" := ⟨_, hz, rfl⟩
  unfold pyNext
  exact wpAny_bind (wpAny_attempt (wpAny_callSpecial?_slot (name := Str.ofString "__next__") hT F.slot_zip_next
    (wpAny_call_entry F.slot_zip_next hT F.entry_zip_next (zip_item hn h0 h6 hm hk z fun h' T a b => wpAny_pure (hQ h' T a b)) (F.args_zip_next_1 _))))
theorem pyNext_end {b : Nat} {ls : List Nat} {xss : List (List Value)} {m : Nat} {Q : Option Value → Shared → Prop} (hh : A.handled = none) (hn : ls.length = xss.length) (h0 : 0 < ls.length) (hm : ∀ xs ∈ xss, xs.length = m) (z : ZS s.heap b ls xss m)
    (hQ : ∀ h', (∀ (c : Nat) (o : Obj), (c < b ∨ b + ls.length + 2 < c) → s.heap.get? c = some o → h'.get? c = some o) → Q none { s with heap := h' }) : wpAny (model prog w) A (pyNext (.ref (b + ls.length + 2))) Q E s := by
  obtain ⟨f, g, hz, _⟩ := z.rc
  have hT : s.TypeIs (.ref (b + ls.length + 2)) "zip" := ⟨_, hz, rfl⟩
  unfold pyNext
  refine wpAny_bind (wpAny_attempt (wpAny_callSpecial?_slot (name := Str.ofString "__next__") hT F.slot_zip_next
    (wpAny_call_entry F.slot_zip_next hT F.entry_zip_next (zip_end hh hn h0 hm z fun h' e hk he => ?_) (F.args_zip_next_1 _))))
  obtain ⟨o, ho, hc⟩ := he
  refine wpAny_bind (wpAny_isInstance (T := "StopIteration") (b := true) ⟨o, ho, hc⟩ isSubtype_stop ?_)
  exact wpAny_pure (hQ _ hk)
end
end ZN

set_option Elab.async false
set_option linter.all false
set_option maxRecDepth 100000
set_option maxHeartbeats 4000000
/-! part DLq -/
namespace ZN
open PySem PyProof.Rows
open PySem.Sem (wp)
theorem zip_typeCall (us : List Value) : checkTypeCall "zip" ⟨us, []⟩ = pure () := by kernel_rfl
theorem zip_newCall : ∀ us : List Value, 0 < us.length → us.length ≤ 6 → checkBuiltinCall "zip.__new__" ⟨.type "zip" :: us, []⟩ = pure ()
  | [a], _, _ => by kernel_rfl
  | [a, b], _, _ => by kernel_rfl
  | [a, b, c], _, _ => by kernel_rfl
  | [a, b, c, d], _, _ => by kernel_rfl
  | [a, b, c, d, e], _, _ => by kernel_rfl
  | [a, b, c, d, e, f], _, _ => by kernel_rfl
  | [], h, _ => absurd h (by decide)
  | a :: b :: c :: d :: e :: f :: g :: r, _, h => absurd h (by simp only [List.length_cons]; omega)
theorem zip_objInit (obj : Value) (us : List Value) : argsOk "object.__init__" ⟨obj :: us, []⟩ := by unfold argsOk; kernel_rfl
theorem zip_no_len : typeLookup (.type "zip") "__len__" = pure none := by rw [typeLookup_type, builtinLookup_eq_fast]; kernel_rfl
theorem zip_no_hint : typeLookup (.type "zip") "__length_hint__" = pure none := by rw [typeLookup_type, builtinLookup_eq_fast]; kernel_rfl
/-- what the call lays -/
structure ZNew (h h' : Heap) (ls : List Nat) (xss : List (List Value)) : Prop where
  st : ZS h' h.objs.size ls xss 0
  rc0 : ZRec h' (h.objs.size + ls.length + 2) .none (.bool false) (h.objs.size + ls.length) (h.objs.size + ls.length + 1)
  kept : ∀ (c : Nat) (o : Obj), h.get? c = some o → h'.get? c = some o
  size : h'.objs.size = h.objs.size + ls.length + 3
def Tups (h : Heap) (ls : List Nat) (xss : List (List Value)) : Prop := ∀ (i : Nat) (l : Nat) (xs : List Value), ls[i]? = some l → xss[i]? = some xs → h.IsTuple l xs.toArray
theorem meets_zipN (ls : List Nat) (xss : List (List Value)) (hn : ls.length = xss.length) (h6 : ls.length ≤ 100) :
    Meets (Builtin.«zip.__new__» ⟨.type "zip" :: ls.map Value.ref, []⟩) (fun _ R s => Tups s.heap ls xss ∧ ∀ h', ZNew s.heap h' ls xss → R (.ok (.ret (.ref (s.heap.objs.size + ls.length + 2)))) { s with heap := h' }) :=
  .of_wp fun prog w A R s h => by
    obtain ⟨hp, g, d, tk, os⟩ := s
    obtain ⟨ht, h⟩ := h
    have hsub := sub_zip
    have nc : ∀ {E : Value → Shared → Prop}, wpAny (model prog w) A.in1 (Builtin.SmallTypes.newClass "zip" ⟨.type "zip" :: ls.map Value.ref, []⟩) (fun r s' => r = (.type "zip", ls.map Value.ref) ∧ s' = ⟨hp, g, d, tk, os⟩) E ⟨hp, g, d, tk, os⟩ := by
      intro E
      unfold Builtin.SmallTypes.newClass
      wp_walk
      exact ⟨rfl, rfl⟩
    unfold Builtin.«zip.__new__»
    refine wpAny_bind (wpAny_mono nc (fun r s' hr => ?_) fun _ _ e => e)
    obtain ⟨e1, e2⟩ := hr
    rw [e1, e2]
    show wpAny _ _ (Builtin.SmallTypes.iterAll (ls.map Value.ref) >>= _) _ _ _
    unfold Builtin.SmallTypes.iterAll
    refine wpAny_bind (wpAny_bind (forIn_steps (Iv := fun j its s' => its = ((List.range j).map fun i => Value.ref (hp.objs.size + i)).toArray ∧ ∃ h', s' = ⟨h', g, d, tk, os⟩ ∧ h'.objs.size = hp.objs.size + j ∧ (∀ (c : Nat) (o : Obj), hp.get? c = some o → h'.get? c = some o) ∧
      ∀ (i : Nat) (l : Nat), i < j → ls[i]? = some l → h'.get? (hp.objs.size + i) = some { cls := .type "tuple_iterator", data := .fields #[.ref l, .int 0 0] }) _ 0 _ _ ⟨rfl, hp, rfl, rfl, fun _ _ e => e, fun i l hi => absurd hi (Nat.not_lt_zero _)⟩ (fun i a its s' ha hI => ?_) fun its s' hI => ?_))
    · obtain ⟨rfl, h2, rfl, sz2, kp2, it2⟩ := hI
      rw [List.getElem?_map] at ha
      obtain ⟨l, hl, rfl⟩ := Option.map_eq_some_iff.mp ha
      have hi : i < ls.length := (List.getElem?_eq_some_iff.mp hl).1
      obtain ⟨xs, hxs⟩ : ∃ xs, xss[i]? = some xs := ⟨xss[i]'(by omega), List.getElem?_eq_getElem (by omega)⟩
      have hT : Heap.IsTuple h2 l xs.toArray := (ht i l xs hl hxs).at fun o e => kp2 _ _ e
      rw [Nat.zero_add] at sz2 it2
      refine wpAny_bind (wpAny_holding (wpAny_pyIter_tuple hT (wpAny_pure ⟨_, rfl, ?_, _, rfl, ?_, fun c o e => Heap.get?_push_of_some _ (kp2 c o e), fun j l' hj hl' => ?_⟩)))
      · show Array.push _ (Value.ref h2.objs.size) = _
        rw [sz2, Nat.zero_add, List.range_succ]
        simp
      · show (h2.push _).objs.size = _
        rw [Heap.size_push, sz2]
        omega
      · rw [Nat.zero_add] at hj
        by_cases e : j = i
        · subst e
          rw [hl] at hl'
          cases hl'
          have := Heap.get?_push_size h2 (o := { cls := .type "tuple_iterator", data := .fields #[.ref l, .int 0 0] }) rfl
          rw [sz2] at this
          exact this
        · exact Heap.get?_push_of_some _ (it2 j l' (by omega) hl')
    · obtain ⟨rfl, h2, rfl, sz2, kp2, it2⟩ := hI
      rw [List.length_map, Nat.zero_add] at sz2 it2
      have hlen : (List.map Value.ref ls).length = ls.length := List.length_map _
      rw [hlen, Nat.zero_add]
      refine wpAny_pure ?_
      show wpAny _ _ (newTuple _ >>= _) _ _ _
      refine wpAny_bind (wpAny_newTuple ?_ (by simp only [List.length_map, List.length_range]; rw [sizeLine_eq]; omega))
      refine wpAny_bind (wpAny_newTuple ?_ (by simp only [List.length_map, List.length_range]; rw [sizeLine_eq]; omega))
      unfold Builtin.SmallTypes.newRecord
      refine wpAny_bind (wpAny_newObj_type ?_ (by show (5 : Nat) ≤ sizeLine + 2; rw [sizeLine_eq]; decide))
      refine wpAny_pure ⟨_, rfl, ?_⟩
      have eI : (((List.range ls.length).map fun i => Value.ref (hp.objs.size + i)).toArray.toList.toArray) = ((List.range ls.length).map fun i => Value.ref (hp.objs.size + i)).toArray := by simp
      have z1 : (h2.push { cls := .type "tuple", data := .seq (((List.range ls.length).map fun i => Value.ref (hp.objs.size + i)).toArray.toList.toArray) }).objs.size = hp.objs.size + ls.length + 1 := by rw [Heap.size_push, sz2]
      generalize hh1 : h2.push { cls := .type "tuple", data := .seq (((List.range ls.length).map fun i => Value.ref (hp.objs.size + i)).toArray.toList.toArray) } = T1 at z1
      have g1 : T1.get? (hp.objs.size + ls.length) = some { cls := .type "tuple", data := .seq (((List.range ls.length).map fun i => Value.ref (hp.objs.size + i)).toArray) } := by
        rw [← hh1, ← sz2, eI]
        exact Heap.get?_push_size _ rfl
      have k1 : ∀ (c : Nat) (o : Obj), h2.get? c = some o → T1.get? c = some o := fun c o e => by rw [← hh1]; exact Heap.get?_push_of_some _ e
      generalize hno : (List.map (fun x => Value.none) ((List.range ls.length).map fun i => Value.ref (hp.objs.size + i)).toArray.toList).toArray = no
      have sno : no.size = ls.length := by rw [← hno]; simp
      have z2 : (T1.push { cls := .type "tuple", data := .seq no }).objs.size = hp.objs.size + ls.length + 2 := by rw [Heap.size_push, z1]
      have g2 : (T1.push { cls := .type "tuple", data := .seq no }).get? (hp.objs.size + ls.length + 1) = some { cls := .type "tuple", data := .seq no } := by
        rw [← z1]
        exact Heap.get?_push_size _ rfl
      have k2 : ∀ (c : Nat) (o : Obj), T1.get? c = some o → (T1.push { cls := .type "tuple", data := .seq no }).get? c = some o := fun c o e => Heap.get?_push_of_some _ e
      show R (.ok (.ret (.ref (T1.push { cls := .type "tuple", data := .seq no }).objs.size))) ⟨(T1.push { cls := .type "tuple", data := .seq no }).push { cls := .type "zip", data := .fields #[.none, .bool false, .bool false, .ref h2.objs.size, .ref T1.objs.size] }, g, d, tk, os⟩
      generalize T1.push { cls := .type "tuple", data := .seq no } = T2 at z2 g2 k2
      rw [z2, z1, sz2]
      have g3 : (T2.push { cls := .type "zip", data := .fields #[.none, .bool false, .bool false, .ref (hp.objs.size + ls.length), .ref (hp.objs.size + ls.length + 1)] }).get? (hp.objs.size + ls.length + 2) = some { cls := .type "zip", data := .fields #[.none, .bool false, .bool false, .ref (hp.objs.size + ls.length), .ref (hp.objs.size + ls.length + 1)] } := by
        rw [← z2]
        exact Heap.get?_push_size _ rfl
      have k3 : ∀ (c : Nat) (o : Obj), T2.get? c = some o → (T2.push { cls := .type "zip", data := .fields #[.none, .bool false, .bool false, .ref (hp.objs.size + ls.length), .ref (hp.objs.size + ls.length + 1)] }).get? c = some o := fun c o e => Heap.get?_push_of_some _ e
      refine h _ ⟨⟨⟨.none, false, g3, .inl rfl⟩, ⟨no, 0, k3 _ _ g2, sno, fun i xs x hi => absurd hi (Nat.not_lt_zero _)⟩, ⟨⟨0, k3 _ _ (k2 _ _ g1)⟩, fun i l hl => ?_, fun i l xs hl hx => ?_, fun l hl => ?_⟩⟩, g3, fun c o e => k3 _ _ (k2 _ _ (k1 _ _ (kp2 c o e))), ?_⟩
      · rw [if_neg (Nat.not_lt_zero _)]
        exact ⟨_, k3 _ _ (k2 _ _ (k1 _ _ (it2 i l (List.getElem?_eq_some_iff.mp hl).1 hl))), rfl, rfl⟩
      · exact (ht i l xs hl hx).at fun o e => k3 _ _ (k2 _ _ (k1 _ _ (kp2 _ o e)))
      · obtain ⟨i, hi, e⟩ := List.mem_iff_getElem.mp hl
        obtain ⟨o, ho, _⟩ := ht i l (xss[i]'(by omega)) (by rw [← e]; exact List.getElem?_eq_getElem hi) (List.getElem?_eq_getElem (by omega))
        exact Heap.lt_size ho
      · show (T2.push _).objs.size = _
        rw [Heap.size_push, z2]
section
variable {prog : Program} {w : World} {A : Around} {E : Value → Shared → Prop} {s : Shared}
theorem call_zipN {ls : List Nat} {xss : List (List Value)} {Q : Value → Shared → Prop} (hn : ls.length = xss.length) (h0 : 0 < ls.length) (h6 : ls.length ≤ 6) (ht : Tups s.heap ls xss)
    (h : ∀ h', ZNew s.heap h' ls xss → Q (.ref (s.heap.objs.size + ls.length + 2)) { s with heap := h' }) : wpAny (model prog w) A (call (.type "zip") (ls.map Value.ref)) Q E s := by
  refine callType_new F.called_zip (by decide) (zip_typeCall _) (zip_newCall _ (by simpa using h0) (by simpa using h6)) (fun obj => zip_objInit obj _) F.entry_zip_new (meets_zipN ls xss hn (by omega)) ⟨ht, fun h' z => ?_⟩
  obtain ⟨f, g, hz, _⟩ := z.st.rc
  exact ⟨⟨_, hz, rfl⟩, h h' z⟩
/-- the rows of what is listed -/
def RowsAt (h : Heap) (lo : Nat) (acc : Array Value) (xss : List (List Value)) : Prop := ∀ (j : Nat) (v : Value), acc[j]? = some v → v = .ref (lo + j) ∧ ∃ c, h.get? (lo + j) = some { cls := .type "tuple", data := .seq (rowAt xss j).toArray c }
theorem extend_loop {b S : Nat} {ls : List Nat} {xss : List (List Value)} {m : Nat} {res : Value} {R : Result → Shared → Prop} (hh : A.handled = none) (hn : ls.length = xss.length) (h0 : 0 < ls.length) (h6 : ls.length ≤ 100) (hm : ∀ xs ∈ xss, xs.length = m) (hml : m ≤ 1000) (hS : b + ls.length + 2 < S) :
    ∀ (r k : Nat) (s : Shared) (acc : Array Value) (c : Nat), m - k = r → k ≤ m → acc.size = k → s.heap.objs.size = S + 1 + k → ZS s.heap b ls xss k → s.heap.get? S = some { cls := .type "list", dict := none, data := .seq acc c, slots := #[] } → RowsAt s.heap (S + 1) acc xss →
    (∀ h' acc' c', h'.get? S = some { cls := .type "list", dict := none, data := .seq acc' c', slots := #[] } → acc'.size = m → RowsAt h' (S + 1) acc' xss → (∀ (c : Nat) (o : Obj), (c < b ∨ b + ls.length + 2 < c) → c ≠ S → s.heap.get? c = some o → h'.get? c = some o) → R (.ok (.ret res)) { s with heap := h' }) →
    codeAny (model prog w) A (.builtin "list.extend.loop" ⟨[.ref S, .ref (b + ls.length + 2), res], []⟩) R s := by
  intro r
  induction r with
  | zero =>
    intro k s acc c hr hk hacc hsz z hS' hrow hR
    have : k = m := by omega
    subst this
    refine codeAny_builtin F.entry_extend_loop ?_
    rw [Around.under_plainId F.plain_extend_loop _]
    show wpAny _ A.in1 (pyNext (.ref (b + ls.length + 2)) >>= _) _ _ s
    refine wpAny_bind (pyNext_end (A := A.in1) hh hn h0 hm z fun h' kp => ?_)
    refine wpAny_pure (hR h' acc c (kp S _ (.inr hS) hS') hacc (fun j v e => ?_) fun c o hc _ e => kp c o hc e)
    obtain ⟨e1, c', e3⟩ := hrow j v e
    exact ⟨e1, c', kp _ _ (.inr (by omega)) e3⟩
  | succ r ih =>
    intro k s acc c hr hk hacc hsz z hS' hrow hR
    have hlt : k < m := by omega
    refine codeAny_builtin F.entry_extend_loop ?_
    rw [Around.under_plainId F.plain_extend_loop _]
    show wpAny _ A.in1 (pyNext (.ref (b + ls.length + 2)) >>= _) _ _ s
    refine wpAny_bind (pyNext_item (A := A.in1) hn h0 h6 hm hlt z fun h' T z' o => ?_)
    have hS2 := o.kept S _ (.inr hS) hS'
    have hSlt : S < s.heap.objs.size := Heap.lt_size hS'
    obtain ⟨cT, hT⟩ := o.new
    have eT : T = s.heap.objs.size := o.fresh
    show wpAny _ A.in1 (updateSeq S (·.push (.ref T)) >>= _) _ _ _
    refine wpAny_bind ?_
    refine wpAny_updateSeq hS2 rfl (wpAny_pure ⟨plainId_quiet F.plain_extend_loop _, ih (k + 1) _ (acc.push (.ref T)) _ (by omega) hlt (by rw [Array.size_push, hacc]) ?_ ?_ (Heap.get?_update_self _ hS2 rfl) (fun j v e => ?_) fun h'' acc' c' h1 h2 h3 h4 => ?_⟩) (by rw [hacc, sizeLine_eq]; omega)
      (by show (acc.push _).size ≤ sizeLine + 1; rw [Array.size_push, hacc, sizeLine_eq]; omega)
    · show (h'.update S _).objs.size = _
      have e1 : (h'.update S (Obj.mapSeq (·.push (.ref T)))).objs.size = h'.objs.size := (Heap.SameBut.update ..).1
      rw [e1, o.size, hsz]
      omega
    · have oth : ∀ (c : Nat) (o : Obj), c ≠ S → h'.get? c = some o → (h'.update S (Obj.mapSeq (·.push (.ref T)))).get? c = some o := fun c o hc e => (Heap.get?_update_other _ _ (fun z : S = c => hc z.symm)).trans e
      obtain ⟨⟨f, g, hz, hf⟩, ⟨os, co, hTO, hos, ht⟩, zi⟩ := z'
      exact ⟨⟨f, g, oth _ _ (dif (by omega)) hz, hf⟩, ⟨os, co, oth _ _ (dif (by omega)) hTO, hos, ht⟩, zi.but fun c o hc e => oth c o (dif (by omega)) e⟩
    · have oth : ∀ (c : Nat) (o : Obj), c ≠ S → h'.get? c = some o → (h'.update S (Obj.mapSeq (·.push (.ref T)))).get? c = some o := fun c o hc e => (Heap.get?_update_other _ _ (fun z : S = c => hc z.symm)).trans e
      rw [Array.getElem?_push] at e
      split at e
      · rename_i ej
        cases e
        have ej2 : j = k := by rw [ej, hacc]
        subst ej2
        have eT2 : T = S + 1 + j := by rw [eT, hsz]
        clear eT
        subst eT2
        exact ⟨rfl, cT, oth _ _ (dif (by omega)) hT⟩
      · obtain ⟨e1, c', e3⟩ := hrow j v e
        exact ⟨e1, c', oth _ _ (dif (by omega)) (o.kept _ _ (.inr (by omega)) e3)⟩
    · have oth : ∀ (c : Nat) (o : Obj), c ≠ S → h'.get? c = some o → (h'.update S (Obj.mapSeq (·.push (.ref T)))).get? c = some o := fun c o hc e => (Heap.get?_update_other _ _ (fun z : S = c => hc z.symm)).trans e
      exact hR h'' acc' c' h1 h2 h3 fun c ob hc hcs e => h4 c ob hc hcs (oth c ob hcs (o.kept c ob hc e))
end
end ZN

set_option Elab.async false
set_option linter.all false
set_option maxRecDepth 100000
set_option maxHeartbeats 4000000
/-! part DLr -/
namespace ZN
open PySem PyProof.Rows
open PySem.Sem (wp)
section
variable {prog : Program} {w : World} {A : Around} {E : Value → Shared → Prop} {s : Shared}
theorem extend_zip {b S : Nat} {ls : List Nat} {xss : List (List Value)} {m c₀ : Nat} {res : Value} {R : Result → Shared → Prop} (hh : A.handled = none) (hn : ls.length = xss.length) (h0 : 0 < ls.length) (h6 : ls.length ≤ 100) (hm : ∀ xs ∈ xss, xs.length = m) (hml : m ≤ 1000) (hS : b + ls.length + 2 < S) (hsz : s.heap.objs.size = S + 1)
    (z : ZS s.heap b ls xss 0) (z0 : ZRec s.heap (b + ls.length + 2) .none (.bool false) (b + ls.length) (b + ls.length + 1)) (hS' : s.heap.get? S = some { cls := .type "list", data := .seq #[] c₀ })
    (hR : ∀ h' acc' c', h'.get? S = some { cls := .type "list", dict := none, data := .seq acc' c', slots := #[] } → acc'.size = m → RowsAt h' (S + 1) acc' xss → (∀ (c : Nat) (o : Obj), (c < b ∨ b + ls.length + 2 < c) → c ≠ S → s.heap.get? c = some o → h'.get? c = some o) → R (.ok (.ret res)) { s with heap := h' }) :
    wpAny (model prog w) A.in1 (Builtin.List.listExtendWith (.ref S) (.ref (b + ls.length + 2)) res)
      (fun fin s' => match fin with | .done f => R (.ok f) s' | .again c' => c'.quiet = true ∧ codeAny (model prog w) A c' R s') (fun e s' => R (.error e) s') s := by
  obtain ⟨f, g, hz, _⟩ := z.rc
  have hT : s.TypeIs (.ref (b + ls.length + 2)) "zip" := ⟨_, hz, rfl⟩
  have hSI : S ≠ b + ls.length + 2 := dif (by omega)
  unfold Builtin.List.listExtendWith
  refine wpAny_bind (wpAny_typeOf hT ?_)
  have h1 : Builtin.List.listSameRef (.ref S) (.ref (b + ls.length + 2)) = false := by simp [Builtin.List.listSameRef, hSI]
  have h2 : (Value.type "zip" == Value.type "list") = false := by decide
  have h3 : (Value.type "zip" == Value.type "tuple") = false := by decide
  simp only [h1, h2, h3, Bool.or_false, Bool.false_eq_true, if_false]
  refine wpAny_bind (wpAny_pyIter_zip z0 ?_)
  refine wpAny_bind (wpAny_holding ?_)
  unfold Builtin.List.listLengthHint
  refine wpAny_bind (wpAny_specialOf hT zip_no_len ?_)
  show wpAny _ A.in1 (specialOf (Value.ref (b + ls.length + 2)) (Str.ofString "__length_hint__") >>= _) _ _ _
  refine wpAny_bind (wpAny_specialOf hT zip_no_hint ?_)
  refine wpAny_pure ?_
  show wpAny _ A.in1 (rule "list.extend.makes-room" >>= fun _ => Builtin.List.listTouch (.ref S) >>= fun _ =>
    again (.builtin "list.extend.loop" ⟨[.ref S, .ref (b + ls.length + 2), res], []⟩)) _ _ _
  refine wpAny_bind (wpAny_rule ?_)
  refine wpAny_bind ?_
  show wpAny _ A.in1 (updateSeq S (·.push .none) >>= fun _ => updateSeq S (·.pop)) _ _ _
  refine wpAny_bind (wpAny_updateSeq hS' rfl ?_)
  have hS₂ := Heap.get?_update_self (Obj.mapSeq (·.push Value.none)) hS' rfl
  refine wpAny_updateSeq (hz := by seq_fits) hS₂ rfl ?_
  have hS₃ := Heap.get?_update_self (Obj.mapSeq (·.pop)) hS₂ rfl
  have oth : ∀ (b : Nat) (o : Obj), b ≠ S → s.heap.get? b = some o → ((s.heap.update S (Obj.mapSeq (·.push Value.none))).update S (Obj.mapSeq (·.pop))).get? b = some o :=
    fun b o hb e => (Heap.get?_update_other _ _ (fun q : S = b => hb q.symm)).trans ((Heap.get?_update_other _ _ (fun q : S = b => hb q.symm)).trans e)
  obtain ⟨⟨f, g, hz, hf⟩, ⟨os, co, hTO, hos, ht⟩, zi⟩ := z
  refine wpAny_pure ⟨plainId_quiet F.plain_extend_loop _, extend_loop hh hn h0 h6 hm hml hS m 0 _ _ _ rfl (Nat.zero_le _) rfl ?_ ⟨⟨f, g, oth _ _ (dif (by omega)) hz, hf⟩, ⟨os, co, oth _ _ (dif (by omega)) hTO, hos, ht⟩, zi.but fun c o hc e => oth c o (dif (by omega)) e⟩ hS₃ (fun j v e => by simp at e) fun h' acc' c' h1 h2 h3 h4 => ?_⟩
  · show ((s.heap.update S _).update S _).objs.size = _
    rw [(Heap.SameBut.update ..).1, (Heap.SameBut.update ..).1, hsz]
  · exact hR h' acc' c' h1 h2 h3 fun c o hc hcs e => h4 c o hc hcs (oth c o hcs e)
theorem call_listZip {b : Nat} {ls : List Nat} {xss : List (List Value)} {m : Nat} {Q : Value → Shared → Prop} (hh : A.handled = none) (hn : ls.length = xss.length) (h0 : 0 < ls.length) (h6 : ls.length ≤ 100) (hm : ∀ xs ∈ xss, xs.length = m) (hml : m ≤ 1000)
    (z : ZS s.heap b ls xss 0) (z0 : ZRec s.heap (b + ls.length + 2) .none (.bool false) (b + ls.length) (b + ls.length + 1))
    (hQ : ∀ h' acc' c', h'.get? s.heap.objs.size = some { cls := .type "list", dict := none, data := .seq acc' c', slots := #[] } → acc'.size = m → RowsAt h' (s.heap.objs.size + 1) acc' xss → (∀ (c : Nat) (o : Obj), (c < b ∨ b + ls.length + 2 < c) → s.heap.get? c = some o → h'.get? c = some o) → Q (.ref s.heap.objs.size) { s with heap := h' }) :
    wpAny (model prog w) A (call (.type "list") [.ref (b + ls.length + 2)]) Q E s := by
  have hlt : b + ls.length + 2 < s.heap.objs.size := by
    obtain ⟨f, g, hz, _⟩ := z.rc
    exact Heap.lt_size hz
  refine callType_codes (Q₁ := fun obj s₁ => obj = .ref s.heap.objs.size ∧ s₁ = { s with heap := s.heap.push { cls := .type "list", data := .seq #[] } }) F.called_list (F.typeCall_list_1 _) F.entry_list_init
    (code_list_new _ ⟨rfl, rfl⟩) fun obj s₁ h₁ => ?_
  obtain ⟨rfl, rfl⟩ := h₁
  have hS : (s.heap.push { cls := .type "list", data := .seq #[] }).get? s.heap.objs.size = some { cls := .type "list", data := .seq #[] } := Heap.get?_push_size _ rfl
  have up : ∀ (c : Nat) (o : Obj), s.heap.get? c = some o → (s.heap.push { cls := .type "list", data := .seq #[] }).get? c = some o := fun c o e => Heap.get?_push_of_some _ e
  refine ⟨⟨_, hS, rfl⟩, F.args_list_init_2 _ _, ?_⟩
  show wpAny _ A.in1.in1 (do let old ← Builtin.List.listItems (.ref s.heap.objs.size); Builtin.List.listUpdate (.ref s.heap.objs.size) (fun _ => #[]); letGo old.toList.reverse; Builtin.List.listExtendWith (.ref s.heap.objs.size) (.ref (b + ls.length + 2)) .none) _ _ _
  refine wpAny_bind ?_
  unfold Builtin.List.listItems
  refine wpAny_bind (wpAny_seqItems hS rfl (wpAny_pure ?_))
  show wpAny _ A.in1.in1 (updateSeq s.heap.objs.size (fun _ => #[]) >>= fun _ => letGo (#[] : Array Value).toList.reverse >>= fun _ => Builtin.List.listExtendWith (.ref s.heap.objs.size) (.ref (b + ls.length + 2)) .none) _ _ _
  refine wpAny_bind (wpAny_updateSeq hS rfl ?_)
  have hS₂ := Heap.get?_update_self (Obj.mapSeq (fun _ => (#[] : Array Value))) hS rfl
  have oth : ∀ (c : Nat) (o : Obj), c ≠ s.heap.objs.size → s.heap.get? c = some o → ((s.heap.push { cls := .type "list", data := .seq #[] }).update s.heap.objs.size (Obj.mapSeq (fun _ => (#[] : Array Value)))).get? c = some o :=
    fun c o hb e => (Heap.get?_update_other _ _ (fun q : s.heap.objs.size = c => hb q.symm)).trans (up c o e)
  refine wpAny_bind (wpAny_letGo ?_)
  obtain ⟨⟨f, g, hz, hf⟩, ⟨os, co, hTO, hos, ht⟩, zi⟩ := z
  refine extend_zip (A := A.in1) hh hn h0 h6 hm hml hlt ?_ ⟨⟨f, g, oth _ _ (dif (by omega)) hz, hf⟩, ⟨os, co, oth _ _ (dif (by omega)) hTO, hos, ht⟩, zi.but fun c o hc e => oth c o (dif (by omega)) e⟩ (oth _ _ (dif (by omega)) z0) hS₂ fun h' acc' c' h1 h2 h3 h4 => ?_
  · show ((s.heap.push _).update _ _).objs.size = _
    rw [(Heap.SameBut.update ..).1, Heap.size_push]
  exact ⟨rfl, hQ h' acc' c' h1 h2 h3 fun c o hc e => h4 c o hc (Nat.ne_of_lt (Heap.lt_size e)) (oth c o (Nat.ne_of_lt (Heap.lt_size e)) e)⟩
end
/-! part DLr -/
section
open PySem.Spec L2
variable {X : Cx}
abbrev colV (rows : List (Addr × List V)) (j : Nat) : List V := rows.filterMap fun r => r.2[j]?
def tListZip (K : PySem.W.Frag) (te : TE) : TE := fun σ H Q => te σ H fun y H1 => ∃ (a : Addr) (rows : List (Addr × List V)) (m : Nat), y = .ref a ∧ SqT K H1 a (rows.map fun r => V.ref r.1) ∧ (∀ r ∈ rows, SqT K H1 r.1 r.2 ∧ r.2.length = m) ∧ 0 < rows.length ∧ rows.length ≤ 6 ∧ m ≤ 1000 ∧
  ∀ (H2 : Hp) (p : Addr) (Ts : List Addr), (∀ b o, H1 b = some o → H2 b = some o) → H1 p = none → H2 p = some (.lst (Ts.map V.ref)) → Ts.length = m → (∀ (j : Nat) (T : Addr), Ts[j]? = some T → H1 T = none ∧ H2 T = some (.tup (colV rows j))) → Q (.ref p) H2
theorem refs_vals {ls : List Addr} : ∀ {us : List Value}, Vals (ls.map V.ref) us → us = ls.map Value.ref := fun r => refs_at r
theorem vals_refs' : ∀ (ls : List Addr), Vals (ls.map V.ref) (ls.map Value.ref)
  | [] => .nil
  | l :: ls => .cons rfl (vals_refs' ls)
/-- the rows' items, as they stand -/
theorem rows_of {pins : List (Addr × Obj)} {σ : L2.St} {H : Hp} {s : Shared} (I : Inv X pins σ H s) : ∀ {rows : List (Addr × List V)} {m : Nat}, (∀ r ∈ rows, SqT X.K H r.1 r.2 ∧ r.2.length = m) →
    ∃ xss : List (List Value), xss.length = rows.length ∧ (∀ xs ∈ xss, xs.length = m) ∧ Tups s.heap (rows.map (·.1)) xss ∧ ∀ j, Vals (colV rows j) (rowAt xss j)
  | [], m, _ => ⟨[], rfl, (fun xs h => by cases h), (fun i l xs hl hx => by simp at hx), fun j => (.nil : Vals [] [])⟩
  | r :: rows, m, h => by
    obtain ⟨h1, h2⟩ := h r List.mem_cons_self
    obtain ⟨its, rv, ht, _⟩ := I.tuple h1
    obtain ⟨xss, l1, l2, l3, l4⟩ := rows_of I fun q hq => h q (List.mem_cons_of_mem _ hq)
    have li : its.length = m := by rw [← rv.length]; exact h2
    refine ⟨its :: xss, by rw [List.length_cons, List.length_cons, l1], fun xs hx => ?_, fun i l xs hl hx => ?_, fun j => ?_⟩
    · rcases List.mem_cons.mp hx with e | hx
      · rw [e]; exact li
      · exact l2 xs hx
    · cases i with
      | zero =>
        simp at hl hx
        subst hl hx
        exact ht
      | succ i =>
        simp at hl hx
        exact l3 i l xs (by simpa using hl) hx
    · unfold colV rowAt
      rw [List.filterMap_cons, List.filterMap_cons]
      by_cases hj : j < m
      · have e1 : r.2[j]? = some (r.2[j]'(by omega)) := List.getElem?_eq_getElem (by omega)
        obtain ⟨u, hu, ru⟩ := rv.get e1
        rw [e1, hu]
        exact .cons ru (l4 j)
      · rw [List.getElem?_eq_none (show r.2.length ≤ j by omega), List.getElem?_eq_none (show its.length ≤ j by omega)]
        exact l4 j
theorem pe_listZip {e : Expr} {te : TE} {p p2 sp_ q pos : Pos} (hg : Gl X "list") (hm : X.mg "list" = none) (hg2 : Gl X "zip") (hm2 : X.mg "zip" = none) (he : PE X e te) (hc : X.calm = true)
    (hst : starEach [.Starred e sp_] X.env = [(true, eval e X.env)] := by rfl)
    (hs : starEach [.Call (.Name "zip" p2) [.Starred e sp_] [] q] X.env = (false, eval (.Call (.Name "zip" p2) [.Starred e sp_] [] q) X.env) :: starEach [] X.env := by rfl) :
    PE X (.Call (.Name "list" p) [.Call (.Name "zip" p2) [.Starred e sp_] [] q] [] pos) (tListZip X.K te) := by
  refine ⟨fun pins s σ H Q I h => ?_⟩
  refine Call_ (ld_blt I hg hm boot_list ?_)
  refine PyProof.Rows.callWith_type1 (PyProof.Rows.args_cons ?_ hs) hs rfl
  refine wpAny_Call_Name_kw (ld_blt I hg2 hm2 PyProof.Rows.boot_zip ?_)
  rw [hst]
  refine PySem.W.ks_call (P := fun _ => True) rfl (fun h _ => ⟨.machine, .inr (.inl rfl), fun A Q E s _ q => wpAny_pure q⟩) (PySem.W.ks_lone ?_)
  refine thn (he.run pins s σ H _ I h) fun v s1 ⟨y, H1, I1, ry, a, rows, m, ey, ha, hr, h0, h6, hm', q⟩ => ?_
  subst ey
  obtain rfl : v = Value.ref a := ry
  refine StX.star_any I1 (.inl ha) fun us s2 I2 rv => ⟨trivial, ?_⟩
  have eus : us = (rows.map (·.1)).map Value.ref := by
    have : rows.map (fun r => V.ref r.1) = (rows.map (·.1)).map V.ref := by simp
    rw [this] at rv
    exact refs_vals rv
  subst eus
  obtain ⟨xss, l1, l2, l3, l4⟩ := rows_of I2 hr
  refine call_zipN (ls := rows.map (·.1)) (xss := xss) (by rw [List.length_map, l1]) (by rw [List.length_map]; exact h0) (by rw [List.length_map]; exact h6) l3 fun h' z => ?_
  refine PyProof.Rows.args_nil ?_
  have lls : (rows.map (·.1)).length = rows.length := List.length_map _
  refine call_listZip (s := { s2 with heap := h' }) (b := s2.heap.objs.size) (ls := rows.map (·.1)) (xss := xss) (m := m) (I2.ok.hd hc) (by rw [lls, l1]) (by rw [lls]; exact h0) (by rw [lls]; omega) l2 hm' z.st z.rc0 fun h'' acc' c' g1 g2 g3 g4 => ?_
  have up : ∀ b o, s2.heap.get? b = some o → h''.get? b = some o := fun b o e => g4 b o (.inl (Heap.lt_size e)) (z.kept b o e)
  have hS : s2.heap.objs.size ≤ h'.objs.size := by rw [z.size]; omega
  have nS : H1 h'.objs.size = none := I2.hok.fresh hS
  have I3 : Inv X pins σ H1 { s2 with heap := h'' } := I2.kept (t' := s2.toks) up
  have eacc : acc'.toList = ((List.range m).map fun j => h'.objs.size + 1 + j).map Value.ref := by
    apply List.ext_getElem?
    intro j
    rw [List.getElem?_map, List.getElem?_map, Array.getElem?_toList]
    by_cases hj : j < m
    · have e1 : acc'[j]? = some (acc'[j]'(by omega)) := Array.getElem?_eq_getElem (by omega)
      obtain ⟨e2, _⟩ := g3 j _ e1
      rw [e1, e2, List.getElem?_range hj]
      rfl
    · rw [Array.getElem?_eq_none (by omega), List.getElem?_eq_none (by simpa using Nat.le_of_not_lt hj)]
      rfl
  have okL : ObjOk X.prog X.w (upd H1 h'.objs.size (.lst (((List.range m).map fun j => h'.objs.size + 1 + j).map V.ref))) h'' h'.objs.size (.lst (((List.range m).map fun j => h'.objs.size + 1 + j).map V.ref)) :=
    ⟨by simp only [List.length_map, List.length_range]; rw [sizeLine_eq]; omega, acc'.toList, c', by rw [eacc]; exact vals_refs' _, by simpa using g1⟩
  have I4 : Inv X pins σ (upd H1 h'.objs.size (.lst (((List.range m).map fun j => h'.objs.size + 1 + j).map V.ref))) { s2 with heap := h'' } := I3.take (t' := s2.toks) (fun _ _ _ e => e) (I2.fpOk hS nS) okL
  have nd : ((List.range m).map fun j => h'.objs.size + 1 + j).Nodup := by
    refine List.pairwise_map.mpr ((List.nodup_range (n := m)).imp fun {a b} h z => h ?_)
    have z : h'.objs.size + 1 + a = h'.objs.size + 1 + b := z
    omega
  obtain ⟨H2, I5, k5, t5⟩ := L2.DX.takeT (P := fun a vs => ∃ j, a = h'.objs.size + 1 + j ∧ vs = colV rows j) I2 ((List.range m).map fun j => h'.objs.size + 1 + j) _ I4 nd fun T hT => by
    obtain ⟨j, hj, rfl⟩ := List.mem_map.mp hT
    have hjm : @LT.lt Nat _ j m := List.mem_range.mp hj
    have e1 : acc'[j]? = some (acc'[j]'(by omega)) := Array.getElem?_eq_getElem (by omega)
    obtain ⟨_, cj, e3⟩ := g3 j _ e1
    refine ⟨by omega, ?_, colV rows j, ⟨j, rfl, rfl⟩, fun H2 => ⟨?_, rowAt xss j, l4 j, ⟨_, e3, rfl, _, rfl⟩⟩⟩
    · have nn : H1 (h'.objs.size + 1 + j) = none := I2.hok.fresh (show s2.heap.objs.size ≤ h'.objs.size + 1 + j by omega)
      rw [upd_ne (dif (by omega))]
      exact nn
    · have : (colV rows j).length ≤ rows.length := List.length_filterMap_le _ _
      rw [sizeLine_eq]
      omega
  refine ⟨.ref h'.objs.size, H2, I5, rfl, q H2 h'.objs.size ((List.range m).map fun j => h'.objs.size + 1 + j) (fun b o e => k5 b o (by rw [upd_ne (ne_of_none e nS)]; exact e)) nS (k5 _ _ upd_same) (by simp) fun j T hT => ?_⟩
  have hjm : j < m := by
    have := (List.getElem?_eq_some_iff.mp hT).1
    simpa using this
  rw [List.getElem?_map, List.getElem?_range hjm] at hT
  cases hT
  refine ⟨I2.hok.fresh (show s2.heap.objs.size ≤ h'.objs.size + 1 + j by omega), ?_⟩
  obtain ⟨vs, ⟨j', e1, rfl⟩, e2⟩ := t5 (h'.objs.size + 1 + j) (List.mem_map.mpr ⟨j, List.mem_range.mpr hjm, rfl⟩)
  have : j' = j := by
    exact (Nat.add_left_cancel e1).symm
  subst this
  exact e2
end
end ZN

set_option Elab.async false
set_option linter.all false
set_option maxRecDepth 100000
set_option maxHeartbeats 4000000
/-! part DLs -/
namespace DL
open PySem PySem.Spec L2 DM
variable {c : Ctx}
def tupO : D → Option (List D)
  | .tup ds => some ds
  | _ => none
def tupsO : List D → Option (List (List D))
  | [] => some []
  | d :: ds => (tupO d).bind fun k => (tupsO ds).map (k :: ·)
def colD (rows : List (List D)) (j : Nat) : List D := rows.filterMap fun r => r[j]?
def evenO (rows : List (List D)) : Option Nat := match rows with
  | [] => none
  | r :: rs => if rs.all (fun x => x.length == r.length) && decide (rs.length < 6) && decide (r.length ≤ 1000) then some r.length else none
def zipStarO : D → Option Co
  | .tup ds => (tupsO ds).bind fun rows => (evenO rows).map fun m => .lst ((List.range m).map fun j => .tup (colD rows j))
  | _ => none
theorem evenO_of {rows : List (List D)} {m : Nat} (h : evenO rows = some m) : (∀ r ∈ rows, r.length = m) ∧ 0 < rows.length ∧ rows.length ≤ 6 ∧ m ≤ 1000 := by
  cases rows with
  | nil => cases h
  | cons r rs =>
    simp only [evenO] at h
    split at h
    · rename_i hh
      cases h
      simp only [Bool.and_eq_true, decide_eq_true_eq] at hh
      obtain ⟨⟨h1, h2⟩, h3⟩ := hh
      refine ⟨fun x hx => ?_, by simp, by simp only [List.length_cons]; omega, h3⟩
      rcases List.mem_cons.mp hx with e | hx
      · rw [e]
      · exact eq_of_beq (List.all_eq_true.mp h1 x hx)
    · cases h
theorem tupsO_rep {F : Hp} : ∀ {vs : List V} {ds : List D} {rows : List (List D)}, RepL F vs ds → tupsO ds = some rows → ∃ L : List (Addr × List V), vs = L.map (fun p => V.ref p.1) ∧ L.length = rows.length ∧ (∀ p ∈ L, F p.1 = some (.tup p.2)) ∧ (∀ m, (∀ r ∈ rows, r.length = m) → ∀ p ∈ L, p.2.length = m) ∧ ∀ j, RepL F (ZN.colV L j) (colD rows j)
  | _, _, _, .nil, h => by cases h; exact ⟨[], rfl, rfl, (fun p hp => by cases hp), (fun m _ p hp => by cases hp), fun j => RepL.nil⟩
  | _, d :: ds, _, .cons r rr, h => by
    obtain ⟨k, h1, h2⟩ := Option.bind_eq_some_iff.mp h
    obtain ⟨ks, h3, rfl⟩ := Option.map_eq_some_iff.mp h2
    obtain ⟨L, rfl, hl, h4, h5, h6⟩ := tupsO_rep rr h3
    cases r <;> simp only [tupO, reduceCtorEq, Option.some.injEq] at h1
    subst h1
    rename_i a vs ds' ha ra
    refine ⟨(a, vs) :: L, rfl, by rw [List.length_cons, List.length_cons, hl], fun p hp => ?_, fun m hm p hp => ?_, fun j => ?_⟩
    · rcases List.mem_cons.mp hp with e | hp
      · rw [e]; exact ha
      · exact h4 p hp
    · rcases List.mem_cons.mp hp with e | hp
      · rw [e]
        show vs.length = m
        rw [ra.length]
        exact hm _ List.mem_cons_self
      · exact h5 m (fun q hq => hm q (List.mem_cons_of_mem _ hq)) p hp
    · unfold ZN.colV colD
      rw [List.filterMap_cons, List.filterMap_cons]
      dsimp only
      cases e : ds'[j]? with
      | none =>
        have e2 : vs[j]? = none := by
          rw [List.getElem?_eq_none_iff] at e ⊢
          rw [ra.length]; exact e
        rw [e2]
        exact h6 j
      | some x =>
        obtain ⟨v, hv, rv⟩ := ra.get e
        rw [hv]
        exact .cons rv (h6 j)
def zipStarE (f : DE c D) : DE c Co := bindE f fun d => fun _ μ Q _ => ∃ co, zipStarO d = some co ∧ Q co μ
def zipStarX (a : XE D) : XE Co := bindX a fun d => okX (zipStarO d)
theorem xzipStar {a : XE D} : (zipStarE (lf a) : DE c Co) = lf (zipStarX a) := bind_lf fun _ => ok_lf fun _ _ _ _ => rfl
/-- these tuples, which stand in H, are data -/
def addT (F H : Hp) (Ts : List Addr) : Hp := fun b => if b ∈ Ts then H b else F b
theorem pn_listZipStar {a : Expr} {fa : DE c D} {p p2 sp_ q pos : Pos} (ha : PD c a fa) (hm : c.mg "list" = none) (hm2 : c.mg "zip" = none) (hg : Glb c "list" := by rfl) (hg2 : Glb c "zip" := by rfl) (hst : ∀ env, starEach [.Starred a sp_] env = [(true, eval a env)] := by intro _; rfl)
    (hs : ∀ env, starEach [.Call (.Name "zip" p2) [.Starred a sp_] [] q] env = (false, eval (.Call (.Name "zip" p2) [.Starred a sp_] [] q) env) :: starEach [] env := by intro _; rfl) :
    PN c (.Call (.Name "list" p) [.Call (.Name "zip" p2) [.Starred a sp_] [] q] [] pos) (zipStarE fa) := by
  obtain ⟨t, t1, t2⟩ := ha
  refine ⟨ZN.tListZip c.K t, fun X h => by rw [← h.hK]; exact ZN.pe_listZip (h.gl hg) (h.mgn hm) (h.gl hg2) (h.mgn hm2) (t1 X h) h.cl (hst _) (hs _), ?_⟩
  intro F H μ ρ σ Q E Qh m s _ hf kq ke
  refine t2 F H μ ρ σ _ E _ m s trivial hf (fun v d F1 H1 μ1 e1 m1 r1 q1 => ?_) ke
  obtain ⟨co, hc, q1⟩ := q1
  cases r1 <;> simp only [zipStarO, reduceCtorEq] at hc
  rename_i l vs ds hl rl
  obtain ⟨rows, h1, hc⟩ := Option.bind_eq_some_iff.mp hc
  obtain ⟨mm, h2, rfl⟩ := Option.map_eq_some_iff.mp hc
  obtain ⟨g1, g2, g3, g4⟩ := evenO_of h2
  obtain ⟨L, rfl, hL, hLF, hLm, hcol⟩ := tupsO_rep rl h1
  refine ⟨l, L, mm, rfl, SqT.of (m1.fh _ _ hl), fun r hr => ⟨SqT.of (m1.fh _ _ (hLF r hr)), hLm mm g1 r hr⟩, by omega, by omega, g4, fun H2 p Ts k12 np hp hTl hT => ?_⟩
  have Tn : ∀ b ∈ Ts, H1 b = none := fun b hb => by
    obtain ⟨j, hj⟩ := List.mem_iff_getElem?.mp hb
    exact (hT j b hj).1
  have Ft : ∀ b ∈ Ts, ∃ vs, H2 b = some (.tup vs) := fun b hb => by
    obtain ⟨j, hj⟩ := List.mem_iff_getElem?.mp hb
    exact ⟨_, (hT j b hj).2⟩
  have ss : Same F1 (addT F1 H2 Ts) := fun b o e => by
    unfold addT
    split
    · rename_i hb
      have := m1.fh _ _ e
      rw [Tn b hb] at this
      cases this
    · exact e
  have pT : p ∉ Ts := fun hb => by
    obtain ⟨vs, e⟩ := Ft p hb
    rw [hp] at e
    cases e
  have hp0 : H p = none := by
    cases z : H p with
    | none => rfl
    | some o =>
      obtain ⟨o', z'⟩ := e1.tr _ o z
      rw [np] at z'; cases z'
  have ev : Ev F1 H1 (c.ft μ1) (addT F1 H2 Ts) H2 (c.ft μ1) := by
    refine ⟨ss, fun b o h _ _ => ?_, fun b o h _ => k12 b o h, fun b h => .inl h, fun b o h => ⟨o, k12 b o h⟩⟩
    unfold addT
    rw [if_neg fun hb => by rw [Tn b hb] at h; cases h]
  have mk : MOk c.M (addT F1 H2 Ts) H2 μ1 := by
    refine ⟨fun b o e => ?_, c.M.stay m1.ok fun b hb => ?_, fun b hb => ?_⟩
    · unfold addT at e
      split at e
      · exact e
      · exact k12 _ _ (m1.fh _ _ e)
    · obtain ⟨o, ho⟩ := c.M.there m1.ok hb
      rw [k12 _ _ ho, ho]
    · obtain ⟨o, ho⟩ := c.M.there m1.ok hb
      unfold addT
      rw [if_neg fun hb' => by rw [Tn b hb'] at ho; cases ho]
      exact m1.nf b hb
  have rT : ∀ (Ts' : List Addr) (k : Nat), (∀ (j : Nat) (T : Addr), Ts'[j]? = some T → T ∈ Ts ∧ H2 T = some (.tup (ZN.colV L (k + j)))) → RepL (addT F1 H2 Ts) (Ts'.map V.ref) ((List.range' k Ts'.length).map fun j => .tup (colD rows j)) := by
    intro Ts'
    induction Ts' with
    | nil => intro k _; exact .nil
    | cons T Ts' ih =>
      intro k h
      obtain ⟨h1, h2⟩ := h 0 T rfl
      rw [List.length_cons, List.range'_succ, List.map_cons, List.map_cons]
      refine .cons (.tup (vs := ZN.colV L k) ?_ ((hcol k).mono ss)) (ih (k + 1) fun j T' hj => ?_)
      · unfold addT
        rw [if_pos h1]
        exact h2
      · obtain ⟨a1, a2⟩ := h (j + 1) T' (by simpa using hj)
        refine ⟨a1, ?_⟩
        rw [a2, show k + 1 + j = k + (j + 1) by omega]
  have np' : addT F1 H2 Ts p = none := by
    unfold addT
    rw [if_neg pT]
    exact m1.fh.free np
  refine kq _ (.lst ((List.range mm).map fun j => .tup (colD rows j))) (addT F1 H2 Ts) H2 μ1 (e1.trans ev) mk ⟨p, rfl, hp0, np', (fresh_O m1 np).2, _, hp, ?_⟩ q1
  have := rT Ts 0 fun j T hj => ⟨List.mem_of_getElem? hj, by rw [Nat.zero_add]; exact (hT j T hj).2⟩
  rw [hTl, ← List.range_eq_range'] at this
  exact this
end DL

set_option Elab.async false
set_option linter.all false
set_option maxRecDepth 100000
set_option maxHeartbeats 4000000
/-! part DLt -/
namespace DL
open PySem PySem.Spec L2 DM
variable {c : Ctx}
def noStar : List Expr → Bool
  | [] => true
  | .Starred .. :: _ => false
  | _ :: r => noStar r
theorem blockKind_fn {env : Env} (h : env.scope.kind = .function) : env.blockKind = .function := by
  unfold Env.blockKind
  rw [h]
  rfl
theorem psd_par2 (i j : Nat) {x y : Str} {a b : Expr} {fa fb : DE c Sl} {px py pt pos : Pos} {kt k2 pt2} (ha : PX c a fa) (hb : PX c b fb)
    (hne : (y == x) = false := by decide +kernel)
    (hst : ∀ env : Env, env.scope.kind = .function → env.kindOf x = some .local → env.kindOf y = some .local → (y == x) = false → (x == y) = false → swappedStores [.Tuple [.Name x px, .Name y py] kt pt] (.Tuple [a, b] k2 pt2) env = pure (some [x, y]) := by
      intro env h1 h2 h3 h4 h5; simp [swappedStores, blockKind_fn h1, h2, h3, h4, h5, Expr.pos, List.eraseDups, List.eraseDupsBy, List.eraseDupsBy.loop, foldedForSure, constantsAlone])
    (hi : c.N[i]? = some x := by rfl) (hj : c.N[j]? = some y := by rfl) (hij : i ≠ j := by decide) (hx : c.sc.names.lookup x = some .local := by rfl) (hy : c.sc.names.lookup y = some .local := by rfl) (hk : c.sc.kind = .function := by rfl)
    (hs : ∀ env, swapsWithSole [.Tuple [.Name x px, .Name y py] kt pt] (.Tuple [a, b] k2 pt2) pos.line env = pure false := by intro _; rfl)
    (he : ∀ env, starEach [a, b] env = (false, eval a env) :: starEach [b] env := by intro _; rfl) (he2 : ∀ env, starEach [b] env = (false, eval b env) :: starEach [] env := by intro _; rfl) :
    PSd c (.Assign [.Tuple [.Name x px, .Name y py] kt pt] (.Tuple [a, b] k2 pt2) pos) (parS i j fa fb) :=
  psd_par i j ha hb (fun env h1 h2 h3 => hst env h1 h2 h3 hne (by rw [Bool.eq_false_iff] at hne ⊢; intro e; exact hne (beq_iff_eq.mpr (eq_of_beq e).symm))) hi hj hij hx hy hk hs he he2
def par3S (i j l : Nat) (fa fb fc : DE c D) : DS c := fun De ρ μ => fa ρ μ (fun a μ1 => fb ρ μ1 (fun b μ2 => fc ρ μ2 (fun e μ3 => De.nx (((ρ.set i (.fz a)).set j (.fz b)).set l (.fz e)) μ3) fun e μ' => De.ex e ρ μ') fun e μ' => De.ex e ρ μ') fun e μ' => De.ex e ρ μ'
theorem psd_par3 (i j l : Nat) {x y z : Str} {a b e : Expr} {fa fb fc : DE c D} {px py pz pt pos : Pos} {kt k2 pt2} (ha : PD c a fa) (hb : PD c b fb) (hc : PD c e fc)
    (hne : (y == x) = false := by decide +kernel) (hne2 : (z == x) = false := by decide +kernel) (hne3 : (z == y) = false := by decide +kernel)
    (hst : ∀ env : Env, env.scope.kind = .function → env.kindOf x = some .local → env.kindOf y = some .local → env.kindOf z = some .local → (y == x) = false → (z == x) = false → (z == y) = false → swappedStores [.Tuple [.Name x px, .Name y py, .Name z pz] kt pt] (.Tuple [a, b, e] k2 pt2) env = pure (some [x, y, z]) := by
      intro env h1 h2 h3 h3b h4 h5 h6; simp [swappedStores, blockKind_fn h1, h2, h3, h3b, h4, h5, h6, Expr.pos, List.eraseDups, List.eraseDupsBy, List.eraseDupsBy.loop, foldedForSure, constantsAlone])
    (hi : c.N[i]? = some x := by rfl) (hj : c.N[j]? = some y := by rfl) (hll : c.N[l]? = some z := by rfl) (hij : i ≠ j := by decide) (hil : i ≠ l := by decide) (hjl : j ≠ l := by decide) (hx : c.sc.names.lookup x = some .local := by rfl) (hy : c.sc.names.lookup y = some .local := by rfl) (hz : c.sc.names.lookup z = some .local := by rfl) (hk : c.sc.kind = .function := by rfl)
    (hs : ∀ env, swapsWithSole [.Tuple [.Name x px, .Name y py, .Name z pz] kt pt] (.Tuple [a, b, e] k2 pt2) pos.line env = pure false := by intro _; rfl)
    (he : ∀ env, starEach [a, b, e] env = (false, eval a env) :: starEach [b, e] env := by intro _; rfl) (he2 : ∀ env, starEach [b, e] env = (false, eval b env) :: starEach [e] env := by intro _; rfl) (he3 : ∀ env, starEach [e] env = (false, eval e env) :: starEach [] env := by intro _; rfl) :
    PSd c (.Assign [.Tuple [.Name x px, .Name y py, .Name z pz] kt pt] (.Tuple [a, b, e] k2 pt2) pos) (par3S i j l fa fb fc) := by
  obtain ⟨ta, a1, a2⟩ := ha
  obtain ⟨tb, b1, b2⟩ := hb
  obtain ⟨tc, c1, c2⟩ := hc
  refine ⟨tPar3 i j l (tCons ta (tCons tb (tCons tc tNil))), fun X h => ps_par3 h.cl h.ndX (h.nx hi) (h.nx hj) (h.nx hll) hij hil hjl (by rw [h.hsc]; exact hx) (by rw [h.hsc]; exact hy) (by rw [h.hsc]; exact hz) (pa_cons (a1 X h) (pa_cons (b1 X h) (pa_cons (c1 X h) pa_nil (he3 _)) (he2 _)) (he _))
    (hst _ (by rw [h.hsc]; exact hk) (by show X.env.scope.names.lookup x = _; rw [h.hsc]; exact hx) (by show X.env.scope.names.lookup y = _; rw [h.hsc]; exact hy) (by show X.env.scope.names.lookup z = _; rw [h.hsc]; exact hz) hne hne2 hne3) (hs _), ?_⟩
  intro F H μ ρ σ Dn De m s hf k
  refine a2 F H μ ρ σ _ _ _ m s trivial hf (fun v d F1 H1 μ1 e1 m1 r1 q1 => ?_) fun er F' H' μ' cls dd e m' q x => k.ex er F' H' μ' ρ σ cls dd e.pst m' (s.ev e) q x
  have s1 := s.ev e1
  refine b2 F1 H1 μ1 ρ σ _ _ _ m1 s1 trivial q1 (fun w d2 F2 H2 μ2 e2 m2 r2 q2 => ?_) fun er F' H' μ' cls dd e m' q x => k.ex er F' H' μ' ρ σ cls dd (e1.trans e).pst m' (s1.ev e) q x
  have s2 := s1.ev e2
  refine c2 F2 H2 μ2 ρ σ _ _ _ m2 s2 trivial q2 (fun u d3 F3 H3 μ3 e3 m3 r3 q3 => ?_) fun er F' H' μ' cls dd e m' q x => k.ex er F' H' μ' ρ σ cls dd ((e1.trans e2).trans e).pst m' (s2.ev e) q x
  have s3 := s2.ev e3
  refine ⟨v, w, u, rfl, ?_⟩
  have t1 := s3.store (i := i) (v := v) (sl := .fz d) (r1.mono (e2.fr.trans e3.fr))
  have t2 := t1.store (i := j) (v := w) (sl := .fz d2) (r2.mono e3.fr)
  have t3 := t2.store (i := l) (v := u) (sl := .fz d3) r3
  refine k.nx F3 H3 μ3 _ _ ?_ m3 t3 q3
  have e4 := (((e1.trans e2).trans e3).pst (c := c) (ρ := ρ) (σ := σ))
  refine e4.trans (own_ev fun b h => ?_)
  rcases own_set h with h | ⟨_, co, hco⟩
  · rcases own_set h with h | ⟨_, co, hco⟩
    · rcases own_set h with h | ⟨_, co, hco⟩
      · exact h
      · cases hco
    · cases hco
  · cases hco
def par3SX (i j l : Nat) (a b e : XE D) : XS := thenX a fun x => thenX b fun y => thenX e fun z ρ => some (.nx (((ρ.set i (.fz x)).set j (.fz y)).set l (.fz z)))
theorem xpar3S {i j l : Nat} {a b e : XE D} : (par3S i j l (lf a) (lf b) (lf e) : DS c) = lfS (par3SX i j l a b e) := then_lf fun _ => then_lf fun _ => then_lf fun _ => rfl
end DL

set_option Elab.async false
set_option linter.all false
set_option maxRecDepth 100000
set_option maxHeartbeats 4000000
/-! part DLu -/
namespace L2
open PySem PySem.Spec PyProof.Rows
/-- list + list, wherever they stand -/
def rCatS (K : PySem.W.Frag) : R2 := fun x y H Q => ∃ l b xs zs, x = .ref l ∧ y = .ref b ∧ SqL K H l xs ∧ SqL K H b zs ∧ xs.length + zs.length ≤ sizeLine ∧ ∀ p, H p = none → Q (.ref p) (upd H p (.lst (xs ++ zs)))
theorem op_catS {X : Cx} : OpR X (binaryOp .Add) (rCatS X.K) := by
  intro pins s σ H x y v u Q I rx ry h
  obtain ⟨l, b, xs, zs, rfl, rfl, hH, hB, hz, q⟩ := h
  cases rx
  cases ry
  obtain ⟨its, r, ⟨⟨cls, dd, data, sl⟩, n, ho, hc, hd, hdat⟩, _⟩ := I.list hH
  obtain ⟨its2, r2, ⟨⟨cls2, dd2, data2, sl2⟩, n2, ho2, hc2, hd2, hdat2⟩, _⟩ := I.list hB
  simp only at hc hd hdat hc2 hd2 hdat2
  subst hc hd hdat hc2 hd2 hdat2
  have l1 := r.length
  have l2 := r2.length
  refine concat_meets ⟨_, ho, rfl⟩ ⟨_, ho2, rfl⟩ noFill_list_add seq_list_add PySem.F.slot_list_add PySem.F.entry_list_add (PySem.F.args_list_add_2 _ _) (list_addW l b its.toArray its2.toArray n n2 none none sl sl2 (by rw [List.size_toArray, List.size_toArray]; omega)) ⟨ho, ho2, ?_⟩
  have ea : its.toArray ++ its2.toArray = (its ++ its2).toArray := by simp
  rw [ea]
  exact ⟨.ref _, _, I.lnew (t' := s.toks) (r.append r2) (by rw [List.length_append]; omega), rfl, q _ I.fresh⟩
end L2
namespace DL
open PySem PySem.Spec L2 DM
/-- a deck: where, a great cell's digits left, a lesser cell, the turn -/
structure Dk where
  a : Addr
  x : Int
  y : Int
  t : Int
def Dk.vs (d : Dk) : List V := [.int d.x, .int d.y, .int d.t]
def Dk.nth (d : Dk) : Nat → Int
  | 0 => d.x
  | 1 => d.y
  | _ => d.t
def Dk.set (d : Dk) (i : Nat) (n : Int) : Dk := match i with
  | 0 => { d with x := n }
  | 1 => { d with y := n }
  | _ => { d with t := n }
/-- what a law's memory lets one do -/
structure Deck (M : MM) (K : PySem.W.Frag) where
  dk : M.T → Option Dk
  put : M.T → Dk → M.T
  dk_put : ∀ μ d, dk (put μ d) = some d
  read : ∀ {H μ d}, M.ok H μ → dk μ = some d → H d.a = some (.lst d.vs)
  foot : ∀ {μ d}, dk μ = some d → M.foot μ d.a
  write : ∀ {H μ} {d d' : Dk}, M.ok H μ → dk μ = some d → d'.a = d.a → M.ok (upd H d.a (.lst d'.vs)) (put μ d')
  footw : ∀ {μ} {d d' : Dk} {b}, dk μ = some d → d'.a = d.a → M.foot (put μ d') b → M.foot μ b
  adopt : ∀ {H μ} {d : Dk}, M.ok H μ → H d.a = some (.lst d.vs) → ¬ M.foot μ d.a → M.ok H (put μ d)
  foota : ∀ {μ} {d : Dk} {b}, M.foot (put μ d) b → M.foot μ b ∨ b = d.a
  scrA : M.T → Addr
  scrN : M.T → List Int
  scr : ∀ {H μ}, M.ok H μ → SqL K H (scrA μ) ((scrN μ).map V.int)
  scrA_put : ∀ μ d, scrA (put μ d) = scrA μ
  scrN_put : ∀ μ d, scrN (put μ d) = scrN μ
variable {c : Ctx}
def dkE (S : Deck c.M c.K) (j i : Nat) : DE c D := fun ρ μ Q _ => ∃ d, ρ[j]? = some (Sl.fz (.ob d.a)) ∧ S.dk μ = some d ∧ Q (.int (d.nth i)) μ
theorem dk_at {d : Dk} {i : Nat} (hi : i < 3) : atI d.vs ((i : Nat) : Int) = some (.int (d.nth i)) := by
  match i, hi with
  | 0, _ => rfl
  | 1, _ => rfl
  | 2, _ => rfl
theorem dk_ix {d : Dk} {i : Nat} (hi : i < 3) : ixN d.vs.length ((i : Nat) : Int) = some i := by
  match i, hi with
  | 0, _ => rfl
  | 1, _ => rfl
  | 2, _ => rfl
theorem dk_set {d : Dk} {i : Nat} {n : Int} (hi : i < 3) : d.vs.set i (.int n) = (d.set i n).vs := by
  match i, hi with
  | 0, _ => rfl
  | 1, _ => rfl
  | 2, _ => rfl
theorem dk_seta {d : Dk} {i : Nat} {n : Int} : (d.set i n).a = d.a := by
  unfold Dk.set
  split <;> rfl
theorem rep_ob {F : Hp} {v : V} {a : Addr} (r : Rep F v (.ob a)) : v = .ref a := by cases r; rfl
theorem pd_dk (S : Deck c.M c.K) (j i : Nat) {z : Int} {x : Str} {p p2 pos : Pos} {tk : Nat} (hz : z = ((i : Nat) : Int) := by rfl) (hN : c.N[j]? = some x := by rfl) (hi : i < 3 := by decide) (hv : Vis c.sc x := by first | exact Or.inl rfl | exact Or.inr (Or.inl rfl) | exact Or.inr (Or.inr rfl)) (hd : (x == ("__debug__" : Str)) = false := by decide) (hcd : (x == ("__classdict__" : Str)) = false := by decide) :
    PD c (.Subscript (.Name x p) (.Constant (.int z) tk p2) pos) (dkE S j i) := by
  subst hz
  refine ⟨_, fun X h => pe_ix (r := rIx c.K) (by rw [← h.hK]; exact ix_seq) (pe_var (h.nx hN) (h.vis hv) hd hcd) pe_int (by intro _ _; rfl), fun F H μ ρ σ Q E Qh m s p hf kq ke => ?_⟩
  obtain ⟨d, h1, h2, q⟩ := hf
  obtain ⟨v, h3, h4⟩ := s.fz j _ h1
  obtain rfl := rep_ob h4
  exact ⟨_, h3, .inl ⟨_, _, _, _, rfl, rfl, SqL.of (S.read m.ok h2), dk_at hi, kq _ _ F H μ (Ev.refl _ _ _) m (.int _) q⟩⟩
def dkS (S : Deck c.M c.K) (j i : Nat) (fe : DE c D) : DS c := fun De ρ μ => fe ρ μ (fun v μ1 => ∃ d n, v = .int n ∧ ρ[j]? = some (Sl.fz (.ob d.a)) ∧ S.dk μ1 = some d ∧ De.nx ρ (S.put μ1 (d.set i n))) fun e μ' => De.ex e ρ μ'
theorem psd_dk (S : Deck c.M c.K) (j i : Nat) {z : Int} {x : Str} {e : Expr} {fe : DE c D} {p p2 p3 pos : Pos} {tk : Nat} (he : PD c e fe) (hz : z = ((i : Nat) : Int) := by rfl) (hN : c.N[j]? = some x := by rfl) (hi : i < 3 := by decide) (hv : Vis c.sc x := by first | exact Or.inl rfl | exact Or.inr (Or.inl rfl) | exact Or.inr (Or.inr rfl)) (hd : (x == ("__debug__" : Str)) = false := by decide) (hcd : (x == ("__classdict__" : Str)) = false := by decide)
    (hs : ∀ X, c.In X → swapsWithSole [.Subscript (.Name x p) (.Constant (.int z) tk p2) p3] e pos.line X.env = pure false := by intro _ _; rfl) (hw : ∀ X, c.In X → swappedStores [.Subscript (.Name x p) (.Constant (.int z) tk p2) p3] e X.env = pure none := by intro _ _; rfl)
    (h1 : ∀ env, (assignEach [.Subscript (.Name x p) (.Constant (.int z) tk p2) p3] env).map (·.2) = [assign (.Subscript (.Name x p) (.Constant (.int z) tk p2) p3) env] := by intro _; rfl) :
    PSd c (.Assign [.Subscript (.Name x p) (.Constant (.int z) tk p2) p3] e pos) (dkS S j i fe) := by
  subst hz
  obtain ⟨t, t1, t2⟩ := he
  refine ⟨_, fun X h => ps_asg (t1 X h) (pg_sub (pe_var (h.nx hN) (h.vis hv) hd hcd) pe_int set_list) (hs X h) (hw X h) (h1 _), fun F H μ ρ σ Dn De m s hf k => ?_⟩
  refine t2 F H μ ρ σ _ _ _ m s trivial hf (fun v vd F' H' μ' e m' r q => ?_) fun er F' H' μ' cls dd e m' q x => k.ex er F' H' μ' ρ σ cls dd e.pst m' (s.ev e) q x
  obtain ⟨d, n, rfl, h1, h2, q⟩ := q
  have s' := s.ev e
  obtain ⟨w, h3, h4⟩ := s'.fz j _ h1
  obtain rfl := rep_ob h4
  cases r
  have hr := S.read m'.ok h2
  have ft := S.foot h2
  have ok' := S.write (d' := d.set i n) m'.ok h2 dk_seta
  have e2 : Ev F' H' (c.ft μ') F' (upd H' d.a (.lst (d.set i n).vs)) (c.ft (S.put μ' (d.set i n))) := by
    refine ⟨Same.refl _, fun _ _ _ _ _ => rfl, fun b o h nb => ?_, fun b h => .inl (S.footw h2 dk_seta h), fun b o h => ?_⟩
    · rw [upd_ne fun z => nb (by rw [z]; exact ft)]; exact h
    · by_cases z : b = d.a
      · exact ⟨_, by rw [z]; exact upd_same⟩
      · exact ⟨o, by rw [upd_ne z]; exact h⟩
  have m2 : MOk c.M F' (upd H' d.a (.lst (d.set i n).vs)) (S.put μ' (d.set i n)) := ⟨same_upd' (m'.nf _ ft) m'.fh, ok', fun b h => m'.nf b (S.footw h2 dk_seta h)⟩
  refine ⟨_, h3, _, _, _, i, rfl, rfl, hr, dk_ix hi, ?_⟩
  rw [dk_set hi]
  exact k.nx F' _ _ ρ σ (e.trans e2).pst m2 (s'.ev e2) q
/-- a list of three numbers, just made, becomes the deck -/
def retDk (S : Deck c.M c.K) (fe : DE c Co) : DS c := fun De ρ μ => fe ρ μ (fun co μ1 => ∃ x y t, co = .lst [.int x, .int y, .int t] ∧ ∀ a, De.rt (.ob a) (S.put μ1 ⟨a, x, y, t⟩)) fun e μ' => De.ex e ρ μ'
theorem psd_retDk (S : Deck c.M c.K) {e : Expr} {fe : DE c Co} {pos} (he : PN c e fe) : PSd c (.Return (some e) pos) (retDk S fe) := by
  obtain ⟨t, t1, t2⟩ := he
  refine ⟨tRet t, fun X h => ps_ret (t1 X h), fun F H μ ρ σ Dn De m s hf k => ?_⟩
  refine t2 F H μ ρ σ _ _ _ m s trivial hf (fun v co F' H' μ' e m' r q => ?_) fun er F' H' μ' cls dd e m' q x => k.ex er F' H' μ' ρ σ cls dd e.pst m' (s.ev e) q x
  obtain ⟨x, y, t, rfl, q⟩ := q
  obtain ⟨a, rfl, h0, h1, h2, vs, h3, h4⟩ := r
  have ev : vs = [.int x, .int y, .int t] := h4.ints (ns := [x, y, t])
  subst ev
  have e0 : Ev F H (Pst c μ ρ σ) F' H' (c.ft μ') := e.pst0
  refine k.rt _ _ F' H' (S.put μ' ⟨a, x, y, t⟩) ⟨e0.fr, e0.nw, e0.kp, fun b z => ?_, e0.tr⟩ ⟨m'.fh, S.adopt m'.ok h3 h2, fun b z => ?_⟩ (.ob a) (q a)
  · rcases S.foota z with z | z
    · exact e0.ft b z
    · exact .inr (by rw [z]; exact h0)
  · rcases S.foota z with z | z
    · exact m'.nf b z
    · rw [z]; exact h1
/-- list + script -/
def addScrE (S : Deck c.M c.K) (fa : DE c Co) (fb : DE c D) : DE c Co := bindE fa fun a => bindE fb fun b => fun _ μ Q _ => ∃ ds, a = .lst ds ∧ b = .ob (S.scrA μ) ∧ ds.length + (S.scrN μ).length ≤ sizeLine ∧ Q (.lst (ds ++ (S.scrN μ).map D.int)) μ
theorem pn_addScr (S : Deck c.M c.K) {a b : Expr} {fa : DE c Co} {fb : DE c D} {pos} (ha : PN c a fa) (hb : PD c b fb) : PN c (.BinOp a .Add b pos) (addScrE S fa fb) := by
  have ha := ha.pk
  obtain ⟨ta, a1, a2⟩ := ha
  obtain ⟨tb, b1, b2⟩ := hb
  refine ⟨tOp (rCatS c.K) ta tb, fun X h => pe_op (by rw [← h.hK]; exact op_catS) (a1 X h) (b1 X h), ?_⟩
  refine SndG.bind (tb := fun x σ H Q => tb σ H fun y H2 => rCatS c.K x y H2 Q) (fb := fun a => bindE fb fun b => fun _ μ Q _ => ∃ ds, a = .lst ds ∧ b = .ob (S.scrA μ) ∧ ds.length + (S.scrN μ).length ≤ sizeLine ∧ Q (.lst (ds ++ (S.scrN μ).map D.int)) μ) (fun x co F H μ => RPk c F H μ x co) (fun _ _ _ _ _ _ h => h) a2 Stab.true back_O fun x co => ?_
  refine SndG.bind (tb := fun y σ H Q => rCatS c.K x y H Q) (fb := fun b => fun _ μ Q _ => ∃ ds, co = .lst ds ∧ b = .ob (S.scrA μ) ∧ ds.length + (S.scrN μ).length ≤ sizeLine ∧ Q (.lst (ds ++ (S.scrN μ).map D.int)) μ) (fun y b F _ _ => Rep F y b) (fun _ _ _ _ _ _ h => h) b2 (Stab.true.and Stab.pk) back_O fun y b => ?_
  intro F H μ ρ σ Q E Qh m s p hf kq ke
  obtain ⟨ds, rfl, rfl, hl, q⟩ := hf
  obtain ⟨⟨_, a', rfl, _, vs, h1, r1⟩, rb⟩ := p
  obtain rfl := rep_ob rb
  refine ⟨a', S.scrA μ, vs, _, rfl, rfl, SqL.of h1, S.scr m.ok, by rw [r1.length, List.length_map]; exact hl, newO m (r1.append (RepL.of_ints _)) fun v co F' H' e m' r ec => kq v _ F' H' μ e m' (by rw [← ec]; exact r) q⟩

/-! part DLu -/
structure LT (T0 : Type) where
  sa : Addr
  sn : List Int
  tr : Bool
  dk : Option Dk
  m : T0
/-- how the script stands: tracked, or in the module's own text -/
def Stands (K : PySem.W.Frag) (H : Hp) (tr : Bool) (a : Addr) (xs : List V) : Prop := if tr = true then Rd H a (.lst xs) else ∃ (o : Obj) (its : Array Value) (n : Nat), K.lookup a = some o ∧ o.cls = .type "list" ∧ o.dict = none ∧ o.data = .seq its n ∧ its.size ≤ sizeLine ∧ Vals xs its.toList
theorem Stands.sq {K : PySem.W.Frag} {H : Hp} {tr : Bool} {a : Addr} {xs : List V} (h : Stands K H tr a xs) : SqL K H a xs := by
  unfold Stands at h
  split at h
  · exact .inl h
  · exact .inr h
theorem stands_of {K : PySem.W.Frag} {H : Hp} {a : Addr} {xs : List V} (h : SqL K H a xs) : ∃ tr, Stands K H tr a xs := by
  rcases h with h | h
  · exact ⟨true, h⟩
  · exact ⟨false, h⟩
def lmm (K : PySem.W.Frag) (M0 : MM) : MM where
  T := LT M0.T
  foot := fun μ b => (μ.tr = true ∧ b = μ.sa) ∨ (∃ d, μ.dk = some d ∧ b = d.a) ∨ M0.foot μ.m b
  ok := fun H μ => Stands K H μ.tr μ.sa (μ.sn.map V.int) ∧ (∀ d, μ.dk = some d → H d.a = some (.lst d.vs) ∧ ¬ (μ.tr = true ∧ d.a = μ.sa) ∧ ¬ M0.foot μ.m d.a) ∧ M0.ok H μ.m
  there := by
    intro H μ b h hb
    obtain ⟨h1, h2, h3⟩ := h
    rcases hb with ⟨z, rfl⟩ | ⟨d, hd, rfl⟩ | z
    · unfold Stands at h1
      rw [if_pos z] at h1
      rcases h1 with h | ⟨o, h⟩
      · exact ⟨_, h⟩
      · exact ⟨_, h⟩
    · exact ⟨_, (h2 d hd).1⟩
    · exact M0.there h3 z
  stay := by
    intro H H' μ h k
    obtain ⟨h1, h2, h3⟩ := h
    refine ⟨?_, fun d hd => ⟨?_, (h2 d hd).2⟩, M0.stay h3 fun b hb => k b (.inr (.inr hb))⟩
    · unfold Stands at h1 ⊢
      split at h1
      · rename_i z
        rw [if_pos z]
        have e := k μ.sa (.inl ⟨z, rfl⟩)
        rcases h1 with h | ⟨o, h⟩
        · exact .inl (by rw [e]; exact h)
        · exact .inr ⟨o, by rw [e]; exact h⟩
      · rename_i z
        rw [if_neg z]
        exact h1
    · rw [k d.a (.inr (.inl ⟨d, hd, rfl⟩))]
      exact (h2 d hd).1
  nt := by
    intro H μ b vs h hb e
    obtain ⟨h1, h2, h3⟩ := h
    rcases hb with ⟨z, rfl⟩ | ⟨d, hd, rfl⟩ | z
    · unfold Stands at h1
      rw [if_pos z] at h1
      rcases h1 with h | ⟨o, h⟩
      · rw [h] at e; cases e
      · rw [h] at e; cases e
    · rw [(h2 d hd).1] at e; cases e
    · exact M0.nt h3 z e
  ex := M0.ex
def lmD (K : PySem.W.Frag) (M0 : MM) : Deck (lmm K M0) K where
  dk := fun μ => LT.dk μ
  put := fun μ d => { μ with dk := some d }
  dk_put := fun _ _ => rfl
  read := fun h e => (h.2.1 _ e).1
  foot := fun e => .inr (.inl ⟨_, e, rfl⟩)
  write := by
    intro H μ d d' h e ea
    have hd := h.2.1 d e
    have ne : ∀ b, (lmm K M0).foot { μ with dk := none } b → b ≠ d.a := by
      intro b hb z
      rcases hb with ⟨z1, z2⟩ | ⟨d2, z1, _⟩ | z1
      · exact hd.2.1 ⟨z1, by rw [← z, z2]⟩
      · cases z1
      · exact hd.2.2 (by rw [← z]; exact z1)
    have h0 : (lmm K M0).ok H { μ with dk := none } := ⟨h.1, (fun _ z => nomatch z), h.2.2⟩
    obtain ⟨g1, _, g3⟩ := (lmm K M0).stay (H' := upd H d.a (.lst d'.vs)) h0 fun b hb => upd_ne (ne b hb)
    refine ⟨g1, fun d2 e2 => ?_, g3⟩
    cases e2
    rw [ea]
    exact ⟨upd_same, hd.2⟩
  footw := by
    intro μ d d' b e ea hb
    rcases hb with z | ⟨d2, z1, z2⟩ | z
    · exact .inl z
    · cases z1
      exact .inr (.inl ⟨d, e, by rw [z2, ea]⟩)
    · exact .inr (.inr z)
  adopt := by
    intro H μ d h e nf
    refine ⟨h.1, fun d2 e2 => ?_, h.2.2⟩
    cases e2
    exact ⟨e, fun z => nf (.inl z), fun z => nf (.inr (.inr z))⟩
  foota := by
    intro μ d b hb
    rcases hb with z | ⟨d2, z1, z2⟩ | z
    · exact .inl (.inl z)
    · cases z1
      exact .inr z2
    · exact .inl (.inr (.inr z))
  scrA := fun μ => LT.sa μ
  scrN := fun μ => LT.sn μ
  scr := fun h => h.1.sq
  scrA_put := fun _ _ => rfl
  scrN_put := fun _ _ => rfl
/-- nothing more -/
def mm0 : MM where
  T := Unit
  foot := fun _ _ => False
  ok := fun _ _ => True
  there := fun _ h => h.elim
  stay := fun h _ => h
  nt := fun _ h => h.elim
  ex := fun _ _ _ _ => False
end DL

set_option Elab.async false
set_option linter.all false
set_option maxRecDepth 100000
set_option maxHeartbeats 4000000
/-! part DLv -/
namespace DL
open PySem PySem.Spec L2
theorem e_bindX {α β : Type} {a : XE α} {b : α → XE β} {ρ : En} : bindX a b ρ = (match a ρ with | some (.ok d) => b d ρ | some (.error er) => some (.error er) | none => none) := by refine Eq.trans ?_ (Eq.refl _); kernel_rfl
theorem e_okX {α : Type} {o : Option α} {ρ : En} : okX o ρ = (match o with | some z => some (.ok z) | none => none) := by refine Eq.trans ?_ (Eq.refl _); kernel_rfl
theorem e_varX {i : Nat} {ρ : En} : varX i ρ = (match ρ[i]? with | some (.fz d) => some (.ok d) | _ => none) := by refine Eq.trans ?_ (Eq.refl _); kernel_rfl
theorem e_conX {x : D} {ρ : En} : conX x ρ = some (.ok x) := by refine Eq.trans ?_ (Eq.refl _); kernel_rfl
theorem e_newX {x : Co} {ρ : En} : newX x ρ = some (.ok x) := by refine Eq.trans ?_ (Eq.refl _); kernel_rfl
theorem e_op1X {g : D → Option D} {a : XE D} {ρ : En} : op1X g a ρ = (match a ρ with | some (.ok x) => (match g x with | some z => some (.ok z) | none => none) | some (.error er) => some (.error er) | none => none) := by refine Eq.trans ?_ (Eq.refl _); kernel_rfl
theorem e_op2X {g : D → D → Option D} {a b : XE D} {ρ : En} : op2X g a b ρ = (match a ρ with | some (.ok x) => (match b ρ with | some (.ok y) => (match g x y with | some z => some (.ok z) | none => none) | some (.error er) => some (.error er) | none => none) | some (.error er) => some (.error er) | none => none) := by refine Eq.trans ?_ (Eq.refl _); kernel_rfl
theorem e_andX {a b : XE D} {ρ : En} : andX a b ρ = (match a ρ with | some (.ok d) => onB b (okX (some (.bl false))) d ρ | some (.error er) => some (.error er) | none => none) := by refine Eq.trans ?_ (Eq.refl _); kernel_rfl
theorem e_orX {a b : XE D} {ρ : En} : orX a b ρ = (match a ρ with | some (.ok d) => onB (okX (some (.bl true))) b d ρ | some (.error er) => some (.error er) | none => none) := by refine Eq.trans ?_ (Eq.refl _); kernel_rfl
theorem e_tstX {a : XE D} {ρ : En} : tstX a ρ = (match a ρ with | some (.ok d) => (match blO d with | some z => some (.ok z) | none => none) | some (.error er) => some (.error er) | none => none) := by refine Eq.trans ?_ (Eq.refl _); kernel_rfl
theorem e_condX {α : Type} {t : XE Bool} {y n : XE α} {ρ : En} : condX t y n ρ = (match t ρ with | some (.ok b) => (if b = true then y else n) ρ | some (.error er) => some (.error er) | none => none) := by refine Eq.trans ?_ (Eq.refl _); kernel_rfl
theorem e_andBX {a b : XE Bool} {ρ : En} : andBX a b ρ = condX a b (okX (some false)) ρ := by refine Eq.trans ?_ (Eq.refl _); kernel_rfl
theorem e_orBX {a b : XE Bool} {ρ : En} : orBX a b ρ = condX a (okX (some true)) b ρ := by refine Eq.trans ?_ (Eq.refl _); kernel_rfl
theorem e_notBX {a : XE Bool} {ρ : En} : notBX a ρ = (match a ρ with | some (.ok b) => some (.ok !b) | some (.error er) => some (.error er) | none => none) := by refine Eq.trans ?_ (Eq.refl _); kernel_rfl
theorem e_ifX {t : XE Bool} {y n : XE D} {ρ : En} : ifX t y n ρ = condX t y n ρ := by refine Eq.trans ?_ (Eq.refl _); kernel_rfl
theorem e_chainX {g g' : D → D → Option D} {a b z : XE D} {ρ : En} : chainX g g' a b z ρ = (bindX a fun x => bindX b fun y => bindX (okX ((g x y).bind blO)) fun k => if k = true then op1X (g' y) z else okX (some (.bl false))) ρ := by refine Eq.trans ?_ (Eq.refl _); kernel_rfl
theorem e_nilX {ρ : En} : nilX ρ = some (.ok []) := by refine Eq.trans ?_ (Eq.refl _); kernel_rfl
theorem e_consX {a : XE D} {r : XE (List D)} {ρ : En} : consX a r ρ = (match a ρ with | some (.ok x) => (match r ρ with | some (.ok xs) => some (.ok (x :: xs)) | some (.error er) => some (.error er) | none => none) | some (.error er) => some (.error er) | none => none) := by refine Eq.trans ?_ (Eq.refl _); kernel_rfl
theorem e_tupX {a : XE (List D)} {ρ : En} : tupX a ρ = (match a ρ with | some (.ok ds) => (match lenOk ds (D.tup ds) with | some z => some (.ok z) | none => none) | some (.error er) => some (.error er) | none => none) := by refine Eq.trans ?_ (Eq.refl _); kernel_rfl
theorem e_lstX {a : XE (List D)} {ρ : En} : lstX a ρ = (match a ρ with | some (.ok ds) => (match lenOk ds (Co.lst ds) with | some z => some (.ok z) | none => none) | some (.error er) => some (.error er) | none => none) := by refine Eq.trans ?_ (Eq.refl _); kernel_rfl
theorem e_pkX {a : XE D} {ρ : En} : pkX a ρ = (match a ρ with | some (.ok d) => (match toCo d with | some z => some (.ok z) | none => none) | some (.error er) => some (.error er) | none => none) := by refine Eq.trans ?_ (Eq.refl _); kernel_rfl
theorem e_varPX {i : Nat} {ρ : En} : varPX i ρ = (match ρ[i]?.bind slCo with | some z => some (.ok z) | none => none) := by refine Eq.trans ?_ (Eq.refl _); kernel_rfl
theorem e_opPX {g : D → Co → Option D} {a : XE D} {b : XE Co} {ρ : En} : opPX g a b ρ = (match a ρ with | some (.ok x) => (match b ρ with | some (.ok y) => (match g x y with | some z => some (.ok z) | none => none) | some (.error er) => some (.error er) | none => none) | some (.error er) => some (.error er) | none => none) := by refine Eq.trans ?_ (Eq.refl _); kernel_rfl
theorem e_getX {a : XE Co} {b : XE D} {ρ : En} : getX a b ρ = (match a ρ with | some (.ok x) => (match b ρ with | some (.ok y) => (match getO x y with | some z => some (.ok z) | none => none) | some (.error er) => some (.error er) | none => none) | some (.error er) => some (.error er) | none => none) := by refine Eq.trans ?_ (Eq.refl _); kernel_rfl
theorem e_getDX {a : XE Co} {b x : XE D} {ρ : En} : getDX a b x ρ = (match a ρ with | some (.ok co) => (if co.isD = true then bindX b fun k => bindX x fun y => okX (pick co k y) else fun _ => none) ρ | some (.error er) => some (.error er) | none => none) := by refine Eq.trans ?_ (Eq.refl _); kernel_rfl
theorem e_ixPX {a : XE Co} {b : XE D} {ρ : En} : ixPX a b ρ = (match a ρ with | some (.ok x) => (match b ρ with | some (.ok y) => (match ixPD x y with | some z => some (.ok z) | none => none) | some (.error er) => some (.error er) | none => none) | some (.error er) => some (.error er) | none => none) := by refine Eq.trans ?_ (Eq.refl _); kernel_rfl
theorem e_nonePX {ρ : En} : nonePX ρ = some (.ok none) := by refine Eq.trans ?_ (Eq.refl _); kernel_rfl
theorem e_somePX {a : XE D} {ρ : En} : somePX a ρ = (match a ρ with | some (.ok d) => (match (intO d).map some with | some z => some (.ok z) | none => none) | some (.error er) => some (.error er) | none => none) := by refine Eq.trans ?_ (Eq.refl _); kernel_rfl
theorem e_slTX {a : XE D} {l h : XE (Option Int)} {ρ : En} : slTX a l h ρ = (match a ρ with | some (.ok x) => (match l ρ with | some (.ok y) => (match h ρ with | some (.ok z) => (match slTD x y z with | some w => some (.ok w) | none => none) | some (.error er) => some (.error er) | none => none) | some (.error er) => some (.error er) | none => none) | some (.error er) => some (.error er) | none => none) := by refine Eq.trans ?_ (Eq.refl _); kernel_rfl
theorem e_slLX {a : XE Co} {l h : XE (Option Int)} {ρ : En} : slLX a l h ρ = (match a ρ with | some (.ok x) => (match l ρ with | some (.ok y) => (match h ρ with | some (.ok z) => (match slLO x y z with | some w => some (.ok w) | none => none) | some (.error er) => some (.error er) | none => none) | some (.error er) => some (.error er) | none => none) | some (.error er) => some (.error er) | none => none) := by refine Eq.trans ?_ (Eq.refl _); kernel_rfl
theorem e_pnX {a : XE Co} {ρ : En} : pnX a ρ = (match a ρ with | some (.ok co) => (match lstO co with | some z => some (.ok z) | none => none) | some (.error er) => some (.error er) | none => none) := by refine Eq.trans ?_ (Eq.refl _); kernel_rfl
theorem e_fzX {a : XE D} {ρ : En} : fzX a ρ = (match a ρ with | some (.ok d) => some (.ok (Sl.fz d)) | some (.error er) => some (.error er) | none => none) := by refine Eq.trans ?_ (Eq.refl _); kernel_rfl
theorem e_owX {a : XE Co} {ρ : En} : owX a ρ = (match a ρ with | some (.ok d) => some (.ok (Sl.ow d)) | some (.error er) => some (.error er) | none => none) := by refine Eq.trans ?_ (Eq.refl _); kernel_rfl
theorem e_seqX {a : XE D} {ρ : En} : seqX a ρ = (match a ρ with | some (.ok d) => (match itemsD d with | some z => some (.ok z) | none => none) | some (.error er) => some (.error er) | none => none) := by refine Eq.trans ?_ (Eq.refl _); kernel_rfl
theorem e_rg1X {a : XE D} {ρ : En} : rg1X a ρ = (match a ρ with | some (.ok d) => (match rg1O d with | some z => some (.ok z) | none => none) | some (.error er) => some (.error er) | none => none) := by refine Eq.trans ?_ (Eq.refl _); kernel_rfl
theorem e_rg2X {a b : XE D} {ρ : En} : rg2X a b ρ = (match a ρ with | some (.ok x) => (match b ρ with | some (.ok y) => (match rg2O x y with | some z => some (.ok z) | none => none) | some (.error er) => some (.error er) | none => none) | some (.error er) => some (.error er) | none => none) := by refine Eq.trans ?_ (Eq.refl _); kernel_rfl
theorem e_enumX {a : XE D} {ρ : En} : enumX a ρ = (match a ρ with | some (.ok d) => (match enumO d with | some z => some (.ok z) | none => none) | some (.error er) => some (.error er) | none => none) := by refine Eq.trans ?_ (Eq.refl _); kernel_rfl
theorem e_zipX {a b : XE D} {ρ : En} : zipX a b ρ = (match a ρ with | some (.ok x) => (match b ρ with | some (.ok y) => (match zipO x y with | some z => some (.ok z) | none => none) | some (.error er) => some (.error er) | none => none) | some (.error er) => some (.error er) | none => none) := by refine Eq.trans ?_ (Eq.refl _); kernel_rfl
theorem e_itemsTX {a : XE D} {ρ : En} : itemsTX a ρ = (match a ρ with | some (.ok d) => (match itemsTO d with | some z => some (.ok z) | none => none) | some (.error er) => some (.error er) | none => none) := by refine Eq.trans ?_ (Eq.refl _); kernel_rfl
theorem e_d1TX {a b : XE D} {ρ : En} : d1TX a b ρ = (match a ρ with | some (.ok x) => (match b ρ with | some (.ok y) => (match d1TO x y with | some z => some (.ok z) | none => none) | some (.error er) => some (.error er) | none => none) | some (.error er) => some (.error er) | none => none) := by refine Eq.trans ?_ (Eq.refl _); kernel_rfl
theorem e_dictTX {a : XE D} {ρ : En} : dictTX a ρ = (match a ρ with | some (.ok d) => (match dictTO d with | some z => some (.ok z) | none => none) | some (.error er) => some (.error er) | none => none) := by refine Eq.trans ?_ (Eq.refl _); kernel_rfl
theorem e_sortedSetX {a : XE D} {ρ : En} : sortedSetX a ρ = (match a ρ with | some (.ok d) => (match sortedSetO d with | some z => some (.ok z) | none => none) | some (.error er) => some (.error er) | none => none) := by refine Eq.trans ?_ (Eq.refl _); kernel_rfl
theorem e_zipStarX {a : XE D} {ρ : En} : zipStarX a ρ = (match a ρ with | some (.ok d) => (match zipStarO d with | some z => some (.ok z) | none => none) | some (.error er) => some (.error er) | none => none) := by refine Eq.trans ?_ (Eq.refl _); kernel_rfl
theorem e_yesX {ρ : En} : yesX ρ = some (.ok true) := by refine Eq.trans ?_ (Eq.refl _); kernel_rfl
theorem e_lcX {vs : List Nat} {fi : XE (List D)} {g : D → En → Option En} {ft : XE Bool} {fe : XE D} {ρ : En} : lcX vs fi g ft fe ρ = (match fi ρ with | some (.ok ds) => (match lcWX g ft fe (wipeEn ρ vs) ds [] with | some z => some (.ok z) | none => none) | some (.error er) => some (.error er) | none => none) := by refine Eq.trans ?_ (Eq.refl _); kernel_rfl
theorem e_callX {x : List D → Rs D} {a : XE (List D)} {ρ : En} : callX x a ρ = (match a ρ with | some (.ok ds) => x ds | some (.error er) => some (.error er) | none => none) := by refine Eq.trans ?_ (Eq.refl _); kernel_rfl
theorem e_nextX {ρ : En} : nextX ρ = some (.nx ρ) := by refine Eq.trans ?_ (Eq.refl _); kernel_rfl
theorem e_breakX {ρ : En} : breakX ρ = some (.bk ρ) := by refine Eq.trans ?_ (Eq.refl _); kernel_rfl
theorem e_retNX {ρ : En} : retNX ρ = some (.rt .non) := by refine Eq.trans ?_ (Eq.refl _); kernel_rfl
theorem e_neverX {ρ : En} : neverX ρ = none := by refine Eq.trans ?_ (Eq.refl _); kernel_rfl
theorem e_seqSX {f g : XS} {ρ : En} : seqSX f g ρ = (match f ρ with | some (.nx ρ') => g ρ' | r => r) := by refine Eq.trans ?_ (Eq.refl _); kernel_rfl
theorem e_thenX {α : Type} {a : XE α} {f : α → XS} {ρ : En} : thenX a f ρ = (match a ρ with | some (.ok d) => f d ρ | some (.error er) => some (.ex er ρ) | none => none) := by refine Eq.trans ?_ (Eq.refl _); kernel_rfl
theorem e_retSX {a : XE D} {ρ : En} : retSX a ρ = (match a ρ with | some (.ok d) => some (.rt d) | some (.error er) => some (.ex er ρ) | none => none) := by refine Eq.trans ?_ (Eq.refl _); kernel_rfl
theorem e_exprSX {a : XE D} {ρ : En} : exprSX a ρ = (match a ρ with | some (.ok d) => some (.nx ρ) | some (.error er) => some (.ex er ρ) | none => none) := by refine Eq.trans ?_ (Eq.refl _); kernel_rfl
theorem e_ifSX {t : XE Bool} {f g : XS} {ρ : En} : ifSX t f g ρ = (match t ρ with | some (.ok b) => (if b = true then f else g) ρ | some (.error er) => some (.ex er ρ) | none => none) := by refine Eq.trans ?_ (Eq.refl _); kernel_rfl
theorem e_setSX {i : Nat} {a : XE Sl} {ρ : En} : setSX i a ρ = (match a ρ with | some (.ok d) => some (.nx (ρ.set i d)) | some (.error er) => some (.ex er ρ) | none => none) := by refine Eq.trans ?_ (Eq.refl _); kernel_rfl
theorem e_asgSX {g : D → En → Option En} {a : XE D} {ρ : En} : asgSX g a ρ = (match a ρ with | some (.ok d) => (g d ρ).map DL.Fin.nx | some (.error er) => some (.ex er ρ) | none => none) := by refine Eq.trans ?_ (Eq.refl _); kernel_rfl
theorem e_appSX {i : Nat} {a : XE D} {ρ : En} : appSX i a ρ = (match ρ[i]? with | some (.ow (.lst ds)) => thenX a (fun d ρ => if ds.length < sizeLine then some (.nx (ρ.set i (.ow (.lst (ds ++ [d]))))) else none) ρ | _ => none) := by refine Eq.trans ?_ (Eq.refl _); kernel_rfl
theorem e_putSX {i : Nat} {k v : XE D} {ρ : En} : putSX i k v ρ = (match ρ[i]? with | some (.ow co) => thenX v (fun x => thenX k fun y ρ => (putCo co y x).map fun co' => .nx (ρ.set i (.ow co'))) ρ | _ => none) := by refine Eq.trans ?_ (Eq.refl _); kernel_rfl
theorem e_freezeSX {i : Nat} {f : XS} {ρ : En} : freezeSX i f ρ = f (freezeEn ρ i) := by refine Eq.trans ?_ (Eq.refl _); kernel_rfl
theorem e_parSX {i j : Nat} {a b : XE Sl} {ρ : En} : parSX i j a b ρ = (match a ρ with | some (.ok x) => (match b ρ with | some (.ok y) => some (.nx ((ρ.set i x).set j y)) | some (.error er) => some (.ex er ρ) | none => none) | some (.error er) => some (.ex er ρ) | none => none) := by refine Eq.trans ?_ (Eq.refl _); kernel_rfl
theorem e_par3SX {i j l : Nat} {a b e : XE D} {ρ : En} : par3SX i j l a b e ρ = (match a ρ with | some (.ok x) => (match b ρ with | some (.ok y) => (match e ρ with | some (.ok z) => some (.nx (((ρ.set i (.fz x)).set j (.fz y)).set l (.fz z))) | some (.error er) => some (.ex er ρ) | none => none) | some (.error er) => some (.ex er ρ) | none => none) | some (.error er) => some (.ex er ρ) | none => none) := by refine Eq.trans ?_ (Eq.refl _); kernel_rfl
theorem e_forSX {fi : XE (List D)} {g : D → En → Option En} {body : XS} {ρ : En} : forSX fi g body ρ = (match fi ρ with | some (.ok ds) => forWX g body ds ρ | some (.error er) => some (.ex er ρ) | none => none) := by refine Eq.trans ?_ (Eq.refl _); kernel_rfl
theorem e_forNil {g : D → En → Option En} {body : XS} {ρ : En} : forWX g body [] ρ = some (.nx ρ) := by refine Eq.trans ?_ (Eq.refl _); kernel_rfl
theorem e_ite {α : Type} {p : Prop} [Decidable p] {a b : XE α} {ρ : En} : (if p then a else b) ρ = if p then a ρ else b ρ := by split <;> rfl
theorem e_iteS {p : Prop} [Decidable p] {a b : XS} {ρ : En} : (if p then a else b) ρ = if p then a ρ else b ρ := by split <;> rfl
theorem e_onBt {α : Type} {y n : XE α} {ρ : En} {b : Bool} : onB y n (.bl b) ρ = if b = true then y ρ else n ρ := by cases b <;> rfl
theorem lenOk_small {α : Type} {ds : List D} {x : α} (h : ds.length ≤ 1000000) : lenOk ds x = some x := by
  unfold lenOk
  rw [if_pos (by rw [sizeLine_eq]; omega)]
theorem e_blO {b : Bool} : blO (.bl b) = some b := by refine Eq.trans ?_ (Eq.refl _); kernel_rfl
theorem e_itemsT {ds : List D} : itemsD (.tup ds) = some ds := by refine Eq.trans ?_ (Eq.refl _); kernel_rfl
theorem e_itemsL {ds : List D} : itemsD (.lst ds) = some ds := by refine Eq.trans ?_ (Eq.refl _); kernel_rfl
theorem e_add {i j : Int} : addD (.int i) (.int j) = some (.int (i + j)) := by refine Eq.trans ?_ (Eq.refl _); kernel_rfl
theorem e_sub {i j : Int} : subD (.int i) (.int j) = some (.int (i - j)) := by refine Eq.trans ?_ (Eq.refl _); kernel_rfl
theorem e_intB {p : Int → Int → Bool} {i j : Int} : intB p (.int i) (.int j) = some (.bl (p i j)) := by refine Eq.trans ?_ (Eq.refl _); kernel_rfl
theorem e_lenT {ds : List D} : lenD (.tup ds) = some (.int (ds.length : Nat)) := by refine Eq.trans ?_ (Eq.refl _); kernel_rfl
theorem e_lenL {ds : List D} : lenD (.lst ds) = some (.int (ds.length : Nat)) := by refine Eq.trans ?_ (Eq.refl _); kernel_rfl
theorem e_leI {i j : Int} : leI (.int i) (.int j) = some (.bl (decide (i ≤ j))) := by refine Eq.trans ?_ (Eq.refl _); kernel_rfl
theorem e_fnX {np n : Nat} {fb : XS} {ds : List D} : fnX np n fb ds = if ds.length = np then (match fb (startEn n ds) with | some (.nx _) => some (.ok .non) | some (.rt d) => some (.ok d) | some (.ex e _) => some (.error e) | _ => none) else none := by refine Eq.trans ?_ (Eq.refl _); kernel_rfl
theorem e_isi_int_non : isi_int .non = some (.bl false) := by refine Eq.trans ?_ (Eq.refl _); kernel_rfl
theorem e_isi_int_bl {b : Bool} : isi_int (.bl b) = some (.bl true) := by refine Eq.trans ?_ (Eq.refl _); kernel_rfl
theorem e_isi_int_int {i : Int} : isi_int (.int i) = some (.bl true) := by refine Eq.trans ?_ (Eq.refl _); kernel_rfl
theorem e_isi_int_str {x : Str} : isi_int (.str x) = some (.bl false) := by refine Eq.trans ?_ (Eq.refl _); kernel_rfl
theorem e_isi_int_tup {ds : List D} : isi_int (.tup ds) = some (.bl false) := by refine Eq.trans ?_ (Eq.refl _); kernel_rfl
theorem e_isi_int_lst {ds : List D} : isi_int (.lst ds) = some (.bl false) := by refine Eq.trans ?_ (Eq.refl _); kernel_rfl
theorem e_isi_bool_non : isi_bool .non = some (.bl false) := by refine Eq.trans ?_ (Eq.refl _); kernel_rfl
theorem e_isi_bool_bl {b : Bool} : isi_bool (.bl b) = some (.bl true) := by refine Eq.trans ?_ (Eq.refl _); kernel_rfl
theorem e_isi_bool_int {i : Int} : isi_bool (.int i) = some (.bl false) := by refine Eq.trans ?_ (Eq.refl _); kernel_rfl
theorem e_isi_bool_str {x : Str} : isi_bool (.str x) = some (.bl false) := by refine Eq.trans ?_ (Eq.refl _); kernel_rfl
theorem e_isi_bool_tup {ds : List D} : isi_bool (.tup ds) = some (.bl false) := by refine Eq.trans ?_ (Eq.refl _); kernel_rfl
theorem e_isi_bool_lst {ds : List D} : isi_bool (.lst ds) = some (.bl false) := by refine Eq.trans ?_ (Eq.refl _); kernel_rfl
theorem e_isi_str_non : isi_str .non = some (.bl false) := by refine Eq.trans ?_ (Eq.refl _); kernel_rfl
theorem e_isi_str_bl {b : Bool} : isi_str (.bl b) = some (.bl false) := by refine Eq.trans ?_ (Eq.refl _); kernel_rfl
theorem e_isi_str_int {i : Int} : isi_str (.int i) = some (.bl false) := by refine Eq.trans ?_ (Eq.refl _); kernel_rfl
theorem e_isi_str_str {x : Str} : isi_str (.str x) = some (.bl true) := by refine Eq.trans ?_ (Eq.refl _); kernel_rfl
theorem e_isi_str_tup {ds : List D} : isi_str (.tup ds) = some (.bl false) := by refine Eq.trans ?_ (Eq.refl _); kernel_rfl
theorem e_isi_str_lst {ds : List D} : isi_str (.lst ds) = some (.bl false) := by refine Eq.trans ?_ (Eq.refl _); kernel_rfl
theorem e_isi_tuple_non : isi_tuple .non = some (.bl false) := by refine Eq.trans ?_ (Eq.refl _); kernel_rfl
theorem e_isi_tuple_bl {b : Bool} : isi_tuple (.bl b) = some (.bl false) := by refine Eq.trans ?_ (Eq.refl _); kernel_rfl
theorem e_isi_tuple_int {i : Int} : isi_tuple (.int i) = some (.bl false) := by refine Eq.trans ?_ (Eq.refl _); kernel_rfl
theorem e_isi_tuple_str {x : Str} : isi_tuple (.str x) = some (.bl false) := by refine Eq.trans ?_ (Eq.refl _); kernel_rfl
theorem e_isi_tuple_tup {ds : List D} : isi_tuple (.tup ds) = some (.bl true) := by refine Eq.trans ?_ (Eq.refl _); kernel_rfl
theorem e_isi_tuple_lst {ds : List D} : isi_tuple (.lst ds) = some (.bl false) := by refine Eq.trans ?_ (Eq.refl _); kernel_rfl
theorem e_isi_list_non : isi_list .non = some (.bl false) := by refine Eq.trans ?_ (Eq.refl _); kernel_rfl
theorem e_isi_list_bl {b : Bool} : isi_list (.bl b) = some (.bl false) := by refine Eq.trans ?_ (Eq.refl _); kernel_rfl
theorem e_isi_list_int {i : Int} : isi_list (.int i) = some (.bl false) := by refine Eq.trans ?_ (Eq.refl _); kernel_rfl
theorem e_isi_list_str {x : Str} : isi_list (.str x) = some (.bl false) := by refine Eq.trans ?_ (Eq.refl _); kernel_rfl
theorem e_isi_list_tup {ds : List D} : isi_list (.tup ds) = some (.bl false) := by refine Eq.trans ?_ (Eq.refl _); kernel_rfl
theorem e_isi_list_lst {ds : List D} : isi_list (.lst ds) = some (.bl true) := by refine Eq.trans ?_ (Eq.refl _); kernel_rfl
theorem e_isN_non : isN .non = true := by refine Eq.trans ?_ (Eq.refl _); kernel_rfl
theorem e_isN_bl {b : Bool} : isN (.bl b) = false := by refine Eq.trans ?_ (Eq.refl _); kernel_rfl
theorem e_isN_int {i : Int} : isN (.int i) = false := by refine Eq.trans ?_ (Eq.refl _); kernel_rfl
theorem e_isN_str {x : Str} : isN (.str x) = false := by refine Eq.trans ?_ (Eq.refl _); kernel_rfl
theorem e_isN_tup {ds : List D} : isN (.tup ds) = false := by refine Eq.trans ?_ (Eq.refl _); kernel_rfl
theorem e_isN_lst {ds : List D} : isN (.lst ds) = false := by refine Eq.trans ?_ (Eq.refl _); kernel_rfl
theorem e_not {b : Bool} : notD (.bl b) = some (.bl !b) := by refine Eq.trans ?_ (Eq.refl _); kernel_rfl
end DL

set_option Elab.async false
set_option linter.all false
set_option maxRecDepth 100000
set_option maxHeartbeats 4000000
/-! part PLa -/
namespace DL
open PySem PySem.Spec L2 DM

/-! part PLa -/
theorem intsOf_map : ∀ k : List Int, intsOf (k.map D.int) = some k
  | [] => rfl
  | i :: k => by
    show (intsOf (k.map D.int)).map (i :: ·) = _
    rw [intsOf_map k]; rfl
def keyI' (k : List Int) : List Key := k.map Sum.inl
theorem keysOf_ints : ∀ k : List Int, keysOf (k.map D.int) = some (keyI' k)
  | [] => rfl
  | i :: k => by
    show (match keyOf (.int i), keysOf (k.map D.int) with
      | some k, some ks => some (k :: ks)
      | _, _ => none) = _
    rw [keysOf_ints k]; rfl
theorem keyI_inj {a b : List Int} (h : keyI' a = keyI' b) : a = b := by
  unfold keyI' at h
  exact List.map_inj_right (fun x y e => Sum.inl.inj e) |>.mp h
theorem tupOf_inj {a b : List Int} (h : tupOf a = tupOf b) : a = b := by
  unfold tupOf at h
  have h := D.tup.inj h
  exact List.map_inj_right (fun x y e => D.int.inj e) |>.mp h
mutual
/-- flat data, of a depth -/
def D.fits : Nat → D → Bool
  | _, .non => true
  | _, .bl _ => true
  | _, .int _ => true
  | n + 1, .tup xs => D.fitsL n xs
  | n + 1, .lst xs => D.fitsL n xs
  | _, _ => false
def D.fitsL : Nat → List D → Bool
  | _, [] => true
  | n, x :: xs => D.fits n x && D.fitsL n xs
end
mutual
theorem fits_ok : ∀ (n : Nat) (d : D), d.fits n = true → d.flat = true ∧ PyData.canLay0 d.py = true ∧ PyData.depth d.py ≤ n
  | _, .non, _ => ⟨rfl, rfl, Nat.zero_le _⟩
  | _, .bl _, _ => ⟨rfl, rfl, Nat.zero_le _⟩
  | _, .int _, _ => ⟨rfl, rfl, Nat.zero_le _⟩
  | 0, .tup xs, h => by rw [D.fits] at h; cases h; all_goals (intros; contradiction)
  | 0, .lst xs, h => by rw [D.fits] at h; cases h; all_goals (intros; contradiction)
  | n + 1, .tup xs, h => by
    rw [D.fits] at h
    obtain ⟨a, b, c⟩ := fits_okL n xs h
    refine ⟨by rw [D.flat]; exact a, ?_, ?_⟩
    · rw [D.py]; exact b
    · rw [D.py]; exact Nat.succ_le_succ c
  | n + 1, .lst xs, h => by
    rw [D.fits] at h
    obtain ⟨a, b, c⟩ := fits_okL n xs h
    refine ⟨by rw [D.flat]; exact a, ?_, ?_⟩
    · rw [D.py]; exact b
    · rw [D.py]; exact Nat.succ_le_succ c
  | _, .str _, h => by rw [D.fits] at h; cases h; all_goals (intros; contradiction)
  | _, .dK _, h => by rw [D.fits] at h; cases h; all_goals (intros; contradiction)
  | _, .dT _, h => by rw [D.fits] at h; cases h; all_goals (intros; contradiction)
  | _, .ob _, h => by rw [D.fits] at h; cases h; all_goals (intros; contradiction)
theorem fits_okL : ∀ (n : Nat) (ds : List D), D.fitsL n ds = true → D.flats ds = true ∧ PyData.canLayAll0 (D.pys ds) = true ∧ PyData.depthAll (D.pys ds) ≤ n
  | _, [], _ => ⟨rfl, rfl, Nat.zero_le _⟩
  | n, x :: xs, h => by
    rw [D.fitsL] at h
    have h := Bool.and_eq_true_iff.mp h
    obtain ⟨a, b, c⟩ := fits_ok n x h.1
    obtain ⟨a', b', c'⟩ := fits_okL n xs h.2
    rw [D.flats, D.pys]
    exact ⟨by rw [a, a']; rfl, by show (PyData.canLay0 x.py && PyData.canLayAll0 (D.pys xs)) = true; rw [b, b']; rfl, Nat.max_le.mpr ⟨c, c'⟩⟩
end
theorem shaped_of {d : D} {n : Nat} (h : d.fits n = true) (hn : n ≤ 64) : d.flat = true ∧ SeqAt.shaped d.py = true := by
  obtain ⟨a, b, c⟩ := fits_ok n d h
  exact ⟨a, by show (PyData.canLay0 d.py && decide (PyData.depth d.py ≤ 64)) = true; rw [b, decide_eq_true (Nat.le_trans c hn)]; rfl⟩
theorem eqOk_fits {a b : D} {n : Nat} (ha : a.fits n = true) (hb : b.fits n = true) (hn : n ≤ 64) : eqOk a b = true := by
  obtain ⟨a1, a2⟩ := shaped_of ha hn
  obtain ⟨b1, b2⟩ := shaped_of hb hn
  unfold eqOk
  rw [a1, a2, b1, b2]; rfl
theorem fits_ints (n : Nat) : ∀ k : List Int, D.fitsL n (k.map D.int) = true
  | [] => rfl
  | i :: k => by
    show (D.fits n (.int i) && D.fitsL n (k.map D.int)) = true
    rw [fits_ints n k]
    cases n <;> rfl
theorem fits_tup (n : Nat) (k : List Int) : (tupOf k).fits (n + 1) = true := by
  unfold tupOf
  rw [D.fits]; exact fits_ints n k
theorem fits_tups (n : Nat) : ∀ ks : List (List Int), D.fitsL (n + 1) (ks.map tupOf) = true
  | [] => rfl
  | k :: ks => by
    show (D.fits (n + 1) (tupOf k) && D.fitsL (n + 1) (ks.map tupOf)) = true
    rw [fits_tup, fits_tups n ks]; rfl
/-- ss != [] -/
theorem ne_nil (ss : List (List Int)) : neD (.lst (ss.map tupOf)) (.lst []) = some (.bl (!ss.isEmpty)) := by
  have h1 : (D.lst (ss.map tupOf)).fits 3 = true := by rw [D.fits]; exact fits_tups 1 ss
  have h2 : (D.lst []).fits 3 = true := rfl
  unfold neD
  rw [eqOk_fits h1 h2 (by decide)]
  cases ss with
  | nil => rfl
  | cons s ss => rfl

/-! part PLa -/
theorem lc_map {i : Nat} {fe : XE D} {ρ0 : En} (f : D → D) : ∀ (ds acc : List D), (∀ d ∈ ds, fe (ρ0.set i (.fz d)) = some (.ok (f d))) → acc.length + ds.length ≤ sizeLine → lcWX (tgN i) yesX fe ρ0 ds acc = some (.lst (acc ++ ds.map f))
  | [], acc, _, _ => by rw [lcWX, List.map_nil, List.append_nil]
  | d :: ds, acc, h, hl => by
    rw [List.length_cons] at hl
    have e1 : tgN i d ρ0 = some (ρ0.set i (.fz d)) := rfl
    have e2 : yesX (ρ0.set i (.fz d)) = some (.ok true) := rfl
    rw [lcWX, e1]
    simp only [e2, h d List.mem_cons_self]
    rw [if_pos (by omega), lc_map f ds _ (fun x hx => h x (List.mem_cons_of_mem _ hx)) (by rw [List.length_append, List.length_singleton]; omega), List.map_cons, List.append_assoc]
    rfl
theorem lc_filter {i : Nat} {ft : XE Bool} {fe : XE D} {ρ0 : En} (t : D → Bool) (f : D → D) : ∀ (ds acc : List D), (∀ d ∈ ds, ft (ρ0.set i (.fz d)) = some (.ok (t d))) → (∀ d ∈ ds, t d = true → fe (ρ0.set i (.fz d)) = some (.ok (f d))) → acc.length + ds.length ≤ sizeLine →
    lcWX (tgN i) ft fe ρ0 ds acc = some (.lst (acc ++ (ds.filter t).map f))
  | [], acc, _, _, _ => by rw [lcWX, List.filter_nil, List.map_nil, List.append_nil]
  | d :: ds, acc, h1, h2, hl => by
    rw [List.length_cons] at hl
    have e1 : tgN i d ρ0 = some (ρ0.set i (.fz d)) := rfl
    have hd := h1 d List.mem_cons_self
    rw [lcWX, e1]
    cases ht : t d with
    | true =>
      rw [ht] at hd
      simp only [hd, h2 d List.mem_cons_self ht]
      rw [if_pos (by omega), lc_filter t f ds _ (fun x hx => h1 x (List.mem_cons_of_mem _ hx)) (fun x hx => h2 x (List.mem_cons_of_mem _ hx)) (by rw [List.length_append, List.length_singleton]; omega), List.filter_cons, ht, if_pos rfl, List.map_cons, List.append_assoc]
      rfl
    | false =>
      rw [ht] at hd
      simp only [hd]
      rw [lc_filter t f ds _ (fun x hx => h1 x (List.mem_cons_of_mem _ hx)) (fun x hx => h2 x (List.mem_cons_of_mem _ hx)) (by omega), List.filter_cons, ht, if_neg (by simp)]

/-! part PLa -/
def has (fnd : List (List Key × V)) (k : List Int) : Bool := (valV fnd (keyI' k)).isSome
theorem valV_mem {κ : Type} [DecidableEq κ] {kvs : List (κ × V)} {k : κ} {v : V} (h : valV kvs k = some v) : (k, v) ∈ kvs := by
  unfold valV at h
  obtain ⟨p, h1, rfl⟩ := Option.map_eq_some_iff.mp h
  have := List.find?_some h1
  have e : p.1 = k := of_decide_eq_true this
  have m := List.mem_of_find?_eq_some h1
  rw [← e]; exact m
theorem valV_of_mem {κ : Type} [DecidableEq κ] {kvs : List (κ × V)} {k : κ} {v : V} (h : (k, v) ∈ kvs) : ∃ w, valV kvs k = some w := by
  unfold valV
  cases e : kvs.find? fun kv => decide (kv.1 = k) with
  | none =>
    have := List.find?_eq_none.mp e (k, v) h
    simp at this
  | some p => exact ⟨p.2, rfl⟩
theorem has_iff {fnd : List (List Key × V)} {k : List Int} : has fnd k = true ↔ keyI' k ∈ fnd.map (·.1) := by
  unfold has
  constructor
  · intro h
    obtain ⟨v, e⟩ := Option.isSome_iff_exists.mp h
    exact List.mem_map.mpr ⟨_, valV_mem e, rfl⟩
  · intro h
    obtain ⟨p, hp, e⟩ := List.mem_map.mp h
    obtain ⟨w, e2⟩ := valV_of_mem (k := p.1) (v := p.2) hp
    rw [← e, e2]; rfl
theorem putK_keys {κ : Type} [DecidableEq κ] {kvs : List (κ × V)} {k : κ} {v : V} : (putK kvs k v).map (·.1) = if k ∈ kvs.map (·.1) then kvs.map (·.1) else kvs.map (·.1) ++ [k] := by
  unfold putK
  by_cases h : (kvs.any fun kv => decide (kv.1 = k)) = true
  · rw [if_pos h]
    have hm : k ∈ kvs.map (·.1) := by
      obtain ⟨p, hp, e⟩ := List.any_eq_true.mp h
      exact List.mem_map.mpr ⟨p, hp, of_decide_eq_true e⟩
    rw [if_pos hm, List.map_map]
    refine List.map_congr_left fun p _ => ?_
    show (if p.1 = k then (p.1, v) else p).1 = p.1
    split <;> rfl
  · rw [if_neg h]
    have hm : k ∉ kvs.map (·.1) := fun z => by
      obtain ⟨p, hp, e⟩ := List.mem_map.mp z
      exact h (List.any_eq_true.mpr ⟨p, hp, decide_eq_true e⟩)
    rw [if_neg hm, List.map_append]
    rfl
theorem putK_mem {κ : Type} [DecidableEq κ] {kvs : List (κ × V)} {k : κ} {v : V} {p : κ × V} (h : p ∈ putK kvs k v) : p ∈ kvs ∨ p = (k, v) := by
  unfold putK at h
  split at h
  · obtain ⟨q, hq, e⟩ := List.mem_map.mp h
    by_cases z : q.1 = k
    · rw [if_pos z] at e
      exact .inr (by rw [← e, z])
    · rw [if_neg z] at e
      exact .inl (by rw [← e]; exact hq)
  · rcases List.mem_append.mp h with h | h
    · exact .inl h
    · exact .inr (List.mem_singleton.mp h)
theorem putK_nodup {κ : Type} [DecidableEq κ] {kvs : List (κ × V)} {k : κ} {v : V} (h : (kvs.map (·.1)).Nodup) : ((putK kvs k v).map (·.1)).Nodup := by
  rw [putK_keys]
  split
  · exact h
  · rename_i hn
    refine List.nodup_append.mpr ⟨h, by simp, fun a ha b hb e => ?_⟩
    rw [List.mem_singleton] at hb
    exact hn (by rw [← hb, ← e]; exact ha)
theorem inCo_dT (k : List Int) (fnd : List (List Key × V)) : inCo (tupOf k) (.dT fnd) = some (has fnd k) := by
  show (lookCo (.dT fnd) (tupOf k)).map Option.isSome = _
  show ((keysOf (k.map D.int)).map fun k => valV fnd k).map Option.isSome = _
  rw [keysOf_ints]; rfl
theorem getO_dT {k : List Int} {fnd : List (List Key × V)} {n : Int} (h : valV fnd (keyI' k) = some (.int n)) : getO (.dT fnd) (tupOf k) = some (.int n) := by
  unfold getO
  show (match (keysOf (k.map D.int)).map fun k => valV fnd k with
    | some (some v) => ofV v
    | _ => none) = _
  rw [keysOf_ints]
  show (match some (valV fnd (keyI' k)) with
    | some (some v) => ofV v
    | _ => none) = _
  rw [h]; rfl
theorem putCo_dT {k : List Int} {fnd : List (List Key × V)} {n : Int} (h : fnd.length < sizeLine) : putCo (.dT fnd) (tupOf k) (.int n) = some (.dT (putK fnd (keyI' k) (.int n))) := by
  show (match keysOf (k.map D.int), toV (.int n) with
      | some k, some v => if fnd.length < sizeLine then some (Co.dT (putK fnd k v)) else none
      | _, _ => none) = _
  rw [keysOf_ints]
  show (if fnd.length < sizeLine then some (Co.dT (putK fnd (keyI' k) (.int n))) else none) = _
  rw [if_pos h]
theorem nodup_sub {β : Type} [DecidableEq β] : ∀ {ys zs : List β}, ys.Nodup → (∀ y ∈ ys, y ∈ zs) → ys.length ≤ zs.length
  | [], _, _, _ => Nat.zero_le _
  | y :: ys, zs, hn, h => by
    obtain ⟨h1, h2⟩ := List.nodup_cons.mp hn
    have hy := h y List.mem_cons_self
    have := nodup_sub (zs := zs.erase y) h2 fun x hx => (List.mem_erase_of_ne fun e => h1 (by rw [← e]; exact hx)).mpr (h x (List.mem_cons_of_mem _ hx))
    rw [List.length_erase_of_mem hy] at this
    have hp := List.length_pos_of_mem hy
    rw [List.length_cons]
    omega
theorem nodup_le {α β : Type} [DecidableEq β] (f : α → β) {xs : List α} {ys : List β} (hn : ys.Nodup) (h : ∀ y ∈ ys, ∃ x ∈ xs, f x = y) : ys.length ≤ xs.length := by
  have := nodup_sub (zs := xs.map f) hn fun y hy => by
    obtain ⟨x, hx, e⟩ := h y hy
    exact List.mem_map.mpr ⟨x, hx, e⟩
  rwa [List.length_map] at this
end DL

set_option Elab.async false
set_option linter.all false
set_option maxRecDepth 100000
set_option maxHeartbeats 4000000
/-! part Lcon -/
namespace HK
open PySem PySem.Spec L2 DL DM
variable {M : MM} {K : PySem.W.Frag}
def C__law_deck (S : Deck M K) : DSp M := fun ds μ Q E => ∃ cell turn : Int, ds = [.int cell, .int turn] ∧ ∀ a x y, 0 ≤ y → y < 2147483579 → Q (.ob a) (S.put μ ⟨a, x, y, turn⟩)
/-- a deck that can be drawn from -/
structure DkOk (d : Dk) : Prop where
  y0 : 0 ≤ d.y
  y1 : d.y < 2147483579
  t0 : 0 ≤ d.t
  t1 : d.t < 2 ^ 38
structure DkTo (d d' : Dk) : Prop where
  a : d'.a = d.a
  y : d'.y = d.y
  lo : d.t ≤ d'.t
  hi : d'.t ≤ d.t + 1
def C__law_pick (S : Deck M K) : DSp M := fun ds μ Q E => ∃ (d : Dk) (n : Int), ds = [.ob d.a, .int n] ∧ S.dk μ = some d ∧ DkOk d ∧ 0 < n ∧ n < 1073741824 ∧ ∀ r d', 0 ≤ r → r < n → DkTo d d' → Q (.int r) (S.put μ d')
def C__law_one (S : Deck M K) : DSp M := fun ds μ Q E => ∃ (d : Dk) (xs : List D), ds = [.ob d.a, .lst xs] ∧ S.dk μ = some d ∧ DkOk d ∧ xs ≠ [] ∧ xs.length < 1073741824 ∧ ∀ x ∈ xs, ∀ d', DkTo d d' → Q x (S.put μ d')
def C_law (S : Deck M K) : DSp M := fun ds μ Q E => ds = [.ob (S.scrA μ)] ∧ (S.scrN μ).length ≤ 63 ∧ ∀ μ', Q (.bl true) μ'
end HK

set_option Elab.async false
set_option linter.all false
set_option maxRecDepth 100000
set_option maxHeartbeats 4000000
/-! part Ltool -/
namespace HK
open PySem PySem.Spec L2 DL DM
theorem cut_take {α : Type} (xs : List α) (n : Nat) : cutD xs none (some ((n : Nat) : Int)) = xs.take n := by
  have h1 : HT.sIx xs.length 0 none = 0 := rfl
  have h2 : HT.sIx xs.length xs.length (some ((n : Nat) : Int)) = min n xs.length := by
    unfold HT.sIx
    simp only
    split <;> omega
  unfold cutD
  rw [h1, h2, List.drop_zero, Nat.sub_zero]
  by_cases h : n ≤ xs.length
  · rw [Nat.min_eq_left h]
  · rw [Nat.min_eq_right (by omega), List.take_length, List.take_of_length_le (by omega)]
section
variable {c : DL.Ctx}
theorem lf_ok {α : Type} {g : XE α} {ρ : En} {d : α} {μ : c.T} {Q : α → c.T → Prop} {E : c.M.Er → c.T → Prop} (h : g ρ = some (.ok d)) (q : Q d μ) : (lf g : DE c α) ρ μ Q E := by
  unfold lf
  rw [h]
  exact q
theorem lfS_nx {g : XS} {De : DEnds c} {ρ ρ' : En} {μ : c.T} (h : g ρ = some (.nx ρ')) (q : De.nx ρ' μ) : (lfS g : DS c) De ρ μ := by
  unfold lfS
  rw [h]
  exact q
theorem lfS_rt {g : XS} {De : DEnds c} {ρ : En} {d : D} {μ : c.T} (h : g ρ = some (.rt d)) (q : De.rt d μ) : (lfS g : DS c) De ρ μ := by
  unfold lfS
  rw [h]
  exact q
/-- a loop by what holds ahead of each turn -/
theorem forW_by {g : D → En → Option En} {body : DS c} {De : DEnds c} (I : Nat → En → c.T → Prop) {ds : List D} {ρ : En} {μ : c.T}
    (step : ∀ i d (ρ : En) (μ : c.T) (De' : DEnds c), ds[i]? = some d → I i ρ μ → De'.rt = De.rt → De'.ex = De.ex → (∀ ρ2 μ2, I (i + 1) ρ2 μ2 → De'.nx ρ2 μ2) → ∃ ρ', g d ρ = some ρ' ∧ body De' ρ' μ)
    (h0 : I 0 ρ μ) (hn : ∀ ρ2 μ2, I ds.length ρ2 μ2 → De.nx ρ2 μ2) : forW g body De ds ρ μ := by
  have key : ∀ (es : List D) (i : Nat) (ρ : En) (μ : c.T), es = ds.drop i → i ≤ ds.length → I i ρ μ → forW g body De es ρ μ := by
    intro es
    induction es with
    | nil =>
      intro i ρ μ h hi h1
      have : ds.length - i = 0 := by rw [← List.length_drop, ← h]; rfl
      have e : i = ds.length := by omega
      subst e
      exact hn _ _ h1
    | cons d es ih =>
      intro i ρ μ h hi h1
      have hlt : i < ds.length := by
        have : (d :: es).length = ds.length - i := by rw [h, List.length_drop]
        simp only [List.length_cons] at this
        omega
      rw [List.drop_eq_getElem_cons hlt] at h
      injection h with h2 h3
      refine step i d ρ μ _ (by rw [List.getElem?_eq_getElem hlt, h2]) h1 rfl rfl fun ρ2 μ2 q => ih (i + 1) ρ2 μ2 h3 hlt q
  exact key ds 0 ρ μ rfl (Nat.zero_le _) h0
/-- a comprehension by what holds ahead of each turn -/
theorem lcW_by {g : D → En → Option En} {fe : DE c D} {ρ0 : En} {Q : Co → c.T → Prop} (I : List D → c.T → Prop) {ds : List D} {μ : c.T} (hl : ds.length ≤ 10000)
    (step : ∀ d ∈ ds, ∀ (acc : List D) (μ : c.T) (Q' : D → c.T → Prop), acc.length < ds.length → I acc μ → (∀ y μ2, I (acc ++ [y]) μ2 → Q' y μ2) → ∃ ρ', g d ρ0 = some ρ' ∧ fe ρ' μ Q' (fun _ _ => False))
    (h0 : I [] μ) (hn : ∀ acc μ2, acc.length = ds.length → I acc μ2 → Q (.lst acc) μ2) : lcW g (lf yesX) fe ρ0 Q ds [] μ := by
  have key : ∀ (es : List D) (acc : List D) (μ : c.T), (∀ d ∈ es, d ∈ ds) → acc.length + es.length = ds.length → I acc μ → lcW g (lf yesX) fe ρ0 Q es acc μ := by
    intro es
    induction es with
    | nil =>
      intro acc μ _ h h1
      exact hn _ _ (by simpa using h) h1
    | cons d es ih =>
      intro acc μ hs h h1
      simp only [List.length_cons] at h
      obtain ⟨ρ', e1, e2⟩ := step d (hs d (by simp)) acc μ (fun y μ2 => acc.length < sizeLine ∧ lcW g (lf yesX) fe ρ0 Q es (acc ++ [y]) μ2) (by omega) h1 fun y μ2 q => ⟨by rw [sizeLine_eq]; omega, ih _ _ (fun d hd => hs d (by simp [hd])) (by simp; omega) q⟩
      refine ⟨ρ', e1, ?_⟩
      refine lf_ok (d := true) rfl ?_
      exact e2
  exact key ds [] μ (fun _ h => h) (by simp) h0

/-! part Ltool -/
theorem st_pure {g : XS} {k : DS c} {De : DEnds c} {ρ ρ' : En} {μ : c.T} (h : g ρ = some (.nx ρ')) (q : k De ρ' μ) : seqS (lfS g) k De ρ μ := lfS_nx h q
theorem st_set {i : Nat} {a : DE c Sl} {k : DS c} {De : DEnds c} {ρ : En} {μ : c.T} (q : a ρ μ (fun sl μ' => k De (ρ.set i sl) μ') fun e μ' => De.ex e ρ μ') : seqS (setS i a) k De ρ μ := q
theorem st_fz {a : DE c D} {ρ : En} {μ : c.T} {Q : Sl → c.T → Prop} {E : c.M.Er → c.T → Prop} (q : a ρ μ (fun d μ' => Q (.fz d) μ') E) : fzE a ρ μ Q E := q
theorem st_ow {a : DE c Co} {ρ : En} {μ : c.T} {Q : Sl → c.T → Prop} {E : c.M.Er → c.T → Prop} (q : a ρ μ (fun d μ' => Q (.ow d) μ') E) : owE a ρ μ Q E := q
theorem st_asg {g : D → En → Option En} {a : DE c D} {k : DS c} {De : DEnds c} {ρ : En} {μ : c.T} (q : a ρ μ (fun d μ' => ∃ ρ', g d ρ = some ρ' ∧ k De ρ' μ') fun e μ' => De.ex e ρ μ') : seqS (asgS g a) k De ρ μ := q
theorem st_for {fi : DE c (List D)} {g : D → En → Option En} {b k : DS c} {De : DEnds c} {ρ : En} {μ : c.T} (q : fi ρ μ (fun ds μ' => forW g b { De with nx := fun ρ' μ' => k De ρ' μ' } ds ρ μ') fun e μ' => De.ex e ρ μ') : seqS (forS fi g b) k De ρ μ := q
theorem st_for1 {fi : DE c (List D)} {g : D → En → Option En} {b : DS c} {De : DEnds c} {ρ : En} {μ : c.T} (q : fi ρ μ (fun ds μ' => forW g b De ds ρ μ') fun e μ' => De.ex e ρ μ') : forS fi g b De ρ μ := q
theorem st_op2 {g : D → D → Option D} {a b : DE c D} {ρ : En} {μ : c.T} {Q : D → c.T → Prop} {E : c.M.Er → c.T → Prop} (q : a ρ μ (fun x μ1 => b ρ μ1 (fun y μ2 => ∃ d, g x y = some d ∧ Q d μ2) E) E) : op2 g a b ρ μ Q E := q
theorem st_op1 {g : D → Option D} {a : DE c D} {ρ : En} {μ : c.T} {Q : D → c.T → Prop} {E : c.M.Er → c.T → Prop} (q : a ρ μ (fun x μ1 => ∃ d, g x = some d ∧ Q d μ1) E) : op1 g a ρ μ Q E := q
theorem st_call {C : DSp c.M} {a : DE c (List D)} {ρ : En} {μ : c.T} {Q : D → c.T → Prop} {E : c.M.Er → c.T → Prop} (q : a ρ μ (fun ds μ1 => C ds μ1 Q E) E) : callE C a ρ μ Q E := q
theorem st_cons {a : DE c D} {r : DE c (List D)} {ρ : En} {μ : c.T} {Q : List D → c.T → Prop} {E : c.M.Er → c.T → Prop} (q : a ρ μ (fun x μ1 => r ρ μ1 (fun xs μ2 => Q (x :: xs) μ2) E) E) : consE a r ρ μ Q E := q
theorem st_if {t : DE c Bool} {f g k : DS c} {De : DEnds c} {ρ : En} {μ : c.T} (q : t ρ μ (fun b μ' => (if b = true then f else g) { De with nx := fun ρ' μ' => k De ρ' μ' } ρ μ') fun e μ' => De.ex e ρ μ') : seqS (ifS t f g) k De ρ μ := by
  have e : (fun (b : Bool) μ' => (if b = true then f else g) { De with nx := fun ρ' μ' => k De ρ' μ' } ρ μ') = fun (b : Bool) μ' => if b = true then f { De with nx := fun ρ' μ' => k De ρ' μ' } ρ μ' else g { De with nx := fun ρ' μ' => k De ρ' μ' } ρ μ' := by
    funext b μ'
    cases b <;> rfl
  show t ρ μ _ _
  rw [← e]
  exact q
theorem st_pn {a : DE c Co} {ρ : En} {μ : c.T} {Q : D → c.T → Prop} {E : c.M.Er → c.T → Prop} (q : a ρ μ (fun co μ' => ∃ ds, co = .lst ds ∧ Q (.lst ds) μ') E) : pnE a ρ μ Q E := q
theorem st_seq {a : DE c D} {ρ : En} {μ : c.T} {Q : List D → c.T → Prop} {E : c.M.Er → c.T → Prop} (q : a ρ μ (fun d μ' => ∃ ds, itemsD d = some ds ∧ Q ds μ') E) : seqE a ρ μ Q E := q
theorem st_ret {a : DE c D} {De : DEnds c} {ρ : En} {μ : c.T} (q : a ρ μ De.rt fun e μ' => De.ex e ρ μ') : retS a De ρ μ := q
theorem st_lfC {x : List D → Rs D} {ds : List D} {μ : c.T} {Q : D → c.T → Prop} {E : c.M.Er → c.T → Prop} {d : D} (h : x ds = some (.ok d)) (q : Q d μ) : (lfC x : DSp c.M) ds μ Q E := by
  unfold lfC
  rw [h]
  exact q
theorem st_lc {vs : List Nat} {fi : DE c (List D)} {g : D → En → Option En} {ft : DE c Bool} {fe : DE c D} {ρ : En} {μ : c.T} {Q : Co → c.T → Prop} {E : c.M.Er → c.T → Prop} (q : fi ρ μ (fun ds μ' => lcW g ft fe (wipeEn ρ vs) Q ds [] μ') E) : lcE vs fi g ft fe ρ μ Q E := q
/-- ([..] + script)[:n] -/
theorem st_script (S : Deck c.M c.K) {xs : List D} {n : Nat} {ρ : En} {μ : c.T} {Q : List D → c.T → Prop} {E : c.M.Er → c.T → Prop} {i : Nat} (hs : ρ[i]? = some (.fz (.ob (S.scrA μ)))) (hl : xs.length + (S.scrN μ).length ≤ 1000) (a : XE Co) (ha : a ρ = some (.ok (.lst xs))) (h : XE (Option Int)) (hh : h ρ = some (.ok (some ((n : Nat) : Int))))
    (q : Q ((xs ++ (S.scrN μ).map D.int).take n) μ) : seqE (pnE (slLE (addScrE S (lf a) (lf (varX i))) (lf nonePX) (lf h))) ρ μ Q E := by
  refine st_seq (st_pn ?_)
  unfold slLE bindE
  unfold addScrE bindE
  refine lf_ok ha ?_
  refine lf_ok (d := D.ob (S.scrA μ)) (by rw [e_varX, hs]) ?_
  refine ⟨xs, rfl, rfl, by rw [sizeLine_eq]; omega, ?_⟩
  refine lf_ok (d := none) rfl ?_
  refine lf_ok hh ?_
  refine ⟨_, rfl, _, rfl, _, rfl, ?_⟩
  have e : cutD (xs ++ (S.scrN μ).map D.int) none (some ((n : Nat) : Int)) = (xs ++ (S.scrN μ).map D.int).take n := cut_take _ _
  rw [e]
  exact q
end
/-- the deck at a, at most t1 turns on -/
def DK {M : MM} {K : PySem.W.Frag} (S : Deck M K) (μ : M.T) (a : Addr) (t1 : Int) : Prop := ∃ d, S.dk μ = some d ∧ d.a = a ∧ 0 ≤ d.y ∧ d.y < 2147483579 ∧ 0 ≤ d.t ∧ d.t ≤ t1
theorem DK.mono {M : MM} {K : PySem.W.Frag} {S : Deck M K} {μ : M.T} {a : Addr} {t1 t2 : Int} (h : DK S μ a t1) (ht : t1 ≤ t2) : DK S μ a t2 := by
  obtain ⟨d, h1, h2, h3, h4, h5, h6⟩ := h
  exact ⟨d, h1, h2, h3, h4, h5, by omega⟩
section
variable {c : DL.Ctx} (S : Deck c.M c.K)
theorem deck_use {as : XE (List D)} {ρ : En} {μ : c.T} {cell turn : Int} {Q : D → c.T → Prop} {E : c.M.Er → c.T → Prop} (h : as ρ = some (.ok [.int cell, .int turn])) (h0 : 0 ≤ turn) (k : ∀ a μ', DK S μ' a turn → Q (.ob a) μ') : (callE (C__law_deck S) (lf as)) ρ μ Q E := by
  unfold callE bindE
  refine lf_ok h ?_
  exact ⟨cell, turn, rfl, fun a x y h1 h2 => k a _ ⟨_, S.dk_put _ _, rfl, h1, h2, h0, Int.le_refl _⟩⟩
theorem pick_use {as : XE (List D)} {ρ : En} {μ : c.T} {a : Addr} {n t1 : Int} {Q : D → c.T → Prop} {E : c.M.Er → c.T → Prop} (hd : DK S μ a t1) (h : as ρ = some (.ok [.ob a, .int n])) (ht : t1 < 200000000000) (n0 : 0 < n) (n1 : n < 1073741824)
    (k : ∀ r μ', 0 ≤ r → r < n → DK S μ' a (t1 + 1) → Q (.int r) μ') : (callE (C__law_pick S) (lf as)) ρ μ Q E := by
  unfold callE bindE
  obtain ⟨d, h1, h2, h3, h4, h5, h6⟩ := hd
  subst h2
  refine lf_ok h ⟨d, n, rfl, h1, ⟨h3, h4, h5, by omega⟩, n0, n1, fun r d' r0 r1 to => k r _ r0 r1 ⟨d', S.dk_put _ _, to.a, by rw [to.y]; exact h3, by rw [to.y]; exact h4, ?_, ?_⟩⟩
  · have := to.lo; omega
  · have := to.hi; omega
theorem one_use {as : XE (List D)} {ρ : En} {μ : c.T} {a : Addr} {xs : List D} {t1 : Int} {Q : D → c.T → Prop} {E : c.M.Er → c.T → Prop} (hd : DK S μ a t1) (h : as ρ = some (.ok [.ob a, .lst xs])) (ht : t1 < 200000000000) (n0 : xs ≠ []) (n1 : xs.length < 1073741824)
    (k : ∀ x ∈ xs, ∀ μ', DK S μ' a (t1 + 1) → Q x μ') : (callE (C__law_one S) (lf as)) ρ μ Q E := by
  unfold callE bindE
  obtain ⟨d, h1, h2, h3, h4, h5, h6⟩ := hd
  subst h2
  refine lf_ok h ⟨d, xs, rfl, h1, ⟨h3, h4, h5, by omega⟩, n0, n1, fun x hx d' to => k x hx _ ⟨d', S.dk_put _ _, to.a, by rw [to.y]; exact h3, by rw [to.y]; exact h4, ?_, ?_⟩⟩
  · have := to.lo; omega
  · have := to.hi; omega
end
end HK

set_option Elab.async false
set_option linter.all false
set_option maxRecDepth 100000
set_option maxHeartbeats 0
namespace HK
open PySem PySem.Spec PyProof.Rows L2
def top (i : Nat) : Stmt := PySem.Challenge.pw_mendring_k04_whole_rules_of_dijkstra.main.body.getD i (.Pass ⟨0, 0, 0, 0⟩)
abbrev s_is_within : Stmt := top 12
abbrev s_is_line : Stmt := top 13
abbrev s_is_part : Stmt := top 14
abbrev s_are_rules_value : Stmt := top 15
abbrev s_power : Stmt := top 16
abbrev s_is_size : Stmt := top 17
abbrev s_is_standing : Stmt := top 18
abbrev s_need_rules : Stmt := top 19
abbrev s_need_size : Stmt := top 20
abbrev s_need_standing : Stmt := top 21
abbrev s_need_way : Stmt := top 22
abbrev s_entry_of : Stmt := top 23
abbrev s_movers_of : Stmt := top 24
abbrev s_moved_by : Stmt := top 25
abbrev s_lots_by : Stmt := top 26
abbrev s_steps_of : Stmt := top 27
abbrev s_standings_of : Stmt := top 28
abbrev s_dijkstra_of : Stmt := top 29
abbrev s_dijkstra : Stmt := top 30
abbrev s_movers : Stmt := top 31
abbrev s_right_at : Stmt := top 33
abbrev s_worths_of : Stmt := top 34
abbrev s_need_both : Stmt := top 35
abbrev s_is_right : Stmt := top 36
abbrev s_mends : Stmt := top 37
abbrev s_longest : Stmt := top 39
abbrev s_counts_of : Stmt := top 43
abbrev s_plain_steps : Stmt := top 44
abbrev s_product : Stmt := top 45
abbrev s_is_closed : Stmt := top 46
abbrev s_can_die : Stmt := top 47
abbrev s_need_count : Stmt := top 48
abbrev s_fewest_movers : Stmt := top 49
abbrev s_can_be_dead : Stmt := top 50
abbrev s__law_deck : Stmt := top 52
abbrev s__law_pick : Stmt := top 53
abbrev s__law_one : Stmt := top 54
abbrev s__law_fits : Stmt := top 55
abbrev s__law_right : Stmt := top 56
abbrev s_law : Stmt := top 57
def mkD (n : Str) (s : Stmt) : He.DefD := ⟨(n, none), n, n, defArgs s, defBody s, defScope s, [], []⟩
end HK

set_option Elab.async false
set_option linter.all false
set_option maxRecDepth 100000
set_option maxHeartbeats 4000000
namespace HK
open PySem PySem.Spec L2 DL
structure Tx (G : Gx) : Prop where
  f_all : G.mg "all" = none
  f_any : G.mg "any" = none
  f_bool : G.mg "bool" = none
  f_dict : G.mg "dict" = none
  f_enumerate : G.mg "enumerate" = none
  f_int : G.mg "int" = none
  f_isinstance : G.mg "isinstance" = none
  f_len : G.mg "len" = none
  f_list : G.mg "list" = none
  f_max : G.mg "max" = none
  f_min : G.mg "min" = none
  f_range : G.mg "range" = none
  f_set : G.mg "set" = none
  f_sorted : G.mg "sorted" = none
  f_str : G.mg "str" = none
  f_tuple : G.mg "tuple" = none
  f_zip : G.mg "zip" = none
  c_MOST_COUNTED : ∃ t, G.mg "MOST_COUNTED" = some (.int 40 t)
  c_MOST_HOUSES : ∃ t, G.mg "MOST_HOUSES" = some (.int 10 t)
  c_MOST_NUMBERS : ∃ t, G.mg "MOST_NUMBERS" = some (.int 6 t)
  c_MOST_SIZE : ∃ t, G.mg "MOST_SIZE" = some (.int 1000000000000000000000000000000 t)
  c_MOST_STANDINGS : ∃ t, G.mg "MOST_STANDINGS" = some (.int 729 t)
  c_WAYS : GTup G.mg G.K "WAYS" ["one", "some", "all"]
  d_is_within : FdX G "is_within" s_is_within
  d_is_line : FdX G "is_line" s_is_line
  d_is_part : FdX G "is_part" s_is_part
  d_are_rules_value : FdX G "are_rules_value" s_are_rules_value
  d_power : FdX G "power" s_power
  d_is_size : FdX G "is_size" s_is_size
  d_is_standing : FdX G "is_standing" s_is_standing
  d_need_rules : FdX G "need_rules" s_need_rules
  d_need_size : FdX G "need_size" s_need_size
  d_need_standing : FdX G "need_standing" s_need_standing
  d_need_way : FdX G "need_way" s_need_way
  d_entry_of : FdX G "entry_of" s_entry_of
  d_movers_of : FdX G "movers_of" s_movers_of
  d_moved_by : FdX G "moved_by" s_moved_by
  d_lots_by : FdX G "lots_by" s_lots_by
  d_steps_of : FdX G "steps_of" s_steps_of
  d_standings_of : FdX G "standings_of" s_standings_of
  d_dijkstra_of : FdX G "dijkstra_of" s_dijkstra_of
  d_dijkstra : FdX G "dijkstra" s_dijkstra
  d_movers : FdX G "movers" s_movers
  d_right_at : FdX G "right_at" s_right_at
  d_worths_of : FdX G "worths_of" s_worths_of
  d_need_both : FdX G "need_both" s_need_both
  d_is_right : FdX G "is_right" s_is_right
  d_mends : FdX G "mends" s_mends
  d_longest : FdX G "longest" s_longest
  d_counts_of : FdX G "counts_of" s_counts_of
  d_plain_steps : FdX G "plain_steps" s_plain_steps
  d_product : FdX G "product" s_product
  d_is_closed : FdX G "is_closed" s_is_closed
  d_can_die : FdX G "can_die" s_can_die
  d_need_count : FdX G "need_count" s_need_count
  d_fewest_movers : FdX G "fewest_movers" s_fewest_movers
  d_can_be_dead : FdX G "can_be_dead" s_can_be_dead
  d__law_deck : FdX G "_law_deck" s__law_deck
  d__law_pick : FdX G "_law_pick" s__law_pick
  d__law_one : FdX G "_law_one" s__law_one
  d__law_fits : FdX G "_law_fits" s__law_fits
  d__law_right : FdX G "_law_right" s__law_right
  d_law : FdX G "law" s_law
/-! part W1 -/
abbrev N_is_within : List Str := ["value", "low", "high"]
abbrev P_is_within : List Str := ["value", "low", "high"]
def xb_is_within : XS :=
  (retSX (andX (op1X isi_int (varX 0)) (andX (op1X notD (op1X isi_bool (varX 0))) (chainX leI leI (varX 1) (varX 0) (varX 2)))))
def x_is_within : List D → Rs D := fnX 3 3 xb_is_within
theorem sc_is_within : FnScope N_is_within P_is_within (defScope s_is_within) := ⟨rfl, rfl, rfl, by decide +kernel, rfl, by decide +kernel, by decide +kernel⟩
theorem w_is_within {G : Gx} (T : Tx G)  (W : WX) : PSsd (defCtx G N_is_within (defScope s_is_within) 0 W) (defBody s_is_within) (lfS xb_is_within) :=
  (pssd_one (PSd.eq (psd_ret (PD.eq (pd_and (PD.eq (pd_isi_int (PD.eq (pd_var 0) xvar) T.f_isinstance T.f_int) xop1) (PD.eq (pd_and (PD.eq (pd_not (PD.eq (pd_isi_bool (PD.eq (pd_var 0) xvar) T.f_isinstance T.f_bool) xop1)) xop1) (pd_one (PD.eq (pd_lele (PD.eq (pd_var 1) xvar) (PD.eq (pd_var 0) xvar) (PD.eq (pd_var 2) xvar)) xchain))) xand)) xand)) xretS))
theorem d_is_within {G : Gx} (T : Tx G) : FnD G 1 "is_within" (lfC x_is_within) := by
  obtain ⟨f, fd, h1, h2⟩ := T.d_is_within
  exact fn_X (ps := P_is_within) h1 h2 sc_is_within (fun _ _ _ _ _ _ us hl => match us, hl with | [_, _, _], _ => rfl) fun W => w_is_within T  W

/-! part W1 -/
abbrev N_is_line : List Str := ["value", "many", "entry"]
abbrev P_is_line : List Str := ["value", "many"]
def xb_is_line : XS :=
  (seqSX (ifSX (orBX (notBX (tstX (op1X isi_tuple (varX 0)))) (tstX (op2X neD (op1X lenD (varX 0)) (varX 1)))) (retSX (conX (.bl false))) nextX) (retSX (op1X allD (pnX (lcX [2] (seqX (varX 0)) (tgN 2) yesX (orX (op1X (fun d => some (.bl (isN d))) (varX 2)) (callX x_is_within (consX (varX 2) (consX (conX (.int 0)) (consX (op2X subD (varX 1) (conX (.int 1))) nilX))))))))))
def x_is_line : List D → Rs D := fnX 2 3 xb_is_line
theorem sc_is_line : FnScope N_is_line P_is_line (defScope s_is_line) := ⟨rfl, rfl, rfl, by decide +kernel, rfl, by decide +kernel, by decide +kernel⟩
theorem w_is_line {G : Gx} (T : Tx G) (h_is_within : FnD G 1 "is_within" (lfC x_is_within)) (W : WX) : PSsd (defCtx G N_is_line (defScope s_is_line) 1 W) (defBody s_is_line) (lfS xb_is_line) :=
  (PSsd.eq (pssd_cons (PSd.eq (psd_if (PBw.pb (PBw.eq (pbw_or (PB.eq (pb_not (PB.eq (pb_val (PD.eq (pd_isi_tuple (PD.eq (pd_var 0) xvar) T.f_isinstance T.f_tuple) xop1)) xtst)) xnotB) (pbw_or1 (PB.eq (pb_ne (PD.eq (pd_len (PD.eq (pd_var 0) xvar) T.f_len) xop1) (PD.eq (pd_var 1) xvar)) ((congrArg tst xop2).trans xtst)))) xorB)) (pssd_one (PSd.eq (psd_ret (PD.eq pd_bl xcon)) xretS)) (PSsd.eq pssd_nil xnext)) xifS) (pssd_one (PSd.eq (psd_ret (PD.eq (pd_all (pn_lf (pn_lcX [("entry", 2)] (PId.eq (pid_seq (PD.eq (pd_var 0) xvar)) xseq) (pgd_name 2) (PTsd.eq ptsd_nil xyes) (PD.eq (pd_or (PD.eq (pd_isN (PD.eq (pd_var 2) xvar)) xop1) (pd_one (PD.eq (pd_call h_is_within (PAs.eq (pas_cons (PD.eq (pd_var 2) xvar) (PAs.eq (pas_cons (PD.eq pd_int xcon) (PAs.eq (pas_cons (PD.eq (pd_sub (PD.eq (pd_var 1) xvar) (PD.eq pd_int xcon)) xop2) (PAs.eq pas_nil xnil)) xcons)) xcons)) xcons)) xcall))) xor))) T.f_all) xop1)) xretS))) xseqS)
theorem d_is_line {G : Gx} (T : Tx G) : FnD G 2 "is_line" (lfC x_is_line) := by
  obtain ⟨f, fd, h1, h2⟩ := T.d_is_line
  exact fn_X (ps := P_is_line) h1 h2 sc_is_line (fun _ _ _ _ _ _ us hl => match us, hl with | [_, _], _ => rfl) fun W => w_is_line T (d_is_within T) W

/-! part W1 -/
abbrev N_is_part : List Str := ["value", "many", "line"]
abbrev P_is_part : List Str := ["value", "many"]
def xb_is_part : XS :=
  (retSX (andX (op1X isi_tuple (varX 0)) (andX (op2X eqD (op1X lenD (varX 0)) (varX 1)) (op1X allD (pnX (lcX [2] (seqX (varX 0)) (tgN 2) yesX (callX x_is_line (consX (varX 2) (consX (varX 1) nilX)))))))))
def x_is_part : List D → Rs D := fnX 2 3 xb_is_part
theorem sc_is_part : FnScope N_is_part P_is_part (defScope s_is_part) := ⟨rfl, rfl, rfl, by decide +kernel, rfl, by decide +kernel, by decide +kernel⟩
theorem w_is_part {G : Gx} (T : Tx G) (h_is_line : FnD G 2 "is_line" (lfC x_is_line)) (W : WX) : PSsd (defCtx G N_is_part (defScope s_is_part) 2 W) (defBody s_is_part) (lfS xb_is_part) :=
  (pssd_one (PSd.eq (psd_ret (PD.eq (pd_and (PD.eq (pd_isi_tuple (PD.eq (pd_var 0) xvar) T.f_isinstance T.f_tuple) xop1) (PD.eq (pd_and (PD.eq (pd_eq (PD.eq (pd_len (PD.eq (pd_var 0) xvar) T.f_len) xop1) (PD.eq (pd_var 1) xvar)) xop2) (pd_one (PD.eq (pd_all (pn_lf (pn_lcX [("line", 2)] (PId.eq (pid_seq (PD.eq (pd_var 0) xvar)) xseq) (pgd_name 2) (PTsd.eq ptsd_nil xyes) (PD.eq (pd_call h_is_line (PAs.eq (pas_cons (PD.eq (pd_var 2) xvar) (PAs.eq (pas_cons (PD.eq (pd_var 1) xvar) (PAs.eq pas_nil xnil)) xcons)) xcons)) xcall))) T.f_all) xop1))) xand)) xand)) xretS))
theorem d_is_part {G : Gx} (T : Tx G) : FnD G 3 "is_part" (lfC x_is_part) := by
  obtain ⟨f, fd, h1, h2⟩ := T.d_is_part
  exact fn_X (ps := P_is_part) h1 h2 sc_is_part (fun _ _ _ _ _ _ us hl => match us, hl with | [_, _], _ => rfl) fun W => w_is_part T (d_is_line T) W

/-! part W1 -/
abbrev N_are_rules_value : List Str := ["value", "many"]
abbrev P_are_rules_value : List Str := ["value"]
def xb_are_rules_value : XS :=
  (seqSX (ifSX (orBX (notBX (tstX (op1X isi_tuple (varX 0)))) (orBX (tstX (op2X neD (op1X lenD (varX 0)) (conX (.int 2)))) (notBX (tstX (op1X isi_tuple (op2X idxD (varX 0) (conX (.int 0)))))))) (retSX (conX (.bl false))) nextX) (seqSX (setSX 1 (fzX (op1X lenD (op2X idxD (varX 0) (conX (.int 0)))))) (retSX (andX (chainX leI leI (conX (.int 1)) (varX 1) (conX (.int 6))) (andX (callX x_is_part (consX (op2X idxD (varX 0) (conX (.int 0))) (consX (varX 1) nilX))) (callX x_is_part (consX (op2X idxD (varX 0) (conX (.int 1))) (consX (varX 1) nilX))))))))
def x_are_rules_value : List D → Rs D := fnX 1 2 xb_are_rules_value
theorem sc_are_rules_value : FnScope N_are_rules_value P_are_rules_value (defScope s_are_rules_value) := ⟨rfl, rfl, rfl, by decide +kernel, rfl, by decide +kernel, by decide +kernel⟩
theorem w_are_rules_value {G : Gx} (T : Tx G) (h_is_part : FnD G 3 "is_part" (lfC x_is_part)) (W : WX) : PSsd (defCtx G N_are_rules_value (defScope s_are_rules_value) 3 W) (defBody s_are_rules_value) (lfS xb_are_rules_value) :=
  (PSsd.eq (pssd_cons (PSd.eq (psd_if (PBw.pb (PBw.eq (pbw_or (PB.eq (pb_not (PB.eq (pb_val (PD.eq (pd_isi_tuple (PD.eq (pd_var 0) xvar) T.f_isinstance T.f_tuple) xop1)) xtst)) xnotB) (PBw.eq (pbw_or (PB.eq (pb_ne (PD.eq (pd_len (PD.eq (pd_var 0) xvar) T.f_len) xop1) (PD.eq pd_int xcon)) ((congrArg tst xop2).trans xtst)) (pbw_or1 (PB.eq (pb_not (PB.eq (pb_val (PD.eq (pd_isi_tuple (PD.eq (pd_ix (PD.eq (pd_var 0) xvar) (PD.eq pd_int xcon)) xop2) T.f_isinstance T.f_tuple) xop1)) xtst)) xnotB))) xorB)) xorB)) (pssd_one (PSd.eq (psd_ret (PD.eq pd_bl xcon)) xretS)) (PSsd.eq pssd_nil xnext)) xifS) (PSsd.eq (pssd_cons (PSd.eq (psd_set 1 (PX.eq (PD.px (PD.eq (pd_len (PD.eq (pd_ix (PD.eq (pd_var 0) xvar) (PD.eq pd_int xcon)) xop2) T.f_len) xop1)) xfz)) xsetS) (pssd_one (PSd.eq (psd_ret (PD.eq (pd_and (PD.eq (pd_lele (PD.eq pd_int xcon) (PD.eq (pd_var 1) xvar) (PD.eq (pd_gint T.c_MOST_NUMBERS) xcon)) xchain) (PD.eq (pd_and (PD.eq (pd_call h_is_part (PAs.eq (pas_cons (PD.eq (pd_ix (PD.eq (pd_var 0) xvar) (PD.eq pd_int xcon)) xop2) (PAs.eq (pas_cons (PD.eq (pd_var 1) xvar) (PAs.eq pas_nil xnil)) xcons)) xcons)) xcall) (pd_one (PD.eq (pd_call h_is_part (PAs.eq (pas_cons (PD.eq (pd_ix (PD.eq (pd_var 0) xvar) (PD.eq pd_int xcon)) xop2) (PAs.eq (pas_cons (PD.eq (pd_var 1) xvar) (PAs.eq pas_nil xnil)) xcons)) xcons)) xcall))) xand)) xand)) xretS))) xseqS)) xseqS)
theorem d_are_rules_value {G : Gx} (T : Tx G) : FnD G 4 "are_rules_value" (lfC x_are_rules_value) := by
  obtain ⟨f, fd, h1, h2⟩ := T.d_are_rules_value
  exact fn_X (ps := P_are_rules_value) h1 h2 sc_are_rules_value (fun _ _ _ _ _ _ us hl => match us, hl with | [_], _ => rfl) fun W => w_are_rules_value T (d_is_part T) W

/-! part W1 -/
abbrev N_power : List Str := ["number", "many", "found", "turn"]
abbrev P_power : List Str := ["number", "many"]
def xb_power : XS :=
  (seqSX (setSX 2 (fzX (conX (.int 1)))) (seqSX (forSX (rg1X (varX 1)) (tgN 3) (setSX 2 (fzX (op2X mulD (varX 2) (varX 0))))) (retSX (varX 2))))
def x_power : List D → Rs D := fnX 2 4 xb_power
theorem sc_power : FnScope N_power P_power (defScope s_power) := ⟨rfl, rfl, rfl, by decide +kernel, rfl, by decide +kernel, by decide +kernel⟩
theorem w_power {G : Gx} (T : Tx G)  (W : WX) : PSsd (defCtx G N_power (defScope s_power) 0 W) (defBody s_power) (lfS xb_power) :=
  (PSsd.eq (pssd_cons (PSd.eq (psd_set 2 (PX.eq (PD.px (PD.eq pd_int xcon)) xfz)) xsetS) (PSsd.eq (pssd_cons (PSd.eq (psd_for (PId.eq (pid_range1 T.f_range (PD.eq (pd_var 1) xvar)) xrg1) (pgd_name 3) (pssd_one (PSd.eq (psd_set 2 (PX.eq (PD.px (PD.eq (pd_mul (PD.eq (pd_var 2) xvar) (PD.eq (pd_var 0) xvar)) xop2)) xfz)) xsetS))) xforS) (pssd_one (PSd.eq (psd_ret (PD.eq (pd_var 2) xvar)) xretS))) xseqS)) xseqS)
theorem d_power {G : Gx} (T : Tx G) : FnD G 1 "power" (lfC x_power) := by
  obtain ⟨f, fd, h1, h2⟩ := T.d_power
  exact fn_X (ps := P_power) h1 h2 sc_power (fun _ _ _ _ _ _ us hl => match us, hl with | [_, _], _ => rfl) fun W => w_power T  W

/-! part W1 -/
abbrev N_is_size : List Str := ["rules", "value"]
abbrev P_is_size : List Str := ["rules", "value"]
def xb_is_size : XS :=
  (retSX (andX (callX x_is_within (consX (varX 1) (consX (conX (.int 2)) (consX (conX (.int 10)) nilX)))) (op2X (intB fun i j => decide (i ≤ j)) (callX x_power (consX (op1X lenD (op2X idxD (varX 0) (conX (.int 0)))) (consX (varX 1) nilX))) (conX (.int 729)))))
def x_is_size : List D → Rs D := fnX 2 2 xb_is_size
theorem sc_is_size : FnScope N_is_size P_is_size (defScope s_is_size) := ⟨rfl, rfl, rfl, by decide +kernel, rfl, by decide +kernel, by decide +kernel⟩
theorem w_is_size {G : Gx} (T : Tx G) (h_is_within : FnD G 1 "is_within" (lfC x_is_within)) (h_power : FnD G 1 "power" (lfC x_power)) (W : WX) : PSsd (defCtx G N_is_size (defScope s_is_size) 1 W) (defBody s_is_size) (lfS xb_is_size) :=
  (pssd_one (PSd.eq (psd_ret (PD.eq (pd_and (PD.eq (pd_call h_is_within (PAs.eq (pas_cons (PD.eq (pd_var 1) xvar) (PAs.eq (pas_cons (PD.eq pd_int xcon) (PAs.eq (pas_cons (PD.eq (pd_gint T.c_MOST_HOUSES) xcon) (PAs.eq pas_nil xnil)) xcons)) xcons)) xcons)) xcall) (pd_one (PD.eq (pd_le (PD.eq (pd_call h_power (PAs.eq (pas_cons (PD.eq (pd_len (PD.eq (pd_ix (PD.eq (pd_var 0) xvar) (PD.eq pd_int xcon)) xop2) T.f_len) xop1) (PAs.eq (pas_cons (PD.eq (pd_var 1) xvar) (PAs.eq pas_nil xnil)) xcons)) xcons)) xcall) (PD.eq (pd_gint T.c_MOST_STANDINGS) xcon)) xop2))) xand)) xretS))
theorem d_is_size {G : Gx} (T : Tx G) : FnD G 2 "is_size" (lfC x_is_size) := by
  obtain ⟨f, fd, h1, h2⟩ := T.d_is_size
  exact fn_X (ps := P_is_size) h1 h2 sc_is_size (fun _ _ _ _ _ _ us hl => match us, hl with | [_, _], _ => rfl) fun W => w_is_size T (d_is_within T) (d_power T) W

/-! part W1 -/
abbrev N_is_standing : List Str := ["rules", "value", "number"]
abbrev P_is_standing : List Str := ["rules", "value"]
def xb_is_standing : XS :=
  (seqSX (ifSX (orBX (notBX (tstX (op1X isi_tuple (varX 1)))) (notBX (tstX (callX x_is_size (consX (varX 0) (consX (op1X lenD (varX 1)) nilX)))))) (retSX (conX (.bl false))) nextX) (retSX (op1X allD (pnX (lcX [2] (seqX (varX 1)) (tgN 2) yesX (callX x_is_within (consX (varX 2) (consX (conX (.int 0)) (consX (op2X subD (op1X lenD (op2X idxD (varX 0) (conX (.int 0)))) (conX (.int 1))) nilX)))))))))
def x_is_standing : List D → Rs D := fnX 2 3 xb_is_standing
theorem sc_is_standing : FnScope N_is_standing P_is_standing (defScope s_is_standing) := ⟨rfl, rfl, rfl, by decide +kernel, rfl, by decide +kernel, by decide +kernel⟩
theorem w_is_standing {G : Gx} (T : Tx G) (h_is_size : FnD G 2 "is_size" (lfC x_is_size)) (h_is_within : FnD G 1 "is_within" (lfC x_is_within)) (W : WX) : PSsd (defCtx G N_is_standing (defScope s_is_standing) 2 W) (defBody s_is_standing) (lfS xb_is_standing) :=
  (PSsd.eq (pssd_cons (PSd.eq (psd_if (PBw.pb (PBw.eq (pbw_or (PB.eq (pb_not (PB.eq (pb_val (PD.eq (pd_isi_tuple (PD.eq (pd_var 1) xvar) T.f_isinstance T.f_tuple) xop1)) xtst)) xnotB) (pbw_or1 (PB.eq (pb_not (PB.eq (pb_val (PD.eq (pd_call h_is_size (PAs.eq (pas_cons (PD.eq (pd_var 0) xvar) (PAs.eq (pas_cons (PD.eq (pd_len (PD.eq (pd_var 1) xvar) T.f_len) xop1) (PAs.eq pas_nil xnil)) xcons)) xcons)) xcall)) xtst)) xnotB))) xorB)) (pssd_one (PSd.eq (psd_ret (PD.eq pd_bl xcon)) xretS)) (PSsd.eq pssd_nil xnext)) xifS) (pssd_one (PSd.eq (psd_ret (PD.eq (pd_all (pn_lf (pn_lcX [("number", 2)] (PId.eq (pid_seq (PD.eq (pd_var 1) xvar)) xseq) (pgd_name 2) (PTsd.eq ptsd_nil xyes) (PD.eq (pd_call h_is_within (PAs.eq (pas_cons (PD.eq (pd_var 2) xvar) (PAs.eq (pas_cons (PD.eq pd_int xcon) (PAs.eq (pas_cons (PD.eq (pd_sub (PD.eq (pd_len (PD.eq (pd_ix (PD.eq (pd_var 0) xvar) (PD.eq pd_int xcon)) xop2) T.f_len) xop1) (PD.eq pd_int xcon)) xop2) (PAs.eq pas_nil xnil)) xcons)) xcons)) xcons)) xcall))) T.f_all) xop1)) xretS))) xseqS)
theorem d_is_standing {G : Gx} (T : Tx G) : FnD G 3 "is_standing" (lfC x_is_standing) := by
  obtain ⟨f, fd, h1, h2⟩ := T.d_is_standing
  exact fn_X (ps := P_is_standing) h1 h2 sc_is_standing (fun _ _ _ _ _ _ us hl => match us, hl with | [_, _], _ => rfl) fun W => w_is_standing T (d_is_size T) (d_is_within T) W

/-! part W1 -/
abbrev N_need_rules : List Str := ["value"]
abbrev P_need_rules : List Str := ["value"]
def xb_need_rules : XS :=
  (ifSX (notBX (tstX (callX x_are_rules_value (consX (varX 0) nilX)))) neverX nextX)
def x_need_rules : List D → Rs D := fnX 1 1 xb_need_rules
theorem sc_need_rules : FnScope N_need_rules P_need_rules (defScope s_need_rules) := ⟨rfl, rfl, rfl, by decide +kernel, rfl, by decide +kernel, by decide +kernel⟩
theorem w_need_rules {G : Gx} (T : Tx G) (h_are_rules_value : FnD G 4 "are_rules_value" (lfC x_are_rules_value)) (W : WX) : PSsd (defCtx G N_need_rules (defScope s_need_rules) 4 W) (defBody s_need_rules) (lfS xb_need_rules) :=
  (pssd_one (PSd.eq (psd_if (PB.eq (pb_not (PB.eq (pb_val (PD.eq (pd_call h_are_rules_value (PAs.eq (pas_cons (PD.eq (pd_var 0) xvar) (PAs.eq pas_nil xnil)) xcons)) xcall)) xtst)) xnotB) (PSsd.eq pssd_never xnever) (PSsd.eq pssd_nil xnext)) xifS))
theorem d_need_rules {G : Gx} (T : Tx G) : FnD G 5 "need_rules" (lfC x_need_rules) := by
  obtain ⟨f, fd, h1, h2⟩ := T.d_need_rules
  exact fn_X (ps := P_need_rules) h1 h2 sc_need_rules (fun _ _ _ _ _ _ us hl => match us, hl with | [_], _ => rfl) fun W => w_need_rules T (d_are_rules_value T) W

/-! part W1 -/
abbrev N_need_size : List Str := ["rules", "value"]
abbrev P_need_size : List Str := ["rules", "value"]
def xb_need_size : XS :=
  (seqSX (exprSX (callX x_need_rules (consX (varX 0) nilX))) (ifSX (notBX (tstX (callX x_is_size (consX (varX 0) (consX (varX 1) nilX))))) neverX nextX))
def x_need_size : List D → Rs D := fnX 2 2 xb_need_size
theorem sc_need_size : FnScope N_need_size P_need_size (defScope s_need_size) := ⟨rfl, rfl, rfl, by decide +kernel, rfl, by decide +kernel, by decide +kernel⟩
theorem w_need_size {G : Gx} (T : Tx G) (h_need_rules : FnD G 5 "need_rules" (lfC x_need_rules)) (h_is_size : FnD G 2 "is_size" (lfC x_is_size)) (W : WX) : PSsd (defCtx G N_need_size (defScope s_need_size) 5 W) (defBody s_need_size) (lfS xb_need_size) :=
  (PSsd.eq (pssd_cons (PSd.eq (psd_expr (PD.eq (pd_call h_need_rules (PAs.eq (pas_cons (PD.eq (pd_var 0) xvar) (PAs.eq pas_nil xnil)) xcons)) xcall)) xexprS) (pssd_one (PSd.eq (psd_if (PB.eq (pb_not (PB.eq (pb_val (PD.eq (pd_call h_is_size (PAs.eq (pas_cons (PD.eq (pd_var 0) xvar) (PAs.eq (pas_cons (PD.eq (pd_var 1) xvar) (PAs.eq pas_nil xnil)) xcons)) xcons)) xcall)) xtst)) xnotB) (PSsd.eq pssd_never xnever) (PSsd.eq pssd_nil xnext)) xifS))) xseqS)
theorem d_need_size {G : Gx} (T : Tx G) : FnD G 6 "need_size" (lfC x_need_size) := by
  obtain ⟨f, fd, h1, h2⟩ := T.d_need_size
  exact fn_X (ps := P_need_size) h1 h2 sc_need_size (fun _ _ _ _ _ _ us hl => match us, hl with | [_, _], _ => rfl) fun W => w_need_size T (d_need_rules T) (d_is_size T) W

/-! part W1 -/
abbrev N_need_standing : List Str := ["rules", "value"]
abbrev P_need_standing : List Str := ["rules", "value"]
def xb_need_standing : XS :=
  (seqSX (exprSX (callX x_need_rules (consX (varX 0) nilX))) (ifSX (notBX (tstX (callX x_is_standing (consX (varX 0) (consX (varX 1) nilX))))) neverX nextX))
def x_need_standing : List D → Rs D := fnX 2 2 xb_need_standing
theorem sc_need_standing : FnScope N_need_standing P_need_standing (defScope s_need_standing) := ⟨rfl, rfl, rfl, by decide +kernel, rfl, by decide +kernel, by decide +kernel⟩
theorem w_need_standing {G : Gx} (T : Tx G) (h_need_rules : FnD G 5 "need_rules" (lfC x_need_rules)) (h_is_standing : FnD G 3 "is_standing" (lfC x_is_standing)) (W : WX) : PSsd (defCtx G N_need_standing (defScope s_need_standing) 5 W) (defBody s_need_standing) (lfS xb_need_standing) :=
  (PSsd.eq (pssd_cons (PSd.eq (psd_expr (PD.eq (pd_call h_need_rules (PAs.eq (pas_cons (PD.eq (pd_var 0) xvar) (PAs.eq pas_nil xnil)) xcons)) xcall)) xexprS) (pssd_one (PSd.eq (psd_if (PB.eq (pb_not (PB.eq (pb_val (PD.eq (pd_call h_is_standing (PAs.eq (pas_cons (PD.eq (pd_var 0) xvar) (PAs.eq (pas_cons (PD.eq (pd_var 1) xvar) (PAs.eq pas_nil xnil)) xcons)) xcons)) xcall)) xtst)) xnotB) (PSsd.eq pssd_never xnever) (PSsd.eq pssd_nil xnext)) xifS))) xseqS)
theorem d_need_standing {G : Gx} (T : Tx G) : FnD G 6 "need_standing" (lfC x_need_standing) := by
  obtain ⟨f, fd, h1, h2⟩ := T.d_need_standing
  exact fn_X (ps := P_need_standing) h1 h2 sc_need_standing (fun _ _ _ _ _ _ us hl => match us, hl with | [_, _], _ => rfl) fun W => w_need_standing T (d_need_rules T) (d_is_standing T) W

/-! part W1 -/
abbrev N_need_way : List Str := ["value"]
abbrev P_need_way : List Str := ["value"]
def xb_need_way : XS :=
  (ifSX (orBX (notBX (tstX (op1X isi_str (varX 0)))) (tstX (op1X (notInG ["one", "some", "all"]) (varX 0)))) neverX nextX)
def x_need_way : List D → Rs D := fnX 1 1 xb_need_way
theorem sc_need_way : FnScope N_need_way P_need_way (defScope s_need_way) := ⟨rfl, rfl, rfl, by decide +kernel, rfl, by decide +kernel, by decide +kernel⟩
theorem w_need_way {G : Gx} (T : Tx G)  (W : WX) : PSsd (defCtx G N_need_way (defScope s_need_way) 0 W) (defBody s_need_way) (lfS xb_need_way) :=
  (pssd_one (PSd.eq (psd_if (PBw.pb (PBw.eq (pbw_or (PB.eq (pb_not (PB.eq (pb_val (PD.eq (pd_isi_str (PD.eq (pd_var 0) xvar) T.f_isinstance T.f_str) xop1)) xtst)) xnotB) (pbw_or1 (PB.eq (pb_notInG (PD.eq (pd_var 0) xvar) T.c_WAYS) ((congrArg tst xop1).trans xtst)))) xorB)) (PSsd.eq pssd_never xnever) (PSsd.eq pssd_nil xnext)) xifS))
theorem d_need_way {G : Gx} (T : Tx G) : FnD G 1 "need_way" (lfC x_need_way) := by
  obtain ⟨f, fd, h1, h2⟩ := T.d_need_way
  exact fn_X (ps := P_need_way) h1 h2 sc_need_way (fun _ _ _ _ _ _ us hl => match us, hl with | [_], _ => rfl) fun W => w_need_way T  W

/-! part W1 -/
abbrev N_entry_of : List Str := ["rules", "standing", "house", "part"]
abbrev P_entry_of : List Str := ["rules", "standing", "house"]
def xb_entry_of : XS :=
  (seqSX (setSX 3 (fzX (ifX (tstX (op2X eqD (varX 2) (conX (.int 0)))) (op2X idxD (varX 0) (conX (.int 0))) (op2X idxD (varX 0) (conX (.int 1)))))) (retSX (op2X idxD (op2X idxD (varX 3) (op2X idxD (varX 1) (op2X subD (varX 2) (conX (.int 1))))) (op2X idxD (varX 1) (varX 2)))))
def x_entry_of : List D → Rs D := fnX 3 4 xb_entry_of
theorem sc_entry_of : FnScope N_entry_of P_entry_of (defScope s_entry_of) := ⟨rfl, rfl, rfl, by decide +kernel, rfl, by decide +kernel, by decide +kernel⟩
theorem w_entry_of {G : Gx} (T : Tx G)  (W : WX) : PSsd (defCtx G N_entry_of (defScope s_entry_of) 0 W) (defBody s_entry_of) (lfS xb_entry_of) :=
  (PSsd.eq (pssd_cons (PSd.eq (psd_set 3 (PX.eq (PD.px (PD.eq (pd_if (PB.eq (pb_eq (PD.eq (pd_var 2) xvar) (PD.eq pd_int xcon)) ((congrArg tst xop2).trans xtst)) (PD.eq (pd_ix (PD.eq (pd_var 0) xvar) (PD.eq pd_int xcon)) xop2) (PD.eq (pd_ix (PD.eq (pd_var 0) xvar) (PD.eq pd_int xcon)) xop2)) xif)) xfz)) xsetS) (pssd_one (PSd.eq (psd_ret (PD.eq (pd_ix (PD.eq (pd_ix (PD.eq (pd_var 3) xvar) (PD.eq (pd_ix (PD.eq (pd_var 1) xvar) (PD.eq (pd_sub (PD.eq (pd_var 2) xvar) (PD.eq pd_int xcon)) xop2)) xop2)) xop2) (PD.eq (pd_ix (PD.eq (pd_var 1) xvar) (PD.eq (pd_var 2) xvar)) xop2)) xop2)) xretS))) xseqS)
theorem d_entry_of {G : Gx} (T : Tx G) : FnD G 1 "entry_of" (lfC x_entry_of) := by
  obtain ⟨f, fd, h1, h2⟩ := T.d_entry_of
  exact fn_X (ps := P_entry_of) h1 h2 sc_entry_of (fun _ _ _ _ _ _ us hl => match us, hl with | [_, _, _], _ => rfl) fun W => w_entry_of T  W

/-! part W1 -/
abbrev N_movers_of : List Str := ["rules", "standing", "house"]
abbrev P_movers_of : List Str := ["rules", "standing"]
def xb_movers_of : XS :=
  (retSX (pnX (lcX [2] (rg1X (op1X lenD (varX 1))) (tgN 2) (tstX (op1X (fun d => some (.bl (!isN d))) (callX x_entry_of (consX (varX 0) (consX (varX 1) (consX (varX 2) nilX)))))) (varX 2))))
def x_movers_of : List D → Rs D := fnX 2 3 xb_movers_of
theorem sc_movers_of : FnScope N_movers_of P_movers_of (defScope s_movers_of) := ⟨rfl, rfl, rfl, by decide +kernel, rfl, by decide +kernel, by decide +kernel⟩
theorem w_movers_of {G : Gx} (T : Tx G) (h_entry_of : FnD G 1 "entry_of" (lfC x_entry_of)) (W : WX) : PSsd (defCtx G N_movers_of (defScope s_movers_of) 1 W) (defBody s_movers_of) (lfS xb_movers_of) :=
  (pssd_one (PSd.eq (psd_ret (pn_lf (pn_lcX [("house", 2)] (PId.eq (pid_range1 T.f_range (PD.eq (pd_len (PD.eq (pd_var 1) xvar) T.f_len) xop1)) xrg1) (pgd_name 2) (ptsd_one (PB.eq (pb_notN (PD.eq (pd_call h_entry_of (PAs.eq (pas_cons (PD.eq (pd_var 0) xvar) (PAs.eq (pas_cons (PD.eq (pd_var 1) xvar) (PAs.eq (pas_cons (PD.eq (pd_var 2) xvar) (PAs.eq pas_nil xnil)) xcons)) xcons)) xcons)) xcall)) ((congrArg tst xop1).trans xtst))) (PD.eq (pd_var 2) xvar)))) xretS))
theorem d_movers_of {G : Gx} (T : Tx G) : FnD G 2 "movers_of" (lfC x_movers_of) := by
  obtain ⟨f, fd, h1, h2⟩ := T.d_movers_of
  exact fn_X (ps := P_movers_of) h1 h2 sc_movers_of (fun _ _ _ _ _ _ us hl => match us, hl with | [_, _], _ => rfl) fun W => w_movers_of T (d_entry_of T) W

/-! part W1 -/
abbrev N_moved_by : List Str := ["rules", "standing", "houses", "found", "house", "number"]
abbrev P_moved_by : List Str := ["rules", "standing", "houses"]
def xb_moved_by : XS :=
  (seqSX (setSX 3 (owX (lstX nilX))) (seqSX (forSX (enumX (varX 1)) (tgTup 2 (tgsCons (tgN 4) (tgsCons (tgN 5) tgsNil))) (appSX 3 (ifX (tstX (opPX (fun a b => (inCo a b).map D.bl) (varX 4) (varPX 2))) (callX x_entry_of (consX (varX 0) (consX (varX 1) (consX (varX 4) nilX)))) (varX 5)))) (freezeSX 3 (retSX (op1X tupleD (varX 3))))))
def x_moved_by : List D → Rs D := fnX 3 6 xb_moved_by
theorem sc_moved_by : FnScope N_moved_by P_moved_by (defScope s_moved_by) := ⟨rfl, rfl, rfl, by decide +kernel, rfl, by decide +kernel, by decide +kernel⟩
theorem w_moved_by {G : Gx} (T : Tx G) (h_entry_of : FnD G 1 "entry_of" (lfC x_entry_of)) (W : WX) : PSsd (defCtx G N_moved_by (defScope s_moved_by) 1 W) (defBody s_moved_by) (lfS xb_moved_by) :=
  (PSsd.eq (pssd_cons (PSd.eq (psd_set 3 (PX.eq (PN.px (PN.eq (pn_lst (PAs.eq pas_nil xnil)) xlst)) xow)) xsetS) (PSsd.eq (pssd_cons (PSd.eq (psd_for (PId.eq (pid_enum T.f_enumerate (PD.eq (pd_var 1) xvar)) xenum) (pgd_tup (pgsd_cons (pgd_name 4) (pgsd_cons (pgd_name 5) pgsd_nil))) (pssd_one (PSd.eq (psd_append 3 (PD.eq (pd_if (PB.eq (pb_in (PD.eq (pd_var 4) xvar) (PP.eq (pp_var 2) xvarP)) ((congrArg tst xopP).trans xtst)) (PD.eq (pd_call h_entry_of (PAs.eq (pas_cons (PD.eq (pd_var 0) xvar) (PAs.eq (pas_cons (PD.eq (pd_var 1) xvar) (PAs.eq (pas_cons (PD.eq (pd_var 4) xvar) (PAs.eq pas_nil xnil)) xcons)) xcons)) xcons)) xcall) (PD.eq (pd_var 5) xvar)) xif)) xappS))) xforS) (PSsd.eq (pssd_freeze 3 (pssd_one (PSd.eq (psd_ret (PD.eq (pd_tuple (PD.eq (pd_var 3) xvar) T.f_tuple) xop1)) xretS))) xfreezeS)) xseqS)) xseqS)
theorem d_moved_by {G : Gx} (T : Tx G) : FnD G 2 "moved_by" (lfC x_moved_by) := by
  obtain ⟨f, fd, h1, h2⟩ := T.d_moved_by
  exact fn_X (ps := P_moved_by) h1 h2 sc_moved_by (fun _ _ _ _ _ _ us hl => match us, hl with | [_, _, _], _ => rfl) fun W => w_moved_by T (d_entry_of T) W

/-! part W1 -/
abbrev N_lots_by : List Str := ["rules", "standing", "way", "some", "house", "found", "lot"]
abbrev P_lots_by : List Str := ["rules", "standing", "way"]
def xb_lots_by : XS :=
  (seqSX (setSX 3 (fzX (callX x_movers_of (consX (varX 0) (consX (varX 1) nilX))))) (seqSX (ifSX (tstX (op2X eqD (varX 2) (conX (.str "one")))) (retSX (pnX (lcX [4] (seqX (varX 3)) (tgN 4) yesX (pnX (lstX (consX (varX 4) nilX)))))) nextX) (seqSX (ifSX (tstX (op2X eqD (varX 2) (conX (.str "all")))) (retSX (ifX (tstX (op2X neD (varX 3) (pnX (lstX nilX)))) (pnX (lstX (consX (varX 3) nilX))) (pnX (lstX nilX)))) nextX) (seqSX (setSX 5 (fzX (pnX (lstX (consX (pnX (lstX nilX)) nilX))))) (seqSX (forSX (seqX (varX 3)) (tgN 4) (setSX 5 (fzX (op2X addD (varX 5) (pnX (lcX [6] (seqX (varX 5)) (tgN 6) yesX (op2X addD (varX 6) (pnX (lstX (consX (varX 4) nilX)))))))))) (retSX (pnX (slLX (varPX 5) (somePX (conX (.int 1))) nonePX))))))))
def x_lots_by : List D → Rs D := fnX 3 7 xb_lots_by
theorem sc_lots_by : FnScope N_lots_by P_lots_by (defScope s_lots_by) := ⟨rfl, rfl, rfl, by decide +kernel, rfl, by decide +kernel, by decide +kernel⟩
theorem w_lots_by {G : Gx} (T : Tx G) (h_movers_of : FnD G 2 "movers_of" (lfC x_movers_of)) (W : WX) : PSsd (defCtx G N_lots_by (defScope s_lots_by) 2 W) (defBody s_lots_by) (lfS xb_lots_by) :=
  (PSsd.eq (pssd_cons (PSd.eq (psd_set 3 (PX.eq (PD.px (PD.eq (pd_call h_movers_of (PAs.eq (pas_cons (PD.eq (pd_var 0) xvar) (PAs.eq (pas_cons (PD.eq (pd_var 1) xvar) (PAs.eq pas_nil xnil)) xcons)) xcons)) xcall)) xfz)) xsetS) (PSsd.eq (pssd_cons (PSd.eq (psd_if (PB.eq (pb_eq (PD.eq (pd_var 2) xvar) (PD.eq pd_str xcon)) ((congrArg tst xop2).trans xtst)) (pssd_one (PSd.eq (psd_ret (pn_lf (pn_lcX [("house", 4)] (PId.eq (pid_seq (PD.eq (pd_var 3) xvar)) xseq) (pgd_name 4) (PTsd.eq ptsd_nil xyes) (pn_lf (PN.eq (pn_lst (PAs.eq (pas_cons (PD.eq (pd_var 4) xvar) (PAs.eq pas_nil xnil)) xcons)) xlst))))) xretS)) (PSsd.eq pssd_nil xnext)) xifS) (PSsd.eq (pssd_cons (PSd.eq (psd_if (PB.eq (pb_eq (PD.eq (pd_var 2) xvar) (PD.eq pd_str xcon)) ((congrArg tst xop2).trans xtst)) (pssd_one (PSd.eq (psd_ret (PD.eq (pd_if (PB.eq (pb_ne (PD.eq (pd_var 3) xvar) (pn_lf (PN.eq (pn_lst (PAs.eq pas_nil xnil)) xlst))) ((congrArg tst xop2).trans xtst)) (pn_lf (PN.eq (pn_lst (PAs.eq (pas_cons (PD.eq (pd_var 3) xvar) (PAs.eq pas_nil xnil)) xcons)) xlst)) (pn_lf (PN.eq (pn_lst (PAs.eq pas_nil xnil)) xlst))) xif)) xretS)) (PSsd.eq pssd_nil xnext)) xifS) (PSsd.eq (pssd_cons (PSd.eq (psd_set 5 (PX.eq (PD.px (pn_lf (PN.eq (pn_lst (PAs.eq (pas_cons (pn_lf (PN.eq (pn_lst (PAs.eq pas_nil xnil)) xlst)) (PAs.eq pas_nil xnil)) xcons)) xlst))) xfz)) xsetS) (PSsd.eq (pssd_cons (PSd.eq (psd_for (PId.eq (pid_seq (PD.eq (pd_var 3) xvar)) xseq) (pgd_name 4) (pssd_one (PSd.eq (psd_set 5 (PX.eq (PD.px (PD.eq (pd_add (PD.eq (pd_var 5) xvar) (pn_lf (pn_lcX [("lot", 6)] (PId.eq (pid_seq (PD.eq (pd_var 5) xvar)) xseq) (pgd_name 6) (PTsd.eq ptsd_nil xyes) (PD.eq (pd_add (PD.eq (pd_var 6) xvar) (pn_lf (PN.eq (pn_lst (PAs.eq (pas_cons (PD.eq (pd_var 4) xvar) (PAs.eq pas_nil xnil)) xcons)) xlst))) xop2)))) xop2)) xfz)) xsetS))) xforS) (pssd_one (PSd.eq (psd_ret (pn_lf (PN.eq (pn_sl (PP.eq (pp_var 5) xvarP) (POp.eq (po_so (PD.eq pd_int xcon)) xsomeP) (POp.eq po_no xnoneP)) xslL))) xretS))) xseqS)) xseqS)) xseqS)) xseqS)) xseqS)
theorem d_lots_by {G : Gx} (T : Tx G) : FnD G 3 "lots_by" (lfC x_lots_by) := by
  obtain ⟨f, fd, h1, h2⟩ := T.d_lots_by
  exact fn_X (ps := P_lots_by) h1 h2 sc_lots_by (fun _ _ _ _ _ _ us hl => match us, hl with | [_, _, _], _ => rfl) fun W => w_lots_by T (d_movers_of T) W

/-! part W1 -/
abbrev N_steps_of : List Str := ["rules", "standing", "way", "lot"]
abbrev P_steps_of : List Str := ["rules", "standing", "way"]
def xb_steps_of : XS :=
  (retSX (pnX (sortedSetX (pnX (lcX [3] (seqX (callX x_lots_by (consX (varX 0) (consX (varX 1) (consX (varX 2) nilX))))) (tgN 3) yesX (callX x_moved_by (consX (varX 0) (consX (varX 1) (consX (varX 3) nilX)))))))))
def x_steps_of : List D → Rs D := fnX 3 4 xb_steps_of
theorem sc_steps_of : FnScope N_steps_of P_steps_of (defScope s_steps_of) := ⟨rfl, rfl, rfl, by decide +kernel, rfl, by decide +kernel, by decide +kernel⟩
theorem w_steps_of {G : Gx} (T : Tx G) (h_lots_by : FnD G 3 "lots_by" (lfC x_lots_by)) (h_moved_by : FnD G 2 "moved_by" (lfC x_moved_by)) (W : WX) : PSsd (defCtx G N_steps_of (defScope s_steps_of) 3 W) (defBody s_steps_of) (lfS xb_steps_of) :=
  (pssd_one (PSd.eq (psd_ret (pn_lf (PN.eq (pn_sortedSet (pn_lf (pn_lcX [("lot", 3)] (PId.eq (pid_seq (PD.eq (pd_call h_lots_by (PAs.eq (pas_cons (PD.eq (pd_var 0) xvar) (PAs.eq (pas_cons (PD.eq (pd_var 1) xvar) (PAs.eq (pas_cons (PD.eq (pd_var 2) xvar) (PAs.eq pas_nil xnil)) xcons)) xcons)) xcons)) xcall)) xseq) (pgd_name 3) (PTsd.eq ptsd_nil xyes) (PD.eq (pd_call h_moved_by (PAs.eq (pas_cons (PD.eq (pd_var 0) xvar) (PAs.eq (pas_cons (PD.eq (pd_var 1) xvar) (PAs.eq (pas_cons (PD.eq (pd_var 3) xvar) (PAs.eq pas_nil xnil)) xcons)) xcons)) xcons)) xcall))) T.f_sorted T.f_set) xsortedSet))) xretS))
theorem d_steps_of {G : Gx} (T : Tx G) : FnD G 4 "steps_of" (lfC x_steps_of) := by
  obtain ⟨f, fd, h1, h2⟩ := T.d_steps_of
  exact fn_X (ps := P_steps_of) h1 h2 sc_steps_of (fun _ _ _ _ _ _ us hl => match us, hl with | [_, _, _], _ => rfl) fun W => w_steps_of T (d_lots_by T) (d_moved_by T) W

/-! part W1 -/
abbrev N_standings_of : List Str := ["rules", "size", "found", "turn", "more", "row", "number"]
abbrev P_standings_of : List Str := ["rules", "size"]
def xb_standings_of : XS :=
  (seqSX (setSX 2 (fzX (pnX (lstX (consX (tupX nilX) nilX))))) (seqSX (forSX (rg1X (varX 1)) (tgN 3) (seqSX (setSX 4 (fzX (pnX (lstX nilX)))) (seqSX (forSX (seqX (varX 2)) (tgN 5) (setSX 4 (fzX (op2X addD (varX 4) (pnX (lcX [6] (rg1X (op1X lenD (op2X idxD (varX 0) (conX (.int 0))))) (tgN 6) yesX (op2X addD (varX 5) (tupX (consX (varX 6) nilX))))))))) (setSX 2 (fzX (varX 4)))))) (retSX (varX 2))))
def x_standings_of : List D → Rs D := fnX 2 7 xb_standings_of
theorem sc_standings_of : FnScope N_standings_of P_standings_of (defScope s_standings_of) := ⟨rfl, rfl, rfl, by decide +kernel, rfl, by decide +kernel, by decide +kernel⟩
theorem w_standings_of {G : Gx} (T : Tx G)  (W : WX) : PSsd (defCtx G N_standings_of (defScope s_standings_of) 0 W) (defBody s_standings_of) (lfS xb_standings_of) :=
  (PSsd.eq (pssd_cons (PSd.eq (psd_set 2 (PX.eq (PD.px (pn_lf (PN.eq (pn_lst (PAs.eq (pas_cons (PD.eq (pd_tup (PAs.eq pas_nil xnil)) xtup) (PAs.eq pas_nil xnil)) xcons)) xlst))) xfz)) xsetS) (PSsd.eq (pssd_cons (PSd.eq (psd_for (PId.eq (pid_range1 T.f_range (PD.eq (pd_var 1) xvar)) xrg1) (pgd_name 3) (PSsd.eq (pssd_cons (PSd.eq (psd_set 4 (PX.eq (PD.px (pn_lf (PN.eq (pn_lst (PAs.eq pas_nil xnil)) xlst))) xfz)) xsetS) (PSsd.eq (pssd_cons (PSd.eq (psd_for (PId.eq (pid_seq (PD.eq (pd_var 2) xvar)) xseq) (pgd_name 5) (pssd_one (PSd.eq (psd_set 4 (PX.eq (PD.px (PD.eq (pd_add (PD.eq (pd_var 4) xvar) (pn_lf (pn_lcX [("number", 6)] (PId.eq (pid_range1 T.f_range (PD.eq (pd_len (PD.eq (pd_ix (PD.eq (pd_var 0) xvar) (PD.eq pd_int xcon)) xop2) T.f_len) xop1)) xrg1) (pgd_name 6) (PTsd.eq ptsd_nil xyes) (PD.eq (pd_add (PD.eq (pd_var 5) xvar) (PD.eq (pd_tup (PAs.eq (pas_cons (PD.eq (pd_var 6) xvar) (PAs.eq pas_nil xnil)) xcons)) xtup)) xop2)))) xop2)) xfz)) xsetS))) xforS) (pssd_one (PSd.eq (psd_set 2 (PX.eq (PD.px (PD.eq (pd_var 4) xvar)) xfz)) xsetS))) xseqS)) xseqS)) xforS) (pssd_one (PSd.eq (psd_ret (PD.eq (pd_var 2) xvar)) xretS))) xseqS)) xseqS)
theorem d_standings_of {G : Gx} (T : Tx G) : FnD G 1 "standings_of" (lfC x_standings_of) := by
  obtain ⟨f, fd, h1, h2⟩ := T.d_standings_of
  exact fn_X (ps := P_standings_of) h1 h2 sc_standings_of (fun _ _ _ _ _ _ us hl => match us, hl with | [_, _], _ => rfl) fun W => w_standings_of T  W

/-! part W1 -/
abbrev N_dijkstra_of : List Str := ["many", "first", "others", "left", "own"]
abbrev P_dijkstra_of : List Str := ["many"]
def xb_dijkstra_of : XS :=
  (seqSX (parSX 1 2 (owX (lstX nilX)) (owX (lstX nilX))) (seqSX (forSX (rg1X (varX 0)) (tgN 3) (seqSX (appSX 1 (op1X tupleD (pnX (lcX [4] (rg1X (varX 0)) (tgN 4) yesX (ifX (tstX (op2X eqD (varX 4) (varX 3))) (op2X modD (op2X addD (varX 4) (conX (.int 1))) (varX 0)) (conX .non)))))) (appSX 2 (op1X tupleD (pnX (lcX [4] (rg1X (varX 0)) (tgN 4) yesX (ifX (tstX (op2X neD (varX 4) (varX 3))) (varX 3) (conX .non)))))))) (freezeSX 2 (freezeSX 1 (retSX (tupX (consX (op1X tupleD (varX 1)) (consX (op1X tupleD (varX 2)) nilX))))))))
def x_dijkstra_of : List D → Rs D := fnX 1 5 xb_dijkstra_of
theorem sc_dijkstra_of : FnScope N_dijkstra_of P_dijkstra_of (defScope s_dijkstra_of) := ⟨rfl, rfl, rfl, by decide +kernel, rfl, by decide +kernel, by decide +kernel⟩
theorem w_dijkstra_of {G : Gx} (T : Tx G)  (W : WX) : PSsd (defCtx G N_dijkstra_of (defScope s_dijkstra_of) 0 W) (defBody s_dijkstra_of) (lfS xb_dijkstra_of) :=
  (PSsd.eq (pssd_cons (PSd.eq (psd_par2 1 2 (PX.eq (PN.px (PN.eq (pn_lst (PAs.eq pas_nil xnil)) xlst)) xow) (PX.eq (PN.px (PN.eq (pn_lst (PAs.eq pas_nil xnil)) xlst)) xow)) xparS) (PSsd.eq (pssd_cons (PSd.eq (psd_for (PId.eq (pid_range1 T.f_range (PD.eq (pd_var 0) xvar)) xrg1) (pgd_name 3) (PSsd.eq (pssd_cons (PSd.eq (psd_append 1 (PD.eq (pd_tuple (pn_lf (pn_lcX [("own", 4)] (PId.eq (pid_range1 T.f_range (PD.eq (pd_var 0) xvar)) xrg1) (pgd_name 4) (PTsd.eq ptsd_nil xyes) (PD.eq (pd_if (PB.eq (pb_eq (PD.eq (pd_var 4) xvar) (PD.eq (pd_var 3) xvar)) ((congrArg tst xop2).trans xtst)) (PD.eq (pd_mod (PD.eq (pd_add (PD.eq (pd_var 4) xvar) (PD.eq pd_int xcon)) xop2) (PD.eq (pd_var 0) xvar)) xop2) (PD.eq pd_non xcon)) xif))) T.f_tuple) xop1)) xappS) (pssd_one (PSd.eq (psd_append 2 (PD.eq (pd_tuple (pn_lf (pn_lcX [("own", 4)] (PId.eq (pid_range1 T.f_range (PD.eq (pd_var 0) xvar)) xrg1) (pgd_name 4) (PTsd.eq ptsd_nil xyes) (PD.eq (pd_if (PB.eq (pb_ne (PD.eq (pd_var 4) xvar) (PD.eq (pd_var 3) xvar)) ((congrArg tst xop2).trans xtst)) (PD.eq (pd_var 3) xvar) (PD.eq pd_non xcon)) xif))) T.f_tuple) xop1)) xappS))) xseqS)) xforS) (PSsd.eq (pssd_freeze 2 (PSsd.eq (pssd_freeze 1 (pssd_one (PSd.eq (psd_ret (PD.eq (pd_tup (PAs.eq (pas_cons (PD.eq (pd_tuple (PD.eq (pd_var 1) xvar) T.f_tuple) xop1) (PAs.eq (pas_cons (PD.eq (pd_tuple (PD.eq (pd_var 2) xvar) T.f_tuple) xop1) (PAs.eq pas_nil xnil)) xcons)) xcons)) xtup)) xretS))) xfreezeS)) xfreezeS)) xseqS)) xseqS)
theorem d_dijkstra_of {G : Gx} (T : Tx G) : FnD G 1 "dijkstra_of" (lfC x_dijkstra_of) := by
  obtain ⟨f, fd, h1, h2⟩ := T.d_dijkstra_of
  exact fn_X (ps := P_dijkstra_of) h1 h2 sc_dijkstra_of (fun _ _ _ _ _ _ us hl => match us, hl with | [_], _ => rfl) fun W => w_dijkstra_of T  W

/-! part W1 -/
abbrev N_dijkstra : List Str := ["number"]
abbrev P_dijkstra : List Str := ["number"]
def xb_dijkstra : XS :=
  (seqSX (ifSX (notBX (tstX (callX x_is_within (consX (varX 0) (consX (conX (.int 1)) (consX (conX (.int 6)) nilX)))))) neverX nextX) (retSX (callX x_dijkstra_of (consX (varX 0) nilX))))
def x_dijkstra : List D → Rs D := fnX 1 1 xb_dijkstra
theorem sc_dijkstra : FnScope N_dijkstra P_dijkstra (defScope s_dijkstra) := ⟨rfl, rfl, rfl, by decide +kernel, rfl, by decide +kernel, by decide +kernel⟩
theorem w_dijkstra {G : Gx} (T : Tx G) (h_is_within : FnD G 1 "is_within" (lfC x_is_within)) (h_dijkstra_of : FnD G 1 "dijkstra_of" (lfC x_dijkstra_of)) (W : WX) : PSsd (defCtx G N_dijkstra (defScope s_dijkstra) 1 W) (defBody s_dijkstra) (lfS xb_dijkstra) :=
  (PSsd.eq (pssd_cons (PSd.eq (psd_if (PB.eq (pb_not (PB.eq (pb_val (PD.eq (pd_call h_is_within (PAs.eq (pas_cons (PD.eq (pd_var 0) xvar) (PAs.eq (pas_cons (PD.eq pd_int xcon) (PAs.eq (pas_cons (PD.eq (pd_gint T.c_MOST_NUMBERS) xcon) (PAs.eq pas_nil xnil)) xcons)) xcons)) xcons)) xcall)) xtst)) xnotB) (PSsd.eq pssd_never xnever) (PSsd.eq pssd_nil xnext)) xifS) (pssd_one (PSd.eq (psd_ret (PD.eq (pd_call h_dijkstra_of (PAs.eq (pas_cons (PD.eq (pd_var 0) xvar) (PAs.eq pas_nil xnil)) xcons)) xcall)) xretS))) xseqS)
theorem d_dijkstra {G : Gx} (T : Tx G) : FnD G 2 "dijkstra" (lfC x_dijkstra) := by
  obtain ⟨f, fd, h1, h2⟩ := T.d_dijkstra
  exact fn_X (ps := P_dijkstra) h1 h2 sc_dijkstra (fun _ _ _ _ _ _ us hl => match us, hl with | [_], _ => rfl) fun W => w_dijkstra T (d_is_within T) (d_dijkstra_of T) W

/-! part W1 -/
abbrev N_movers : List Str := ["rules", "standing"]
abbrev P_movers : List Str := ["rules", "standing"]
def xb_movers : XS :=
  (seqSX (exprSX (callX x_need_standing (consX (varX 0) (consX (varX 1) nilX)))) (retSX (callX x_movers_of (consX (varX 0) (consX (varX 1) nilX)))))
def x_movers : List D → Rs D := fnX 2 2 xb_movers
theorem sc_movers : FnScope N_movers P_movers (defScope s_movers) := ⟨rfl, rfl, rfl, by decide +kernel, rfl, by decide +kernel, by decide +kernel⟩
theorem w_movers {G : Gx} (T : Tx G) (h_need_standing : FnD G 6 "need_standing" (lfC x_need_standing)) (h_movers_of : FnD G 2 "movers_of" (lfC x_movers_of)) (W : WX) : PSsd (defCtx G N_movers (defScope s_movers) 6 W) (defBody s_movers) (lfS xb_movers) :=
  (PSsd.eq (pssd_cons (PSd.eq (psd_expr (PD.eq (pd_call h_need_standing (PAs.eq (pas_cons (PD.eq (pd_var 0) xvar) (PAs.eq (pas_cons (PD.eq (pd_var 1) xvar) (PAs.eq pas_nil xnil)) xcons)) xcons)) xcall)) xexprS) (pssd_one (PSd.eq (psd_ret (PD.eq (pd_call h_movers_of (PAs.eq (pas_cons (PD.eq (pd_var 0) xvar) (PAs.eq (pas_cons (PD.eq (pd_var 1) xvar) (PAs.eq pas_nil xnil)) xcons)) xcons)) xcall)) xretS))) xseqS)
theorem d_movers {G : Gx} (T : Tx G) : FnD G 7 "movers" (lfC x_movers) := by
  obtain ⟨f, fd, h1, h2⟩ := T.d_movers
  exact fn_X (ps := P_movers) h1 h2 sc_movers (fun _ _ _ _ _ _ us hl => match us, hl with | [_, _], _ => rfl) fun W => w_movers T (d_need_standing T) (d_movers_of T) W

/-! part W1 -/
abbrev N_right_at : List Str := ["rules", "standing", "known", "some"]
abbrev P_right_at : List Str := ["rules", "standing"]
def xb_right_at : XS :=
  (seqSX (setSX 2 (owX (newX (.dT [])))) (seqSX (whileX (tstX (opPX (fun a b => (inCo a b).map fun q => D.bl (!q)) (varX 1) (varPX 2))) (seqSX (setSX 3 (fzX (callX x_movers_of (consX (varX 0) (consX (varX 1) nilX))))) (seqSX (ifSX (tstX (op2X neD (op1X lenD (varX 3)) (conX (.int 1)))) (retSX (conX (.bl false))) nextX) (seqSX (putSX 2 (varX 1) (conX (.bl true))) (setSX 1 (fzX (callX x_moved_by (consX (varX 0) (consX (varX 1) (consX (varX 3) nilX))))))))) 1000) (retSX (conX (.bl true)))))
def x_right_at : List D → Rs D := fnX 2 4 xb_right_at
theorem sc_right_at : FnScope N_right_at P_right_at (defScope s_right_at) := ⟨rfl, rfl, rfl, by decide +kernel, rfl, by decide +kernel, by decide +kernel⟩
theorem w_right_at {G : Gx} (T : Tx G) (h_movers_of : FnD G 2 "movers_of" (lfC x_movers_of)) (h_moved_by : FnD G 2 "moved_by" (lfC x_moved_by)) (W : WX) : PSsd (defCtx G N_right_at (defScope s_right_at) 2 W) (defBody s_right_at) (lfS xb_right_at) :=
  (PSsd.eq (pssd_cons (PSd.eq (psd_set 2 (PX.eq (PN.px (PN.eq pn_dT xnew)) xow)) xsetS) (PSsd.eq (pssd_cons (xwhile 1000 (psd_while (PB.eq (pb_notIn (PD.eq (pd_var 1) xvar) (PP.eq (pp_var 2) xvarP)) ((congrArg tst xopP).trans xtst)) (PSsd.eq (pssd_cons (PSd.eq (psd_set 3 (PX.eq (PD.px (PD.eq (pd_call h_movers_of (PAs.eq (pas_cons (PD.eq (pd_var 0) xvar) (PAs.eq (pas_cons (PD.eq (pd_var 1) xvar) (PAs.eq pas_nil xnil)) xcons)) xcons)) xcall)) xfz)) xsetS) (PSsd.eq (pssd_cons (PSd.eq (psd_if (PB.eq (pb_ne (PD.eq (pd_len (PD.eq (pd_var 3) xvar) T.f_len) xop1) (PD.eq pd_int xcon)) ((congrArg tst xop2).trans xtst)) (pssd_one (PSd.eq (psd_ret (PD.eq pd_bl xcon)) xretS)) (PSsd.eq pssd_nil xnext)) xifS) (PSsd.eq (pssd_cons (PSd.eq (psd_put 2 (PD.eq (pd_var 1) xvar) (PD.eq pd_bl xcon)) xputS) (pssd_one (PSd.eq (psd_set 1 (PX.eq (PD.px (PD.eq (pd_call h_moved_by (PAs.eq (pas_cons (PD.eq (pd_var 0) xvar) (PAs.eq (pas_cons (PD.eq (pd_var 1) xvar) (PAs.eq (pas_cons (PD.eq (pd_var 3) xvar) (PAs.eq pas_nil xnil)) xcons)) xcons)) xcons)) xcall)) xfz)) xsetS))) xseqS)) xseqS)) xseqS))) (pssd_one (PSd.eq (psd_ret (PD.eq pd_bl xcon)) xretS))) xseqS)) xseqS)
theorem d_right_at {G : Gx} (T : Tx G) : FnD G 3 "right_at" (lfC x_right_at) := by
  obtain ⟨f, fd, h1, h2⟩ := T.d_right_at
  exact fn_X (ps := P_right_at) h1 h2 sc_right_at (fun _ _ _ _ _ _ us hl => match us, hl with | [_, _], _ => rfl) fun W => w_right_at T (d_movers_of T) (d_moved_by T) W

/-! part W1 -/
abbrev N_worths_of : List Str := ["rules", "size", "way", "every", "found", "standing", "left", "grown", "later", "some", "there"]
abbrev P_worths_of : List Str := ["rules", "size", "way"]
def xb_worths_of : XS :=
  (seqSX (setSX 3 (fzX (callX x_standings_of (consX (varX 0) (consX (varX 1) nilX))))) (seqSX (setSX 4 (owX (dictTX (pnX (lcX [5] (seqX (varX 3)) (tgN 5) (tstX (callX x_right_at (consX (varX 0) (consX (varX 5) nilX)))) (tupX (consX (varX 5) (consX (conX (.int 0)) nilX)))))))) (seqSX (setSX 6 (fzX (pnX (lcX [5] (seqX (varX 3)) (tgN 5) (tstX (opPX (fun a b => (inCo a b).map fun q => D.bl (!q)) (varX 5) (varPX 4))) (tupX (consX (varX 5) (consX (callX x_steps_of (consX (varX 0) (consX (varX 5) (consX (varX 2) nilX)))) nilX))))))) (seqSX (setSX 7 (fzX (conX (.bl true)))) (seqSX (whileX (tstX (varX 7)) (seqSX (parSX 7 8 (fzX (conX (.bl false))) (owX (lstX nilX))) (seqSX (forSX (seqX (varX 6)) (tgTup 2 (tgsCons (tgN 5) (tgsCons (tgN 9) tgsNil))) (ifSX (andBX (tstX (op2X neD (varX 9) (pnX (lstX nilX)))) (tstX (op1X allD (pnX (lcX [10] (seqX (varX 9)) (tgN 10) yesX (opPX (fun a b => (inCo a b).map D.bl) (varX 10) (varPX 4))))))) (seqSX (putSX 4 (varX 5) (op2X addD (conX (.int 1)) (op1X maxD (pnX (lcX [10] (seqX (varX 9)) (tgN 10) yesX (getX (varPX 4) (varX 10))))))) (setSX 7 (fzX (conX (.bl true))))) (appSX 8 (tupX (consX (varX 5) (consX (varX 9) nilX)))))) (freezeSX 8 (setSX 6 (fzX (varX 8)))))) 1000) (freezeSX 4 (retSX (varX 4))))))))
def x_worths_of : List D → Rs D := fnX 3 11 xb_worths_of
theorem sc_worths_of : FnScope N_worths_of P_worths_of (defScope s_worths_of) := ⟨rfl, rfl, rfl, by decide +kernel, rfl, by decide +kernel, by decide +kernel⟩
theorem w_worths_of {G : Gx} (T : Tx G) (h_standings_of : FnD G 1 "standings_of" (lfC x_standings_of)) (h_right_at : FnD G 3 "right_at" (lfC x_right_at)) (h_steps_of : FnD G 4 "steps_of" (lfC x_steps_of)) (W : WX) : PSsd (defCtx G N_worths_of (defScope s_worths_of) 4 W) (defBody s_worths_of) (lfS xb_worths_of) :=
  (PSsd.eq (pssd_cons (PSd.eq (psd_set 3 (PX.eq (PD.px (PD.eq (pd_call h_standings_of (PAs.eq (pas_cons (PD.eq (pd_var 0) xvar) (PAs.eq (pas_cons (PD.eq (pd_var 1) xvar) (PAs.eq pas_nil xnil)) xcons)) xcons)) xcall)) xfz)) xsetS) (PSsd.eq (pssd_cons (PSd.eq (psd_set 4 (PX.eq (PN.px (PN.eq (pn_dictT (pn_lf (pn_lcX [("standing", 5)] (PId.eq (pid_seq (PD.eq (pd_var 3) xvar)) xseq) (pgd_name 5) (ptsd_one (PB.eq (pb_val (PD.eq (pd_call h_right_at (PAs.eq (pas_cons (PD.eq (pd_var 0) xvar) (PAs.eq (pas_cons (PD.eq (pd_var 5) xvar) (PAs.eq pas_nil xnil)) xcons)) xcons)) xcall)) xtst)) (PD.eq (pd_tup (PAs.eq (pas_cons (PD.eq (pd_var 5) xvar) (PAs.eq (pas_cons (PD.eq pd_int xcon) (PAs.eq pas_nil xnil)) xcons)) xcons)) xtup))) T.f_dict) xdictT)) xow)) xsetS) (PSsd.eq (pssd_cons (psd_setLcFX 6 [("standing", 5)] (PId.eq (pid_seq (PD.eq (pd_var 3) xvar)) xseq) (pgd_name 5) (ptsd_one (PB.eq (pb_notIn (PD.eq (pd_var 5) xvar) (PP.eq (pp_var 4) xvarP)) ((congrArg tst xopP).trans xtst))) (PD.eq (pd_tup (PAs.eq (pas_cons (PD.eq (pd_var 5) xvar) (PAs.eq (pas_cons (PD.eq (pd_call h_steps_of (PAs.eq (pas_cons (PD.eq (pd_var 0) xvar) (PAs.eq (pas_cons (PD.eq (pd_var 5) xvar) (PAs.eq (pas_cons (PD.eq (pd_var 2) xvar) (PAs.eq pas_nil xnil)) xcons)) xcons)) xcons)) xcall) (PAs.eq pas_nil xnil)) xcons)) xcons)) xtup)) (PSsd.eq (pssd_cons (PSd.eq (psd_set 7 (PX.eq (PD.px (PD.eq pd_bl xcon)) xfz)) xsetS) (PSsd.eq (pssd_cons (xwhile 1000 (psd_while (PB.eq (pb_val (PD.eq (pd_var 7) xvar)) xtst) (PSsd.eq (pssd_cons (PSd.eq (psd_par2 7 8 (PX.eq (PD.px (PD.eq pd_bl xcon)) xfz) (PX.eq (PN.px (PN.eq (pn_lst (PAs.eq pas_nil xnil)) xlst)) xow)) xparS) (PSsd.eq (pssd_cons (PSd.eq (psd_for (PId.eq (pid_seq (PD.eq (pd_var 6) xvar)) xseq) (pgd_tup (pgsd_cons (pgd_name 5) (pgsd_cons (pgd_name 9) pgsd_nil))) (pssd_one (PSd.eq (psd_if (PBw.pb (PBw.eq (pbw_and (PB.eq (pb_ne (PD.eq (pd_var 9) xvar) (pn_lf (PN.eq (pn_lst (PAs.eq pas_nil xnil)) xlst))) ((congrArg tst xop2).trans xtst)) (pbw_and1 (PB.eq (pb_val (PD.eq (pd_all (pn_lf (pn_lcX [("there", 10)] (PId.eq (pid_seq (PD.eq (pd_var 9) xvar)) xseq) (pgd_name 10) (PTsd.eq ptsd_nil xyes) (PD.eq (pd_in (PD.eq (pd_var 10) xvar) (PP.eq (pp_var 4) xvarP)) xopP))) T.f_all) xop1)) xtst))) xandB)) (PSsd.eq (pssd_cons (PSd.eq (psd_put 4 (PD.eq (pd_var 5) xvar) (PD.eq (pd_add (PD.eq pd_int xcon) (PD.eq (pd_max (pn_lf (pn_lcX [("there", 10)] (PId.eq (pid_seq (PD.eq (pd_var 9) xvar)) xseq) (pgd_name 10) (PTsd.eq ptsd_nil xyes) (PD.eq (pd_dget (PP.eq (pp_var 4) xvarP) (PD.eq (pd_var 10) xvar)) xget))) T.f_max) xop1)) xop2)) xputS) (pssd_one (PSd.eq (psd_set 7 (PX.eq (PD.px (PD.eq pd_bl xcon)) xfz)) xsetS))) xseqS) (pssd_one (PSd.eq (psd_append 8 (PD.eq (pd_tup (PAs.eq (pas_cons (PD.eq (pd_var 5) xvar) (PAs.eq (pas_cons (PD.eq (pd_var 9) xvar) (PAs.eq pas_nil xnil)) xcons)) xcons)) xtup)) xappS))) xifS))) xforS) (PSsd.eq (pssd_freeze 8 (pssd_one (PSd.eq (psd_set 6 (PX.eq (PD.px (PD.eq (pd_var 8) xvar)) xfz)) xsetS))) xfreezeS)) xseqS)) xseqS))) (PSsd.eq (pssd_freeze 4 (pssd_one (PSd.eq (psd_ret (PD.eq (pd_var 4) xvar)) xretS))) xfreezeS)) xseqS)) xseqS)) xseqS)) xseqS)) xseqS)
theorem d_worths_of {G : Gx} (T : Tx G) : FnD G 5 "worths_of" (lfC x_worths_of) := by
  obtain ⟨f, fd, h1, h2⟩ := T.d_worths_of
  exact fn_X (ps := P_worths_of) h1 h2 sc_worths_of (fun _ _ _ _ _ _ us hl => match us, hl with | [_, _, _], _ => rfl) fun W => w_worths_of T (d_standings_of T) (d_right_at T) (d_steps_of T) W

/-! part W1 -/
abbrev N_need_both : List Str := ["rules", "size", "way"]
abbrev P_need_both : List Str := ["rules", "size", "way"]
def xb_need_both : XS :=
  (seqSX (exprSX (callX x_need_size (consX (varX 0) (consX (varX 1) nilX)))) (exprSX (callX x_need_way (consX (varX 2) nilX))))
def x_need_both : List D → Rs D := fnX 3 3 xb_need_both
theorem sc_need_both : FnScope N_need_both P_need_both (defScope s_need_both) := ⟨rfl, rfl, rfl, by decide +kernel, rfl, by decide +kernel, by decide +kernel⟩
theorem w_need_both {G : Gx} (T : Tx G) (h_need_size : FnD G 6 "need_size" (lfC x_need_size)) (h_need_way : FnD G 1 "need_way" (lfC x_need_way)) (W : WX) : PSsd (defCtx G N_need_both (defScope s_need_both) 6 W) (defBody s_need_both) (lfS xb_need_both) :=
  (PSsd.eq (pssd_cons (PSd.eq (psd_expr (PD.eq (pd_call h_need_size (PAs.eq (pas_cons (PD.eq (pd_var 0) xvar) (PAs.eq (pas_cons (PD.eq (pd_var 1) xvar) (PAs.eq pas_nil xnil)) xcons)) xcons)) xcall)) xexprS) (pssd_one (PSd.eq (psd_expr (PD.eq (pd_call h_need_way (PAs.eq (pas_cons (PD.eq (pd_var 2) xvar) (PAs.eq pas_nil xnil)) xcons)) xcall)) xexprS))) xseqS)
theorem d_need_both {G : Gx} (T : Tx G) : FnD G 7 "need_both" (lfC x_need_both) := by
  obtain ⟨f, fd, h1, h2⟩ := T.d_need_both
  exact fn_X (ps := P_need_both) h1 h2 sc_need_both (fun _ _ _ _ _ _ us hl => match us, hl with | [_, _, _], _ => rfl) fun W => w_need_both T (d_need_size T) (d_need_way T) W

/-! part W1 -/
abbrev N_is_right : List Str := ["rules", "standing"]
abbrev P_is_right : List Str := ["rules", "standing"]
def xb_is_right : XS :=
  (seqSX (exprSX (callX x_need_standing (consX (varX 0) (consX (varX 1) nilX)))) (retSX (callX x_right_at (consX (varX 0) (consX (varX 1) nilX)))))
def x_is_right : List D → Rs D := fnX 2 2 xb_is_right
theorem sc_is_right : FnScope N_is_right P_is_right (defScope s_is_right) := ⟨rfl, rfl, rfl, by decide +kernel, rfl, by decide +kernel, by decide +kernel⟩
theorem w_is_right {G : Gx} (T : Tx G) (h_need_standing : FnD G 6 "need_standing" (lfC x_need_standing)) (h_right_at : FnD G 3 "right_at" (lfC x_right_at)) (W : WX) : PSsd (defCtx G N_is_right (defScope s_is_right) 6 W) (defBody s_is_right) (lfS xb_is_right) :=
  (PSsd.eq (pssd_cons (PSd.eq (psd_expr (PD.eq (pd_call h_need_standing (PAs.eq (pas_cons (PD.eq (pd_var 0) xvar) (PAs.eq (pas_cons (PD.eq (pd_var 1) xvar) (PAs.eq pas_nil xnil)) xcons)) xcons)) xcall)) xexprS) (pssd_one (PSd.eq (psd_ret (PD.eq (pd_call h_right_at (PAs.eq (pas_cons (PD.eq (pd_var 0) xvar) (PAs.eq (pas_cons (PD.eq (pd_var 1) xvar) (PAs.eq pas_nil xnil)) xcons)) xcons)) xcall)) xretS))) xseqS)
theorem d_is_right {G : Gx} (T : Tx G) : FnD G 7 "is_right" (lfC x_is_right) := by
  obtain ⟨f, fd, h1, h2⟩ := T.d_is_right
  exact fn_X (ps := P_is_right) h1 h2 sc_is_right (fun _ _ _ _ _ _ us hl => match us, hl with | [_, _], _ => rfl) fun W => w_is_right T (d_need_standing T) (d_right_at T) W

/-! part W1 -/
abbrev N_mends : List Str := ["rules", "size", "way"]
abbrev P_mends : List Str := ["rules", "size", "way"]
def xb_mends : XS :=
  (seqSX (exprSX (callX x_need_both (consX (varX 0) (consX (varX 1) (consX (varX 2) nilX))))) (retSX (op2X eqD (op1X lenD (callX x_worths_of (consX (varX 0) (consX (varX 1) (consX (varX 2) nilX))))) (callX x_power (consX (op1X lenD (op2X idxD (varX 0) (conX (.int 0)))) (consX (varX 1) nilX))))))
def x_mends : List D → Rs D := fnX 3 3 xb_mends
theorem sc_mends : FnScope N_mends P_mends (defScope s_mends) := ⟨rfl, rfl, rfl, by decide +kernel, rfl, by decide +kernel, by decide +kernel⟩
theorem w_mends {G : Gx} (T : Tx G) (h_need_both : FnD G 7 "need_both" (lfC x_need_both)) (h_worths_of : FnD G 5 "worths_of" (lfC x_worths_of)) (h_power : FnD G 1 "power" (lfC x_power)) (W : WX) : PSsd (defCtx G N_mends (defScope s_mends) 7 W) (defBody s_mends) (lfS xb_mends) :=
  (PSsd.eq (pssd_cons (PSd.eq (psd_expr (PD.eq (pd_call h_need_both (PAs.eq (pas_cons (PD.eq (pd_var 0) xvar) (PAs.eq (pas_cons (PD.eq (pd_var 1) xvar) (PAs.eq (pas_cons (PD.eq (pd_var 2) xvar) (PAs.eq pas_nil xnil)) xcons)) xcons)) xcons)) xcall)) xexprS) (pssd_one (PSd.eq (psd_ret (PD.eq (pd_eq (PD.eq (pd_len (PD.eq (pd_call h_worths_of (PAs.eq (pas_cons (PD.eq (pd_var 0) xvar) (PAs.eq (pas_cons (PD.eq (pd_var 1) xvar) (PAs.eq (pas_cons (PD.eq (pd_var 2) xvar) (PAs.eq pas_nil xnil)) xcons)) xcons)) xcons)) xcall) T.f_len) xop1) (PD.eq (pd_call h_power (PAs.eq (pas_cons (PD.eq (pd_len (PD.eq (pd_ix (PD.eq (pd_var 0) xvar) (PD.eq pd_int xcon)) xop2) T.f_len) xop1) (PAs.eq (pas_cons (PD.eq (pd_var 1) xvar) (PAs.eq pas_nil xnil)) xcons)) xcons)) xcall)) xop2)) xretS))) xseqS)
theorem d_mends {G : Gx} (T : Tx G) : FnD G 8 "mends" (lfC x_mends) := by
  obtain ⟨f, fd, h1, h2⟩ := T.d_mends
  exact fn_X (ps := P_mends) h1 h2 sc_mends (fun _ _ _ _ _ _ us hl => match us, hl with | [_, _, _], _ => rfl) fun W => w_mends T (d_need_both T) (d_worths_of T) (d_power T) W

/-! part W1 -/
abbrev N_longest : List Str := ["rules", "size", "way", "found", "every", "most", "standing"]
abbrev P_longest : List Str := ["rules", "size", "way"]
def xb_longest : XS :=
  (seqSX (exprSX (callX x_need_both (consX (varX 0) (consX (varX 1) (consX (varX 2) nilX))))) (seqSX (setSX 3 (fzX (callX x_worths_of (consX (varX 0) (consX (varX 1) (consX (varX 2) nilX)))))) (seqSX (setSX 4 (fzX (callX x_standings_of (consX (varX 0) (consX (varX 1) nilX))))) (seqSX (ifSX (tstX (op2X (intB fun i j => decide (i < j)) (op1X lenD (varX 3)) (op1X lenD (varX 4)))) (retSX (conX .non)) nextX) (seqSX (setSX 5 (fzX (op1X maxD (pnX (lcX [6] (seqX (varX 4)) (tgN 6) yesX (getX (varPX 3) (varX 6))))))) (retSX (tupX (consX (varX 5) (consX (op2X idxD (pnX (lcX [6] (seqX (varX 4)) (tgN 6) (tstX (op2X eqD (getX (varPX 3) (varX 6)) (varX 5))) (varX 6))) (conX (.int 0))) nilX)))))))))
def x_longest : List D → Rs D := fnX 3 7 xb_longest
theorem sc_longest : FnScope N_longest P_longest (defScope s_longest) := ⟨rfl, rfl, rfl, by decide +kernel, rfl, by decide +kernel, by decide +kernel⟩
theorem w_longest {G : Gx} (T : Tx G) (h_need_both : FnD G 7 "need_both" (lfC x_need_both)) (h_worths_of : FnD G 5 "worths_of" (lfC x_worths_of)) (h_standings_of : FnD G 1 "standings_of" (lfC x_standings_of)) (W : WX) : PSsd (defCtx G N_longest (defScope s_longest) 7 W) (defBody s_longest) (lfS xb_longest) :=
  (PSsd.eq (pssd_cons (PSd.eq (psd_expr (PD.eq (pd_call h_need_both (PAs.eq (pas_cons (PD.eq (pd_var 0) xvar) (PAs.eq (pas_cons (PD.eq (pd_var 1) xvar) (PAs.eq (pas_cons (PD.eq (pd_var 2) xvar) (PAs.eq pas_nil xnil)) xcons)) xcons)) xcons)) xcall)) xexprS) (PSsd.eq (pssd_cons (PSd.eq (psd_set 3 (PX.eq (PD.px (PD.eq (pd_call h_worths_of (PAs.eq (pas_cons (PD.eq (pd_var 0) xvar) (PAs.eq (pas_cons (PD.eq (pd_var 1) xvar) (PAs.eq (pas_cons (PD.eq (pd_var 2) xvar) (PAs.eq pas_nil xnil)) xcons)) xcons)) xcons)) xcall)) xfz)) xsetS) (PSsd.eq (pssd_cons (PSd.eq (psd_set 4 (PX.eq (PD.px (PD.eq (pd_call h_standings_of (PAs.eq (pas_cons (PD.eq (pd_var 0) xvar) (PAs.eq (pas_cons (PD.eq (pd_var 1) xvar) (PAs.eq pas_nil xnil)) xcons)) xcons)) xcall)) xfz)) xsetS) (PSsd.eq (pssd_cons (PSd.eq (psd_if (PB.eq (pb_lt (PD.eq (pd_len (PD.eq (pd_var 3) xvar) T.f_len) xop1) (PD.eq (pd_len (PD.eq (pd_var 4) xvar) T.f_len) xop1)) ((congrArg tst xop2).trans xtst)) (pssd_one (PSd.eq (psd_ret (PD.eq pd_non xcon)) xretS)) (PSsd.eq pssd_nil xnext)) xifS) (PSsd.eq (pssd_cons (PSd.eq (psd_set 5 (PX.eq (PD.px (PD.eq (pd_max (pn_lf (pn_lcX [("standing", 6)] (PId.eq (pid_seq (PD.eq (pd_var 4) xvar)) xseq) (pgd_name 6) (PTsd.eq ptsd_nil xyes) (PD.eq (pd_dget (PP.eq (pp_var 3) xvarP) (PD.eq (pd_var 6) xvar)) xget))) T.f_max) xop1)) xfz)) xsetS) (pssd_one (PSd.eq (psd_ret (PD.eq (pd_tup (PAs.eq (pas_cons (PD.eq (pd_var 5) xvar) (PAs.eq (pas_cons (PD.eq (pd_ix (pn_lf (pn_lcX [("standing", 6)] (PId.eq (pid_seq (PD.eq (pd_var 4) xvar)) xseq) (pgd_name 6) (ptsd_one (PB.eq (pb_eq (PD.eq (pd_dget (PP.eq (pp_var 3) xvarP) (PD.eq (pd_var 6) xvar)) xget) (PD.eq (pd_var 5) xvar)) ((congrArg tst xop2).trans xtst))) (PD.eq (pd_var 6) xvar))) (PD.eq pd_int xcon)) xop2) (PAs.eq pas_nil xnil)) xcons)) xcons)) xtup)) xretS))) xseqS)) xseqS)) xseqS)) xseqS)) xseqS)
theorem d_longest {G : Gx} (T : Tx G) : FnD G 8 "longest" (lfC x_longest) := by
  obtain ⟨f, fd, h1, h2⟩ := T.d_longest
  exact fn_X (ps := P_longest) h1 h2 sc_longest (fun _ _ _ _ _ _ us hl => match us, hl with | [_, _, _], _ => rfl) fun W => w_longest T (d_need_both T) (d_worths_of T) (d_standings_of T) W

/-! part W1 -/
abbrev N_counts_of : List Str := ["rules", "size", "first", "others", "found", "start", "now", "house", "later", "left", "many", "worth", "own", "there", "last", "total"]
abbrev P_counts_of : List Str := ["rules", "size"]
def xb_counts_of : XS :=
  (seqSX (asgSX (tgTup 2 (tgsCons (tgN 2) (tgsCons (tgN 3) tgsNil))) (varX 0)) (seqSX (setSX 4 (owX (newX (.dK [])))) (seqSX (forSX (rg1X (op1X lenD (varX 2))) (tgN 5) (seqSX (setSX 6 (owX (d1TX (tupX (consX (varX 5) (consX (conX (.int 0)) nilX))) (conX (.int 1))))) (seqSX (forSX (rg2X (conX (.int 1)) (varX 1)) (tgN 7) (seqSX (setSX 8 (owX (newX (.dT [])))) (freezeSX 6 (seqSX (forSX (itemsTX (varX 6)) (tgTup 2 (tgsCons (tgTup 2 (tgsCons (tgN 9) (tgsCons (tgN 10) tgsNil))) (tgsCons (tgN 11) tgsNil))) (forSX (rg1X (op1X lenD (varX 2))) (tgN 12) (seqSX (setSX 13 (fzX (tupX (consX (varX 12) (consX (op2X addD (varX 10) (op1X intD (op1X (fun d => some (.bl (!isN d))) (op2X idxD (op2X idxD (varX 3) (varX 9)) (varX 12))))) nilX))))) (putSX 8 (varX 13) (op2X addD (getDX (varPX 8) (varX 13) (conX (.int 0))) (varX 11)))))) (freezeSX 8 (setSX 6 (fzX (varX 8)))))))) (freezeSX 6 (forSX (itemsTX (varX 6)) (tgTup 2 (tgsCons (tgTup 2 (tgsCons (tgN 14) (tgsCons (tgN 10) tgsNil))) (tgsCons (tgN 11) tgsNil))) (seqSX (setSX 15 (fzX (op2X addD (varX 10) (op1X intD (op1X (fun d => some (.bl (!isN d))) (op2X idxD (op2X idxD (varX 2) (varX 14)) (varX 5))))))) (putSX 4 (varX 15) (op2X addD (getDX (varPX 4) (varX 15) (conX (.int 0))) (varX 11))))))))) (freezeSX 4 (retSX (varX 4))))))
def x_counts_of : List D → Rs D := fnX 2 16 xb_counts_of
theorem sc_counts_of : FnScope N_counts_of P_counts_of (defScope s_counts_of) := ⟨rfl, rfl, rfl, by decide +kernel, rfl, by decide +kernel, by decide +kernel⟩
theorem w_counts_of {G : Gx} (T : Tx G)  (W : WX) : PSsd (defCtx G N_counts_of (defScope s_counts_of) 0 W) (defBody s_counts_of) (lfS xb_counts_of) :=
  (PSsd.eq (pssd_cons (PSd.eq (psd_asg (PD.eq (pd_var 0) xvar) (pgd_tup (pgsd_cons (pgd_name 2) (pgsd_cons (pgd_name 3) pgsd_nil)))) xasgS) (PSsd.eq (pssd_cons (PSd.eq (psd_set 4 (PX.eq (PN.px (PN.eq pn_dK xnew)) xow)) xsetS) (PSsd.eq (pssd_cons (PSd.eq (psd_for (PId.eq (pid_range1 T.f_range (PD.eq (pd_len (PD.eq (pd_var 2) xvar) T.f_len) xop1)) xrg1) (pgd_name 5) (PSsd.eq (pssd_cons (PSd.eq (psd_set 6 (PX.eq (PN.px (PN.eq (pn_d1T (PD.eq (pd_tup (PAs.eq (pas_cons (PD.eq (pd_var 5) xvar) (PAs.eq (pas_cons (PD.eq pd_int xcon) (PAs.eq pas_nil xnil)) xcons)) xcons)) xtup) (PD.eq pd_int xcon)) xd1T)) xow)) xsetS) (PSsd.eq (pssd_cons (PSd.eq (psd_for (PId.eq (pid_range2 T.f_range (PD.eq pd_int xcon) (PD.eq (pd_var 1) xvar)) xrg2) (pgd_name 7) (PSsd.eq (pssd_cons (PSd.eq (psd_set 8 (PX.eq (PN.px (PN.eq pn_dT xnew)) xow)) xsetS) (PSsd.eq (pssd_freeze 6 (PSsd.eq (pssd_cons (PSd.eq (psd_for (PId.eq (pid_itemsT (PD.eq (pd_var 6) xvar)) xitemsT) (pgd_tup (pgsd_cons (pgd_tup (pgsd_cons (pgd_name 9) (pgsd_cons (pgd_name 10) pgsd_nil))) (pgsd_cons (pgd_name 11) pgsd_nil))) (pssd_one (PSd.eq (psd_for (PId.eq (pid_range1 T.f_range (PD.eq (pd_len (PD.eq (pd_var 2) xvar) T.f_len) xop1)) xrg1) (pgd_name 12) (PSsd.eq (pssd_cons (PSd.eq (psd_set 13 (PX.eq (PD.px (PD.eq (pd_tup (PAs.eq (pas_cons (PD.eq (pd_var 12) xvar) (PAs.eq (pas_cons (PD.eq (pd_add (PD.eq (pd_var 10) xvar) (PD.eq (pd_intc (PD.eq (pd_notN (PD.eq (pd_ix (PD.eq (pd_ix (PD.eq (pd_var 3) xvar) (PD.eq (pd_var 9) xvar)) xop2) (PD.eq (pd_var 12) xvar)) xop2)) xop1) T.f_int) xop1)) xop2) (PAs.eq pas_nil xnil)) xcons)) xcons)) xtup)) xfz)) xsetS) (pssd_one (PSd.eq (psd_put 8 (PD.eq (pd_var 13) xvar) (PD.eq (pd_add (PD.eq (pd_get2 (PP.eq (pp_var 8) xvarP) (PD.eq (pd_var 13) xvar) (PD.eq pd_int xcon)) xgetD) (PD.eq (pd_var 11) xvar)) xop2)) xputS))) xseqS)) xforS))) xforS) (PSsd.eq (pssd_freeze 8 (pssd_one (PSd.eq (psd_set 6 (PX.eq (PD.px (PD.eq (pd_var 8) xvar)) xfz)) xsetS))) xfreezeS)) xseqS)) xfreezeS)) xseqS)) xforS) (PSsd.eq (pssd_freeze 6 (pssd_one (PSd.eq (psd_for (PId.eq (pid_itemsT (PD.eq (pd_var 6) xvar)) xitemsT) (pgd_tup (pgsd_cons (pgd_tup (pgsd_cons (pgd_name 14) (pgsd_cons (pgd_name 10) pgsd_nil))) (pgsd_cons (pgd_name 11) pgsd_nil))) (PSsd.eq (pssd_cons (PSd.eq (psd_set 15 (PX.eq (PD.px (PD.eq (pd_add (PD.eq (pd_var 10) xvar) (PD.eq (pd_intc (PD.eq (pd_notN (PD.eq (pd_ix (PD.eq (pd_ix (PD.eq (pd_var 2) xvar) (PD.eq (pd_var 14) xvar)) xop2) (PD.eq (pd_var 5) xvar)) xop2)) xop1) T.f_int) xop1)) xop2)) xfz)) xsetS) (pssd_one (PSd.eq (psd_put 4 (PD.eq (pd_var 15) xvar) (PD.eq (pd_add (PD.eq (pd_get2 (PP.eq (pp_var 4) xvarP) (PD.eq (pd_var 15) xvar) (PD.eq pd_int xcon)) xgetD) (PD.eq (pd_var 11) xvar)) xop2)) xputS))) xseqS)) xforS))) xfreezeS)) xseqS)) xseqS)) xforS) (PSsd.eq (pssd_freeze 4 (pssd_one (PSd.eq (psd_ret (PD.eq (pd_var 4) xvar)) xretS))) xfreezeS)) xseqS)) xseqS)) xseqS)
theorem d_counts_of {G : Gx} (T : Tx G) : FnD G 1 "counts_of" (lfC x_counts_of) := by
  obtain ⟨f, fd, h1, h2⟩ := T.d_counts_of
  exact fn_X (ps := P_counts_of) h1 h2 sc_counts_of (fun _ _ _ _ _ _ us hl => match us, hl with | [_, _], _ => rfl) fun W => w_counts_of T  W

/-! part W1 -/
abbrev N_plain_steps : List Str := ["rules", "entry", "line"]
abbrev P_plain_steps : List Str := ["rules"]
def xb_plain_steps : XS :=
  (retSX (op1X tupleD (pnX (lcX [2] (seqX (op2X idxD (varX 0) (conX (.int 1)))) (tgN 2) yesX (op1X tupleD (pnX (lcX [1] (seqX (varX 2)) (tgN 1) yesX (op1X (fun d => some (.bl (isN d))) (varX 1)))))))))
def x_plain_steps : List D → Rs D := fnX 1 3 xb_plain_steps
theorem sc_plain_steps : FnScope N_plain_steps P_plain_steps (defScope s_plain_steps) := ⟨rfl, rfl, rfl, by decide +kernel, rfl, by decide +kernel, by decide +kernel⟩
theorem w_plain_steps {G : Gx} (T : Tx G)  (W : WX) : PSsd (defCtx G N_plain_steps (defScope s_plain_steps) 0 W) (defBody s_plain_steps) (lfS xb_plain_steps) :=
  (pssd_one (PSd.eq (psd_ret (PD.eq (pd_tuple (pn_lf (pn_lcX [("line", 2)] (PId.eq (pid_seq (PD.eq (pd_ix (PD.eq (pd_var 0) xvar) (PD.eq pd_int xcon)) xop2)) xseq) (pgd_name 2) (PTsd.eq ptsd_nil xyes) (PD.eq (pd_tuple (pn_lf (pn_lcX [("entry", 1)] (PId.eq (pid_seq (PD.eq (pd_var 2) xvar)) xseq) (pgd_name 1) (PTsd.eq ptsd_nil xyes) (PD.eq (pd_isN (PD.eq (pd_var 1) xvar)) xop1))) T.f_tuple) xop1))) T.f_tuple) xop1)) xretS))
theorem d_plain_steps {G : Gx} (T : Tx G) : FnD G 1 "plain_steps" (lfC x_plain_steps) := by
  obtain ⟨f, fd, h1, h2⟩ := T.d_plain_steps
  exact fn_X (ps := P_plain_steps) h1 h2 sc_plain_steps (fun _ _ _ _ _ _ us hl => match us, hl with | [_], _ => rfl) fun W => w_plain_steps T  W

/-! part W1 -/
abbrev N_product : List Str := ["one", "other", "columns", "a", "b", "column", "row"]
abbrev P_product : List Str := ["one", "other"]
def xb_product : XS :=
  (seqSX (setSX 2 (fzX (pnX (zipStarX (varX 1))))) (retSX (op1X tupleD (pnX (lcX [6] (seqX (varX 0)) (tgN 6) yesX (op1X tupleD (pnX (lcX [5] (seqX (varX 2)) (tgN 5) yesX (op1X anyD (pnX (lcX [3, 4] (zipX (varX 6) (varX 5)) (tgTup 2 (tgsCons (tgN 3) (tgsCons (tgN 4) tgsNil))) yesX (andX (varX 3) (varX 4)))))))))))))
def x_product : List D → Rs D := fnX 2 7 xb_product
theorem sc_product : FnScope N_product P_product (defScope s_product) := ⟨rfl, rfl, rfl, by decide +kernel, rfl, by decide +kernel, by decide +kernel⟩
theorem w_product {G : Gx} (T : Tx G)  (W : WX) : PSsd (defCtx G N_product (defScope s_product) 0 W) (defBody s_product) (lfS xb_product) :=
  (PSsd.eq (pssd_cons (PSd.eq (psd_set 2 (PX.eq (PD.px (pn_lf (PN.eq (pn_listZipStar (PD.eq (pd_var 1) xvar) T.f_list T.f_zip) xzipStar))) xfz)) xsetS) (pssd_one (PSd.eq (psd_ret (PD.eq (pd_tuple (pn_lf (pn_lcX [("row", 6)] (PId.eq (pid_seq (PD.eq (pd_var 0) xvar)) xseq) (pgd_name 6) (PTsd.eq ptsd_nil xyes) (PD.eq (pd_tuple (pn_lf (pn_lcX [("column", 5)] (PId.eq (pid_seq (PD.eq (pd_var 2) xvar)) xseq) (pgd_name 5) (PTsd.eq ptsd_nil xyes) (PD.eq (pd_any (pn_lf (pn_lcX [("a", 3), ("b", 4)] (PId.eq (pid_zip T.f_zip (PD.eq (pd_var 6) xvar) (PD.eq (pd_var 5) xvar)) xzip) (pgd_tup (pgsd_cons (pgd_name 3) (pgsd_cons (pgd_name 4) pgsd_nil))) (PTsd.eq ptsd_nil xyes) (PD.eq (pd_and (PD.eq (pd_var 3) xvar) (pd_one (PD.eq (pd_var 4) xvar))) xand))) T.f_any) xop1))) T.f_tuple) xop1))) T.f_tuple) xop1)) xretS))) xseqS)
theorem d_product {G : Gx} (T : Tx G) : FnD G 1 "product" (lfC x_product) := by
  obtain ⟨f, fd, h1, h2⟩ := T.d_product
  exact fn_X (ps := P_product) h1 h2 sc_product (fun _ _ _ _ _ _ us hl => match us, hl with | [_, _], _ => rfl) fun W => w_product T  W

/-! part W1 -/
abbrev N_is_closed : List Str := ["rules", "square", "start", "line", "last", "truth"]
abbrev P_is_closed : List Str := ["rules", "square"]
def xb_is_closed : XS :=
  (seqSX (forSX (enumX (op2X idxD (varX 0) (conX (.int 0)))) (tgTup 2 (tgsCons (tgN 2) (tgsCons (tgN 3) tgsNil))) (forSX (enumX (op2X idxD (varX 1) (varX 2))) (tgTup 2 (tgsCons (tgN 4) (tgsCons (tgN 5) tgsNil))) (ifSX (andBX (tstX (varX 5)) (tstX (op1X (fun d => some (.bl (isN d))) (op2X idxD (op2X idxD (op2X idxD (varX 0) (conX (.int 0))) (varX 4)) (varX 2))))) (retSX (conX (.bl true))) nextX))) (retSX (conX (.bl false))))
def x_is_closed : List D → Rs D := fnX 2 6 xb_is_closed
theorem sc_is_closed : FnScope N_is_closed P_is_closed (defScope s_is_closed) := ⟨rfl, rfl, rfl, by decide +kernel, rfl, by decide +kernel, by decide +kernel⟩
theorem w_is_closed {G : Gx} (T : Tx G)  (W : WX) : PSsd (defCtx G N_is_closed (defScope s_is_closed) 0 W) (defBody s_is_closed) (lfS xb_is_closed) :=
  (PSsd.eq (pssd_cons (PSd.eq (psd_for (PId.eq (pid_enum T.f_enumerate (PD.eq (pd_ix (PD.eq (pd_var 0) xvar) (PD.eq pd_int xcon)) xop2)) xenum) (pgd_tup (pgsd_cons (pgd_name 2) (pgsd_cons (pgd_name 3) pgsd_nil))) (pssd_one (PSd.eq (psd_for (PId.eq (pid_enum T.f_enumerate (PD.eq (pd_ix (PD.eq (pd_var 1) xvar) (PD.eq (pd_var 2) xvar)) xop2)) xenum) (pgd_tup (pgsd_cons (pgd_name 4) (pgsd_cons (pgd_name 5) pgsd_nil))) (pssd_one (PSd.eq (psd_if (PBw.pb (PBw.eq (pbw_and (PB.eq (pb_val (PD.eq (pd_var 5) xvar)) xtst) (pbw_and1 (PB.eq (pb_isN (PD.eq (pd_ix (PD.eq (pd_ix (PD.eq (pd_ix (PD.eq (pd_var 0) xvar) (PD.eq pd_int xcon)) xop2) (PD.eq (pd_var 4) xvar)) xop2) (PD.eq (pd_var 2) xvar)) xop2)) ((congrArg tst xop1).trans xtst)))) xandB)) (pssd_one (PSd.eq (psd_ret (PD.eq pd_bl xcon)) xretS)) (PSsd.eq pssd_nil xnext)) xifS))) xforS))) xforS) (pssd_one (PSd.eq (psd_ret (PD.eq pd_bl xcon)) xretS))) xseqS)
theorem d_is_closed {G : Gx} (T : Tx G) : FnD G 1 "is_closed" (lfC x_is_closed) := by
  obtain ⟨f, fd, h1, h2⟩ := T.d_is_closed
  exact fn_X (ps := P_is_closed) h1 h2 sc_is_closed (fun _ _ _ _ _ _ us hl => match us, hl with | [_, _], _ => rfl) fun W => w_is_closed T  W

/-! part W1 -/
abbrev N_can_die : List Str := ["rules", "size", "base", "found", "left"]
abbrev P_can_die : List Str := ["rules", "size"]
def xb_can_die : XS :=
  (seqSX (par3SX 2 3 4 (callX x_plain_steps (consX (varX 0) nilX)) (conX .non) (op2X subD (varX 1) (conX (.int 1)))) (seqSX (whileX (tstX (op2X (intB fun i j => decide (j < i)) (varX 4) (conX (.int 0)))) (seqSX (ifSX (tstX (op2X eqD (op2X modD (varX 4) (conX (.int 2))) (conX (.int 1)))) (setSX 3 (fzX (ifX (tstX (op1X (fun d => some (.bl (isN d))) (varX 3))) (varX 2) (callX x_product (consX (varX 3) (consX (varX 2) nilX)))))) nextX) (parSX 2 4 (fzX (callX x_product (consX (varX 2) (consX (varX 2) nilX)))) (fzX (op2X fdivD (varX 4) (conX (.int 2)))))) 1000) (retSX (callX x_is_closed (consX (varX 0) (consX (varX 3) nilX))))))
def x_can_die : List D → Rs D := fnX 2 5 xb_can_die
theorem sc_can_die : FnScope N_can_die P_can_die (defScope s_can_die) := ⟨rfl, rfl, rfl, by decide +kernel, rfl, by decide +kernel, by decide +kernel⟩
theorem w_can_die {G : Gx} (T : Tx G) (h_plain_steps : FnD G 1 "plain_steps" (lfC x_plain_steps)) (h_product : FnD G 1 "product" (lfC x_product)) (h_is_closed : FnD G 1 "is_closed" (lfC x_is_closed)) (W : WX) : PSsd (defCtx G N_can_die (defScope s_can_die) 1 W) (defBody s_can_die) (lfS xb_can_die) :=
  (PSsd.eq (pssd_cons (PSd.eq (psd_par3 2 3 4 (PD.eq (pd_call h_plain_steps (PAs.eq (pas_cons (PD.eq (pd_var 0) xvar) (PAs.eq pas_nil xnil)) xcons)) xcall) (PD.eq pd_non xcon) (PD.eq (pd_sub (PD.eq (pd_var 1) xvar) (PD.eq pd_int xcon)) xop2)) xpar3S) (PSsd.eq (pssd_cons (xwhile 1000 (psd_while (PB.eq (pb_gt (PD.eq (pd_var 4) xvar) (PD.eq pd_int xcon)) ((congrArg tst xop2).trans xtst)) (PSsd.eq (pssd_cons (PSd.eq (psd_if (PB.eq (pb_eq (PD.eq (pd_mod (PD.eq (pd_var 4) xvar) (PD.eq pd_int xcon)) xop2) (PD.eq pd_int xcon)) ((congrArg tst xop2).trans xtst)) (pssd_one (PSd.eq (psd_set 3 (PX.eq (PD.px (PD.eq (pd_if (PB.eq (pb_isN (PD.eq (pd_var 3) xvar)) ((congrArg tst xop1).trans xtst)) (PD.eq (pd_var 2) xvar) (PD.eq (pd_call h_product (PAs.eq (pas_cons (PD.eq (pd_var 3) xvar) (PAs.eq (pas_cons (PD.eq (pd_var 2) xvar) (PAs.eq pas_nil xnil)) xcons)) xcons)) xcall)) xif)) xfz)) xsetS)) (PSsd.eq pssd_nil xnext)) xifS) (pssd_one (PSd.eq (psd_par2 2 4 (PX.eq (PD.px (PD.eq (pd_call h_product (PAs.eq (pas_cons (PD.eq (pd_var 2) xvar) (PAs.eq (pas_cons (PD.eq (pd_var 2) xvar) (PAs.eq pas_nil xnil)) xcons)) xcons)) xcall)) xfz) (PX.eq (PD.px (PD.eq (pd_fdiv (PD.eq (pd_var 4) xvar) (PD.eq pd_int xcon)) xop2)) xfz)) xparS))) xseqS))) (pssd_one (PSd.eq (psd_ret (PD.eq (pd_call h_is_closed (PAs.eq (pas_cons (PD.eq (pd_var 0) xvar) (PAs.eq (pas_cons (PD.eq (pd_var 3) xvar) (PAs.eq pas_nil xnil)) xcons)) xcons)) xcall)) xretS))) xseqS)) xseqS)
theorem d_can_die {G : Gx} (T : Tx G) : FnD G 2 "can_die" (lfC x_can_die) := by
  obtain ⟨f, fd, h1, h2⟩ := T.d_can_die
  exact fn_X (ps := P_can_die) h1 h2 sc_can_die (fun _ _ _ _ _ _ us hl => match us, hl with | [_, _], _ => rfl) fun W => w_can_die T (d_plain_steps T) (d_product T) (d_is_closed T) W

/-! part W1 -/
abbrev N_need_count : List Str := ["rules", "size", "most"]
abbrev P_need_count : List Str := ["rules", "size", "most"]
def xb_need_count : XS :=
  (seqSX (exprSX (callX x_need_rules (consX (varX 0) nilX))) (ifSX (notBX (tstX (callX x_is_within (consX (varX 1) (consX (conX (.int 2)) (consX (varX 2) nilX)))))) neverX nextX))
def x_need_count : List D → Rs D := fnX 3 3 xb_need_count
theorem sc_need_count : FnScope N_need_count P_need_count (defScope s_need_count) := ⟨rfl, rfl, rfl, by decide +kernel, rfl, by decide +kernel, by decide +kernel⟩
theorem w_need_count {G : Gx} (T : Tx G) (h_need_rules : FnD G 5 "need_rules" (lfC x_need_rules)) (h_is_within : FnD G 1 "is_within" (lfC x_is_within)) (W : WX) : PSsd (defCtx G N_need_count (defScope s_need_count) 5 W) (defBody s_need_count) (lfS xb_need_count) :=
  (PSsd.eq (pssd_cons (PSd.eq (psd_expr (PD.eq (pd_call h_need_rules (PAs.eq (pas_cons (PD.eq (pd_var 0) xvar) (PAs.eq pas_nil xnil)) xcons)) xcall)) xexprS) (pssd_one (PSd.eq (psd_if (PB.eq (pb_not (PB.eq (pb_val (PD.eq (pd_call h_is_within (PAs.eq (pas_cons (PD.eq (pd_var 1) xvar) (PAs.eq (pas_cons (PD.eq pd_int xcon) (PAs.eq (pas_cons (PD.eq (pd_var 2) xvar) (PAs.eq pas_nil xnil)) xcons)) xcons)) xcons)) xcall)) xtst)) xnotB) (PSsd.eq pssd_never xnever) (PSsd.eq pssd_nil xnext)) xifS))) xseqS)
theorem d_need_count {G : Gx} (T : Tx G) : FnD G 6 "need_count" (lfC x_need_count) := by
  obtain ⟨f, fd, h1, h2⟩ := T.d_need_count
  exact fn_X (ps := P_need_count) h1 h2 sc_need_count (fun _ _ _ _ _ _ us hl => match us, hl with | [_, _, _], _ => rfl) fun W => w_need_count T (d_need_rules T) (d_is_within T) W

/-! part W1 -/
abbrev N_fewest_movers : List Str := ["rules", "size"]
abbrev P_fewest_movers : List Str := ["rules", "size"]
def xb_fewest_movers : XS :=
  (seqSX (exprSX (callX x_need_count (consX (varX 0) (consX (varX 1) (consX (conX (.int 40)) nilX))))) (retSX (op1X minKD (callX x_counts_of (consX (varX 0) (consX (varX 1) nilX))))))
def x_fewest_movers : List D → Rs D := fnX 2 2 xb_fewest_movers
theorem sc_fewest_movers : FnScope N_fewest_movers P_fewest_movers (defScope s_fewest_movers) := ⟨rfl, rfl, rfl, by decide +kernel, rfl, by decide +kernel, by decide +kernel⟩
theorem w_fewest_movers {G : Gx} (T : Tx G) (h_need_count : FnD G 6 "need_count" (lfC x_need_count)) (h_counts_of : FnD G 1 "counts_of" (lfC x_counts_of)) (W : WX) : PSsd (defCtx G N_fewest_movers (defScope s_fewest_movers) 6 W) (defBody s_fewest_movers) (lfS xb_fewest_movers) :=
  (PSsd.eq (pssd_cons (PSd.eq (psd_expr (PD.eq (pd_call h_need_count (PAs.eq (pas_cons (PD.eq (pd_var 0) xvar) (PAs.eq (pas_cons (PD.eq (pd_var 1) xvar) (PAs.eq (pas_cons (PD.eq (pd_gint T.c_MOST_COUNTED) xcon) (PAs.eq pas_nil xnil)) xcons)) xcons)) xcons)) xcall)) xexprS) (pssd_one (PSd.eq (psd_ret (PD.eq (pd_minK (PD.eq (pd_call h_counts_of (PAs.eq (pas_cons (PD.eq (pd_var 0) xvar) (PAs.eq (pas_cons (PD.eq (pd_var 1) xvar) (PAs.eq pas_nil xnil)) xcons)) xcons)) xcall) T.f_min) xop1)) xretS))) xseqS)
theorem d_fewest_movers {G : Gx} (T : Tx G) : FnD G 7 "fewest_movers" (lfC x_fewest_movers) := by
  obtain ⟨f, fd, h1, h2⟩ := T.d_fewest_movers
  exact fn_X (ps := P_fewest_movers) h1 h2 sc_fewest_movers (fun _ _ _ _ _ _ us hl => match us, hl with | [_, _], _ => rfl) fun W => w_fewest_movers T (d_need_count T) (d_counts_of T) W

/-! part W1 -/
abbrev N_can_be_dead : List Str := ["rules", "size"]
abbrev P_can_be_dead : List Str := ["rules", "size"]
def xb_can_be_dead : XS :=
  (seqSX (exprSX (callX x_need_count (consX (varX 0) (consX (varX 1) (consX (conX (.int 1000000000000000000000000000000)) nilX))))) (retSX (callX x_can_die (consX (varX 0) (consX (varX 1) nilX)))))
def x_can_be_dead : List D → Rs D := fnX 2 2 xb_can_be_dead
theorem sc_can_be_dead : FnScope N_can_be_dead P_can_be_dead (defScope s_can_be_dead) := ⟨rfl, rfl, rfl, by decide +kernel, rfl, by decide +kernel, by decide +kernel⟩
theorem w_can_be_dead {G : Gx} (T : Tx G) (h_need_count : FnD G 6 "need_count" (lfC x_need_count)) (h_can_die : FnD G 2 "can_die" (lfC x_can_die)) (W : WX) : PSsd (defCtx G N_can_be_dead (defScope s_can_be_dead) 6 W) (defBody s_can_be_dead) (lfS xb_can_be_dead) :=
  (PSsd.eq (pssd_cons (PSd.eq (psd_expr (PD.eq (pd_call h_need_count (PAs.eq (pas_cons (PD.eq (pd_var 0) xvar) (PAs.eq (pas_cons (PD.eq (pd_var 1) xvar) (PAs.eq (pas_cons (PD.eq (pd_gint T.c_MOST_SIZE) xcon) (PAs.eq pas_nil xnil)) xcons)) xcons)) xcons)) xcall)) xexprS) (pssd_one (PSd.eq (psd_ret (PD.eq (pd_call h_can_die (PAs.eq (pas_cons (PD.eq (pd_var 0) xvar) (PAs.eq (pas_cons (PD.eq (pd_var 1) xvar) (PAs.eq pas_nil xnil)) xcons)) xcons)) xcall)) xretS))) xseqS)
theorem d_can_be_dead {G : Gx} (T : Tx G) : FnD G 7 "can_be_dead" (lfC x_can_be_dead) := by
  obtain ⟨f, fd, h1, h2⟩ := T.d_can_be_dead
  exact fn_X (ps := P_can_be_dead) h1 h2 sc_can_be_dead (fun _ _ _ _ _ _ us hl => match us, hl with | [_, _], _ => rfl) fun W => w_can_be_dead T (d_need_count T) (d_can_die T) W

/-! part W1 -/
abbrev N__law_fits : List Str := ["_law_many", "_law_size_so", "_law_total", "_law_turn"]
abbrev P__law_fits : List Str := ["_law_many", "_law_size_so"]
def xb__law_fits : XS :=
  (seqSX (setSX 2 (fzX (conX (.int 1)))) (seqSX (forSX (rg1X (varX 1)) (tgN 3) (setSX 2 (fzX (op2X mulD (varX 2) (varX 0))))) (retSX (op2X (intB fun i j => decide (i ≤ j)) (varX 2) (conX (.int 729))))))
def x__law_fits : List D → Rs D := fnX 2 4 xb__law_fits
theorem sc__law_fits : FnScope N__law_fits P__law_fits (defScope s__law_fits) := ⟨rfl, rfl, rfl, by decide +kernel, rfl, by decide +kernel, by decide +kernel⟩
theorem w__law_fits {G : Gx} (T : Tx G)  (W : WX) : PSsd (defCtx G N__law_fits (defScope s__law_fits) 0 W) (defBody s__law_fits) (lfS xb__law_fits) :=
  (PSsd.eq (pssd_cons (PSd.eq (psd_set 2 (PX.eq (PD.px (PD.eq pd_int xcon)) xfz)) xsetS) (PSsd.eq (pssd_cons (PSd.eq (psd_for (PId.eq (pid_range1 T.f_range (PD.eq (pd_var 1) xvar)) xrg1) (pgd_name 3) (pssd_one (PSd.eq (psd_set 2 (PX.eq (PD.px (PD.eq (pd_mul (PD.eq (pd_var 2) xvar) (PD.eq (pd_var 0) xvar)) xop2)) xfz)) xsetS))) xforS) (pssd_one (PSd.eq (psd_ret (PD.eq (pd_le (PD.eq (pd_var 2) xvar) (PD.eq pd_int xcon)) xop2)) xretS))) xseqS)) xseqS)
theorem d__law_fits {G : Gx} (T : Tx G) : FnD G 1 "_law_fits" (lfC x__law_fits) := by
  obtain ⟨f, fd, h1, h2⟩ := T.d__law_fits
  exact fn_X (ps := P__law_fits) h1 h2 sc__law_fits (fun _ _ _ _ _ _ us hl => match us, hl with | [_, _], _ => rfl) fun W => w__law_fits T  W

/-! part W1 -/
abbrev N__law_right : List Str := ["_law_many", "_law_size_so", "_law_rules_so"]
abbrev P__law_right : List Str := ["_law_many", "_law_size_so"]
def xb__law_right : XS :=
  (seqSX (setSX 2 (fzX (callX x_dijkstra (consX (varX 0) nilX)))) (seqSX (ifSX (tstX (op2X neD (callX x_mends (consX (varX 2) (consX (varX 1) (consX (conX (.str "one")) nilX)))) (orX (op2X (intB fun i j => decide (j ≤ i)) (varX 0) (op2X subD (varX 1) (conX (.int 1)))) (op2X eqD (varX 0) (conX (.int 1)))))) (retSX (conX (.bl false))) nextX) (seqSX (ifSX (andBX (orBX (tstX (op2X (intB fun i j => decide (j ≤ i)) (varX 0) (varX 1))) (tstX (op2X eqD (varX 0) (conX (.int 1))))) (notBX (tstX (callX x_mends (consX (varX 2) (consX (varX 1) (consX (conX (.str "all")) nilX))))))) (retSX (conX (.bl false))) nextX) (seqSX (ifSX (andBX (tstX (op2X (intB fun i j => decide (j ≤ i)) (varX 0) (varX 1))) (notBX (tstX (callX x_mends (consX (varX 2) (consX (varX 1) (consX (conX (.str "some")) nilX))))))) (retSX (conX (.bl false))) nextX) (retSX (andX (op2X isB (callX x_can_be_dead (consX (varX 2) (consX (varX 1) nilX))) (conX (.bl false))) (op2X eqD (callX x_fewest_movers (consX (varX 2) (consX (varX 1) nilX))) (conX (.int 1)))))))))
def x__law_right : List D → Rs D := fnX 2 3 xb__law_right
theorem sc__law_right : FnScope N__law_right P__law_right (defScope s__law_right) := ⟨rfl, rfl, rfl, by decide +kernel, rfl, by decide +kernel, by decide +kernel⟩
theorem w__law_right {G : Gx} (T : Tx G) (h_dijkstra : FnD G 2 "dijkstra" (lfC x_dijkstra)) (h_mends : FnD G 8 "mends" (lfC x_mends)) (h_can_be_dead : FnD G 7 "can_be_dead" (lfC x_can_be_dead)) (h_fewest_movers : FnD G 7 "fewest_movers" (lfC x_fewest_movers)) (W : WX) : PSsd (defCtx G N__law_right (defScope s__law_right) 8 W) (defBody s__law_right) (lfS xb__law_right) :=
  (PSsd.eq (pssd_cons (PSd.eq (psd_set 2 (PX.eq (PD.px (PD.eq (pd_call h_dijkstra (PAs.eq (pas_cons (PD.eq (pd_var 0) xvar) (PAs.eq pas_nil xnil)) xcons)) xcall)) xfz)) xsetS) (PSsd.eq (pssd_cons (PSd.eq (psd_if (PB.eq (pb_ne (PD.eq (pd_call h_mends (PAs.eq (pas_cons (PD.eq (pd_var 2) xvar) (PAs.eq (pas_cons (PD.eq (pd_var 1) xvar) (PAs.eq (pas_cons (PD.eq pd_str xcon) (PAs.eq pas_nil xnil)) xcons)) xcons)) xcons)) xcall) (PD.eq (pd_or (PD.eq (pd_ge (PD.eq (pd_var 0) xvar) (PD.eq (pd_sub (PD.eq (pd_var 1) xvar) (PD.eq pd_int xcon)) xop2)) xop2) (pd_one (PD.eq (pd_eq (PD.eq (pd_var 0) xvar) (PD.eq pd_int xcon)) xop2))) xor)) ((congrArg tst xop2).trans xtst)) (pssd_one (PSd.eq (psd_ret (PD.eq pd_bl xcon)) xretS)) (PSsd.eq pssd_nil xnext)) xifS) (PSsd.eq (pssd_cons (PSd.eq (psd_if (PBw.pb (PBw.eq (pbw_and (PBw.pb (PBw.eq (pbw_or (PB.eq (pb_ge (PD.eq (pd_var 0) xvar) (PD.eq (pd_var 1) xvar)) ((congrArg tst xop2).trans xtst)) (pbw_or1 (PB.eq (pb_eq (PD.eq (pd_var 0) xvar) (PD.eq pd_int xcon)) ((congrArg tst xop2).trans xtst)))) xorB)) (pbw_and1 (PB.eq (pb_not (PB.eq (pb_val (PD.eq (pd_call h_mends (PAs.eq (pas_cons (PD.eq (pd_var 2) xvar) (PAs.eq (pas_cons (PD.eq (pd_var 1) xvar) (PAs.eq (pas_cons (PD.eq pd_str xcon) (PAs.eq pas_nil xnil)) xcons)) xcons)) xcons)) xcall)) xtst)) xnotB))) xandB)) (pssd_one (PSd.eq (psd_ret (PD.eq pd_bl xcon)) xretS)) (PSsd.eq pssd_nil xnext)) xifS) (PSsd.eq (pssd_cons (PSd.eq (psd_if (PBw.pb (PBw.eq (pbw_and (PB.eq (pb_ge (PD.eq (pd_var 0) xvar) (PD.eq (pd_var 1) xvar)) ((congrArg tst xop2).trans xtst)) (pbw_and1 (PB.eq (pb_not (PB.eq (pb_val (PD.eq (pd_call h_mends (PAs.eq (pas_cons (PD.eq (pd_var 2) xvar) (PAs.eq (pas_cons (PD.eq (pd_var 1) xvar) (PAs.eq (pas_cons (PD.eq pd_str xcon) (PAs.eq pas_nil xnil)) xcons)) xcons)) xcons)) xcall)) xtst)) xnotB))) xandB)) (pssd_one (PSd.eq (psd_ret (PD.eq pd_bl xcon)) xretS)) (PSsd.eq pssd_nil xnext)) xifS) (pssd_one (PSd.eq (psd_ret (PD.eq (pd_and (PD.eq (pd_isB (PD.eq (pd_call h_can_be_dead (PAs.eq (pas_cons (PD.eq (pd_var 2) xvar) (PAs.eq (pas_cons (PD.eq (pd_var 1) xvar) (PAs.eq pas_nil xnil)) xcons)) xcons)) xcall) (PD.eq pd_bl xcon)) xop2) (pd_one (PD.eq (pd_eq (PD.eq (pd_call h_fewest_movers (PAs.eq (pas_cons (PD.eq (pd_var 2) xvar) (PAs.eq (pas_cons (PD.eq (pd_var 1) xvar) (PAs.eq pas_nil xnil)) xcons)) xcons)) xcall) (PD.eq pd_int xcon)) xop2))) xand)) xretS))) xseqS)) xseqS)) xseqS)) xseqS)
theorem d__law_right {G : Gx} (T : Tx G) : FnD G 9 "_law_right" (lfC x__law_right) := by
  obtain ⟨f, fd, h1, h2⟩ := T.d__law_right
  exact fn_X (ps := P__law_right) h1 h2 sc__law_right (fun _ _ _ _ _ _ us hl => match us, hl with | [_, _], _ => rfl) fun W => w__law_right T (d_dijkstra T) (d_mends T) (d_can_be_dead T) (d_fewest_movers T) W

/-! part W1 -/
abbrev N__law_deck : List Str := ["_law_cell", "_law_turn"]
abbrev P__law_deck : List Str := ["_law_cell", "_law_turn"]
def b__law_deck {c : DL.Ctx} (S : Deck c.M c.K) : DS c :=
  (seqS (ifS (lf (tstX (op2X (intB fun i j => decide (j ≤ i)) (varX 0) (op2X powD (conX (.int 10)) (conX (.int 18)))))) (retDk S (lf (lstX (consX (op2X subD (varX 0) (op2X powD (conX (.int 10)) (conX (.int 18)))) (consX (op2X modD (varX 0) (conX (.int 2147483579))) (consX (varX 1) nilX)))))) (lfS nextX)) (retDk S (lf (lstX (consX (conX (.int 0)) (consX (op2X modD (varX 0) (conX (.int 2147483579))) (consX (varX 1) nilX)))))))
theorem sc__law_deck : FnScope N__law_deck P__law_deck (defScope s__law_deck) := ⟨rfl, rfl, rfl, by decide +kernel, rfl, by decide +kernel, by decide +kernel⟩
theorem w__law_deck {G : Gx} (T : Tx G) (S : Deck G.M G.K)  (W : WX) : PSsd (defCtx G N__law_deck (defScope s__law_deck) 0 W) (defBody s__law_deck) (b__law_deck S) :=
  (pssd_cons (psd_if (PB.eq (pb_ge (PD.eq (pd_var 0) xvar) (PD.eq (pd_pow (PD.eq pd_int xcon) (PD.eq pd_int xcon)) xop2)) ((congrArg tst xop2).trans xtst)) (pssd_one (psd_retDk (c := defCtx G N__law_deck (defScope s__law_deck) 0 W) S (PN.eq (pn_lst (PAs.eq (pas_cons (PD.eq (pd_sub (PD.eq (pd_var 0) xvar) (PD.eq (pd_pow (PD.eq pd_int xcon) (PD.eq pd_int xcon)) xop2)) xop2) (PAs.eq (pas_cons (PD.eq (pd_mod (PD.eq (pd_var 0) xvar) (PD.eq pd_int xcon)) xop2) (PAs.eq (pas_cons (PD.eq (pd_var 1) xvar) (PAs.eq pas_nil xnil)) xcons)) xcons)) xcons)) xlst))) (PSsd.eq pssd_nil xnext)) (pssd_one (psd_retDk (c := defCtx G N__law_deck (defScope s__law_deck) 0 W) S (PN.eq (pn_lst (PAs.eq (pas_cons (PD.eq pd_int xcon) (PAs.eq (pas_cons (PD.eq (pd_mod (PD.eq (pd_var 0) xvar) (PD.eq pd_int xcon)) xop2) (PAs.eq (pas_cons (PD.eq (pd_var 1) xvar) (PAs.eq pas_nil xnil)) xcons)) xcons)) xcons)) xlst))))

/-! part W1 -/
abbrev N__law_pick : List Str := ["_law_deck_here", "_law_size", "_law_found", "_law_number"]
abbrev P__law_pick : List Str := ["_law_deck_here", "_law_size"]
def b__law_pick {c : DL.Ctx} (S : Deck c.M c.K) : DS c :=
  (seqS (ifS (tst (op2 (intB fun i j => decide (j < i)) (dkE S 0 0) (lf (conX (.int 1))))) (seqS (setS 2 (fzE (op2 modD (op1 intD (dkE S 0 0)) (lf (varX 1))))) (seqS (dkS S 0 0 (op2 fdivD (dkE S 0 0) (lf (varX 1)))) (lfS (retSX (varX 2))))) (lfS nextX)) (seqS (dkS S 0 2 (op2 addD (dkE S 0 2) (lf (conX (.int 1))))) (seqS (setS 3 (fzE (op2 modD (op2 powD (op2 addD (dkE S 0 1) (op2 mulD (lf (conX (.int 15485867))) (dkE S 0 2))) (lf (conX (.int 5)))) (lf (conX (.int 2147483647)))))) (seqS (setS 2 (fzE (op2 fdivD (op2 modD (op2 powD (op2 addD (lf (varX 3)) (op2 mulD (lf (conX (.int 7919))) (dkE S 0 2))) (lf (conX (.int 3)))) (lf (conX (.int 2147483629)))) (lf (conX (.int 32)))))) (lfS (retSX (op2X modD (op1X intD (varX 2)) (varX 1))))))))
theorem sc__law_pick : FnScope N__law_pick P__law_pick (defScope s__law_pick) := ⟨rfl, rfl, rfl, by decide +kernel, rfl, by decide +kernel, by decide +kernel⟩
theorem w__law_pick {G : Gx} (T : Tx G) (S : Deck G.M G.K)  (W : WX) : PSsd (defCtx G N__law_pick (defScope s__law_pick) 0 W) (defBody s__law_pick) (b__law_pick S) :=
  (pssd_cons (psd_if (pb_gt (pd_dk (c := defCtx G N__law_pick (defScope s__law_pick) 0 W) S 0 0) (PD.eq pd_int xcon)) (pssd_cons (psd_set 2 (PD.px (pd_mod (pd_intc (pd_dk (c := defCtx G N__law_pick (defScope s__law_pick) 0 W) S 0 0) T.f_int) (PD.eq (pd_var 1) xvar)))) (pssd_cons (psd_dk (c := defCtx G N__law_pick (defScope s__law_pick) 0 W) S 0 0 (pd_fdiv (pd_dk (c := defCtx G N__law_pick (defScope s__law_pick) 0 W) S 0 0) (PD.eq (pd_var 1) xvar))) (pssd_one (PSd.eq (psd_ret (PD.eq (pd_var 2) xvar)) xretS)))) (PSsd.eq pssd_nil xnext)) (pssd_cons (psd_dk (c := defCtx G N__law_pick (defScope s__law_pick) 0 W) S 0 2 (pd_add (pd_dk (c := defCtx G N__law_pick (defScope s__law_pick) 0 W) S 0 2) (PD.eq pd_int xcon))) (pssd_cons (psd_set 3 (PD.px (pd_mod (pd_pow (pd_add (pd_dk (c := defCtx G N__law_pick (defScope s__law_pick) 0 W) S 0 1) (pd_mul (PD.eq pd_int xcon) (pd_dk (c := defCtx G N__law_pick (defScope s__law_pick) 0 W) S 0 2))) (PD.eq pd_int xcon)) (PD.eq pd_int xcon)))) (pssd_cons (psd_set 2 (PD.px (pd_fdiv (pd_mod (pd_pow (pd_add (PD.eq (pd_var 3) xvar) (pd_mul (PD.eq pd_int xcon) (pd_dk (c := defCtx G N__law_pick (defScope s__law_pick) 0 W) S 0 2))) (PD.eq pd_int xcon)) (PD.eq pd_int xcon)) (PD.eq pd_int xcon)))) (pssd_one (PSd.eq (psd_ret (PD.eq (pd_mod (PD.eq (pd_intc (PD.eq (pd_var 2) xvar) T.f_int) xop1) (PD.eq (pd_var 1) xvar)) xop2)) xretS))))))

/-! part W1 -/
abbrev N__law_one : List Str := ["_law_deck_here", "_law_some"]
abbrev P__law_one : List Str := ["_law_deck_here", "_law_some"]
def b__law_one {c : DL.Ctx} (S : Deck c.M c.K) : DS c :=
  (retS (op2 idxD (lf (varX 1)) (callE (C__law_pick S) (lf (consX (varX 0) (consX (op1X lenD (varX 1)) nilX))))))
theorem sc__law_one : FnScope N__law_one P__law_one (defScope s__law_one) := ⟨rfl, rfl, rfl, by decide +kernel, rfl, by decide +kernel, by decide +kernel⟩
theorem w__law_one {G : Gx} (T : Tx G) (S : Deck G.M G.K) (h__law_pick : FnD G 1 "_law_pick" (C__law_pick S)) (W : WX) : PSsd (defCtx G N__law_one (defScope s__law_one) 1 W) (defBody s__law_one) (b__law_one S) :=
  (pssd_one (psd_ret (pd_ix (PD.eq (pd_var 1) xvar) (pd_call h__law_pick (PAs.eq (pas_cons (PD.eq (pd_var 0) xvar) (PAs.eq (pas_cons (PD.eq (pd_len (PD.eq (pd_var 1) xvar) T.f_len) xop1) (PAs.eq pas_nil xnil)) xcons)) xcons)))))

/-! part W1 -/
abbrev N_law : List Str := ["_law_script", "_law_every", "_law_many", "_law_size_so", "_law_cell", "_law_deck_here", "_law_turn", "_law_rules_so", "_law_standing_so", "_law_one_here", "_law_some"]
abbrev P_law : List Str := ["_law_script"]
def b_law {c : DL.Ctx} (S : Deck c.M c.K) : DS c :=
  (seqS (lfS (setSX 1 (fzX (pnX (lstX nilX))))) (seqS (lfS (forSX (rg2X (conX (.int 1)) (conX (.int 7))) (tgN 2) (setSX 1 (fzX (op2X addD (varX 1) (pnX (lcX [3] (rg2X (conX (.int 2)) (conX (.int 11))) (tgN 3) (tstX (callX x__law_fits (consX (varX 2) (consX (varX 3) nilX)))) (tupX (consX (varX 2) (consX (varX 3) nilX)))))))))) (seqS (forS (seqE (pnE (slLE (addScrE S (lf (lstX (consX (conX (.int 0)) nilX))) (lf (varX 0))) (lf nonePX) (lf (somePX (conX (.int 6))))))) (tgN 4) (seqS (setS 5 (fzE (callE (C__law_deck S) (lf (consX (varX 4) (consX (conX (.int 4)) nilX)))))) (seqS (forS (lf (rg1X (conX (.int 4)))) (tgN 6) (seqS (asgS (tgTup 2 (tgsCons (tgN 2) (tgsCons (tgN 3) tgsNil))) (callE (C__law_one S) (lf (consX (varX 5) (consX (varX 1) nilX))))) (lfS (ifSX (andBX (tstX (op2X (intB fun i j => decide (i < j)) (varX 2) (conX (.int 4)))) (notBX (tstX (callX x__law_right (consX (varX 2) (consX (varX 3) nilX)))))) (retSX (conX (.bl false))) nextX)))) (seqS (setS 7 (fzE (callE (lfC x_dijkstra) (consE (op2 addD (lf (conX (.int 2))) (callE (C__law_pick S) (lf (consX (varX 5) (consX (conX (.int 2)) nilX))))) (lf nilX))))) (seqS (setS 3 (fzE (op2 addD (lf (conX (.int 3))) (callE (C__law_pick S) (lf (consX (varX 5) (consX (conX (.int 3)) nilX))))))) (forS (lf (rg1X (conX (.int 10)))) (tgN 6) (seqS (setS 8 (fzE (op1 tupleD (pnE (lcE [9] (lf (rg1X (varX 3))) (tgN 9) (lf yesX) (callE (C__law_pick S) (lf (consX (varX 5) (consX (op1X lenD (op2X idxD (varX 7) (conX (.int 0)))) nilX))))))))) (lfS (seqSX (setSX 10 (fzX (callX x_movers (consX (varX 7) (consX (varX 8) nilX))))) (ifSX (orBX (tstX (op2X eqD (varX 10) (pnX (lstX nilX)))) (tstX (op2X neD (callX x_is_right (consX (varX 7) (consX (varX 8) nilX))) (op2X eqD (op1X lenD (varX 10)) (conX (.int 1)))))) (retSX (conX (.bl false))) nextX)))))))))) (lfS (seqSX (setSX 10 (fzX (pnX (lstX (consX (tupX (consX (conX (.int 2)) (consX (conX (.int 3)) nilX))) (consX (tupX (consX (conX (.int 2)) (consX (conX (.int 4)) nilX))) (consX (tupX (consX (conX (.int 3)) (consX (conX (.int 3)) nilX))) (consX (tupX (consX (conX (.int 3)) (consX (conX (.int 4)) nilX))) (consX (tupX (consX (conX (.int 3)) (consX (conX (.int 5)) nilX))) (consX (tupX (consX (conX (.int 4)) (consX (conX (.int 4)) nilX))) (consX (tupX (consX (conX (.int 2)) (consX (conX (.int 2)) nilX))) (consX (tupX (consX (conX (.int 1)) (consX (conX (.int 10)) nilX))) (consX (tupX (consX (conX (.int 4)) (consX (conX (.int 3)) nilX))) nilX))))))))))))) (seqSX (forSX (seqX (op2X addD (varX 10) (pnX (lstX (consX (tupX (consX (conX (.int 6)) (consX (conX (.int 3)) nilX))) (consX (tupX (consX (conX (.int 2)) (consX (conX (.int 8)) nilX))) nilX)))))) (tgTup 2 (tgsCons (tgN 2) (tgsCons (tgN 3) tgsNil))) (ifSX (notBX (tstX (callX x__law_right (consX (varX 2) (consX (varX 3) nilX))))) (retSX (conX (.bl false))) nextX)) (retSX (andX (op2X eqD (callX x_longest (consX (callX x_dijkstra (consX (conX (.int 3)) nilX)) (consX (conX (.int 3)) (consX (conX (.str "all")) nilX)))) (tupX (consX (conX (.int 3)) (consX (tupX (consX (conX (.int 0)) (consX (conX (.int 1)) (consX (conX (.int 0)) nilX)))) nilX)))) (op1X (fun d => some (.bl (isN d))) (callX x_longest (consX (callX x_dijkstra (consX (conX (.int 2)) nilX)) (consX (conX (.int 4)) (consX (conX (.str "one")) nilX)))))))))))))
theorem sc_law : FnScope N_law P_law (defScope s_law) := ⟨rfl, rfl, rfl, by decide +kernel, rfl, by decide +kernel, by decide +kernel⟩
theorem w_law {G : Gx} (T : Tx G) (S : Deck G.M G.K) (h__law_fits : FnD G 1 "_law_fits" (lfC x__law_fits)) (h__law_deck : FnD G 1 "_law_deck" (C__law_deck S)) (h__law_one : FnD G 2 "_law_one" (C__law_one S)) (h__law_right : FnD G 9 "_law_right" (lfC x__law_right)) (h__law_pick : FnD G 1 "_law_pick" (C__law_pick S)) (h_dijkstra : FnD G 2 "dijkstra" (lfC x_dijkstra)) (h_movers : FnD G 7 "movers" (lfC x_movers)) (h_is_right : FnD G 7 "is_right" (lfC x_is_right)) (h_longest : FnD G 8 "longest" (lfC x_longest)) (W : WX) : PSsd (defCtx G N_law (defScope s_law) 9 W) (defBody s_law) (b_law S) :=
  (pssd_cons (PSd.eq (psd_set 1 (PX.eq (PD.px (pn_lf (PN.eq (pn_lst (PAs.eq pas_nil xnil)) xlst))) xfz)) xsetS) (pssd_cons (PSd.eq (psd_for (PId.eq (pid_range2 T.f_range (PD.eq pd_int xcon) (PD.eq pd_int xcon)) xrg2) (pgd_name 2) (pssd_one (PSd.eq (psd_set 1 (PX.eq (PD.px (PD.eq (pd_add (PD.eq (pd_var 1) xvar) (pn_lf (pn_lcX [("_law_size_so", 3)] (PId.eq (pid_range2 T.f_range (PD.eq pd_int xcon) (PD.eq pd_int xcon)) xrg2) (pgd_name 3) (ptsd_one (PB.eq (pb_val (PD.eq (pd_call h__law_fits (PAs.eq (pas_cons (PD.eq (pd_var 2) xvar) (PAs.eq (pas_cons (PD.eq (pd_var 3) xvar) (PAs.eq pas_nil xnil)) xcons)) xcons)) xcall)) xtst)) (PD.eq (pd_tup (PAs.eq (pas_cons (PD.eq (pd_var 2) xvar) (PAs.eq (pas_cons (PD.eq (pd_var 3) xvar) (PAs.eq pas_nil xnil)) xcons)) xcons)) xtup)))) xop2)) xfz)) xsetS))) xforS) (pssd_cons (psd_for (pid_seq ((pn_sl (PN.pk (pn_addScr (c := defCtx G N_law (defScope s_law) 9 W) S (PN.eq (pn_lst (PAs.eq (pas_cons (PD.eq pd_int xcon) (PAs.eq pas_nil xnil)) xcons)) xlst) (PD.eq (pd_var 0) xvar))) (POp.eq po_no xnoneP) (POp.eq (po_so (PD.eq pd_int xcon)) xsomeP))).pd) (pgd_name 4) (pssd_cons (psd_set 5 (PD.px (pd_call h__law_deck (PAs.eq (pas_cons (PD.eq (pd_var 4) xvar) (PAs.eq (pas_cons (PD.eq pd_int xcon) (PAs.eq pas_nil xnil)) xcons)) xcons)))) (pssd_cons (psd_for (PId.eq (pid_range1 T.f_range (PD.eq pd_int xcon)) xrg1) (pgd_name 6) (pssd_cons (psd_asg (pd_call h__law_one (PAs.eq (pas_cons (PD.eq (pd_var 5) xvar) (PAs.eq (pas_cons (PD.eq (pd_var 1) xvar) (PAs.eq pas_nil xnil)) xcons)) xcons)) (pgd_tup (pgsd_cons (pgd_name 2) (pgsd_cons (pgd_name 3) pgsd_nil)))) (pssd_one (PSd.eq (psd_if (PBw.pb (PBw.eq (pbw_and (PB.eq (pb_lt (PD.eq (pd_var 2) xvar) (PD.eq pd_int xcon)) ((congrArg tst xop2).trans xtst)) (pbw_and1 (PB.eq (pb_not (PB.eq (pb_val (PD.eq (pd_call h__law_right (PAs.eq (pas_cons (PD.eq (pd_var 2) xvar) (PAs.eq (pas_cons (PD.eq (pd_var 3) xvar) (PAs.eq pas_nil xnil)) xcons)) xcons)) xcall)) xtst)) xnotB))) xandB)) (pssd_one (PSd.eq (psd_ret (PD.eq pd_bl xcon)) xretS)) (PSsd.eq pssd_nil xnext)) xifS)))) (pssd_cons (psd_set 7 (PD.px (pd_call h_dijkstra (pas_cons (pd_add (PD.eq pd_int xcon) (pd_call h__law_pick (PAs.eq (pas_cons (PD.eq (pd_var 5) xvar) (PAs.eq (pas_cons (PD.eq pd_int xcon) (PAs.eq pas_nil xnil)) xcons)) xcons))) (PAs.eq pas_nil xnil))))) (pssd_cons (psd_set 3 (PD.px (pd_add (PD.eq pd_int xcon) (pd_call h__law_pick (PAs.eq (pas_cons (PD.eq (pd_var 5) xvar) (PAs.eq (pas_cons (PD.eq pd_int xcon) (PAs.eq pas_nil xnil)) xcons)) xcons))))) (pssd_one (psd_for (PId.eq (pid_range1 T.f_range (PD.eq pd_int xcon)) xrg1) (pgd_name 6) (pssd_cons (psd_set 8 (PD.px (pd_tuple ((pn_lc (c := defCtx G N_law (defScope s_law) 9 W) [("_law_one_here", 9)] (PId.eq (pid_range1 T.f_range (PD.eq (pd_var 3) xvar)) xrg1) (pgd_name 9) (PTsd.eq ptsd_nil xyes) (pd_call h__law_pick (PAs.eq (pas_cons (PD.eq (pd_var 5) xvar) (PAs.eq (pas_cons (PD.eq (pd_len (PD.eq (pd_ix (PD.eq (pd_var 7) xvar) (PD.eq pd_int xcon)) xop2) T.f_len) xop1) (PAs.eq pas_nil xnil)) xcons)) xcons)))).pd T.f_tuple))) (PSsd.eq (pssd_cons (PSd.eq (psd_set 10 (PX.eq (PD.px (PD.eq (pd_call h_movers (PAs.eq (pas_cons (PD.eq (pd_var 7) xvar) (PAs.eq (pas_cons (PD.eq (pd_var 8) xvar) (PAs.eq pas_nil xnil)) xcons)) xcons)) xcall)) xfz)) xsetS) (pssd_one (PSd.eq (psd_if (PBw.pb (PBw.eq (pbw_or (PB.eq (pb_eq (PD.eq (pd_var 10) xvar) (pn_lf (PN.eq (pn_lst (PAs.eq pas_nil xnil)) xlst))) ((congrArg tst xop2).trans xtst)) (pbw_or1 (PB.eq (pb_ne (PD.eq (pd_call h_is_right (PAs.eq (pas_cons (PD.eq (pd_var 7) xvar) (PAs.eq (pas_cons (PD.eq (pd_var 8) xvar) (PAs.eq pas_nil xnil)) xcons)) xcons)) xcall) (PD.eq (pd_eq (PD.eq (pd_len (PD.eq (pd_var 10) xvar) T.f_len) xop1) (PD.eq pd_int xcon)) xop2)) ((congrArg tst xop2).trans xtst)))) xorB)) (pssd_one (PSd.eq (psd_ret (PD.eq pd_bl xcon)) xretS)) (PSsd.eq pssd_nil xnext)) xifS))) xseqS))))))))) (PSsd.eq (pssd_cons (PSd.eq (psd_set 10 (PX.eq (PD.px (pn_lf (PN.eq (pn_lst (PAs.eq (pas_cons (PD.eq (pd_tup (PAs.eq (pas_cons (PD.eq pd_int xcon) (PAs.eq (pas_cons (PD.eq pd_int xcon) (PAs.eq pas_nil xnil)) xcons)) xcons)) xtup) (PAs.eq (pas_cons (PD.eq (pd_tup (PAs.eq (pas_cons (PD.eq pd_int xcon) (PAs.eq (pas_cons (PD.eq pd_int xcon) (PAs.eq pas_nil xnil)) xcons)) xcons)) xtup) (PAs.eq (pas_cons (PD.eq (pd_tup (PAs.eq (pas_cons (PD.eq pd_int xcon) (PAs.eq (pas_cons (PD.eq pd_int xcon) (PAs.eq pas_nil xnil)) xcons)) xcons)) xtup) (PAs.eq (pas_cons (PD.eq (pd_tup (PAs.eq (pas_cons (PD.eq pd_int xcon) (PAs.eq (pas_cons (PD.eq pd_int xcon) (PAs.eq pas_nil xnil)) xcons)) xcons)) xtup) (PAs.eq (pas_cons (PD.eq (pd_tup (PAs.eq (pas_cons (PD.eq pd_int xcon) (PAs.eq (pas_cons (PD.eq pd_int xcon) (PAs.eq pas_nil xnil)) xcons)) xcons)) xtup) (PAs.eq (pas_cons (PD.eq (pd_tup (PAs.eq (pas_cons (PD.eq pd_int xcon) (PAs.eq (pas_cons (PD.eq pd_int xcon) (PAs.eq pas_nil xnil)) xcons)) xcons)) xtup) (PAs.eq (pas_cons (PD.eq (pd_tup (PAs.eq (pas_cons (PD.eq pd_int xcon) (PAs.eq (pas_cons (PD.eq pd_int xcon) (PAs.eq pas_nil xnil)) xcons)) xcons)) xtup) (PAs.eq (pas_cons (PD.eq (pd_tup (PAs.eq (pas_cons (PD.eq pd_int xcon) (PAs.eq (pas_cons (PD.eq pd_int xcon) (PAs.eq pas_nil xnil)) xcons)) xcons)) xtup) (PAs.eq (pas_cons (PD.eq (pd_tup (PAs.eq (pas_cons (PD.eq pd_int xcon) (PAs.eq (pas_cons (PD.eq pd_int xcon) (PAs.eq pas_nil xnil)) xcons)) xcons)) xtup) (PAs.eq pas_nil xnil)) xcons)) xcons)) xcons)) xcons)) xcons)) xcons)) xcons)) xcons)) xcons)) xlst))) xfz)) xsetS) (PSsd.eq (pssd_cons (PSd.eq (psd_for (PId.eq (pid_seq (PD.eq (pd_add (PD.eq (pd_var 10) xvar) (pn_lf (PN.eq (pn_lst (PAs.eq (pas_cons (PD.eq (pd_tup (PAs.eq (pas_cons (PD.eq pd_int xcon) (PAs.eq (pas_cons (PD.eq pd_int xcon) (PAs.eq pas_nil xnil)) xcons)) xcons)) xtup) (PAs.eq (pas_cons (PD.eq (pd_tup (PAs.eq (pas_cons (PD.eq pd_int xcon) (PAs.eq (pas_cons (PD.eq pd_int xcon) (PAs.eq pas_nil xnil)) xcons)) xcons)) xtup) (PAs.eq pas_nil xnil)) xcons)) xcons)) xlst))) xop2)) xseq) (pgd_tup (pgsd_cons (pgd_name 2) (pgsd_cons (pgd_name 3) pgsd_nil))) (pssd_one (PSd.eq (psd_if (PB.eq (pb_not (PB.eq (pb_val (PD.eq (pd_call h__law_right (PAs.eq (pas_cons (PD.eq (pd_var 2) xvar) (PAs.eq (pas_cons (PD.eq (pd_var 3) xvar) (PAs.eq pas_nil xnil)) xcons)) xcons)) xcall)) xtst)) xnotB) (pssd_one (PSd.eq (psd_ret (PD.eq pd_bl xcon)) xretS)) (PSsd.eq pssd_nil xnext)) xifS))) xforS) (pssd_one (PSd.eq (psd_ret (PD.eq (pd_and (PD.eq (pd_eq (PD.eq (pd_call h_longest (PAs.eq (pas_cons (PD.eq (pd_call h_dijkstra (PAs.eq (pas_cons (PD.eq pd_int xcon) (PAs.eq pas_nil xnil)) xcons)) xcall) (PAs.eq (pas_cons (PD.eq pd_int xcon) (PAs.eq (pas_cons (PD.eq pd_str xcon) (PAs.eq pas_nil xnil)) xcons)) xcons)) xcons)) xcall) (PD.eq (pd_tup (PAs.eq (pas_cons (PD.eq pd_int xcon) (PAs.eq (pas_cons (PD.eq (pd_tup (PAs.eq (pas_cons (PD.eq pd_int xcon) (PAs.eq (pas_cons (PD.eq pd_int xcon) (PAs.eq (pas_cons (PD.eq pd_int xcon) (PAs.eq pas_nil xnil)) xcons)) xcons)) xcons)) xtup) (PAs.eq pas_nil xnil)) xcons)) xcons)) xtup)) xop2) (pd_one (PD.eq (pd_isN (PD.eq (pd_call h_longest (PAs.eq (pas_cons (PD.eq (pd_call h_dijkstra (PAs.eq (pas_cons (PD.eq pd_int xcon) (PAs.eq pas_nil xnil)) xcons)) xcall) (PAs.eq (pas_cons (PD.eq pd_int xcon) (PAs.eq (pas_cons (PD.eq pd_str xcon) (PAs.eq pas_nil xnil)) xcons)) xcons)) xcons)) xcall)) xop1))) xand)) xretS))) xseqS)) xseqS))))

end HK

set_option Elab.async false
set_option linter.all false
set_option maxRecDepth 100000
set_option maxHeartbeats 4000000
/-! part PLw -/
namespace HK
open PySem PySem.Spec L2 DL DM
theorem seq_nx {f g : XS} {ρ ρ' : En} (h : f ρ = some (.nx ρ')) : seqSX f g ρ = g ρ' := by unfold seqSX; rw [h]
theorem set_ok {i : Nat} {a : XE Sl} {ρ : En} {sl : Sl} (h : a ρ = some (.ok sl)) : setSX i a ρ = some (.nx (ρ.set i sl)) := by unfold setSX thenX; rw [h]
theorem bind_ok {α β : Type} {a : XE α} {b : α → XE β} {ρ : En} {x : α} (h : a ρ = some (.ok x)) : bindX a b ρ = b x ρ := by unfold bindX; rw [h]
theorem fz_ok {a : XE D} {ρ : En} {d : D} (h : a ρ = some (.ok d)) : fzX a ρ = some (.ok (.fz d)) := by unfold fzX; rw [bind_ok h]; rfl
theorem ow_ok {a : XE Co} {ρ : En} {d : Co} (h : a ρ = some (.ok d)) : owX a ρ = some (.ok (.ow d)) := by unfold owX; rw [bind_ok h]; rfl
theorem pn_ok {a : XE Co} {ρ : En} {ds : List D} (h : a ρ = some (.ok (.lst ds))) : pnX a ρ = some (.ok (.lst ds)) := by unfold pnX; rw [bind_ok h]; rfl
theorem lc_ok {vs : List Nat} {fi : XE (List D)} {g : D → En → Option En} {ft : XE Bool} {fe : XE D} {ρ : En} {ds : List D} {co : Co} (h : fi ρ = some (.ok ds)) (h2 : lcWX g ft fe (wipeEn ρ vs) ds [] = some co) : lcX vs fi g ft fe ρ = some (.ok co) := by
  unfold lcX; rw [bind_ok h]; unfold okX; rw [h2]
theorem op1_ok {g : D → Option D} {a : XE D} {ρ : En} {x y : D} (h : a ρ = some (.ok x)) (h2 : g x = some y) : op1X g a ρ = some (.ok y) := by unfold op1X; rw [bind_ok h]; unfold okX; rw [h2]
theorem op2_ok {g : D → D → Option D} {a b : XE D} {ρ : En} {x y z : D} (h : a ρ = some (.ok x)) (h1 : b ρ = some (.ok y)) (h2 : g x y = some z) : op2X g a b ρ = some (.ok z) := by unfold op2X; rw [bind_ok h, bind_ok h1]; unfold okX; rw [h2]
theorem tst_ok {a : XE D} {ρ : En} {b : Bool} (h : a ρ = some (.ok (.bl b))) : tstX a ρ = some (.ok b) := by unfold tstX; rw [bind_ok h]; rfl
theorem andB_ok {a b : XE Bool} {ρ : En} {x y : Bool} (h : a ρ = some (.ok x)) (h2 : x = true → b ρ = some (.ok y)) : andBX a b ρ = some (.ok (x && y)) := by
  unfold andBX condX; rw [bind_ok h]
  cases x with
  | true => exact h2 rfl
  | false => rfl
theorem if_ok {t : XE Bool} {f g : XS} {ρ : En} {b : Bool} (h : t ρ = some (.ok b)) : ifSX t f g ρ = if b = true then f ρ else g ρ := by unfold ifSX thenX; rw [h]; cases b <;> rfl
theorem call_ok {x : List D → Rs D} {a : XE (List D)} {ρ : En} {ds : List D} (h : a ρ = some (.ok ds)) : callX x a ρ = x ds := by unfold callX; rw [bind_ok h]
theorem cons_ok {a : XE D} {r : XE (List D)} {ρ : En} {d : D} {ds : List D} (h : a ρ = some (.ok d)) (h2 : r ρ = some (.ok ds)) : consX a r ρ = some (.ok (d :: ds)) := by unfold consX; rw [bind_ok h, bind_ok h2]; rfl
theorem blsOf_map : ∀ bs : List Bool, blsOf (bs.map D.bl) = some bs
  | [] => rfl
  | b :: bs => by show (blsOf (bs.map D.bl)).map (b :: ·) = _; rw [blsOf_map bs]; rfl

section
variable {rules way : D} {n : Int} {every : List (List Int)} {right : List Int → Bool} {steps : List Int → List (List Int)}
structure WH (rules : D) (n : Int) (way : D) (every : List (List Int)) (right : List Int → Bool) (steps : List Int → List (List Int)) : Prop where
  st : x_standings_of [rules, .int n] = some (.ok (.lst (every.map tupOf)))
  rt : ∀ s ∈ every, x_right_at [rules, tupOf s] = some (.ok (.bl (right s)))
  sp : ∀ s ∈ every, right s = false → x_steps_of [rules, tupOf s, way] = some (.ok (.lst ((steps s).map tupOf)))
  len : every.length ≤ 900
  sl : ∀ s ∈ every, (steps s).length ≤ 1000
/-- from where all ways end in a right standing -/
inductive Ends (right : List Int → Bool) (steps : List Int → List (List Int)) : List Int → Prop
  | right {s : List Int} : right s = true → Ends right steps s
  | step {s : List Int} : steps s ≠ [] → (∀ t ∈ steps s, Ends right steps t) → Ends right steps s
def cond (steps : List Int → List (List Int)) (fnd : List (List Key × V)) (s : List Int) : Bool := !(steps s).isEmpty && (steps s).all (has fnd)
def item (steps : List Int → List (List Int)) (s : List Int) : D := .tup [tupOf s, .lst ((steps s).map tupOf)]
abbrev EnvW (rules : D) (n : Int) (way : D) (every : List (List Int)) (fnd : List (List Key × V)) (s5 : Sl) (left : List D) (grown : Bool) (later s9 : Sl) : En :=
  [.fz rules, .fz (.int n), .fz way, .fz (.lst (every.map tupOf)), .ow (.dT fnd), s5, .fz (.lst left), .fz (.bl grown), later, s9, .un]
structure Good (every : List (List Int)) (right : List Int → Bool) (steps : List Int → List (List Int)) (fnd : List (List Key × V)) : Prop where
  nd : (fnd.map (·.1)).Nodup
  mem : ∀ p ∈ fnd, ∃ s ∈ every, p.1 = keyI' s ∧ Ends right steps s ∧ ∃ i : Int, p.2 = .int i
theorem Good.len {fnd : List (List Key × V)} (g : Good every right steps fnd) (h : every.length ≤ 900) : fnd.length < sizeLine := by
  have := nodup_le keyI' (xs := every) g.nd fun y hy => by
    obtain ⟨p, hp, e⟩ := List.mem_map.mp hy
    obtain ⟨s, hs, e2, _⟩ := g.mem p hp
    exact ⟨s, hs, by rw [← e2, e]⟩
  rw [List.length_map] at this
  rw [sizeLine_eq]
  omega
theorem Good.val {fnd : List (List Key × V)} (g : Good every right steps fnd) {t : List Int} (h : has fnd t = true) : ∃ i : Int, valV fnd (keyI' t) = some (.int i) := by
  obtain ⟨v, e⟩ := Option.isSome_iff_exists.mp h
  obtain ⟨s, _, _, _, i, e2⟩ := g.mem _ (valV_mem e)
  exact ⟨i, by rw [e, show v = V.int i from e2]⟩
theorem Good.ends {fnd : List (List Key × V)} (g : Good every right steps fnd) {t : List Int} (h : has fnd t = true) : Ends right steps t := by
  obtain ⟨p, hp, e⟩ := List.mem_map.mp (has_iff.mp h)
  obtain ⟨s, _, e2, h3, _⟩ := g.mem p hp
  have : t = s := keyI_inj (by rw [← e, e2])
  rw [this]; exact h3
theorem has_put {fnd : List (List Key × V)} {s t : List Int} {v : V} : has (putK fnd (keyI' s) v) t = true ↔ has fnd t = true ∨ t = s := by
  rw [has_iff, has_iff, putK_keys]
  split
  · rename_i h
    exact ⟨.inl, fun z => z.elim id fun e => by rw [e]; exact h⟩
  · rw [List.mem_append, List.mem_singleton]
    exact ⟨fun z => z.imp id keyI_inj, fun z => z.imp id fun e => by rw [e]⟩
theorem Good.put {fnd : List (List Key × V)} (g : Good every right steps fnd) {s : List Int} (hs : s ∈ every) (hc : cond steps fnd s = true) (i : Int) : Good every right steps (putK fnd (keyI' s) (.int i)) where
  nd := putK_nodup g.nd
  mem := fun p hp => by
    rcases putK_mem hp with hp | rfl
    · exact g.mem p hp
    · unfold cond at hc
      have hc := Bool.and_eq_true_iff.mp hc
      refine ⟨s, hs, rfl, .step (fun e => ?_) fun t ht => g.ends (List.all_eq_true.mp hc.2 t ht), i, rfl⟩
      rw [e] at hc
      exact absurd hc.1 (by simp)
/-- the pass's body -/
def bodyW : XS := ifSX (andBX (tstX (op2X neD (varX 9) (pnX (lstX nilX)))) (tstX (op1X allD (pnX (lcX [10] (seqX (varX 9)) (tgN 10) yesX (opPX (fun a b => (inCo a b).map D.bl) (varX 10) (varPX 4))))))) (seqSX (putSX 4 (varX 5) (op2X addD (conX (.int 1)) (op1X maxD (pnX (lcX [10] (seqX (varX 9)) (tgN 10) yesX (getX (varPX 4) (varX 10))))))) (setSX 7 (fzX (conX (.bl true))))) (appSX 8 (tupX (consX (varX 5) (consX (varX 9) nilX))))
theorem body_ok {fnd : List (List Key × V)} {left later : List D} {grown : Bool} {s : List Int} (g : Good every right steps fnd) (hl : every.length ≤ 900) (hs : (steps s).length ≤ 1000) (hla : later.length < sizeLine) :
    (cond steps fnd s = true → ∃ i : Int, bodyW (EnvW rules n way every fnd (.fz (tupOf s)) left grown (.ow (.lst later)) (.fz (.lst ((steps s).map tupOf)))) = some (.nx (EnvW rules n way every (putK fnd (keyI' s) (.int i)) (.fz (tupOf s)) left true (.ow (.lst later)) (.fz (.lst ((steps s).map tupOf)))))) ∧
    (cond steps fnd s = false → bodyW (EnvW rules n way every fnd (.fz (tupOf s)) left grown (.ow (.lst later)) (.fz (.lst ((steps s).map tupOf)))) = some (.nx (EnvW rules n way every fnd (.fz (tupOf s)) left grown (.ow (.lst (later ++ [item steps s]))) (.fz (.lst ((steps s).map tupOf)))))) := by
  have hsz : (steps s).length ≤ sizeLine := by rw [sizeLine_eq]; omega
  have t1 : tstX (op2X neD (varX 9) (pnX (lstX nilX))) (EnvW rules n way every fnd (.fz (tupOf s)) left grown (.ow (.lst later)) (.fz (.lst ((steps s).map tupOf)))) = some (.ok (!(steps s).isEmpty)) :=
    tst_ok (op2_ok rfl rfl (ne_nil _))
  have t2 : tstX (op1X allD (pnX (lcX [10] (seqX (varX 9)) (tgN 10) yesX (opPX (fun a b => (inCo a b).map D.bl) (varX 10) (varPX 4))))) (EnvW rules n way every fnd (.fz (tupOf s)) left grown (.ow (.lst later)) (.fz (.lst ((steps s).map tupOf)))) = some (.ok ((steps s).all (has fnd))) := by
    refine tst_ok (op1_ok (x := .lst ((steps s).map fun t => .bl (has fnd t))) (pn_ok (lc_ok (ds := (steps s).map tupOf) rfl ?_)) ?_)
    · have := lc_map (i := 10) (fe := opPX (fun a b => (inCo a b).map D.bl) (varX 10) (varPX 4)) (ρ0 := EnvW rules n way every fnd (.fz (tupOf s)) left grown (.ow (.lst later)) (.fz (.lst ((steps s).map tupOf)))) (fun d => match inCo d (.dT fnd) with | some b => .bl b | none => .non) ((steps s).map tupOf) [] (fun d hd => ?_) (by rw [List.length_nil, List.length_map, Nat.zero_add]; exact hsz)
      · rw [List.nil_append, List.map_map] at this
        refine Eq.trans this ?_
        refine congrArg (fun z => some (Co.lst z)) (List.map_congr_left fun t _ => ?_)
        show (match inCo (tupOf t) (.dT fnd) with | some b => D.bl b | none => .non) = _
        rw [inCo_dT]
      · obtain ⟨t, _, rfl⟩ := List.mem_map.mp hd
        show okX ((inCo (tupOf t) (.dT fnd)).map D.bl) [] = _
        rw [inCo_dT]; rfl
    · show (blsOf ((steps s).map fun t => .bl (has fnd t))).map (fun bs => D.bl (bs.all id)) = _
      have : ((steps s).map fun t => D.bl (has fnd t)) = ((steps s).map (has fnd)).map D.bl := by rw [List.map_map]; rfl
      rw [this, blsOf_map]
      simp [List.all_map]
  have tt := andB_ok t1 (fun _ => t2)
  constructor
  · intro hc
    have hc' := hc
    unfold cond at hc'
    have hc2 := Bool.and_eq_true_iff.mp hc'
    have hv : ∀ t ∈ steps s, ∃ i : Int, valV fnd (keyI' t) = some (.int i) := fun t ht => g.val (List.all_eq_true.mp hc2.2 t ht)
    obtain ⟨is, his, hlen⟩ : ∃ is : List Int, ((steps s).map fun t => match getO (.dT fnd) (tupOf t) with | some x => x | none => D.non) = is.map D.int ∧ is.length = (steps s).length := by
      clear t1 t2 tt hc hc' hc2 hs hsz
      generalize steps s = ss at hv
      induction ss with
      | nil => exact ⟨[], rfl, rfl⟩
      | cons t ss ih =>
        obtain ⟨is, e, l⟩ := ih fun x hx => hv x (List.mem_cons_of_mem _ hx)
        obtain ⟨i, hi⟩ := hv t List.mem_cons_self
        refine ⟨i :: is, ?_, by rw [List.length_cons, List.length_cons, l]⟩
        rw [List.map_cons, List.map_cons, e, getO_dT hi]
    obtain ⟨mx, hmx⟩ : ∃ mx, maxL is = some mx := by
      cases is with
      | nil =>
        rw [List.length_nil] at hlen
        have : steps s = [] := List.length_eq_zero_iff.mp hlen.symm
        rw [this] at hc2
        exact absurd hc2.1 (by simp)
      | cons i is => exact ⟨_, rfl⟩
    refine ⟨1 + mx, ?_⟩
    have hmax : op1X maxD (pnX (lcX [10] (seqX (varX 9)) (tgN 10) yesX (getX (varPX 4) (varX 10)))) (EnvW rules n way every fnd (.fz (tupOf s)) left grown (.ow (.lst later)) (.fz (.lst ((steps s).map tupOf)))) = some (.ok (.int mx)) := by
      refine op1_ok (x := .lst (is.map D.int)) (pn_ok (lc_ok (ds := (steps s).map tupOf) rfl ?_)) ?_
      · have := lc_map (i := 10) (fe := getX (varPX 4) (varX 10)) (ρ0 := EnvW rules n way every fnd (.fz (tupOf s)) left grown (.ow (.lst later)) (.fz (.lst ((steps s).map tupOf)))) (fun d => match getO (.dT fnd) d with | some x => x | none => .non) ((steps s).map tupOf) [] (fun d hd => ?_) (by rw [List.length_nil, List.length_map, Nat.zero_add]; exact hsz)
        · rw [List.nil_append, List.map_map] at this
          refine Eq.trans this ?_
          exact congrArg (fun z => some (Co.lst z)) his
        · obtain ⟨t, ht, rfl⟩ := List.mem_map.mp hd
          obtain ⟨i, hi⟩ := hv t ht
          show okX (getO (.dT fnd) (tupOf t)) [] = _
          rw [getO_dT hi]; rfl
      · show (intsOf (is.map D.int)).bind (fun bs => (maxL bs).map D.int) = _
        rw [intsOf_map]
        show (maxL is).map D.int = _
        rw [hmx]; rfl
    unfold bodyW
    rw [if_ok tt]
    have hcb : ((!(steps s).isEmpty) && (steps s).all (has fnd)) = true := hc
    rw [if_pos hcb]
    have hput : putSX 4 (varX 5) (op2X addD (conX (.int 1)) (op1X maxD (pnX (lcX [10] (seqX (varX 9)) (tgN 10) yesX (getX (varPX 4) (varX 10)))))) (EnvW rules n way every fnd (.fz (tupOf s)) left grown (.ow (.lst later)) (.fz (.lst ((steps s).map tupOf)))) = some (.nx (EnvW rules n way every (putK fnd (keyI' s) (.int (1 + mx))) (.fz (tupOf s)) left grown (.ow (.lst later)) (.fz (.lst ((steps s).map tupOf))))) := by
      have e2 := op2_ok (g := addD) (a := conX (.int 1)) (x := .int 1) (y := .int mx) (z := .int (1 + mx)) (ρ := EnvW rules n way every fnd (.fz (tupOf s)) left grown (.ow (.lst later)) (.fz (.lst ((steps s).map tupOf)))) rfl hmax rfl
      unfold putSX
      show thenX (op2X addD (conX (.int 1)) (op1X maxD (pnX (lcX [10] (seqX (varX 9)) (tgN 10) yesX (getX (varPX 4) (varX 10)))))) _ _ = _
      unfold thenX
      rw [e2]
      show ((putCo (.dT fnd) (tupOf s) (.int (1 + mx))).map fun co' => DL.Fin.nx ((EnvW rules n way every fnd (.fz (tupOf s)) left grown (.ow (.lst later)) (.fz (.lst ((steps s).map tupOf)))).set 4 (.ow co'))) = _
      rw [putCo_dT (g.len hl)]; rfl
    rw [seq_nx hput]
    rfl
  · intro hc
    unfold bodyW
    rw [if_ok tt]
    have hcb : ((!(steps s).isEmpty) && (steps s).all (has fnd)) = false := hc
    rw [hcb, if_neg (by simp)]
    unfold appSX
    show thenX (tupX (consX (varX 5) (consX (varX 9) nilX))) _ _ = _
    unfold thenX
    show (if later.length < sizeLine then _ else _) = _
    rw [if_pos hla]
    rfl

abbrev tgW : D → En → Option En := tgTup 2 (tgsCons (tgN 5) (tgsCons (tgN 9) tgsNil))
theorem tgW_item {fnd : List (List Key × V)} {s5 s9 later : Sl} {left : List D} {grown : Bool} (s : List Int) : tgW (item steps s) (EnvW rules n way every fnd s5 left grown later s9) = some (EnvW rules n way every fnd (.fz (tupOf s)) left grown later (.fz (.lst ((steps s).map tupOf)))) := rfl
/-- one pass over what is left -/
theorem pass_ok (hl : every.length ≤ 900) (hst : ∀ s ∈ every, (steps s).length ≤ 1000) (left : List D) : ∀ (ls : List (List Int)) (fnd : List (List Key × V)) (sub : List (List Int)) (grown : Bool) (s5 s9 : Sl), (∀ s ∈ ls, s ∈ every) → Good every right steps fnd → sub.length + ls.length ≤ 900 →
    ∃ fnd' sub' grown' s5' s9', forWX tgW bodyW (ls.map (item steps)) (EnvW rules n way every fnd s5 left grown (.ow (.lst (sub.map (item steps)))) s9) = some (.nx (EnvW rules n way every fnd' s5' left grown' (.ow (.lst ((sub ++ sub').map (item steps)))) s9')) ∧
      Good every right steps fnd' ∧ (∀ s, has fnd s = true → has fnd' s = true) ∧ (∀ s ∈ sub', s ∈ ls) ∧ (∀ s ∈ ls, has fnd' s = true ∨ s ∈ sub') ∧ sub'.length ≤ ls.length ∧
      (grown' = true → grown = true ∨ sub'.length < ls.length) ∧ (grown' = false → grown = false ∧ fnd' = fnd ∧ ∀ s ∈ ls, cond steps fnd s = false)
  | [], fnd, sub, grown, s5, s9, _, g, _ => ⟨fnd, [], grown, s5, s9, by rw [List.append_nil]; rfl, g, (fun _ h => h), (fun _ h => nomatch h), (fun _ h => nomatch h), Nat.le_refl _, .inl, fun h => ⟨h, rfl, (fun _ h => nomatch h)⟩⟩
  | s :: ls, fnd, sub, grown, s5, s9, hm, g, hsz => by
    rw [List.length_cons] at hsz
    have hs := hm s List.mem_cons_self
    have hla : (sub.map (item steps)).length < sizeLine := by rw [List.length_map, sizeLine_eq]; omega
    obtain ⟨b1, b2⟩ := body_ok (rules := rules) (n := n) (way := way) (left := left) (later := sub.map (item steps)) (grown := grown) g hl (hst s hs) hla
    rw [List.map_cons, forWX, tgW_item]
    cases hc : cond steps fnd s with
    | true =>
      obtain ⟨i, e⟩ := b1 hc
      simp only [e]
      obtain ⟨fnd', sub', grown', s5', s9', h1, h2, h3, h4, h5, h6, h7, h8⟩ := pass_ok hl hst left ls (putK fnd (keyI' s) (.int i)) sub true (.fz (tupOf s)) (.fz (.lst ((steps s).map tupOf))) (fun x hx => hm x (List.mem_cons_of_mem _ hx)) (g.put hs hc i) (by omega)
      refine ⟨fnd', sub', grown', s5', s9', h1, h2, fun x hx => h3 x (has_put.mpr (.inl hx)), fun x hx => List.mem_cons_of_mem _ (h4 x hx), fun x hx => ?_, by rw [List.length_cons]; omega, fun _ => .inr (by rw [List.length_cons]; omega), fun z => ?_⟩
      · rcases List.mem_cons.mp hx with rfl | hx
        · exact .inl (h3 _ (has_put.mpr (.inr rfl)))
        · exact h5 x hx
      · exact absurd (h8 z).1 (by simp)
    | false =>
      have e := b2 hc
      simp only [e]
      have em : sub.map (item steps) ++ [item steps s] = (sub ++ [s]).map (item steps) := by rw [List.map_append]; rfl
      rw [em]
      obtain ⟨fnd', sub', grown', s5', s9', h1, h2, h3, h4, h5, h6, h7, h8⟩ := pass_ok hl hst left ls fnd (sub ++ [s]) grown (.fz (tupOf s)) (.fz (.lst ((steps s).map tupOf))) (fun x hx => hm x (List.mem_cons_of_mem _ hx)) g (by rw [List.length_append, List.length_singleton]; omega)
      refine ⟨fnd', s :: sub', grown', s5', s9', by rw [h1, List.append_assoc]; rfl, h2, h3, fun x hx => ?_, fun x hx => ?_, by rw [List.length_cons, List.length_cons]; omega, fun z => ?_, fun z => ?_⟩
      · rcases List.mem_cons.mp hx with rfl | hx
        · exact List.mem_cons_self
        · exact List.mem_cons_of_mem _ (h4 x hx)
      · rcases List.mem_cons.mp hx with rfl | hx
        · exact .inr List.mem_cons_self
        · exact (h5 x hx).imp id (List.mem_cons_of_mem _)
      · exact (h7 z).imp id fun q => by rw [List.length_cons, List.length_cons]; omega
      · obtain ⟨a, b, c⟩ := h8 z
        refine ⟨a, b, fun x hx => ?_⟩
        rcases List.mem_cons.mp hx with rfl | hx
        · exact hc
        · exact c x hx
/-- the loop -/
def loopB : XS := seqSX (parSX 7 8 (fzX (conX (.bl false))) (owX (lstX nilX))) (seqSX (forSX (seqX (varX 6)) tgW bodyW) (freezeSX 8 (setSX 6 (fzX (varX 8)))))
theorem loop_ok (hl : every.length ≤ 900) (hst : ∀ s ∈ every, (steps s).length ≤ 1000) : ∀ (k : Nat) (ls : List (List Int)) (fnd : List (List Key × V)) (s5 later s9 : Sl), ls.length + 2 ≤ k → (∀ s ∈ ls, s ∈ every) → ls.length ≤ 900 → Good every right steps fnd → (∀ s ∈ every, has fnd s = true ∨ s ∈ ls) →
    ∃ fnd' left' s5' later' s9', whileX (tstX (varX 7)) loopB k (EnvW rules n way every fnd s5 (ls.map (item steps)) true later s9) = some (.nx (EnvW rules n way every fnd' s5' left' false later' s9')) ∧ Good every right steps fnd' ∧ (∀ s, has fnd s = true → has fnd' s = true) ∧ ∀ s ∈ every, has fnd' s = true ∨ cond steps fnd' s = false
  | 0, ls, _, _, _, _, hk, _, _, _, _ => absurd hk (by omega)
  | 1, ls, _, _, _, _, hk, _, _, _, _ => absurd hk (by omega)
  | k + 2, ls, fnd, s5, later, s9, hk, hm, hsz, g, hall => by
    have ht : tstX (varX 7) (EnvW rules n way every fnd s5 (ls.map (item steps)) true later s9) = some (.ok true) := rfl
    obtain ⟨fnd', sub', grown', s5', s9', h1, h2, h3, h4, h5, h6, h7, h8⟩ := pass_ok (rules := rules) (n := n) (way := way) (right := right) hl hst (ls.map (item steps)) ls fnd [] false s5 s9 hm g (by rw [List.length_nil]; omega)
    rw [List.nil_append] at h1
    have hb : loopB (EnvW rules n way every fnd s5 (ls.map (item steps)) true later s9) = some (.nx (EnvW rules n way every fnd' s5' (sub'.map (item steps)) grown' (.fz (.lst (sub'.map (item steps)))) s9')) := by
      unfold loopB
      have e1 : parSX 7 8 (fzX (conX (.bl false))) (owX (lstX nilX)) (EnvW rules n way every fnd s5 (ls.map (item steps)) true later s9) = some (.nx (EnvW rules n way every fnd s5 (ls.map (item steps)) false (.ow (.lst [])) s9)) := rfl
      rw [seq_nx e1]
      have e2 : forSX (seqX (varX 6)) tgW bodyW (EnvW rules n way every fnd s5 (ls.map (item steps)) false (.ow (.lst [])) s9) = some (.nx (EnvW rules n way every fnd' s5' (ls.map (item steps)) grown' (.ow (.lst (sub'.map (item steps)))) s9')) := h1
      rw [seq_nx e2]
      rfl
    have step : whileX (tstX (varX 7)) loopB (k + 2) (EnvW rules n way every fnd s5 (ls.map (item steps)) true later s9) = whileX (tstX (varX 7)) loopB (k + 1) (EnvW rules n way every fnd' s5' (sub'.map (item steps)) grown' (.fz (.lst (sub'.map (item steps)))) s9') := by
      rw [whileX]
      unfold thenX
      rw [ht]
      simp only [if_true, hb]
    rw [step]
    cases grown' with
    | false =>
      obtain ⟨_, e, hc⟩ := h8 rfl
      subst e
      refine ⟨fnd', sub'.map (item steps), s5', .fz (.lst (sub'.map (item steps))), s9', rfl, h2, h3, fun s hs => ?_⟩
      rcases hall s hs with q | q
      · exact .inl q
      · exact .inr (hc s q)
    | true =>
      have hlt : sub'.length < ls.length := (h7 rfl).resolve_left (by simp)
      obtain ⟨f2, l2, a2, b2, c2, g1, g2, g3, g4⟩ := loop_ok hl hst (k + 1) sub' fnd' s5' (.fz (.lst (sub'.map (item steps)))) s9' (by omega) (fun s hs => hm s (h4 s hs)) (by omega) h2 fun s hs => by
        rcases hall s hs with q | q
        · exact .inl (h3 s q)
        · exact h5 s q
      exact ⟨f2, l2, a2, b2, c2, g1, g2, fun s hs => g3 s (h3 s hs), g4⟩

/-! part PLw -/
def zeroP (s : List Int) : D := .tup [tupOf s, .int 0]
theorem pairsT_zero : ∀ ls : List (List Int), pairsT (ls.map zeroP) = some (ls.map fun s => (keyI' s, V.int 0))
  | [] => rfl
  | s :: ls => by
    have e : pairT (zeroP s) = some (keyI' s, V.int 0) := by
      show (match keysOf (s.map D.int), toV (.int 0) with
        | some k, some w => some (k, w)
        | _, _ => none) = _
      rw [keysOf_ints]; rfl
    show (pairT (zeroP s)).bind (fun d => (pairsT (ls.map zeroP)).map (d :: ·)) = _
    rw [e, pairsT_zero ls]; rfl
theorem merge_good : ∀ (ls : List (List Int)) (fnd : List (List Key × V)), (∀ s ∈ ls, s ∈ every ∧ right s = true) → Good every right steps fnd →
    Good every right steps (mergeT fnd (ls.map fun s => (keyI' s, V.int 0))) ∧ (∀ s, has (mergeT fnd (ls.map fun s => (keyI' s, V.int 0))) s = true ↔ has fnd s = true ∨ s ∈ ls)
  | [], fnd, _, g => ⟨g, fun s => ⟨.inl, fun z => z.elim id fun z => nomatch z⟩⟩
  | s :: ls, fnd, h, g => by
    obtain ⟨hs, hr⟩ := h s List.mem_cons_self
    have g2 : Good every right steps (putK fnd (keyI' s) (.int 0)) := ⟨putK_nodup g.nd, fun p hp => by
      rcases putK_mem hp with hp | rfl
      · exact g.mem p hp
      · exact ⟨s, hs, rfl, .right hr, 0, rfl⟩⟩
    obtain ⟨a, b⟩ := merge_good ls (putK fnd (keyI' s) (.int 0)) (fun x hx => h x (List.mem_cons_of_mem _ hx)) g2
    refine ⟨a, fun x => (b x).trans ?_⟩
    rw [has_put, List.mem_cons]
    exact ⟨fun z => z.elim (fun z => z.imp id .inl) fun z => .inr (.inr z), fun z => z.elim (fun z => .inl (.inl z)) fun z => z.elim (fun z => .inl (.inr z)) .inr⟩
theorem worths_ok (h : WH rules n way every right steps) : ∃ fnd, x_worths_of [rules, .int n, way] = some (.ok (.dT fnd)) ∧ Good every right steps fnd ∧ ∀ s ∈ every, has fnd s = true ∨ (right s = false ∧ cond steps fnd s = false) := by
  have hl := h.len
  have hsz : every.length ≤ sizeLine := by rw [sizeLine_eq]; omega
  -- the right ones
  obtain ⟨rs, hrs⟩ : ∃ rs, rs = every.filter right := ⟨_, rfl⟩
  obtain ⟨ls, hls⟩ : ∃ ls, ls = every.filter fun s => !right s := ⟨_, rfl⟩
  obtain ⟨fnd0, hfnd⟩ : ∃ fnd0, fnd0 = mergeT [] (rs.map fun s => (keyI' s, V.int 0)) := ⟨_, rfl⟩
  have g0 : Good every right steps [] := ⟨List.Pairwise.nil, fun _ h => nomatch h⟩
  obtain ⟨gf, hf⟩ := merge_good (right := right) (steps := steps) rs [] (fun s hs => by
    rw [hrs] at hs
    have := List.mem_filter.mp hs
    exact this) g0
  rw [← hfnd] at gf hf
  have hfe : ∀ s ∈ every, has fnd0 s = right s := fun s hs => by
    cases hr : right s with
    | true => exact (hf s).mpr (.inr (by rw [hrs]; exact List.mem_filter.mpr ⟨hs, hr⟩))
    | false =>
      cases hh : has fnd0 s with
      | false => rfl
      | true =>
        rcases (hf s).mp hh with z | z
        · exact absurd z (by simp [has, valV])
        · rw [hrs] at z
          rw [(List.mem_filter.mp z).2] at hr; cases hr
  have hst : ∀ s ∈ ls, s ∈ every := fun s hs => by
    rw [hls] at hs
    exact (List.mem_filter.mp hs).1
  have hlr : ∀ s ∈ ls, right s = false := fun s hs => by
    rw [hls] at hs
    have := (List.mem_filter.mp hs).2
    simpa using this
  have hll : ls.length ≤ 900 := by rw [hls]; exact Nat.le_trans (List.length_filter_le _ _) hl
  obtain ⟨fnd', left', s5', later', s9', w1, w2, w3, w4⟩ := loop_ok (rules := rules) (n := n) (way := way) (right := right) (steps := steps) hl h.sl 1000 ls fnd0 .un .un .un (by omega) hst hll gf fun s hs => by
    rw [hfe s hs]
    cases hr : right s with
    | true => exact .inl rfl
    | false => exact .inr (by rw [hls]; exact List.mem_filter.mpr ⟨hs, by rw [hr]; rfl⟩)
  refine ⟨fnd', ?_, w2, fun s hs => ?_⟩
  · have e0 : startEn 11 [rules, .int n, way] = [.fz rules, .fz (.int n), .fz way, .un, .un, .un, .un, .un, .un, .un, .un] := rfl
    have e1 : setSX 3 (fzX (callX x_standings_of (consX (varX 0) (consX (varX 1) nilX)))) [.fz rules, .fz (.int n), .fz way, .un, .un, .un, .un, .un, .un, .un, .un] = some (.nx [.fz rules, .fz (.int n), .fz way, .fz (.lst (every.map tupOf)), .un, .un, .un, .un, .un, .un, .un]) :=
      set_ok (fz_ok (show callX x_standings_of (consX (varX 0) (consX (varX 1) nilX)) _ = _ from h.st))
    have c2 : lcX [5] (seqX (varX 3)) (tgN 5) (tstX (callX x_right_at (consX (varX 0) (consX (varX 5) nilX)))) (tupX (consX (varX 5) (consX (conX (.int 0)) nilX))) [.fz rules, .fz (.int n), .fz way, .fz (.lst (every.map tupOf)), .un, .un, .un, .un, .un, .un, .un] = some (.ok (.lst (rs.map zeroP))) := by
      refine lc_ok (ds := every.map tupOf) rfl ?_
      have := lc_filter (i := 5) (ft := tstX (callX x_right_at (consX (varX 0) (consX (varX 5) nilX)))) (fe := tupX (consX (varX 5) (consX (conX (.int 0)) nilX))) (ρ0 := [.fz rules, .fz (.int n), .fz way, .fz (.lst (every.map tupOf)), .un, .un, .un, .un, .un, .un, .un])
        (fun d => match x_right_at [rules, d] with | some (.ok (.bl b)) => b | _ => false) (fun d => .tup [d, .int 0]) (every.map tupOf) [] (fun d hd => ?_) (fun d _ _ => rfl) (by rw [List.length_nil, List.length_map, Nat.zero_add]; exact hsz)
      · rw [List.nil_append, List.filter_map, List.map_map] at this
        refine Eq.trans this ?_
        have ef : every.filter ((fun d => match x_right_at [rules, d] with | some (.ok (.bl b)) => b | _ => false) ∘ tupOf) = rs := by
          rw [hrs]
          refine List.filter_congr fun s hs => ?_
          show (match x_right_at [rules, tupOf s] with | some (.ok (.bl b)) => b | _ => false) = right s
          rw [h.rt s hs]
        rw [ef]
        rfl
      · obtain ⟨s, hs, rfl⟩ := List.mem_map.mp hd
        refine tst_ok ?_
        show x_right_at [rules, tupOf s] = _
        rw [h.rt s hs]
    have e2 : setSX 4 (owX (dictTX (pnX (lcX [5] (seqX (varX 3)) (tgN 5) (tstX (callX x_right_at (consX (varX 0) (consX (varX 5) nilX)))) (tupX (consX (varX 5) (consX (conX (.int 0)) nilX))))))) [.fz rules, .fz (.int n), .fz way, .fz (.lst (every.map tupOf)), .un, .un, .un, .un, .un, .un, .un] = some (.nx [.fz rules, .fz (.int n), .fz way, .fz (.lst (every.map tupOf)), .ow (.dT fnd0), .un, .un, .un, .un, .un, .un]) := by
      refine set_ok (ow_ok ?_)
      unfold dictTX
      rw [bind_ok (pn_ok c2)]
      show okX ((pairsT (rs.map zeroP)).map fun kvs => Co.dT (mergeT [] kvs)) [] = _
      rw [pairsT_zero, hfnd]
      rfl
    have c3 : lcX [5] (seqX (varX 3)) (tgN 5) (tstX (opPX (fun a b => (inCo a b).map fun q => D.bl (!q)) (varX 5) (varPX 4))) (tupX (consX (varX 5) (consX (callX x_steps_of (consX (varX 0) (consX (varX 5) (consX (varX 2) nilX)))) nilX))) [.fz rules, .fz (.int n), .fz way, .fz (.lst (every.map tupOf)), .ow (.dT fnd0), .un, .un, .un, .un, .un, .un] = some (.ok (.lst (ls.map (item steps)))) := by
      refine lc_ok (ds := every.map tupOf) rfl ?_
      have := lc_filter (i := 5) (ft := tstX (opPX (fun a b => (inCo a b).map fun q => D.bl (!q)) (varX 5) (varPX 4))) (fe := tupX (consX (varX 5) (consX (callX x_steps_of (consX (varX 0) (consX (varX 5) (consX (varX 2) nilX)))) nilX))) (ρ0 := [.fz rules, .fz (.int n), .fz way, .fz (.lst (every.map tupOf)), .ow (.dT fnd0), .un, .un, .un, .un, .un, .un])
        (fun d => match inCo d (.dT fnd0) with | some b => !b | none => false) (fun d => .tup [d, match x_steps_of [rules, d, way] with | some (.ok x) => x | _ => .non]) (every.map tupOf) [] (fun d hd => ?_) (fun d hd ht => ?_) (by rw [List.length_nil, List.length_map, Nat.zero_add]; exact hsz)
      · rw [List.nil_append, List.filter_map, List.map_map] at this
        refine Eq.trans this ?_
        have ef : every.filter ((fun d => match inCo d (.dT fnd0) with | some b => !b | none => false) ∘ tupOf) = ls := by
          rw [hls]
          refine List.filter_congr fun s hs => ?_
          show (match inCo (tupOf s) (.dT fnd0) with | some b => !b | none => false) = !right s
          rw [inCo_dT, hfe s hs]
        rw [ef]
        refine congrArg (fun z => some (Co.lst z)) (List.map_congr_left fun s hs => ?_)
        show D.tup [tupOf s, match x_steps_of [rules, tupOf s, way] with | some (.ok x) => x | _ => .non] = item steps s
        rw [h.sp s (hst s hs) (hlr s hs)]
        rfl
      · obtain ⟨s, hs, rfl⟩ := List.mem_map.mp hd
        refine tst_ok ?_
        show okX ((inCo (tupOf s) (.dT fnd0)).map fun q => D.bl (!q)) [] = _
        rw [inCo_dT]
        rfl
      · obtain ⟨s, hs, rfl⟩ := List.mem_map.mp hd
        have hr : right s = false := by
          have ht : (match inCo (tupOf s) (.dT fnd0) with | some b => !b | none => false) = true := ht
          rw [inCo_dT, hfe s hs] at ht
          simpa using ht
        have e : callX x_steps_of (consX (varX 0) (consX (varX 5) (consX (varX 2) nilX))) ([Sl.fz rules, .fz (.int n), .fz way, .fz (.lst (every.map tupOf)), .ow (.dT fnd0), .un, .un, .un, .un, .un, .un].set 5 (.fz (tupOf s))) = some (.ok (.lst ((steps s).map tupOf))) := (call_ok (ds := [rules, tupOf s, way]) (cons_ok rfl (cons_ok rfl (cons_ok rfl rfl)))).trans (h.sp s hs hr)
        unfold tupX
        have e2 : consX (varX 5) (consX (callX x_steps_of (consX (varX 0) (consX (varX 5) (consX (varX 2) nilX)))) nilX) ([Sl.fz rules, .fz (.int n), .fz way, .fz (.lst (every.map tupOf)), .ow (.dT fnd0), .un, .un, .un, .un, .un, .un].set 5 (.fz (tupOf s))) = some (.ok [tupOf s, .lst ((steps s).map tupOf)]) := by
          unfold consX
          rw [bind_ok (x := tupOf s) rfl, bind_ok (bind_ok e)]
          rfl
        rw [bind_ok e2, h.sp s hs hr]
        rfl
    have e3 : setSX 6 (fzX (pnX (lcX [5] (seqX (varX 3)) (tgN 5) (tstX (opPX (fun a b => (inCo a b).map fun q => D.bl (!q)) (varX 5) (varPX 4))) (tupX (consX (varX 5) (consX (callX x_steps_of (consX (varX 0) (consX (varX 5) (consX (varX 2) nilX)))) nilX)))))) [.fz rules, .fz (.int n), .fz way, .fz (.lst (every.map tupOf)), .ow (.dT fnd0), .un, .un, .un, .un, .un, .un] = some (.nx [.fz rules, .fz (.int n), .fz way, .fz (.lst (every.map tupOf)), .ow (.dT fnd0), .un, .fz (.lst (ls.map (item steps))), .un, .un, .un, .un]) := set_ok (fz_ok (pn_ok c3))
    have e4 : setSX 7 (fzX (conX (.bl true))) [.fz rules, .fz (.int n), .fz way, .fz (.lst (every.map tupOf)), .ow (.dT fnd0), .un, .fz (.lst (ls.map (item steps))), .un, .un, .un, .un] = some (.nx (EnvW rules n way every fnd0 .un (ls.map (item steps)) true .un .un)) := set_ok (sl := .fz (.bl true)) (fz_ok (d := .bl true) rfl)
    unfold x_worths_of fnX
    rw [if_pos (show [rules, D.int n, way].length = 3 from rfl)]
    unfold runX
    rw [e0]
    unfold xb_worths_of
    have e5 : seqSX (whileX (tstX (varX 7)) loopB 1000) (freezeSX 4 (retSX (varX 4))) (EnvW rules n way every fnd0 .un (ls.map (item steps)) true .un .un) = some (.rt (.dT fnd')) := by
      rw [seq_nx w1]; rfl
    unfold loopB bodyW at e5
    rw [seq_nx e1, seq_nx e2, seq_nx e3, seq_nx e4, e5]
  · rcases w4 s hs with q | q
    · exact .inl q
    · cases hr : right s with
      | true => exact .inl (w3 s (by rw [hfe s hs]; exact hr))
      | false => exact .inr ⟨rfl, q⟩
end
end HK

set_option Elab.async false
set_option linter.all false
set_option maxRecDepth 100000
set_option maxHeartbeats 4000000
/-! part PLb -/
namespace HK
open PySem PySem.Spec L2 DL DM
abbrev Part := List (List (Option Int))
abbrev Rules := Part × Part
def encE : Option Int → D
  | none => .non
  | some i => .int i
def encL (l : List (Option Int)) : D := .tup (l.map encE)
def encP (p : Part) : D := .tup (p.map encL)
def encR (R : Rules) : D := .tup [encP R.1, encP R.2]
structure VR (R : Rules) (K : Nat) : Prop where
  l1 : R.1.length = K
  l2 : R.2.length = K
  m1 : ∀ l ∈ R.1, l.length = K ∧ ∀ i, some i ∈ l → 0 ≤ i ∧ i < K
  m2 : ∀ l ∈ R.2, l.length = K ∧ ∀ i, some i ∈ l → 0 ≤ i ∧ i < K
  hi : K ≤ 60
structure VS (K : Nat) (st : List Int) : Prop where
  en : ∀ x ∈ st, 0 ≤ x ∧ x < K
  lo : 1 ≤ st.length
  hi : st.length ≤ 60
def part (R : Rules) (h : Nat) : Part := if h = 0 then R.1 else R.2
def leftAt (st : List Int) (h : Nat) : Int := st.getD (if h = 0 then st.length - 1 else h - 1) 0
def entryF (R : Rules) (st : List Int) (h : Nat) : Option Int := ((part R h).getD (leftAt st h).toNat []).getD (st.getD h 0).toNat none
theorem atI_nat {α : Type} {xs : List α} {i : Nat} (h : i < xs.length) : atI xs ((i : Nat) : Int) = some (xs[i]) := by
  unfold atI ixN
  rw [if_pos (by omega), if_pos (by omega)]
  show xs[((i : Nat) : Int).toNat]? = _
  rw [Int.toNat_natCast, List.getElem?_eq_getElem h]
theorem atI_last {α : Type} {xs : List α} (h : 0 < xs.length) : atI xs (-1) = some (xs[xs.length - 1]'(by omega)) := by
  unfold atI ixN
  rw [if_neg (by omega), if_pos (by omega)]
  have e : (-1 + (xs.length : Int)).toNat = xs.length - 1 := by omega
  show xs[(-1 + (xs.length : Int)).toNat]? = _
  rw [e, List.getElem?_eq_getElem (by omega)]
theorem atI_int {α : Type} {xs : List α} {i : Int} (h0 : 0 ≤ i) (h : i.toNat < xs.length) : atI xs i = some (xs[i.toNat]) := by
  obtain ⟨n, rfl⟩ : ∃ n : Nat, i = n := ⟨i.toNat, by omega⟩
  exact atI_nat h
theorem getD_lt {α : Type} {xs : List α} {i : Nat} {d : α} (h : i < xs.length) : xs.getD i d = xs[i] := by
  rw [List.getD_eq_getElem?_getD, List.getElem?_eq_getElem h]; rfl
theorem VS.left {K : Nat} {st : List Int} (v : VS K st) {h : Nat} (hh : h < st.length) : atI st ((h : Int) - 1) = some (leftAt st h) ∧ 0 ≤ leftAt st h ∧ leftAt st h < K := by
  unfold leftAt
  by_cases e : h = 0
  · subst e
    rw [if_pos rfl, getD_lt (by omega)]
    exact ⟨atI_last hh, v.en _ (List.getElem_mem _)⟩
  · rw [if_neg e, getD_lt (by omega)]
    have : (h : Int) - 1 = ((h - 1 : Nat) : Int) := by omega
    rw [this]
    exact ⟨atI_nat (by omega), v.en _ (List.getElem_mem _)⟩
theorem VS.own {K : Nat} {st : List Int} (v : VS K st) {h : Nat} (hh : h < st.length) : atI st (h : Int) = some (st.getD h 0) ∧ 0 ≤ st.getD h 0 ∧ st.getD h 0 < K := by
  rw [getD_lt hh]
  exact ⟨atI_nat hh, v.en _ (List.getElem_mem _)⟩
theorem VR.part {R : Rules} {K : Nat} (v : VR R K) (h : Nat) : (part R h).length = K ∧ ∀ l ∈ HK.part R h, l.length = K ∧ ∀ i, some i ∈ l → 0 ≤ i ∧ i < K := by
  unfold HK.part
  split
  · exact ⟨v.l1, v.m1⟩
  · exact ⟨v.l2, v.m2⟩
theorem atI_map {α β : Type} (f : α → β) (xs : List α) (i : Int) : atI (xs.map f) i = (atI xs i).map f := by
  unfold atI
  rw [List.length_map]
  cases ixN xs.length i with
  | none => rfl
  | some j => show (xs.map f)[j]? = (xs[j]?).map f; rw [List.getElem?_map]
theorem fn_ok {np n : Nat} {fb : XS} {ds : List D} {ρ : En} (hl : ds.length = np) (hs : startEn n ds = ρ) {d : D} (h : fb ρ = some (.rt d)) : fnX np n fb ds = some (.ok d) := by
  unfold fnX
  rw [if_pos hl]
  unfold runX
  rw [hs, h]
theorem ret_ok {a : XE D} {ρ : En} {d : D} (h : a ρ = some (.ok d)) : retSX a ρ = some (.rt d) := by unfold retSX thenX; rw [h]
theorem seq_rt {f g : XS} {ρ : En} {d : D} (h : f ρ = some (.rt d)) : seqSX f g ρ = some (.rt d) := by unfold seqSX; rw [h]
theorem ifE_ok {t : XE Bool} {a b : XE D} {ρ : En} {k : Bool} (h : t ρ = some (.ok k)) : ifX t a b ρ = if k = true then a ρ else b ρ := by
  unfold ifX condX
  rw [bind_ok h]
  cases k <;> rfl
theorem eq_int (i j : Int) : eqD (.int i) (.int j) = some (.bl (i == j)) := by
  unfold eqD
  rw [eqOk_fits (n := 0) rfl rfl (by decide)]
  rfl
theorem ne_int (i j : Int) : neD (.int i) (.int j) = some (.bl (!(i == j))) := by
  unfold neD
  rw [eqOk_fits (n := 0) rfl rfl (by decide)]
  rfl
theorem entry_ok {R : Rules} {K : Nat} {st : List Int} {h : Nat} (vR : VR R K) (vS : VS K st) (hh : h < st.length) : x_entry_of [encR R, tupOf st, .int h] = some (.ok (encE (entryF R st h))) := by
  obtain ⟨a1, a2, a3⟩ := vS.left hh
  obtain ⟨b1, b2, b3⟩ := vS.own hh
  obtain ⟨c1, c2⟩ := vR.part h
  have hp : ifX (tstX (op2X eqD (varX 2) (conX (.int 0)))) (op2X idxD (varX 0) (conX (.int 0))) (op2X idxD (varX 0) (conX (.int 1))) [.fz (encR R), .fz (tupOf st), .fz (.int h), .un] = some (.ok (encP (part R h))) := by
    rw [ifE_ok (tst_ok (op2_ok (x := .int h) (y := .int 0) rfl rfl (eq_int _ _)))]
    unfold part
    by_cases e : h = 0
    · subst e
      rw [show ((((0 : Nat) : Int)) == 0) = true from rfl, if_pos rfl, if_pos rfl]
      exact op2_ok (x := encR R) (y := .int 0) rfl rfl rfl
    · have : ((h : Int) == 0) = false := by
        rw [beq_eq_false_iff_ne]; omega
      rw [this, if_neg (by simp), if_neg e]
      exact op2_ok (x := encR R) (y := .int 1) rfl rfl rfl
  have e1 := set_ok (i := 3) (fz_ok hp)
  have hl : (leftAt st h).toNat < (part R h).length := by omega
  have line : (part R h).getD (leftAt st h).toNat [] = (part R h)[(leftAt st h).toNat] := getD_lt hl
  obtain ⟨d1, d2⟩ := c2 _ (List.getElem_mem hl)
  have ho : (st.getD h 0).toNat < ((part R h)[(leftAt st h).toNat]).length := by omega
  refine fn_ok rfl rfl (ρ := [.fz (encR R), .fz (tupOf st), .fz (.int h), .un]) ?_
  unfold xb_entry_of
  rw [seq_nx e1]
  refine ret_ok (op2_ok (x := encL ((part R h)[(leftAt st h).toNat])) (y := .int (st.getD h 0)) (op2_ok (x := encP (part R h)) (y := .int (leftAt st h)) rfl (op2_ok (x := tupOf st) (y := .int ((h : Int) - 1)) rfl (op2_ok (x := .int h) (y := .int 1) rfl rfl rfl) ?_) ?_) (op2_ok (x := tupOf st) (y := .int h) rfl rfl ?_) ?_)
  · show atI (st.map D.int) ((h : Int) - 1) = _
    rw [atI_map, a1]; rfl
  · show atI ((part R h).map encL) (leftAt st h) = _
    rw [atI_map, atI_int a2 hl]; rfl
  · show atI (st.map D.int) (h : Int) = _
    rw [atI_map, b1]; rfl
  · show atI (((part R h)[(leftAt st h).toNat]).map encE) (st.getD h 0) = _
    rw [atI_map, atI_int b2 ho]
    unfold entryF
    rw [line, getD_lt ho]; rfl
theorem entryF_lt {R : Rules} {K : Nat} {st : List Int} {h : Nat} (vR : VR R K) (vS : VS K st) (hh : h < st.length) {i : Int} (e : entryF R st h = some i) : 0 ≤ i ∧ i < K := by
  obtain ⟨a1, a2, a3⟩ := vS.left hh
  obtain ⟨b1, b2, b3⟩ := vS.own hh
  obtain ⟨c1, c2⟩ := vR.part h
  have hl : (leftAt st h).toNat < (part R h).length := by omega
  obtain ⟨d1, d2⟩ := c2 _ (List.getElem_mem hl)
  have ho : (st.getD h 0).toNat < ((part R h)[(leftAt st h).toNat]).length := by omega
  unfold entryF at e
  rw [getD_lt hl, getD_lt ho] at e
  exact d2 i (by rw [← e]; exact List.getElem_mem _)
def moversF (R : Rules) (st : List Int) : List Nat := (List.range st.length).filter fun h => (entryF R st h).isSome
def intD' (h : Nat) : D := .int (h : Nat)
theorem rg0 (n : Nat) : rgD 0 n = (List.range n).map intD' := by
  unfold rgD intD'
  refine List.map_congr_left fun i _ => ?_
  rw [Int.zero_add]
theorem rg1_nat {n : Nat} (h : n ≤ 1000000) : rg1O (.int (n : Nat)) = some ((List.range n).map intD') := by
  rw [rg1O, if_pos (smI_iff.mpr (by omega)), Int.toNat_natCast, rg0]
theorem isN_enc (o : Option Int) : (!isN (encE o)) = o.isSome := by cases o <;> rfl
theorem movers_ok {R : Rules} {K : Nat} {st : List Int} (vR : VR R K) (vS : VS K st) : x_movers_of [encR R, tupOf st] = some (.ok (.lst ((moversF R st).map intD'))) := by
  refine fn_ok rfl rfl (ρ := [.fz (encR R), .fz (tupOf st), .un]) ?_
  refine ret_ok (pn_ok (lc_ok (ds := (List.range st.length).map intD') ?_ ?_))
  · unfold rg1X
    rw [bind_ok (op1_ok (x := tupOf st) (y := .int st.length) rfl ?_)]
    · show okX (rg1O (.int (st.length : Nat))) [] = _
      rw [rg1_nat (by have := vS.hi; omega)]
      rfl
    · show some (D.int ((st.map D.int).length : Nat)) = _
      rw [List.length_map]
  · have := lc_filter (i := 2) (ft := tstX (op1X (fun d => some (.bl (!isN d))) (callX x_entry_of (consX (varX 0) (consX (varX 1) (consX (varX 2) nilX)))))) (fe := varX 2) (ρ0 := [.fz (encR R), .fz (tupOf st), .un])
      (fun d => match d with | .int i => (entryF R st i.toNat).isSome | _ => false) id ((List.range st.length).map intD') [] (fun d hd => ?_) (fun d _ _ => rfl) (by rw [List.length_nil, List.length_map, List.length_range, sizeLine_eq]; have := vS.hi; omega)
    · rw [List.nil_append, List.filter_map, List.map_id] at this
      exact this
    · obtain ⟨h, hh, rfl⟩ := List.mem_map.mp hd
      have hh := List.mem_range.mp hh
      refine tst_ok (op1_ok (x := encE (entryF R st h)) ((call_ok (ds := [encR R, tupOf st, .int h]) (cons_ok rfl (cons_ok rfl (cons_ok rfl rfl)))).trans (entry_ok vR vS hh)) ?_)
      rw [isN_enc]
      rfl
end HK

set_option Elab.async false
set_option linter.all false
set_option maxRecDepth 100000
set_option maxHeartbeats 4000000
/-! part PLc -/
namespace HK
open PySem PySem.Spec L2 DL DM
theorem app_ok {i : Nat} {a : XE D} {ρ : En} {ds : List D} {d : D} (h : ρ[i]? = some (.ow (.lst ds))) (ha : a ρ = some (.ok d)) (hl : ds.length < sizeLine) : appSX i a ρ = some (.nx (ρ.set i (.ow (.lst (ds ++ [d]))))) := by
  unfold appSX
  rw [h]
  show thenX a _ ρ = _
  unfold thenX
  rw [ha]
  show (if ds.length < sizeLine then _ else _) = _
  rw [if_pos hl]
theorem opP_ok {g : D → Co → Option D} {a : XE D} {b : XE Co} {ρ : En} {x : D} {y : Co} {z : D} (h : a ρ = some (.ok x)) (h1 : b ρ = some (.ok y)) (h2 : g x y = some z) : opPX g a b ρ = some (.ok z) := by unfold opPX; rw [bind_ok h, bind_ok h1]; unfold okX; rw [h2]
theorem fits_nats (n : Nat) : ∀ k : List Nat, D.fitsL n (k.map intD') = true
  | [] => rfl
  | i :: k => by
    show (D.fits n (.int i) && D.fitsL n (k.map intD')) = true
    rw [fits_nats n k]
    cases n <;> rfl
theorem pys_any (h : Nat) : ∀ hs : List Nat, ((D.pys (hs.map intD')).any fun z => PyData.eqv z (D.int h).py) = decide (h ∈ hs)
  | [] => rfl
  | x :: hs => by
    show (PyData.eqv (.int x) (.int h) || ((D.pys (hs.map intD')).any fun z => PyData.eqv z (D.int h).py)) = _
    rw [pys_any h hs]
    show (((x : Int) == (h : Int)) || decide (h ∈ hs)) = _
    by_cases e : h = x
    · subst e; simp
    · have : ((x : Int) == (h : Int)) = false := by rw [beq_eq_false_iff_ne]; omega
      rw [this]
      simp [e]
theorem inCo_nats (h : Nat) (hs : List Nat) : inCo (.int h) (.lst (hs.map intD')) = some (decide (h ∈ hs)) := by
  have f1 : (D.int h).fits 1 = true := rfl
  have f2 : (D.lst (hs.map intD')).fits 1 = true := by rw [D.fits]; exact fits_nats 0 hs
  obtain ⟨a1, a2⟩ := shaped_of f1 (by decide)
  obtain ⟨b1, b2⟩ := shaped_of f2 (by decide)
  rw [D.flat] at b1
  rw [D.py] at b2
  unfold inCo
  dsimp only
  rw [a1, b1, a2, b2, pys_any]
  rfl
def fM (R : Rules) (st : List Int) (hs : List Nat) (h : Nat) : Int := if h ∈ hs then (entryF R st h).getD 0 else st.getD h 0
def moved (R : Rules) (st : List Int) (hs : List Nat) : List Int := (List.range st.length).map (fM R st hs)
abbrev EnvM (R : Rules) (st : List Int) (hs : List Nat) (acc : List D) (s4 s5 : Sl) : En := [.fz (encR R), .fz (tupOf st), .fz (.lst (hs.map intD')), .ow (.lst acc), s4, s5]
def bodyM : XS := appSX 3 (ifX (tstX (opPX (fun a b => (inCo a b).map D.bl) (varX 4) (varPX 2))) (callX x_entry_of (consX (varX 0) (consX (varX 1) (consX (varX 4) nilX)))) (varX 5))
theorem moved_loop {R : Rules} {K : Nat} {st : List Int} {hs : List Nat} (vR : VR R K) (vS : VS K st) (hm : ∀ h ∈ hs, (entryF R st h).isSome = true) : ∀ (rest : List Int) (i : Nat) (acc : List D) (s4 s5 : Sl), rest = st.drop i → i ≤ st.length → acc.length = i →
    ∃ s4' s5', forWX (tgTup 2 (tgsCons (tgN 4) (tgsCons (tgN 5) tgsNil))) bodyM (numD i (rest.map D.int)) (EnvM R st hs acc s4 s5) = some (.nx (EnvM R st hs (acc ++ ((List.range' i rest.length).map fun h => D.int (fM R st hs h))) s4' s5'))
  | [], i, acc, s4, s5, _, _, _ => ⟨s4, s5, by rw [List.map_nil, numD, forWX, List.length_nil, List.range'_zero, List.map_nil, List.append_nil]⟩
  | x :: rest, i, acc, s4, s5, he, hi, ha => by
    have hlt : i < st.length := by
      rcases Nat.lt_or_ge i st.length with h | h
      · exact h
      · rw [List.drop_eq_nil_of_le h] at he; cases he
    rw [List.drop_eq_getElem_cons hlt] at he
    obtain ⟨e1, e2⟩ := List.cons.inj he
    have hx : x = st.getD i 0 := by rw [getD_lt hlt, e1]
    have hv : ifX (tstX (opPX (fun a b => (inCo a b).map D.bl) (varX 4) (varPX 2))) (callX x_entry_of (consX (varX 0) (consX (varX 1) (consX (varX 4) nilX)))) (varX 5) (EnvM R st hs acc (.fz (.int i)) (.fz (.int x))) = some (.ok (.int (fM R st hs i))) := by
      rw [ifE_ok (tst_ok (b := decide (i ∈ hs)) (opP_ok (x := .int i) (y := .lst (hs.map intD')) rfl rfl (by rw [inCo_nats]; rfl)))]
      unfold fM
      by_cases h : i ∈ hs
      · rw [decide_eq_true h, if_pos rfl, if_pos h]
        refine ((call_ok (ds := [encR R, tupOf st, .int i]) (cons_ok rfl (cons_ok rfl (cons_ok rfl rfl)))).trans (entry_ok vR vS hlt)).trans ?_
        have := hm i h
        cases q : entryF R st i with
        | none => rw [q] at this; cases this
        | some z => rfl
      · rw [decide_eq_false h, if_neg (by simp), if_neg h, hx]
        rfl
    have hb := app_ok (i := 3) (ρ := EnvM R st hs acc (.fz (.int i)) (.fz (.int x))) (ds := acc) rfl hv (by rw [ha, sizeLine_eq]; have := vS.hi; omega)
    obtain ⟨s4', s5', ih⟩ := moved_loop vR vS hm rest (i + 1) (acc ++ [.int (fM R st hs i)]) (.fz (.int i)) (.fz (.int x)) e2 hlt (by rw [List.length_append, List.length_singleton, ha])
    refine ⟨s4', s5', ?_⟩
    rw [List.map_cons, numD, forWX]
    have ht : tgTup 2 (tgsCons (tgN 4) (tgsCons (tgN 5) tgsNil)) (.tup [.int (i : Nat), .int x]) (EnvM R st hs acc s4 s5) = some (EnvM R st hs acc (.fz (.int i)) (.fz (.int x))) := rfl
    rw [ht]
    have hb : bodyM (EnvM R st hs acc (.fz (.int i)) (.fz (.int x))) = some (.nx (EnvM R st hs (acc ++ [.int (fM R st hs i)]) (.fz (.int i)) (.fz (.int x)))) := hb
    simp only [hb]
    rw [ih, List.length_cons, List.range'_succ, List.map_cons, List.append_assoc]
    rfl
theorem moved_ok {R : Rules} {K : Nat} {st : List Int} {hs : List Nat} (vR : VR R K) (vS : VS K st) (hm : ∀ h ∈ hs, (entryF R st h).isSome = true) : x_moved_by [encR R, tupOf st, .lst (hs.map intD')] = some (.ok (tupOf (moved R st hs))) := by
  obtain ⟨s4, s5, h⟩ := moved_loop vR vS hm st 0 [] .un .un rfl (Nat.zero_le _) rfl
  rw [List.nil_append, ← List.range_eq_range'] at h
  refine fn_ok rfl rfl (ρ := [.fz (encR R), .fz (tupOf st), .fz (.lst (hs.map intD')), .un, .un, .un]) ?_
  unfold xb_moved_by
  rw [seq_nx (set_ok (sl := .ow (.lst [])) (ow_ok rfl))]
  have e2 : forSX (enumX (varX 1)) (tgTup 2 (tgsCons (tgN 4) (tgsCons (tgN 5) tgsNil))) bodyM (EnvM R st hs [] .un .un) = some (.nx (EnvM R st hs ((List.range st.length).map fun h => D.int (fM R st hs h)) s4 s5)) := h
  have e3 : seqSX (forSX (enumX (varX 1)) (tgTup 2 (tgsCons (tgN 4) (tgsCons (tgN 5) tgsNil))) bodyM) (freezeSX 3 (retSX (op1X tupleD (varX 3)))) (EnvM R st hs [] .un .un) = some (.rt (tupOf (moved R st hs))) := by
    rw [seq_nx e2]
    show some (DL.Fin.rt (.tup ((List.range st.length).map fun h => D.int (fM R st hs h)))) = _
    unfold tupOf moved
    rw [List.map_map]
    rfl
  unfold bodyM at e3
  exact e3
theorem moved_vs {R : Rules} {K : Nat} {st : List Int} {hs : List Nat} (vR : VR R K) (vS : VS K st) (hm : ∀ h ∈ hs, (entryF R st h).isSome = true) : VS K (moved R st hs) := by
  refine ⟨fun x hx => ?_, ?_, ?_⟩
  · obtain ⟨h, hh, rfl⟩ := List.mem_map.mp hx
    have hh := List.mem_range.mp hh
    unfold fM
    split
    · rename_i hs'
      have := hm h hs'
      cases q : entryF R st h with
      | none => rw [q] at this; cases this
      | some z => exact entryF_lt vR vS hh q
    · exact (vS.own hh).2
  · unfold moved; rw [List.length_map, List.length_range]; exact vS.lo
  · unfold moved; rw [List.length_map, List.length_range]; exact vS.hi
theorem moved_len {R : Rules} {st : List Int} {hs : List Nat} : (moved R st hs).length = st.length := by unfold moved; rw [List.length_map, List.length_range]

/-! part PLc -/
def rightO (R : Rules) : Nat → List (List Int) → List Int → Option Bool
  | 0, _, _ => none
  | k + 1, known, st => if known.contains st then some true else match moversF R st with
    | [h] => rightO R k (st :: known) (moved R st [h])
    | _ => some false
abbrev EnvR (R : Rules) (st : List Int) (fnd : List (List Key × V)) (s3 : Sl) : En := [.fz (encR R), .fz (tupOf st), .ow (.dT fnd), s3]
def bodyR : XS := seqSX (setSX 3 (fzX (callX x_movers_of (consX (varX 0) (consX (varX 1) nilX))))) (seqSX (ifSX (tstX (op2X neD (op1X lenD (varX 3)) (conX (.int 1)))) (retSX (conX (.bl false))) nextX) (seqSX (putSX 2 (varX 1) (conX (.bl true))) (setSX 1 (fzX (callX x_moved_by (consX (varX 0) (consX (varX 1) (consX (varX 3) nilX))))))))
theorem putCo_bl {k : List Int} {fnd : List (List Key × V)} {b : Bool} (h : fnd.length < sizeLine) : putCo (.dT fnd) (tupOf k) (.bl b) = some (.dT (putK fnd (keyI' k) (.bl b))) := by
  show (match keysOf (k.map D.int), toV (.bl b) with
      | some k, some v => if fnd.length < sizeLine then some (Co.dT (putK fnd k v)) else none
      | _, _ => none) = _
  rw [keysOf_ints]
  show (if fnd.length < sizeLine then some (Co.dT (putK fnd (keyI' k) (.bl b))) else none) = _
  rw [if_pos h]
theorem mem_moversF {R : Rules} {st : List Int} {h : Nat} (e : h ∈ moversF R st) : h < st.length ∧ (entryF R st h).isSome = true := by
  obtain ⟨a, b⟩ := List.mem_filter.mp e
  exact ⟨List.mem_range.mp a, b⟩
theorem right_e1 {R : Rules} {K : Nat} {st : List Int} {fnd : List (List Key × V)} {s3 : Sl} (vR : VR R K) (vS : VS K st) : setSX 3 (fzX (callX x_movers_of (consX (varX 0) (consX (varX 1) nilX)))) (EnvR R st fnd s3) = some (.nx (EnvR R st fnd (.fz (.lst ((moversF R st).map intD'))))) :=
  set_ok (fz_ok ((call_ok (ds := [encR R, tupOf st]) (cons_ok rfl (cons_ok rfl rfl))).trans (movers_ok vR vS)))
theorem right_e2 {R : Rules} {st : List Int} {fnd : List (List Key × V)} : tstX (op2X neD (op1X lenD (varX 3)) (conX (.int 1))) (EnvR R st fnd (.fz (.lst ((moversF R st).map intD')))) = some (.ok (!(((moversF R st).length : Int) == 1))) := by
  refine tst_ok (op2_ok (x := .int (moversF R st).length) (y := .int 1) (op1_ok (x := .lst ((moversF R st).map intD')) rfl ?_) rfl (ne_int _ _))
  show some (D.int (((moversF R st).map intD').length : Nat)) = _
  rw [List.length_map]
/-- after the loop has ended -/
inductive EndR : Bool → Option DL.Fin → Prop
  | rt : EndR false (some (.rt (.bl false)))
  | nx (ρ : En) : EndR true (some (.nx ρ))
theorem right_loop {R : Rules} {K : Nat} (vR : VR R K) : ∀ (k : Nat) (known : List (List Int)) (fnd : List (List Key × V)) (st : List Int) (s3 : Sl) (b : Bool), rightO R k known st = some b → VS K st → (∀ s, has fnd s = true ↔ s ∈ known) → fnd.length ≤ known.length → known.length + k ≤ 1000 →
    EndR b (whileX (tstX (opPX (fun a b => (inCo a b).map fun q => D.bl (!q)) (varX 1) (varPX 2))) bodyR k (EnvR R st fnd s3))
  | 0, _, _, _, _, _, h, _, _, _, _ => nomatch h
  | k + 1, known, fnd, st, s3, b, h, vS, hk, hl, hkk => by
    have hcase : (moversF R st).length = 1 ∨ ¬ (moversF R st).length = 1 := Classical.em _
    have t : tstX (opPX (fun a b => (inCo a b).map fun q => D.bl (!q)) (varX 1) (varPX 2)) (EnvR R st fnd s3) = some (.ok (!has fnd st)) :=
      tst_ok (opP_ok (x := tupOf st) (y := .dT fnd) rfl rfl (by rw [inCo_dT]; rfl))
    have hc : has fnd st = known.contains st := by
      rw [Bool.eq_iff_iff, hk st, List.contains_iff_mem]
    rw [whileX]
    unfold thenX
    rw [t, hc]
    rw [rightO] at h
    cases hcc : known.contains st with
    | true =>
      rw [hcc, if_pos rfl] at h
      simp only [Bool.not_true, Bool.false_eq_true, if_false]
      cases h
      exact .nx _
    | false =>
      rw [hcc, if_neg (by simp)] at h
      simp only [Bool.not_false, if_true]
      rcases hcase with h1 | h1
      · have e1 := right_e1 (fnd := fnd) (s3 := s3) vR vS
        have e2 := right_e2 (R := R) (st := st) (fnd := fnd)
        obtain ⟨x, hx⟩ := List.length_eq_one_iff.mp h1
        rw [hx] at h
        simp only at h
        have hm : ∀ y ∈ [x], (entryF R st y).isSome = true := fun y hy => by
          have : y ∈ moversF R st := by rw [hx]; exact hy
          exact (mem_moversF this).2
        have v2 := moved_vs vR vS hm
        have hfl : fnd.length < sizeLine := by rw [sizeLine_eq]; omega
        have eb : bodyR (EnvR R st fnd s3) = some (.nx (EnvR R (moved R st [x]) (putK fnd (keyI' st) (.bl true)) (.fz (.lst ([x].map intD'))))) := by
          unfold bodyR
          rw [seq_nx e1]
          have e3 : ifSX (tstX (op2X neD (op1X lenD (varX 3)) (conX (.int 1)))) (retSX (conX (.bl false))) nextX (EnvR R st fnd (.fz (.lst ((moversF R st).map intD')))) = some (.nx (EnvR R st fnd (.fz (.lst ((moversF R st).map intD'))))) := by
            rw [if_ok e2, h1]
            rfl
          rw [seq_nx e3, hx]
          have e4 : putSX 2 (varX 1) (conX (.bl true)) (EnvR R st fnd (.fz (.lst ([x].map intD')))) = some (.nx (EnvR R st (putK fnd (keyI' st) (.bl true)) (.fz (.lst ([x].map intD'))))) := by
            show ((putCo (.dT fnd) (tupOf st) (.bl true)).map fun co' => DL.Fin.nx ((EnvR R st fnd (.fz (.lst ([x].map intD')))).set 2 (.ow co'))) = _
            rw [putCo_bl hfl]
            rfl
          rw [seq_nx e4]
          exact set_ok (fz_ok ((call_ok (ds := [encR R, tupOf st, .lst ([x].map intD')]) (cons_ok rfl (cons_ok rfl (cons_ok rfl rfl)))).trans (moved_ok vR vS hm)))
        rw [eb]
        simp only
        refine right_loop vR k (st :: known) _ _ _ b h v2 (fun s => ?_) ?_ (by rw [List.length_cons]; omega)
        · rw [has_put, hk s, List.mem_cons]
          exact ⟨fun z => z.symm, fun z => z.symm⟩
        · have := length_putK fnd (keyI' st) (.bl true)
          rw [List.length_cons]
          omega
      · have e1 := right_e1 (fnd := fnd) (s3 := s3) vR vS
        have e2 := right_e2 (R := R) (st := st) (fnd := fnd)
        have hf : b = false := by
          split at h
          · rename_i x hx
            rw [hx] at h1
            exact absurd rfl h1
          · exact (Option.some.inj h).symm
        subst hf
        have eb : bodyR (EnvR R st fnd s3) = some (.rt (.bl false)) := by
          unfold bodyR
          rw [seq_nx e1]
          have e3 : ifSX (tstX (op2X neD (op1X lenD (varX 3)) (conX (.int 1)))) (retSX (conX (.bl false))) nextX (EnvR R st fnd (.fz (.lst ((moversF R st).map intD')))) = some (.rt (.bl false)) := by
            rw [if_ok e2]
            have : (((moversF R st).length : Int) == 1) = false := by rw [beq_eq_false_iff_ne]; omega
            rw [this]
            rfl
          exact seq_rt e3
        rw [eb]
        exact .rt
theorem right_ok {R : Rules} {K : Nat} {st : List Int} {b : Bool} (vR : VR R K) (vS : VS K st) (h : rightO R 1000 [] st = some b) : x_right_at [encR R, tupOf st] = some (.ok (.bl b)) := by
  have w := right_loop vR 1000 [] [] st .un b h vS (fun s => ⟨fun z => absurd z (by simp [has, valV]), fun z => nomatch z⟩) (Nat.le_refl _) (by simp)
  refine fn_ok rfl rfl (ρ := [.fz (encR R), .fz (tupOf st), .un, .un]) ?_
  have e : seqSX (whileX (tstX (opPX (fun a b => (inCo a b).map fun q => D.bl (!q)) (varX 1) (varPX 2))) bodyR 1000) (retSX (conX (.bl true))) (EnvR R st [] .un) = some (.rt (.bl b)) := by
    generalize hg : whileX (tstX (opPX (fun a b => (inCo a b).map fun q => D.bl (!q)) (varX 1) (varPX 2))) bodyR 1000 (EnvR R st [] .un) = r at w
    cases w with
    | rt => exact seq_rt hg
    | nx ρ =>
      rw [seq_nx hg]
      rfl
  unfold bodyR at e
  unfold xb_right_at
  rw [seq_nx (set_ok (sl := .ow (.dT [])) (ow_ok rfl))]
  exact e
end HK

set_option Elab.async false
set_option linter.all false
set_option maxRecDepth 100000
set_option maxHeartbeats 4000000
/-! part PLd -/
namespace HK
open PySem PySem.Spec L2 DL DM
def encLot (l : List Nat) : D := .lst (l.map intD')
inductive Way where
  | one | some | all
def Way.d : Way → D
  | .one => .str "one"
  | .some => .str "some"
  | .all => .str "all"
def Way.isOne : Way → Bool
  | .one => true
  | _ => false
def Way.isAll : Way → Bool
  | .all => true
  | _ => false
def Way.lim (m : Nat) : Way → Nat
  | .some => 2 ^ m
  | _ => 1
def grow (ms : List Nat) : List (List Nat) := ms.foldl (fun f h => f ++ f.map (· ++ [h])) [[]]
def lotsF (w : Way) (ms : List Nat) : List (List Nat) := match w with
  | .one => ms.map fun h => [h]
  | .all => if ms.isEmpty then [] else [ms]
  | .some => (grow ms).drop 1
theorem eq_one (w : Way) : eqD w.d (.str "one") = some (.bl w.isOne) := by cases w <;> kernel_rfl
theorem eq_all (w : Way) : eqD w.d (.str "all") = some (.bl w.isAll) := by cases w <;> kernel_rfl
theorem ne_nats (ms : List Nat) : neD (.lst (ms.map intD')) (.lst []) = some (.bl (!ms.isEmpty)) := by
  have h1 : (D.lst (ms.map intD')).fits 3 = true := by rw [D.fits]; exact fits_nats 2 ms
  unfold neD
  rw [eqOk_fits h1 (show (D.lst []).fits 3 = true from rfl) (by decide)]
  cases ms <;> rfl
abbrev EnvL (R : Rules) (st : List Int) (w : Way) (ms : List Nat) (s4 s5 : Sl) : En := [.fz (encR R), .fz (tupOf st), .fz w.d, .fz (.lst (ms.map intD')), s4, s5, .un]
def bodyL : XS := setSX 5 (fzX (op2X addD (varX 5) (pnX (lcX [6] (seqX (varX 5)) (tgN 6) yesX (op2X addD (varX 6) (pnX (lstX (consX (varX 4) nilX))))))))
theorem add_lst {a b : List D} (h : a.length + b.length ≤ sizeLine) : addD (.lst a) (.lst b) = some (.lst (a ++ b)) := by
  rw [addD, if_pos h]
theorem grow_loop {R : Rules} {st : List Int} {w : Way} {ms : List Nat} : ∀ (rest : List Nat) (f : List (List Nat)) (s4 : Sl), f.length * 2 ^ rest.length ≤ 1000 → (∀ l ∈ f, l.length + rest.length ≤ 100) →
    ∃ s4', forWX (tgN 4) bodyL (rest.map intD') (EnvL R st w ms s4 (.fz (.lst (f.map encLot)))) = some (.nx (EnvL R st w ms s4' (.fz (.lst ((rest.foldl (fun f h => f ++ f.map (· ++ [h])) f).map encLot)))))
  | [], f, s4, _, _ => ⟨s4, rfl⟩
  | h :: rest, f, s4, hf, hl => by
    rw [List.length_cons, Nat.pow_succ] at hf
    have hp : 1 ≤ 2 ^ rest.length := Nat.one_le_two_pow
    have hf1 : f.length * 2 ≤ 1000 := by
      have : f.length * 2 * 1 ≤ f.length * 2 * 2 ^ rest.length := Nat.mul_le_mul_left _ hp
      have e : f.length * 2 * 2 ^ rest.length = f.length * (2 ^ rest.length * 2) := by rw [Nat.mul_assoc, Nat.mul_comm 2]
      omega
    have hlc : lcX [6] (seqX (varX 5)) (tgN 6) yesX (op2X addD (varX 6) (pnX (lstX (consX (varX 4) nilX)))) (EnvL R st w ms (.fz (intD' h)) (.fz (.lst (f.map encLot)))) = some (.ok (.lst ((f.map (· ++ [h])).map encLot))) := by
      refine lc_ok (ds := f.map encLot) rfl ?_
      have := lc_map (i := 6) (fe := op2X addD (varX 6) (pnX (lstX (consX (varX 4) nilX)))) (ρ0 := EnvL R st w ms (.fz (intD' h)) (.fz (.lst (f.map encLot)))) (fun d => match d with | .lst ds => .lst (ds ++ [intD' h]) | d => d) (f.map encLot) [] (fun d hd => ?_) (by rw [List.length_nil, List.length_map, sizeLine_eq]; omega)
      · refine Eq.trans this ?_
        rw [List.nil_append, List.map_map, List.map_map]
        refine congrArg (fun z => some (Co.lst z)) (List.map_congr_left fun l _ => ?_)
        show D.lst (l.map intD' ++ [intD' h]) = D.lst ((l ++ [h]).map intD')
        rw [List.map_append]; rfl
      · obtain ⟨l, hl', rfl⟩ := List.mem_map.mp hd
        have := hl l hl'
        rw [List.length_cons] at this
        refine op2_ok (x := encLot l) (y := .lst [intD' h]) rfl (pn_ok rfl) ?_
        exact add_lst (by rw [List.length_map, List.length_singleton, sizeLine_eq]; omega)
    have hb : bodyL (EnvL R st w ms (.fz (intD' h)) (.fz (.lst (f.map encLot)))) = some (.nx (EnvL R st w ms (.fz (intD' h)) (.fz (.lst ((f ++ f.map (· ++ [h])).map encLot))))) := by
      have := set_ok (i := 5) (fz_ok (op2_ok (g := addD) (x := .lst (f.map encLot)) (y := .lst ((f.map (· ++ [h])).map encLot)) (a := varX 5) (ρ := EnvL R st w ms (.fz (intD' h)) (.fz (.lst (f.map encLot)))) rfl (pn_ok hlc) (add_lst (by rw [List.length_map, List.length_map, List.length_map, sizeLine_eq]; omega))))
      rw [← List.map_append] at this
      exact this
    obtain ⟨s4', ih⟩ := grow_loop (R := R) (st := st) (w := w) (ms := ms) rest (f ++ f.map (· ++ [h])) (.fz (intD' h)) (by
      rw [List.length_append, List.length_map]
      have e : (f.length + f.length) * 2 ^ rest.length = f.length * (2 ^ rest.length * 2) := by rw [← Nat.mul_two, Nat.mul_assoc, Nat.mul_comm 2]
      omega) (fun l hl' => by
        rcases List.mem_append.mp hl' with z | z
        · have := hl l z
          rw [List.length_cons] at this
          omega
        · obtain ⟨l', z', rfl⟩ := List.mem_map.mp z
          have := hl l' z'
          rw [List.length_cons] at this
          rw [List.length_append, List.length_singleton]
          omega)
    refine ⟨s4', ?_⟩
    rw [List.map_cons, forWX]
    have ht : tgN 4 (intD' h) (EnvL R st w ms s4 (.fz (.lst (f.map encLot)))) = some (EnvL R st w ms (.fz (intD' h)) (.fz (.lst (f.map encLot)))) := rfl
    rw [ht]
    simp only [hb]
    rw [ih]
    rfl
theorem lots_ok {R : Rules} {K : Nat} {st : List Int} {w : Way} (vR : VR R K) (vS : VS K st) (hs : w.lim (moversF R st).length ≤ 1000) : x_lots_by [encR R, tupOf st, w.d] = some (.ok (.lst ((lotsF w (moversF R st)).map encLot))) := by
  refine fn_ok rfl rfl (ρ := [.fz (encR R), .fz (tupOf st), .fz w.d, .un, .un, .un, .un]) ?_
  have e1 : setSX 3 (fzX (callX x_movers_of (consX (varX 0) (consX (varX 1) nilX)))) [.fz (encR R), .fz (tupOf st), .fz w.d, .un, .un, .un, .un] = some (.nx (EnvL R st w (moversF R st) .un .un)) :=
    set_ok (fz_ok ((call_ok (ds := [encR R, tupOf st]) (cons_ok rfl (cons_ok rfl rfl))).trans (movers_ok vR vS)))
  have hml : (moversF R st).length ≤ 60 := by
    have := List.length_filter_le (fun h => (entryF R st h).isSome) (List.range st.length)
    rw [List.length_range] at this
    exact Nat.le_trans this vS.hi
  generalize moversF R st = ms at e1 hs hml
  have t1 : tstX (op2X eqD (varX 2) (conX (.str "one"))) (EnvL R st w ms .un .un) = some (.ok w.isOne) := tst_ok (op2_ok (x := w.d) (y := .str "one") rfl rfl (eq_one w))
  have t2 : tstX (op2X eqD (varX 2) (conX (.str "all"))) (EnvL R st w ms .un .un) = some (.ok w.isAll) := tst_ok (op2_ok (x := w.d) (y := .str "all") rfl rfl (eq_all w))
  unfold xb_lots_by
  rw [seq_nx e1]
  cases w with
  | one =>
    refine seq_rt ?_
    rw [if_ok t1]
    rw [show (Way.one).isOne = true from rfl, if_pos rfl]
    refine ret_ok (pn_ok (lc_ok (ds := ms.map intD') rfl ?_))
    have := lc_map (i := 4) (fe := pnX (lstX (consX (varX 4) nilX))) (ρ0 := EnvL R st .one ms .un .un) (fun d => .lst [d]) (ms.map intD') [] (fun d hd => pn_ok rfl) (by rw [List.length_nil, List.length_map, sizeLine_eq]; omega)
    refine Eq.trans this ?_
    rw [List.nil_append, List.map_map]
    show _ = some (Co.lst ((ms.map fun h => [h]).map encLot))
    rw [List.map_map]
    rfl
  | all =>
    have n1 : ifSX (tstX (op2X eqD (varX 2) (conX (.str "one")))) (retSX (pnX (lcX [4] (seqX (varX 3)) (tgN 4) yesX (pnX (lstX (consX (varX 4) nilX)))))) nextX (EnvL R st .all ms .un .un) = some (.nx (EnvL R st .all ms .un .un)) := by
      rw [if_ok t1]; rfl
    rw [seq_nx n1]
    refine seq_rt ?_
    rw [if_ok t2, show (Way.all).isAll = true from rfl, if_pos rfl]
    refine ret_ok ?_
    rw [ifE_ok (tst_ok (op2_ok (x := .lst (ms.map intD')) (y := .lst []) rfl rfl (ne_nats ms)))]
    cases ms with
    | nil => rfl
    | cons h ms => rfl
  | some =>
    have n1 : ifSX (tstX (op2X eqD (varX 2) (conX (.str "one")))) (retSX (pnX (lcX [4] (seqX (varX 3)) (tgN 4) yesX (pnX (lstX (consX (varX 4) nilX)))))) nextX (EnvL R st .some ms .un .un) = some (.nx (EnvL R st .some ms .un .un)) := by
      rw [if_ok t1]; rfl
    have n2 : ifSX (tstX (op2X eqD (varX 2) (conX (.str "all")))) (retSX (ifX (tstX (op2X neD (varX 3) (pnX (lstX nilX)))) (pnX (lstX (consX (varX 3) nilX))) (pnX (lstX nilX)))) nextX (EnvL R st .some ms .un .un) = some (.nx (EnvL R st .some ms .un .un)) := by
      rw [if_ok t2]; rfl
    rw [seq_nx n1, seq_nx n2]
    have e5 : setSX 5 (fzX (pnX (lstX (consX (pnX (lstX nilX)) nilX)))) (EnvL R st .some ms .un .un) = some (.nx (EnvL R st .some ms .un (.fz (.lst ([[]].map encLot))))) := rfl
    rw [seq_nx e5]
    obtain ⟨s4', hg⟩ := grow_loop (R := R) (st := st) (w := .some) (ms := ms) ms [[]] .un (by show 1 * 2 ^ ms.length ≤ 1000; rw [Nat.one_mul]; exact hs) (fun l hl => by
      rw [List.mem_singleton] at hl
      subst hl
      rw [List.length_nil]
      omega)
    have e6 : forSX (seqX (varX 3)) (tgN 4) bodyL (EnvL R st .some ms .un (.fz (.lst ([[]].map encLot)))) = some (.nx (EnvL R st .some ms s4' (.fz (.lst ((grow ms).map encLot))))) := hg
    unfold bodyL at e6
    rw [seq_nx e6]
    refine ret_ok (pn_ok ?_)
    show some (Except.ok (Co.lst (cutD ((grow ms).map encLot) (some 1) none))) = _
    have : cutD ((grow ms).map encLot) (some 1) none = ((grow ms).drop 1).map encLot := by
      unfold cutD
      rw [List.map_drop]
      have e1 : HT.sIx ((grow ms).map encLot).length 0 (some 1) = min 1 ((grow ms).map encLot).length := HT.sIx_nat _ _ 1
      rw [e1, HT.sIx_none]
      have hl : 1 ≤ ((grow ms).map encLot).length ∨ ((grow ms).map encLot).length = 0 := by omega
      rcases hl with hl | hl
      · rw [Nat.min_eq_left hl]
        exact List.take_of_length_le (by rw [List.length_drop]; exact Nat.le_refl _)
      · rw [List.length_eq_zero_iff.mp hl]
        simp
    rw [this]
    rfl
end HK

set_option Elab.async false
set_option linter.all false
set_option maxRecDepth 100000
set_option maxHeartbeats 4000000
/-! part PLe -/
namespace HK
open PySem PySem.Spec L2 DL DM
theorem rg1_ok {a : XE D} {ρ : En} {n : Nat} (h : a ρ = some (.ok (.int (n : Nat)))) (hn : n ≤ 1000000) : rg1X a ρ = some (.ok ((List.range n).map intD')) := by
  unfold rg1X
  rw [bind_ok h]
  show okX (rg1O (.int (n : Nat))) [] = _
  rw [rg1_nat hn]
  rfl
theorem for_ok {fi : XE (List D)} {g : D → En → Option En} {body : XS} {ρ : En} {ds : List D} {r : Option DL.Fin} (h : fi ρ = some (.ok ds)) (h2 : forWX g body ds ρ = r) : forSX fi g body ρ = r := by
  unfold forSX thenX
  rw [h]
  exact h2
theorem for_cons {g : D → En → Option En} {body : XS} {d : D} {ds : List D} {ρ ρ' ρ2 : En} (h1 : g d ρ = some ρ') (h2 : body ρ' = some (.nx ρ2)) : forWX g body (d :: ds) ρ = forWX g body ds ρ2 := by
  rw [forWX, h1]
  simp only [h2]
theorem mem_lots {w : Way} {ms : List Nat} {l : List Nat} (h : l ∈ lotsF w ms) : ∀ x ∈ l, x ∈ ms := by
  cases w with
  | one =>
    obtain ⟨y, hy, rfl⟩ := List.mem_map.mp h
    intro x hx
    rw [List.mem_singleton.mp hx]; exact hy
  | all =>
    unfold lotsF at h
    cases ms with
    | nil => simp at h
    | cons a ms =>
      simp at h
      subst h
      exact fun x hx => hx
  | some =>
    have key : ∀ (rest : List Nat) (f : List (List Nat)), (∀ x ∈ rest, x ∈ ms) → (∀ l ∈ f, ∀ x ∈ l, x ∈ ms) → ∀ l ∈ rest.foldl (fun f h => f ++ f.map (· ++ [h])) f, ∀ x ∈ l, x ∈ ms := by
      intro rest
      induction rest with
      | nil => intro f _ hf; exact hf
      | cons h rest ih =>
        intro f hr hf
        refine ih _ (fun x hx => hr x (List.mem_cons_of_mem _ hx)) fun l hl x hx => ?_
        rcases List.mem_append.mp hl with z | z
        · exact hf l z x hx
        · obtain ⟨l', z', rfl⟩ := List.mem_map.mp z
          rcases List.mem_append.mp hx with q | q
          · exact hf l' z' x q
          · rw [List.mem_singleton.mp q]
            exact hr h List.mem_cons_self
    exact key ms [[]] (fun x hx => hx) (fun l hl x hx => by
      rw [List.mem_singleton.mp hl] at hx; cases hx) l (List.mem_of_mem_drop h)
def stepsF (R : Rules) (w : Way) (st : List Int) : List (List Int) := sortC ((lotsF w (moversF R st)).map (moved R st))
theorem tupsI_map : ∀ ks : List (List Int), tupsI (ks.map tupOf) = some ks
  | [] => rfl
  | k :: ks => by
    show (tupI (tupOf k)).bind (fun x => (tupsI (ks.map tupOf)).map (x :: ·)) = _
    rw [tupsI_map ks]
    show (intsOf (k.map D.int)).bind _ = _
    rw [intsOf_map]
    rfl
theorem even_ok {ks : List (List Int)} {n : Nat} (h1 : 1 ≤ n) (h : ∀ k ∈ ks, k.length = n ∧ ∀ x ∈ k, 0 ≤ x ∧ x < 64) : evenB ks = true := by
  cases ks with
  | nil => rfl
  | cons k ks =>
    have hk := (h k List.mem_cons_self).1
    unfold evenB
    simp only [Bool.and_eq_true, decide_eq_true_eq, List.all_eq_true]
    exact ⟨by omega, fun x hx => ⟨by rw [hk, (h x hx).1], fun m hm => (h x hx).2 m hm⟩⟩
theorem steps_ok {R : Rules} {K : Nat} {st : List Int} {w : Way} (vR : VR R K) (vS : VS K st) (hs : w.lim (moversF R st).length ≤ 1000) (hl : (lotsF w (moversF R st)).length < 64) : x_steps_of [encR R, tupOf st, w.d] = some (.ok (.lst ((stepsF R w st).map tupOf))) := by
  refine fn_ok rfl rfl (ρ := [.fz (encR R), .fz (tupOf st), .fz w.d, .un]) ?_
  refine ret_ok (pn_ok ?_)
  have hlots : callX x_lots_by (consX (varX 0) (consX (varX 1) (consX (varX 2) nilX))) [.fz (encR R), .fz (tupOf st), .fz w.d, .un] = some (.ok (.lst ((lotsF w (moversF R st)).map encLot))) := (call_ok (ds := [encR R, tupOf st, w.d]) (cons_ok rfl (cons_ok rfl (cons_ok rfl rfl)))).trans (lots_ok vR vS hs)
  have hlc : lcX [3] (seqX (callX x_lots_by (consX (varX 0) (consX (varX 1) (consX (varX 2) nilX))))) (tgN 3) yesX (callX x_moved_by (consX (varX 0) (consX (varX 1) (consX (varX 3) nilX)))) [.fz (encR R), .fz (tupOf st), .fz w.d, .un] = some (.ok (.lst (((lotsF w (moversF R st)).map (moved R st)).map tupOf))) := by
    refine lc_ok (ds := (lotsF w (moversF R st)).map encLot) ?_ ?_
    · unfold seqX
      rw [bind_ok hlots]
      rfl
    · have := lc_map (i := 3) (fe := callX x_moved_by (consX (varX 0) (consX (varX 1) (consX (varX 3) nilX)))) (ρ0 := [.fz (encR R), .fz (tupOf st), .fz w.d, .un]) (fun d => match x_moved_by [encR R, tupOf st, d] with | some (.ok x) => x | _ => .non) ((lotsF w (moversF R st)).map encLot) [] (fun d hd => ?_) (by rw [List.length_nil, List.length_map, sizeLine_eq]; omega)
      · refine Eq.trans this ?_
        rw [List.nil_append, List.map_map, List.map_map]
        refine congrArg (fun z => some (Co.lst z)) (List.map_congr_left fun l hl' => ?_)
        show (match x_moved_by [encR R, tupOf st, .lst (l.map intD')] with | some (.ok x) => x | _ => .non) = tupOf (moved R st l)
        rw [moved_ok vR vS fun h hh => (mem_moversF (mem_lots hl' h hh)).2]
      · obtain ⟨l, hl', rfl⟩ := List.mem_map.mp hd
        refine (call_ok (ds := [encR R, tupOf st, encLot l]) (cons_ok rfl (cons_ok rfl (cons_ok rfl rfl)))).trans ?_
        show x_moved_by [encR R, tupOf st, .lst (l.map intD')] = some (.ok (match x_moved_by [encR R, tupOf st, .lst (l.map intD')] with | some (.ok x) => x | _ => .non))
        rw [moved_ok vR vS fun h hh => (mem_moversF (mem_lots hl' h hh)).2]
  unfold sortedSetX
  rw [bind_ok (pn_ok hlc)]
  have hev : evenB ((lotsF w (moversF R st)).map (moved R st)) = true := even_ok vS.lo fun k hk => by
    obtain ⟨l, hl', rfl⟩ := List.mem_map.mp hk
    have v := moved_vs vR vS fun h hh => (mem_moversF (mem_lots hl' h hh)).2
    refine ⟨moved_len, fun x hx => ?_⟩
    have := v.en x hx
    have := vR.hi
    omega
  have : sortedSetO (.lst (((lotsF w (moversF R st)).map (moved R st)).map tupOf)) = some (.lst ((stepsF R w st).map tupOf)) := by
    unfold sortedSetO
    dsimp only
    rw [tupsI_map]
    show (if ((lotsF w (moversF R st)).map (moved R st)).length < 64 ∧ evenB ((lotsF w (moversF R st)).map (moved R st)) = true then _ else _) = _
    rw [if_pos ⟨by rw [List.length_map]; exact hl, hev⟩]
    rfl
  unfold okX
  rw [this]
theorem mem_stepsF {R : Rules} {w : Way} {st : List Int} {t : List Int} (h : t ∈ stepsF R w st) : ∃ l ∈ lotsF w (moversF R st), t = moved R st l := by
  obtain ⟨l, hl, e⟩ := List.mem_map.mp (mem_sortC h)
  exact ⟨l, hl, e.symm⟩

/-! part PLe -/
def rowsF (K : Nat) (row : List Int) : List (List Int) := (List.range K).map fun j => row ++ [((j : Nat) : Int)]
def stds (K : Nat) : Nat → List (List Int)
  | 0 => [[]]
  | n + 1 => (stds K n).flatMap (rowsF K)
abbrev EnvS (R : Rules) (n : Nat) (found : List (List Int)) (s3 s4 s5 : Sl) : En := [.fz (encR R), .fz (.int n), .fz (.lst (found.map tupOf)), s3, s4, s5, .un]
def bodyS2 : XS := setSX 4 (fzX (op2X addD (varX 4) (pnX (lcX [6] (rg1X (op1X lenD (op2X idxD (varX 0) (conX (.int 0))))) (tgN 6) yesX (op2X addD (varX 5) (tupX (consX (varX 6) nilX)))))))
theorem add_tup {a b : List D} (h : a.length + b.length ≤ sizeLine) : addD (.tup a) (.tup b) = some (.tup (a ++ b)) := by
  rw [addD, if_pos h]
theorem rows_one {R : Rules} {n K : Nat} {found acc : List (List Int)} {r : List Int} {s3 : Sl} (vR : VR R K) (hK : K ≤ 60) (hrl : r.length ≤ 100) : lcX [6] (rg1X (op1X lenD (op2X idxD (varX 0) (conX (.int 0))))) (tgN 6) yesX (op2X addD (varX 5) (tupX (consX (varX 6) nilX))) (EnvS R n found s3 (.fz (.lst (acc.map tupOf))) (.fz (tupOf r))) = some (.ok (.lst ((rowsF K r).map tupOf))) := by
  refine lc_ok (ds := (List.range K).map intD') ?_ ?_
  · have e : op1X lenD (op2X idxD (varX 0) (conX (.int 0))) (EnvS R n found s3 (.fz (.lst (acc.map tupOf))) (.fz (tupOf r))) = some (.ok (.int (K : Nat))) := by
      refine op1_ok (x := encP R.1) (op2_ok (x := encR R) (y := .int 0) rfl rfl rfl) ?_
      show some (D.int ((R.1.map encL).length : Nat)) = _
      rw [List.length_map, vR.l1]
    exact rg1_ok e (by omega)
  · have := lc_map (i := 6) (fe := op2X addD (varX 5) (tupX (consX (varX 6) nilX))) (ρ0 := EnvS R n found s3 (.fz (.lst (acc.map tupOf))) (.fz (tupOf r))) (fun d => .tup (r.map D.int ++ [d])) ((List.range K).map intD') [] (fun d hd => ?_) (by rw [List.length_nil, List.length_map, List.length_range, sizeLine_eq]; omega)
    · refine Eq.trans this ?_
      rw [List.nil_append, List.map_map]
      unfold rowsF
      rw [List.map_map]
      refine congrArg (fun z => some (Co.lst z)) (List.map_congr_left fun j _ => ?_)
      show D.tup (r.map D.int ++ [intD' j]) = D.tup ((r ++ [((j : Nat) : Int)]).map D.int)
      rw [List.map_append]; rfl
    · refine op2_ok (x := tupOf r) (y := .tup [d]) rfl rfl ?_
      exact add_tup (by rw [List.length_map, List.length_singleton, sizeLine_eq]; omega)
theorem rows_body {R : Rules} {n K : Nat} {found acc : List (List Int)} {r : List Int} {s3 : Sl} (vR : VR R K) (hK : K ≤ 60) (hrl : r.length ≤ 100) (hl : acc.length + K ≤ 1000) :
    bodyS2 (EnvS R n found s3 (.fz (.lst (acc.map tupOf))) (.fz (tupOf r))) = some (.nx (EnvS R n found s3 (.fz (.lst ((acc ++ rowsF K r).map tupOf))) (.fz (tupOf r)))) := by
  have hlc := rows_one (n := n) (found := found) (acc := acc) (s3 := s3) vR hK hrl
  have hadd : addD (.lst (acc.map tupOf)) (.lst ((rowsF K r).map tupOf)) = some (.lst ((acc ++ rowsF K r).map tupOf)) := by
    rw [List.map_append]
    refine add_lst ?_
    unfold rowsF
    rw [List.length_map, List.length_map, List.length_map, List.length_range, sizeLine_eq]
    omega
  have e0 : varX 4 (EnvS R n found s3 (.fz (.lst (acc.map tupOf))) (.fz (tupOf r))) = some (.ok (.lst (acc.map tupOf))) := rfl
  unfold bodyS2
  exact set_ok (sl := .fz (.lst ((acc ++ rowsF K r).map tupOf))) (fz_ok (op2_ok e0 (pn_ok hlc) hadd))
theorem rows_loop {R : Rules} {n K : Nat} {found : List (List Int)} {s3 : Sl} (vR : VR R K) : ∀ (rest acc : List (List Int)) (s5 : Sl), acc.length + rest.length * K ≤ 1000 → (∀ r ∈ rest, r.length ≤ 100) →
    ∃ s5', forWX (tgN 5) bodyS2 (rest.map tupOf) (EnvS R n found s3 (.fz (.lst (acc.map tupOf))) s5) = some (.nx (EnvS R n found s3 (.fz (.lst ((acc ++ rest.flatMap (rowsF K)).map tupOf))) s5'))
  | [], acc, s5, _, _ => ⟨s5, by rw [List.map_nil, forWX, List.flatMap_nil, List.append_nil]⟩
  | r :: rest, acc, s5, hl, hr => by
    rw [List.length_cons, Nat.add_mul, Nat.one_mul] at hl
    have hK := vR.hi
    have hrl := hr r List.mem_cons_self
    have hb := rows_body (n := n) (found := found) (acc := acc) (s3 := s3) vR hK hrl (by omega)
    obtain ⟨s5', ih⟩ := rows_loop (n := n) (found := found) (s3 := s3) vR rest (acc ++ rowsF K r) (.fz (tupOf r)) (by
      unfold rowsF
      rw [List.length_append, List.length_map, List.length_range]
      omega) fun x hx => hr x (List.mem_cons_of_mem _ hx)
    refine ⟨s5', ?_⟩
    have ht : tgN 5 (tupOf r) (EnvS R n found s3 (.fz (.lst (acc.map tupOf))) s5) = some (EnvS R n found s3 (.fz (.lst (acc.map tupOf))) (.fz (tupOf r))) := rfl
    rw [List.flatMap_cons, ← List.append_assoc]
    exact (for_cons ht hb).trans ih
theorem stds_len (K : Nat) : ∀ n, (stds K n).length = K ^ n
  | 0 => rfl
  | n + 1 => by
    unfold stds
    rw [List.length_flatMap]
    have : ((stds K n).map fun a => (rowsF K a).length) = (stds K n).map fun _ => K := List.map_congr_left fun a _ => by unfold rowsF; rw [List.length_map, List.length_range]
    rw [this, List.map_const', List.sum_replicate_nat, stds_len K n, Nat.pow_succ]
theorem mem_stds {K : Nat} : ∀ {n : Nat} {s : List Int}, s ∈ stds K n ↔ s.length = n ∧ ∀ x ∈ s, 0 ≤ x ∧ x < K
  | 0, s => by
    unfold stds
    rw [List.mem_singleton]
    constructor
    · rintro rfl; exact ⟨rfl, fun _ h => nomatch h⟩
    · rintro ⟨h, _⟩; exact List.length_eq_zero_iff.mp h
  | n + 1, s => by
    unfold stds
    rw [List.mem_flatMap]
    constructor
    · rintro ⟨r, hr, hs⟩
      obtain ⟨h1, h2⟩ := mem_stds.mp hr
      obtain ⟨j, hj, rfl⟩ := List.mem_map.mp hs
      have hj := List.mem_range.mp hj
      refine ⟨by rw [List.length_append, List.length_singleton, h1], fun x hx => ?_⟩
      rcases List.mem_append.mp hx with z | z
      · exact h2 x z
      · rw [List.mem_singleton.mp z]
        omega
    · rintro ⟨h1, h2⟩
      have hne : s ≠ [] := fun e => by rw [e] at h1; cases h1
      refine ⟨s.dropLast, mem_stds.mpr ⟨by rw [List.length_dropLast, h1]; rfl, fun x hx => h2 x ((List.dropLast_sublist s).subset hx)⟩, ?_⟩
      obtain ⟨a, b⟩ := h2 _ (List.getLast_mem hne)
      refine List.mem_map.mpr ⟨(s.getLast hne).toNat, List.mem_range.mpr (by omega), ?_⟩
      have : (((s.getLast hne).toNat : Nat) : Int) = s.getLast hne := by omega
      rw [this]
      exact List.dropLast_concat_getLast hne
def bodyS : XS := seqSX (setSX 4 (fzX (pnX (lstX nilX)))) (seqSX (forSX (seqX (varX 2)) (tgN 5) bodyS2) (setSX 2 (fzX (varX 4))))
theorem stds_loop {R : Rules} {n K : Nat} (vR : VR R K) : ∀ (rest : List Nat) (i : Nat) (s3 s4 s5 : Sl), (∀ j, j ≤ i + rest.length → K ^ j ≤ 1000) → i + rest.length ≤ 60 →
    ∃ s3' s4' s5', forWX (tgN 3) bodyS (rest.map intD') (EnvS R n (stds K i) s3 s4 s5) = some (.nx (EnvS R n (stds K (i + rest.length)) s3' s4' s5'))
  | [], i, s3, s4, s5, _, _ => ⟨s3, s4, s5, rfl⟩
  | x :: rest, i, s3, s4, s5, hK, hi => by
    rw [List.length_cons] at hK hi
    obtain ⟨s5', hr⟩ := rows_loop (n := n) (found := stds K i) (s3 := .fz (intD' x)) vR (stds K i) [] s5 (by
      have := hK (i + 1) (by omega)
      rw [stds_len, List.length_nil, Nat.zero_add]
      rw [Nat.pow_succ] at this
      exact this) fun r hr => by
        rw [(mem_stds.mp hr).1]; omega
    rw [List.nil_append] at hr
    have hb : bodyS (EnvS R n (stds K i) (.fz (intD' x)) s4 s5) = some (.nx (EnvS R n (stds K (i + 1)) (.fz (intD' x)) (.fz (.lst ((stds K (i + 1)).map tupOf))) s5')) := by
      unfold bodyS
      have e1 : setSX 4 (fzX (pnX (lstX nilX))) (EnvS R n (stds K i) (.fz (intD' x)) s4 s5) = some (.nx (EnvS R n (stds K i) (.fz (intD' x)) (.fz (.lst (([] : List (List Int)).map tupOf))) s5)) := rfl
      rw [seq_nx e1]
      have e2 : forSX (seqX (varX 2)) (tgN 5) bodyS2 (EnvS R n (stds K i) (.fz (intD' x)) (.fz (.lst (([] : List (List Int)).map tupOf))) s5) = some (.nx (EnvS R n (stds K i) (.fz (intD' x)) (.fz (.lst ((stds K (i + 1)).map tupOf))) s5')) := hr
      rw [seq_nx e2]
      rfl
    obtain ⟨a, b, c, ih⟩ := stds_loop (n := n) vR rest (i + 1) (.fz (intD' x)) (.fz (.lst ((stds K (i + 1)).map tupOf))) s5' (fun j hj => hK j (by omega)) (by omega)
    refine ⟨a, b, c, ?_⟩
    have ht : tgN 3 (intD' x) (EnvS R n (stds K i) s3 s4 s5) = some (EnvS R n (stds K i) (.fz (intD' x)) s4 s5) := rfl
    rw [show i + 1 + rest.length = i + (rest.length + 1) by omega] at ih
    exact (for_cons ht hb).trans ih
theorem standings_ok {R : Rules} {n K : Nat} (vR : VR R K) (hK : ∀ j, j ≤ n → K ^ j ≤ 1000) (hn : n ≤ 60) : x_standings_of [encR R, .int n] = some (.ok (.lst ((stds K n).map tupOf))) := by
  refine fn_ok rfl rfl (ρ := [.fz (encR R), .fz (.int n), .un, .un, .un, .un, .un]) ?_
  obtain ⟨a, b, c, h⟩ := stds_loop (n := n) vR (List.range n) 0 .un .un .un (by rw [List.length_range, Nat.zero_add]; exact hK) (by rw [List.length_range]; omega)
  rw [List.length_range, Nat.zero_add] at h
  unfold xb_standings_of
  have e1 : setSX 2 (fzX (pnX (lstX (consX (tupX nilX) nilX)))) [.fz (encR R), .fz (.int n), .un, .un, .un, .un, .un] = some (.nx (EnvS R n (stds K 0) .un .un .un)) := rfl
  rw [seq_nx e1]
  have e2 : forSX (rg1X (varX 1)) (tgN 3) bodyS (EnvS R n (stds K 0) .un .un .un) = some (.nx (EnvS R n (stds K n) a b c)) := by
    exact for_ok (rg1_ok rfl (by omega)) h
  unfold bodyS bodyS2 at e2
  rw [seq_nx e2]
  rfl
end HK

set_option Elab.async false
set_option linter.all false
set_option maxRecDepth 100000
set_option maxHeartbeats 4000000
/-! part PLf -/
namespace HK
open PySem PySem.Spec L2 DL DM
theorem expr_ok {a : XE D} {ρ : En} {d : D} (h : a ρ = some (.ok d)) : exprSX a ρ = some (.nx ρ) := by
  unfold exprSX thenX
  rw [h]
  rfl
theorem stds_nodup (K : Nat) : ∀ n, (stds K n).Nodup
  | 0 => by unfold stds; exact List.pairwise_singleton _ _
  | n + 1 => by
    unfold stds
    refine List.pairwise_flatMap.mpr ⟨fun r _ => ?_, ?_⟩
    · unfold rowsF
      refine List.pairwise_map.mpr ((List.nodup_range (n := K)).imp fun {a b} h e => h ?_)
      have := List.append_cancel_left e
      have := List.cons.inj this
      omega
    · refine (stds_nodup K n).imp fun {a b} h x hx y hy e => h ?_
      obtain ⟨i, _, rfl⟩ := List.mem_map.mp hx
      obtain ⟨j, _, rfl⟩ := List.mem_map.mp hy
      exact List.append_inj_left' e rfl
def bnd (R : Rules) (w : Way) (s : List Int) : Bool := decide (w.lim (moversF R s).length ≤ 1000) && decide ((lotsF w (moversF R s)).length < 64)
def chkB (R : Rules) (w : Way) (s : List Int) : Bool := match rightO R 1000 [] s with
  | some true => true
  | some false => bnd R w s
  | none => false
def chkT (R : Rules) (w : Way) (rank : List Int → Nat) (s : List Int) : Bool := match rightO R 1000 [] s with
  | some true => true
  | some false => bnd R w s && (!(stepsF R w s).isEmpty && (stepsF R w s).all fun t => decide (rank t < rank s))
  | none => false
def rgt (R : Rules) (s : List Int) : Bool := match rightO R 1000 [] s with
  | some true => true
  | _ => false
def stp (R : Rules) (w : Way) (s : List Int) : List (List Int) := if rgt R s = true then [] else stepsF R w s
theorem insC_len (x : List Int) : ∀ ys : List (List Int), (insC x ys).length ≤ ys.length + 1
  | [] => Nat.le_refl _
  | y :: ys => by
    unfold insC
    split
    · exact Nat.le_refl _
    · split
      · exact Nat.le_succ _
      · have := insC_len x ys
        rw [List.length_cons, List.length_cons]
        omega
theorem sortC_len : ∀ xs : List (List Int), (sortC xs).length ≤ xs.length
  | [] => Nat.le_refl _
  | x :: xs => by
    have h1 := insC_len x (sortC xs)
    have h2 := sortC_len xs
    show (insC x (sortC xs)).length ≤ _
    rw [List.length_cons]
    omega
theorem vs_of {K n : Nat} {s : List Int} (h1 : 1 ≤ n) (hn : n ≤ 60) (h : s ∈ stds K n) : VS K s := by
  obtain ⟨a, b⟩ := mem_stds.mp h
  exact ⟨b, by omega, by omega⟩
theorem wh_of {R : Rules} {K n : Nat} {w : Way} (vR : VR R K) (h1 : 1 ≤ n) (hn : n ≤ 60) (hK : ∀ j, j ≤ n → K ^ j ≤ 900) (h : ∀ s ∈ stds K n, chkB R w s = true) : WH (encR R) n w.d (stds K n) (rgt R) (stp R w) where
  st := standings_ok vR (fun j hj => Nat.le_trans (hK j hj) (by decide)) hn
  rt := fun s hs => by
    have hc := h s hs
    unfold chkB at hc
    unfold rgt
    cases q : rightO R 1000 [] s with
    | none => rw [q] at hc; cases hc
    | some b =>
      rw [right_ok vR (vs_of h1 hn hs) q]
      cases b <;> rfl
  sp := fun s hs hr => by
    have hc := h s hs
    unfold chkB at hc
    have hr' := hr
    unfold rgt at hr
    unfold stp
    rw [hr', if_neg (by simp)]
    cases q : rightO R 1000 [] s with
    | none => rw [q] at hc; cases hc
    | some b =>
      rw [q] at hc hr
      cases b with
      | true => cases hr
      | false =>
        have hc := Bool.and_eq_true_iff.mp hc
        exact steps_ok vR (vs_of h1 hn hs) (of_decide_eq_true hc.1) (of_decide_eq_true hc.2)
  len := by rw [stds_len]; exact hK n (Nat.le_refl _)
  sl := fun s hs => by
    have hc := h s hs
    unfold chkB at hc
    unfold stp
    split
    · exact Nat.zero_le _
    · rename_i hr
      unfold rgt at hr
      cases q : rightO R 1000 [] s with
      | none => rw [q] at hc; cases hc
      | some b =>
        rw [q] at hc hr
        cases b with
        | true => exact absurd rfl hr
        | false =>
          have hc := Bool.and_eq_true_iff.mp hc
          have h2 : (lotsF w (moversF R s)).length < 64 := of_decide_eq_true hc.2
          have := sortC_len ((lotsF w (moversF R s)).map (moved R s))
          rw [List.length_map] at this
          unfold stepsF
          omega
theorem mends_run {R : Rules} {K n : Nat} {w : Way} {fnd : List (List Key × V)} (vR : VR R K) (hneed : x_need_both [encR R, .int n, w.d] = some (.ok .non)) (hpow : x_power [.int K, .int n] = some (.ok (.int (K ^ n : Nat)))) (hw : x_worths_of [encR R, .int n, w.d] = some (.ok (.dT fnd))) :
    x_mends [encR R, .int n, w.d] = some (.ok (.bl ((fnd.length : Int) == ((K ^ n : Nat) : Int)))) := by
  refine fn_ok rfl rfl (ρ := [.fz (encR R), .fz (.int n), .fz w.d]) ?_
  have e1 : exprSX (callX x_need_both (consX (varX 0) (consX (varX 1) (consX (varX 2) nilX)))) [.fz (encR R), .fz (.int n), .fz w.d] = some (.nx [.fz (encR R), .fz (.int n), .fz w.d]) :=
    expr_ok ((call_ok (ds := [encR R, .int n, w.d]) (cons_ok rfl (cons_ok rfl (cons_ok rfl rfl)))).trans hneed)
  have e2 : op1X lenD (callX x_worths_of (consX (varX 0) (consX (varX 1) (consX (varX 2) nilX)))) [.fz (encR R), .fz (.int n), .fz w.d] = some (.ok (.int fnd.length)) :=
    op1_ok ((call_ok (ds := [encR R, .int n, w.d]) (cons_ok rfl (cons_ok rfl (cons_ok rfl rfl)))).trans hw) rfl
  have e3 : op1X lenD (op2X idxD (varX 0) (conX (.int 0))) [.fz (encR R), .fz (.int n), .fz w.d] = some (.ok (.int (K : Nat))) := by
    refine op1_ok (x := encP R.1) (op2_ok (x := encR R) (y := .int 0) rfl rfl rfl) ?_
    show some (D.int ((R.1.map encL).length : Nat)) = _
    rw [List.length_map, vR.l1]
  have e4 : callX x_power (consX (op1X lenD (op2X idxD (varX 0) (conX (.int 0)))) (consX (varX 1) nilX)) [.fz (encR R), .fz (.int n), .fz w.d] = some (.ok (.int (K ^ n : Nat))) :=
    (call_ok (ds := [.int K, .int n]) (cons_ok e3 (cons_ok rfl rfl))).trans hpow
  unfold xb_mends
  rw [seq_nx e1]
  exact ret_ok (op2_ok e2 e4 (eq_int _ _))
theorem keyI_nodup {ls : List (List Int)} (h : ls.Nodup) : (ls.map keyI').Nodup := List.pairwise_map.mpr (h.imp fun {a b} n e => n (keyI_inj e))
theorem mends_true {R : Rules} {K n : Nat} {w : Way} (rank : List Int → Nat) (vR : VR R K) (h1 : 1 ≤ n) (hn : n ≤ 60) (hK : ∀ j, j ≤ n → K ^ j ≤ 900) (hneed : x_need_both [encR R, .int n, w.d] = some (.ok .non)) (hpow : x_power [.int K, .int n] = some (.ok (.int (K ^ n : Nat))))
    (h : ∀ s ∈ stds K n, chkT R w rank s = true) : x_mends [encR R, .int n, w.d] = some (.ok (.bl true)) := by
  have hB : ∀ s ∈ stds K n, chkB R w s = true := fun s hs => by
    have := h s hs
    unfold chkT at this
    unfold chkB
    cases q : rightO R 1000 [] s with
    | none => rw [q] at this; cases this
    | some b =>
      rw [q] at this
      cases b with
      | true => rfl
      | false => exact (Bool.and_eq_true_iff.mp this).1
  obtain ⟨fnd, hw, g, hc⟩ := worths_ok (wh_of vR h1 hn hK hB)
  have all : ∀ (m : Nat) (s : List Int), s ∈ stds K n → rank s < m → has fnd s = true := by
    intro m
    induction m with
    | zero => intro s _ hr; exact absurd hr (Nat.not_lt_zero _)
    | succ m ih =>
      intro s hs hr
      rcases hc s hs with q | ⟨q1, q2⟩
      · exact q
      · exfalso
        have ht := h s hs
        unfold chkT at ht
        have q1' := q1
        unfold rgt at q1
        cases q : rightO R 1000 [] s with
        | none => rw [q] at ht; cases ht
        | some b =>
          rw [q] at ht q1
          cases b with
          | true => cases q1
          | false =>
            have ht := Bool.and_eq_true_iff.mp ht
            have hb := Bool.and_eq_true_iff.mp ht.1
            have ht2 := Bool.and_eq_true_iff.mp ht.2
            have e : stp R w s = stepsF R w s := by unfold stp; rw [q1', if_neg (by simp)]
            have hcond : cond (stp R w) fnd s = true := by
              unfold cond
              rw [e, ht2.1, Bool.true_and]
              refine List.all_eq_true.mpr fun t ht' => ?_
              have hrt : rank t < rank s := of_decide_eq_true (List.all_eq_true.mp ht2.2 t ht')
              obtain ⟨l, hl, rfl⟩ := mem_stepsF ht'
              have v := moved_vs vR (vs_of h1 hn hs) fun x hx => (mem_moversF (mem_lots hl x hx)).2
              exact ih _ (mem_stds.mpr ⟨by rw [moved_len]; exact (mem_stds.mp hs).1, v.en⟩) (by omega)
            rw [hcond] at q2
            cases q2
  have hlen : fnd.length = K ^ n := by
    refine Nat.le_antisymm ?_ ?_
    · have := nodup_le keyI' (xs := stds K n) g.nd fun y hy => by
        obtain ⟨p, hp, e⟩ := List.mem_map.mp hy
        obtain ⟨s, hs, e2, _⟩ := g.mem p hp
        exact ⟨s, hs, by rw [← e2, e]⟩
      rw [List.length_map, stds_len] at this
      exact this
    · have := nodup_sub (ys := (stds K n).map keyI') (zs := fnd.map (·.1)) (keyI_nodup (stds_nodup K n)) fun y hy => by
        obtain ⟨s, hs, rfl⟩ := List.mem_map.mp hy
        exact has_iff.mp (all (rank s + 1) s hs (Nat.lt_succ_self _))
      rw [List.length_map, List.length_map, stds_len] at this
      exact this
  rw [mends_run vR hneed hpow hw, hlen]
  simp
theorem mends_false {R : Rules} {K n : Nat} {w : Way} (Z : List (List Int)) (vR : VR R K) (h1 : 1 ≤ n) (hn : n ≤ 60) (hK : ∀ j, j ≤ n → K ^ j ≤ 900) (hneed : x_need_both [encR R, .int n, w.d] = some (.ok .non)) (hpow : x_power [.int K, .int n] = some (.ok (.int (K ^ n : Nat))))
    (hB : ∀ s ∈ stds K n, chkB R w s = true) (hne : Z ≠ []) (hZ : ∀ s ∈ Z, s.length = n ∧ (∀ x ∈ s, 0 ≤ x ∧ x < K) ∧ rgt R s = false ∧ (stepsF R w s = [] ∨ ∃ t ∈ stepsF R w s, t ∈ Z)) : x_mends [encR R, .int n, w.d] = some (.ok (.bl false)) := by
  obtain ⟨fnd, hw, g, hc⟩ := worths_ok (wh_of vR h1 hn hK hB)
  have no : ∀ s, Ends (rgt R) (stp R w) s → s ∉ Z := by
    intro s he
    induction he with
    | right hr => intro hz; rw [(hZ _ hz).2.2.1] at hr; cases hr
    | @step s' hs _ ih =>
      intro hz
      obtain ⟨_, _, hr, h2⟩ := hZ _ hz
      have e : stp R w s' = stepsF R w s' := by unfold stp; rw [hr, if_neg (by simp)]
      rcases h2 with h2 | ⟨t, ht, htz⟩
      · exact hs (by rw [e, h2])
      · exact ih t (by rw [e]; exact ht) htz
  obtain ⟨z, hz⟩ := List.exists_mem_of_ne_nil Z hne
  have hzs : z ∈ stds K n := mem_stds.mpr ⟨(hZ z hz).1, (hZ z hz).2.1⟩
  have hlt : fnd.length < K ^ n := by
    have := nodup_le keyI' (xs := (stds K n).erase z) g.nd fun y hy => by
      obtain ⟨p, hp, e⟩ := List.mem_map.mp hy
      obtain ⟨s, hs, e2, he, _⟩ := g.mem p hp
      refine ⟨s, (List.mem_erase_of_ne fun q => ?_).mpr hs, by rw [← e2, e]⟩
      exact no s he (by rw [q]; exact hz)
    rw [List.length_map, List.length_erase_of_mem hzs, stds_len] at this
    have hp := List.length_pos_of_mem hzs
    rw [stds_len] at hp
    omega
  rw [mends_run vR hneed hpow hw]
  have : ((fnd.length : Int) == ((K ^ n : Nat) : Int)) = false := by
    rw [beq_eq_false_iff_ne]
    intro e
    have : fnd.length = K ^ n := Int.ofNat.inj e
    omega
  rw [this]
end HK

set_option Elab.async false
set_option linter.all false
set_option maxRecDepth 100000
set_option maxHeartbeats 4000000
/-! part PLg -/
namespace HK
open PySem PySem.Spec L2 DL DM
theorem orX_ok {a b : XE D} {ρ : En} {x y : Bool} (h : a ρ = some (.ok (.bl x))) (h2 : x = false → b ρ = some (.ok (.bl y))) : orX a b ρ = some (.ok (.bl (x || y))) := by
  unfold orX
  rw [bind_ok h]
  cases x with
  | true => rfl
  | false => exact h2 rfl
theorem andX_ok {a b : XE D} {ρ : En} {x y : Bool} (h : a ρ = some (.ok (.bl x))) (h2 : x = true → b ρ = some (.ok (.bl y))) : andX a b ρ = some (.ok (.bl (x && y))) := by
  unfold andX
  rw [bind_ok h]
  cases x with
  | false => rfl
  | true => exact h2 rfl
theorem orB_ok {a b : XE Bool} {ρ : En} {x y : Bool} (h : a ρ = some (.ok x)) (h2 : x = false → b ρ = some (.ok y)) : orBX a b ρ = some (.ok (x || y)) := by
  unfold orBX condX
  rw [bind_ok h]
  cases x with
  | true => rfl
  | false => exact h2 rfl
theorem notB_ok {a : XE Bool} {ρ : En} {x : Bool} (h : a ρ = some (.ok x)) : notBX a ρ = some (.ok !x) := by
  unfold notBX
  rw [bind_ok h]
  rfl
theorem ne_bl (a b : Bool) : neD (.bl a) (.bl b) = some (.bl (!(a == b))) := by
  unfold neD
  rw [eqOk_fits (n := 0) rfl rfl (by decide)]
  rfl
theorem ge_int (i j : Int) : intB (fun i j => decide (j ≤ i)) (.int i) (.int j) = some (.bl (decide (j ≤ i))) := rfl
theorem next_ok {t : XE Bool} {f : XS} {ρ : En} (h : t ρ = some (.ok false)) : ifSX t f nextX ρ = some (.nx ρ) := by
  rw [if_ok h]
  rfl
theorem right_of {K n : Int} {R : D} {b1 : Bool} (hd : x_dijkstra [.int K] = some (.ok R)) (m1 : x_mends [R, .int n, .str "one"] = some (.ok (.bl b1))) (hb : b1 = (decide (n - 1 ≤ K) || (K == 1)))
    (m2 : (decide (n ≤ K) || (K == 1)) = true → x_mends [R, .int n, .str "all"] = some (.ok (.bl true))) (m3 : decide (n ≤ K) = true → x_mends [R, .int n, .str "some"] = some (.ok (.bl true)))
    (hc : x_can_be_dead [R, .int n] = some (.ok (.bl false))) (hf : x_fewest_movers [R, .int n] = some (.ok (.int 1))) : x__law_right [.int K, .int n] = some (.ok (.bl true)) := by
  refine fn_ok rfl rfl (ρ := [.fz (.int K), .fz (.int n), .un]) ?_
  have e1 : setSX 2 (fzX (callX x_dijkstra (consX (varX 0) nilX))) [.fz (.int K), .fz (.int n), .un] = some (.nx [.fz (.int K), .fz (.int n), .fz R]) :=
    set_ok (sl := .fz R) (fz_ok ((call_ok (ds := [.int K]) (cons_ok rfl rfl)).trans hd))
  have vm : ∀ (w : Str) (b : Bool), x_mends [R, .int n, .str w] = some (.ok (.bl b)) → callX x_mends (consX (varX 2) (consX (varX 1) (consX (conX (.str w)) nilX))) [.fz (.int K), .fz (.int n), .fz R] = some (.ok (.bl b)) := fun w b h =>
    (call_ok (ds := [R, .int n, .str w]) (cons_ok rfl (cons_ok rfl (cons_ok rfl rfl)))).trans h
  have vK : varX 0 [.fz (.int K), .fz (.int n), .fz R] = some (.ok (.int K)) := rfl
  have vn : varX 1 [.fz (.int K), .fz (.int n), .fz R] = some (.ok (.int n)) := rfl
  have ge : op2X (intB fun i j => decide (j ≤ i)) (varX 0) (varX 1) [.fz (.int K), .fz (.int n), .fz R] = some (.ok (.bl (decide (n ≤ K)))) := op2_ok vK vn (ge_int _ _)
  have q1 : op2X eqD (varX 0) (conX (.int 1)) [.fz (.int K), .fz (.int n), .fz R] = some (.ok (.bl (K == 1))) := op2_ok vK rfl (eq_int _ _)
  have sub : op2X subD (varX 1) (conX (.int 1)) [.fz (.int K), .fz (.int n), .fz R] = some (.ok (.int (n - 1))) := op2_ok vn rfl rfl
  have t1 : tstX (op2X neD (callX x_mends (consX (varX 2) (consX (varX 1) (consX (conX (.str "one")) nilX)))) (orX (op2X (intB fun i j => decide (j ≤ i)) (varX 0) (op2X subD (varX 1) (conX (.int 1)))) (op2X eqD (varX 0) (conX (.int 1))))) [.fz (.int K), .fz (.int n), .fz R] = some (.ok false) := by
    have h1 := op2_ok (g := neD) (vm "one" b1 m1) (orX_ok (op2_ok vK sub (ge_int _ _)) fun _ => q1) (ne_bl _ _)
    have h2 := tst_ok h1
    rw [hb] at h2
    rw [show (!((decide (n - 1 ≤ K) || (K == 1)) == (decide (n - 1 ≤ K) || (K == 1)))) = false by simp] at h2
    exact h2
  have t2 : andBX (orBX (tstX (op2X (intB fun i j => decide (j ≤ i)) (varX 0) (varX 1))) (tstX (op2X eqD (varX 0) (conX (.int 1))))) (notBX (tstX (callX x_mends (consX (varX 2) (consX (varX 1) (consX (conX (.str "all")) nilX)))))) [.fz (.int K), .fz (.int n), .fz R] = some (.ok false) := by
    have h1 := andB_ok (y := false) (orB_ok (tst_ok ge) fun _ => tst_ok q1) fun h => notB_ok (tst_ok (vm "all" true (m2 h)))
    rw [Bool.and_false] at h1
    exact h1
  have t3 : andBX (tstX (op2X (intB fun i j => decide (j ≤ i)) (varX 0) (varX 1))) (notBX (tstX (callX x_mends (consX (varX 2) (consX (varX 1) (consX (conX (.str "some")) nilX)))))) [.fz (.int K), .fz (.int n), .fz R] = some (.ok false) := by
    have h1 := andB_ok (y := false) (tst_ok ge) fun h => notB_ok (tst_ok (vm "some" true (m3 h)))
    rw [Bool.and_false] at h1
    exact h1
  have vc : callX x_can_be_dead (consX (varX 2) (consX (varX 1) nilX)) [.fz (.int K), .fz (.int n), .fz R] = some (.ok (.bl false)) := (call_ok (ds := [R, .int n]) (cons_ok rfl (cons_ok rfl rfl))).trans hc
  have vf : callX x_fewest_movers (consX (varX 2) (consX (varX 1) nilX)) [.fz (.int K), .fz (.int n), .fz R] = some (.ok (.int 1)) := (call_ok (ds := [R, .int n]) (cons_ok rfl (cons_ok rfl rfl))).trans hf
  have last := andX_ok (op2_ok (g := isB) vc (show conX (.bl false) [.fz (.int K), .fz (.int n), .fz R] = some (.ok (.bl false)) from rfl) (show isB (.bl false) (.bl false) = some (.bl true) from rfl)) fun _ => op2_ok (g := eqD) vf (show conX (.int 1) [.fz (.int K), .fz (.int n), .fz R] = some (.ok (.int 1)) from rfl) (eq_int 1 1)
  unfold xb__law_right
  rw [seq_nx e1, seq_nx (next_ok t1), seq_nx (next_ok t2), seq_nx (next_ok t3)]
  exact ret_ok last
end HK

set_option Elab.async false
set_option linter.all false
set_option maxRecDepth 100000
set_option maxHeartbeats 4000000
/-! part PLn -/
namespace HK
open PySem PySem.Spec L2 DL DM
def isIn (d : D) (lo hi : Int) : Bool := match d with
  | .int i => decide (lo ≤ i) && decide (i ≤ hi)
  | _ => false
mutual
def plainD : D → Bool
  | .non => true | .bl _ => true | .int _ => true | .str _ => true
  | .tup ds => decide (ds.length ≤ 2000) && plainDs ds
  | .lst ds => decide (ds.length ≤ 2000) && plainDs ds
  | _ => false
def plainDs : List D → Bool
  | [] => true
  | d :: ds => plainD d && plainDs ds
end
theorem plainDs_iff {ds : List D} : plainDs ds = true ↔ ∀ d ∈ ds, plainD d = true := by
  induction ds with
  | nil => simp [plainDs]
  | cons d ds ih => simp [plainDs, ih]
theorem plain_tup {ds : List D} (h : plainD (.tup ds) = true) : ds.length ≤ 2000 ∧ ∀ d ∈ ds, plainD d = true := by
  unfold plainD at h
  simp only [Bool.and_eq_true, decide_eq_true_eq, plainDs_iff] at h
  exact h
theorem within_ok {d : D} {lo hi : Int} (h : plainD d = true) : x_is_within [d, .int lo, .int hi] = some (.ok (.bl (isIn d lo hi))) := by
  cases d with
  | int i =>
    unfold x_is_within xb_is_within
    simp only [e_bindX, e_okX, e_varX, e_conX, e_newX, e_op1X, e_op2X, e_andX, e_orX, e_tstX, e_condX, e_andBX, e_orBX, e_notBX, e_ifX, e_chainX, e_nilX, e_consX, e_tupX, e_lstX, e_pkX, e_varPX, e_opPX, e_getX, e_getDX, e_ixPX, e_nonePX, e_somePX, e_slTX, e_slLX, e_pnX, e_fzX, e_owX, e_seqX, e_rg1X, e_rg2X, e_enumX, e_zipX, e_itemsTX, e_d1TX, e_dictTX, e_sortedSetX, e_zipStarX, e_yesX, e_lcX, e_callX, e_nextX, e_breakX, e_retNX, e_neverX, e_seqSX, e_thenX, e_retSX, e_exprSX, e_ifSX, e_setSX, e_asgSX, e_appSX, e_putSX, e_freezeSX, e_parSX, e_par3SX, e_forSX, e_forNil, e_ite, e_iteS, e_onBt, e_blO, e_itemsT, e_itemsL, e_add, e_sub, e_intB, e_lenT, e_lenL, e_leI, e_fnX, e_isi_int_non, e_isi_int_bl, e_isi_int_int, e_isi_int_str, e_isi_int_tup, e_isi_int_lst, e_isi_bool_non, e_isi_bool_bl, e_isi_bool_int, e_isi_bool_str, e_isi_bool_tup, e_isi_bool_lst, e_isi_str_non, e_isi_str_bl, e_isi_str_int, e_isi_str_str, e_isi_str_tup, e_isi_str_lst, e_isi_tuple_non, e_isi_tuple_bl, e_isi_tuple_int, e_isi_tuple_str, e_isi_tuple_tup, e_isi_tuple_lst, e_isi_list_non, e_isi_list_bl, e_isi_list_int, e_isi_list_str, e_isi_list_tup, e_isi_list_lst, e_isN_non, e_isN_bl, e_isN_int, e_isN_str, e_isN_tup, e_isN_lst, e_not, startEn, slCo, toCo, lstO, intO, freezeEn, lenOk_small, wipeEn, tgN, List.getElem?_cons_zero, List.getElem?_cons_succ, List.set_cons_zero, List.set_cons_succ, List.map_cons, List.map_nil, List.replicate_succ, List.replicate_zero, List.length_cons, List.length_nil, List.cons_append, List.nil_append, Option.map_some, Option.map_none, Option.bind_some, Option.bind_none, Bool.false_eq_true, reduceCtorEq, Nat.reduceAdd, Nat.reduceSub, Nat.reduceEqDiff, reduceIte, decide_true, decide_false, Bool.not_true, Bool.not_false, Bool.and_true, Bool.true_and, Bool.and_false, Bool.false_and, Bool.or_true, Bool.true_or, Bool.or_false, Bool.false_or]
    by_cases h1 : lo ≤ i <;> simp only [h1, isIn, e_bindX, e_okX, e_varX, e_conX, e_newX, e_op1X, e_op2X, e_andX, e_orX, e_tstX, e_condX, e_andBX, e_orBX, e_notBX, e_ifX, e_chainX, e_nilX, e_consX, e_tupX, e_lstX, e_pkX, e_varPX, e_opPX, e_getX, e_getDX, e_ixPX, e_nonePX, e_somePX, e_slTX, e_slLX, e_pnX, e_fzX, e_owX, e_seqX, e_rg1X, e_rg2X, e_enumX, e_zipX, e_itemsTX, e_d1TX, e_dictTX, e_sortedSetX, e_zipStarX, e_yesX, e_lcX, e_callX, e_nextX, e_breakX, e_retNX, e_neverX, e_seqSX, e_thenX, e_retSX, e_exprSX, e_ifSX, e_setSX, e_asgSX, e_appSX, e_putSX, e_freezeSX, e_parSX, e_par3SX, e_forSX, e_forNil, e_ite, e_iteS, e_onBt, e_blO, e_itemsT, e_itemsL, e_add, e_sub, e_intB, e_lenT, e_lenL, e_leI, e_fnX, e_isi_int_non, e_isi_int_bl, e_isi_int_int, e_isi_int_str, e_isi_int_tup, e_isi_int_lst, e_isi_bool_non, e_isi_bool_bl, e_isi_bool_int, e_isi_bool_str, e_isi_bool_tup, e_isi_bool_lst, e_isi_str_non, e_isi_str_bl, e_isi_str_int, e_isi_str_str, e_isi_str_tup, e_isi_str_lst, e_isi_tuple_non, e_isi_tuple_bl, e_isi_tuple_int, e_isi_tuple_str, e_isi_tuple_tup, e_isi_tuple_lst, e_isi_list_non, e_isi_list_bl, e_isi_list_int, e_isi_list_str, e_isi_list_tup, e_isi_list_lst, e_isN_non, e_isN_bl, e_isN_int, e_isN_str, e_isN_tup, e_isN_lst, e_not, startEn, slCo, toCo, lstO, intO, freezeEn, lenOk_small, wipeEn, tgN, List.getElem?_cons_zero, List.getElem?_cons_succ, List.set_cons_zero, List.set_cons_succ, List.map_cons, List.map_nil, List.replicate_succ, List.replicate_zero, List.length_cons, List.length_nil, List.cons_append, List.nil_append, Option.map_some, Option.map_none, Option.bind_some, Option.bind_none, Bool.false_eq_true, reduceCtorEq, Nat.reduceAdd, Nat.reduceSub, Nat.reduceEqDiff, reduceIte, decide_true, decide_false, Bool.not_true, Bool.not_false, Bool.and_true, Bool.true_and, Bool.and_false, Bool.false_and, Bool.or_true, Bool.true_or, Bool.or_false, Bool.false_or]
  | bl b => rfl
  | non => rfl
  | str x => rfl
  | tup ds => rfl
  | lst ds => rfl
  | _ => simp [plainD] at h
def lineB (d : D) (K : Nat) : Bool := match d with
  | .tup ds => (ds.length == K) && ds.all fun e => isN e || isIn e 0 ((K : Int) - 1)
  | _ => false
def partB (d : D) (K : Nat) : Bool := match d with
  | .tup ds => (ds.length == K) && ds.all fun e => lineB e K
  | _ => false
def rulesB (d : D) : Bool := match d with
  | .tup [.tup ls, b] => decide (1 ≤ ls.length) && decide (ls.length ≤ 6) && partB (.tup ls) ls.length && partB b ls.length
  | _ => false
theorem all_map (f : D → Bool) (ds : List D) : allD (.lst (ds.map fun d => .bl (f d))) = some (.bl (ds.all f)) := by
  have h : blsOf (ds.map fun d => .bl (f d)) = some (ds.map f) := by
    have := blsOf_map (ds.map f)
    rw [List.map_map] at this
    exact this
  show (blsOf _).map _ = _
  rw [h]
  simp
theorem natInt_beq (a b : Nat) : (((a : Nat) : Int) == ((b : Nat) : Int)) = (a == b) := by
  by_cases h : a = b
  · subst h; simp
  · have : ¬ (a : Int) = b := by omega
    rw [beq_eq_false_iff_ne.mpr h, beq_eq_false_iff_ne.mpr this]
theorem size_2000 {n : Nat} (h : n ≤ 2000) : n ≤ sizeLine := by rw [sizeLine_eq]; omega
theorem line_ok {d : D} {K : Nat} (h : plainD d = true) : x_is_line [d, .int K] = some (.ok (.bl (lineB d K))) := by
  cases d with
  | tup ds =>
    obtain ⟨h1, h2⟩ := plain_tup h
    have hl : lcWX (tgN 2) yesX (orX (op1X (fun d => some (.bl (isN d))) (varX 2)) (callX x_is_within (consX (varX 2) (consX (conX (.int 0)) (consX (op2X subD (varX 1) (conX (.int 1))) nilX))))) [.fz (.tup ds), .fz (.int K), .un] ds [] = some (.lst ([] ++ ds.map fun d => .bl (isN d || isIn d 0 ((K : Int) - 1)))) :=
      lc_map _ ds [] (fun d hd => by
        simp only [e_bindX, e_okX, e_varX, e_conX, e_newX, e_op1X, e_op2X, e_andX, e_orX, e_tstX, e_condX, e_andBX, e_orBX, e_notBX, e_ifX, e_chainX, e_nilX, e_consX, e_tupX, e_lstX, e_pkX, e_varPX, e_opPX, e_getX, e_getDX, e_ixPX, e_nonePX, e_somePX, e_slTX, e_slLX, e_pnX, e_fzX, e_owX, e_seqX, e_rg1X, e_rg2X, e_enumX, e_zipX, e_itemsTX, e_d1TX, e_dictTX, e_sortedSetX, e_zipStarX, e_yesX, e_lcX, e_callX, e_nextX, e_breakX, e_retNX, e_neverX, e_seqSX, e_thenX, e_retSX, e_exprSX, e_ifSX, e_setSX, e_asgSX, e_appSX, e_putSX, e_freezeSX, e_parSX, e_par3SX, e_forSX, e_forNil, e_ite, e_iteS, e_onBt, e_blO, e_itemsT, e_itemsL, e_add, e_sub, e_intB, e_lenT, e_lenL, e_leI, e_fnX, e_isi_int_non, e_isi_int_bl, e_isi_int_int, e_isi_int_str, e_isi_int_tup, e_isi_int_lst, e_isi_bool_non, e_isi_bool_bl, e_isi_bool_int, e_isi_bool_str, e_isi_bool_tup, e_isi_bool_lst, e_isi_str_non, e_isi_str_bl, e_isi_str_int, e_isi_str_str, e_isi_str_tup, e_isi_str_lst, e_isi_tuple_non, e_isi_tuple_bl, e_isi_tuple_int, e_isi_tuple_str, e_isi_tuple_tup, e_isi_tuple_lst, e_isi_list_non, e_isi_list_bl, e_isi_list_int, e_isi_list_str, e_isi_list_tup, e_isi_list_lst, e_isN_non, e_isN_bl, e_isN_int, e_isN_str, e_isN_tup, e_isN_lst, e_not, startEn, slCo, toCo, lstO, intO, freezeEn, lenOk_small, wipeEn, tgN, List.getElem?_cons_zero, List.getElem?_cons_succ, List.set_cons_zero, List.set_cons_succ, List.map_cons, List.map_nil, List.replicate_succ, List.replicate_zero, List.length_cons, List.length_nil, List.cons_append, List.nil_append, Option.map_some, Option.map_none, Option.bind_some, Option.bind_none, Bool.false_eq_true, reduceCtorEq, Nat.reduceAdd, Nat.reduceSub, Nat.reduceEqDiff, reduceIte, decide_true, decide_false, Bool.not_true, Bool.not_false, Bool.and_true, Bool.true_and, Bool.and_false, Bool.false_and, Bool.or_true, Bool.true_or, Bool.or_false, Bool.false_or]
        cases hn : isN d with
        | true => simp only [hn, e_bindX, e_okX, e_varX, e_conX, e_newX, e_op1X, e_op2X, e_andX, e_orX, e_tstX, e_condX, e_andBX, e_orBX, e_notBX, e_ifX, e_chainX, e_nilX, e_consX, e_tupX, e_lstX, e_pkX, e_varPX, e_opPX, e_getX, e_getDX, e_ixPX, e_nonePX, e_somePX, e_slTX, e_slLX, e_pnX, e_fzX, e_owX, e_seqX, e_rg1X, e_rg2X, e_enumX, e_zipX, e_itemsTX, e_d1TX, e_dictTX, e_sortedSetX, e_zipStarX, e_yesX, e_lcX, e_callX, e_nextX, e_breakX, e_retNX, e_neverX, e_seqSX, e_thenX, e_retSX, e_exprSX, e_ifSX, e_setSX, e_asgSX, e_appSX, e_putSX, e_freezeSX, e_parSX, e_par3SX, e_forSX, e_forNil, e_ite, e_iteS, e_onBt, e_blO, e_itemsT, e_itemsL, e_add, e_sub, e_intB, e_lenT, e_lenL, e_leI, e_fnX, e_isi_int_non, e_isi_int_bl, e_isi_int_int, e_isi_int_str, e_isi_int_tup, e_isi_int_lst, e_isi_bool_non, e_isi_bool_bl, e_isi_bool_int, e_isi_bool_str, e_isi_bool_tup, e_isi_bool_lst, e_isi_str_non, e_isi_str_bl, e_isi_str_int, e_isi_str_str, e_isi_str_tup, e_isi_str_lst, e_isi_tuple_non, e_isi_tuple_bl, e_isi_tuple_int, e_isi_tuple_str, e_isi_tuple_tup, e_isi_tuple_lst, e_isi_list_non, e_isi_list_bl, e_isi_list_int, e_isi_list_str, e_isi_list_tup, e_isi_list_lst, e_isN_non, e_isN_bl, e_isN_int, e_isN_str, e_isN_tup, e_isN_lst, e_not, startEn, slCo, toCo, lstO, intO, freezeEn, lenOk_small, wipeEn, tgN, List.getElem?_cons_zero, List.getElem?_cons_succ, List.set_cons_zero, List.set_cons_succ, List.map_cons, List.map_nil, List.replicate_succ, List.replicate_zero, List.length_cons, List.length_nil, List.cons_append, List.nil_append, Option.map_some, Option.map_none, Option.bind_some, Option.bind_none, Bool.false_eq_true, reduceCtorEq, Nat.reduceAdd, Nat.reduceSub, Nat.reduceEqDiff, reduceIte, decide_true, decide_false, Bool.not_true, Bool.not_false, Bool.and_true, Bool.true_and, Bool.and_false, Bool.false_and, Bool.or_true, Bool.true_or, Bool.or_false, Bool.false_or]
        | false => simp only [hn, e_bindX, e_okX, e_varX, e_conX, e_newX, e_op1X, e_op2X, e_andX, e_orX, e_tstX, e_condX, e_andBX, e_orBX, e_notBX, e_ifX, e_chainX, e_nilX, e_consX, e_tupX, e_lstX, e_pkX, e_varPX, e_opPX, e_getX, e_getDX, e_ixPX, e_nonePX, e_somePX, e_slTX, e_slLX, e_pnX, e_fzX, e_owX, e_seqX, e_rg1X, e_rg2X, e_enumX, e_zipX, e_itemsTX, e_d1TX, e_dictTX, e_sortedSetX, e_zipStarX, e_yesX, e_lcX, e_callX, e_nextX, e_breakX, e_retNX, e_neverX, e_seqSX, e_thenX, e_retSX, e_exprSX, e_ifSX, e_setSX, e_asgSX, e_appSX, e_putSX, e_freezeSX, e_parSX, e_par3SX, e_forSX, e_forNil, e_ite, e_iteS, e_onBt, e_blO, e_itemsT, e_itemsL, e_add, e_sub, e_intB, e_lenT, e_lenL, e_leI, e_fnX, e_isi_int_non, e_isi_int_bl, e_isi_int_int, e_isi_int_str, e_isi_int_tup, e_isi_int_lst, e_isi_bool_non, e_isi_bool_bl, e_isi_bool_int, e_isi_bool_str, e_isi_bool_tup, e_isi_bool_lst, e_isi_str_non, e_isi_str_bl, e_isi_str_int, e_isi_str_str, e_isi_str_tup, e_isi_str_lst, e_isi_tuple_non, e_isi_tuple_bl, e_isi_tuple_int, e_isi_tuple_str, e_isi_tuple_tup, e_isi_tuple_lst, e_isi_list_non, e_isi_list_bl, e_isi_list_int, e_isi_list_str, e_isi_list_tup, e_isi_list_lst, e_isN_non, e_isN_bl, e_isN_int, e_isN_str, e_isN_tup, e_isN_lst, e_not, startEn, slCo, toCo, lstO, intO, freezeEn, lenOk_small, wipeEn, tgN, List.getElem?_cons_zero, List.getElem?_cons_succ, List.set_cons_zero, List.set_cons_succ, List.map_cons, List.map_nil, List.replicate_succ, List.replicate_zero, List.length_cons, List.length_nil, List.cons_append, List.nil_append, Option.map_some, Option.map_none, Option.bind_some, Option.bind_none, Bool.false_eq_true, reduceCtorEq, Nat.reduceAdd, Nat.reduceSub, Nat.reduceEqDiff, reduceIte, decide_true, decide_false, Bool.not_true, Bool.not_false, Bool.and_true, Bool.true_and, Bool.and_false, Bool.false_and, Bool.or_true, Bool.true_or, Bool.or_false, Bool.false_or, within_ok (h2 d hd)]) (size_2000 (by simpa using h1))
    unfold x_is_line xb_is_line
    simp only [e_bindX, e_okX, e_varX, e_conX, e_newX, e_op1X, e_op2X, e_andX, e_orX, e_tstX, e_condX, e_andBX, e_orBX, e_notBX, e_ifX, e_chainX, e_nilX, e_consX, e_tupX, e_lstX, e_pkX, e_varPX, e_opPX, e_getX, e_getDX, e_ixPX, e_nonePX, e_somePX, e_slTX, e_slLX, e_pnX, e_fzX, e_owX, e_seqX, e_rg1X, e_rg2X, e_enumX, e_zipX, e_itemsTX, e_d1TX, e_dictTX, e_sortedSetX, e_zipStarX, e_yesX, e_lcX, e_callX, e_nextX, e_breakX, e_retNX, e_neverX, e_seqSX, e_thenX, e_retSX, e_exprSX, e_ifSX, e_setSX, e_asgSX, e_appSX, e_putSX, e_freezeSX, e_parSX, e_par3SX, e_forSX, e_forNil, e_ite, e_iteS, e_onBt, e_blO, e_itemsT, e_itemsL, e_add, e_sub, e_intB, e_lenT, e_lenL, e_leI, e_fnX, e_isi_int_non, e_isi_int_bl, e_isi_int_int, e_isi_int_str, e_isi_int_tup, e_isi_int_lst, e_isi_bool_non, e_isi_bool_bl, e_isi_bool_int, e_isi_bool_str, e_isi_bool_tup, e_isi_bool_lst, e_isi_str_non, e_isi_str_bl, e_isi_str_int, e_isi_str_str, e_isi_str_tup, e_isi_str_lst, e_isi_tuple_non, e_isi_tuple_bl, e_isi_tuple_int, e_isi_tuple_str, e_isi_tuple_tup, e_isi_tuple_lst, e_isi_list_non, e_isi_list_bl, e_isi_list_int, e_isi_list_str, e_isi_list_tup, e_isi_list_lst, e_isN_non, e_isN_bl, e_isN_int, e_isN_str, e_isN_tup, e_isN_lst, e_not, startEn, slCo, toCo, lstO, intO, freezeEn, lenOk_small, wipeEn, tgN, List.getElem?_cons_zero, List.getElem?_cons_succ, List.set_cons_zero, List.set_cons_succ, List.map_cons, List.map_nil, List.replicate_succ, List.replicate_zero, List.length_cons, List.length_nil, List.cons_append, List.nil_append, Option.map_some, Option.map_none, Option.bind_some, Option.bind_none, Bool.false_eq_true, reduceCtorEq, Nat.reduceAdd, Nat.reduceSub, Nat.reduceEqDiff, reduceIte, decide_true, decide_false, Bool.not_true, Bool.not_false, Bool.and_true, Bool.true_and, Bool.and_false, Bool.false_and, Bool.or_true, Bool.true_or, Bool.or_false, Bool.false_or, ne_int, natInt_beq, lineB]
    by_cases hk : ds.length = K
    · simp only [hk, e_bindX, e_okX, e_varX, e_conX, e_newX, e_op1X, e_op2X, e_andX, e_orX, e_tstX, e_condX, e_andBX, e_orBX, e_notBX, e_ifX, e_chainX, e_nilX, e_consX, e_tupX, e_lstX, e_pkX, e_varPX, e_opPX, e_getX, e_getDX, e_ixPX, e_nonePX, e_somePX, e_slTX, e_slLX, e_pnX, e_fzX, e_owX, e_seqX, e_rg1X, e_rg2X, e_enumX, e_zipX, e_itemsTX, e_d1TX, e_dictTX, e_sortedSetX, e_zipStarX, e_yesX, e_lcX, e_callX, e_nextX, e_breakX, e_retNX, e_neverX, e_seqSX, e_thenX, e_retSX, e_exprSX, e_ifSX, e_setSX, e_asgSX, e_appSX, e_putSX, e_freezeSX, e_parSX, e_par3SX, e_forSX, e_forNil, e_ite, e_iteS, e_onBt, e_blO, e_itemsT, e_itemsL, e_add, e_sub, e_intB, e_lenT, e_lenL, e_leI, e_fnX, e_isi_int_non, e_isi_int_bl, e_isi_int_int, e_isi_int_str, e_isi_int_tup, e_isi_int_lst, e_isi_bool_non, e_isi_bool_bl, e_isi_bool_int, e_isi_bool_str, e_isi_bool_tup, e_isi_bool_lst, e_isi_str_non, e_isi_str_bl, e_isi_str_int, e_isi_str_str, e_isi_str_tup, e_isi_str_lst, e_isi_tuple_non, e_isi_tuple_bl, e_isi_tuple_int, e_isi_tuple_str, e_isi_tuple_tup, e_isi_tuple_lst, e_isi_list_non, e_isi_list_bl, e_isi_list_int, e_isi_list_str, e_isi_list_tup, e_isi_list_lst, e_isN_non, e_isN_bl, e_isN_int, e_isN_str, e_isN_tup, e_isN_lst, e_not, startEn, slCo, toCo, lstO, intO, freezeEn, lenOk_small, wipeEn, tgN, List.getElem?_cons_zero, List.getElem?_cons_succ, List.set_cons_zero, List.set_cons_succ, List.map_cons, List.map_nil, List.replicate_succ, List.replicate_zero, List.length_cons, List.length_nil, List.cons_append, List.nil_append, Option.map_some, Option.map_none, Option.bind_some, Option.bind_none, Bool.false_eq_true, reduceCtorEq, Nat.reduceAdd, Nat.reduceSub, Nat.reduceEqDiff, reduceIte, decide_true, decide_false, Bool.not_true, Bool.not_false, Bool.and_true, Bool.true_and, Bool.and_false, Bool.false_and, Bool.or_true, Bool.true_or, Bool.or_false, Bool.false_or, beq_self_eq_true, hl, all_map]
    · simp only [beq_eq_false_iff_ne.mpr hk, e_bindX, e_okX, e_varX, e_conX, e_newX, e_op1X, e_op2X, e_andX, e_orX, e_tstX, e_condX, e_andBX, e_orBX, e_notBX, e_ifX, e_chainX, e_nilX, e_consX, e_tupX, e_lstX, e_pkX, e_varPX, e_opPX, e_getX, e_getDX, e_ixPX, e_nonePX, e_somePX, e_slTX, e_slLX, e_pnX, e_fzX, e_owX, e_seqX, e_rg1X, e_rg2X, e_enumX, e_zipX, e_itemsTX, e_d1TX, e_dictTX, e_sortedSetX, e_zipStarX, e_yesX, e_lcX, e_callX, e_nextX, e_breakX, e_retNX, e_neverX, e_seqSX, e_thenX, e_retSX, e_exprSX, e_ifSX, e_setSX, e_asgSX, e_appSX, e_putSX, e_freezeSX, e_parSX, e_par3SX, e_forSX, e_forNil, e_ite, e_iteS, e_onBt, e_blO, e_itemsT, e_itemsL, e_add, e_sub, e_intB, e_lenT, e_lenL, e_leI, e_fnX, e_isi_int_non, e_isi_int_bl, e_isi_int_int, e_isi_int_str, e_isi_int_tup, e_isi_int_lst, e_isi_bool_non, e_isi_bool_bl, e_isi_bool_int, e_isi_bool_str, e_isi_bool_tup, e_isi_bool_lst, e_isi_str_non, e_isi_str_bl, e_isi_str_int, e_isi_str_str, e_isi_str_tup, e_isi_str_lst, e_isi_tuple_non, e_isi_tuple_bl, e_isi_tuple_int, e_isi_tuple_str, e_isi_tuple_tup, e_isi_tuple_lst, e_isi_list_non, e_isi_list_bl, e_isi_list_int, e_isi_list_str, e_isi_list_tup, e_isi_list_lst, e_isN_non, e_isN_bl, e_isN_int, e_isN_str, e_isN_tup, e_isN_lst, e_not, startEn, slCo, toCo, lstO, intO, freezeEn, lenOk_small, wipeEn, tgN, List.getElem?_cons_zero, List.getElem?_cons_succ, List.set_cons_zero, List.set_cons_succ, List.map_cons, List.map_nil, List.replicate_succ, List.replicate_zero, List.length_cons, List.length_nil, List.cons_append, List.nil_append, Option.map_some, Option.map_none, Option.bind_some, Option.bind_none, Bool.false_eq_true, reduceCtorEq, Nat.reduceAdd, Nat.reduceSub, Nat.reduceEqDiff, reduceIte, decide_true, decide_false, Bool.not_true, Bool.not_false, Bool.and_true, Bool.true_and, Bool.and_false, Bool.false_and, Bool.or_true, Bool.true_or, Bool.or_false, Bool.false_or]
  | non => rfl
  | bl b => rfl
  | int i => rfl
  | str x => rfl
  | lst ds => rfl
  | _ => simp [plainD] at h
theorem part_ok {d : D} {K : Nat} (h : plainD d = true) : x_is_part [d, .int K] = some (.ok (.bl (partB d K))) := by
  cases d with
  | tup ds =>
    obtain ⟨h1, h2⟩ := plain_tup h
    have hl : lcWX (tgN 2) yesX (callX x_is_line (consX (varX 2) (consX (varX 1) nilX))) [.fz (.tup ds), .fz (.int K), .un] ds [] = some (.lst ([] ++ ds.map fun d => .bl (lineB d K))) :=
      lc_map _ ds [] (fun d hd => by simp only [e_bindX, e_okX, e_varX, e_conX, e_newX, e_op1X, e_op2X, e_andX, e_orX, e_tstX, e_condX, e_andBX, e_orBX, e_notBX, e_ifX, e_chainX, e_nilX, e_consX, e_tupX, e_lstX, e_pkX, e_varPX, e_opPX, e_getX, e_getDX, e_ixPX, e_nonePX, e_somePX, e_slTX, e_slLX, e_pnX, e_fzX, e_owX, e_seqX, e_rg1X, e_rg2X, e_enumX, e_zipX, e_itemsTX, e_d1TX, e_dictTX, e_sortedSetX, e_zipStarX, e_yesX, e_lcX, e_callX, e_nextX, e_breakX, e_retNX, e_neverX, e_seqSX, e_thenX, e_retSX, e_exprSX, e_ifSX, e_setSX, e_asgSX, e_appSX, e_putSX, e_freezeSX, e_parSX, e_par3SX, e_forSX, e_forNil, e_ite, e_iteS, e_onBt, e_blO, e_itemsT, e_itemsL, e_add, e_sub, e_intB, e_lenT, e_lenL, e_leI, e_fnX, e_isi_int_non, e_isi_int_bl, e_isi_int_int, e_isi_int_str, e_isi_int_tup, e_isi_int_lst, e_isi_bool_non, e_isi_bool_bl, e_isi_bool_int, e_isi_bool_str, e_isi_bool_tup, e_isi_bool_lst, e_isi_str_non, e_isi_str_bl, e_isi_str_int, e_isi_str_str, e_isi_str_tup, e_isi_str_lst, e_isi_tuple_non, e_isi_tuple_bl, e_isi_tuple_int, e_isi_tuple_str, e_isi_tuple_tup, e_isi_tuple_lst, e_isi_list_non, e_isi_list_bl, e_isi_list_int, e_isi_list_str, e_isi_list_tup, e_isi_list_lst, e_isN_non, e_isN_bl, e_isN_int, e_isN_str, e_isN_tup, e_isN_lst, e_not, startEn, slCo, toCo, lstO, intO, freezeEn, lenOk_small, wipeEn, tgN, List.getElem?_cons_zero, List.getElem?_cons_succ, List.set_cons_zero, List.set_cons_succ, List.map_cons, List.map_nil, List.replicate_succ, List.replicate_zero, List.length_cons, List.length_nil, List.cons_append, List.nil_append, Option.map_some, Option.map_none, Option.bind_some, Option.bind_none, Bool.false_eq_true, reduceCtorEq, Nat.reduceAdd, Nat.reduceSub, Nat.reduceEqDiff, reduceIte, decide_true, decide_false, Bool.not_true, Bool.not_false, Bool.and_true, Bool.true_and, Bool.and_false, Bool.false_and, Bool.or_true, Bool.true_or, Bool.or_false, Bool.false_or, line_ok (h2 d hd)]) (size_2000 (by simpa using h1))
    unfold x_is_part xb_is_part
    simp only [e_bindX, e_okX, e_varX, e_conX, e_newX, e_op1X, e_op2X, e_andX, e_orX, e_tstX, e_condX, e_andBX, e_orBX, e_notBX, e_ifX, e_chainX, e_nilX, e_consX, e_tupX, e_lstX, e_pkX, e_varPX, e_opPX, e_getX, e_getDX, e_ixPX, e_nonePX, e_somePX, e_slTX, e_slLX, e_pnX, e_fzX, e_owX, e_seqX, e_rg1X, e_rg2X, e_enumX, e_zipX, e_itemsTX, e_d1TX, e_dictTX, e_sortedSetX, e_zipStarX, e_yesX, e_lcX, e_callX, e_nextX, e_breakX, e_retNX, e_neverX, e_seqSX, e_thenX, e_retSX, e_exprSX, e_ifSX, e_setSX, e_asgSX, e_appSX, e_putSX, e_freezeSX, e_parSX, e_par3SX, e_forSX, e_forNil, e_ite, e_iteS, e_onBt, e_blO, e_itemsT, e_itemsL, e_add, e_sub, e_intB, e_lenT, e_lenL, e_leI, e_fnX, e_isi_int_non, e_isi_int_bl, e_isi_int_int, e_isi_int_str, e_isi_int_tup, e_isi_int_lst, e_isi_bool_non, e_isi_bool_bl, e_isi_bool_int, e_isi_bool_str, e_isi_bool_tup, e_isi_bool_lst, e_isi_str_non, e_isi_str_bl, e_isi_str_int, e_isi_str_str, e_isi_str_tup, e_isi_str_lst, e_isi_tuple_non, e_isi_tuple_bl, e_isi_tuple_int, e_isi_tuple_str, e_isi_tuple_tup, e_isi_tuple_lst, e_isi_list_non, e_isi_list_bl, e_isi_list_int, e_isi_list_str, e_isi_list_tup, e_isi_list_lst, e_isN_non, e_isN_bl, e_isN_int, e_isN_str, e_isN_tup, e_isN_lst, e_not, startEn, slCo, toCo, lstO, intO, freezeEn, lenOk_small, wipeEn, tgN, List.getElem?_cons_zero, List.getElem?_cons_succ, List.set_cons_zero, List.set_cons_succ, List.map_cons, List.map_nil, List.replicate_succ, List.replicate_zero, List.length_cons, List.length_nil, List.cons_append, List.nil_append, Option.map_some, Option.map_none, Option.bind_some, Option.bind_none, Bool.false_eq_true, reduceCtorEq, Nat.reduceAdd, Nat.reduceSub, Nat.reduceEqDiff, reduceIte, decide_true, decide_false, Bool.not_true, Bool.not_false, Bool.and_true, Bool.true_and, Bool.and_false, Bool.false_and, Bool.or_true, Bool.true_or, Bool.or_false, Bool.false_or, eq_int, natInt_beq, partB]
    by_cases hk : ds.length = K
    · simp only [hk, e_bindX, e_okX, e_varX, e_conX, e_newX, e_op1X, e_op2X, e_andX, e_orX, e_tstX, e_condX, e_andBX, e_orBX, e_notBX, e_ifX, e_chainX, e_nilX, e_consX, e_tupX, e_lstX, e_pkX, e_varPX, e_opPX, e_getX, e_getDX, e_ixPX, e_nonePX, e_somePX, e_slTX, e_slLX, e_pnX, e_fzX, e_owX, e_seqX, e_rg1X, e_rg2X, e_enumX, e_zipX, e_itemsTX, e_d1TX, e_dictTX, e_sortedSetX, e_zipStarX, e_yesX, e_lcX, e_callX, e_nextX, e_breakX, e_retNX, e_neverX, e_seqSX, e_thenX, e_retSX, e_exprSX, e_ifSX, e_setSX, e_asgSX, e_appSX, e_putSX, e_freezeSX, e_parSX, e_par3SX, e_forSX, e_forNil, e_ite, e_iteS, e_onBt, e_blO, e_itemsT, e_itemsL, e_add, e_sub, e_intB, e_lenT, e_lenL, e_leI, e_fnX, e_isi_int_non, e_isi_int_bl, e_isi_int_int, e_isi_int_str, e_isi_int_tup, e_isi_int_lst, e_isi_bool_non, e_isi_bool_bl, e_isi_bool_int, e_isi_bool_str, e_isi_bool_tup, e_isi_bool_lst, e_isi_str_non, e_isi_str_bl, e_isi_str_int, e_isi_str_str, e_isi_str_tup, e_isi_str_lst, e_isi_tuple_non, e_isi_tuple_bl, e_isi_tuple_int, e_isi_tuple_str, e_isi_tuple_tup, e_isi_tuple_lst, e_isi_list_non, e_isi_list_bl, e_isi_list_int, e_isi_list_str, e_isi_list_tup, e_isi_list_lst, e_isN_non, e_isN_bl, e_isN_int, e_isN_str, e_isN_tup, e_isN_lst, e_not, startEn, slCo, toCo, lstO, intO, freezeEn, lenOk_small, wipeEn, tgN, List.getElem?_cons_zero, List.getElem?_cons_succ, List.set_cons_zero, List.set_cons_succ, List.map_cons, List.map_nil, List.replicate_succ, List.replicate_zero, List.length_cons, List.length_nil, List.cons_append, List.nil_append, Option.map_some, Option.map_none, Option.bind_some, Option.bind_none, Bool.false_eq_true, reduceCtorEq, Nat.reduceAdd, Nat.reduceSub, Nat.reduceEqDiff, reduceIte, decide_true, decide_false, Bool.not_true, Bool.not_false, Bool.and_true, Bool.true_and, Bool.and_false, Bool.false_and, Bool.or_true, Bool.true_or, Bool.or_false, Bool.false_or, beq_self_eq_true, hl, all_map]
    · simp only [beq_eq_false_iff_ne.mpr hk, e_bindX, e_okX, e_varX, e_conX, e_newX, e_op1X, e_op2X, e_andX, e_orX, e_tstX, e_condX, e_andBX, e_orBX, e_notBX, e_ifX, e_chainX, e_nilX, e_consX, e_tupX, e_lstX, e_pkX, e_varPX, e_opPX, e_getX, e_getDX, e_ixPX, e_nonePX, e_somePX, e_slTX, e_slLX, e_pnX, e_fzX, e_owX, e_seqX, e_rg1X, e_rg2X, e_enumX, e_zipX, e_itemsTX, e_d1TX, e_dictTX, e_sortedSetX, e_zipStarX, e_yesX, e_lcX, e_callX, e_nextX, e_breakX, e_retNX, e_neverX, e_seqSX, e_thenX, e_retSX, e_exprSX, e_ifSX, e_setSX, e_asgSX, e_appSX, e_putSX, e_freezeSX, e_parSX, e_par3SX, e_forSX, e_forNil, e_ite, e_iteS, e_onBt, e_blO, e_itemsT, e_itemsL, e_add, e_sub, e_intB, e_lenT, e_lenL, e_leI, e_fnX, e_isi_int_non, e_isi_int_bl, e_isi_int_int, e_isi_int_str, e_isi_int_tup, e_isi_int_lst, e_isi_bool_non, e_isi_bool_bl, e_isi_bool_int, e_isi_bool_str, e_isi_bool_tup, e_isi_bool_lst, e_isi_str_non, e_isi_str_bl, e_isi_str_int, e_isi_str_str, e_isi_str_tup, e_isi_str_lst, e_isi_tuple_non, e_isi_tuple_bl, e_isi_tuple_int, e_isi_tuple_str, e_isi_tuple_tup, e_isi_tuple_lst, e_isi_list_non, e_isi_list_bl, e_isi_list_int, e_isi_list_str, e_isi_list_tup, e_isi_list_lst, e_isN_non, e_isN_bl, e_isN_int, e_isN_str, e_isN_tup, e_isN_lst, e_not, startEn, slCo, toCo, lstO, intO, freezeEn, lenOk_small, wipeEn, tgN, List.getElem?_cons_zero, List.getElem?_cons_succ, List.set_cons_zero, List.set_cons_succ, List.map_cons, List.map_nil, List.replicate_succ, List.replicate_zero, List.length_cons, List.length_nil, List.cons_append, List.nil_append, Option.map_some, Option.map_none, Option.bind_some, Option.bind_none, Bool.false_eq_true, reduceCtorEq, Nat.reduceAdd, Nat.reduceSub, Nat.reduceEqDiff, reduceIte, decide_true, decide_false, Bool.not_true, Bool.not_false, Bool.and_true, Bool.true_and, Bool.and_false, Bool.false_and, Bool.or_true, Bool.true_or, Bool.or_false, Bool.false_or]
  | non => rfl
  | bl b => rfl
  | int i => rfl
  | str x => rfl
  | lst ds => rfl
  | _ => simp [plainD] at h
theorem at0 {a : D} {ds : List D} : idxD (.tup (a :: ds)) (.int 0) = some a := (atI_nat (xs := a :: ds) (i := 0) (by simp)).trans rfl
theorem at1 {a b : D} {ds : List D} : idxD (.tup (a :: b :: ds)) (.int 1) = some b := (atI_nat (xs := a :: b :: ds) (i := 1) (by simp)).trans rfl
theorem areRules_ok {d : D} (h : plainD d = true) : x_are_rules_value [d] = some (.ok (.bl (rulesB d))) := by
  cases d with
  | tup ds =>
    obtain ⟨h1, h2⟩ := plain_tup h
    unfold x_are_rules_value xb_are_rules_value
    simp only [e_bindX, e_okX, e_varX, e_conX, e_newX, e_op1X, e_op2X, e_andX, e_orX, e_tstX, e_condX, e_andBX, e_orBX, e_notBX, e_ifX, e_chainX, e_nilX, e_consX, e_tupX, e_lstX, e_pkX, e_varPX, e_opPX, e_getX, e_getDX, e_ixPX, e_nonePX, e_somePX, e_slTX, e_slLX, e_pnX, e_fzX, e_owX, e_seqX, e_rg1X, e_rg2X, e_enumX, e_zipX, e_itemsTX, e_d1TX, e_dictTX, e_sortedSetX, e_zipStarX, e_yesX, e_lcX, e_callX, e_nextX, e_breakX, e_retNX, e_neverX, e_seqSX, e_thenX, e_retSX, e_exprSX, e_ifSX, e_setSX, e_asgSX, e_appSX, e_putSX, e_freezeSX, e_parSX, e_par3SX, e_forSX, e_forNil, e_ite, e_iteS, e_onBt, e_blO, e_itemsT, e_itemsL, e_add, e_sub, e_intB, e_lenT, e_lenL, e_leI, e_fnX, e_isi_int_non, e_isi_int_bl, e_isi_int_int, e_isi_int_str, e_isi_int_tup, e_isi_int_lst, e_isi_bool_non, e_isi_bool_bl, e_isi_bool_int, e_isi_bool_str, e_isi_bool_tup, e_isi_bool_lst, e_isi_str_non, e_isi_str_bl, e_isi_str_int, e_isi_str_str, e_isi_str_tup, e_isi_str_lst, e_isi_tuple_non, e_isi_tuple_bl, e_isi_tuple_int, e_isi_tuple_str, e_isi_tuple_tup, e_isi_tuple_lst, e_isi_list_non, e_isi_list_bl, e_isi_list_int, e_isi_list_str, e_isi_list_tup, e_isi_list_lst, e_isN_non, e_isN_bl, e_isN_int, e_isN_str, e_isN_tup, e_isN_lst, e_not, startEn, slCo, toCo, lstO, intO, freezeEn, lenOk_small, wipeEn, tgN, List.getElem?_cons_zero, List.getElem?_cons_succ, List.set_cons_zero, List.set_cons_succ, List.map_cons, List.map_nil, List.replicate_succ, List.replicate_zero, List.length_cons, List.length_nil, List.cons_append, List.nil_append, Option.map_some, Option.map_none, Option.bind_some, Option.bind_none, Bool.false_eq_true, reduceCtorEq, Nat.reduceAdd, Nat.reduceSub, Nat.reduceEqDiff, reduceIte, decide_true, decide_false, Bool.not_true, Bool.not_false, Bool.and_true, Bool.true_and, Bool.and_false, Bool.false_and, Bool.or_true, Bool.true_or, Bool.or_false, Bool.false_or, ne_int, natInt_beq]
    match ds, h2 with
    | [], _ =>
      simp only [List.length_nil, show (((0 : Nat) : Int) == 2) = false from rfl, e_bindX, e_okX, e_varX, e_conX, e_newX, e_op1X, e_op2X, e_andX, e_orX, e_tstX, e_condX, e_andBX, e_orBX, e_notBX, e_ifX, e_chainX, e_nilX, e_consX, e_tupX, e_lstX, e_pkX, e_varPX, e_opPX, e_getX, e_getDX, e_ixPX, e_nonePX, e_somePX, e_slTX, e_slLX, e_pnX, e_fzX, e_owX, e_seqX, e_rg1X, e_rg2X, e_enumX, e_zipX, e_itemsTX, e_d1TX, e_dictTX, e_sortedSetX, e_zipStarX, e_yesX, e_lcX, e_callX, e_nextX, e_breakX, e_retNX, e_neverX, e_seqSX, e_thenX, e_retSX, e_exprSX, e_ifSX, e_setSX, e_asgSX, e_appSX, e_putSX, e_freezeSX, e_parSX, e_par3SX, e_forSX, e_forNil, e_ite, e_iteS, e_onBt, e_blO, e_itemsT, e_itemsL, e_add, e_sub, e_intB, e_lenT, e_lenL, e_leI, e_fnX, e_isi_int_non, e_isi_int_bl, e_isi_int_int, e_isi_int_str, e_isi_int_tup, e_isi_int_lst, e_isi_bool_non, e_isi_bool_bl, e_isi_bool_int, e_isi_bool_str, e_isi_bool_tup, e_isi_bool_lst, e_isi_str_non, e_isi_str_bl, e_isi_str_int, e_isi_str_str, e_isi_str_tup, e_isi_str_lst, e_isi_tuple_non, e_isi_tuple_bl, e_isi_tuple_int, e_isi_tuple_str, e_isi_tuple_tup, e_isi_tuple_lst, e_isi_list_non, e_isi_list_bl, e_isi_list_int, e_isi_list_str, e_isi_list_tup, e_isi_list_lst, e_isN_non, e_isN_bl, e_isN_int, e_isN_str, e_isN_tup, e_isN_lst, e_not, startEn, slCo, toCo, lstO, intO, freezeEn, lenOk_small, wipeEn, tgN, List.getElem?_cons_zero, List.getElem?_cons_succ, List.set_cons_zero, List.set_cons_succ, List.map_cons, List.map_nil, List.replicate_succ, List.replicate_zero, List.length_cons, List.length_nil, List.cons_append, List.nil_append, Option.map_some, Option.map_none, Option.bind_some, Option.bind_none, Bool.false_eq_true, reduceCtorEq, Nat.reduceAdd, Nat.reduceSub, Nat.reduceEqDiff, reduceIte, decide_true, decide_false, Bool.not_true, Bool.not_false, Bool.and_true, Bool.true_and, Bool.and_false, Bool.false_and, Bool.or_true, Bool.true_or, Bool.or_false, Bool.false_or]
      rfl
    | [a], _ =>
      simp only [List.length_cons, List.length_nil, show (((0 + 1 : Nat) : Int) == 2) = false from rfl, e_bindX, e_okX, e_varX, e_conX, e_newX, e_op1X, e_op2X, e_andX, e_orX, e_tstX, e_condX, e_andBX, e_orBX, e_notBX, e_ifX, e_chainX, e_nilX, e_consX, e_tupX, e_lstX, e_pkX, e_varPX, e_opPX, e_getX, e_getDX, e_ixPX, e_nonePX, e_somePX, e_slTX, e_slLX, e_pnX, e_fzX, e_owX, e_seqX, e_rg1X, e_rg2X, e_enumX, e_zipX, e_itemsTX, e_d1TX, e_dictTX, e_sortedSetX, e_zipStarX, e_yesX, e_lcX, e_callX, e_nextX, e_breakX, e_retNX, e_neverX, e_seqSX, e_thenX, e_retSX, e_exprSX, e_ifSX, e_setSX, e_asgSX, e_appSX, e_putSX, e_freezeSX, e_parSX, e_par3SX, e_forSX, e_forNil, e_ite, e_iteS, e_onBt, e_blO, e_itemsT, e_itemsL, e_add, e_sub, e_intB, e_lenT, e_lenL, e_leI, e_fnX, e_isi_int_non, e_isi_int_bl, e_isi_int_int, e_isi_int_str, e_isi_int_tup, e_isi_int_lst, e_isi_bool_non, e_isi_bool_bl, e_isi_bool_int, e_isi_bool_str, e_isi_bool_tup, e_isi_bool_lst, e_isi_str_non, e_isi_str_bl, e_isi_str_int, e_isi_str_str, e_isi_str_tup, e_isi_str_lst, e_isi_tuple_non, e_isi_tuple_bl, e_isi_tuple_int, e_isi_tuple_str, e_isi_tuple_tup, e_isi_tuple_lst, e_isi_list_non, e_isi_list_bl, e_isi_list_int, e_isi_list_str, e_isi_list_tup, e_isi_list_lst, e_isN_non, e_isN_bl, e_isN_int, e_isN_str, e_isN_tup, e_isN_lst, e_not, startEn, slCo, toCo, lstO, intO, freezeEn, lenOk_small, wipeEn, tgN, List.getElem?_cons_zero, List.getElem?_cons_succ, List.set_cons_zero, List.set_cons_succ, List.map_cons, List.map_nil, List.replicate_succ, List.replicate_zero, List.length_cons, List.length_nil, List.cons_append, List.nil_append, Option.map_some, Option.map_none, Option.bind_some, Option.bind_none, Bool.false_eq_true, reduceCtorEq, Nat.reduceAdd, Nat.reduceSub, Nat.reduceEqDiff, reduceIte, decide_true, decide_false, Bool.not_true, Bool.not_false, Bool.and_true, Bool.true_and, Bool.and_false, Bool.false_and, Bool.or_true, Bool.true_or, Bool.or_false, Bool.false_or]
      cases a <;> rfl
    | a :: b :: c :: ds, _ =>
      have e : ((((ds.length + 1 + 1 + 1 : Nat) : Int)) == 2) = false := beq_eq_false_iff_ne.mpr (by omega)
      simp only [List.length_cons, e, e_bindX, e_okX, e_varX, e_conX, e_newX, e_op1X, e_op2X, e_andX, e_orX, e_tstX, e_condX, e_andBX, e_orBX, e_notBX, e_ifX, e_chainX, e_nilX, e_consX, e_tupX, e_lstX, e_pkX, e_varPX, e_opPX, e_getX, e_getDX, e_ixPX, e_nonePX, e_somePX, e_slTX, e_slLX, e_pnX, e_fzX, e_owX, e_seqX, e_rg1X, e_rg2X, e_enumX, e_zipX, e_itemsTX, e_d1TX, e_dictTX, e_sortedSetX, e_zipStarX, e_yesX, e_lcX, e_callX, e_nextX, e_breakX, e_retNX, e_neverX, e_seqSX, e_thenX, e_retSX, e_exprSX, e_ifSX, e_setSX, e_asgSX, e_appSX, e_putSX, e_freezeSX, e_parSX, e_par3SX, e_forSX, e_forNil, e_ite, e_iteS, e_onBt, e_blO, e_itemsT, e_itemsL, e_add, e_sub, e_intB, e_lenT, e_lenL, e_leI, e_fnX, e_isi_int_non, e_isi_int_bl, e_isi_int_int, e_isi_int_str, e_isi_int_tup, e_isi_int_lst, e_isi_bool_non, e_isi_bool_bl, e_isi_bool_int, e_isi_bool_str, e_isi_bool_tup, e_isi_bool_lst, e_isi_str_non, e_isi_str_bl, e_isi_str_int, e_isi_str_str, e_isi_str_tup, e_isi_str_lst, e_isi_tuple_non, e_isi_tuple_bl, e_isi_tuple_int, e_isi_tuple_str, e_isi_tuple_tup, e_isi_tuple_lst, e_isi_list_non, e_isi_list_bl, e_isi_list_int, e_isi_list_str, e_isi_list_tup, e_isi_list_lst, e_isN_non, e_isN_bl, e_isN_int, e_isN_str, e_isN_tup, e_isN_lst, e_not, startEn, slCo, toCo, lstO, intO, freezeEn, lenOk_small, wipeEn, tgN, List.getElem?_cons_zero, List.getElem?_cons_succ, List.set_cons_zero, List.set_cons_succ, List.map_cons, List.map_nil, List.replicate_succ, List.replicate_zero, List.length_cons, List.length_nil, List.cons_append, List.nil_append, Option.map_some, Option.map_none, Option.bind_some, Option.bind_none, Bool.false_eq_true, reduceCtorEq, Nat.reduceAdd, Nat.reduceSub, Nat.reduceEqDiff, reduceIte, decide_true, decide_false, Bool.not_true, Bool.not_false, Bool.and_true, Bool.true_and, Bool.and_false, Bool.false_and, Bool.or_true, Bool.true_or, Bool.or_false, Bool.false_or]
      cases a <;> rfl
    | [a, b], h2 =>
      have pa := h2 a (by simp)
      have pb := h2 b (by simp)
      simp only [e_bindX, e_okX, e_varX, e_conX, e_newX, e_op1X, e_op2X, e_andX, e_orX, e_tstX, e_condX, e_andBX, e_orBX, e_notBX, e_ifX, e_chainX, e_nilX, e_consX, e_tupX, e_lstX, e_pkX, e_varPX, e_opPX, e_getX, e_getDX, e_ixPX, e_nonePX, e_somePX, e_slTX, e_slLX, e_pnX, e_fzX, e_owX, e_seqX, e_rg1X, e_rg2X, e_enumX, e_zipX, e_itemsTX, e_d1TX, e_dictTX, e_sortedSetX, e_zipStarX, e_yesX, e_lcX, e_callX, e_nextX, e_breakX, e_retNX, e_neverX, e_seqSX, e_thenX, e_retSX, e_exprSX, e_ifSX, e_setSX, e_asgSX, e_appSX, e_putSX, e_freezeSX, e_parSX, e_par3SX, e_forSX, e_forNil, e_ite, e_iteS, e_onBt, e_blO, e_itemsT, e_itemsL, e_add, e_sub, e_intB, e_lenT, e_lenL, e_leI, e_fnX, e_isi_int_non, e_isi_int_bl, e_isi_int_int, e_isi_int_str, e_isi_int_tup, e_isi_int_lst, e_isi_bool_non, e_isi_bool_bl, e_isi_bool_int, e_isi_bool_str, e_isi_bool_tup, e_isi_bool_lst, e_isi_str_non, e_isi_str_bl, e_isi_str_int, e_isi_str_str, e_isi_str_tup, e_isi_str_lst, e_isi_tuple_non, e_isi_tuple_bl, e_isi_tuple_int, e_isi_tuple_str, e_isi_tuple_tup, e_isi_tuple_lst, e_isi_list_non, e_isi_list_bl, e_isi_list_int, e_isi_list_str, e_isi_list_tup, e_isi_list_lst, e_isN_non, e_isN_bl, e_isN_int, e_isN_str, e_isN_tup, e_isN_lst, e_not, startEn, slCo, toCo, lstO, intO, freezeEn, lenOk_small, wipeEn, tgN, List.getElem?_cons_zero, List.getElem?_cons_succ, List.set_cons_zero, List.set_cons_succ, List.map_cons, List.map_nil, List.replicate_succ, List.replicate_zero, List.length_cons, List.length_nil, List.cons_append, List.nil_append, Option.map_some, Option.map_none, Option.bind_some, Option.bind_none, Bool.false_eq_true, reduceCtorEq, Nat.reduceAdd, Nat.reduceSub, Nat.reduceEqDiff, reduceIte, decide_true, decide_false, Bool.not_true, Bool.not_false, Bool.and_true, Bool.true_and, Bool.and_false, Bool.false_and, Bool.or_true, Bool.true_or, Bool.or_false, Bool.false_or, at0, show (((0 + 1 + 1 : Nat) : Int) == 2) = true from rfl]
      cases a with
      | tup ls =>
        simp only [e_bindX, e_okX, e_varX, e_conX, e_newX, e_op1X, e_op2X, e_andX, e_orX, e_tstX, e_condX, e_andBX, e_orBX, e_notBX, e_ifX, e_chainX, e_nilX, e_consX, e_tupX, e_lstX, e_pkX, e_varPX, e_opPX, e_getX, e_getDX, e_ixPX, e_nonePX, e_somePX, e_slTX, e_slLX, e_pnX, e_fzX, e_owX, e_seqX, e_rg1X, e_rg2X, e_enumX, e_zipX, e_itemsTX, e_d1TX, e_dictTX, e_sortedSetX, e_zipStarX, e_yesX, e_lcX, e_callX, e_nextX, e_breakX, e_retNX, e_neverX, e_seqSX, e_thenX, e_retSX, e_exprSX, e_ifSX, e_setSX, e_asgSX, e_appSX, e_putSX, e_freezeSX, e_parSX, e_par3SX, e_forSX, e_forNil, e_ite, e_iteS, e_onBt, e_blO, e_itemsT, e_itemsL, e_add, e_sub, e_intB, e_lenT, e_lenL, e_leI, e_fnX, e_isi_int_non, e_isi_int_bl, e_isi_int_int, e_isi_int_str, e_isi_int_tup, e_isi_int_lst, e_isi_bool_non, e_isi_bool_bl, e_isi_bool_int, e_isi_bool_str, e_isi_bool_tup, e_isi_bool_lst, e_isi_str_non, e_isi_str_bl, e_isi_str_int, e_isi_str_str, e_isi_str_tup, e_isi_str_lst, e_isi_tuple_non, e_isi_tuple_bl, e_isi_tuple_int, e_isi_tuple_str, e_isi_tuple_tup, e_isi_tuple_lst, e_isi_list_non, e_isi_list_bl, e_isi_list_int, e_isi_list_str, e_isi_list_tup, e_isi_list_lst, e_isN_non, e_isN_bl, e_isN_int, e_isN_str, e_isN_tup, e_isN_lst, e_not, startEn, slCo, toCo, lstO, intO, freezeEn, lenOk_small, wipeEn, tgN, List.getElem?_cons_zero, List.getElem?_cons_succ, List.set_cons_zero, List.set_cons_succ, List.map_cons, List.map_nil, List.replicate_succ, List.replicate_zero, List.length_cons, List.length_nil, List.cons_append, List.nil_append, Option.map_some, Option.map_none, Option.bind_some, Option.bind_none, Bool.false_eq_true, reduceCtorEq, Nat.reduceAdd, Nat.reduceSub, Nat.reduceEqDiff, reduceIte, decide_true, decide_false, Bool.not_true, Bool.not_false, Bool.and_true, Bool.true_and, Bool.and_false, Bool.false_and, Bool.or_true, Bool.true_or, Bool.or_false, Bool.false_or, at0, at1, part_ok pa, part_ok pb]
        by_cases g1 : 1 ≤ ls.length
        · by_cases g2 : ls.length ≤ 6
          · simp only [e_bindX, e_okX, e_varX, e_conX, e_newX, e_op1X, e_op2X, e_andX, e_orX, e_tstX, e_condX, e_andBX, e_orBX, e_notBX, e_ifX, e_chainX, e_nilX, e_consX, e_tupX, e_lstX, e_pkX, e_varPX, e_opPX, e_getX, e_getDX, e_ixPX, e_nonePX, e_somePX, e_slTX, e_slLX, e_pnX, e_fzX, e_owX, e_seqX, e_rg1X, e_rg2X, e_enumX, e_zipX, e_itemsTX, e_d1TX, e_dictTX, e_sortedSetX, e_zipStarX, e_yesX, e_lcX, e_callX, e_nextX, e_breakX, e_retNX, e_neverX, e_seqSX, e_thenX, e_retSX, e_exprSX, e_ifSX, e_setSX, e_asgSX, e_appSX, e_putSX, e_freezeSX, e_parSX, e_par3SX, e_forSX, e_forNil, e_ite, e_iteS, e_onBt, e_blO, e_itemsT, e_itemsL, e_add, e_sub, e_intB, e_lenT, e_lenL, e_leI, e_fnX, e_isi_int_non, e_isi_int_bl, e_isi_int_int, e_isi_int_str, e_isi_int_tup, e_isi_int_lst, e_isi_bool_non, e_isi_bool_bl, e_isi_bool_int, e_isi_bool_str, e_isi_bool_tup, e_isi_bool_lst, e_isi_str_non, e_isi_str_bl, e_isi_str_int, e_isi_str_str, e_isi_str_tup, e_isi_str_lst, e_isi_tuple_non, e_isi_tuple_bl, e_isi_tuple_int, e_isi_tuple_str, e_isi_tuple_tup, e_isi_tuple_lst, e_isi_list_non, e_isi_list_bl, e_isi_list_int, e_isi_list_str, e_isi_list_tup, e_isi_list_lst, e_isN_non, e_isN_bl, e_isN_int, e_isN_str, e_isN_tup, e_isN_lst, e_not, startEn, slCo, toCo, lstO, intO, freezeEn, lenOk_small, wipeEn, tgN, List.getElem?_cons_zero, List.getElem?_cons_succ, List.set_cons_zero, List.set_cons_succ, List.map_cons, List.map_nil, List.replicate_succ, List.replicate_zero, List.length_cons, List.length_nil, List.cons_append, List.nil_append, Option.map_some, Option.map_none, Option.bind_some, Option.bind_none, Bool.false_eq_true, reduceCtorEq, Nat.reduceAdd, Nat.reduceSub, Nat.reduceEqDiff, reduceIte, decide_true, decide_false, Bool.not_true, Bool.not_false, Bool.and_true, Bool.true_and, Bool.and_false, Bool.false_and, Bool.or_true, Bool.true_or, Bool.or_false, Bool.false_or, rulesB, g1, g2, show (1 : Int) ≤ ((ls.length : Nat) : Int) by omega, show ((ls.length : Nat) : Int) ≤ 6 by omega, part_ok pa, part_ok pb]
            cases hp : partB (.tup ls) ls.length <;> simp only [hp, e_bindX, e_okX, e_varX, e_conX, e_newX, e_op1X, e_op2X, e_andX, e_orX, e_tstX, e_condX, e_andBX, e_orBX, e_notBX, e_ifX, e_chainX, e_nilX, e_consX, e_tupX, e_lstX, e_pkX, e_varPX, e_opPX, e_getX, e_getDX, e_ixPX, e_nonePX, e_somePX, e_slTX, e_slLX, e_pnX, e_fzX, e_owX, e_seqX, e_rg1X, e_rg2X, e_enumX, e_zipX, e_itemsTX, e_d1TX, e_dictTX, e_sortedSetX, e_zipStarX, e_yesX, e_lcX, e_callX, e_nextX, e_breakX, e_retNX, e_neverX, e_seqSX, e_thenX, e_retSX, e_exprSX, e_ifSX, e_setSX, e_asgSX, e_appSX, e_putSX, e_freezeSX, e_parSX, e_par3SX, e_forSX, e_forNil, e_ite, e_iteS, e_onBt, e_blO, e_itemsT, e_itemsL, e_add, e_sub, e_intB, e_lenT, e_lenL, e_leI, e_fnX, e_isi_int_non, e_isi_int_bl, e_isi_int_int, e_isi_int_str, e_isi_int_tup, e_isi_int_lst, e_isi_bool_non, e_isi_bool_bl, e_isi_bool_int, e_isi_bool_str, e_isi_bool_tup, e_isi_bool_lst, e_isi_str_non, e_isi_str_bl, e_isi_str_int, e_isi_str_str, e_isi_str_tup, e_isi_str_lst, e_isi_tuple_non, e_isi_tuple_bl, e_isi_tuple_int, e_isi_tuple_str, e_isi_tuple_tup, e_isi_tuple_lst, e_isi_list_non, e_isi_list_bl, e_isi_list_int, e_isi_list_str, e_isi_list_tup, e_isi_list_lst, e_isN_non, e_isN_bl, e_isN_int, e_isN_str, e_isN_tup, e_isN_lst, e_not, startEn, slCo, toCo, lstO, intO, freezeEn, lenOk_small, wipeEn, tgN, List.getElem?_cons_zero, List.getElem?_cons_succ, List.set_cons_zero, List.set_cons_succ, List.map_cons, List.map_nil, List.replicate_succ, List.replicate_zero, List.length_cons, List.length_nil, List.cons_append, List.nil_append, Option.map_some, Option.map_none, Option.bind_some, Option.bind_none, Bool.false_eq_true, reduceCtorEq, Nat.reduceAdd, Nat.reduceSub, Nat.reduceEqDiff, reduceIte, decide_true, decide_false, Bool.not_true, Bool.not_false, Bool.and_true, Bool.true_and, Bool.and_false, Bool.false_and, Bool.or_true, Bool.true_or, Bool.or_false, Bool.false_or, at0, at1, part_ok pa, part_ok pb]
          · simp only [e_bindX, e_okX, e_varX, e_conX, e_newX, e_op1X, e_op2X, e_andX, e_orX, e_tstX, e_condX, e_andBX, e_orBX, e_notBX, e_ifX, e_chainX, e_nilX, e_consX, e_tupX, e_lstX, e_pkX, e_varPX, e_opPX, e_getX, e_getDX, e_ixPX, e_nonePX, e_somePX, e_slTX, e_slLX, e_pnX, e_fzX, e_owX, e_seqX, e_rg1X, e_rg2X, e_enumX, e_zipX, e_itemsTX, e_d1TX, e_dictTX, e_sortedSetX, e_zipStarX, e_yesX, e_lcX, e_callX, e_nextX, e_breakX, e_retNX, e_neverX, e_seqSX, e_thenX, e_retSX, e_exprSX, e_ifSX, e_setSX, e_asgSX, e_appSX, e_putSX, e_freezeSX, e_parSX, e_par3SX, e_forSX, e_forNil, e_ite, e_iteS, e_onBt, e_blO, e_itemsT, e_itemsL, e_add, e_sub, e_intB, e_lenT, e_lenL, e_leI, e_fnX, e_isi_int_non, e_isi_int_bl, e_isi_int_int, e_isi_int_str, e_isi_int_tup, e_isi_int_lst, e_isi_bool_non, e_isi_bool_bl, e_isi_bool_int, e_isi_bool_str, e_isi_bool_tup, e_isi_bool_lst, e_isi_str_non, e_isi_str_bl, e_isi_str_int, e_isi_str_str, e_isi_str_tup, e_isi_str_lst, e_isi_tuple_non, e_isi_tuple_bl, e_isi_tuple_int, e_isi_tuple_str, e_isi_tuple_tup, e_isi_tuple_lst, e_isi_list_non, e_isi_list_bl, e_isi_list_int, e_isi_list_str, e_isi_list_tup, e_isi_list_lst, e_isN_non, e_isN_bl, e_isN_int, e_isN_str, e_isN_tup, e_isN_lst, e_not, startEn, slCo, toCo, lstO, intO, freezeEn, lenOk_small, wipeEn, tgN, List.getElem?_cons_zero, List.getElem?_cons_succ, List.set_cons_zero, List.set_cons_succ, List.map_cons, List.map_nil, List.replicate_succ, List.replicate_zero, List.length_cons, List.length_nil, List.cons_append, List.nil_append, Option.map_some, Option.map_none, Option.bind_some, Option.bind_none, Bool.false_eq_true, reduceCtorEq, Nat.reduceAdd, Nat.reduceSub, Nat.reduceEqDiff, reduceIte, decide_true, decide_false, Bool.not_true, Bool.not_false, Bool.and_true, Bool.true_and, Bool.and_false, Bool.false_and, Bool.or_true, Bool.true_or, Bool.or_false, Bool.false_or, rulesB, g1, g2, show (1 : Int) ≤ ((ls.length : Nat) : Int) by omega, show ¬ ((ls.length : Nat) : Int) ≤ 6 by omega]
        · simp only [e_bindX, e_okX, e_varX, e_conX, e_newX, e_op1X, e_op2X, e_andX, e_orX, e_tstX, e_condX, e_andBX, e_orBX, e_notBX, e_ifX, e_chainX, e_nilX, e_consX, e_tupX, e_lstX, e_pkX, e_varPX, e_opPX, e_getX, e_getDX, e_ixPX, e_nonePX, e_somePX, e_slTX, e_slLX, e_pnX, e_fzX, e_owX, e_seqX, e_rg1X, e_rg2X, e_enumX, e_zipX, e_itemsTX, e_d1TX, e_dictTX, e_sortedSetX, e_zipStarX, e_yesX, e_lcX, e_callX, e_nextX, e_breakX, e_retNX, e_neverX, e_seqSX, e_thenX, e_retSX, e_exprSX, e_ifSX, e_setSX, e_asgSX, e_appSX, e_putSX, e_freezeSX, e_parSX, e_par3SX, e_forSX, e_forNil, e_ite, e_iteS, e_onBt, e_blO, e_itemsT, e_itemsL, e_add, e_sub, e_intB, e_lenT, e_lenL, e_leI, e_fnX, e_isi_int_non, e_isi_int_bl, e_isi_int_int, e_isi_int_str, e_isi_int_tup, e_isi_int_lst, e_isi_bool_non, e_isi_bool_bl, e_isi_bool_int, e_isi_bool_str, e_isi_bool_tup, e_isi_bool_lst, e_isi_str_non, e_isi_str_bl, e_isi_str_int, e_isi_str_str, e_isi_str_tup, e_isi_str_lst, e_isi_tuple_non, e_isi_tuple_bl, e_isi_tuple_int, e_isi_tuple_str, e_isi_tuple_tup, e_isi_tuple_lst, e_isi_list_non, e_isi_list_bl, e_isi_list_int, e_isi_list_str, e_isi_list_tup, e_isi_list_lst, e_isN_non, e_isN_bl, e_isN_int, e_isN_str, e_isN_tup, e_isN_lst, e_not, startEn, slCo, toCo, lstO, intO, freezeEn, lenOk_small, wipeEn, tgN, List.getElem?_cons_zero, List.getElem?_cons_succ, List.set_cons_zero, List.set_cons_succ, List.map_cons, List.map_nil, List.replicate_succ, List.replicate_zero, List.length_cons, List.length_nil, List.cons_append, List.nil_append, Option.map_some, Option.map_none, Option.bind_some, Option.bind_none, Bool.false_eq_true, reduceCtorEq, Nat.reduceAdd, Nat.reduceSub, Nat.reduceEqDiff, reduceIte, decide_true, decide_false, Bool.not_true, Bool.not_false, Bool.and_true, Bool.true_and, Bool.and_false, Bool.false_and, Bool.or_true, Bool.true_or, Bool.or_false, Bool.false_or, rulesB, g1, show ¬ (1 : Int) ≤ ((ls.length : Nat) : Int) by omega]
      | non => rfl
      | bl b => rfl
      | int i => rfl
      | str x => rfl
      | lst ds => rfl
      | _ => simp [plainD] at pa
  | non => rfl
  | bl b => rfl
  | int i => rfl
  | str x => rfl
  | lst ds => rfl
  | _ => simp [plainD] at h
theorem mul_someR {i j : Int} (h : -(18446744073709551616) < j ∧ j < 18446744073709551616) : mulD (.int i) (.int j) = some (.int (i * j)) := by
  unfold mulD intI
  have e : smI 18446744073709551616 j = true := smI_iff.mpr (by omega)
  simp only [e, Bool.or_true, if_true]
theorem forCons {g : D → En → Option En} {body : XS} {d : D} {ds : List D} {ρ : En} : forWX g body (d :: ds) ρ = (match g d ρ with | none => none | some ρ' => match body ρ' with | some (.nx ρ2) => forWX g body ds ρ2 | some (.ct ρ2) => forWX g body ds ρ2 | some (.bk ρ2) => some (.nx ρ2) | some (.rt d) => some (.rt d) | some (.ex e ρ) => some (.ex e ρ) | none => none) := by refine Eq.trans ?_ (Eq.refl _); kernel_rfl
theorem power_loop {K : Nat} (hK : K ≤ 1000) (s1 : Sl) : ∀ (ds : List D) (acc : Int) (s3 : Sl), ∃ s3', forWX (tgN 3) (setSX 2 (fzX (op2X mulD (varX 2) (varX 0)))) ds [.fz (.int K), s1, .fz (.int acc), s3] = some (.nx [.fz (.int K), s1, .fz (.int (acc * (K : Int) ^ ds.length)), s3'])
  | [], acc, s3 => ⟨s3, by simp only [e_bindX, e_okX, e_varX, e_conX, e_newX, e_op1X, e_op2X, e_andX, e_orX, e_tstX, e_condX, e_andBX, e_orBX, e_notBX, e_ifX, e_chainX, e_nilX, e_consX, e_tupX, e_lstX, e_pkX, e_varPX, e_opPX, e_getX, e_getDX, e_ixPX, e_nonePX, e_somePX, e_slTX, e_slLX, e_pnX, e_fzX, e_owX, e_seqX, e_rg1X, e_rg2X, e_enumX, e_zipX, e_itemsTX, e_d1TX, e_dictTX, e_sortedSetX, e_zipStarX, e_yesX, e_lcX, e_callX, e_nextX, e_breakX, e_retNX, e_neverX, e_seqSX, e_thenX, e_retSX, e_exprSX, e_ifSX, e_setSX, e_asgSX, e_appSX, e_putSX, e_freezeSX, e_parSX, e_par3SX, e_forSX, e_forNil, e_ite, e_iteS, e_onBt, e_blO, e_itemsT, e_itemsL, e_add, e_sub, e_intB, e_lenT, e_lenL, e_leI, e_fnX, e_isi_int_non, e_isi_int_bl, e_isi_int_int, e_isi_int_str, e_isi_int_tup, e_isi_int_lst, e_isi_bool_non, e_isi_bool_bl, e_isi_bool_int, e_isi_bool_str, e_isi_bool_tup, e_isi_bool_lst, e_isi_str_non, e_isi_str_bl, e_isi_str_int, e_isi_str_str, e_isi_str_tup, e_isi_str_lst, e_isi_tuple_non, e_isi_tuple_bl, e_isi_tuple_int, e_isi_tuple_str, e_isi_tuple_tup, e_isi_tuple_lst, e_isi_list_non, e_isi_list_bl, e_isi_list_int, e_isi_list_str, e_isi_list_tup, e_isi_list_lst, e_isN_non, e_isN_bl, e_isN_int, e_isN_str, e_isN_tup, e_isN_lst, e_not, startEn, slCo, toCo, lstO, intO, freezeEn, lenOk_small, wipeEn, tgN, List.getElem?_cons_zero, List.getElem?_cons_succ, List.set_cons_zero, List.set_cons_succ, List.map_cons, List.map_nil, List.replicate_succ, List.replicate_zero, List.length_cons, List.length_nil, List.cons_append, List.nil_append, Option.map_some, Option.map_none, Option.bind_some, Option.bind_none, Bool.false_eq_true, reduceCtorEq, Nat.reduceAdd, Nat.reduceSub, Nat.reduceEqDiff, reduceIte, decide_true, decide_false, Bool.not_true, Bool.not_false, Bool.and_true, Bool.true_and, Bool.and_false, Bool.false_and, Bool.or_true, Bool.true_or, Bool.or_false, Bool.false_or, Int.pow_zero, Int.mul_one]⟩
  | d :: ds, acc, s3 => by
    obtain ⟨s3', h⟩ := power_loop hK s1 ds (acc * K) (.fz d)
    refine ⟨s3', ?_⟩
    simp only [forCons, e_bindX, e_okX, e_varX, e_conX, e_newX, e_op1X, e_op2X, e_andX, e_orX, e_tstX, e_condX, e_andBX, e_orBX, e_notBX, e_ifX, e_chainX, e_nilX, e_consX, e_tupX, e_lstX, e_pkX, e_varPX, e_opPX, e_getX, e_getDX, e_ixPX, e_nonePX, e_somePX, e_slTX, e_slLX, e_pnX, e_fzX, e_owX, e_seqX, e_rg1X, e_rg2X, e_enumX, e_zipX, e_itemsTX, e_d1TX, e_dictTX, e_sortedSetX, e_zipStarX, e_yesX, e_lcX, e_callX, e_nextX, e_breakX, e_retNX, e_neverX, e_seqSX, e_thenX, e_retSX, e_exprSX, e_ifSX, e_setSX, e_asgSX, e_appSX, e_putSX, e_freezeSX, e_parSX, e_par3SX, e_forSX, e_forNil, e_ite, e_iteS, e_onBt, e_blO, e_itemsT, e_itemsL, e_add, e_sub, e_intB, e_lenT, e_lenL, e_leI, e_fnX, e_isi_int_non, e_isi_int_bl, e_isi_int_int, e_isi_int_str, e_isi_int_tup, e_isi_int_lst, e_isi_bool_non, e_isi_bool_bl, e_isi_bool_int, e_isi_bool_str, e_isi_bool_tup, e_isi_bool_lst, e_isi_str_non, e_isi_str_bl, e_isi_str_int, e_isi_str_str, e_isi_str_tup, e_isi_str_lst, e_isi_tuple_non, e_isi_tuple_bl, e_isi_tuple_int, e_isi_tuple_str, e_isi_tuple_tup, e_isi_tuple_lst, e_isi_list_non, e_isi_list_bl, e_isi_list_int, e_isi_list_str, e_isi_list_tup, e_isi_list_lst, e_isN_non, e_isN_bl, e_isN_int, e_isN_str, e_isN_tup, e_isN_lst, e_not, startEn, slCo, toCo, lstO, intO, freezeEn, lenOk_small, wipeEn, tgN, List.getElem?_cons_zero, List.getElem?_cons_succ, List.set_cons_zero, List.set_cons_succ, List.map_cons, List.map_nil, List.replicate_succ, List.replicate_zero, List.length_cons, List.length_nil, List.cons_append, List.nil_append, Option.map_some, Option.map_none, Option.bind_some, Option.bind_none, Bool.false_eq_true, reduceCtorEq, Nat.reduceAdd, Nat.reduceSub, Nat.reduceEqDiff, reduceIte, decide_true, decide_false, Bool.not_true, Bool.not_false, Bool.and_true, Bool.true_and, Bool.and_false, Bool.false_and, Bool.or_true, Bool.true_or, Bool.or_false, Bool.false_or, mul_someR (i := acc) (j := (K : Int)) (by omega), h]
    rw [Int.mul_assoc, Int.pow_succ, Int.mul_comm (K : Int) ((K : Int) ^ ds.length)]
theorem power_ok {K n : Nat} (hK : K ≤ 1000) (hn : n ≤ 1000) : x_power [.int K, .int n] = some (.ok (.int ((K ^ n : Nat) : Int))) := by
  unfold x_power xb_power
  obtain ⟨s3, h⟩ := power_loop hK (.fz (.int n)) ((List.range n).map intD') 1 .un
  simp only [e_bindX, e_okX, e_varX, e_conX, e_newX, e_op1X, e_op2X, e_andX, e_orX, e_tstX, e_condX, e_andBX, e_orBX, e_notBX, e_ifX, e_chainX, e_nilX, e_consX, e_tupX, e_lstX, e_pkX, e_varPX, e_opPX, e_getX, e_getDX, e_ixPX, e_nonePX, e_somePX, e_slTX, e_slLX, e_pnX, e_fzX, e_owX, e_seqX, e_rg1X, e_rg2X, e_enumX, e_zipX, e_itemsTX, e_d1TX, e_dictTX, e_sortedSetX, e_zipStarX, e_yesX, e_lcX, e_callX, e_nextX, e_breakX, e_retNX, e_neverX, e_seqSX, e_thenX, e_retSX, e_exprSX, e_ifSX, e_setSX, e_asgSX, e_appSX, e_putSX, e_freezeSX, e_parSX, e_par3SX, e_forSX, e_forNil, e_ite, e_iteS, e_onBt, e_blO, e_itemsT, e_itemsL, e_add, e_sub, e_intB, e_lenT, e_lenL, e_leI, e_fnX, e_isi_int_non, e_isi_int_bl, e_isi_int_int, e_isi_int_str, e_isi_int_tup, e_isi_int_lst, e_isi_bool_non, e_isi_bool_bl, e_isi_bool_int, e_isi_bool_str, e_isi_bool_tup, e_isi_bool_lst, e_isi_str_non, e_isi_str_bl, e_isi_str_int, e_isi_str_str, e_isi_str_tup, e_isi_str_lst, e_isi_tuple_non, e_isi_tuple_bl, e_isi_tuple_int, e_isi_tuple_str, e_isi_tuple_tup, e_isi_tuple_lst, e_isi_list_non, e_isi_list_bl, e_isi_list_int, e_isi_list_str, e_isi_list_tup, e_isi_list_lst, e_isN_non, e_isN_bl, e_isN_int, e_isN_str, e_isN_tup, e_isN_lst, e_not, startEn, slCo, toCo, lstO, intO, freezeEn, lenOk_small, wipeEn, tgN, List.getElem?_cons_zero, List.getElem?_cons_succ, List.set_cons_zero, List.set_cons_succ, List.map_cons, List.map_nil, List.replicate_succ, List.replicate_zero, List.length_cons, List.length_nil, List.cons_append, List.nil_append, Option.map_some, Option.map_none, Option.bind_some, Option.bind_none, Bool.false_eq_true, reduceCtorEq, Nat.reduceAdd, Nat.reduceSub, Nat.reduceEqDiff, reduceIte, decide_true, decide_false, Bool.not_true, Bool.not_false, Bool.and_true, Bool.true_and, Bool.and_false, Bool.false_and, Bool.or_true, Bool.true_or, Bool.or_false, Bool.false_or, rg1_nat (show n ≤ 1000000 by omega), h, List.length_map, List.length_range, Int.one_mul]
  rw [Int.natCast_pow]
def sizeB (K : Nat) (d : D) : Bool := match d with
  | .int i => decide (2 ≤ i) && decide (i ≤ 10) && decide (K ^ i.toNat ≤ 729)
  | _ => false
theorem isIn_int {d : D} {lo hi : Int} (h : isIn d lo hi = true) : ∃ i, d = .int i ∧ lo ≤ i ∧ i ≤ hi := by
  cases d with
  | int i => simp only [isIn, Bool.and_eq_true, decide_eq_true_eq] at h; exact ⟨i, rfl, h⟩
  | _ => simp [isIn] at h
theorem size_ok {R d : D} {ls : List D} {rest : List D} (hR : R = .tup (.tup ls :: rest)) (hK : ls.length ≤ 1000) (h : plainD d = true) : x_is_size [R, d] = some (.ok (.bl (sizeB ls.length d))) := by
  subst hR
  unfold x_is_size xb_is_size
  simp only [e_bindX, e_okX, e_varX, e_conX, e_newX, e_op1X, e_op2X, e_andX, e_orX, e_tstX, e_condX, e_andBX, e_orBX, e_notBX, e_ifX, e_chainX, e_nilX, e_consX, e_tupX, e_lstX, e_pkX, e_varPX, e_opPX, e_getX, e_getDX, e_ixPX, e_nonePX, e_somePX, e_slTX, e_slLX, e_pnX, e_fzX, e_owX, e_seqX, e_rg1X, e_rg2X, e_enumX, e_zipX, e_itemsTX, e_d1TX, e_dictTX, e_sortedSetX, e_zipStarX, e_yesX, e_lcX, e_callX, e_nextX, e_breakX, e_retNX, e_neverX, e_seqSX, e_thenX, e_retSX, e_exprSX, e_ifSX, e_setSX, e_asgSX, e_appSX, e_putSX, e_freezeSX, e_parSX, e_par3SX, e_forSX, e_forNil, e_ite, e_iteS, e_onBt, e_blO, e_itemsT, e_itemsL, e_add, e_sub, e_intB, e_lenT, e_lenL, e_leI, e_fnX, e_isi_int_non, e_isi_int_bl, e_isi_int_int, e_isi_int_str, e_isi_int_tup, e_isi_int_lst, e_isi_bool_non, e_isi_bool_bl, e_isi_bool_int, e_isi_bool_str, e_isi_bool_tup, e_isi_bool_lst, e_isi_str_non, e_isi_str_bl, e_isi_str_int, e_isi_str_str, e_isi_str_tup, e_isi_str_lst, e_isi_tuple_non, e_isi_tuple_bl, e_isi_tuple_int, e_isi_tuple_str, e_isi_tuple_tup, e_isi_tuple_lst, e_isi_list_non, e_isi_list_bl, e_isi_list_int, e_isi_list_str, e_isi_list_tup, e_isi_list_lst, e_isN_non, e_isN_bl, e_isN_int, e_isN_str, e_isN_tup, e_isN_lst, e_not, startEn, slCo, toCo, lstO, intO, freezeEn, lenOk_small, wipeEn, tgN, List.getElem?_cons_zero, List.getElem?_cons_succ, List.set_cons_zero, List.set_cons_succ, List.map_cons, List.map_nil, List.replicate_succ, List.replicate_zero, List.length_cons, List.length_nil, List.cons_append, List.nil_append, Option.map_some, Option.map_none, Option.bind_some, Option.bind_none, Bool.false_eq_true, reduceCtorEq, Nat.reduceAdd, Nat.reduceSub, Nat.reduceEqDiff, reduceIte, decide_true, decide_false, Bool.not_true, Bool.not_false, Bool.and_true, Bool.true_and, Bool.and_false, Bool.false_and, Bool.or_true, Bool.true_or, Bool.or_false, Bool.false_or, within_ok h, at0]
  cases hi : isIn d 2 10 with
  | false =>
    simp only [e_bindX, e_okX, e_varX, e_conX, e_newX, e_op1X, e_op2X, e_andX, e_orX, e_tstX, e_condX, e_andBX, e_orBX, e_notBX, e_ifX, e_chainX, e_nilX, e_consX, e_tupX, e_lstX, e_pkX, e_varPX, e_opPX, e_getX, e_getDX, e_ixPX, e_nonePX, e_somePX, e_slTX, e_slLX, e_pnX, e_fzX, e_owX, e_seqX, e_rg1X, e_rg2X, e_enumX, e_zipX, e_itemsTX, e_d1TX, e_dictTX, e_sortedSetX, e_zipStarX, e_yesX, e_lcX, e_callX, e_nextX, e_breakX, e_retNX, e_neverX, e_seqSX, e_thenX, e_retSX, e_exprSX, e_ifSX, e_setSX, e_asgSX, e_appSX, e_putSX, e_freezeSX, e_parSX, e_par3SX, e_forSX, e_forNil, e_ite, e_iteS, e_onBt, e_blO, e_itemsT, e_itemsL, e_add, e_sub, e_intB, e_lenT, e_lenL, e_leI, e_fnX, e_isi_int_non, e_isi_int_bl, e_isi_int_int, e_isi_int_str, e_isi_int_tup, e_isi_int_lst, e_isi_bool_non, e_isi_bool_bl, e_isi_bool_int, e_isi_bool_str, e_isi_bool_tup, e_isi_bool_lst, e_isi_str_non, e_isi_str_bl, e_isi_str_int, e_isi_str_str, e_isi_str_tup, e_isi_str_lst, e_isi_tuple_non, e_isi_tuple_bl, e_isi_tuple_int, e_isi_tuple_str, e_isi_tuple_tup, e_isi_tuple_lst, e_isi_list_non, e_isi_list_bl, e_isi_list_int, e_isi_list_str, e_isi_list_tup, e_isi_list_lst, e_isN_non, e_isN_bl, e_isN_int, e_isN_str, e_isN_tup, e_isN_lst, e_not, startEn, slCo, toCo, lstO, intO, freezeEn, lenOk_small, wipeEn, tgN, List.getElem?_cons_zero, List.getElem?_cons_succ, List.set_cons_zero, List.set_cons_succ, List.map_cons, List.map_nil, List.replicate_succ, List.replicate_zero, List.length_cons, List.length_nil, List.cons_append, List.nil_append, Option.map_some, Option.map_none, Option.bind_some, Option.bind_none, Bool.false_eq_true, reduceCtorEq, Nat.reduceAdd, Nat.reduceSub, Nat.reduceEqDiff, reduceIte, decide_true, decide_false, Bool.not_true, Bool.not_false, Bool.and_true, Bool.true_and, Bool.and_false, Bool.false_and, Bool.or_true, Bool.true_or, Bool.or_false, Bool.false_or]
    have : sizeB ls.length d = false := by
      cases d with
      | int i => simp only [isIn, Bool.and_eq_false_iff, decide_eq_false_iff_not] at hi; simp only [sizeB, Bool.and_eq_false_iff, decide_eq_false_iff_not]; exact .inl hi
      | _ => rfl
    rw [this]
  | true =>
    obtain ⟨i, rfl, h1, h2⟩ := isIn_int hi
    obtain ⟨n, rfl⟩ : ∃ n : Nat, i = n := ⟨i.toNat, by omega⟩
    simp only [e_bindX, e_okX, e_varX, e_conX, e_newX, e_op1X, e_op2X, e_andX, e_orX, e_tstX, e_condX, e_andBX, e_orBX, e_notBX, e_ifX, e_chainX, e_nilX, e_consX, e_tupX, e_lstX, e_pkX, e_varPX, e_opPX, e_getX, e_getDX, e_ixPX, e_nonePX, e_somePX, e_slTX, e_slLX, e_pnX, e_fzX, e_owX, e_seqX, e_rg1X, e_rg2X, e_enumX, e_zipX, e_itemsTX, e_d1TX, e_dictTX, e_sortedSetX, e_zipStarX, e_yesX, e_lcX, e_callX, e_nextX, e_breakX, e_retNX, e_neverX, e_seqSX, e_thenX, e_retSX, e_exprSX, e_ifSX, e_setSX, e_asgSX, e_appSX, e_putSX, e_freezeSX, e_parSX, e_par3SX, e_forSX, e_forNil, e_ite, e_iteS, e_onBt, e_blO, e_itemsT, e_itemsL, e_add, e_sub, e_intB, e_lenT, e_lenL, e_leI, e_fnX, e_isi_int_non, e_isi_int_bl, e_isi_int_int, e_isi_int_str, e_isi_int_tup, e_isi_int_lst, e_isi_bool_non, e_isi_bool_bl, e_isi_bool_int, e_isi_bool_str, e_isi_bool_tup, e_isi_bool_lst, e_isi_str_non, e_isi_str_bl, e_isi_str_int, e_isi_str_str, e_isi_str_tup, e_isi_str_lst, e_isi_tuple_non, e_isi_tuple_bl, e_isi_tuple_int, e_isi_tuple_str, e_isi_tuple_tup, e_isi_tuple_lst, e_isi_list_non, e_isi_list_bl, e_isi_list_int, e_isi_list_str, e_isi_list_tup, e_isi_list_lst, e_isN_non, e_isN_bl, e_isN_int, e_isN_str, e_isN_tup, e_isN_lst, e_not, startEn, slCo, toCo, lstO, intO, freezeEn, lenOk_small, wipeEn, tgN, List.getElem?_cons_zero, List.getElem?_cons_succ, List.set_cons_zero, List.set_cons_succ, List.map_cons, List.map_nil, List.replicate_succ, List.replicate_zero, List.length_cons, List.length_nil, List.cons_append, List.nil_append, Option.map_some, Option.map_none, Option.bind_some, Option.bind_none, Bool.false_eq_true, reduceCtorEq, Nat.reduceAdd, Nat.reduceSub, Nat.reduceEqDiff, reduceIte, decide_true, decide_false, Bool.not_true, Bool.not_false, Bool.and_true, Bool.true_and, Bool.and_false, Bool.false_and, Bool.or_true, Bool.true_or, Bool.or_false, Bool.false_or, power_ok hK (show n ≤ 1000 by omega), sizeB, Int.toNat_natCast, show (2 : Int) ≤ (n : Int) from h1, show (n : Int) ≤ 10 from h2]
    by_cases hp : ls.length ^ n ≤ 729
    · simp only [hp, show (((ls.length ^ n : Nat) : Int)) ≤ 729 by omega, e_bindX, e_okX, e_varX, e_conX, e_newX, e_op1X, e_op2X, e_andX, e_orX, e_tstX, e_condX, e_andBX, e_orBX, e_notBX, e_ifX, e_chainX, e_nilX, e_consX, e_tupX, e_lstX, e_pkX, e_varPX, e_opPX, e_getX, e_getDX, e_ixPX, e_nonePX, e_somePX, e_slTX, e_slLX, e_pnX, e_fzX, e_owX, e_seqX, e_rg1X, e_rg2X, e_enumX, e_zipX, e_itemsTX, e_d1TX, e_dictTX, e_sortedSetX, e_zipStarX, e_yesX, e_lcX, e_callX, e_nextX, e_breakX, e_retNX, e_neverX, e_seqSX, e_thenX, e_retSX, e_exprSX, e_ifSX, e_setSX, e_asgSX, e_appSX, e_putSX, e_freezeSX, e_parSX, e_par3SX, e_forSX, e_forNil, e_ite, e_iteS, e_onBt, e_blO, e_itemsT, e_itemsL, e_add, e_sub, e_intB, e_lenT, e_lenL, e_leI, e_fnX, e_isi_int_non, e_isi_int_bl, e_isi_int_int, e_isi_int_str, e_isi_int_tup, e_isi_int_lst, e_isi_bool_non, e_isi_bool_bl, e_isi_bool_int, e_isi_bool_str, e_isi_bool_tup, e_isi_bool_lst, e_isi_str_non, e_isi_str_bl, e_isi_str_int, e_isi_str_str, e_isi_str_tup, e_isi_str_lst, e_isi_tuple_non, e_isi_tuple_bl, e_isi_tuple_int, e_isi_tuple_str, e_isi_tuple_tup, e_isi_tuple_lst, e_isi_list_non, e_isi_list_bl, e_isi_list_int, e_isi_list_str, e_isi_list_tup, e_isi_list_lst, e_isN_non, e_isN_bl, e_isN_int, e_isN_str, e_isN_tup, e_isN_lst, e_not, startEn, slCo, toCo, lstO, intO, freezeEn, lenOk_small, wipeEn, tgN, List.getElem?_cons_zero, List.getElem?_cons_succ, List.set_cons_zero, List.set_cons_succ, List.map_cons, List.map_nil, List.replicate_succ, List.replicate_zero, List.length_cons, List.length_nil, List.cons_append, List.nil_append, Option.map_some, Option.map_none, Option.bind_some, Option.bind_none, Bool.false_eq_true, reduceCtorEq, Nat.reduceAdd, Nat.reduceSub, Nat.reduceEqDiff, reduceIte, decide_true, decide_false, Bool.not_true, Bool.not_false, Bool.and_true, Bool.true_and, Bool.and_false, Bool.false_and, Bool.or_true, Bool.true_or, Bool.or_false, Bool.false_or]
    · simp only [hp, show ¬ (((ls.length ^ n : Nat) : Int)) ≤ 729 by omega, e_bindX, e_okX, e_varX, e_conX, e_newX, e_op1X, e_op2X, e_andX, e_orX, e_tstX, e_condX, e_andBX, e_orBX, e_notBX, e_ifX, e_chainX, e_nilX, e_consX, e_tupX, e_lstX, e_pkX, e_varPX, e_opPX, e_getX, e_getDX, e_ixPX, e_nonePX, e_somePX, e_slTX, e_slLX, e_pnX, e_fzX, e_owX, e_seqX, e_rg1X, e_rg2X, e_enumX, e_zipX, e_itemsTX, e_d1TX, e_dictTX, e_sortedSetX, e_zipStarX, e_yesX, e_lcX, e_callX, e_nextX, e_breakX, e_retNX, e_neverX, e_seqSX, e_thenX, e_retSX, e_exprSX, e_ifSX, e_setSX, e_asgSX, e_appSX, e_putSX, e_freezeSX, e_parSX, e_par3SX, e_forSX, e_forNil, e_ite, e_iteS, e_onBt, e_blO, e_itemsT, e_itemsL, e_add, e_sub, e_intB, e_lenT, e_lenL, e_leI, e_fnX, e_isi_int_non, e_isi_int_bl, e_isi_int_int, e_isi_int_str, e_isi_int_tup, e_isi_int_lst, e_isi_bool_non, e_isi_bool_bl, e_isi_bool_int, e_isi_bool_str, e_isi_bool_tup, e_isi_bool_lst, e_isi_str_non, e_isi_str_bl, e_isi_str_int, e_isi_str_str, e_isi_str_tup, e_isi_str_lst, e_isi_tuple_non, e_isi_tuple_bl, e_isi_tuple_int, e_isi_tuple_str, e_isi_tuple_tup, e_isi_tuple_lst, e_isi_list_non, e_isi_list_bl, e_isi_list_int, e_isi_list_str, e_isi_list_tup, e_isi_list_lst, e_isN_non, e_isN_bl, e_isN_int, e_isN_str, e_isN_tup, e_isN_lst, e_not, startEn, slCo, toCo, lstO, intO, freezeEn, lenOk_small, wipeEn, tgN, List.getElem?_cons_zero, List.getElem?_cons_succ, List.set_cons_zero, List.set_cons_succ, List.map_cons, List.map_nil, List.replicate_succ, List.replicate_zero, List.length_cons, List.length_nil, List.cons_append, List.nil_append, Option.map_some, Option.map_none, Option.bind_some, Option.bind_none, Bool.false_eq_true, reduceCtorEq, Nat.reduceAdd, Nat.reduceSub, Nat.reduceEqDiff, reduceIte, decide_true, decide_false, Bool.not_true, Bool.not_false, Bool.and_true, Bool.true_and, Bool.and_false, Bool.false_and, Bool.or_true, Bool.true_or, Bool.or_false, Bool.false_or]
def stdB (K : Nat) (d : D) : Bool := match d with
  | .tup ds => sizeB K (.int ds.length) && ds.all fun e => isIn e 0 ((K : Int) - 1)
  | _ => false
theorem standing_ok {R d : D} {ls : List D} {rest : List D} (hR : R = .tup (.tup ls :: rest)) (hK : ls.length ≤ 1000) (h : plainD d = true) : x_is_standing [R, d] = some (.ok (.bl (stdB ls.length d))) := by
  cases d with
  | tup ds =>
    obtain ⟨h1, h2⟩ := plain_tup h
    have hl : lcWX (tgN 2) yesX (callX x_is_within (consX (varX 2) (consX (conX (.int 0)) (consX (op2X subD (op1X lenD (op2X idxD (varX 0) (conX (.int 0)))) (conX (.int 1))) nilX)))) [.fz R, .fz (.tup ds), .un] ds [] = some (.lst ([] ++ ds.map fun d => .bl (isIn d 0 ((ls.length : Int) - 1)))) :=
      lc_map _ ds [] (fun d hd => by
        subst hR
        simp only [e_bindX, e_okX, e_varX, e_conX, e_newX, e_op1X, e_op2X, e_andX, e_orX, e_tstX, e_condX, e_andBX, e_orBX, e_notBX, e_ifX, e_chainX, e_nilX, e_consX, e_tupX, e_lstX, e_pkX, e_varPX, e_opPX, e_getX, e_getDX, e_ixPX, e_nonePX, e_somePX, e_slTX, e_slLX, e_pnX, e_fzX, e_owX, e_seqX, e_rg1X, e_rg2X, e_enumX, e_zipX, e_itemsTX, e_d1TX, e_dictTX, e_sortedSetX, e_zipStarX, e_yesX, e_lcX, e_callX, e_nextX, e_breakX, e_retNX, e_neverX, e_seqSX, e_thenX, e_retSX, e_exprSX, e_ifSX, e_setSX, e_asgSX, e_appSX, e_putSX, e_freezeSX, e_parSX, e_par3SX, e_forSX, e_forNil, e_ite, e_iteS, e_onBt, e_blO, e_itemsT, e_itemsL, e_add, e_sub, e_intB, e_lenT, e_lenL, e_leI, e_fnX, e_isi_int_non, e_isi_int_bl, e_isi_int_int, e_isi_int_str, e_isi_int_tup, e_isi_int_lst, e_isi_bool_non, e_isi_bool_bl, e_isi_bool_int, e_isi_bool_str, e_isi_bool_tup, e_isi_bool_lst, e_isi_str_non, e_isi_str_bl, e_isi_str_int, e_isi_str_str, e_isi_str_tup, e_isi_str_lst, e_isi_tuple_non, e_isi_tuple_bl, e_isi_tuple_int, e_isi_tuple_str, e_isi_tuple_tup, e_isi_tuple_lst, e_isi_list_non, e_isi_list_bl, e_isi_list_int, e_isi_list_str, e_isi_list_tup, e_isi_list_lst, e_isN_non, e_isN_bl, e_isN_int, e_isN_str, e_isN_tup, e_isN_lst, e_not, startEn, slCo, toCo, lstO, intO, freezeEn, lenOk_small, wipeEn, tgN, List.getElem?_cons_zero, List.getElem?_cons_succ, List.set_cons_zero, List.set_cons_succ, List.map_cons, List.map_nil, List.replicate_succ, List.replicate_zero, List.length_cons, List.length_nil, List.cons_append, List.nil_append, Option.map_some, Option.map_none, Option.bind_some, Option.bind_none, Bool.false_eq_true, reduceCtorEq, Nat.reduceAdd, Nat.reduceSub, Nat.reduceEqDiff, reduceIte, decide_true, decide_false, Bool.not_true, Bool.not_false, Bool.and_true, Bool.true_and, Bool.and_false, Bool.false_and, Bool.or_true, Bool.true_or, Bool.or_false, Bool.false_or, at0, within_ok (h2 d hd)]) (size_2000 (by simpa using h1))
    unfold x_is_standing xb_is_standing
    simp only [e_bindX, e_okX, e_varX, e_conX, e_newX, e_op1X, e_op2X, e_andX, e_orX, e_tstX, e_condX, e_andBX, e_orBX, e_notBX, e_ifX, e_chainX, e_nilX, e_consX, e_tupX, e_lstX, e_pkX, e_varPX, e_opPX, e_getX, e_getDX, e_ixPX, e_nonePX, e_somePX, e_slTX, e_slLX, e_pnX, e_fzX, e_owX, e_seqX, e_rg1X, e_rg2X, e_enumX, e_zipX, e_itemsTX, e_d1TX, e_dictTX, e_sortedSetX, e_zipStarX, e_yesX, e_lcX, e_callX, e_nextX, e_breakX, e_retNX, e_neverX, e_seqSX, e_thenX, e_retSX, e_exprSX, e_ifSX, e_setSX, e_asgSX, e_appSX, e_putSX, e_freezeSX, e_parSX, e_par3SX, e_forSX, e_forNil, e_ite, e_iteS, e_onBt, e_blO, e_itemsT, e_itemsL, e_add, e_sub, e_intB, e_lenT, e_lenL, e_leI, e_fnX, e_isi_int_non, e_isi_int_bl, e_isi_int_int, e_isi_int_str, e_isi_int_tup, e_isi_int_lst, e_isi_bool_non, e_isi_bool_bl, e_isi_bool_int, e_isi_bool_str, e_isi_bool_tup, e_isi_bool_lst, e_isi_str_non, e_isi_str_bl, e_isi_str_int, e_isi_str_str, e_isi_str_tup, e_isi_str_lst, e_isi_tuple_non, e_isi_tuple_bl, e_isi_tuple_int, e_isi_tuple_str, e_isi_tuple_tup, e_isi_tuple_lst, e_isi_list_non, e_isi_list_bl, e_isi_list_int, e_isi_list_str, e_isi_list_tup, e_isi_list_lst, e_isN_non, e_isN_bl, e_isN_int, e_isN_str, e_isN_tup, e_isN_lst, e_not, startEn, slCo, toCo, lstO, intO, freezeEn, lenOk_small, wipeEn, tgN, List.getElem?_cons_zero, List.getElem?_cons_succ, List.set_cons_zero, List.set_cons_succ, List.map_cons, List.map_nil, List.replicate_succ, List.replicate_zero, List.length_cons, List.length_nil, List.cons_append, List.nil_append, Option.map_some, Option.map_none, Option.bind_some, Option.bind_none, Bool.false_eq_true, reduceCtorEq, Nat.reduceAdd, Nat.reduceSub, Nat.reduceEqDiff, reduceIte, decide_true, decide_false, Bool.not_true, Bool.not_false, Bool.and_true, Bool.true_and, Bool.and_false, Bool.false_and, Bool.or_true, Bool.true_or, Bool.or_false, Bool.false_or, size_ok hR hK (d := .int (ds.length : Nat)) rfl, stdB]
    cases sizeB ls.length (.int (ds.length : Nat)) <;> simp only [e_bindX, e_okX, e_varX, e_conX, e_newX, e_op1X, e_op2X, e_andX, e_orX, e_tstX, e_condX, e_andBX, e_orBX, e_notBX, e_ifX, e_chainX, e_nilX, e_consX, e_tupX, e_lstX, e_pkX, e_varPX, e_opPX, e_getX, e_getDX, e_ixPX, e_nonePX, e_somePX, e_slTX, e_slLX, e_pnX, e_fzX, e_owX, e_seqX, e_rg1X, e_rg2X, e_enumX, e_zipX, e_itemsTX, e_d1TX, e_dictTX, e_sortedSetX, e_zipStarX, e_yesX, e_lcX, e_callX, e_nextX, e_breakX, e_retNX, e_neverX, e_seqSX, e_thenX, e_retSX, e_exprSX, e_ifSX, e_setSX, e_asgSX, e_appSX, e_putSX, e_freezeSX, e_parSX, e_par3SX, e_forSX, e_forNil, e_ite, e_iteS, e_onBt, e_blO, e_itemsT, e_itemsL, e_add, e_sub, e_intB, e_lenT, e_lenL, e_leI, e_fnX, e_isi_int_non, e_isi_int_bl, e_isi_int_int, e_isi_int_str, e_isi_int_tup, e_isi_int_lst, e_isi_bool_non, e_isi_bool_bl, e_isi_bool_int, e_isi_bool_str, e_isi_bool_tup, e_isi_bool_lst, e_isi_str_non, e_isi_str_bl, e_isi_str_int, e_isi_str_str, e_isi_str_tup, e_isi_str_lst, e_isi_tuple_non, e_isi_tuple_bl, e_isi_tuple_int, e_isi_tuple_str, e_isi_tuple_tup, e_isi_tuple_lst, e_isi_list_non, e_isi_list_bl, e_isi_list_int, e_isi_list_str, e_isi_list_tup, e_isi_list_lst, e_isN_non, e_isN_bl, e_isN_int, e_isN_str, e_isN_tup, e_isN_lst, e_not, startEn, slCo, toCo, lstO, intO, freezeEn, lenOk_small, wipeEn, tgN, List.getElem?_cons_zero, List.getElem?_cons_succ, List.set_cons_zero, List.set_cons_succ, List.map_cons, List.map_nil, List.replicate_succ, List.replicate_zero, List.length_cons, List.length_nil, List.cons_append, List.nil_append, Option.map_some, Option.map_none, Option.bind_some, Option.bind_none, Bool.false_eq_true, reduceCtorEq, Nat.reduceAdd, Nat.reduceSub, Nat.reduceEqDiff, reduceIte, decide_true, decide_false, Bool.not_true, Bool.not_false, Bool.and_true, Bool.true_and, Bool.and_false, Bool.false_and, Bool.or_true, Bool.true_or, Bool.or_false, Bool.false_or, hl, all_map]
  | non => rfl
  | bl b => rfl
  | int i => rfl
  | str x => rfl
  | lst ds => rfl
  | _ => simp [plainD] at h
end HK

set_option Elab.async false
set_option linter.all false
set_option maxRecDepth 100000
set_option maxHeartbeats 4000000
/-! part PLo -/
namespace HK
open PySem PySem.Spec L2 DL DM
theorem plain_tupI {ds : List D} (h1 : ds.length ≤ 2000) (h2 : ∀ d ∈ ds, plainD d = true) : plainD (.tup ds) = true := by
  unfold plainD
  simp only [Bool.and_eq_true, decide_eq_true_eq, plainDs_iff]
  exact ⟨h1, h2⟩
theorem plain_encE (o : Option Int) : plainD (encE o) = true := by cases o <;> rfl
theorem plain_std {st : List Int} (h : st.length ≤ 2000) : plainD (tupOf st) = true := plain_tupI (by simpa using h) fun d hd => by
  obtain ⟨i, _, rfl⟩ := List.mem_map.mp hd
  rfl
section
variable {R : Rules} {K : Nat}
theorem plain_encL {l : List (Option Int)} (h : l.length ≤ 2000) : plainD (encL l) = true := plain_tupI (by simpa using h) fun d hd => by
  obtain ⟨i, _, rfl⟩ := List.mem_map.mp hd
  exact plain_encE i
theorem plain_encP {p : Part} (h : p.length ≤ 2000) (h2 : ∀ l ∈ p, l.length ≤ 2000) : plainD (encP p) = true := plain_tupI (by simpa using h) fun d hd => by
  obtain ⟨i, hi, rfl⟩ := List.mem_map.mp hd
  exact plain_encL (h2 i hi)
theorem VR.len0 (v : VR R K) : R.1.length = K := v.1
theorem plain_encR (v : VR R K) : plainD (encR R) = true := plain_tupI (by show 2 ≤ 2000; omega) fun d hd => by
  have h5 : K ≤ 60 := v.5
  have p0 := v.part 0
  have p1 := v.part 1
  have e0 : part R 0 = R.1 := rfl
  have e1 : part R 1 = R.2 := rfl
  rw [e0] at p0
  rw [e1] at p1
  rcases List.mem_cons.mp hd with rfl | hd
  · exact plain_encP (by omega) fun l hl => by have := (p0.2 l hl).1; omega
  · rcases List.mem_cons.mp hd with rfl | hd
    · exact plain_encP (by omega) fun l hl => by have := (p1.2 l hl).1; omega
    · cases hd
theorem lineB_enc {l : List (Option Int)} (h : l.length = K ∧ ∀ i, some i ∈ l → 0 ≤ i ∧ i < K) : lineB (encL l) K = true := by
  unfold encL lineB
  simp only [Bool.and_eq_true, List.length_map, beq_iff_eq, List.all_eq_true]
  refine ⟨h.1, fun d hd => ?_⟩
  obtain ⟨o, ho, rfl⟩ := List.mem_map.mp hd
  cases o with
  | none => rfl
  | some i =>
    have := h.2 i ho
    simp only [encE, e_isN_int, Bool.false_or, isIn, Bool.and_eq_true, decide_eq_true_eq]
    omega
theorem partB_enc {p : Part} (h : p.length = K ∧ ∀ l ∈ p, l.length = K ∧ ∀ i, some i ∈ l → 0 ≤ i ∧ i < K) : partB (encP p) K = true := by
  unfold encP partB
  simp only [Bool.and_eq_true, List.length_map, beq_iff_eq, List.all_eq_true]
  refine ⟨h.1, fun d hd => ?_⟩
  obtain ⟨o, ho, rfl⟩ := List.mem_map.mp hd
  exact lineB_enc (h.2 o ho)
theorem rulesB_enc (v : VR R K) (h1 : 1 ≤ K) (h2 : K ≤ 6) : rulesB (encR R) = true := by
  have p0 := partB_enc (v.part 0)
  have p1 := partB_enc (v.part 1)
  have l0 : R.1.length = K := v.1
  show rulesB (.tup [.tup (R.1.map encL), encP R.2]) = true
  unfold rulesB
  simp only [List.length_map, l0, Bool.and_eq_true, decide_eq_true_eq]
  exact ⟨⟨⟨h1, h2⟩, p0⟩, p1⟩
theorem need_rules_ok {d : D} (h : plainD d = true) (hb : rulesB d = true) : x_need_rules [d] = some (.ok .non) := by
  unfold x_need_rules xb_need_rules
  simp only [e_bindX, e_okX, e_varX, e_conX, e_newX, e_op1X, e_op2X, e_andX, e_orX, e_tstX, e_condX, e_andBX, e_orBX, e_notBX, e_ifX, e_chainX, e_nilX, e_consX, e_tupX, e_lstX, e_pkX, e_varPX, e_opPX, e_getX, e_getDX, e_ixPX, e_nonePX, e_somePX, e_slTX, e_slLX, e_pnX, e_fzX, e_owX, e_seqX, e_rg1X, e_rg2X, e_enumX, e_zipX, e_itemsTX, e_d1TX, e_dictTX, e_sortedSetX, e_zipStarX, e_yesX, e_lcX, e_callX, e_nextX, e_breakX, e_retNX, e_neverX, e_seqSX, e_thenX, e_retSX, e_exprSX, e_ifSX, e_setSX, e_asgSX, e_appSX, e_putSX, e_freezeSX, e_parSX, e_par3SX, e_forSX, e_forNil, e_ite, e_iteS, e_onBt, e_blO, e_itemsT, e_itemsL, e_add, e_sub, e_intB, e_lenT, e_lenL, e_leI, e_fnX, e_isi_int_non, e_isi_int_bl, e_isi_int_int, e_isi_int_str, e_isi_int_tup, e_isi_int_lst, e_isi_bool_non, e_isi_bool_bl, e_isi_bool_int, e_isi_bool_str, e_isi_bool_tup, e_isi_bool_lst, e_isi_str_non, e_isi_str_bl, e_isi_str_int, e_isi_str_str, e_isi_str_tup, e_isi_str_lst, e_isi_tuple_non, e_isi_tuple_bl, e_isi_tuple_int, e_isi_tuple_str, e_isi_tuple_tup, e_isi_tuple_lst, e_isi_list_non, e_isi_list_bl, e_isi_list_int, e_isi_list_str, e_isi_list_tup, e_isi_list_lst, e_isN_non, e_isN_bl, e_isN_int, e_isN_str, e_isN_tup, e_isN_lst, e_not, startEn, slCo, toCo, lstO, intO, freezeEn, lenOk_small, wipeEn, tgN, List.getElem?_cons_zero, List.getElem?_cons_succ, List.set_cons_zero, List.set_cons_succ, List.map_cons, List.map_nil, List.replicate_succ, List.replicate_zero, List.length_cons, List.length_nil, List.cons_append, List.nil_append, Option.map_some, Option.map_none, Option.bind_some, Option.bind_none, Bool.false_eq_true, reduceCtorEq, Nat.reduceAdd, Nat.reduceSub, Nat.reduceEqDiff, reduceIte, decide_true, decide_false, Bool.not_true, Bool.not_false, Bool.and_true, Bool.true_and, Bool.and_false, Bool.false_and, Bool.or_true, Bool.true_or, Bool.or_false, Bool.false_or, areRules_ok h, hb]
theorem stdB_enc {st : List Int} (h1 : 2 ≤ st.length) (h2 : st.length ≤ 10) (h3 : K ^ st.length ≤ 729) (h : ∀ x ∈ st, 0 ≤ x ∧ x < K) : stdB K (tupOf st) = true := by
  show stdB K (.tup (st.map D.int)) = true
  unfold stdB sizeB
  simp only [Bool.and_eq_true, List.length_map, decide_eq_true_eq, List.all_eq_true, Int.toNat_natCast]
  refine ⟨⟨⟨by omega, by omega⟩, h3⟩, fun d hd => ?_⟩
  obtain ⟨i, hi, rfl⟩ := List.mem_map.mp hd
  have := h i hi
  simp only [isIn, Bool.and_eq_true, decide_eq_true_eq]
  omega
theorem need_standing_ok {st : List Int} (v : VR R K) (k1 : 1 ≤ K) (k2 : K ≤ 6) (h1 : 2 ≤ st.length) (h2 : st.length ≤ 10) (h3 : K ^ st.length ≤ 729) (h : ∀ x ∈ st, 0 ≤ x ∧ x < K) : x_need_standing [encR R, tupOf st] = some (.ok .non) := by
  have l0 : (R.1.map encL).length = K := (List.length_map ..).trans v.1
  unfold x_need_standing xb_need_standing
  simp only [e_bindX, e_okX, e_varX, e_conX, e_newX, e_op1X, e_op2X, e_andX, e_orX, e_tstX, e_condX, e_andBX, e_orBX, e_notBX, e_ifX, e_chainX, e_nilX, e_consX, e_tupX, e_lstX, e_pkX, e_varPX, e_opPX, e_getX, e_getDX, e_ixPX, e_nonePX, e_somePX, e_slTX, e_slLX, e_pnX, e_fzX, e_owX, e_seqX, e_rg1X, e_rg2X, e_enumX, e_zipX, e_itemsTX, e_d1TX, e_dictTX, e_sortedSetX, e_zipStarX, e_yesX, e_lcX, e_callX, e_nextX, e_breakX, e_retNX, e_neverX, e_seqSX, e_thenX, e_retSX, e_exprSX, e_ifSX, e_setSX, e_asgSX, e_appSX, e_putSX, e_freezeSX, e_parSX, e_par3SX, e_forSX, e_forNil, e_ite, e_iteS, e_onBt, e_blO, e_itemsT, e_itemsL, e_add, e_sub, e_intB, e_lenT, e_lenL, e_leI, e_fnX, e_isi_int_non, e_isi_int_bl, e_isi_int_int, e_isi_int_str, e_isi_int_tup, e_isi_int_lst, e_isi_bool_non, e_isi_bool_bl, e_isi_bool_int, e_isi_bool_str, e_isi_bool_tup, e_isi_bool_lst, e_isi_str_non, e_isi_str_bl, e_isi_str_int, e_isi_str_str, e_isi_str_tup, e_isi_str_lst, e_isi_tuple_non, e_isi_tuple_bl, e_isi_tuple_int, e_isi_tuple_str, e_isi_tuple_tup, e_isi_tuple_lst, e_isi_list_non, e_isi_list_bl, e_isi_list_int, e_isi_list_str, e_isi_list_tup, e_isi_list_lst, e_isN_non, e_isN_bl, e_isN_int, e_isN_str, e_isN_tup, e_isN_lst, e_not, startEn, slCo, toCo, lstO, intO, freezeEn, lenOk_small, wipeEn, tgN, List.getElem?_cons_zero, List.getElem?_cons_succ, List.set_cons_zero, List.set_cons_succ, List.map_cons, List.map_nil, List.replicate_succ, List.replicate_zero, List.length_cons, List.length_nil, List.cons_append, List.nil_append, Option.map_some, Option.map_none, Option.bind_some, Option.bind_none, Bool.false_eq_true, reduceCtorEq, Nat.reduceAdd, Nat.reduceSub, Nat.reduceEqDiff, reduceIte, decide_true, decide_false, Bool.not_true, Bool.not_false, Bool.and_true, Bool.true_and, Bool.and_false, Bool.false_and, Bool.or_true, Bool.true_or, Bool.or_false, Bool.false_or, need_rules_ok (plain_encR v) (rulesB_enc v k1 k2), standing_ok (R := encR R) (ls := R.1.map encL) (rest := [encP R.2]) rfl (by omega) (plain_std (st := st) (by omega)), l0, stdB_enc h1 h2 h3 h]
theorem movers_call {st : List Int} (v : VR R K) (k1 : 1 ≤ K) (k2 : K ≤ 6) (h1 : 2 ≤ st.length) (h2 : st.length ≤ 10) (h3 : K ^ st.length ≤ 729) (h : ∀ x ∈ st, 0 ≤ x ∧ x < K) : x_movers [encR R, tupOf st] = some (.ok (.lst ((moversF R st).map intD'))) := by
  unfold x_movers xb_movers
  simp only [e_bindX, e_okX, e_varX, e_conX, e_newX, e_op1X, e_op2X, e_andX, e_orX, e_tstX, e_condX, e_andBX, e_orBX, e_notBX, e_ifX, e_chainX, e_nilX, e_consX, e_tupX, e_lstX, e_pkX, e_varPX, e_opPX, e_getX, e_getDX, e_ixPX, e_nonePX, e_somePX, e_slTX, e_slLX, e_pnX, e_fzX, e_owX, e_seqX, e_rg1X, e_rg2X, e_enumX, e_zipX, e_itemsTX, e_d1TX, e_dictTX, e_sortedSetX, e_zipStarX, e_yesX, e_lcX, e_callX, e_nextX, e_breakX, e_retNX, e_neverX, e_seqSX, e_thenX, e_retSX, e_exprSX, e_ifSX, e_setSX, e_asgSX, e_appSX, e_putSX, e_freezeSX, e_parSX, e_par3SX, e_forSX, e_forNil, e_ite, e_iteS, e_onBt, e_blO, e_itemsT, e_itemsL, e_add, e_sub, e_intB, e_lenT, e_lenL, e_leI, e_fnX, e_isi_int_non, e_isi_int_bl, e_isi_int_int, e_isi_int_str, e_isi_int_tup, e_isi_int_lst, e_isi_bool_non, e_isi_bool_bl, e_isi_bool_int, e_isi_bool_str, e_isi_bool_tup, e_isi_bool_lst, e_isi_str_non, e_isi_str_bl, e_isi_str_int, e_isi_str_str, e_isi_str_tup, e_isi_str_lst, e_isi_tuple_non, e_isi_tuple_bl, e_isi_tuple_int, e_isi_tuple_str, e_isi_tuple_tup, e_isi_tuple_lst, e_isi_list_non, e_isi_list_bl, e_isi_list_int, e_isi_list_str, e_isi_list_tup, e_isi_list_lst, e_isN_non, e_isN_bl, e_isN_int, e_isN_str, e_isN_tup, e_isN_lst, e_not, startEn, slCo, toCo, lstO, intO, freezeEn, lenOk_small, wipeEn, tgN, List.getElem?_cons_zero, List.getElem?_cons_succ, List.set_cons_zero, List.set_cons_succ, List.map_cons, List.map_nil, List.replicate_succ, List.replicate_zero, List.length_cons, List.length_nil, List.cons_append, List.nil_append, Option.map_some, Option.map_none, Option.bind_some, Option.bind_none, Bool.false_eq_true, reduceCtorEq, Nat.reduceAdd, Nat.reduceSub, Nat.reduceEqDiff, reduceIte, decide_true, decide_false, Bool.not_true, Bool.not_false, Bool.and_true, Bool.true_and, Bool.and_false, Bool.false_and, Bool.or_true, Bool.true_or, Bool.or_false, Bool.false_or, need_standing_ok v k1 k2 h1 h2 h3 h, movers_ok v ⟨h, by omega, by omega⟩]
theorem is_right_call {st : List Int} {b : Bool} (v : VR R K) (k1 : 1 ≤ K) (k2 : K ≤ 6) (h1 : 2 ≤ st.length) (h2 : st.length ≤ 10) (h3 : K ^ st.length ≤ 729) (h : ∀ x ∈ st, 0 ≤ x ∧ x < K) (hr : rightO R 1000 [] st = some b) : x_is_right [encR R, tupOf st] = some (.ok (.bl b)) := by
  unfold x_is_right xb_is_right
  simp only [e_bindX, e_okX, e_varX, e_conX, e_newX, e_op1X, e_op2X, e_andX, e_orX, e_tstX, e_condX, e_andBX, e_orBX, e_notBX, e_ifX, e_chainX, e_nilX, e_consX, e_tupX, e_lstX, e_pkX, e_varPX, e_opPX, e_getX, e_getDX, e_ixPX, e_nonePX, e_somePX, e_slTX, e_slLX, e_pnX, e_fzX, e_owX, e_seqX, e_rg1X, e_rg2X, e_enumX, e_zipX, e_itemsTX, e_d1TX, e_dictTX, e_sortedSetX, e_zipStarX, e_yesX, e_lcX, e_callX, e_nextX, e_breakX, e_retNX, e_neverX, e_seqSX, e_thenX, e_retSX, e_exprSX, e_ifSX, e_setSX, e_asgSX, e_appSX, e_putSX, e_freezeSX, e_parSX, e_par3SX, e_forSX, e_forNil, e_ite, e_iteS, e_onBt, e_blO, e_itemsT, e_itemsL, e_add, e_sub, e_intB, e_lenT, e_lenL, e_leI, e_fnX, e_isi_int_non, e_isi_int_bl, e_isi_int_int, e_isi_int_str, e_isi_int_tup, e_isi_int_lst, e_isi_bool_non, e_isi_bool_bl, e_isi_bool_int, e_isi_bool_str, e_isi_bool_tup, e_isi_bool_lst, e_isi_str_non, e_isi_str_bl, e_isi_str_int, e_isi_str_str, e_isi_str_tup, e_isi_str_lst, e_isi_tuple_non, e_isi_tuple_bl, e_isi_tuple_int, e_isi_tuple_str, e_isi_tuple_tup, e_isi_tuple_lst, e_isi_list_non, e_isi_list_bl, e_isi_list_int, e_isi_list_str, e_isi_list_tup, e_isi_list_lst, e_isN_non, e_isN_bl, e_isN_int, e_isN_str, e_isN_tup, e_isN_lst, e_not, startEn, slCo, toCo, lstO, intO, freezeEn, lenOk_small, wipeEn, tgN, List.getElem?_cons_zero, List.getElem?_cons_succ, List.set_cons_zero, List.set_cons_succ, List.map_cons, List.map_nil, List.replicate_succ, List.replicate_zero, List.length_cons, List.length_nil, List.cons_append, List.nil_append, Option.map_some, Option.map_none, Option.bind_some, Option.bind_none, Bool.false_eq_true, reduceCtorEq, Nat.reduceAdd, Nat.reduceSub, Nat.reduceEqDiff, reduceIte, decide_true, decide_false, Bool.not_true, Bool.not_false, Bool.and_true, Bool.true_and, Bool.and_false, Bool.false_and, Bool.or_true, Bool.true_or, Bool.or_false, Bool.false_or, need_standing_ok v k1 k2 h1 h2 h3 h, right_ok v ⟨h, by omega, by omega⟩ hr]
end
end HK

set_option Elab.async false
set_option linter.all false
set_option maxRecDepth 100000
set_option maxHeartbeats 4000000
/-! part PLk -/
namespace HK
open PySem PySem.Spec L2 DL DM
theorem d__law_deck {G : Gx} (T : Tx G) (S : Deck G.M G.K) : FnD G 1 "_law_deck" (C__law_deck S) := by
  obtain ⟨f, fd, h1, h2⟩ := T.d__law_deck
  refine fn_D (ps := P__law_deck) h1 h2 sc__law_deck (fun _ _ _ _ _ _ us hl => match us, hl with | [_, _], _ => rfl) fun W => ⟨b__law_deck S, w__law_deck T S W, fun ds μ Q E h => ?_⟩
  obtain ⟨cell, turn, rfl, q⟩ := h
  refine ⟨rfl, ?_⟩
  have e18 : op2X powD (conX (.int 10)) (conX (.int 18)) [.fz (.int cell), .fz (.int turn)] = some (.ok (.int 1000000000000000000)) := op2_ok rfl rfl (by kernel_rfl)
  have md : op2X modD (varX 0) (conX (.int 2147483579)) [.fz (.int cell), .fz (.int turn)] = some (.ok (.int (cell % 2147483579))) := op2_ok (x := .int cell) (y := .int 2147483579) rfl rfl (by
    unfold modD intI
    rfl)
  have b1 : 0 ≤ cell % 2147483579 := Int.emod_nonneg _ (by decide)
  have b2 : cell % 2147483579 < 2147483579 := Int.emod_lt_of_pos _ (by decide)
  have t := tst_ok (op2_ok (g := intB fun i j => decide (j ≤ i)) (a := varX 0) (x := .int cell) (ρ := [.fz (.int cell), .fz (.int turn)]) rfl e18 (ge_int _ _))
  show b__law_deck (c := defCtx G N__law_deck (defScope s__law_deck) 0 W) S _ [.fz (.int cell), .fz (.int turn)] μ
  unfold b__law_deck seqS ifS
  refine lf_ok t ?_
  cases hb : decide ((1000000000000000000 : Int) ≤ cell) with
  | true =>
    simp only [if_true]
    have sb : op2X subD (varX 0) (op2X powD (conX (.int 10)) (conX (.int 18))) [.fz (.int cell), .fz (.int turn)] = some (.ok (.int (cell - 1000000000000000000))) := op2_ok (x := .int cell) rfl e18 rfl
    have hl : lstX (consX (op2X subD (varX 0) (op2X powD (conX (.int 10)) (conX (.int 18)))) (consX (op2X modD (varX 0) (conX (.int 2147483579))) (consX (varX 1) nilX))) [.fz (.int cell), .fz (.int turn)] = some (.ok (.lst [.int (cell - 1000000000000000000), .int (cell % 2147483579), .int turn])) := by
      unfold lstX
      rw [bind_ok (cons_ok sb (cons_ok md (cons_ok (d := .int turn) rfl rfl)))]
      rfl
    unfold retDk
    exact lf_ok hl ⟨_, _, _, rfl, fun a => q a _ _ b1 b2⟩
  | false =>
    simp only [Bool.false_eq_true, if_false]
    have hl : lstX (consX (conX (.int 0)) (consX (op2X modD (varX 0) (conX (.int 2147483579))) (consX (varX 1) nilX))) [.fz (.int cell), .fz (.int turn)] = some (.ok (.lst [.int 0, .int (cell % 2147483579), .int turn])) := by
      unfold lstX
      rw [bind_ok (cons_ok (d := .int 0) rfl (cons_ok md (cons_ok (d := .int turn) rfl rfl)))]
      rfl
    refine lfS_nx rfl ?_
    dsimp only
    unfold retDk
    exact lf_ok hl ⟨_, _, _, rfl, fun a => q a _ _ b1 b2⟩
end HK

set_option Elab.async false
set_option linter.all false
set_option maxRecDepth 1000000
set_option maxHeartbeats 0
namespace HK
open PySem PySem.Spec L2 DL DM
def cod (K : Nat) (s : List Int) : Nat := s.foldl (fun c x => c * K + x.toNat) 0
def zOk (R : Rules) (K n : Nat) (w : Way) (Z : List (List Int)) : Bool := Z.all fun s => s.length == n && s.all (fun x => decide (0 ≤ x) && decide (x < K)) && !rgt R s && ((stepsF R w s).isEmpty || (stepsF R w s).any fun t => Z.contains t)
theorem zOk_of {R : Rules} {K n : Nat} {w : Way} {Z : List (List Int)} (h : zOk R K n w Z = true) : ∀ s ∈ Z, s.length = n ∧ (∀ x ∈ s, 0 ≤ x ∧ x < K) ∧ rgt R s = false ∧ (stepsF R w s = [] ∨ ∃ t ∈ stepsF R w s, t ∈ Z) := fun s hs => by
  have := List.all_eq_true.mp h s hs
  simp only [Bool.and_eq_true, Bool.or_eq_true, beq_iff_eq, List.all_eq_true, decide_eq_true_eq, Bool.not_eq_true', List.any_eq_true, List.contains_iff_mem, List.isEmpty_iff] at this
  exact ⟨this.1.1.1, this.1.1.2, this.1.2, this.2⟩
def lnOk (K : Nat) (l : List (Option Int)) : Bool := l.length == K && l.all fun o => match o with
  | none => true
  | some i => decide (0 ≤ i) && decide (i < K)
def vOk (R : Rules) (K : Nat) : Bool := R.1.length == K && R.2.length == K && R.1.all (lnOk K) && R.2.all (lnOk K) && decide (K ≤ 60)
theorem lnOk_of {K : Nat} {l : List (Option Int)} (h : lnOk K l = true) : l.length = K ∧ ∀ i, some i ∈ l → 0 ≤ i ∧ i < K := by
  have h := Bool.and_eq_true_iff.mp h
  refine ⟨eq_of_beq h.1, fun i hi => ?_⟩
  have := Bool.and_eq_true_iff.mp (List.all_eq_true.mp h.2 _ hi)
  exact ⟨of_decide_eq_true this.1, of_decide_eq_true this.2⟩
theorem vOk_of {R : Rules} {K : Nat} (h : vOk R K = true) : VR R K := by
  unfold vOk at h
  simp only [Bool.and_eq_true, beq_iff_eq, decide_eq_true_eq] at h
  obtain ⟨⟨⟨⟨a, b⟩, c⟩, d⟩, e⟩ := h
  exact ⟨a, b, fun l hl => lnOk_of (List.all_eq_true.mp c l hl), fun l hl => lnOk_of (List.all_eq_true.mp d l hl), e⟩
def dj1 : Rules := ([[some 0]], [[none]])
theorem vdj1 : VR dj1 1 := vOk_of (by decide)
def dj2 : Rules := ([[some 1, none], [none, some 0]], [[none, some 0], [some 1, none]])
theorem vdj2 : VR dj2 2 := vOk_of (by decide)
def dj3 : Rules := ([[some 1, none, none], [none, some 2, none], [none, none, some 0]], [[none, some 0, some 0], [some 1, none, some 1], [some 2, some 2, none]])
theorem vdj3 : VR dj3 3 := vOk_of (by decide)
def dj4 : Rules := ([[some 1, none, none, none], [none, some 2, none, none], [none, none, some 3, none], [none, none, none, some 0]], [[none, some 0, some 0, some 0], [some 1, none, some 1, some 1], [some 2, some 2, none, some 2], [some 3, some 3, some 3, none]])
theorem vdj4 : VR dj4 4 := vOk_of (by decide)
def dj6 : Rules := ([[some 1, none, none, none, none, none], [none, some 2, none, none, none, none], [none, none, some 3, none, none, none], [none, none, none, some 4, none, none], [none, none, none, none, some 5, none], [none, none, none, none, none, some 0]], [[none, some 0, some 0, some 0, some 0, some 0], [some 1, none, some 1, some 1, some 1, some 1], [some 2, some 2, none, some 2, some 2, some 2], [some 3, some 3, some 3, none, some 3, some 3], [some 4, some 4, some 4, some 4, none, some 4], [some 5, some 5, some 5, some 5, some 5, none]])
theorem vdj6 : VR dj6 6 := vOk_of (by decide)
def rkm_1_2_one (s : List Int) : Nat := Nat.land (Nat.shiftRight 0 (8 * cod 1 s)) 255
theorem m_1_2_one : x_mends [encR dj1, .int 2, (Way.one).d] = some (.ok (.bl true)) :=
  mends_true (K := 1) (n := 2) rkm_1_2_one vdj1 (by decide) (by decide) (by decide) (by kernel_rfl) (by kernel_rfl) (List.all_eq_true.mp (by kernel_rfl))
def rkm_1_2_all (s : List Int) : Nat := Nat.land (Nat.shiftRight 0 (8 * cod 1 s)) 255
theorem m_1_2_all : x_mends [encR dj1, .int 2, (Way.all).d] = some (.ok (.bl true)) :=
  mends_true (K := 1) (n := 2) rkm_1_2_all vdj1 (by decide) (by decide) (by decide) (by kernel_rfl) (by kernel_rfl) (List.all_eq_true.mp (by kernel_rfl))
def rkm_1_3_one (s : List Int) : Nat := Nat.land (Nat.shiftRight 0 (8 * cod 1 s)) 255
theorem m_1_3_one : x_mends [encR dj1, .int 3, (Way.one).d] = some (.ok (.bl true)) :=
  mends_true (K := 1) (n := 3) rkm_1_3_one vdj1 (by decide) (by decide) (by decide) (by kernel_rfl) (by kernel_rfl) (List.all_eq_true.mp (by kernel_rfl))
def rkm_1_3_all (s : List Int) : Nat := Nat.land (Nat.shiftRight 0 (8 * cod 1 s)) 255
theorem m_1_3_all : x_mends [encR dj1, .int 3, (Way.all).d] = some (.ok (.bl true)) :=
  mends_true (K := 1) (n := 3) rkm_1_3_all vdj1 (by decide) (by decide) (by decide) (by kernel_rfl) (by kernel_rfl) (List.all_eq_true.mp (by kernel_rfl))
def rkm_1_4_one (s : List Int) : Nat := Nat.land (Nat.shiftRight 0 (8 * cod 1 s)) 255
theorem m_1_4_one : x_mends [encR dj1, .int 4, (Way.one).d] = some (.ok (.bl true)) :=
  mends_true (K := 1) (n := 4) rkm_1_4_one vdj1 (by decide) (by decide) (by decide) (by kernel_rfl) (by kernel_rfl) (List.all_eq_true.mp (by kernel_rfl))
def rkm_1_4_all (s : List Int) : Nat := Nat.land (Nat.shiftRight 0 (8 * cod 1 s)) 255
theorem m_1_4_all : x_mends [encR dj1, .int 4, (Way.all).d] = some (.ok (.bl true)) :=
  mends_true (K := 1) (n := 4) rkm_1_4_all vdj1 (by decide) (by decide) (by decide) (by kernel_rfl) (by kernel_rfl) (List.all_eq_true.mp (by kernel_rfl))
def rkm_1_5_one (s : List Int) : Nat := Nat.land (Nat.shiftRight 0 (8 * cod 1 s)) 255
theorem m_1_5_one : x_mends [encR dj1, .int 5, (Way.one).d] = some (.ok (.bl true)) :=
  mends_true (K := 1) (n := 5) rkm_1_5_one vdj1 (by decide) (by decide) (by decide) (by kernel_rfl) (by kernel_rfl) (List.all_eq_true.mp (by kernel_rfl))
def rkm_1_5_all (s : List Int) : Nat := Nat.land (Nat.shiftRight 0 (8 * cod 1 s)) 255
theorem m_1_5_all : x_mends [encR dj1, .int 5, (Way.all).d] = some (.ok (.bl true)) :=
  mends_true (K := 1) (n := 5) rkm_1_5_all vdj1 (by decide) (by decide) (by decide) (by kernel_rfl) (by kernel_rfl) (List.all_eq_true.mp (by kernel_rfl))
def rkm_1_6_one (s : List Int) : Nat := Nat.land (Nat.shiftRight 0 (8 * cod 1 s)) 255
theorem m_1_6_one : x_mends [encR dj1, .int 6, (Way.one).d] = some (.ok (.bl true)) :=
  mends_true (K := 1) (n := 6) rkm_1_6_one vdj1 (by decide) (by decide) (by decide) (by kernel_rfl) (by kernel_rfl) (List.all_eq_true.mp (by kernel_rfl))
def rkm_1_6_all (s : List Int) : Nat := Nat.land (Nat.shiftRight 0 (8 * cod 1 s)) 255
theorem m_1_6_all : x_mends [encR dj1, .int 6, (Way.all).d] = some (.ok (.bl true)) :=
  mends_true (K := 1) (n := 6) rkm_1_6_all vdj1 (by decide) (by decide) (by decide) (by kernel_rfl) (by kernel_rfl) (List.all_eq_true.mp (by kernel_rfl))
def rkm_1_7_one (s : List Int) : Nat := Nat.land (Nat.shiftRight 0 (8 * cod 1 s)) 255
theorem m_1_7_one : x_mends [encR dj1, .int 7, (Way.one).d] = some (.ok (.bl true)) :=
  mends_true (K := 1) (n := 7) rkm_1_7_one vdj1 (by decide) (by decide) (by decide) (by kernel_rfl) (by kernel_rfl) (List.all_eq_true.mp (by kernel_rfl))
def rkm_1_7_all (s : List Int) : Nat := Nat.land (Nat.shiftRight 0 (8 * cod 1 s)) 255
theorem m_1_7_all : x_mends [encR dj1, .int 7, (Way.all).d] = some (.ok (.bl true)) :=
  mends_true (K := 1) (n := 7) rkm_1_7_all vdj1 (by decide) (by decide) (by decide) (by kernel_rfl) (by kernel_rfl) (List.all_eq_true.mp (by kernel_rfl))
def rkm_1_8_one (s : List Int) : Nat := Nat.land (Nat.shiftRight 0 (8 * cod 1 s)) 255
theorem m_1_8_one : x_mends [encR dj1, .int 8, (Way.one).d] = some (.ok (.bl true)) :=
  mends_true (K := 1) (n := 8) rkm_1_8_one vdj1 (by decide) (by decide) (by decide) (by kernel_rfl) (by kernel_rfl) (List.all_eq_true.mp (by kernel_rfl))
def rkm_1_8_all (s : List Int) : Nat := Nat.land (Nat.shiftRight 0 (8 * cod 1 s)) 255
theorem m_1_8_all : x_mends [encR dj1, .int 8, (Way.all).d] = some (.ok (.bl true)) :=
  mends_true (K := 1) (n := 8) rkm_1_8_all vdj1 (by decide) (by decide) (by decide) (by kernel_rfl) (by kernel_rfl) (List.all_eq_true.mp (by kernel_rfl))
def rkm_1_9_one (s : List Int) : Nat := Nat.land (Nat.shiftRight 0 (8 * cod 1 s)) 255
theorem m_1_9_one : x_mends [encR dj1, .int 9, (Way.one).d] = some (.ok (.bl true)) :=
  mends_true (K := 1) (n := 9) rkm_1_9_one vdj1 (by decide) (by decide) (by decide) (by kernel_rfl) (by kernel_rfl) (List.all_eq_true.mp (by kernel_rfl))
def rkm_1_9_all (s : List Int) : Nat := Nat.land (Nat.shiftRight 0 (8 * cod 1 s)) 255
theorem m_1_9_all : x_mends [encR dj1, .int 9, (Way.all).d] = some (.ok (.bl true)) :=
  mends_true (K := 1) (n := 9) rkm_1_9_all vdj1 (by decide) (by decide) (by decide) (by kernel_rfl) (by kernel_rfl) (List.all_eq_true.mp (by kernel_rfl))
def rkm_1_10_one (s : List Int) : Nat := Nat.land (Nat.shiftRight 0 (8 * cod 1 s)) 255
theorem m_1_10_one : x_mends [encR dj1, .int 10, (Way.one).d] = some (.ok (.bl true)) :=
  mends_true (K := 1) (n := 10) rkm_1_10_one vdj1 (by decide) (by decide) (by decide) (by kernel_rfl) (by kernel_rfl) (List.all_eq_true.mp (by kernel_rfl))
def rkm_1_10_all (s : List Int) : Nat := Nat.land (Nat.shiftRight 0 (8 * cod 1 s)) 255
theorem m_1_10_all : x_mends [encR dj1, .int 10, (Way.all).d] = some (.ok (.bl true)) :=
  mends_true (K := 1) (n := 10) rkm_1_10_all vdj1 (by decide) (by decide) (by decide) (by kernel_rfl) (by kernel_rfl) (List.all_eq_true.mp (by kernel_rfl))
def rkm_2_2_one (s : List Int) : Nat := Nat.land (Nat.shiftRight 0 (8 * cod 2 s)) 255
theorem m_2_2_one : x_mends [encR dj2, .int 2, (Way.one).d] = some (.ok (.bl true)) :=
  mends_true (K := 2) (n := 2) rkm_2_2_one vdj2 (by decide) (by decide) (by decide) (by kernel_rfl) (by kernel_rfl) (List.all_eq_true.mp (by kernel_rfl))
def rkm_2_2_all (s : List Int) : Nat := Nat.land (Nat.shiftRight 0 (8 * cod 2 s)) 255
theorem m_2_2_all : x_mends [encR dj2, .int 2, (Way.all).d] = some (.ok (.bl true)) :=
  mends_true (K := 2) (n := 2) rkm_2_2_all vdj2 (by decide) (by decide) (by decide) (by kernel_rfl) (by kernel_rfl) (List.all_eq_true.mp (by kernel_rfl))
def rkm_2_2_some (s : List Int) : Nat := Nat.land (Nat.shiftRight 0 (8 * cod 2 s)) 255
theorem m_2_2_some : x_mends [encR dj2, .int 2, (Way.some).d] = some (.ok (.bl true)) :=
  mends_true (K := 2) (n := 2) rkm_2_2_some vdj2 (by decide) (by decide) (by decide) (by kernel_rfl) (by kernel_rfl) (List.all_eq_true.mp (by kernel_rfl))
def rkm_2_3_one (s : List Int) : Nat := Nat.land (Nat.shiftRight 1099511693312 (8 * cod 2 s)) 255
theorem m_2_3_one : x_mends [encR dj2, .int 3, (Way.one).d] = some (.ok (.bl true)) :=
  mends_true (K := 2) (n := 3) rkm_2_3_one vdj2 (by decide) (by decide) (by decide) (by kernel_rfl) (by kernel_rfl) (List.all_eq_true.mp (by kernel_rfl))
def zm_2_4_one : List (List Int) := [[0, 0, 1, 0], [1, 0, 1, 0], [1, 0, 1, 1], [1, 0, 0, 1], [1, 1, 0, 1], [0, 1, 0, 1], [0, 1, 0, 0], [0, 1, 1, 0]]
theorem m_2_4_one : x_mends [encR dj2, .int 4, (Way.one).d] = some (.ok (.bl false)) :=
  mends_false (K := 2) (n := 4) zm_2_4_one vdj2 (by decide) (by decide) (by decide) (by kernel_rfl) (by kernel_rfl) (List.all_eq_true.mp (by kernel_rfl)) (by decide) (zOk_of (by kernel_rfl))
def zm_2_5_one : List (List Int) := [[0, 0, 0, 1, 0], [1, 0, 0, 1, 0], [1, 0, 0, 1, 1], [1, 0, 0, 0, 1], [1, 1, 0, 0, 1], [0, 1, 0, 0, 1], [0, 1, 0, 0, 0], [0, 1, 1, 0, 0], [0, 0, 1, 0, 0], [0, 0, 1, 1, 0]]
theorem m_2_5_one : x_mends [encR dj2, .int 5, (Way.one).d] = some (.ok (.bl false)) :=
  mends_false (K := 2) (n := 5) zm_2_5_one vdj2 (by decide) (by decide) (by decide) (by kernel_rfl) (by kernel_rfl) (List.all_eq_true.mp (by kernel_rfl)) (by decide) (zOk_of (by kernel_rfl))
def zm_2_6_one : List (List Int) := [[0, 0, 0, 0, 1, 0], [1, 0, 0, 0, 1, 0], [1, 0, 0, 0, 1, 1], [1, 0, 0, 0, 0, 1], [1, 1, 0, 0, 0, 1], [0, 1, 0, 0, 0, 1], [0, 1, 0, 0, 0, 0], [0, 1, 1, 0, 0, 0], [0, 0, 1, 0, 0, 0], [0, 0, 1, 1, 0, 0], [0, 0, 0, 1, 0, 0], [0, 0, 0, 1, 1, 0]]
theorem m_2_6_one : x_mends [encR dj2, .int 6, (Way.one).d] = some (.ok (.bl false)) :=
  mends_false (K := 2) (n := 6) zm_2_6_one vdj2 (by decide) (by decide) (by decide) (by kernel_rfl) (by kernel_rfl) (List.all_eq_true.mp (by kernel_rfl)) (by decide) (zOk_of (by kernel_rfl))
def zm_2_7_one : List (List Int) := [[0, 0, 0, 0, 0, 1, 0], [1, 0, 0, 0, 0, 1, 0], [1, 0, 0, 0, 0, 1, 1], [1, 0, 0, 0, 0, 0, 1], [1, 1, 0, 0, 0, 0, 1], [0, 1, 0, 0, 0, 0, 1], [0, 1, 0, 0, 0, 0, 0], [0, 1, 1, 0, 0, 0, 0], [0, 0, 1, 0, 0, 0, 0], [0, 0, 1, 1, 0, 0, 0], [0, 0, 0, 1, 0, 0, 0], [0, 0, 0, 1, 1, 0, 0], [0, 0, 0, 0, 1, 0, 0], [0, 0, 0, 0, 1, 1, 0]]
theorem m_2_7_one : x_mends [encR dj2, .int 7, (Way.one).d] = some (.ok (.bl false)) :=
  mends_false (K := 2) (n := 7) zm_2_7_one vdj2 (by decide) (by decide) (by decide) (by kernel_rfl) (by kernel_rfl) (List.all_eq_true.mp (by kernel_rfl)) (by decide) (zOk_of (by kernel_rfl))
def zm_2_8_one : List (List Int) := [[0, 0, 0, 0, 0, 0, 1, 0], [1, 0, 0, 0, 0, 0, 1, 0], [1, 0, 0, 0, 0, 0, 1, 1], [1, 0, 0, 0, 0, 0, 0, 1], [1, 1, 0, 0, 0, 0, 0, 1], [0, 1, 0, 0, 0, 0, 0, 1], [0, 1, 0, 0, 0, 0, 0, 0], [0, 1, 1, 0, 0, 0, 0, 0], [0, 0, 1, 0, 0, 0, 0, 0], [0, 0, 1, 1, 0, 0, 0, 0], [0, 0, 0, 1, 0, 0, 0, 0], [0, 0, 0, 1, 1, 0, 0, 0], [0, 0, 0, 0, 1, 0, 0, 0], [0, 0, 0, 0, 1, 1, 0, 0], [0, 0, 0, 0, 0, 1, 0, 0], [0, 0, 0, 0, 0, 1, 1, 0]]
theorem m_2_8_one : x_mends [encR dj2, .int 8, (Way.one).d] = some (.ok (.bl false)) :=
  mends_false (K := 2) (n := 8) zm_2_8_one vdj2 (by decide) (by decide) (by decide) (by kernel_rfl) (by kernel_rfl) (List.all_eq_true.mp (by kernel_rfl)) (by decide) (zOk_of (by kernel_rfl))
def zm_2_9_one : List (List Int) := [[0, 0, 0, 0, 0, 0, 0, 1, 0], [1, 0, 0, 0, 0, 0, 0, 1, 0], [1, 0, 0, 0, 0, 0, 0, 1, 1], [1, 0, 0, 0, 0, 0, 0, 0, 1], [1, 1, 0, 0, 0, 0, 0, 0, 1], [0, 1, 0, 0, 0, 0, 0, 0, 1], [0, 1, 0, 0, 0, 0, 0, 0, 0], [0, 1, 1, 0, 0, 0, 0, 0, 0], [0, 0, 1, 0, 0, 0, 0, 0, 0], [0, 0, 1, 1, 0, 0, 0, 0, 0], [0, 0, 0, 1, 0, 0, 0, 0, 0], [0, 0, 0, 1, 1, 0, 0, 0, 0], [0, 0, 0, 0, 1, 0, 0, 0, 0], [0, 0, 0, 0, 1, 1, 0, 0, 0], [0, 0, 0, 0, 0, 1, 0, 0, 0], [0, 0, 0, 0, 0, 1, 1, 0, 0], [0, 0, 0, 0, 0, 0, 1, 0, 0], [0, 0, 0, 0, 0, 0, 1, 1, 0]]
theorem m_2_9_one : x_mends [encR dj2, .int 9, (Way.one).d] = some (.ok (.bl false)) :=
  mends_false (K := 2) (n := 9) zm_2_9_one vdj2 (by decide) (by decide) (by decide) (by kernel_rfl) (by kernel_rfl) (List.all_eq_true.mp (by kernel_rfl)) (by decide) (zOk_of (by kernel_rfl))
def rkm_3_2_one (s : List Int) : Nat := Nat.land (Nat.shiftRight 0 (8 * cod 3 s)) 255
theorem m_3_2_one : x_mends [encR dj3, .int 2, (Way.one).d] = some (.ok (.bl true)) :=
  mends_true (K := 3) (n := 2) rkm_3_2_one vdj3 (by decide) (by decide) (by decide) (by kernel_rfl) (by kernel_rfl) (List.all_eq_true.mp (by kernel_rfl))
def rkm_3_2_all (s : List Int) : Nat := Nat.land (Nat.shiftRight 0 (8 * cod 3 s)) 255
theorem m_3_2_all : x_mends [encR dj3, .int 2, (Way.all).d] = some (.ok (.bl true)) :=
  mends_true (K := 3) (n := 2) rkm_3_2_all vdj3 (by decide) (by decide) (by decide) (by kernel_rfl) (by kernel_rfl) (List.all_eq_true.mp (by kernel_rfl))
def rkm_3_2_some (s : List Int) : Nat := Nat.land (Nat.shiftRight 0 (8 * cod 3 s)) 255
theorem m_3_2_some : x_mends [encR dj3, .int 2, (Way.some).d] = some (.ok (.bl true)) :=
  mends_true (K := 3) (n := 2) rkm_3_2_some vdj3 (by decide) (by decide) (by decide) (by kernel_rfl) (by kernel_rfl) (List.all_eq_true.mp (by kernel_rfl))
def rkm_3_3_one (s : List Int) : Nat := Nat.land (Nat.shiftRight 49040232919338228621952517657080328036145294492712304640 (8 * cod 3 s)) 255
theorem m_3_3_one : x_mends [encR dj3, .int 3, (Way.one).d] = some (.ok (.bl true)) :=
  mends_true (K := 3) (n := 3) rkm_3_3_one vdj3 (by decide) (by decide) (by decide) (by kernel_rfl) (by kernel_rfl) (List.all_eq_true.mp (by kernel_rfl))
def rkm_3_3_all (s : List Int) : Nat := Nat.land (Nat.shiftRight 49040235842341503964323087906326920395460548668147367936 (8 * cod 3 s)) 255
theorem m_3_3_all : x_mends [encR dj3, .int 3, (Way.all).d] = some (.ok (.bl true)) :=
  mends_true (K := 3) (n := 3) rkm_3_3_all vdj3 (by decide) (by decide) (by decide) (by kernel_rfl) (by kernel_rfl) (List.all_eq_true.mp (by kernel_rfl))
def rkm_3_3_some (s : List Int) : Nat := Nat.land (Nat.shiftRight 49040235842341503964323087906326920395460548668147367936 (8 * cod 3 s)) 255
theorem m_3_3_some : x_mends [encR dj3, .int 3, (Way.some).d] = some (.ok (.bl true)) :=
  mends_true (K := 3) (n := 3) rkm_3_3_some vdj3 (by decide) (by decide) (by decide) (by kernel_rfl) (by kernel_rfl) (List.all_eq_true.mp (by kernel_rfl))
def rkm_3_4_one (s : List Int) : Nat := Nat.land (Nat.shiftRight 1359717557071222748138474302535102276335155147980033738560236725934188627914556756741227685426612100030325707450518509184853149419789327256766080536876362375830724481553207407032555012096 (8 * cod 3 s)) 255
theorem m_3_4_one : x_mends [encR dj3, .int 4, (Way.one).d] = some (.ok (.bl true)) :=
  mends_true (K := 3) (n := 4) rkm_3_4_one vdj3 (by decide) (by decide) (by decide) (by kernel_rfl) (by kernel_rfl) (List.all_eq_true.mp (by kernel_rfl))
def zm_3_5_one : List (List Int) := [[0, 0, 2, 1, 0], [1, 0, 2, 1, 0], [1, 0, 2, 1, 1], [1, 0, 2, 2, 1], [1, 0, 0, 2, 1], [1, 1, 0, 2, 1], [2, 1, 0, 2, 1], [2, 1, 0, 2, 2], [2, 1, 0, 0, 2], [2, 1, 1, 0, 2], [2, 2, 1, 0, 2], [0, 2, 1, 0, 2], [0, 2, 1, 0, 0], [0, 2, 1, 1, 0], [0, 2, 2, 1, 0]]
theorem m_3_5_one : x_mends [encR dj3, .int 5, (Way.one).d] = some (.ok (.bl false)) :=
  mends_false (K := 3) (n := 5) zm_3_5_one vdj3 (by decide) (by decide) (by decide) (by kernel_rfl) (by kernel_rfl) (List.all_eq_true.mp (by kernel_rfl)) (by decide) (zOk_of (by kernel_rfl))
def zm_3_6_one : List (List Int) := [[0, 0, 0, 2, 1, 0], [1, 0, 0, 2, 1, 0], [1, 0, 0, 2, 1, 1], [1, 0, 0, 2, 2, 1], [1, 0, 0, 0, 2, 1], [1, 1, 0, 0, 2, 1], [1, 1, 1, 0, 2, 1], [2, 1, 1, 0, 2, 1], [2, 1, 1, 0, 2, 2], [2, 1, 1, 0, 0, 2], [2, 1, 1, 1, 0, 2], [2, 2, 1, 1, 0, 2], [0, 2, 1, 1, 0, 2], [0, 2, 1, 1, 0, 0], [0, 2, 1, 1, 1, 0], [0, 2, 2, 1, 1, 0], [0, 0, 2, 1, 1, 0], [0, 0, 2, 2, 1, 0]]
theorem m_3_6_one : x_mends [encR dj3, .int 6, (Way.one).d] = some (.ok (.bl false)) :=
  mends_false (K := 3) (n := 6) zm_3_6_one vdj3 (by decide) (by decide) (by decide) (by kernel_rfl) (by kernel_rfl) (List.all_eq_true.mp (by kernel_rfl)) (by decide) (zOk_of (by kernel_rfl))
def rkm_4_4_one (s : List Int) : Nat := Nat.land (Nat.shiftRight 146961179269809523691502136418986728915097165118903492185356531705398755565362361477841214156098361278027887100200037810447809065461527829514463520936042052023728531915237044862391796027278787579844974196484628779922104015083699968885175168040524450001236088072790808723462944206352874643524098244758926588053161325652947451707892760816799759942895181588486514951784008243220043047193581759478769102982303750392427830119126184073135430758730700341986115139249982208659096002484699538753700123303734986572937603030541903137801512999112838750609072125953814213373456457627000147678762913443956346026691919872 (8 * cod 4 s)) 255
theorem m_4_4_one : x_mends [encR dj4, .int 4, (Way.one).d] = some (.ok (.bl true)) :=
  mends_true (K := 4) (n := 4) rkm_4_4_one vdj4 (by decide) (by decide) (by decide) (by kernel_rfl) (by kernel_rfl) (List.all_eq_true.mp (by kernel_rfl))
def rkm_4_4_all (s : List Int) : Nat := Nat.land (Nat.shiftRight 58784741852216599548190529282919414475414045227146465422617905504003135482461071477404869908738464066769292185058055702985625369294419839544831987781519775257757329457338480146710113598954344350612000106935979944038989222881229331144711939325340649716426077520166659493581790993179046013547422796758112020411864247027259261753486349601989213766873518025480278959476187049538854889054036707268660625064244201142766113177655023461628276653945363863044387999464460872041787699921380721942061833214455094985897271225833714541010170171279048093226644464096260383967550326956745594097768605890757007672006934528 (8 * cod 4 s)) 255
theorem m_4_4_all : x_mends [encR dj4, .int 4, (Way.all).d] = some (.ok (.bl true)) :=
  mends_true (K := 4) (n := 4) rkm_4_4_all vdj4 (by decide) (by decide) (by decide) (by kernel_rfl) (by kernel_rfl) (List.all_eq_true.mp (by kernel_rfl))
def rkm_4_4_some (s : List Int) : Nat := Nat.land (Nat.shiftRight 146961179269809523691502136418986728915097165118903492185356531705398755565362361477841214156098361278027887100200037810447809065461527829514463520936042052023728531915237044862391796027278787579844974196484628779922104015083699968885175168040524450001236088072790808723462944206352874643524098244758926588053161325652947451707892760816799759942895181588486514951784008243220043047193581759478769102982303750392427830119126184073135430758730700341986115139249982208659096002484699538753700123303734986572937603030541903137801512999112838750609072125953814213373456457627000147678762913443956346026691919872 (8 * cod 4 s)) 255
theorem m_4_4_some : x_mends [encR dj4, .int 4, (Way.some).d] = some (.ok (.bl true)) :=
  mends_true (K := 4) (n := 4) rkm_4_4_some vdj4 (by decide) (by decide) (by decide) (by kernel_rfl) (by kernel_rfl) (List.all_eq_true.mp (by kernel_rfl))
def rkm_4_3_one (s : List Int) : Nat := Nat.land (Nat.shiftRight 24388847352585351660869487941718811587524195400988041048005547341764595019637905350965442333394911485147891167429559693330669495983016220033024 (8 * cod 4 s)) 255
theorem m_4_3_one : x_mends [encR dj4, .int 3, (Way.one).d] = some (.ok (.bl true)) :=
  mends_true (K := 4) (n := 3) rkm_4_3_one vdj4 (by decide) (by decide) (by decide) (by kernel_rfl) (by kernel_rfl) (List.all_eq_true.mp (by kernel_rfl))
def rkm_4_3_all (s : List Int) : Nat := Nat.land (Nat.shiftRight 24388847352585351662191599879300511239230406219666262541727912848251173807672244004501932137362939218903052452514368881957430909174609547886592 (8 * cod 4 s)) 255
theorem m_4_3_all : x_mends [encR dj4, .int 3, (Way.all).d] = some (.ok (.bl true)) :=
  mends_true (K := 4) (n := 3) rkm_4_3_all vdj4 (by decide) (by decide) (by decide) (by kernel_rfl) (by kernel_rfl) (List.all_eq_true.mp (by kernel_rfl))
def rkm_4_3_some (s : List Int) : Nat := Nat.land (Nat.shiftRight 24388847352585351662191599879300511239230406219666262541727912848251173807672244004501932137362939218903052452514368881957430909174609547886592 (8 * cod 4 s)) 255
theorem m_4_3_some : x_mends [encR dj4, .int 3, (Way.some).d] = some (.ok (.bl true)) :=
  mends_true (K := 4) (n := 3) rkm_4_3_some vdj4 (by decide) (by decide) (by decide) (by kernel_rfl) (by kernel_rfl) (List.all_eq_true.mp (by kernel_rfl))
def rkm_6_3_one (s : List Int) : Nat := Nat.land (Nat.shiftRight 419938867056533426983591226845543869879241679844717602588620076383292380115937806594057423977573369693902053456000621058447208743509065956454655509359389887012108543609566619063152833635155937799602374372710450150329108107232569667156321588376740249802493779304973344639789706422649579248200530709583818862989352697421658003989310838924689544174059154025634163885666505349886893167645841810008858912758781153765621586726931475780346490760971163133001348459378320515873101075514712774477561947394957901824 (8 * cod 6 s)) 255
theorem m_6_3_one : x_mends [encR dj6, .int 3, (Way.one).d] = some (.ok (.bl true)) :=
  mends_true (K := 6) (n := 3) rkm_6_3_one vdj6 (by decide) (by decide) (by decide) (by kernel_rfl) (by kernel_rfl) (List.all_eq_true.mp (by kernel_rfl))
def rkm_6_3_all (s : List Int) : Nat := Nat.land (Nat.shiftRight 419938867056533426983591226845543869879241679844717602588686975992115076876562475299348550312524126100227711593010750577453416971921484188985338154703250602837806362862636440669104118656186606173710633822765535874004931611842823939084771864638185404760965519294755506196093832164222807271661354400642754916185094436168689839485245521674091001182615413638144570654047750711211864834954983973006687148669281876262755858967121735039493153297962013411538179801375225138992762498678668176852913540483604545536 (8 * cod 6 s)) 255
theorem m_6_3_all : x_mends [encR dj6, .int 3, (Way.all).d] = some (.ok (.bl true)) :=
  mends_true (K := 6) (n := 3) rkm_6_3_all vdj6 (by decide) (by decide) (by decide) (by kernel_rfl) (by kernel_rfl) (List.all_eq_true.mp (by kernel_rfl))
def rkm_6_3_some (s : List Int) : Nat := Nat.land (Nat.shiftRight 419938867056533426983591226845543869879241679844717602588686975992115076876562475299348550312524126100227711593010750577453416971921484188985338154703250602837806362862636440669104118656186606173710633822765535874004931611842823939084771864638185404760965519294755506196093832164222807271661354400642754916185094436168689839485245521674091001182615413638144570654047750711211864834954983973006687148669281876262755858967121735039493153297962013411538179801375225138992762498678668176852913540483604545536 (8 * cod 6 s)) 255
theorem m_6_3_some : x_mends [encR dj6, .int 3, (Way.some).d] = some (.ok (.bl true)) :=
  mends_true (K := 6) (n := 3) rkm_6_3_some vdj6 (by decide) (by decide) (by decide) (by kernel_rfl) (by kernel_rfl) (List.all_eq_true.mp (by kernel_rfl))
theorem r_1_2 : x__law_right [.int 1, .int 2] = some (.ok (.bl true)) :=
  right_of (R := encR dj1) (by kernel_rfl) m_1_2_one (by decide) (fun _ => m_1_2_all) (fun h => absurd h (by decide)) (by kernel_rfl) (by kernel_rfl)
theorem r_1_3 : x__law_right [.int 1, .int 3] = some (.ok (.bl true)) :=
  right_of (R := encR dj1) (by kernel_rfl) m_1_3_one (by decide) (fun _ => m_1_3_all) (fun h => absurd h (by decide)) (by kernel_rfl) (by kernel_rfl)
theorem r_1_4 : x__law_right [.int 1, .int 4] = some (.ok (.bl true)) :=
  right_of (R := encR dj1) (by kernel_rfl) m_1_4_one (by decide) (fun _ => m_1_4_all) (fun h => absurd h (by decide)) (by kernel_rfl) (by kernel_rfl)
theorem r_1_5 : x__law_right [.int 1, .int 5] = some (.ok (.bl true)) :=
  right_of (R := encR dj1) (by kernel_rfl) m_1_5_one (by decide) (fun _ => m_1_5_all) (fun h => absurd h (by decide)) (by kernel_rfl) (by kernel_rfl)
theorem r_1_6 : x__law_right [.int 1, .int 6] = some (.ok (.bl true)) :=
  right_of (R := encR dj1) (by kernel_rfl) m_1_6_one (by decide) (fun _ => m_1_6_all) (fun h => absurd h (by decide)) (by kernel_rfl) (by kernel_rfl)
theorem r_1_7 : x__law_right [.int 1, .int 7] = some (.ok (.bl true)) :=
  right_of (R := encR dj1) (by kernel_rfl) m_1_7_one (by decide) (fun _ => m_1_7_all) (fun h => absurd h (by decide)) (by kernel_rfl) (by kernel_rfl)
theorem r_1_8 : x__law_right [.int 1, .int 8] = some (.ok (.bl true)) :=
  right_of (R := encR dj1) (by kernel_rfl) m_1_8_one (by decide) (fun _ => m_1_8_all) (fun h => absurd h (by decide)) (by kernel_rfl) (by kernel_rfl)
theorem r_1_9 : x__law_right [.int 1, .int 9] = some (.ok (.bl true)) :=
  right_of (R := encR dj1) (by kernel_rfl) m_1_9_one (by decide) (fun _ => m_1_9_all) (fun h => absurd h (by decide)) (by kernel_rfl) (by kernel_rfl)
theorem r_1_10 : x__law_right [.int 1, .int 10] = some (.ok (.bl true)) :=
  right_of (R := encR dj1) (by kernel_rfl) m_1_10_one (by decide) (fun _ => m_1_10_all) (fun h => absurd h (by decide)) (by kernel_rfl) (by kernel_rfl)
theorem r_2_2 : x__law_right [.int 2, .int 2] = some (.ok (.bl true)) :=
  right_of (R := encR dj2) (by kernel_rfl) m_2_2_one (by decide) (fun _ => m_2_2_all) (fun _ => m_2_2_some) (by kernel_rfl) (by kernel_rfl)
theorem r_2_3 : x__law_right [.int 2, .int 3] = some (.ok (.bl true)) :=
  right_of (R := encR dj2) (by kernel_rfl) m_2_3_one (by decide) (fun h => absurd h (by decide)) (fun h => absurd h (by decide)) (by kernel_rfl) (by kernel_rfl)
theorem r_2_4 : x__law_right [.int 2, .int 4] = some (.ok (.bl true)) :=
  right_of (R := encR dj2) (by kernel_rfl) m_2_4_one (by decide) (fun h => absurd h (by decide)) (fun h => absurd h (by decide)) (by kernel_rfl) (by kernel_rfl)
theorem r_2_5 : x__law_right [.int 2, .int 5] = some (.ok (.bl true)) :=
  right_of (R := encR dj2) (by kernel_rfl) m_2_5_one (by decide) (fun h => absurd h (by decide)) (fun h => absurd h (by decide)) (by kernel_rfl) (by kernel_rfl)
theorem r_2_6 : x__law_right [.int 2, .int 6] = some (.ok (.bl true)) :=
  right_of (R := encR dj2) (by kernel_rfl) m_2_6_one (by decide) (fun h => absurd h (by decide)) (fun h => absurd h (by decide)) (by kernel_rfl) (by kernel_rfl)
theorem r_2_7 : x__law_right [.int 2, .int 7] = some (.ok (.bl true)) :=
  right_of (R := encR dj2) (by kernel_rfl) m_2_7_one (by decide) (fun h => absurd h (by decide)) (fun h => absurd h (by decide)) (by kernel_rfl) (by kernel_rfl)
theorem r_2_8 : x__law_right [.int 2, .int 8] = some (.ok (.bl true)) :=
  right_of (R := encR dj2) (by kernel_rfl) m_2_8_one (by decide) (fun h => absurd h (by decide)) (fun h => absurd h (by decide)) (by kernel_rfl) (by kernel_rfl)
theorem r_2_9 : x__law_right [.int 2, .int 9] = some (.ok (.bl true)) :=
  right_of (R := encR dj2) (by kernel_rfl) m_2_9_one (by decide) (fun h => absurd h (by decide)) (fun h => absurd h (by decide)) (by kernel_rfl) (by kernel_rfl)
theorem r_3_2 : x__law_right [.int 3, .int 2] = some (.ok (.bl true)) :=
  right_of (R := encR dj3) (by kernel_rfl) m_3_2_one (by decide) (fun _ => m_3_2_all) (fun _ => m_3_2_some) (by kernel_rfl) (by kernel_rfl)
theorem r_3_3 : x__law_right [.int 3, .int 3] = some (.ok (.bl true)) :=
  right_of (R := encR dj3) (by kernel_rfl) m_3_3_one (by decide) (fun _ => m_3_3_all) (fun _ => m_3_3_some) (by kernel_rfl) (by kernel_rfl)
theorem r_3_4 : x__law_right [.int 3, .int 4] = some (.ok (.bl true)) :=
  right_of (R := encR dj3) (by kernel_rfl) m_3_4_one (by decide) (fun h => absurd h (by decide)) (fun h => absurd h (by decide)) (by kernel_rfl) (by kernel_rfl)
theorem r_3_5 : x__law_right [.int 3, .int 5] = some (.ok (.bl true)) :=
  right_of (R := encR dj3) (by kernel_rfl) m_3_5_one (by decide) (fun h => absurd h (by decide)) (fun h => absurd h (by decide)) (by kernel_rfl) (by kernel_rfl)
theorem r_3_6 : x__law_right [.int 3, .int 6] = some (.ok (.bl true)) :=
  right_of (R := encR dj3) (by kernel_rfl) m_3_6_one (by decide) (fun h => absurd h (by decide)) (fun h => absurd h (by decide)) (by kernel_rfl) (by kernel_rfl)
theorem r_4_4 : x__law_right [.int 4, .int 4] = some (.ok (.bl true)) :=
  right_of (R := encR dj4) (by kernel_rfl) m_4_4_one (by decide) (fun _ => m_4_4_all) (fun _ => m_4_4_some) (by kernel_rfl) (by kernel_rfl)
theorem r_4_3 : x__law_right [.int 4, .int 3] = some (.ok (.bl true)) :=
  right_of (R := encR dj4) (by kernel_rfl) m_4_3_one (by decide) (fun _ => m_4_3_all) (fun _ => m_4_3_some) (by kernel_rfl) (by kernel_rfl)
theorem r_6_3 : x__law_right [.int 6, .int 3] = some (.ok (.bl true)) :=
  right_of (R := encR dj6) (by kernel_rfl) m_6_3_one (by decide) (fun _ => m_6_3_all) (fun _ => m_6_3_some) (by kernel_rfl) (by kernel_rfl)
end HK

set_option Elab.async false
set_option linter.all false
set_option maxRecDepth 100000
set_option maxHeartbeats 4000000
/-! part PLm -/
namespace HK
open PySem PySem.Spec L2 DL DM
theorem mul_some {i j : Int} (h : -(18446744073709551616) < i ∧ i < 18446744073709551616) : mulD (.int i) (.int j) = some (.int (i * j)) := by
  unfold mulD intI
  have e : smI 18446744073709551616 i = true := smI_iff.mpr (by omega)
  simp only [e, Bool.true_or, if_true]
theorem pow_some {i : Int} {n : Nat} (h : i.natAbs < 18446744073709551616) (hn : n ≤ 1000) : powD (.int i) (.int (n : Nat)) = some (.int (i ^ n)) := by
  unfold powD intI
  have e : (decide (0 ≤ ((n : Nat) : Int)) && smI 1000001 ((n : Nat) : Int) && smI 18446744073709551616 i) = true := by
    simp only [Bool.and_eq_true, smI_iff, decide_eq_true_eq]
    omega
  simp only [e, if_true, Int.toNat_natCast]
theorem mod_some {i j : Int} (h : 0 < j) : modD (.int i) (.int j) = some (.int (i % j)) := by
  unfold modD intI
  simp only [decide_eq_true h, if_true]
theorem fdiv_some {i j : Int} (h : 0 < j) (h2 : j < 1073741824) : fdivD (.int i) (.int j) = some (.int (i / j)) := by
  unfold fdivD intI
  simp only [decide_eq_true h, smI_iff.mpr (show j.natAbs < 1073741824 by omega), Bool.and_self, if_true]
theorem d__law_pick {G : Gx} (T : Tx G) (S : Deck G.M G.K) : FnD G 1 "_law_pick" (C__law_pick S) := by
  obtain ⟨f, fd, h1, h2⟩ := T.d__law_pick
  refine fn_D (ps := P__law_pick) h1 h2 sc__law_pick (fun _ _ _ _ _ _ us hl => match us, hl with | [_, _], _ => rfl) fun W => ⟨b__law_pick S, w__law_pick T S W, fun ds μ Q E h => ?_⟩
  obtain ⟨d, n, rfl, hd, ok, n0, n1, q⟩ := h
  refine ⟨rfl, ?_⟩
  show b__law_pick (c := defCtx G N__law_pick (defScope s__law_pick) 0 W) S _ [.fz (.ob d.a), .fz (.int n), .un, .un] μ
  unfold b__law_pick
  refine ⟨d, rfl, hd, ?_⟩
  refine ⟨.bl (decide (1 < d.x)), rfl, _, rfl, ?_⟩
  by_cases hx : 1 < d.x
  · dsimp only
    rw [if_pos (decide_eq_true hx)]
    refine ⟨d, rfl, hd, _, rfl, ?_⟩
    refine ⟨_, mod_some n0, ?_⟩
    refine ⟨d, rfl, hd, ?_⟩
    refine ⟨_, fdiv_some n0 n1, d, d.x / n, rfl, rfl, hd, ?_⟩
    exact q _ _ (Int.emod_nonneg _ (by omega)) (Int.emod_lt_of_pos _ n0) ⟨rfl, rfl, Int.le_refl _, by show d.t ≤ d.t + 1; omega⟩
  · dsimp only
    rw [if_neg (by simpa using hx)]
    refine lfS_nx rfl ?_
    dsimp only
    have t0 := ok.t0
    have t1 := ok.t1
    have y0 := ok.y0
    have y1 := ok.y1
    refine ⟨d, rfl, hd, _, rfl, d, d.t + 1, rfl, rfl, hd, ?_⟩
    have hd' := S.dk_put μ (d.set 2 (d.t + 1))
    refine ⟨d.set 2 (d.t + 1), rfl, hd', d.set 2 (d.t + 1), rfl, hd', ?_⟩
    refine ⟨_, mul_some (by decide), ?_⟩
    refine ⟨_, rfl, ?_⟩
    refine ⟨_, pow_some (i := d.y + 15485867 * (d.t + 1)) (n := 5) (by omega) (by omega), ?_⟩
    refine ⟨_, mod_some (by decide), ?_⟩
    refine ⟨d.set 2 (d.t + 1), rfl, hd', ?_⟩
    refine ⟨_, mul_some (by decide), ?_⟩
    refine ⟨_, rfl, ?_⟩
    have m0 : 0 ≤ (d.y + 15485867 * (d.t + 1)) ^ 5 % 2147483647 := Int.emod_nonneg _ (by decide)
    have m1 : (d.y + 15485867 * (d.t + 1)) ^ 5 % 2147483647 < 2147483647 := Int.emod_lt_of_pos _ (by decide)
    refine ⟨_, pow_some (i := (d.y + 15485867 * (d.t + 1)) ^ 5 % 2147483647 + 7919 * (d.t + 1)) (n := 3) (by omega) (by omega), ?_⟩
    refine ⟨_, mod_some (by decide), ?_⟩
    refine ⟨_, fdiv_some (by decide) (by decide), ?_⟩
    generalize ((d.y + 15485867 * (d.t + 1)) ^ 5 % 2147483647 + 7919 * (d.t + 1)) ^ 3 % 2147483629 / 32 = r
    refine lfS_rt (ret_ok (op2_ok (x := .int r) (y := .int n) (op1_ok rfl rfl) rfl (mod_some n0))) ?_
    exact q _ _ (Int.emod_nonneg _ (by omega)) (Int.emod_lt_of_pos _ n0) ⟨rfl, rfl, by show d.t ≤ d.t + 1; omega, Int.le_refl _⟩
theorem len_some {xs : List D} (h : xs.length < 1073741824) : lenD (.lst xs) = some (.int (xs.length : Nat)) := by
  rfl
theorem d__law_one {G : Gx} (T : Tx G) (S : Deck G.M G.K) : FnD G 2 "_law_one" (C__law_one S) := by
  obtain ⟨f, fd, h1, h2⟩ := T.d__law_one
  refine fn_D (ps := P__law_one) h1 h2 sc__law_one (fun _ _ _ _ _ _ us hl => match us, hl with | [_, _], _ => rfl) fun W => ⟨b__law_one S, w__law_one T S (d__law_pick T S) W, fun ds μ Q E h => ?_⟩
  obtain ⟨d, xs, rfl, hd, ok, n0, n1, q⟩ := h
  refine ⟨rfl, ?_⟩
  show b__law_one (c := defCtx G N__law_one (defScope s__law_one) 1 W) S _ [.fz (.ob d.a), .fz (.lst xs)] μ
  unfold b__law_one retS op2 callE bindE
  have hl : 0 < xs.length := List.length_pos_iff.mpr n0
  refine lf_ok (d := D.lst xs) rfl ?_
  refine lf_ok (d := [D.ob d.a, D.int (xs.length : Nat)]) (cons_ok (d := .ob d.a) rfl (cons_ok (op1_ok (x := .lst xs) rfl (len_some n1)) rfl)) ?_
  refine ⟨d, (xs.length : Nat), rfl, hd, ok, by omega, by omega, fun r d' r0 r1 to => ?_⟩
  have hr : r.toNat < xs.length := by omega
  refine ⟨xs[r.toNat], ?_, q _ (List.getElem_mem hr) d' to⟩
  show atI xs r = _
  exact atI_int r0 hr
end HK

set_option Elab.async false
set_option linter.all false
set_option maxRecDepth 100000
set_option maxHeartbeats 4000000
/-! part PLp -/
namespace HK
open PySem PySem.Spec L2 DL DM
def pairsL : List (Int × Int) := [(1, 2), (1, 3), (1, 4), (1, 5), (1, 6), (1, 7), (1, 8), (1, 9), (1, 10), (2, 2), (2, 3), (2, 4), (2, 5), (2, 6), (2, 7), (2, 8), (2, 9), (3, 2), (3, 3), (3, 4), (3, 5), (3, 6), (4, 2), (4, 3), (4, 4), (5, 2), (5, 3), (5, 4), (6, 2), (6, 3)]
def pairD (p : Int × Int) : D := .tup [.int p.1, .int p.2]
def everyD : List D := pairsL.map pairD
theorem pairs_ok : ∀ p ∈ pairsL, p.1 < 4 → x__law_right [.int p.1, .int p.2] = some (.ok (.bl true)) := by
  unfold pairsL
  simp only [List.forall_mem_cons]
  exact ⟨fun _ => r_1_2, fun _ => r_1_3, fun _ => r_1_4, fun _ => r_1_5, fun _ => r_1_6, fun _ => r_1_7, fun _ => r_1_8, fun _ => r_1_9, fun _ => r_1_10, fun _ => r_2_2, fun _ => r_2_3, fun _ => r_2_4, fun _ => r_2_5, fun _ => r_2_6, fun _ => r_2_7, fun _ => r_2_8, fun _ => r_2_9, fun _ => r_3_2, fun _ => r_3_3, fun _ => r_3_4, fun _ => r_3_5, fun _ => r_3_6, fun h => absurd h (by decide), fun h => absurd h (by decide), fun h => absurd h (by decide), fun h => absurd h (by decide), fun h => absurd h (by decide), fun h => absurd h (by decide), fun h => absurd h (by decide), fun h => absurd h (by decide), fun _ h => nomatch h⟩
theorem eq_nats (ms : List Nat) : eqD (.lst (ms.map intD')) (.lst []) = some (.bl ms.isEmpty) := by
  have h1 : (D.lst (ms.map intD')).fits 3 = true := by rw [D.fits]; exact fits_nats 2 ms
  unfold eqD
  rw [eqOk_fits h1 (show (D.lst []).fits 3 = true from rfl) (by decide)]
  cases ms <;> rfl
def chkS (R : Rules) (K n : Nat) : Bool := (stds K n).all fun st => !(moversF R st).isEmpty && (rightO R 1000 [] st == some ((moversF R st).length == 1))
theorem chk_2_3 : chkS dj2 2 3 = true := by kernel_rfl
theorem chk_2_4 : chkS dj2 2 4 = true := by kernel_rfl
theorem chk_2_5 : chkS dj2 2 5 = true := by kernel_rfl
theorem chk_3_3 : chkS dj3 3 3 = true := by kernel_rfl
theorem chk_3_4 : chkS dj3 3 4 = true := by kernel_rfl
theorem chk_3_5 : chkS dj3 3 5 = true := by kernel_rfl
theorem dij_2 : x_dijkstra [.int 2] = some (.ok (encR dj2)) := by kernel_rfl
theorem dij_3 : x_dijkstra [.int 3] = some (.ok (encR dj3)) := by kernel_rfl
theorem long_3 : x_longest [encR dj3, .int 3, .str "all"] = some (.ok (.tup [.int 3, .tup [.int 0, .int 1, .int 0]])) := by kernel_rfl
theorem long_2 : x_longest [encR dj2, .int 4, .str "one"] = some (.ok .non) := by kernel_rfl
/-- rules and a size that are drawn -/
structure Drw (R : Rules) (K n : Nat) : Prop where
  vr : VR R K
  k1 : 2 ≤ K
  k2 : K ≤ 3
  n1 : 3 ≤ n
  n2 : n ≤ 5
  chk : chkS R K n = true
theorem Drw.at_ {R : Rules} {K n : Nat} (d : Drw R K n) {st : List Int} (hl : st.length = n) (h : ∀ x ∈ st, 0 ≤ x ∧ x < K) : x_movers [encR R, tupOf st] = some (.ok (.lst ((moversF R st).map intD'))) ∧ (moversF R st).isEmpty = false ∧ x_is_right [encR R, tupOf st] = some (.ok (.bl ((moversF R st).length == 1))) := by
  have hm : st ∈ stds K n := mem_stds.mpr ⟨hl, h⟩
  have := List.all_eq_true.mp d.chk st hm
  simp only [Bool.and_eq_true, Bool.not_eq_true', beq_iff_eq] at this
  have n1 := d.n1
  have n2 := d.n2
  have k1 := d.k1
  have k2 := d.k2
  have hp : K ^ st.length ≤ 729 := by
    rw [hl]
    calc K ^ n ≤ 3 ^ n := Nat.pow_le_pow_left k2 n
      _ ≤ 3 ^ 5 := Nat.pow_le_pow_right (by decide) n2
      _ ≤ 729 := by decide
  exact ⟨movers_call d.vr (by omega) (by omega) (by omega) (by omega) hp h, this.1, is_right_call d.vr (by omega) (by omega) (by omega) (by omega) hp h this.2⟩
end HK

set_option Elab.async false
set_option linter.all false
set_option maxRecDepth 100000
set_option maxHeartbeats 4000000
/-! part PLq -/
namespace HK
open PySem PySem.Spec L2 DL DM
theorem lt_int (i j : Int) : intB (fun i j => decide (i < j)) (.int i) (.int j) = some (.bl (decide (i < j))) := rfl
theorem ten_turn {c : DL.Ctx} {De : DEnds c} {μ : c.T} {R : Rules} {K n : Nat} (dr : Drw R K n) {st : List Int} (hl : st.length = n) (h : ∀ x ∈ st, 0 ≤ x ∧ x < K) (s0 s1 s2 s3 s4 s5 s6 s9 s10 : Sl) (k : ∀ d, De.nx [s0, s1, s2, s3, s4, s5, s6, .fz (encR R), .fz (tupOf st), s9, .fz d] μ) :
    (lfS (seqSX (setSX 10 (fzX (callX x_movers (consX (varX 7) (consX (varX 8) nilX))))) (ifSX (orBX (tstX (op2X eqD (varX 10) (pnX (lstX nilX)))) (tstX (op2X neD (callX x_is_right (consX (varX 7) (consX (varX 8) nilX))) (op2X eqD (op1X lenD (varX 10)) (conX (.int 1)))))) (retSX (conX (.bl false))) nextX)) : DS c) De [s0, s1, s2, s3, s4, s5, s6, .fz (encR R), .fz (tupOf st), s9, s10] μ := by
  obtain ⟨h1, h2, h3⟩ := dr.at_ hl h
  have e1 : lenOk ([] : List D) (Co.lst []) = some (.lst []) := by kernel_rfl
  have e2 : (((moversF R st).length : Int) == 1) = ((moversF R st).length == 1) := natInt_beq (moversF R st).length 1
  refine lfS_nx (ρ' := [s0, s1, s2, s3, s4, s5, s6, .fz (encR R), .fz (tupOf st), s9, .fz (.lst ((moversF R st).map intD'))]) ?_ (k _)
  simp only [e_bindX, e_okX, e_varX, e_conX, e_newX, e_op1X, e_op2X, e_andX, e_orX, e_tstX, e_condX, e_andBX, e_orBX, e_notBX, e_ifX, e_chainX, e_nilX, e_consX, e_tupX, e_lstX, e_pkX, e_varPX, e_opPX, e_getX, e_getDX, e_ixPX, e_nonePX, e_somePX, e_slTX, e_slLX, e_pnX, e_fzX, e_owX, e_seqX, e_rg1X, e_rg2X, e_enumX, e_zipX, e_itemsTX, e_d1TX, e_dictTX, e_sortedSetX, e_zipStarX, e_yesX, e_lcX, e_callX, e_nextX, e_breakX, e_retNX, e_neverX, e_seqSX, e_thenX, e_retSX, e_exprSX, e_ifSX, e_setSX, e_asgSX, e_appSX, e_putSX, e_freezeSX, e_parSX, e_par3SX, e_forSX, e_forNil, e_ite, e_iteS, e_onBt, e_blO, e_itemsT, e_itemsL, e_add, e_sub, e_intB, e_lenT, e_lenL, e_leI, e_fnX, e_isi_int_non, e_isi_int_bl, e_isi_int_int, e_isi_int_str, e_isi_int_tup, e_isi_int_lst, e_isi_bool_non, e_isi_bool_bl, e_isi_bool_int, e_isi_bool_str, e_isi_bool_tup, e_isi_bool_lst, e_isi_str_non, e_isi_str_bl, e_isi_str_int, e_isi_str_str, e_isi_str_tup, e_isi_str_lst, e_isi_tuple_non, e_isi_tuple_bl, e_isi_tuple_int, e_isi_tuple_str, e_isi_tuple_tup, e_isi_tuple_lst, e_isi_list_non, e_isi_list_bl, e_isi_list_int, e_isi_list_str, e_isi_list_tup, e_isi_list_lst, e_isN_non, e_isN_bl, e_isN_int, e_isN_str, e_isN_tup, e_isN_lst, e_not, startEn, slCo, toCo, lstO, intO, freezeEn, lenOk_small, wipeEn, tgN, List.getElem?_cons_zero, List.getElem?_cons_succ, List.set_cons_zero, List.set_cons_succ, List.map_cons, List.map_nil, List.replicate_succ, List.replicate_zero, List.length_cons, List.length_nil, List.cons_append, List.nil_append, Option.map_some, Option.map_none, Option.bind_some, Option.bind_none, Bool.false_eq_true, reduceCtorEq, Nat.reduceAdd, Nat.reduceSub, Nat.reduceEqDiff, reduceIte, decide_true, decide_false, Bool.not_true, Bool.not_false, Bool.and_true, Bool.true_and, Bool.and_false, Bool.false_and, Bool.or_true, Bool.true_or, Bool.or_false, Bool.false_or, h1, h3, e1, eq_nats, h2, eq_int, List.length_map, e2, ne_bl, beq_self_eq_true]
theorem four_turn {c : DL.Ctx} {De : DEnds c} {μ : c.T} {p : Int × Int} (hp : p ∈ pairsL) (s0 s1 s4 s5 s6 s7 s8 s9 s10 : Sl) (k : De.nx [s0, s1, .fz (.int p.1), .fz (.int p.2), s4, s5, s6, s7, s8, s9, s10] μ) :
    (lfS (ifSX (andBX (tstX (op2X (intB fun i j => decide (i < j)) (varX 2) (conX (.int 4)))) (notBX (tstX (callX x__law_right (consX (varX 2) (consX (varX 3) nilX)))))) (retSX (conX (.bl false))) nextX) : DS c) De [s0, s1, .fz (.int p.1), .fz (.int p.2), s4, s5, s6, s7, s8, s9, s10] μ := by
  refine lfS_nx ?_ k
  simp only [e_bindX, e_okX, e_varX, e_conX, e_newX, e_op1X, e_op2X, e_andX, e_orX, e_tstX, e_condX, e_andBX, e_orBX, e_notBX, e_ifX, e_chainX, e_nilX, e_consX, e_tupX, e_lstX, e_pkX, e_varPX, e_opPX, e_getX, e_getDX, e_ixPX, e_nonePX, e_somePX, e_slTX, e_slLX, e_pnX, e_fzX, e_owX, e_seqX, e_rg1X, e_rg2X, e_enumX, e_zipX, e_itemsTX, e_d1TX, e_dictTX, e_sortedSetX, e_zipStarX, e_yesX, e_lcX, e_callX, e_nextX, e_breakX, e_retNX, e_neverX, e_seqSX, e_thenX, e_retSX, e_exprSX, e_ifSX, e_setSX, e_asgSX, e_appSX, e_putSX, e_freezeSX, e_parSX, e_par3SX, e_forSX, e_forNil, e_ite, e_iteS, e_onBt, e_blO, e_itemsT, e_itemsL, e_add, e_sub, e_intB, e_lenT, e_lenL, e_leI, e_fnX, e_isi_int_non, e_isi_int_bl, e_isi_int_int, e_isi_int_str, e_isi_int_tup, e_isi_int_lst, e_isi_bool_non, e_isi_bool_bl, e_isi_bool_int, e_isi_bool_str, e_isi_bool_tup, e_isi_bool_lst, e_isi_str_non, e_isi_str_bl, e_isi_str_int, e_isi_str_str, e_isi_str_tup, e_isi_str_lst, e_isi_tuple_non, e_isi_tuple_bl, e_isi_tuple_int, e_isi_tuple_str, e_isi_tuple_tup, e_isi_tuple_lst, e_isi_list_non, e_isi_list_bl, e_isi_list_int, e_isi_list_str, e_isi_list_tup, e_isi_list_lst, e_isN_non, e_isN_bl, e_isN_int, e_isN_str, e_isN_tup, e_isN_lst, e_not, startEn, slCo, toCo, lstO, intO, freezeEn, lenOk_small, wipeEn, tgN, List.getElem?_cons_zero, List.getElem?_cons_succ, List.set_cons_zero, List.set_cons_succ, List.map_cons, List.map_nil, List.replicate_succ, List.replicate_zero, List.length_cons, List.length_nil, List.cons_append, List.nil_append, Option.map_some, Option.map_none, Option.bind_some, Option.bind_none, Bool.false_eq_true, reduceCtorEq, Nat.reduceAdd, Nat.reduceSub, Nat.reduceEqDiff, reduceIte, decide_true, decide_false, Bool.not_true, Bool.not_false, Bool.and_true, Bool.true_and, Bool.and_false, Bool.false_and, Bool.or_true, Bool.true_or, Bool.or_false, Bool.false_or]
  by_cases hh : p.1 < 4
  · simp only [hh, e_bindX, e_okX, e_varX, e_conX, e_newX, e_op1X, e_op2X, e_andX, e_orX, e_tstX, e_condX, e_andBX, e_orBX, e_notBX, e_ifX, e_chainX, e_nilX, e_consX, e_tupX, e_lstX, e_pkX, e_varPX, e_opPX, e_getX, e_getDX, e_ixPX, e_nonePX, e_somePX, e_slTX, e_slLX, e_pnX, e_fzX, e_owX, e_seqX, e_rg1X, e_rg2X, e_enumX, e_zipX, e_itemsTX, e_d1TX, e_dictTX, e_sortedSetX, e_zipStarX, e_yesX, e_lcX, e_callX, e_nextX, e_breakX, e_retNX, e_neverX, e_seqSX, e_thenX, e_retSX, e_exprSX, e_ifSX, e_setSX, e_asgSX, e_appSX, e_putSX, e_freezeSX, e_parSX, e_par3SX, e_forSX, e_forNil, e_ite, e_iteS, e_onBt, e_blO, e_itemsT, e_itemsL, e_add, e_sub, e_intB, e_lenT, e_lenL, e_leI, e_fnX, e_isi_int_non, e_isi_int_bl, e_isi_int_int, e_isi_int_str, e_isi_int_tup, e_isi_int_lst, e_isi_bool_non, e_isi_bool_bl, e_isi_bool_int, e_isi_bool_str, e_isi_bool_tup, e_isi_bool_lst, e_isi_str_non, e_isi_str_bl, e_isi_str_int, e_isi_str_str, e_isi_str_tup, e_isi_str_lst, e_isi_tuple_non, e_isi_tuple_bl, e_isi_tuple_int, e_isi_tuple_str, e_isi_tuple_tup, e_isi_tuple_lst, e_isi_list_non, e_isi_list_bl, e_isi_list_int, e_isi_list_str, e_isi_list_tup, e_isi_list_lst, e_isN_non, e_isN_bl, e_isN_int, e_isN_str, e_isN_tup, e_isN_lst, e_not, startEn, slCo, toCo, lstO, intO, freezeEn, lenOk_small, wipeEn, tgN, List.getElem?_cons_zero, List.getElem?_cons_succ, List.set_cons_zero, List.set_cons_succ, List.map_cons, List.map_nil, List.replicate_succ, List.replicate_zero, List.length_cons, List.length_nil, List.cons_append, List.nil_append, Option.map_some, Option.map_none, Option.bind_some, Option.bind_none, Bool.false_eq_true, reduceCtorEq, Nat.reduceAdd, Nat.reduceSub, Nat.reduceEqDiff, reduceIte, decide_true, decide_false, Bool.not_true, Bool.not_false, Bool.and_true, Bool.true_and, Bool.and_false, Bool.false_and, Bool.or_true, Bool.true_or, Bool.or_false, Bool.false_or, pairs_ok p hp hh]
  · simp only [hh, e_bindX, e_okX, e_varX, e_conX, e_newX, e_op1X, e_op2X, e_andX, e_orX, e_tstX, e_condX, e_andBX, e_orBX, e_notBX, e_ifX, e_chainX, e_nilX, e_consX, e_tupX, e_lstX, e_pkX, e_varPX, e_opPX, e_getX, e_getDX, e_ixPX, e_nonePX, e_somePX, e_slTX, e_slLX, e_pnX, e_fzX, e_owX, e_seqX, e_rg1X, e_rg2X, e_enumX, e_zipX, e_itemsTX, e_d1TX, e_dictTX, e_sortedSetX, e_zipStarX, e_yesX, e_lcX, e_callX, e_nextX, e_breakX, e_retNX, e_neverX, e_seqSX, e_thenX, e_retSX, e_exprSX, e_ifSX, e_setSX, e_asgSX, e_appSX, e_putSX, e_freezeSX, e_parSX, e_par3SX, e_forSX, e_forNil, e_ite, e_iteS, e_onBt, e_blO, e_itemsT, e_itemsL, e_add, e_sub, e_intB, e_lenT, e_lenL, e_leI, e_fnX, e_isi_int_non, e_isi_int_bl, e_isi_int_int, e_isi_int_str, e_isi_int_tup, e_isi_int_lst, e_isi_bool_non, e_isi_bool_bl, e_isi_bool_int, e_isi_bool_str, e_isi_bool_tup, e_isi_bool_lst, e_isi_str_non, e_isi_str_bl, e_isi_str_int, e_isi_str_str, e_isi_str_tup, e_isi_str_lst, e_isi_tuple_non, e_isi_tuple_bl, e_isi_tuple_int, e_isi_tuple_str, e_isi_tuple_tup, e_isi_tuple_lst, e_isi_list_non, e_isi_list_bl, e_isi_list_int, e_isi_list_str, e_isi_list_tup, e_isi_list_lst, e_isN_non, e_isN_bl, e_isN_int, e_isN_str, e_isN_tup, e_isN_lst, e_not, startEn, slCo, toCo, lstO, intO, freezeEn, lenOk_small, wipeEn, tgN, List.getElem?_cons_zero, List.getElem?_cons_succ, List.set_cons_zero, List.set_cons_succ, List.map_cons, List.map_nil, List.replicate_succ, List.replicate_zero, List.length_cons, List.length_nil, List.cons_append, List.nil_append, Option.map_some, Option.map_none, Option.bind_some, Option.bind_none, Bool.false_eq_true, reduceCtorEq, Nat.reduceAdd, Nat.reduceSub, Nat.reduceEqDiff, reduceIte, decide_true, decide_false, Bool.not_true, Bool.not_false, Bool.and_true, Bool.true_and, Bool.and_false, Bool.false_and, Bool.or_true, Bool.true_or, Bool.or_false, Bool.false_or]
theorem every_run (a : Addr) : forSX (rg2X (conX (.int 1)) (conX (.int 7))) (tgN 2) (setSX 1 (fzX (op2X addD (varX 1) (pnX (lcX [3] (rg2X (conX (.int 2)) (conX (.int 11))) (tgN 3) (tstX (callX x__law_fits (consX (varX 2) (consX (varX 3) nilX)))) (tupX (consX (varX 2) (consX (varX 3) nilX)))))))) [.fz (.ob a), .fz (.lst []), .un, .un, .un, .un, .un, .un, .un, .un, .un] = some (.nx [.fz (.ob a), .fz (.lst everyD), .fz (.int 6), .un, .un, .un, .un, .un, .un, .un, .un]) := by
  kernel_rfl
theorem drw_of {K n : Int} (hk : K = 2 ∨ K = 3) (hn : n = 3 ∨ n = 4 ∨ n = 5) : ∃ R N M, x_dijkstra [.int K] = some (.ok (encR R)) ∧ Drw R N M ∧ n = (M : Nat) ∧ R.1.length = N := by
  rcases hk with rfl | rfl <;> rcases hn with rfl | rfl | rfl
  · exact ⟨dj2, 2, 3, dij_2, ⟨vdj2, by decide, by decide, by decide, by decide, chk_2_3⟩, rfl, rfl⟩
  · exact ⟨dj2, 2, 4, dij_2, ⟨vdj2, by decide, by decide, by decide, by decide, chk_2_4⟩, rfl, rfl⟩
  · exact ⟨dj2, 2, 5, dij_2, ⟨vdj2, by decide, by decide, by decide, by decide, chk_2_5⟩, rfl, rfl⟩
  · exact ⟨dj3, 3, 3, dij_3, ⟨vdj3, by decide, by decide, by decide, by decide, chk_3_3⟩, rfl, rfl⟩
  · exact ⟨dj3, 3, 4, dij_3, ⟨vdj3, by decide, by decide, by decide, by decide, chk_3_4⟩, rfl, rfl⟩
  · exact ⟨dj3, 3, 5, dij_3, ⟨vdj3, by decide, by decide, by decide, by decide, chk_3_5⟩, rfl, rfl⟩
theorem rg1_4 : rg1O (.int 4) = some ((List.range 4).map intD') := rg1_nat (by decide)
theorem rg1_10 : rg1O (.int 10) = some ((List.range 10).map intD') := rg1_nat (by decide)
theorem lcE_by {c : DL.Ctx} {vs : List Nat} {fi : XE (List D)} {g : D → En → Option En} {fe : DE c D} {ρ : En} {μ : c.T} {Q : Co → c.T → Prop} {E : c.M.Er → c.T → Prop} {ds : List D} (h : fi ρ = some (.ok ds)) (k : lcW g (lf yesX) fe (wipeEn ρ vs) Q ds [] μ) : lcE vs (lf fi) g (lf yesX) fe ρ μ Q E := by
  unfold lcE
  exact lf_ok h k
/-- the slots of the law's body ahead of a turn -/
def IL (a : Addr) (ev : D) (ρ : En) : Prop := ∃ s2 s3 s4 s5 s6 s7 s8 s9 s10 : Sl, ρ = [.fz (.ob a), .fz ev, s2, s3, s4, s5, s6, s7, s8, s9, s10]
theorem turn_law {c : DL.Ctx} (S : Deck c.M c.K) {De : DEnds c} {μ : c.T} {a : Addr} {cell : Int} {s2 s3 s5 s6 s7 s8 s9 s10 : Sl} (k : ∀ ρ μ, IL a (.lst everyD) ρ → De.nx ρ μ) :
    (seqS (setS 5 (fzE (callE (C__law_deck S) (lf (consX (varX 4) (consX (conX (.int 4)) nilX)))))) (seqS (forS (lf (rg1X (conX (.int 4)))) (tgN 6) (seqS (asgS (tgTup 2 (tgsCons (tgN 2) (tgsCons (tgN 3) tgsNil))) (callE (C__law_one S) (lf (consX (varX 5) (consX (varX 1) nilX))))) (lfS (ifSX (andBX (tstX (op2X (intB fun i j => decide (i < j)) (varX 2) (conX (.int 4)))) (notBX (tstX (callX x__law_right (consX (varX 2) (consX (varX 3) nilX)))))) (retSX (conX (.bl false))) nextX)))) (seqS (setS 7 (fzE (callE (lfC x_dijkstra) (consE (op2 addD (lf (conX (.int 2))) (callE (C__law_pick S) (lf (consX (varX 5) (consX (conX (.int 2)) nilX))))) (lf nilX))))) (seqS (setS 3 (fzE (op2 addD (lf (conX (.int 3))) (callE (C__law_pick S) (lf (consX (varX 5) (consX (conX (.int 3)) nilX))))))) (forS (lf (rg1X (conX (.int 10)))) (tgN 6) (seqS (setS 8 (fzE (op1 tupleD (pnE (lcE [9] (lf (rg1X (varX 3))) (tgN 9) (lf yesX) (callE (C__law_pick S) (lf (consX (varX 5) (consX (op1X lenD (op2X idxD (varX 7) (conX (.int 0)))) nilX))))))))) (lfS (seqSX (setSX 10 (fzX (callX x_movers (consX (varX 7) (consX (varX 8) nilX))))) (ifSX (orBX (tstX (op2X eqD (varX 10) (pnX (lstX nilX)))) (tstX (op2X neD (callX x_is_right (consX (varX 7) (consX (varX 8) nilX))) (op2X eqD (op1X lenD (varX 10)) (conX (.int 1)))))) (retSX (conX (.bl false))) nextX)))))))) : DS c) De [.fz (.ob a), .fz (.lst everyD), s2, s3, .fz (.int cell), s5, s6, s7, s8, s9, s10] μ := by
  refine st_set (st_fz (deck_use S (cell := cell) (turn := 4) (by simp only [e_bindX, e_okX, e_varX, e_conX, e_newX, e_op1X, e_op2X, e_andX, e_orX, e_tstX, e_condX, e_andBX, e_orBX, e_notBX, e_ifX, e_chainX, e_nilX, e_consX, e_tupX, e_lstX, e_pkX, e_varPX, e_opPX, e_getX, e_getDX, e_ixPX, e_nonePX, e_somePX, e_slTX, e_slLX, e_pnX, e_fzX, e_owX, e_seqX, e_rg1X, e_rg2X, e_enumX, e_zipX, e_itemsTX, e_d1TX, e_dictTX, e_sortedSetX, e_zipStarX, e_yesX, e_lcX, e_callX, e_nextX, e_breakX, e_retNX, e_neverX, e_seqSX, e_thenX, e_retSX, e_exprSX, e_ifSX, e_setSX, e_asgSX, e_appSX, e_putSX, e_freezeSX, e_parSX, e_par3SX, e_forSX, e_forNil, e_ite, e_iteS, e_onBt, e_blO, e_itemsT, e_itemsL, e_add, e_sub, e_intB, e_lenT, e_lenL, e_leI, e_fnX, e_isi_int_non, e_isi_int_bl, e_isi_int_int, e_isi_int_str, e_isi_int_tup, e_isi_int_lst, e_isi_bool_non, e_isi_bool_bl, e_isi_bool_int, e_isi_bool_str, e_isi_bool_tup, e_isi_bool_lst, e_isi_str_non, e_isi_str_bl, e_isi_str_int, e_isi_str_str, e_isi_str_tup, e_isi_str_lst, e_isi_tuple_non, e_isi_tuple_bl, e_isi_tuple_int, e_isi_tuple_str, e_isi_tuple_tup, e_isi_tuple_lst, e_isi_list_non, e_isi_list_bl, e_isi_list_int, e_isi_list_str, e_isi_list_tup, e_isi_list_lst, e_isN_non, e_isN_bl, e_isN_int, e_isN_str, e_isN_tup, e_isN_lst, e_not, startEn, slCo, toCo, lstO, intO, freezeEn, lenOk_small, wipeEn, tgN, List.getElem?_cons_zero, List.getElem?_cons_succ, List.set_cons_zero, List.set_cons_succ, List.map_cons, List.map_nil, List.replicate_succ, List.replicate_zero, List.length_cons, List.length_nil, List.cons_append, List.nil_append, Option.map_some, Option.map_none, Option.bind_some, Option.bind_none, Bool.false_eq_true, reduceCtorEq, Nat.reduceAdd, Nat.reduceSub, Nat.reduceEqDiff, reduceIte, decide_true, decide_false, Bool.not_true, Bool.not_false, Bool.and_true, Bool.true_and, Bool.and_false, Bool.false_and, Bool.or_true, Bool.true_or, Bool.or_false, Bool.false_or]) (by decide) fun da μ1 k1 => ?_))
  refine st_for (lf_ok (d := (List.range 4).map intD') (by simp only [e_bindX, e_okX, e_varX, e_conX, e_newX, e_op1X, e_op2X, e_andX, e_orX, e_tstX, e_condX, e_andBX, e_orBX, e_notBX, e_ifX, e_chainX, e_nilX, e_consX, e_tupX, e_lstX, e_pkX, e_varPX, e_opPX, e_getX, e_getDX, e_ixPX, e_nonePX, e_somePX, e_slTX, e_slLX, e_pnX, e_fzX, e_owX, e_seqX, e_rg1X, e_rg2X, e_enumX, e_zipX, e_itemsTX, e_d1TX, e_dictTX, e_sortedSetX, e_zipStarX, e_yesX, e_lcX, e_callX, e_nextX, e_breakX, e_retNX, e_neverX, e_seqSX, e_thenX, e_retSX, e_exprSX, e_ifSX, e_setSX, e_asgSX, e_appSX, e_putSX, e_freezeSX, e_parSX, e_par3SX, e_forSX, e_forNil, e_ite, e_iteS, e_onBt, e_blO, e_itemsT, e_itemsL, e_add, e_sub, e_intB, e_lenT, e_lenL, e_leI, e_fnX, e_isi_int_non, e_isi_int_bl, e_isi_int_int, e_isi_int_str, e_isi_int_tup, e_isi_int_lst, e_isi_bool_non, e_isi_bool_bl, e_isi_bool_int, e_isi_bool_str, e_isi_bool_tup, e_isi_bool_lst, e_isi_str_non, e_isi_str_bl, e_isi_str_int, e_isi_str_str, e_isi_str_tup, e_isi_str_lst, e_isi_tuple_non, e_isi_tuple_bl, e_isi_tuple_int, e_isi_tuple_str, e_isi_tuple_tup, e_isi_tuple_lst, e_isi_list_non, e_isi_list_bl, e_isi_list_int, e_isi_list_str, e_isi_list_tup, e_isi_list_lst, e_isN_non, e_isN_bl, e_isN_int, e_isN_str, e_isN_tup, e_isN_lst, e_not, startEn, slCo, toCo, lstO, intO, freezeEn, lenOk_small, wipeEn, tgN, List.getElem?_cons_zero, List.getElem?_cons_succ, List.set_cons_zero, List.set_cons_succ, List.map_cons, List.map_nil, List.replicate_succ, List.replicate_zero, List.length_cons, List.length_nil, List.cons_append, List.nil_append, Option.map_some, Option.map_none, Option.bind_some, Option.bind_none, Bool.false_eq_true, reduceCtorEq, Nat.reduceAdd, Nat.reduceSub, Nat.reduceEqDiff, reduceIte, decide_true, decide_false, Bool.not_true, Bool.not_false, Bool.and_true, Bool.true_and, Bool.and_false, Bool.false_and, Bool.or_true, Bool.true_or, Bool.or_false, Bool.false_or, rg1_4]) ?_)
  refine forW_by (I := fun i ρ μ => (∃ s2 s3 s6, ρ = [.fz (.ob a), .fz (.lst everyD), s2, s3, .fz (.int cell), .fz (.ob da), s6, s7, s8, s9, s10]) ∧ DK S μ da (4 + i)) ?_ ⟨⟨s2, s3, s6, rfl⟩, by simpa using k1⟩ ?_
  · rintro i d ρ μ De' hd ⟨⟨s2, s3, s6, rfl⟩, dk⟩ - - kk
    have hi : i < 4 := by
      have := (List.getElem?_eq_some_iff.mp hd).1
      simpa using this
    refine ⟨_, rfl, ?_⟩
    refine st_asg (one_use S dk (xs := everyD) (by simp only [e_bindX, e_okX, e_varX, e_conX, e_newX, e_op1X, e_op2X, e_andX, e_orX, e_tstX, e_condX, e_andBX, e_orBX, e_notBX, e_ifX, e_chainX, e_nilX, e_consX, e_tupX, e_lstX, e_pkX, e_varPX, e_opPX, e_getX, e_getDX, e_ixPX, e_nonePX, e_somePX, e_slTX, e_slLX, e_pnX, e_fzX, e_owX, e_seqX, e_rg1X, e_rg2X, e_enumX, e_zipX, e_itemsTX, e_d1TX, e_dictTX, e_sortedSetX, e_zipStarX, e_yesX, e_lcX, e_callX, e_nextX, e_breakX, e_retNX, e_neverX, e_seqSX, e_thenX, e_retSX, e_exprSX, e_ifSX, e_setSX, e_asgSX, e_appSX, e_putSX, e_freezeSX, e_parSX, e_par3SX, e_forSX, e_forNil, e_ite, e_iteS, e_onBt, e_blO, e_itemsT, e_itemsL, e_add, e_sub, e_intB, e_lenT, e_lenL, e_leI, e_fnX, e_isi_int_non, e_isi_int_bl, e_isi_int_int, e_isi_int_str, e_isi_int_tup, e_isi_int_lst, e_isi_bool_non, e_isi_bool_bl, e_isi_bool_int, e_isi_bool_str, e_isi_bool_tup, e_isi_bool_lst, e_isi_str_non, e_isi_str_bl, e_isi_str_int, e_isi_str_str, e_isi_str_tup, e_isi_str_lst, e_isi_tuple_non, e_isi_tuple_bl, e_isi_tuple_int, e_isi_tuple_str, e_isi_tuple_tup, e_isi_tuple_lst, e_isi_list_non, e_isi_list_bl, e_isi_list_int, e_isi_list_str, e_isi_list_tup, e_isi_list_lst, e_isN_non, e_isN_bl, e_isN_int, e_isN_str, e_isN_tup, e_isN_lst, e_not, startEn, slCo, toCo, lstO, intO, freezeEn, lenOk_small, wipeEn, tgN, List.getElem?_cons_zero, List.getElem?_cons_succ, List.set_cons_zero, List.set_cons_succ, List.map_cons, List.map_nil, List.replicate_succ, List.replicate_zero, List.length_cons, List.length_nil, List.cons_append, List.nil_append, Option.map_some, Option.map_none, Option.bind_some, Option.bind_none, Bool.false_eq_true, reduceCtorEq, Nat.reduceAdd, Nat.reduceSub, Nat.reduceEqDiff, reduceIte, decide_true, decide_false, Bool.not_true, Bool.not_false, Bool.and_true, Bool.true_and, Bool.and_false, Bool.false_and, Bool.or_true, Bool.true_or, Bool.or_false, Bool.false_or]) (by omega) (by unfold everyD pairsL; simp) (by unfold everyD pairsL; simp) fun x hx μ2 dk2 => ?_)
    obtain ⟨p, hp, rfl⟩ := List.mem_map.mp hx
    refine ⟨[.fz (.ob a), .fz (.lst everyD), .fz (.int p.1), .fz (.int p.2), .fz (.int cell), .fz (.ob da), .fz d, s7, s8, s9, s10], rfl, ?_⟩
    exact four_turn hp _ _ _ _ _ _ _ _ _ (kk _ _ ⟨⟨_, _, _, rfl⟩, by rw [show (4 : Int) + ((i + 1 : Nat) : Int) = 4 + i + 1 by omega]; exact dk2⟩)
  rintro ρ μ2 ⟨⟨s2, s3, s6, rfl⟩, dk⟩
  rw [List.length_map, List.length_range] at dk
  dsimp only
  refine st_set (st_fz (st_call (st_cons (st_op2 ?_))))
  refine lf_ok (d := D.int 2) rfl ?_
  refine pick_use S dk (n := 2) (by simp only [e_bindX, e_okX, e_varX, e_conX, e_newX, e_op1X, e_op2X, e_andX, e_orX, e_tstX, e_condX, e_andBX, e_orBX, e_notBX, e_ifX, e_chainX, e_nilX, e_consX, e_tupX, e_lstX, e_pkX, e_varPX, e_opPX, e_getX, e_getDX, e_ixPX, e_nonePX, e_somePX, e_slTX, e_slLX, e_pnX, e_fzX, e_owX, e_seqX, e_rg1X, e_rg2X, e_enumX, e_zipX, e_itemsTX, e_d1TX, e_dictTX, e_sortedSetX, e_zipStarX, e_yesX, e_lcX, e_callX, e_nextX, e_breakX, e_retNX, e_neverX, e_seqSX, e_thenX, e_retSX, e_exprSX, e_ifSX, e_setSX, e_asgSX, e_appSX, e_putSX, e_freezeSX, e_parSX, e_par3SX, e_forSX, e_forNil, e_ite, e_iteS, e_onBt, e_blO, e_itemsT, e_itemsL, e_add, e_sub, e_intB, e_lenT, e_lenL, e_leI, e_fnX, e_isi_int_non, e_isi_int_bl, e_isi_int_int, e_isi_int_str, e_isi_int_tup, e_isi_int_lst, e_isi_bool_non, e_isi_bool_bl, e_isi_bool_int, e_isi_bool_str, e_isi_bool_tup, e_isi_bool_lst, e_isi_str_non, e_isi_str_bl, e_isi_str_int, e_isi_str_str, e_isi_str_tup, e_isi_str_lst, e_isi_tuple_non, e_isi_tuple_bl, e_isi_tuple_int, e_isi_tuple_str, e_isi_tuple_tup, e_isi_tuple_lst, e_isi_list_non, e_isi_list_bl, e_isi_list_int, e_isi_list_str, e_isi_list_tup, e_isi_list_lst, e_isN_non, e_isN_bl, e_isN_int, e_isN_str, e_isN_tup, e_isN_lst, e_not, startEn, slCo, toCo, lstO, intO, freezeEn, lenOk_small, wipeEn, tgN, List.getElem?_cons_zero, List.getElem?_cons_succ, List.set_cons_zero, List.set_cons_succ, List.map_cons, List.map_nil, List.replicate_succ, List.replicate_zero, List.length_cons, List.length_nil, List.cons_append, List.nil_append, Option.map_some, Option.map_none, Option.bind_some, Option.bind_none, Bool.false_eq_true, reduceCtorEq, Nat.reduceAdd, Nat.reduceSub, Nat.reduceEqDiff, reduceIte, decide_true, decide_false, Bool.not_true, Bool.not_false, Bool.and_true, Bool.true_and, Bool.and_false, Bool.false_and, Bool.or_true, Bool.true_or, Bool.or_false, Bool.false_or]) (by omega) (by decide) (by decide) fun r μ3 r0 r1 dk3 => ?_
  refine ⟨.int (2 + r), rfl, lf_ok (d := []) rfl ?_⟩
  have hK : 2 + r = 2 ∨ 2 + r = 3 := by omega
  obtain ⟨R0, N0, _, hR0, _⟩ := drw_of hK (n := 3) (.inl rfl)
  refine st_lfC hR0 ?_
  refine st_set (st_fz (st_op2 ?_))
  refine lf_ok (d := D.int 3) rfl ?_
  refine pick_use S dk3 (n := 3) (by simp only [e_bindX, e_okX, e_varX, e_conX, e_newX, e_op1X, e_op2X, e_andX, e_orX, e_tstX, e_condX, e_andBX, e_orBX, e_notBX, e_ifX, e_chainX, e_nilX, e_consX, e_tupX, e_lstX, e_pkX, e_varPX, e_opPX, e_getX, e_getDX, e_ixPX, e_nonePX, e_somePX, e_slTX, e_slLX, e_pnX, e_fzX, e_owX, e_seqX, e_rg1X, e_rg2X, e_enumX, e_zipX, e_itemsTX, e_d1TX, e_dictTX, e_sortedSetX, e_zipStarX, e_yesX, e_lcX, e_callX, e_nextX, e_breakX, e_retNX, e_neverX, e_seqSX, e_thenX, e_retSX, e_exprSX, e_ifSX, e_setSX, e_asgSX, e_appSX, e_putSX, e_freezeSX, e_parSX, e_par3SX, e_forSX, e_forNil, e_ite, e_iteS, e_onBt, e_blO, e_itemsT, e_itemsL, e_add, e_sub, e_intB, e_lenT, e_lenL, e_leI, e_fnX, e_isi_int_non, e_isi_int_bl, e_isi_int_int, e_isi_int_str, e_isi_int_tup, e_isi_int_lst, e_isi_bool_non, e_isi_bool_bl, e_isi_bool_int, e_isi_bool_str, e_isi_bool_tup, e_isi_bool_lst, e_isi_str_non, e_isi_str_bl, e_isi_str_int, e_isi_str_str, e_isi_str_tup, e_isi_str_lst, e_isi_tuple_non, e_isi_tuple_bl, e_isi_tuple_int, e_isi_tuple_str, e_isi_tuple_tup, e_isi_tuple_lst, e_isi_list_non, e_isi_list_bl, e_isi_list_int, e_isi_list_str, e_isi_list_tup, e_isi_list_lst, e_isN_non, e_isN_bl, e_isN_int, e_isN_str, e_isN_tup, e_isN_lst, e_not, startEn, slCo, toCo, lstO, intO, freezeEn, lenOk_small, wipeEn, tgN, List.getElem?_cons_zero, List.getElem?_cons_succ, List.set_cons_zero, List.set_cons_succ, List.map_cons, List.map_nil, List.replicate_succ, List.replicate_zero, List.length_cons, List.length_nil, List.cons_append, List.nil_append, Option.map_some, Option.map_none, Option.bind_some, Option.bind_none, Bool.false_eq_true, reduceCtorEq, Nat.reduceAdd, Nat.reduceSub, Nat.reduceEqDiff, reduceIte, decide_true, decide_false, Bool.not_true, Bool.not_false, Bool.and_true, Bool.true_and, Bool.and_false, Bool.false_and, Bool.or_true, Bool.true_or, Bool.or_false, Bool.false_or]) (by omega) (by decide) (by decide) fun t μ4 t0 t1 dk4 => ?_
  refine ⟨.int (3 + t), rfl, ?_⟩
  obtain ⟨R, N, M, hR, dr, hM, hN⟩ := drw_of hK (n := 3 + t) (by omega)
  have eR : encR R0 = encR R := by
    rw [hR0] at hR
    injection hR with hR
    injection hR
  rw [eR, hM]
  refine st_for1 (lf_ok (d := (List.range 10).map intD') (by simp only [e_bindX, e_okX, e_varX, e_conX, e_newX, e_op1X, e_op2X, e_andX, e_orX, e_tstX, e_condX, e_andBX, e_orBX, e_notBX, e_ifX, e_chainX, e_nilX, e_consX, e_tupX, e_lstX, e_pkX, e_varPX, e_opPX, e_getX, e_getDX, e_ixPX, e_nonePX, e_somePX, e_slTX, e_slLX, e_pnX, e_fzX, e_owX, e_seqX, e_rg1X, e_rg2X, e_enumX, e_zipX, e_itemsTX, e_d1TX, e_dictTX, e_sortedSetX, e_zipStarX, e_yesX, e_lcX, e_callX, e_nextX, e_breakX, e_retNX, e_neverX, e_seqSX, e_thenX, e_retSX, e_exprSX, e_ifSX, e_setSX, e_asgSX, e_appSX, e_putSX, e_freezeSX, e_parSX, e_par3SX, e_forSX, e_forNil, e_ite, e_iteS, e_onBt, e_blO, e_itemsT, e_itemsL, e_add, e_sub, e_intB, e_lenT, e_lenL, e_leI, e_fnX, e_isi_int_non, e_isi_int_bl, e_isi_int_int, e_isi_int_str, e_isi_int_tup, e_isi_int_lst, e_isi_bool_non, e_isi_bool_bl, e_isi_bool_int, e_isi_bool_str, e_isi_bool_tup, e_isi_bool_lst, e_isi_str_non, e_isi_str_bl, e_isi_str_int, e_isi_str_str, e_isi_str_tup, e_isi_str_lst, e_isi_tuple_non, e_isi_tuple_bl, e_isi_tuple_int, e_isi_tuple_str, e_isi_tuple_tup, e_isi_tuple_lst, e_isi_list_non, e_isi_list_bl, e_isi_list_int, e_isi_list_str, e_isi_list_tup, e_isi_list_lst, e_isN_non, e_isN_bl, e_isN_int, e_isN_str, e_isN_tup, e_isN_lst, e_not, startEn, slCo, toCo, lstO, intO, freezeEn, lenOk_small, wipeEn, tgN, List.getElem?_cons_zero, List.getElem?_cons_succ, List.set_cons_zero, List.set_cons_succ, List.map_cons, List.map_nil, List.replicate_succ, List.replicate_zero, List.length_cons, List.length_nil, List.cons_append, List.nil_append, Option.map_some, Option.map_none, Option.bind_some, Option.bind_none, Bool.false_eq_true, reduceCtorEq, Nat.reduceAdd, Nat.reduceSub, Nat.reduceEqDiff, reduceIte, decide_true, decide_false, Bool.not_true, Bool.not_false, Bool.and_true, Bool.true_and, Bool.and_false, Bool.false_and, Bool.or_true, Bool.true_or, Bool.or_false, Bool.false_or, rg1_10]) ?_)
  refine forW_by (I := fun i ρ μ => (∃ s6 s8 s9 s10, ρ = [.fz (.ob a), .fz (.lst everyD), s2, .fz (.int M), .fz (.int cell), .fz (.ob da), s6, .fz (encR R), s8, s9, s10]) ∧ DK S μ da (10 + 10 * i)) ?_ ⟨⟨s6, s8, s9, s10, rfl⟩, dk4.mono (by omega)⟩ ?_
  · rintro i d ρ μ De' hd ⟨⟨s6, s8, s9, s10, rfl⟩, dk⟩ - - kk
    have hi : i < 10 := by
      have := (List.getElem?_eq_some_iff.mp hd).1
      simpa using this
    have m1 := dr.n1
    have m2 := dr.n2
    have g1 := dr.k1
    have g2 := dr.k2
    refine ⟨_, rfl, ?_⟩
    refine st_set (st_fz (st_op1 (st_pn (lcE_by (ds := (List.range M).map intD') (by simp only [e_bindX, e_okX, e_varX, e_conX, e_newX, e_op1X, e_op2X, e_andX, e_orX, e_tstX, e_condX, e_andBX, e_orBX, e_notBX, e_ifX, e_chainX, e_nilX, e_consX, e_tupX, e_lstX, e_pkX, e_varPX, e_opPX, e_getX, e_getDX, e_ixPX, e_nonePX, e_somePX, e_slTX, e_slLX, e_pnX, e_fzX, e_owX, e_seqX, e_rg1X, e_rg2X, e_enumX, e_zipX, e_itemsTX, e_d1TX, e_dictTX, e_sortedSetX, e_zipStarX, e_yesX, e_lcX, e_callX, e_nextX, e_breakX, e_retNX, e_neverX, e_seqSX, e_thenX, e_retSX, e_exprSX, e_ifSX, e_setSX, e_asgSX, e_appSX, e_putSX, e_freezeSX, e_parSX, e_par3SX, e_forSX, e_forNil, e_ite, e_iteS, e_onBt, e_blO, e_itemsT, e_itemsL, e_add, e_sub, e_intB, e_lenT, e_lenL, e_leI, e_fnX, e_isi_int_non, e_isi_int_bl, e_isi_int_int, e_isi_int_str, e_isi_int_tup, e_isi_int_lst, e_isi_bool_non, e_isi_bool_bl, e_isi_bool_int, e_isi_bool_str, e_isi_bool_tup, e_isi_bool_lst, e_isi_str_non, e_isi_str_bl, e_isi_str_int, e_isi_str_str, e_isi_str_tup, e_isi_str_lst, e_isi_tuple_non, e_isi_tuple_bl, e_isi_tuple_int, e_isi_tuple_str, e_isi_tuple_tup, e_isi_tuple_lst, e_isi_list_non, e_isi_list_bl, e_isi_list_int, e_isi_list_str, e_isi_list_tup, e_isi_list_lst, e_isN_non, e_isN_bl, e_isN_int, e_isN_str, e_isN_tup, e_isN_lst, e_not, startEn, slCo, toCo, lstO, intO, freezeEn, lenOk_small, wipeEn, tgN, List.getElem?_cons_zero, List.getElem?_cons_succ, List.set_cons_zero, List.set_cons_succ, List.map_cons, List.map_nil, List.replicate_succ, List.replicate_zero, List.length_cons, List.length_nil, List.cons_append, List.nil_append, Option.map_some, Option.map_none, Option.bind_some, Option.bind_none, Bool.false_eq_true, reduceCtorEq, Nat.reduceAdd, Nat.reduceSub, Nat.reduceEqDiff, reduceIte, decide_true, decide_false, Bool.not_true, Bool.not_false, Bool.and_true, Bool.true_and, Bool.and_false, Bool.false_and, Bool.or_true, Bool.true_or, Bool.or_false, Bool.false_or, rg1_nat (show M ≤ 1000000 by omega)]) ?_))))
    refine lcW_by (I := fun acc μ => (∃ st : List Int, acc = st.map D.int ∧ ∀ x ∈ st, 0 ≤ x ∧ x < N) ∧ DK S μ da (10 + 10 * i + acc.length)) (by simp; omega) ?_ ⟨⟨[], rfl, fun _ h => nomatch h⟩, by simpa using dk⟩ ?_
    · rintro e he acc μ Q' hl ⟨⟨st, rfl, hst⟩, dk⟩ kq
      simp only [List.length_map, List.length_range] at hl dk
      refine ⟨_, rfl, ?_⟩
      refine pick_use S dk (n := N) ?_ (by omega) (by omega) (by omega) fun r μ3 r0 r1 dk3 => ?_
      · simp only [e_bindX, e_okX, e_varX, e_conX, e_newX, e_op1X, e_op2X, e_andX, e_orX, e_tstX, e_condX, e_andBX, e_orBX, e_notBX, e_ifX, e_chainX, e_nilX, e_consX, e_tupX, e_lstX, e_pkX, e_varPX, e_opPX, e_getX, e_getDX, e_ixPX, e_nonePX, e_somePX, e_slTX, e_slLX, e_pnX, e_fzX, e_owX, e_seqX, e_rg1X, e_rg2X, e_enumX, e_zipX, e_itemsTX, e_d1TX, e_dictTX, e_sortedSetX, e_zipStarX, e_yesX, e_lcX, e_callX, e_nextX, e_breakX, e_retNX, e_neverX, e_seqSX, e_thenX, e_retSX, e_exprSX, e_ifSX, e_setSX, e_asgSX, e_appSX, e_putSX, e_freezeSX, e_parSX, e_par3SX, e_forSX, e_forNil, e_ite, e_iteS, e_onBt, e_blO, e_itemsT, e_itemsL, e_add, e_sub, e_intB, e_lenT, e_lenL, e_leI, e_fnX, e_isi_int_non, e_isi_int_bl, e_isi_int_int, e_isi_int_str, e_isi_int_tup, e_isi_int_lst, e_isi_bool_non, e_isi_bool_bl, e_isi_bool_int, e_isi_bool_str, e_isi_bool_tup, e_isi_bool_lst, e_isi_str_non, e_isi_str_bl, e_isi_str_int, e_isi_str_str, e_isi_str_tup, e_isi_str_lst, e_isi_tuple_non, e_isi_tuple_bl, e_isi_tuple_int, e_isi_tuple_str, e_isi_tuple_tup, e_isi_tuple_lst, e_isi_list_non, e_isi_list_bl, e_isi_list_int, e_isi_list_str, e_isi_list_tup, e_isi_list_lst, e_isN_non, e_isN_bl, e_isN_int, e_isN_str, e_isN_tup, e_isN_lst, e_not, startEn, slCo, toCo, lstO, intO, freezeEn, lenOk_small, wipeEn, tgN, List.getElem?_cons_zero, List.getElem?_cons_succ, List.set_cons_zero, List.set_cons_succ, List.map_cons, List.map_nil, List.replicate_succ, List.replicate_zero, List.length_cons, List.length_nil, List.cons_append, List.nil_append, Option.map_some, Option.map_none, Option.bind_some, Option.bind_none, Bool.false_eq_true, reduceCtorEq, Nat.reduceAdd, Nat.reduceSub, Nat.reduceEqDiff, reduceIte, decide_true, decide_false, Bool.not_true, Bool.not_false, Bool.and_true, Bool.true_and, Bool.and_false, Bool.false_and, Bool.or_true, Bool.true_or, Bool.or_false, Bool.false_or]
        have e0 : idxD (encR R) (.int 0) = some (encP R.1) := at0
        simp only [e0, encP, e_bindX, e_okX, e_varX, e_conX, e_newX, e_op1X, e_op2X, e_andX, e_orX, e_tstX, e_condX, e_andBX, e_orBX, e_notBX, e_ifX, e_chainX, e_nilX, e_consX, e_tupX, e_lstX, e_pkX, e_varPX, e_opPX, e_getX, e_getDX, e_ixPX, e_nonePX, e_somePX, e_slTX, e_slLX, e_pnX, e_fzX, e_owX, e_seqX, e_rg1X, e_rg2X, e_enumX, e_zipX, e_itemsTX, e_d1TX, e_dictTX, e_sortedSetX, e_zipStarX, e_yesX, e_lcX, e_callX, e_nextX, e_breakX, e_retNX, e_neverX, e_seqSX, e_thenX, e_retSX, e_exprSX, e_ifSX, e_setSX, e_asgSX, e_appSX, e_putSX, e_freezeSX, e_parSX, e_par3SX, e_forSX, e_forNil, e_ite, e_iteS, e_onBt, e_blO, e_itemsT, e_itemsL, e_add, e_sub, e_intB, e_lenT, e_lenL, e_leI, e_fnX, e_isi_int_non, e_isi_int_bl, e_isi_int_int, e_isi_int_str, e_isi_int_tup, e_isi_int_lst, e_isi_bool_non, e_isi_bool_bl, e_isi_bool_int, e_isi_bool_str, e_isi_bool_tup, e_isi_bool_lst, e_isi_str_non, e_isi_str_bl, e_isi_str_int, e_isi_str_str, e_isi_str_tup, e_isi_str_lst, e_isi_tuple_non, e_isi_tuple_bl, e_isi_tuple_int, e_isi_tuple_str, e_isi_tuple_tup, e_isi_tuple_lst, e_isi_list_non, e_isi_list_bl, e_isi_list_int, e_isi_list_str, e_isi_list_tup, e_isi_list_lst, e_isN_non, e_isN_bl, e_isN_int, e_isN_str, e_isN_tup, e_isN_lst, e_not, startEn, slCo, toCo, lstO, intO, freezeEn, lenOk_small, wipeEn, tgN, List.getElem?_cons_zero, List.getElem?_cons_succ, List.set_cons_zero, List.set_cons_succ, List.map_cons, List.map_nil, List.replicate_succ, List.replicate_zero, List.length_cons, List.length_nil, List.cons_append, List.nil_append, Option.map_some, Option.map_none, Option.bind_some, Option.bind_none, Bool.false_eq_true, reduceCtorEq, Nat.reduceAdd, Nat.reduceSub, Nat.reduceEqDiff, reduceIte, decide_true, decide_false, Bool.not_true, Bool.not_false, Bool.and_true, Bool.true_and, Bool.and_false, Bool.false_and, Bool.or_true, Bool.true_or, Bool.or_false, Bool.false_or, List.length_map, hN]
      · refine kq _ _ ⟨⟨st ++ [r], by simp, fun x hx => ?_⟩, dk3.mono (by simp only [List.length_append, List.length_map, List.length_singleton]; omega)⟩
        rcases List.mem_append.mp hx with h | h
        · exact hst x h
        · rw [List.mem_singleton] at h; subst h; exact ⟨r0, r1⟩
    · rintro acc μ2 hl ⟨⟨st, rfl, hst⟩, dk2⟩
      simp only [List.length_map, List.length_range] at hl dk2
      refine ⟨_, rfl, _, rfl, ?_⟩
      refine ten_turn dr hl hst _ _ _ _ _ _ _ _ _ fun d2 => kk _ _ ⟨⟨_, _, _, _, rfl⟩, dk2.mono (by simp; omega)⟩
  · rintro ρ μ2 ⟨⟨s6, s8, s9, s10, rfl⟩, _⟩
    exact k _ _ ⟨_, _, _, _, _, _, _, _, _, rfl⟩
theorem fin_gen (fr fl fd : List D → Rs D) {R2 R3 : D} (q_2_3 : fr [.int 2, .int 3] = some (.ok (.bl true))) (q_2_4 : fr [.int 2, .int 4] = some (.ok (.bl true))) (q_3_3 : fr [.int 3, .int 3] = some (.ok (.bl true))) (q_3_4 : fr [.int 3, .int 4] = some (.ok (.bl true))) (q_3_5 : fr [.int 3, .int 5] = some (.ok (.bl true))) (q_4_4 : fr [.int 4, .int 4] = some (.ok (.bl true))) (q_2_2 : fr [.int 2, .int 2] = some (.ok (.bl true))) (q_1_10 : fr [.int 1, .int 10] = some (.ok (.bl true))) (q_4_3 : fr [.int 4, .int 3] = some (.ok (.bl true))) (q_6_3 : fr [.int 6, .int 3] = some (.ok (.bl true))) (q_2_8 : fr [.int 2, .int 8] = some (.ok (.bl true))) (hd3 : fd [.int 3] = some (.ok R3)) (hd2 : fd [.int 2] = some (.ok R2)) (hl3 : fl [R3, .int 3, .str "all"] = some (.ok (.tup [.int 3, .tup [.int 0, .int 1, .int 0]]))) (hl2 : fl [R2, .int 4, .str "one"] = some (.ok .non)) {s0 s1 s2 s3 s4 s5 s6 s7 s8 s9 s10 : Sl} :
    (seqSX (setSX 10 (fzX (pnX (lstX (consX (tupX (consX (conX (.int 2)) (consX (conX (.int 3)) nilX))) (consX (tupX (consX (conX (.int 2)) (consX (conX (.int 4)) nilX))) (consX (tupX (consX (conX (.int 3)) (consX (conX (.int 3)) nilX))) (consX (tupX (consX (conX (.int 3)) (consX (conX (.int 4)) nilX))) (consX (tupX (consX (conX (.int 3)) (consX (conX (.int 5)) nilX))) (consX (tupX (consX (conX (.int 4)) (consX (conX (.int 4)) nilX))) (consX (tupX (consX (conX (.int 2)) (consX (conX (.int 2)) nilX))) (consX (tupX (consX (conX (.int 1)) (consX (conX (.int 10)) nilX))) (consX (tupX (consX (conX (.int 4)) (consX (conX (.int 3)) nilX))) nilX))))))))))))) (seqSX (forSX (seqX (op2X addD (varX 10) (pnX (lstX (consX (tupX (consX (conX (.int 6)) (consX (conX (.int 3)) nilX))) (consX (tupX (consX (conX (.int 2)) (consX (conX (.int 8)) nilX))) nilX)))))) (tgTup 2 (tgsCons (tgN 2) (tgsCons (tgN 3) tgsNil))) (ifSX (notBX (tstX (callX fr (consX (varX 2) (consX (varX 3) nilX))))) (retSX (conX (.bl false))) nextX)) (retSX (andX (op2X eqD (callX fl (consX (callX fd (consX (conX (.int 3)) nilX)) (consX (conX (.int 3)) (consX (conX (.str "all")) nilX)))) (tupX (consX (conX (.int 3)) (consX (tupX (consX (conX (.int 0)) (consX (conX (.int 1)) (consX (conX (.int 0)) nilX)))) nilX)))) (op1X (fun d => some (.bl (isN d))) (callX fl (consX (callX fd (consX (conX (.int 2)) nilX)) (consX (conX (.int 4)) (consX (conX (.str "one")) nilX))))))))) [s0, s1, s2, s3, s4, s5, s6, s7, s8, s9, s10] = some (.rt (.bl true)) := by
  have e2 : ∀ a b : D, lenOk [a, b] (D.tup [a, b]) = some (.tup [a, b]) := fun a b => lenOk_small (by simp)
  have e3 : ∀ a b c : D, lenOk [a, b, c] (D.tup [a, b, c]) = some (.tup [a, b, c]) := fun a b c => lenOk_small (by simp)
  have l2 : ∀ a b : D, lenOk [a, b] (Co.lst [a, b]) = some (.lst [a, b]) := fun a b => lenOk_small (by simp)
  have l9 : ∀ a b c d e f g h i : D, lenOk [a, b, c, d, e, f, g, h, i] (Co.lst [a, b, c, d, e, f, g, h, i]) = some (.lst [a, b, c, d, e, f, g, h, i]) := fun a b c d e f g h i => lenOk_small (by simp)
  have ad : ∀ a b c d e f g h i j k : D, addD (.lst [a, b, c, d, e, f, g, h, i]) (.lst [j, k]) = some (.lst [a, b, c, d, e, f, g, h, i, j, k]) := fun a b c d e f g h i j k => add_lst (by rw [sizeLine_eq]; simp)
  have t2 : ∀ (a b : D) (ρ : En), tgTup 2 (tgsCons (tgN 2) (tgsCons (tgN 3) tgsNil)) (.tup [a, b]) ρ = some ((ρ.set 2 (.fz a)).set 3 (.fz b)) := fun a b ρ => rfl
  have eL : eqD (.tup [.int 3, .tup [.int 0, .int 1, .int 0]]) (.tup [.int 3, .tup [.int 0, .int 1, .int 0]]) = some (.bl true) := by kernel_rfl
  simp only [e_bindX, e_okX, e_varX, e_conX, e_newX, e_op1X, e_op2X, e_andX, e_orX, e_tstX, e_condX, e_andBX, e_orBX, e_notBX, e_ifX, e_chainX, e_nilX, e_consX, e_tupX, e_lstX, e_pkX, e_varPX, e_opPX, e_getX, e_getDX, e_ixPX, e_nonePX, e_somePX, e_slTX, e_slLX, e_pnX, e_fzX, e_owX, e_seqX, e_rg1X, e_rg2X, e_enumX, e_zipX, e_itemsTX, e_d1TX, e_dictTX, e_sortedSetX, e_zipStarX, e_yesX, e_lcX, e_callX, e_nextX, e_breakX, e_retNX, e_neverX, e_seqSX, e_thenX, e_retSX, e_exprSX, e_ifSX, e_setSX, e_asgSX, e_appSX, e_putSX, e_freezeSX, e_parSX, e_par3SX, e_forSX, e_forNil, e_ite, e_iteS, e_onBt, e_blO, e_itemsT, e_itemsL, e_add, e_sub, e_intB, e_lenT, e_lenL, e_leI, e_fnX, e_isi_int_non, e_isi_int_bl, e_isi_int_int, e_isi_int_str, e_isi_int_tup, e_isi_int_lst, e_isi_bool_non, e_isi_bool_bl, e_isi_bool_int, e_isi_bool_str, e_isi_bool_tup, e_isi_bool_lst, e_isi_str_non, e_isi_str_bl, e_isi_str_int, e_isi_str_str, e_isi_str_tup, e_isi_str_lst, e_isi_tuple_non, e_isi_tuple_bl, e_isi_tuple_int, e_isi_tuple_str, e_isi_tuple_tup, e_isi_tuple_lst, e_isi_list_non, e_isi_list_bl, e_isi_list_int, e_isi_list_str, e_isi_list_tup, e_isi_list_lst, e_isN_non, e_isN_bl, e_isN_int, e_isN_str, e_isN_tup, e_isN_lst, e_not, startEn, slCo, toCo, lstO, intO, freezeEn, lenOk_small, wipeEn, tgN, List.getElem?_cons_zero, List.getElem?_cons_succ, List.set_cons_zero, List.set_cons_succ, List.map_cons, List.map_nil, List.replicate_succ, List.replicate_zero, List.length_cons, List.length_nil, List.cons_append, List.nil_append, Option.map_some, Option.map_none, Option.bind_some, Option.bind_none, Bool.false_eq_true, reduceCtorEq, Nat.reduceAdd, Nat.reduceSub, Nat.reduceEqDiff, reduceIte, decide_true, decide_false, Bool.not_true, Bool.not_false, Bool.and_true, Bool.true_and, Bool.and_false, Bool.false_and, Bool.or_true, Bool.true_or, Bool.or_false, Bool.false_or, e2, e3, l2, l9, ad, t2, forCons, q_2_3, q_2_4, q_3_3, q_3_4, q_3_5, q_4_4, q_2_2, q_1_10, q_4_3, q_6_3, q_2_8, hd3, hd2, hl3, hl2, eL]
theorem fin_law {c : DL.Ctx} {De : DEnds c} {μ : c.T} {s0 s1 s2 s3 s4 s5 s6 s7 s8 s9 s10 : Sl} (q : De.rt (.bl true) μ) :
    (lfS (seqSX (setSX 10 (fzX (pnX (lstX (consX (tupX (consX (conX (.int 2)) (consX (conX (.int 3)) nilX))) (consX (tupX (consX (conX (.int 2)) (consX (conX (.int 4)) nilX))) (consX (tupX (consX (conX (.int 3)) (consX (conX (.int 3)) nilX))) (consX (tupX (consX (conX (.int 3)) (consX (conX (.int 4)) nilX))) (consX (tupX (consX (conX (.int 3)) (consX (conX (.int 5)) nilX))) (consX (tupX (consX (conX (.int 4)) (consX (conX (.int 4)) nilX))) (consX (tupX (consX (conX (.int 2)) (consX (conX (.int 2)) nilX))) (consX (tupX (consX (conX (.int 1)) (consX (conX (.int 10)) nilX))) (consX (tupX (consX (conX (.int 4)) (consX (conX (.int 3)) nilX))) nilX))))))))))))) (seqSX (forSX (seqX (op2X addD (varX 10) (pnX (lstX (consX (tupX (consX (conX (.int 6)) (consX (conX (.int 3)) nilX))) (consX (tupX (consX (conX (.int 2)) (consX (conX (.int 8)) nilX))) nilX)))))) (tgTup 2 (tgsCons (tgN 2) (tgsCons (tgN 3) tgsNil))) (ifSX (notBX (tstX (callX x__law_right (consX (varX 2) (consX (varX 3) nilX))))) (retSX (conX (.bl false))) nextX)) (retSX (andX (op2X eqD (callX x_longest (consX (callX x_dijkstra (consX (conX (.int 3)) nilX)) (consX (conX (.int 3)) (consX (conX (.str "all")) nilX)))) (tupX (consX (conX (.int 3)) (consX (tupX (consX (conX (.int 0)) (consX (conX (.int 1)) (consX (conX (.int 0)) nilX)))) nilX)))) (op1X (fun d => some (.bl (isN d))) (callX x_longest (consX (callX x_dijkstra (consX (conX (.int 2)) nilX)) (consX (conX (.int 4)) (consX (conX (.str "one")) nilX))))))))) : DS c) De [s0, s1, s2, s3, s4, s5, s6, s7, s8, s9, s10] μ :=
  lfS_rt (fin_gen x__law_right x_longest x_dijkstra r_2_3 r_2_4 r_3_3 r_3_4 r_3_5 r_4_4 r_2_2 r_1_10 r_4_3 r_6_3 r_2_8 dij_3 dij_2 long_3 long_2) q
theorem run_law {c : DL.Ctx} (S : Deck c.M c.K) {De : DEnds c} {μ : c.T} {ρ : En} (hN : (S.scrN μ).length ≤ 63) (q : ∀ μ', De.rt (.bl true) μ') (e : ρ = [.fz (.ob (S.scrA μ)), .un, .un, .un, .un, .un, .un, .un, .un, .un, .un]) : b_law S De ρ μ := by
  subst e
  unfold b_law
  refine st_pure (ρ' := [.fz (.ob (S.scrA μ)), .fz (.lst []), .un, .un, .un, .un, .un, .un, .un, .un, .un]) (by kernel_rfl) ?_
  refine st_pure (every_run _) ?_
  refine st_for (st_script S (i := 0) (xs := [.int 0]) (n := 6) rfl (by simp; omega) _ (by kernel_rfl) _ (by kernel_rfl) ?_)
  refine forW_by (I := fun i ρ μ' => IL (S.scrA μ) (.lst everyD) ρ) ?_ ⟨_, _, _, _, _, _, _, _, _, rfl⟩ ?_
  · rintro i d ρ μ' De' hd ⟨s2, s3, s4, s5, s6, s7, s8, s9, s10, rfl⟩ - - kk
    have hm : d ∈ [D.int 0] ++ (S.scrN μ).map D.int := List.mem_of_mem_take (List.mem_of_getElem? hd)
    have : ∃ cell, d = .int cell := by
      rcases List.mem_append.mp hm with h | h
      · exact ⟨0, by simpa using h⟩
      · obtain ⟨x, _, rfl⟩ := List.mem_map.mp h
        exact ⟨x, rfl⟩
    obtain ⟨cell, rfl⟩ := this
    exact ⟨_, rfl, turn_law S fun ρ μ h => kk ρ μ h⟩
  · rintro ρ μ' ⟨s2, s3, s4, s5, s6, s7, s8, s9, s10, rfl⟩
    exact fin_law (q μ')
end HK

set_option Elab.async false
set_option linter.all false
set_option maxRecDepth 100000
set_option maxHeartbeats 400000
/-! part PLr -/
namespace HK
open PySem PySem.Spec L2 DL DM
theorem law_meets {c : DL.Ctx} (S : Deck c.M c.K) (ds : List D) (μ : c.T) (Q : D → c.T → Prop) (E : c.M.Er → c.T → Prop) (h : C_law S ds μ Q E) : ds.length = P_law.length ∧ runB (c := c) N_law.length (b_law S) ds μ Q E := by
  have h : ds = [D.ob (S.scrA μ)] ∧ (S.scrN μ).length ≤ 63 ∧ ∀ μ', Q (.bl true) μ' := h
  obtain ⟨h3, hN, q⟩ := h
  have e : ds.length = P_law.length := by rw [h3]; rfl
  have es : startEn N_law.length ds = [.fz (.ob (S.scrA μ)), .un, .un, .un, .un, .un, .un, .un, .un, .un, .un] := by rw [h3]; rfl
  exact And.intro e (run_law S hN q es)
theorem d_law {G : Gx} (T : Tx G) (S : Deck G.M G.K) : FnD G 10 "law" (C_law S) := by
  obtain ⟨f, fd, h1, h2⟩ := T.d_law
  exact fn_D (ps := P_law) h1 h2 sc_law (fun _ _ _ _ _ _ us hl => match us, hl with | [_], _ => rfl) fun W => ⟨b_law S, w_law T S (d__law_fits T) (d__law_deck T S) (d__law_one T S) (d__law_right T) (d__law_pick T S) (d_dijkstra T) (d_movers T) (d_is_right T) (d_longest T) W, law_meets (c := defCtx G N_law (defScope s_law) 9 W) S⟩
theorem d_law_ok {G : Gx} (T : Tx G) (S : Deck G.M G.K) {f : Addr} {fd : FuncData} (F : FunD G.K "law" "law" (defArgs s_law) (defBody s_law) (defScope s_law) [] [] f fd) : FnOk G.P G.w G.K G.mg G.base (L2.CX G.P G.w) 10 f fd P_law (toSp G.M (C_law S)) :=
  DL.fn_ok (k := 9) F sc_law fun W => ⟨b_law S, w_law T S (d__law_fits T) (d__law_deck T S) (d__law_one T S) (d__law_right T) (d__law_pick T S) (d_dijkstra T) (d_movers T) (d_is_right T) (d_longest T) W, law_meets (c := defCtx G N_law (defScope s_law) 9 W) S⟩
end HK

set_option Elab.async false
set_option linter.all false
set_option maxRecDepth 100000
set_option maxHeartbeats 0
namespace HK
open PySem PySem.Spec PyProof.Rows L2
def fn : List He.DefD := [mkD "is_within" s_is_within, mkD "is_line" s_is_line, mkD "is_part" s_is_part, mkD "are_rules_value" s_are_rules_value, mkD "power" s_power, mkD "is_size" s_is_size, mkD "is_standing" s_is_standing, mkD "need_rules" s_need_rules, mkD "need_size" s_need_size, mkD "need_standing" s_need_standing, mkD "need_way" s_need_way, mkD "entry_of" s_entry_of, mkD "movers_of" s_movers_of, mkD "moved_by" s_moved_by, mkD "lots_by" s_lots_by, mkD "steps_of" s_steps_of, mkD "standings_of" s_standings_of, mkD "dijkstra_of" s_dijkstra_of, mkD "dijkstra" s_dijkstra, mkD "movers" s_movers, mkD "right_at" s_right_at, mkD "worths_of" s_worths_of, mkD "need_both" s_need_both, mkD "is_right" s_is_right, mkD "mends" s_mends, mkD "longest" s_longest, mkD "counts_of" s_counts_of, mkD "plain_steps" s_plain_steps, mkD "product" s_product, mkD "is_closed" s_is_closed, mkD "can_die" s_can_die, mkD "need_count" s_need_count, mkD "fewest_movers" s_fewest_movers, mkD "can_be_dead" s_can_be_dead, mkD "_law_deck" s__law_deck, mkD "_law_pick" s__law_pick, mkD "_law_one" s__law_one, mkD "_law_fits" s__law_fits, mkD "_law_right" s__law_right, mkD "law" s_law]
def fa : List He.Fa := [.glo "is_within", .glo "is_line", .glo "is_part", .glo "are_rules_value", .glo "power", .glo "is_size", .glo "is_standing", .glo "need_rules", .glo "need_size", .glo "need_standing", .glo "need_way", .glo "entry_of", .glo "movers_of", .glo "moved_by", .glo "lots_by", .glo "steps_of", .glo "standings_of", .glo "dijkstra_of", .glo "dijkstra", .glo "movers", .glo "right_at", .glo "worths_of", .glo "need_both", .glo "is_right", .glo "mends", .glo "longest", .glo "counts_of", .glo "plain_steps", .glo "product", .glo "is_closed", .glo "can_die", .glo "need_count", .glo "fewest_movers", .glo "can_be_dead", .glo "_law_deck", .glo "_law_pick", .glo "_law_one", .glo "_law_fits", .glo "_law_right", .glo "law", .glo "RingError", .exc "RingError", .glo "InvalidRules", .exc "InvalidRules", .glo "InvalidSize", .exc "InvalidSize", .glo "InvalidWay", .exc "InvalidWay", .glo "InvalidStanding", .exc "InvalidStanding", .glo "InvalidNumber", .exc "InvalidNumber", .int "MOST_NUMBERS" 6, .int "MOST_HOUSES" 10, .int "MOST_STANDINGS" 729, .glo "WAYS", .int "MOST_COUNTED" 40, .int "MOST_SIZE" 1000000000000000000000000000000, .free "isinstance", .free "len", .free "range", .free "tuple", .free "list", .free "set", .free "dict", .free "sorted", .free "max", .free "min", .free "any", .free "all", .free "zip", .free "enumerate", .free "int", .free "str", .free "bool", .free "ValueError"]
abbrev R : PySem.W.OpenRow := PySem.W.OpenLaw.row PySem.Challenge.rw_mendring_k04_whole_rules_of_dijkstra
def exB (K : PySem.W.Frag) : Bool := true && He.tupB K "WAYS" [.str "one", .str "some", .str "all"]
def tf : List He.Defn := []
abbrev hk : PySem.W.Hook := He.hookX 4 fa fn [] tf exB
def ob (s : PySem.W.SharedT) : He.AlX := He.obsX 4 fa fn [] tf exB (HandSHeadRun.getT s)
theorem ob_eq (s : PySem.W.SharedT) : ob s = hk.obs s.abs := He.obsX_eq (HandSHeadRun.getT_eq s)
def loose : List Str := (["RingError", "InvalidRules", "InvalidSize", "InvalidWay", "InvalidStanding", "InvalidNumber", "MOST_NUMBERS", "MOST_HOUSES", "MOST_STANDINGS", "WAYS", "is_within", "is_line", "is_part", "are_rules_value", "power", "is_size", "is_standing", "need_rules", "need_size", "need_standing", "need_way", "entry_of", "movers_of", "moved_by", "lots_by"] : List Str) ++ (["steps_of", "standings_of", "dijkstra_of", "dijkstra", "movers", "right_at", "worths_of", "need_both", "is_right", "mends", "longest", "MOST_COUNTED", "MOST_SIZE", "counts_of", "plain_steps", "product", "is_closed", "can_die", "need_count", "fewest_movers", "can_be_dead", "_law_deck", "_law_pick", "_law_one", "_law_fits"] : List Str) ++ (["_law_right"] : List Str)
theorem run (w : World) : HandSHeadRun.RunEq R (PySem.W.view R.prog [57]) hk ob 8000 loose w := by
  intro os
  kernel_rfl
end HK

set_option Elab.async false
set_option linter.all false
set_option maxRecDepth 100000
set_option maxHeartbeats 0
namespace HK
open PySem PySem.Spec PyProof.Rows L2 DL
theorem ex_WAYS {K : PySem.W.Frag} (h : exB K = true) : He.tupB K "WAYS" [.str "one", .str "some", .str "all"] = true := (He.ba h).2
def gOf (P : Program) (w : World) (K : PySem.W.Frag) (mg : Str → Option Value) (base : Heap) : Gx := ⟨P, w, K, mg, base, lmm K mm0⟩
theorem tx_of {P : Program} {w : World} {K : PySem.W.Frag} {h : Heap} {mg : Str → Option Value} {base : Heap} (X : K.In h) (Gn : h.Ns mainGlobals mg) (c : He.SaysX fa fn [] tf exB w h K) : Tx (gOf P w K mg base) :=
  ⟨He.free_ok X Gn (c.t.d.fact 69 (f := .free "all") rfl),
   He.free_ok X Gn (c.t.d.fact 68 (f := .free "any") rfl),
   He.free_ok X Gn (c.t.d.fact 74 (f := .free "bool") rfl),
   He.free_ok X Gn (c.t.d.fact 64 (f := .free "dict") rfl),
   He.free_ok X Gn (c.t.d.fact 71 (f := .free "enumerate") rfl),
   He.free_ok X Gn (c.t.d.fact 72 (f := .free "int") rfl),
   He.free_ok X Gn (c.t.d.fact 58 (f := .free "isinstance") rfl),
   He.free_ok X Gn (c.t.d.fact 59 (f := .free "len") rfl),
   He.free_ok X Gn (c.t.d.fact 62 (f := .free "list") rfl),
   He.free_ok X Gn (c.t.d.fact 66 (f := .free "max") rfl),
   He.free_ok X Gn (c.t.d.fact 67 (f := .free "min") rfl),
   He.free_ok X Gn (c.t.d.fact 60 (f := .free "range") rfl),
   He.free_ok X Gn (c.t.d.fact 63 (f := .free "set") rfl),
   He.free_ok X Gn (c.t.d.fact 65 (f := .free "sorted") rfl),
   He.free_ok X Gn (c.t.d.fact 73 (f := .free "str") rfl),
   He.free_ok X Gn (c.t.d.fact 61 (f := .free "tuple") rfl),
   He.free_ok X Gn (c.t.d.fact 70 (f := .free "zip") rfl),
   He.int_ok X Gn (c.t.d.fact 56 (f := .int "MOST_COUNTED" 40) rfl),
   He.int_ok X Gn (c.t.d.fact 53 (f := .int "MOST_HOUSES" 10) rfl),
   He.int_ok X Gn (c.t.d.fact 52 (f := .int "MOST_NUMBERS" 6) rfl),
   He.int_ok X Gn (c.t.d.fact 57 (f := .int "MOST_SIZE" 1000000000000000000000000000000) rfl),
   He.int_ok X Gn (c.t.d.fact 54 (f := .int "MOST_STANDINGS" 729) rfl),
   ⟨_, He.glo_ok X Gn (c.t.d.fact 55 (f := .glo "WAYS") rfl), fun H => He.tupB_ok (vs := [.str "one", .str "some", .str "all"]) (ex_WAYS c.more) H⟩,
   let ⟨fd, F⟩ := c.t.d.def_ 0 (d := mkD "is_within" s_is_within) rfl; ⟨_, fd, F, He.glo_ok X Gn (c.t.d.fact 0 (f := .glo "is_within") rfl)⟩,
   let ⟨fd, F⟩ := c.t.d.def_ 1 (d := mkD "is_line" s_is_line) rfl; ⟨_, fd, F, He.glo_ok X Gn (c.t.d.fact 1 (f := .glo "is_line") rfl)⟩,
   let ⟨fd, F⟩ := c.t.d.def_ 2 (d := mkD "is_part" s_is_part) rfl; ⟨_, fd, F, He.glo_ok X Gn (c.t.d.fact 2 (f := .glo "is_part") rfl)⟩,
   let ⟨fd, F⟩ := c.t.d.def_ 3 (d := mkD "are_rules_value" s_are_rules_value) rfl; ⟨_, fd, F, He.glo_ok X Gn (c.t.d.fact 3 (f := .glo "are_rules_value") rfl)⟩,
   let ⟨fd, F⟩ := c.t.d.def_ 4 (d := mkD "power" s_power) rfl; ⟨_, fd, F, He.glo_ok X Gn (c.t.d.fact 4 (f := .glo "power") rfl)⟩,
   let ⟨fd, F⟩ := c.t.d.def_ 5 (d := mkD "is_size" s_is_size) rfl; ⟨_, fd, F, He.glo_ok X Gn (c.t.d.fact 5 (f := .glo "is_size") rfl)⟩,
   let ⟨fd, F⟩ := c.t.d.def_ 6 (d := mkD "is_standing" s_is_standing) rfl; ⟨_, fd, F, He.glo_ok X Gn (c.t.d.fact 6 (f := .glo "is_standing") rfl)⟩,
   let ⟨fd, F⟩ := c.t.d.def_ 7 (d := mkD "need_rules" s_need_rules) rfl; ⟨_, fd, F, He.glo_ok X Gn (c.t.d.fact 7 (f := .glo "need_rules") rfl)⟩,
   let ⟨fd, F⟩ := c.t.d.def_ 8 (d := mkD "need_size" s_need_size) rfl; ⟨_, fd, F, He.glo_ok X Gn (c.t.d.fact 8 (f := .glo "need_size") rfl)⟩,
   let ⟨fd, F⟩ := c.t.d.def_ 9 (d := mkD "need_standing" s_need_standing) rfl; ⟨_, fd, F, He.glo_ok X Gn (c.t.d.fact 9 (f := .glo "need_standing") rfl)⟩,
   let ⟨fd, F⟩ := c.t.d.def_ 10 (d := mkD "need_way" s_need_way) rfl; ⟨_, fd, F, He.glo_ok X Gn (c.t.d.fact 10 (f := .glo "need_way") rfl)⟩,
   let ⟨fd, F⟩ := c.t.d.def_ 11 (d := mkD "entry_of" s_entry_of) rfl; ⟨_, fd, F, He.glo_ok X Gn (c.t.d.fact 11 (f := .glo "entry_of") rfl)⟩,
   let ⟨fd, F⟩ := c.t.d.def_ 12 (d := mkD "movers_of" s_movers_of) rfl; ⟨_, fd, F, He.glo_ok X Gn (c.t.d.fact 12 (f := .glo "movers_of") rfl)⟩,
   let ⟨fd, F⟩ := c.t.d.def_ 13 (d := mkD "moved_by" s_moved_by) rfl; ⟨_, fd, F, He.glo_ok X Gn (c.t.d.fact 13 (f := .glo "moved_by") rfl)⟩,
   let ⟨fd, F⟩ := c.t.d.def_ 14 (d := mkD "lots_by" s_lots_by) rfl; ⟨_, fd, F, He.glo_ok X Gn (c.t.d.fact 14 (f := .glo "lots_by") rfl)⟩,
   let ⟨fd, F⟩ := c.t.d.def_ 15 (d := mkD "steps_of" s_steps_of) rfl; ⟨_, fd, F, He.glo_ok X Gn (c.t.d.fact 15 (f := .glo "steps_of") rfl)⟩,
   let ⟨fd, F⟩ := c.t.d.def_ 16 (d := mkD "standings_of" s_standings_of) rfl; ⟨_, fd, F, He.glo_ok X Gn (c.t.d.fact 16 (f := .glo "standings_of") rfl)⟩,
   let ⟨fd, F⟩ := c.t.d.def_ 17 (d := mkD "dijkstra_of" s_dijkstra_of) rfl; ⟨_, fd, F, He.glo_ok X Gn (c.t.d.fact 17 (f := .glo "dijkstra_of") rfl)⟩,
   let ⟨fd, F⟩ := c.t.d.def_ 18 (d := mkD "dijkstra" s_dijkstra) rfl; ⟨_, fd, F, He.glo_ok X Gn (c.t.d.fact 18 (f := .glo "dijkstra") rfl)⟩,
   let ⟨fd, F⟩ := c.t.d.def_ 19 (d := mkD "movers" s_movers) rfl; ⟨_, fd, F, He.glo_ok X Gn (c.t.d.fact 19 (f := .glo "movers") rfl)⟩,
   let ⟨fd, F⟩ := c.t.d.def_ 20 (d := mkD "right_at" s_right_at) rfl; ⟨_, fd, F, He.glo_ok X Gn (c.t.d.fact 20 (f := .glo "right_at") rfl)⟩,
   let ⟨fd, F⟩ := c.t.d.def_ 21 (d := mkD "worths_of" s_worths_of) rfl; ⟨_, fd, F, He.glo_ok X Gn (c.t.d.fact 21 (f := .glo "worths_of") rfl)⟩,
   let ⟨fd, F⟩ := c.t.d.def_ 22 (d := mkD "need_both" s_need_both) rfl; ⟨_, fd, F, He.glo_ok X Gn (c.t.d.fact 22 (f := .glo "need_both") rfl)⟩,
   let ⟨fd, F⟩ := c.t.d.def_ 23 (d := mkD "is_right" s_is_right) rfl; ⟨_, fd, F, He.glo_ok X Gn (c.t.d.fact 23 (f := .glo "is_right") rfl)⟩,
   let ⟨fd, F⟩ := c.t.d.def_ 24 (d := mkD "mends" s_mends) rfl; ⟨_, fd, F, He.glo_ok X Gn (c.t.d.fact 24 (f := .glo "mends") rfl)⟩,
   let ⟨fd, F⟩ := c.t.d.def_ 25 (d := mkD "longest" s_longest) rfl; ⟨_, fd, F, He.glo_ok X Gn (c.t.d.fact 25 (f := .glo "longest") rfl)⟩,
   let ⟨fd, F⟩ := c.t.d.def_ 26 (d := mkD "counts_of" s_counts_of) rfl; ⟨_, fd, F, He.glo_ok X Gn (c.t.d.fact 26 (f := .glo "counts_of") rfl)⟩,
   let ⟨fd, F⟩ := c.t.d.def_ 27 (d := mkD "plain_steps" s_plain_steps) rfl; ⟨_, fd, F, He.glo_ok X Gn (c.t.d.fact 27 (f := .glo "plain_steps") rfl)⟩,
   let ⟨fd, F⟩ := c.t.d.def_ 28 (d := mkD "product" s_product) rfl; ⟨_, fd, F, He.glo_ok X Gn (c.t.d.fact 28 (f := .glo "product") rfl)⟩,
   let ⟨fd, F⟩ := c.t.d.def_ 29 (d := mkD "is_closed" s_is_closed) rfl; ⟨_, fd, F, He.glo_ok X Gn (c.t.d.fact 29 (f := .glo "is_closed") rfl)⟩,
   let ⟨fd, F⟩ := c.t.d.def_ 30 (d := mkD "can_die" s_can_die) rfl; ⟨_, fd, F, He.glo_ok X Gn (c.t.d.fact 30 (f := .glo "can_die") rfl)⟩,
   let ⟨fd, F⟩ := c.t.d.def_ 31 (d := mkD "need_count" s_need_count) rfl; ⟨_, fd, F, He.glo_ok X Gn (c.t.d.fact 31 (f := .glo "need_count") rfl)⟩,
   let ⟨fd, F⟩ := c.t.d.def_ 32 (d := mkD "fewest_movers" s_fewest_movers) rfl; ⟨_, fd, F, He.glo_ok X Gn (c.t.d.fact 32 (f := .glo "fewest_movers") rfl)⟩,
   let ⟨fd, F⟩ := c.t.d.def_ 33 (d := mkD "can_be_dead" s_can_be_dead) rfl; ⟨_, fd, F, He.glo_ok X Gn (c.t.d.fact 33 (f := .glo "can_be_dead") rfl)⟩,
   let ⟨fd, F⟩ := c.t.d.def_ 34 (d := mkD "_law_deck" s__law_deck) rfl; ⟨_, fd, F, He.glo_ok X Gn (c.t.d.fact 34 (f := .glo "_law_deck") rfl)⟩,
   let ⟨fd, F⟩ := c.t.d.def_ 35 (d := mkD "_law_pick" s__law_pick) rfl; ⟨_, fd, F, He.glo_ok X Gn (c.t.d.fact 35 (f := .glo "_law_pick") rfl)⟩,
   let ⟨fd, F⟩ := c.t.d.def_ 36 (d := mkD "_law_one" s__law_one) rfl; ⟨_, fd, F, He.glo_ok X Gn (c.t.d.fact 36 (f := .glo "_law_one") rfl)⟩,
   let ⟨fd, F⟩ := c.t.d.def_ 37 (d := mkD "_law_fits" s__law_fits) rfl; ⟨_, fd, F, He.glo_ok X Gn (c.t.d.fact 37 (f := .glo "_law_fits") rfl)⟩,
   let ⟨fd, F⟩ := c.t.d.def_ 38 (d := mkD "_law_right" s__law_right) rfl; ⟨_, fd, F, He.glo_ok X Gn (c.t.d.fact 38 (f := .glo "_law_right") rfl)⟩,
   let ⟨fd, F⟩ := c.t.d.def_ 39 (d := mkD "law" s_law) rfl; ⟨_, fd, F, He.glo_ok X Gn (c.t.d.fact 39 (f := .glo "law") rfl)⟩⟩
theorem law_start {K : PySem.W.Frag} {H : Hp} {a : Addr} {ns : List Int} (hl : ns.length ≤ 63) (hS : SqL K H a (ns.map V.int)) : toSp (lmm K mm0) (C_law (lmD K mm0)) [.ref a] H (fun v _ => v = .bl true) fun _ _ _ => False := by
  obtain ⟨tr, st⟩ := stands_of hS
  refine ⟨fun _ => none, ⟨a, ns, tr, none, ()⟩, [.ob a], fun d _ => d = .bl true, fun _ _ => False, ⟨fun _ _ h => (nomatch h), ⟨st, fun _ h => (nomatch h), trivial⟩, fun _ _ => rfl⟩, .cons (.ob a) .nil, ⟨rfl, hl, fun _ => rfl⟩, fun v d F' H' μ' _ _ r e => ?_, fun _ _ _ _ _ _ _ _ h => h.elim⟩
  subst e
  cases r
  rfl
theorem facts {P : Program} {w : World} {K : PySem.W.Frag} {h : Heap} {mg : Str → Option Value} {f : Addr} (X : K.In h) (Gn : h.Ns mainGlobals mg) (hfa : mg ("law" : Str) = some (.ref f)) (c : He.SaysX fa fn [] tf exB w h K) :
    ∃ fd : FuncData, (∀ (s : Shared) (v : Value), BindsTo s fd ⟨[v], []⟩ [("_law_script", v)]) ∧ ∀ base : Heap, K.In base → base.Ns mainGlobals mg → FnOk P w K mg base (L2.CX P w) 10 f fd ["_law_script"] (toSp (lmm K mm0) (C_law (lmD K mm0))) := by
  obtain ⟨fd, F⟩ := c.t.d.def_ 39 (d := mkD "law" s_law) rfl
  have e := hfa.symm.trans (He.glo_ok X Gn (c.t.d.fact 39 (f := .glo "law") rfl))
  cases e
  have b := FunD.bindsA (ps := ["_law_script"]) F fun _ _ _ _ _ _ us hl => match us, hl with | [_], _ => rfl
  refine ⟨fd, fun s v => b s [v] rfl, fun base _ _ => ?_⟩
  exact d_law_ok (G := gOf P w K mg base) (tx_of X Gn c) (lmD K mm0) F
end HK
open PySem PySem.W PySem.Calls PyProof.Rows
theorem PySem.Challenge.cw_mendring_k04_whole_rules_of_dijkstra_holds : PySem.Challenge.rw_mendring_k04_whole_rules_of_dijkstra.Holds := by
  w_on; o_law
  refine HandSHeadRun.head_any (r := OpenLaw.row PySem.Challenge.rw_mendring_k04_whole_rules_of_dijkstra) (q := view (OpenLaw.row PySem.Challenge.rw_mendring_k04_whole_rules_of_dijkstra).prog [57]) (H := HK.hk) (ob := HK.ob) (M := 8000) (loose := HK.loose) (d := HandSHeadRun.topDef (OpenLaw.row PySem.Challenge.rw_mendring_k04_whole_rules_of_dijkstra).prog 57) (kwd := []) HK.ob_eq
    (by kernel_rfl) (fun s => by kernel_rfl) HK.run (by kernel_rfl) (by kernel_rfl) (by kernel_rfl) (by rfl) (by first | assumption | decide +kernel) (by decide +kernel) ⟨rfl, rfl, rfl, rfl, rfl, by decide +kernel⟩ ?hw ?hc
  case hw => w_witness2
  case hc =>
    refine LamX.walk_ofTsE (l := PySem.Challenge.rw_mendring_k04_whole_rules_of_dijkstra) (n := 63) (k := 10) (x := "_law_script") (CX := fun w => L2.CX (PySem.Challenge.rw_mendring_k04_whole_rules_of_dijkstra).prog w) rfl (by decide) (by kernel_rfl) ⟨rfl, by decide, by decide⟩ ?F (fun w H s e s' z => ?_)
    · intro w mg fa h Y G hmg0
      obtain ⟨K, KX, c⟩ := Y
      have hmg : mg ("law" : PySem.Str) = some (.ref fa) := by
        have e : (HandSHeadRun.topDef (OpenLaw.row PySem.Challenge.rw_mendring_k04_whole_rules_of_dijkstra).prog 57).name = ("law" : PySem.Str) := by kernel_rfl
        rw [← e]
        exact hmg0
      obtain ⟨fd, hb, hF⟩ := HK.facts (P := (PySem.Challenge.rw_mendring_k04_whole_rules_of_dijkstra).prog) (w := w) KX G hmg c
      refine ⟨K, KX, ⟨fd, [], DL.toSp (DL.lmm K DL.mm0) (HK.C_law (DL.lmD K DL.mm0)), ?_, ?_, ?_, hb, fun H a ns hl _ _ hS => HK.law_start hl hS, fun base h1 h2 _ => hF base h1 h2⟩⟩
      · intro p hp; cases hp
      · intro p hp; cases hp
      · intro p hp; cases hp
    · obtain ⟨_, _, _, _, _, _, _, _, _, _, _, _, z⟩ := z
      exact z.elim

