import PyProof.Rows.All
import Wide.All
import OpenK.AllK
import Wide.FinOn
import HandS.ForMost
import HandS.ForExc
import HandS.Wide
import HandS.Walk
import HandS.RevRange
import HandS.Conv
import HandS.IsInst
import HandS.WideBits
import HandS.Style
import PySem.Challenge.RW_factorforge_k04_primes
set_option Elab.async false
set_option linter.all false
set_option maxRecDepth 100000
set_option maxHeartbeats 4000000
namespace GL
open PySem PySem.Spec PyProof.Rows L2

/-! ### deep values -/
inductive D where
  | non | bl (b : Bool) | int (i : Int) | str (x : Str)
  | lst (xs : List D) | tup (xs : List D)
  /-- the script -/
  | scr (xs : List D)
  | obj (c : Nat) (fs : List (Str × D))
  | exc (c : Nat) (fs : List (Str × D))
  /-- an object that is being made, at its address -/
  | own (a : Addr) (c : Nat) (fs : List (Str × D))
  deriving Inhabited

inductive Res (α : Type) where
  | ok (a : α) | xc (c : Nat) (fs : List (Str × D)) | bad
namespace Res
variable {α β γ : Type}
@[inline] def bind (r : Res α) (f : α → Res β) : Res β := match r with
  | .ok a => f a
  | .xc c fs => .xc c fs
  | .bad => .bad
@[simp] theorem bind_ok (a : α) (f : α → Res β) : (Res.ok a).bind f = f a := rfl
@[simp] theorem bind_xc (c fs) (f : α → Res β) : (Res.xc c fs : Res α).bind f = .xc c fs := rfl
@[simp] theorem bind_bad (f : α → Res β) : (Res.bad : Res α).bind f = .bad := rfl
def ofO : Option α → Res α
  | some a => .ok a
  | none => .bad
@[simp] theorem ofO_some (a : α) : ofO (some a) = .ok a := rfl
@[simp] theorem ofO_none : ofO (none : Option α) = .bad := rfl
def map (f : α → β) (r : Res α) : Res β := r.bind fun a => .ok (f a)
@[simp] theorem map_ok (a : α) (f : α → β) : (Res.ok a).map f = .ok (f a) := rfl
theorem bind_assoc (r : Res α) (f : α → Res β) (g : β → Res γ) : (r.bind f).bind g = r.bind fun a => (f a).bind g := by cases r <;> rfl
end Res

abbrev EnvG := List (Option D)
def lk (ev : EnvG) (i : Nat) : Res D := match ev[i]? with
  | some (some d) => .ok d
  | _ => .bad

inductive Out where
  | nx (ev : EnvG) | rt (d : D) | bk (ev : EnvG) | ct (ev : EnvG) | xc (c : Nat) (fs : List (Str × D)) (ev : EnvG) | bad
namespace Out
/-- a statement, then another -/
def seq (o : Out) (f : EnvG → Out) : Out := match o with
  | .nx ev => f ev
  | o => o
@[simp] theorem seq_nx (ev f) : (Out.nx ev).seq f = f ev := rfl
@[simp] theorem seq_rt (d f) : (Out.rt d).seq f = .rt d := rfl
@[simp] theorem seq_bk (d f) : (Out.bk d).seq f = .bk d := rfl
@[simp] theorem seq_ct (d f) : (Out.ct d).seq f = .ct d := rfl
@[simp] theorem seq_xc (c fs ev f) : (Out.xc c fs ev).seq f = .xc c fs ev := rfl
@[simp] theorem seq_bad (f) : Out.bad.seq f = .bad := rfl
end Out
/-- an expression's value, then a statement; what is raised is raised at ev -/
def Res.out {α : Type} (r : Res α) (ev : EnvG) (f : α → Out) : Out := match r with
  | .ok a => f a
  | .xc c fs => .xc c fs ev
  | .bad => .bad
@[simp] theorem Res.out_ok {α : Type} (a : α) (ev) (f : α → Out) : (Res.ok a).out ev f = f a := rfl
@[simp] theorem Res.out_xc {α : Type} (c fs ev) (f : α → Out) : (Res.xc c fs : Res α).out ev f = .xc c fs ev := rfl
@[simp] theorem Res.out_bad {α : Type} (ev) (f : α → Out) : (Res.bad : Res α).out ev f = .bad := rfl

/-! ### what represents what -/
def excHO (a C : Addr) (d : Option Addr) : HO := .ext fun h => ∃ oe, h.get? a = some oe ∧ oe.cls = .ref C ∧ oe.dict = d ∧ ∃ vs, oe.data = .fields vs
mutual
inductive Rep (K : PySem.W.Frag) (ca : Nat → Addr) (B : Hp) : V → D → Prop
  | non : Rep K ca B .non .non
  | bl (b : Bool) : Rep K ca B (.bl b) (.bl b)
  | int (i : Int) : Rep K ca B (.int i) (.int i)
  | str (x : Str) : Rep K ca B (.str x) (.str x)
  | lst {a : Addr} {xs : List V} {ds : List D} : B a = some (.lst xs) → RepL K ca B xs ds → Rep K ca B (.ref a) (.lst ds)
  | tup {a : Addr} {xs : List V} {ds : List D} : B a = some (.tup xs) → RepL K ca B xs ds → Rep K ca B (.ref a) (.tup ds)
  | scr {a : Addr} {xs : List V} {ds : List D} : SqL K B a xs → RepL K ca B xs ds → Rep K ca B (.ref a) (.scr ds)
  | obj {a dx : Addr} {c : Nat} {vs : List (Str × V)} {fs : List (Str × D)} : B a = some (.ins (ca c) dx vs) → RepF K ca B vs fs → Rep K ca B (.ref a) (.obj c fs)
  | exc {a : Addr} {c : Nat} {dd : Option Addr} {vs : List (Str × V)} {fs : List (Str × D)} : B a = some (excHO a (ca c) dd) → (fs = [] ∨ ∃ dx, dd = some dx ∧ B dx = some (.xd vs)) → RepF K ca B vs fs → Rep K ca B (.ref a) (.exc c fs)
  | own {a dx : Addr} {c : Nat} {vs : List (Str × V)} {fs : List (Str × D)} : B a = some (.ins (ca c) dx vs) → RepF K ca B vs fs → Rep K ca B (.ref a) (.own a c fs)
inductive RepL (K : PySem.W.Frag) (ca : Nat → Addr) (B : Hp) : List V → List D → Prop
  | nil : RepL K ca B [] []
  | cons {v : V} {vs : List V} {d : D} {ds : List D} : Rep K ca B v d → RepL K ca B vs ds → RepL K ca B (v :: vs) (d :: ds)
inductive RepF (K : PySem.W.Frag) (ca : Nat → Addr) (B : Hp) : List (Str × V) → List (Str × D) → Prop
  | nil : RepF K ca B [] []
  | cons {f : Str} {v : V} {vs : List (Str × V)} {d : D} {ds : List (Str × D)} : Rep K ca B v d → RepF K ca B vs ds → RepF K ca B ((f, v) :: vs) ((f, d) :: ds)
end
section
variable {K : PySem.W.Frag} {ca : Nat → Addr} {B B' H H' : Hp}
theorem Same.rd {a : Addr} {o : HO} (e : Same H H') (h : Rd H a o) : Rd H' a o := h.imp (e _ _) fun ⟨u, z⟩ => ⟨u, e _ _ z⟩
theorem Same.seqT {a : Addr} {xs : List V} (e : Same H H') (h : SqT K H a xs) : SqT K H' a xs := by
  rcases h with (h | ⟨o, h⟩) | h
  · exact .inl (.inl (e _ _ h))
  · exact .inl (.inr ⟨o, e _ _ h⟩)
  · exact .inr h
mutual
theorem Rep.mono (e : Same B B') : ∀ {v : V} {d : D}, Rep K ca B v d → Rep K ca B' v d
  | _, _, .non => .non
  | _, _, .bl b => .bl b
  | _, _, .int i => .int i
  | _, _, .str x => .str x
  | _, _, .lst h t => .lst (e _ _ h) (RepL.mono e t)
  | _, _, .scr h t => .scr (e.seq h) (RepL.mono e t)
  | _, _, .tup h t => .tup (e _ _ h) (RepL.mono e t)
  | _, _, .obj h t => .obj (e _ _ h) (RepF.mono e t)
  | _, _, .exc h g t => .exc (e _ _ h) (g.imp id fun ⟨dx, q, z⟩ => ⟨dx, q, e _ _ z⟩) (RepF.mono e t)
  | _, _, .own h t => .own (e _ _ h) (RepF.mono e t)
theorem RepL.mono (e : Same B B') : ∀ {v : List V} {d : List D}, RepL K ca B v d → RepL K ca B' v d
  | _, _, .nil => .nil
  | _, _, .cons h t => .cons (Rep.mono e h) (RepL.mono e t)
theorem RepF.mono (e : Same B B') : ∀ {v : List (Str × V)} {d : List (Str × D)}, RepF K ca B v d → RepF K ca B' v d
  | _, _, .nil => .nil
  | _, _, .cons h t => .cons (Rep.mono e h) (RepF.mono e t)
end
theorem RepL.length : ∀ {vs : List V} {ds : List D}, RepL K ca B vs ds → vs.length = ds.length
  | _, _, .nil => rfl
  | _, _, .cons _ t => congrArg (· + 1) (RepL.length t)
theorem RepL.get : ∀ {vs : List V} {ds : List D} {i : Nat} {d : D}, RepL K ca B vs ds → ds[i]? = some d → ∃ v, vs[i]? = some v ∧ Rep K ca B v d
  | _, _, _, _, .nil, e => by simp at e
  | _, _, 0, _, .cons h _, e => by
    simp at e; subst e; exact ⟨_, rfl, h⟩
  | _, _, i + 1, _, .cons _ t, e => RepL.get (i := i) t (by simpa using e)
theorem RepL.getV : ∀ {vs : List V} {ds : List D} {i : Nat} {v : V}, RepL K ca B vs ds → vs[i]? = some v → ∃ d, ds[i]? = some d ∧ Rep K ca B v d
  | _, _, _, _, .nil, e => by simp at e
  | _, _, 0, _, .cons h _, e => by
    simp at e; subst e; exact ⟨_, rfl, h⟩
  | _, _, i + 1, _, .cons _ t, e => RepL.getV (i := i) t (by simpa using e)
theorem RepL.append : ∀ {vs ws : List V} {ds es : List D}, RepL K ca B vs ds → RepL K ca B ws es → RepL K ca B (vs ++ ws) (ds ++ es)
  | _, _, _, _, .nil, t => t
  | _, _, _, _, .cons h t, u => .cons h (RepL.append t u)
theorem RepL.take : ∀ {vs : List V} {ds : List D} (n : Nat), RepL K ca B vs ds → RepL K ca B (vs.take n) (ds.take n)
  | _, _, 0, _ => by simp; exact .nil
  | _, _, _ + 1, .nil => .nil
  | _, _, n + 1, .cons h t => .cons h (RepL.take n t)
theorem RepL.drop : ∀ {vs : List V} {ds : List D} (n : Nat), RepL K ca B vs ds → RepL K ca B (vs.drop n) (ds.drop n)
  | _, _, 0, h => h
  | _, _, _ + 1, .nil => .nil
  | _, _, n + 1, .cons _ t => RepL.drop n t
theorem RepL.set {v : V} {d : D} (r : Rep K ca B v d) : ∀ {vs : List V} {ds : List D} (n : Nat), RepL K ca B vs ds → RepL K ca B (vs.set n v) (ds.set n d)
  | _, _, _, .nil => .nil
  | _, _, 0, .cons _ t => .cons r t
  | _, _, n + 1, .cons h t => .cons h (RepL.set r n t)
theorem RepL.dropLast : ∀ {vs : List V} {ds : List D}, RepL K ca B vs ds → RepL K ca B vs.dropLast ds.dropLast
  | _, _, .nil => .nil
  | _, _, .cons h .nil => .nil
  | _, _, .cons h (.cons h' t) => .cons h (RepL.dropLast (.cons h' t))
theorem RepL.rep {vs : List V} {ds : List D} (r : RepL K ca B vs ds) : ∀ n : Nat, RepL K ca B (List.replicate n vs).flatten (List.replicate n ds).flatten
  | 0 => .nil
  | n + 1 => by
    rw [List.replicate_succ, List.replicate_succ, List.flatten_cons, List.flatten_cons]
    exact r.append (RepL.rep r n)
theorem RepL.reverse : ∀ {vs : List V} {ds : List D}, RepL K ca B vs ds → RepL K ca B vs.reverse ds.reverse
  | _, _, .nil => .nil
  | _, _, .cons h t => by
    rw [List.reverse_cons, List.reverse_cons]
    exact (RepL.reverse t).append (.cons h .nil)
theorem RepF.lookup {f : Str} : ∀ {vs : List (Str × V)} {ds : List (Str × D)} {d : D}, RepF K ca B vs ds → ds.lookup f = some d → ∃ v, vs.lookup f = some v ∧ Rep K ca B v d
  | _, _, _, .nil, e => by simp at e
  | _, _, _, .cons (f := g) h t, e => by
    rw [List.lookup_cons] at e ⊢
    cases q : f == g with
    | true =>
      rw [q] at e
      dsimp only at e ⊢
      cases e
      exact ⟨_, rfl, h⟩
    | false =>
      rw [q] at e
      dsimp only at e ⊢
      exact RepF.lookup t e
theorem RepF.lookupN {f : Str} : ∀ {vs : List (Str × V)} {ds : List (Str × D)}, RepF K ca B vs ds → ds.lookup f = none → vs.lookup f = none
  | _, _, .nil, e => rfl
  | _, _, .cons (f := g) h t, e => by
    rw [List.lookup_cons] at e ⊢
    cases q : f == g with
    | true =>
      rw [q] at e
      dsimp only at e
      cases e
    | false =>
      rw [q] at e
      dsimp only at e ⊢
      exact RepF.lookupN t e
end

/-! ### heaps that grow -/
structure Grow (B H B' H' : Hp) : Prop where
  b : Same B B'
  h : Same H H'
  c : ∀ a, H a ≠ none → B a = none → B' a = none
  s : Same B' H'
section
variable {B H B' H' B2 H2 : Hp} {p : Addr} {o : HO}
theorem Grow.refl (s : Same B H) : Grow B H B H := ⟨Same.refl _, Same.refl _, fun _ _ h => h, s⟩
theorem Grow.trans (x : Grow B H B' H') (y : Grow B' H' B2 H2) : Grow B H B2 H2 :=
  ⟨x.b.trans y.b, x.h.trans y.h, fun a h1 h2 => y.c a (by
    cases q : H a with
    | none => exact absurd q h1
    | some o => rw [x.h a o q]; exact fun z => by cases z) (x.c a h1 h2), y.s⟩
theorem same_upd (h : H p = none) : Same H (upd H p o) := fun b x e => by
  rw [upd_ne (ne_of_none e h)]
  exact e
theorem Same.updB (s : Same B H) (h : H p = none) : Same (upd B p o) (upd H p o) := fun b x e => by
  by_cases q : b = p
  · subst q
    rw [upd_same] at e ⊢
    exact e
  · rw [upd_ne q] at e ⊢
    exact s b x e
/-- a new thing, frozen -/
theorem Grow.newB (s : Same B H) (h : H p = none) : Grow B H (upd B p o) (upd H p o) :=
  ⟨same_upd (s.free h), same_upd h, fun a h1 h2 => by
    rw [upd_ne (fun z => h1 (by rw [z]; exact h))]
    exact h2, Same.updB s h⟩
/-- a new thing, one's own -/
theorem Grow.newH (s : Same B H) (h : H p = none) : Grow B H B (upd H p o) :=
  ⟨Same.refl _, same_upd h, fun _ _ h => h, s.trans (same_upd h)⟩
end

/-! ### the state -/
/-- what stands in a slot of one's own -/
inductive OwnO (K : PySem.W.Frag) (ca : Nat → Addr) (B : Hp) : Addr → HO → D → Prop
  | lst {a : Addr} {xs : List V} {ds : List D} : RepL K ca B xs ds → OwnO K ca B a (.lst xs) (.lst ds)
  | obj {a dx : Addr} {c : Nat} {vs : List (Str × V)} {fs : List (Str × D)} : RepF K ca B vs fs → OwnO K ca B a (.ins (ca c) dx vs) (.own a c fs)
theorem OwnO.mono {K : PySem.W.Frag} {ca : Nat → Addr} {B B' : Hp} {a : Addr} {o : HO} {d : D} (e : Same B B') : OwnO K ca B a o d → OwnO K ca B' a o d
  | .lst t => .lst (t.mono e)
  | .obj t => .obj (t.mono e)
theorem OwnO.rep {K : PySem.W.Frag} {ca : Nat → Addr} {B : Hp} {a : Addr} {o : HO} {d : D} (h : B a = some o) : OwnO K ca B a o d → Rep K ca B (.ref a) d
  | .lst t => .lst h t
  | .obj t => .own h t
theorem OwnO.lst' {K : PySem.W.Frag} {ca : Nat → Addr} {B : Hp} {a : Addr} {o : HO} {ds : List D} : OwnO K ca B a o (.lst ds) → ∃ xs, o = .lst xs ∧ RepL K ca B xs ds
  | .lst t => ⟨_, rfl, t⟩
structure GR (K : PySem.W.Frag) (ca : Nat → Addr) (B0 H0 : Hp) (own : List Nat) (B H : Hp) (σ : L2.St) (ev : EnvG) : Prop where
  sub : Same B H
  b0 : Same B0 B
  h0 : Same H0 H
  cut : ∀ a, H0 a ≠ none → B0 a = none → B a = none
  len : ev.length = σ.length
  loc : ∀ j d, j ∉ own → ev[j]? = some (some d) → ∃ v, σ[j]? = some (some v) ∧ Rep K ca B v d
  owns : ∀ j d, j ∈ own → ev[j]? = some (some d) → ∃ a o, σ[j]? = some (some (.ref a)) ∧ B a = none ∧ H0 a = none ∧ H a = some o ∧ OwnO K ca B a o d
  apart : ∀ i j a d e, i ∈ own → j ∈ own → ev[i]? = some (some d) → ev[j]? = some (some e) → σ[i]? = some (some (.ref a)) → σ[j]? = some (some (.ref a)) → i = j
section
variable {K : PySem.W.Frag} {ca : Nat → Addr} {B0 H0 B H B' H' : Hp} {own own' : List Nat} {σ : L2.St} {ev : EnvG}
theorem GR.grow (x : GR K ca B0 H0 own B H σ ev) (y : Grow B H B' H') : GR K ca B0 H0 own B' H' σ ev where
  sub := y.s
  b0 := x.b0.trans y.b
  h0 := x.h0.trans y.h
  cut := fun a h1 h2 => y.c a (by
    cases q : H0 a with
    | none => exact absurd q h1
    | some o => rw [x.h0 a o q]; exact fun z => by cases z) (x.cut a h1 h2)
  len := x.len
  loc := fun j d h e => let ⟨v, h1, h2⟩ := x.loc j d h e; ⟨v, h1, h2.mono y.b⟩
  owns := fun j d h e => by
    obtain ⟨a, xs, h1, h3, h4, h5, h6⟩ := x.owns j d h e
    exact ⟨a, xs, h1, y.c a (by rw [h5]; exact fun z => by cases z) h3, h4, y.h _ _ h5, h6.mono y.b⟩
  apart := x.apart
/-- one's own thing frozen -/
theorem GR.freeze1 (x : GR K ca B0 H0 own B H σ ev) {i : Nat} (hi : i ∈ own) : ∃ B', GR K ca B0 H0 (own.filter (· ≠ i)) B' H σ ev ∧ Same B B' := by
  have hm : ∀ j, j ∈ own.filter (· ≠ i) ↔ j ∈ own ∧ j ≠ i := fun j => by simp
  cases q : ev[i]? with
  | none =>
    refine ⟨B, ⟨x.sub, x.b0, x.h0, x.cut, x.len, fun j d h e => ?_, fun j d h e => x.owns j d ((hm j).mp h).1 e, fun a b c d e h1 h2 => x.apart a b c d e ((hm a).mp h1).1 ((hm b).mp h2).1⟩, Same.refl _⟩
    by_cases hj : j ∈ own
    · have : j = i := Classical.byContradiction fun z => h ((hm j).mpr ⟨hj, z⟩)
      subst this
      rw [q] at e; cases e
    · exact x.loc j d hj e
  | some oo =>
    cases oo with
    | none =>
      refine ⟨B, ⟨x.sub, x.b0, x.h0, x.cut, x.len, fun j d h e => ?_, fun j d h e => x.owns j d ((hm j).mp h).1 e, fun a b c d e h1 h2 => x.apart a b c d e ((hm a).mp h1).1 ((hm b).mp h2).1⟩, Same.refl _⟩
      by_cases hj : j ∈ own
      · have : j = i := Classical.byContradiction fun z => h ((hm j).mpr ⟨hj, z⟩)
        subst this
        rw [q] at e; cases e
      · exact x.loc j d hj e
    | some d0 =>
      obtain ⟨a, xs, h1, h3, h4, h5, h6⟩ := x.owns i d0 hi q
      have sb : Same B (upd B a xs) := same_upd h3
      refine ⟨upd B a xs, ⟨fun b o e => ?_, x.b0.trans sb, x.h0, fun b z1 z2 => ?_, x.len, fun j d h e => ?_, fun j d h e => ?_, fun b c d e f h1 h2 => x.apart b c d e f ((hm b).mp h1).1 ((hm c).mp h2).1⟩, sb⟩
      · by_cases hb : b = a
        · subst hb
          rw [upd_same] at e; cases e
          exact h5
        · rw [upd_ne hb] at e
          exact x.sub b o e
      · rw [upd_ne (fun z => z1 (by rw [z]; exact h4))]
        exact x.cut b z1 z2
      · by_cases hj : j ∈ own
        · have : j = i := Classical.byContradiction fun z => h ((hm j).mpr ⟨hj, z⟩)
          subst this
          rw [q] at e; cases e
          exact ⟨_, h1, (h6.mono sb).rep upd_same⟩
        · obtain ⟨v, e1, e2⟩ := x.loc j d hj e
          exact ⟨v, e1, e2.mono sb⟩
      · obtain ⟨hj, hne⟩ := (hm j).mp h
        obtain ⟨a', xs', k1, k3, k4, k5, k6⟩ := x.owns j d hj e
        refine ⟨a', xs', k1, ?_, k4, k5, k6.mono sb⟩
        rw [upd_ne]
        · exact k3
        · rintro rfl
          exact hne (x.apart j i _ _ _ hj hi e q k1 h1)
theorem GR.same (x : GR K ca B0 H0 own B H σ ev) (h : ∀ j, j ∈ own' ↔ j ∈ own) : GR K ca B0 H0 own' B H σ ev :=
  ⟨x.sub, x.b0, x.h0, x.cut, x.len, fun j d e => x.loc j d fun z => e ((h j).mpr z), fun j d e => x.owns j d ((h j).mp e), fun i j a d e h1 h2 => x.apart i j a d e ((h i).mp h1) ((h j).mp h2)⟩
theorem GR.weaken : ∀ (own : List Nat) {B : Hp}, GR K ca B0 H0 own B H σ ev → (∀ j, j ∈ own' → j ∈ own) → (∀ n, own.length ≤ n → ∃ B', GR K ca B0 H0 own' B' H σ ev ∧ Same B B') := by
  intro own B x hs n
  induction n generalizing own B with
  | zero =>
    intro hn
    have : own = [] := List.eq_nil_of_length_eq_zero (by omega)
    subst this
    exact ⟨B, x.same fun j => ⟨hs j, fun z => by cases z⟩, Same.refl _⟩
  | succ n ih =>
    intro hn
    by_cases h : ∀ j, j ∈ own → j ∈ own'
    · exact ⟨B, x.same fun j => ⟨hs j, h j⟩, Same.refl _⟩
    · obtain ⟨i, hi⟩ := Classical.not_forall.mp h
      have h1 : i ∈ own := Classical.byContradiction fun z => hi fun q => absurd q z
      have h2 : i ∉ own' := fun z => hi fun _ => z
      obtain ⟨B1, x1, s1⟩ := x.freeze1 h1
      obtain ⟨B2, x2, s2⟩ := ih _ x1 (fun j hj => by simp only [ne_eq, decide_not, List.mem_filter, Bool.not_eq_eq_eq_not, Bool.not_true, decide_eq_false_iff_not]; exact ⟨hs j hj, fun z => h2 (z ▸ hj)⟩) (by
        have : (own.filter (· ≠ i)).length < own.length := List.length_filter_lt_length_iff_exists.mpr ⟨i, h1, by simp⟩
        omega)
      exact ⟨B2, x2, s1.trans s2⟩
theorem GR.weak (x : GR K ca B0 H0 own B H σ ev) (hs : ∀ j, j ∈ own' → j ∈ own) : ∃ B', GR K ca B0 H0 own' B' H σ ev ∧ Same B B' := GR.weaken own x hs _ (Nat.le_refl _)
end
end GL

namespace GL
open PySem PySem.Spec PyProof.Rows L2

/-! ### what a continuation gives -/
/-- for each thing that stands for d -/
def KOk (K : PySem.W.Frag) (ca : Nat → Addr) (B H : Hp) (Q : VK) (d : D) : Prop := ∀ v B' H', Grow B H B' H' → Rep K ca B' v d → Q v H'
def ExAt (K : PySem.W.Frag) (ca : Nat → Addr) (B : Hp) (dd : Option Addr) (fs : List (Str × D)) : Prop :=
  ∃ vs, (fs = [] ∨ ∃ dx, dd = some dx ∧ B dx = some (.xd vs)) ∧ RepF K ca B vs fs
def KX (K : PySem.W.Frag) (ca : Nat → Addr) (B H : Hp) (W : Value → Option Addr → Hp → Prop) (c : Nat) (fs : List (Str × D)) : Prop :=
  ∀ B' H' dd, Grow B H B' H' → ExAt K ca B' dd fs → W (.ref (ca c)) dd H'
/-- r's ends are wanted by Q and W -/
structure Gets {α : Type} (K : PySem.W.Frag) (ca : Nat → Addr) (B H : Hp) (r : Res α) (W : Value → Option Addr → Hp → Prop) (Q : α → Prop) : Prop where
  nb : r ≠ .bad
  ok : ∀ d, r = .ok d → Q d
  xc : ∀ c fs, r = .xc c fs → KX K ca B H W c fs
section
variable {K : PySem.W.Frag} {ca : Nat → Addr} {B H B' H' : Hp} {W : Value → Option Addr → Hp → Prop} {α β : Type}
theorem KOk.grow {Q : VK} {d : D} (k : KOk K ca B H Q d) (g : Grow B H B' H') : KOk K ca B' H' Q d := fun v _ _ g' r => k v _ _ (g.trans g') r
theorem KX.grow {c fs} (k : KX K ca B H W c fs) (g : Grow B H B' H') : KX K ca B' H' W c fs := fun _ _ _ g' r => k _ _ _ (g.trans g') r
theorem Gets.bind {r : Res α} {f : α → Res β} {Q : β → Prop} (g : Gets K ca B H (r.bind f) W Q) : Gets K ca B H r W (fun a => r = .ok a ∧ Gets K ca B H (f a) W Q) := by
  obtain ⟨nb, ok, xc⟩ := g
  cases r with
  | ok a => exact ⟨fun z => (by cases z), fun d e => (by cases e; exact ⟨rfl, nb, ok, xc⟩), fun c fs e => (by cases e)⟩
  | xc c fs => exact ⟨fun z => (by cases z), fun d e => (by cases e), fun c' fs' e => xc c' fs' (by cases e; rfl)⟩
  | bad => exact absurd rfl nb
theorem Gets.mono {r : Res α} {Q Q' : α → Prop} (g : Gets K ca B H r W Q) (h : ∀ a, Q a → Q' a) : Gets K ca B H r W Q' := ⟨g.nb, fun d e => h d (g.ok d e), g.xc⟩
theorem Gets.grow {r : Res α} {Q Q' : α → Prop} (g : Gets K ca B H r W Q) (y : Grow B H B' H') (h : ∀ a, Q a → Q' a) : Gets K ca B' H' r W Q' := ⟨g.nb, fun d e => h d (g.ok d e), fun c fs e => (g.xc c fs e).grow y⟩
theorem Gets.ofOk {a : α} {Q : α → Prop} (g : Gets K ca B H (.ok a) W Q) : Q a := g.ok a rfl
theorem Gets.ofBad {Q : α → Prop} (g : Gets K ca B H (.bad) W Q) : False := g.nb rfl
end

/-! ### the judgements -/
/-- an expression -/
def ecan (K : PySem.W.Frag) (ca : Nat → Addr) (W : WX) (own : List Nat) (g : EnvG → Res D) : TE := fun σ H Q =>
  ∃ B0 H0 B ev, GR K ca B0 H0 own B H σ ev ∧ Gets K ca B H (g ev) (fun c d H' => W c d σ H') (KOk K ca B H Q)
abbrev GE (X : Cx) (ca : Nat → Addr) (W : WX) (own : List Nat) (e : Expr) (g : EnvG → Res D) : Prop := PE X e (ecan X.K ca W own g)
/-- a test -/
def ccan (K : PySem.W.Frag) (ca : Nat → Addr) (W : WX) (own : List Nat) (g : EnvG → Res Bool) : TT := fun σ H Q =>
  ∃ B0 H0 B ev, GR K ca B0 H0 own B H σ ev ∧ Gets K ca B H (g ev) (fun c d H' => W c d σ H') (fun b => ∀ B' H', Grow B H B' H' → Q b H')
abbrev GT (X : Cx) (ca : Nat → Addr) (W : WX) (own : List Nat) (e : Expr) (g : EnvG → Res Bool) : Prop := PT X e (ccan X.K ca W own g)
abbrev GW (X : Cx) (ca : Nat → Addr) (W : WX) (own : List Nat) (e : Expr) (g : EnvG → Res Bool) : Prop := PW X e (ccan X.K ca W own g)
/-- arguments -/
def acan (K : PySem.W.Frag) (ca : Nat → Addr) (W : WX) (own : List Nat) (g : EnvG → Res (List D)) : TA := fun σ H Q =>
  ∃ B0 H0 B ev, GR K ca B0 H0 own B H σ ev ∧ Gets K ca B H (g ev) (fun c d H' => W c d σ H') (fun ds => ∀ vs B' H', Grow B H B' H' → RepL K ca B' vs ds → Q vs H')
abbrev GA (X : Cx) (ca : Nat → Addr) (W : WX) (own : List Nat) (es : List Expr) (g : EnvG → Res (List D)) : Prop := PA X es (acan X.K ca W own g)
/-- a list that is new -/
def fcan (K : PySem.W.Frag) (ca : Nat → Addr) (W : WX) (own : List Nat) (g : EnvG → Res D) : TE := fun σ H Q =>
  ∃ B0 H0 B ev, GR K ca B0 H0 own B H σ ev ∧ Gets K ca B H (g ev) (fun c d H' => W c d σ H') (fun d => ∀ ds, d = .lst ds → ∀ a xs B' H', Grow B H B' H' → H a = none → B' a = none → H' a = some (.lst xs) → RepL K ca B' xs ds → Q (.ref a) H')
abbrev GF (X : Cx) (ca : Nat → Addr) (W : WX) (own : List Nat) (e : Expr) (g : EnvG → Res D) : Prop := PE X e (fcan X.K ca W own g)

theorem _root_.L2.PE.conv {X : Cx} {e : Expr} {t t' : TE} (h : PE X e t) (k : ∀ σ H Q, t' σ H Q → t σ H Q) : PE X e t' := ⟨fun pins s σ H Q I q => h.run pins s σ H Q I (k σ H Q q)⟩
theorem _root_.L2.PT.conv {X : Cx} {e : Expr} {t t' : TT} (h : PT X e t) (k : ∀ σ H Q, t' σ H Q → t σ H Q) : PT X e t' := ⟨fun pins s σ H Q I q => h.run pins s σ H Q I (k σ H Q q)⟩
theorem _root_.L2.PW.conv {X : Cx} {e : Expr} {t t' : TT} (h : PW X e t) (k : ∀ σ H Q, t' σ H Q → t σ H Q) : PW X e t' := ⟨fun w pins s σ H Q I q => h.run w pins s σ H Q I (k σ H Q q)⟩
theorem _root_.L2.PA.conv {X : Cx} {e : List Expr} {t t' : TA} (h : PA X e t) (k : ∀ σ H Q, t' σ H Q → t σ H Q) : PA X e t' := ⟨fun p pins s σ H Q I q => h.run p pins s σ H Q I (k σ H Q q)⟩
theorem _root_.L2.PS.conv {X : Cx} {e : Stmt} {t t' : TS} (h : PS X e t) (k : ∀ D σ H, t' D σ H → t D σ H) : PS X e t' := ⟨fun pins s σ H D I q => h.run pins s σ H D I (k D σ H q)⟩
theorem _root_.L2.PSs.conv {X : Cx} {e : List Stmt} {t t' : TS} (h : PSs X e t) (k : ∀ D σ H, t' D σ H → t D σ H) : PSs X e t' := ⟨fun pins s σ H D I q => h.run pins s σ H D I (k D σ H q)⟩
theorem _root_.L2.PI.conv {X : Cx} {tg e : Expr} {t t' : TI} (h : PI X tg e t) (k : ∀ σ H Q, t' σ H Q → t σ H Q) : PI X tg e t' := ⟨fun pins s σ H Q I q => h.run pins s σ H Q I (k σ H Q q)⟩
theorem _root_.L2.PG.conv {X : Cx} {tg : Expr} {t t' : TG} (h : PG X tg t) (k : ∀ v σ H Q, t' v σ H Q → t v σ H Q) : PG X tg t' := ⟨fun pins s σ H v u Q I r q => h.run pins s σ H v u Q I r (k v σ H Q q)⟩

section
variable {X : Cx} {ca : Nat → Addr} {W : WX} {own : List Nat} {pos : Pos} {a b e : Expr} {ga gb : EnvG → Res D}

/-! ### names, constants -/
def gVar (i : Nat) : EnvG → Res D := fun ev => lk ev i
def gC (d : D) : EnvG → Res D := fun _ => .ok d
theorem lk_some {ev : EnvG} {i : Nat} {d : D} (h : lk ev i = .ok d) : ev[i]? = some (some d) := by
  unfold lk at h
  split at h
  · rename_i x e
    cases h
    exact e
  · cases h
theorem lk_cases {ev : EnvG} {i : Nat} (h : lk ev i ≠ .bad) : ∃ d, ev[i]? = some (some d) ∧ lk ev i = .ok d := by
  cases q : lk ev i with
  | ok d => exact ⟨d, lk_some q, rfl⟩
  | xc c fs =>
    unfold lk at q
    split at q <;> cases q
  | bad => exact absurd q h
theorem ge_var {i : Nat} {x : Str} (h : PE X (.Name x pos) (tVar i)) (hi : (own.contains i) = false := by rfl) : GE X ca W own (.Name x pos) (gVar i) := by
  refine h.conv fun σ H Q ⟨B0, H0, B, ev, R, g⟩ => ?_
  obtain ⟨d, e1, e2⟩ := lk_cases g.nb
  obtain ⟨v, h1, h2⟩ := R.loc i d (by simpa using hi) e1
  exact ⟨v, h1, g.ok d e2 v B H (.refl R.sub) h2⟩
theorem ge_const {v : V} {d : D} (h : PE X e (tC v)) (r : ∀ B, Rep X.K ca B v d) : GE X ca W own e (gC d) :=
  h.conv fun σ H Q ⟨B0, H0, B, ev, R, g⟩ => g.ok d rfl v B H (.refl R.sub) (r B)
theorem ge_int {i j} : GE X ca W own (.Constant (.int i) j pos) (gC (.int i)) := ge_const pe_int fun _ => .int i
theorem ge_bl {i j} : GE X ca W own (.Constant (.bool i) j pos) (gC (.bl i)) := ge_const pe_bl fun _ => .bl i
theorem ge_non {j} : GE X ca W own (.Constant .none j pos) (gC .non) := ge_const pe_non fun _ => .non
theorem ge_str {x j} : GE X ca W own (.Constant (.str x) j pos) (gC (.str x)) := ge_const pe_str fun _ => .str x
/-- a module's constant -/
theorem ge_globI {x : Str} {i : Int} {tk : Tok} (hm : X.mg x = some (.int i tk)) (hg : Gl X x := by rfl) (hd : (x == ("__debug__" : Str)) = false := by decide) : GE X ca W own (.Name x pos) (gC (.int i)) :=
  ge_const (pe_glob hg hm (show RelV (.int i) _ from ⟨tk, rfl⟩) hd) fun _ => .int i
theorem ge_globS {x : Str} {i : Str} {tk : Tok} (hm : X.mg x = some (.str i tk)) (hg : Gl X x := by rfl) (hd : (x == ("__debug__" : Str)) = false := by decide) : GE X ca W own (.Name x pos) (gC (.str i)) :=
  ge_const (pe_glob hg hm (show RelV (.str i) _ from ⟨tk, rfl⟩) hd) fun _ => .str i

/-! ### operators -/
/-- r does what f says -/
def OpS (X : Cx) (ca : Nat → Addr) (r : R2) (f : D → D → Option D) : Prop :=
  ∀ (x y : V) (dx dy d : D) (B H : Hp) (Q : VK), Same B H → Rep X.K ca B x dx → Rep X.K ca B y dy → f dx dy = some d → KOk X.K ca B H Q d → r x y H Q
def gOp (f : D → D → Option D) (ga gb : EnvG → Res D) : EnvG → Res D := fun ev => (ga ev).bind fun x => (gb ev).bind fun y => .ofO (f x y)
theorem ofO_ok {α : Type} {o : Option α} (h : Res.ofO o ≠ .bad) : ∃ a, o = some a := by
  cases o with
  | some a => exact ⟨a, rfl⟩
  | none => exact absurd rfl h
theorem gets_ofO {α : Type} {K : PySem.W.Frag} {B H : Hp} {W' : Value → Option Addr → Hp → Prop} {o : Option α} {Q : α → Prop} (g : Gets K ca B H (.ofO o) W' Q) : ∃ a, o = some a ∧ Q a := by
  obtain ⟨a, e⟩ := ofO_ok g.nb
  exact ⟨a, e, g.ok a (by rw [e]; rfl)⟩
/-- the use of an expression -/
theorem ecan_mk {K : PySem.W.Frag} {B0 H0 B H : Hp} {σ : L2.St} {ev : EnvG} {g : EnvG → Res D} {Q : VK} (R : GR K ca B0 H0 own B H σ ev) {W' : WX}
    (k : Gets K ca B H (g ev) (fun c d H' => W' c d σ H') (fun d => ∀ v B' H', Grow B H B' H' → Rep K ca B' v d → Q v H')) : ecan K ca W' own g σ H Q := ⟨B0, H0, B, ev, R, k⟩
theorem ge_opR {r : R2} {f : D → D → Option D} {whole : Expr} (hs : OpS X ca r f) (ha : GE X ca W own a ga) (hb : GE X ca W own b gb)
    (hw : PE X whole (tOp r (ecan X.K ca W own ga) (ecan X.K ca W own gb))) : GE X ca W own whole (gOp f ga gb) := by
  refine hw.conv fun σ H Q ⟨B0, H0, B, ev, R, g⟩ => ?_
  refine ecan_mk R (g.bind.mono fun dx ⟨e1, g1⟩ v B1 H1 gr1 r1 => ?_)
  refine ecan_mk (R.grow gr1) (g1.bind.grow gr1 fun dy ⟨e2, g2⟩ u B2 H2 gr2 r2 => ?_)
  obtain ⟨d, e3, k⟩ := gets_ofO g2
  exact hs _ _ _ _ _ _ _ _ gr2.s (r1.mono gr2.b) r2 e3 (k.grow (gr1.trans gr2))
theorem ge_op {op : Operator} {r : R2} {f : D → D → Option D} (ho : OpR X (binaryOp op) r) (hs : OpS X ca r f) (ha : GE X ca W own a ga) (hb : GE X ca W own b gb) : GE X ca W own (.BinOp a op b pos) (gOp f ga gb) :=
  ge_opR hs ha hb (pe_op ho ha hb)
theorem ge_cmp {op : CmpOp} {r : R2} {f : D → D → Option D} (ho : OpR X (compareOp op) r) (hs : OpS X ca r f) (ha : GE X ca W own a ga) (hb : GE X ca W own b gb) (hm : behindInMarks op b = false := by rfl) : GE X ca W own (.Compare a [op] [b] pos) (gOp f ga gb) :=
  ge_opR hs ha hb (pe_cmpR ho ha hb hm)
def asB : D → Res Bool
  | .bl b => .ok b
  | _ => .bad
def gB (g : EnvG → Res D) : EnvG → Res Bool := fun ev => (g ev).bind asB
theorem asB_ok {d : D} (h : asB d ≠ .bad) : ∃ b, d = .bl b := by
  cases d <;> first | exact ⟨_, rfl⟩ | exact absurd rfl h
theorem rep_bl {K : PySem.W.Frag} {B : Hp} {v : V} {b : Bool} (r : Rep K ca B v (.bl b)) : v = .bl b := by cases r; rfl
theorem rep_int {K : PySem.W.Frag} {B : Hp} {v : V} {b : Int} (r : Rep K ca B v (.int b)) : v = .int b := by cases r; rfl
theorem rep_str {K : PySem.W.Frag} {B : Hp} {v : V} {b : Str} (r : Rep K ca B v (.str b)) : v = .str b := by cases r; rfl
theorem rep_non {K : PySem.W.Frag} {B : Hp} {v : V} (r : Rep K ca B v .non) : v = .non := by cases r; rfl
/-- a test by a value -/
theorem gt_of {g : EnvG → Res D} (h : PT X e (tTest (ecan X.K ca W own g))) : GT X ca W own e (gB g) := by
  refine h.conv fun σ H Q ⟨B0, H0, B, ev, R, k⟩ => ?_
  refine ecan_mk R (k.bind.mono fun d ⟨e1, k1⟩ v B1 H1 gr1 r1 => ?_)
  obtain ⟨b, rfl⟩ := asB_ok k1.nb
  exact ⟨b, rep_bl r1, k1.ok b rfl B1 H1 gr1⟩
theorem gt_val {g : EnvG → Res D} (h : GE X ca W own e g) (he : ∀ whole, isTrue e X.env whole = (do let v ← whole; standAt e.pos; holding [v] (truthy v)) := by intro _; rfl) : GT X ca W own e (gB g) := gt_of (pt_val h he)
theorem gt_cmp {op : CmpOp} {r : R2} {f : D → D → Option D} (ho : OpR X (compareOp op) r) (hs : OpS X ca r f) (ha : GE X ca W own a ga) (hb : GE X ca W own b gb) (hm : behindInMarks op b = false := by rfl) : GT X ca W own (.Compare a [op] [b] pos) (gB (gOp f ga gb)) := by
  refine (pt_cmpR ho ha hb hm).conv fun σ H Q ⟨B0, H0, B, ev, R, k⟩ => ?_
  have k : Gets X.K ca B H ((gOp f ga gb ev).bind asB) (fun c d H' => W c d σ H') _ := k
  unfold gOp at k
  rw [Res.bind_assoc] at k
  refine ecan_mk R (k.bind.mono fun dx ⟨e1, g1⟩ v B1 H1 gr1 r1 => ?_)
  rw [Res.bind_assoc] at g1
  refine ecan_mk (R.grow gr1) (g1.bind.grow gr1 fun dy ⟨e2, g2⟩ u B2 H2 gr2 r2 => ?_)
  obtain ⟨d, e3, k3⟩ := gets_ofO g2.bind
  obtain ⟨b, rfl⟩ := asB_ok k3.2.nb
  exact hs _ _ _ _ _ _ _ _ gr2.s (r1.mono gr2.b) r2 e3 fun v B3 H3 gr3 r3 => ⟨b, rep_bl r3, k3.2.ok b rfl B3 H3 ((gr1.trans gr2).trans gr3)⟩
/-! ### and, or, not -/
variable {ta tb : EnvG → Res Bool} {rest : List Expr}
def gNot (t : EnvG → Res Bool) : EnvG → Res Bool := fun ev => (t ev).bind fun c => .ok (!c)
def gAnd (t u : EnvG → Res Bool) : EnvG → Res Bool := fun ev => (t ev).bind fun c => if c = true then u ev else .ok false
def gOr (t u : EnvG → Res Bool) : EnvG → Res Bool := fun ev => (t ev).bind fun c => if c = true then .ok true else u ev
theorem ccan_mk {K : PySem.W.Frag} {B0 H0 B H : Hp} {σ : L2.St} {ev : EnvG} {g : EnvG → Res Bool} {Q : Bool → Hp → Prop} {W' : WX} (R : GR K ca B0 H0 own B H σ ev)
    (k : Gets K ca B H (g ev) (fun c d H' => W' c d σ H') (fun b => ∀ B' H', Grow B H B' H' → Q b H')) : ccan K ca W' own g σ H Q := ⟨B0, H0, B, ev, R, k⟩
theorem gt_not (h : GT X ca W own a ta) : GT X ca W own (.UnaryOp .Not a pos) (gNot ta) := by
  refine (pt_not h).conv fun σ H Q ⟨B0, H0, B, ev, R, k⟩ => ?_
  exact ccan_mk R (k.bind.mono fun b ⟨_, k1⟩ B1 H1 gr1 => k1.ok _ rfl B1 H1 gr1)
theorem gw_and1 (h : GT X ca W own a ta) : GW X ca W own (.BoolOp .And [a] pos) ta := pw_and1 h
theorem gw_or1 (h : GT X ca W own a ta) : GW X ca W own (.BoolOp .Or [a] pos) ta := pw_or1 h
theorem gw_and (ha : GT X ca W own a ta) (hb : GW X ca W own (.BoolOp .And (b :: rest) pos) tb) : GW X ca W own (.BoolOp .And (a :: b :: rest) pos) (gAnd ta tb) := by
  refine (pw_and ha hb).conv fun σ H Q ⟨B0, H0, B, ev, R, k⟩ => ?_
  refine ccan_mk R (k.bind.mono fun c ⟨_, k1⟩ B1 H1 gr1 => ?_)
  cases c with
  | true => exact ccan_mk (R.grow gr1) (k1.grow gr1 fun d q B2 H2 gr2 => q B2 H2 (gr1.trans gr2))
  | false => exact k1.ok _ rfl B1 H1 gr1
theorem gw_or (ha : GT X ca W own a ta) (hb : GW X ca W own (.BoolOp .Or (b :: rest) pos) tb) : GW X ca W own (.BoolOp .Or (a :: b :: rest) pos) (gOr ta tb) := by
  refine (pw_or ha hb).conv fun σ H Q ⟨B0, H0, B, ev, R, k⟩ => ?_
  refine ccan_mk R (k.bind.mono fun c ⟨_, k1⟩ B1 H1 gr1 => ?_)
  cases c with
  | true => exact k1.ok _ rfl B1 H1 gr1
  | false => exact ccan_mk (R.grow gr1) (k1.grow gr1 fun d q B2 H2 gr2 => q B2 H2 (gr1.trans gr2))
/-- .. as values -/
def gNotV (g : EnvG → Res D) : EnvG → Res D := fun ev => (g ev).bind fun d => (asB d).bind fun c => .ok (.bl (!c))
def gAndV (g h : EnvG → Res D) : EnvG → Res D := fun ev => (g ev).bind fun d => (asB d).bind fun c => if c = true then h ev else .ok (.bl false)
def gOrV (g h : EnvG → Res D) : EnvG → Res D := fun ev => (g ev).bind fun d => (asB d).bind fun c => if c = true then .ok (.bl true) else h ev
theorem gets_asB {K : PySem.W.Frag} {B H : Hp} {W' : Value → Option Addr → Hp → Prop} {β : Type} {d : D} {f : Bool → Res β} {Q : β → Prop} (g : Gets K ca B H ((asB d).bind f) W' Q) : ∃ b, d = .bl b ∧ Gets K ca B H (f b) W' Q := by
  obtain ⟨b, rfl⟩ := asB_ok (d := d) fun z => g.nb (by rw [z]; rfl)
  exact ⟨b, rfl, g⟩
theorem ge_one {op} (h : GE X ca W own a ga) : GE X ca W own (.BoolOp op [a] pos) ga := pe_one h
theorem ge_not (h : GE X ca W own a ga) : GE X ca W own (.UnaryOp .Not a pos) (gNotV ga) := by
  refine (pe_not h).conv fun σ H Q ⟨B0, H0, B, ev, R, k⟩ => ?_
  refine ecan_mk R (k.bind.mono fun d ⟨_, k1⟩ v B1 H1 gr1 r1 => ?_)
  obtain ⟨b, rfl, k2⟩ := gets_asB k1
  exact ⟨b, rep_bl r1, k2.ok _ rfl _ B1 H1 gr1 (.bl _)⟩
theorem ge_and (ha : GE X ca W own a ga) (hb : GE X ca W own (.BoolOp .And (b :: rest) pos) gb) : GE X ca W own (.BoolOp .And (a :: b :: rest) pos) (gAndV ga gb) := by
  refine (pe_and ha hb).conv fun σ H Q ⟨B0, H0, B, ev, R, k⟩ => ?_
  refine ecan_mk R (k.bind.mono fun d ⟨_, k1⟩ v B1 H1 gr1 r1 => ?_)
  obtain ⟨c, rfl, k2⟩ := gets_asB k1
  refine ⟨c, rep_bl r1, ?_⟩
  cases c with
  | true => exact ecan_mk (R.grow gr1) (k2.grow gr1 fun d q => q.grow gr1)
  | false => exact k2.ok _ rfl _ B1 H1 gr1 (.bl _)
theorem ge_or (ha : GE X ca W own a ga) (hb : GE X ca W own (.BoolOp .Or (b :: rest) pos) gb) : GE X ca W own (.BoolOp .Or (a :: b :: rest) pos) (gOrV ga gb) := by
  refine (pe_or ha hb).conv fun σ H Q ⟨B0, H0, B, ev, R, k⟩ => ?_
  refine ecan_mk R (k.bind.mono fun d ⟨_, k1⟩ v B1 H1 gr1 r1 => ?_)
  obtain ⟨c, rfl, k2⟩ := gets_asB k1
  refine ⟨c, rep_bl r1, ?_⟩
  cases c with
  | true => exact k2.ok _ rfl _ B1 H1 gr1 (.bl _)
  | false => exact ecan_mk (R.grow gr1) (k2.grow gr1 fun d q => q.grow gr1)
def gIf (t : EnvG → Res Bool) (g h : EnvG → Res D) : EnvG → Res D := fun ev => (t ev).bind fun c => if c = true then g ev else h ev
theorem ge_if {c : Expr} {tc : EnvG → Res Bool} (hc : GT X ca W own c tc) (ha : GE X ca W own a ga) (hb : GE X ca W own b gb) : GE X ca W own (.IfExp c a b pos) (gIf tc ga gb) := by
  refine (pe_ifExp hc ha hb).conv fun σ H Q ⟨B0, H0, B, ev, R, k⟩ => ?_
  refine ccan_mk R (k.bind.mono fun c ⟨_, k1⟩ B1 H1 gr1 => ?_)
  cases c with
  | true => exact ecan_mk (R.grow gr1) (k1.grow gr1 fun d q => q.grow gr1)
  | false => exact ecan_mk (R.grow gr1) (k1.grow gr1 fun d q => q.grow gr1)
/-- a < b <= c -/
def gChain (f f' : D → D → Option D) (ga gb gc : EnvG → Res D) : EnvG → Res D := fun ev => (ga ev).bind fun x => (gb ev).bind fun y => (Res.ofO (f x y)).bind fun z => (asB z).bind fun k =>
  if k = true then (gc ev).bind fun w => .ofO (f' y w) else .ok (.bl false)
theorem ge_chain {op op' : CmpOp} {r r' : R2} {f f' : D → D → Option D} {c : Expr} {gc : EnvG → Res D} (ho : OpR X (compareOp op) r) (hs : OpS X ca r f) (ho' : OpR X (compareOp op') r') (hs' : OpS X ca r' f')
    (ha : GE X ca W own a ga) (hb : GE X ca W own b gb) (hc : GE X ca W own c gc) (hw : PE X (.Compare a [op, op'] [b, c] pos) (tChain r r' (ecan X.K ca W own ga) (ecan X.K ca W own gb) (ecan X.K ca W own gc))) : GE X ca W own (.Compare a [op, op'] [b, c] pos) (gChain f f' ga gb gc) := by
  refine hw.conv fun σ H Q ⟨B0, H0, B, ev, R, g⟩ => ?_
  refine ecan_mk R (g.bind.mono fun dx ⟨e1, g1⟩ v B1 H1 gr1 r1 => ?_)
  refine ecan_mk (R.grow gr1) (g1.bind.grow gr1 fun dy ⟨e2, g2⟩ u B2 H2 gr2 r2 => ?_)
  obtain ⟨d, e3, _, k1⟩ := gets_ofO g2.bind
  obtain ⟨k0, rfl, k⟩ := gets_asB k1
  refine hs _ _ _ _ _ _ _ _ gr2.s (r1.mono gr2.b) r2 e3 fun z B3 H3 gr3 r3 => ⟨k0, rep_bl r3, ?_⟩
  have g123 := (gr1.trans gr2).trans gr3
  cases k0 with
  | true =>
    have k : Gets X.K ca B H ((gc ev).bind fun w => .ofO (f' dy w)) _ _ := k
    refine ecan_mk (R.grow g123) (k.bind.grow g123 fun dw ⟨e4, g4⟩ w B4 H4 gr4 r4 => ?_)
    obtain ⟨d', e5, k5⟩ := gets_ofO g4
    exact hs' _ _ _ _ _ _ _ _ gr4.s ((r2.mono gr3.b).mono gr4.b) r4 e5 (k5.grow (g123.trans gr4))
  | false => exact k.ok _ rfl _ B3 H3 g123 (.bl _)
/-! ### one operand -/
def UnS (X : Cx) (ca : Nat → Addr) (r : V → Hp → VK → Prop) (f : D → Option D) : Prop :=
  ∀ (x : V) (dx d : D) (B H : Hp) (Q : VK), Same B H → Rep X.K ca B x dx → f dx = some d → KOk X.K ca B H Q d → r x H Q
def gUn (f : D → Option D) (ga : EnvG → Res D) : EnvG → Res D := fun ev => (ga ev).bind fun x => .ofO (f x)
theorem ge_un {op : UnaryOp} {r : V → Hp → VK → Prop} {f : D → Option D} (ho : UnR X (unaryOp op) r) (hs : UnS X ca r f) (ha : GE X ca W own a ga) : GE X ca W own (.UnaryOp op a pos) (gUn f ga) := by
  refine (pe_un ho ha).conv fun σ H Q ⟨B0, H0, B, ev, R, g⟩ => ?_
  refine ecan_mk R (g.bind.mono fun dx ⟨e1, g1⟩ v B1 H1 gr1 r1 => ?_)
  obtain ⟨d, e3, k⟩ := gets_ofO g1
  exact hs _ _ _ _ _ _ gr1.s r1 e3 (k.grow gr1)

/-! ### arguments, displays -/
def aNil : EnvG → Res (List D) := fun _ => .ok []
def aCons (g : EnvG → Res D) (t : EnvG → Res (List D)) : EnvG → Res (List D) := fun ev => (g ev).bind fun d => (t ev).bind fun ds => .ok (d :: ds)
theorem acan_mk {K : PySem.W.Frag} {B0 H0 B H : Hp} {σ : L2.St} {ev : EnvG} {g : EnvG → Res (List D)} {Q : List V → Hp → Prop} {W' : WX} (R : GR K ca B0 H0 own B H σ ev)
    (k : Gets K ca B H (g ev) (fun c d H' => W' c d σ H') (fun ds => ∀ vs B' H', Grow B H B' H' → RepL K ca B' vs ds → Q vs H')) : acan K ca W' own g σ H Q := ⟨B0, H0, B, ev, R, k⟩
theorem ga_nil : GA X ca W own [] aNil := pa_nil.conv fun σ H Q ⟨B0, H0, B, ev, R, g⟩ => g.ok _ rfl [] B H (.refl R.sub) .nil
theorem ga_cons {es : List Expr} {t : EnvG → Res (List D)} (ha : GE X ca W own e ga) (hr : GA X ca W own es t) (hs : starEach (e :: es) X.env = (false, eval e X.env) :: starEach es X.env := by rfl) : GA X ca W own (e :: es) (aCons ga t) := by
  refine (pa_cons ha hr hs).conv fun σ H Q ⟨B0, H0, B, ev, R, g⟩ => ?_
  refine ecan_mk R (g.bind.mono fun d ⟨e1, g1⟩ v B1 H1 gr1 r1 => ?_)
  refine acan_mk (R.grow gr1) (g1.bind.grow gr1 fun ds ⟨e2, g2⟩ vs B2 H2 gr2 r2 => ?_)
  exact g2.ok _ rfl _ B2 H2 (gr1.trans gr2) (.cons (r1.mono gr2.b) r2)
def gTup (t : EnvG → Res (List D)) : EnvG → Res D := fun ev => (t ev).bind fun ds => if ds.length ≤ 16777216 then .ok (.tup ds) else .bad
def gLst (t : EnvG → Res (List D)) : EnvG → Res D := fun ev => (t ev).bind fun ds => if ds.length ≤ 16777216 then .ok (.lst ds) else .bad
theorem gets_if {K : PySem.W.Frag} {B H : Hp} {W' : Value → Option Addr → Hp → Prop} {β : Type} {c : Prop} [Decidable c] {r : Res β} {Q : β → Prop} (g : Gets K ca B H (if c then r else .bad) W' Q) : c ∧ Gets K ca B H r W' Q := by
  by_cases h : c
  · rw [if_pos h] at g; exact ⟨h, g⟩
  · rw [if_neg h] at g; exact absurd rfl g.nb
theorem line_eq : (sizeLine : Nat) = 16777216 := by decide
theorem ge_tup {es : List Expr} {x1} {t : EnvG → Res (List D)} (h : GA X ca W own es t) : GE X ca W own (.Tuple es x1 pos) (gTup t) := by
  refine (pe_tup h).conv fun σ H Q ⟨B0, H0, B, ev, R, g⟩ => ?_
  refine acan_mk R (g.bind.mono fun ds ⟨e1, g1⟩ vs B1 H1 gr1 r1 => ?_)
  obtain ⟨hl, g2⟩ := gets_if g1
  refine ⟨by rw [r1.length]; exact hl, fun p hp => ?_⟩
  have gn := Grow.newB (o := .tup vs) gr1.s hp
  exact g2.ok _ rfl _ _ _ (gr1.trans gn) (.tup upd_same (r1.mono gn.b))
theorem gf_lst {es : List Expr} {t : EnvG → Res (List D)} (h : GA X ca W own es t) : GF X ca W own (.List es pos) (gLst t) := by
  refine (pe_lst h).conv fun σ H Q ⟨B0, H0, B, ev, R, g⟩ => ?_
  refine acan_mk R (g.bind.mono fun ds ⟨e1, g1⟩ vs B1 H1 gr1 r1 => ?_)
  obtain ⟨hl, g2⟩ := gets_if g1
  refine ⟨by rw [r1.length]; exact hl, fun p hp => ?_⟩
  have q := g2.ok _ rfl ds rfl
  have hp0 : H p = none := gr1.h.free hp
  have hpB : B1 p = none := gr1.s.free hp
  exact q p vs B1 _ (gr1.trans (Grow.newH gr1.s hp)) hp0 hpB upd_same r1
/-- a new list, frozen -/
theorem ge_f {g : EnvG → Res D} (h : GF X ca W own e g) : GE X ca W own e g := by
  refine h.conv fun σ H Q ⟨B0, H0, B, ev, R, k⟩ => ⟨B0, H0, B, ev, R, k.nb, fun d ed ds el a xs B' H' gr hn hb hh r => ?_, k.xc⟩
  have kd := k.ok d ed
  subst el
  have sb : Same B' (upd B' a (.lst xs)) := same_upd hb
  refine kd _ (upd B' a (.lst xs)) H' ⟨gr.b.trans sb, gr.h, fun b z1 z2 => ?_, fun b o z => ?_⟩ (.lst upd_same (r.mono sb))
  · rw [upd_ne (fun z => z1 (by rw [z]; exact hn))]
    exact gr.c b z1 z2
  · by_cases q : b = a
    · subst q
      rw [upd_same] at z; cases z
      exact hh
    · rw [upd_ne q] at z
      exact gr.s b o z
end
end GL

namespace GL
open PySem PySem.Spec PyProof.Rows L2

/-! ### states: stores -/
section
variable {K : PySem.W.Frag} {ca : Nat → Addr} {B0 H0 B1 B H B' H' : Hp} {own own' : List Nat} {σ : L2.St} {ev : EnvG}
theorem GR.gr (x : GR K ca B0 H0 own B H σ ev) : Grow B0 H0 B H := ⟨x.b0, x.h0, x.cut, x.sub⟩
theorem mem_without {own : List Nat} {i j : Nat} : j ∈ own.filter (fun z => !decide (z = i)) ↔ j ∈ own ∧ j ≠ i := by simp
theorem set_get {α : Type} {l : List α} {i j : Nat} {a b : α} (h : (l.set i a)[j]? = some b) : (j = i ∧ b = a) ∨ (j ≠ i ∧ l[j]? = some b) := by
  by_cases e : i = j
  · subst e
    by_cases hl : i < l.length
    · rw [List.getElem?_set_self hl] at h
      exact .inl ⟨rfl, (Option.some.inj h).symm⟩
    · rw [List.getElem?_eq_none (by simpa using hl)] at h
      cases h
  · rw [List.getElem?_set_ne e] at h
    exact .inr ⟨fun z => e z.symm, h⟩
theorem get_set {α : Type} {l : List α} {i : Nat} {a : α} {m : List (Option D)} {d : Option D} (hl : m.length = l.length) (h : (m.set i d)[i]? = some b) : (l.set i a)[i]? = some a := by
  by_cases q : i < m.length
  · exact List.getElem?_set_self (by omega)
  · rw [List.getElem?_eq_none (by simpa using q)] at h
    cases h
/-- the i-th slot is stored -/
theorem GR.set (x : GR K ca B0 H0 own B H σ ev) {i : Nat} {v : V} {d : D} (r : Rep K ca B v d) : GR K ca B0 H0 (own.filter fun z => !decide (z = i)) B H (σ.set i (some v)) (ev.set i (some d)) where
  sub := x.sub
  b0 := x.b0
  h0 := x.h0
  cut := x.cut
  len := by rw [List.length_set, List.length_set]; exact x.len
  loc := fun j e h q => by
    rcases set_get q with ⟨rfl, q2⟩ | ⟨ne, q2⟩
    · cases q2
      exact ⟨v, get_set x.len q, r⟩
    · obtain ⟨u, h1, h2⟩ := x.loc j e (fun z => h (mem_without.mpr ⟨z, ne⟩)) q2
      exact ⟨u, by rw [List.getElem?_set_ne (Ne.symm ne)]; exact h1, h2⟩
  owns := fun j e h q => by
    obtain ⟨hj, ne⟩ := mem_without.mp h
    rw [List.getElem?_set_ne (Ne.symm ne)] at q ⊢
    exact x.owns j e hj q
  apart := fun a b p d e h1 h2 q1 q2 q3 q4 => by
    obtain ⟨g1, n1⟩ := mem_without.mp h1
    obtain ⟨g2, n2⟩ := mem_without.mp h2
    rw [List.getElem?_set_ne (Ne.symm n1)] at q1 q3
    rw [List.getElem?_set_ne (Ne.symm n2)] at q2 q4
    exact x.apart a b p d e g1 g2 q1 q2 q3 q4
/-- .. with a new list, one's own -/
theorem GR.setOwn (x : GR K ca B0 H0 own B H σ ev) {i : Nat} {a : Addr} {xs : List V} {ds : List D} (g : Grow B H B' H') (hn : H a = none) (hb : B' a = none) (hh : H' a = some (.lst xs)) (r : RepL K ca B' xs ds) :
    GR K ca B0 H0 (i :: own.filter fun z => !decide (z = i)) B' H' (σ.set i (some (.ref a))) (ev.set i (some (.lst ds))) := by
  have x' := x.grow g
  have h0a : H0 a = none := x.h0.free hn
  refine ⟨x'.sub, x'.b0, x'.h0, x'.cut, by rw [List.length_set, List.length_set]; exact x.len, fun j e h q => ?_, fun j e h q => ?_, fun j k p d e h1 h2 q1 q2 q3 q4 => ?_⟩
  · rcases set_get q with ⟨rfl, q⟩ | ⟨ne, q⟩
    · exact absurd List.mem_cons_self h
    · obtain ⟨u, h1, h2⟩ := x'.loc j e (fun z => h (List.mem_cons_of_mem _ (mem_without.mpr ⟨z, ne⟩))) q
      exact ⟨u, by rw [List.getElem?_set_ne (Ne.symm ne)]; exact h1, h2⟩
  · rcases set_get q with ⟨rfl, q'⟩ | ⟨ne, q'⟩
    · cases q'
      exact ⟨a, _, get_set x.len q, hb, h0a, hh, .lst r⟩
    · rcases List.mem_cons.mp h with z | h
      · exact absurd z ne
      · rw [List.getElem?_set_ne (Ne.symm ne)]
        exact x'.owns j e (mem_without.mp h).1 q'
  · have old : ∀ k e, k ∈ own → k ≠ i → ev[k]? = some (some e) → σ[k]? = some (some (.ref a)) → False := fun k e hk hne h1 h2 => by
      obtain ⟨a', xs', g1, _, _, g5, _⟩ := x.owns k e hk h1
      rw [h2] at g1
      cases g1
      rw [hn] at g5
      cases g5
    rcases List.mem_cons.mp h1 with e1 | h1
    · rcases List.mem_cons.mp h2 with e2 | h2
      · exact e1.trans e2.symm
      · exfalso
        obtain ⟨g2, n2⟩ := mem_without.mp h2
        rw [List.getElem?_set_ne (Ne.symm n2)] at q2 q4
        rw [e1] at q3 q1
        rw [get_set x.len q1] at q3
        cases q3
        exact old k e g2 n2 q2 q4
    · obtain ⟨g1, n1⟩ := mem_without.mp h1
      rw [List.getElem?_set_ne (Ne.symm n1)] at q1 q3
      rcases List.mem_cons.mp h2 with e2 | h2
      · exfalso
        rw [e2] at q4 q2
        rw [get_set x.len q2] at q4
        cases q4
        exact old j d g1 n1 q1 q3
      · obtain ⟨g2, n2⟩ := mem_without.mp h2
        rw [List.getElem?_set_ne (Ne.symm n2)] at q2 q4
        exact x.apart j k p d e g1 g2 q1 q2 q3 q4
/-- one's own list changed -/
theorem GR.changeO (x : GR K ca B0 H0 own B H σ ev) {i : Nat} {a : Addr} {d e' : D} {o' : HO} (hi : i ∈ own) (he : ev[i]? = some (some d)) (hs : σ[i]? = some (some (.ref a))) (r : OwnO K ca B a o' e') :
    GR K ca B0 H0 own B (upd H a o') σ (ev.set i (some e')) := by
  obtain ⟨a', xs, h1, h3, h4, h5, h6⟩ := x.owns i d hi he
  rw [hs] at h1
  cases h1
  refine ⟨fun b o e => ?_, x.b0, fun b o e => ?_, x.cut, by rw [List.length_set]; exact x.len, fun j e h q => ?_, fun j e h q => ?_, fun j k p d' e h1 h2 q1 q2 => ?_⟩
  · rw [upd_ne (ne_of_none e h3)]
    exact x.sub b o e
  · rw [upd_ne (ne_of_none e h4)]
    exact x.h0 b o e
  · rcases set_get q with ⟨rfl, q⟩ | ⟨ne, q⟩
    · exact absurd hi h
    · exact x.loc j e h q
  · rcases set_get q with ⟨rfl, q2⟩ | ⟨ne, q2⟩
    · cases q2
      exact ⟨a, _, hs, h3, h4, upd_same, r⟩
    · obtain ⟨a', xs', g1, g3, g4, g5, g6⟩ := x.owns j e h q2
      refine ⟨a', xs', g1, g3, g4, ?_, g6⟩
      rw [upd_ne]
      · exact g5
      · rintro rfl
        exact ne (x.apart j i _ _ _ h hi q2 he g1 hs)
  · have back : ∀ j f, (ev.set i (some e'))[j]? = some (some f) → ∃ f', ev[j]? = some (some f') := fun j f q => by
      rcases set_get q with ⟨rfl, _⟩ | ⟨_, q⟩
      · exact ⟨d, he⟩
      · exact ⟨f, q⟩
    obtain ⟨f1, z1⟩ := back j _ q1
    obtain ⟨f2, z2⟩ := back k _ q2
    exact x.apart j k p f1 f2 h1 h2 z1 z2
theorem GR.change (x : GR K ca B0 H0 own B H σ ev) {i : Nat} {a : Addr} {d : D} {ys : List V} {es : List D} (hi : i ∈ own) (he : ev[i]? = some (some d)) (hs : σ[i]? = some (some (.ref a))) (r : RepL K ca B ys es) :
    GR K ca B0 H0 own B (upd H a (.lst ys)) σ (ev.set i (some (.lst es))) := x.changeO hi he hs (.lst r)
theorem GR.rebase (x : GR K ca B0 H0 own B H σ ev) (g : Grow B0 H0 B1 H') (s : Same B1 B) : GR K ca B1 H0 own B H σ ev :=
  ⟨x.sub, s, x.h0, fun a h1 h2 => x.cut a h1 (g.b.free h2), x.len, x.loc, x.owns, x.apart⟩
theorem GR.unbase (x : GR K ca B1 H0 own B H σ ev) (g : Grow B0 H0 B1 H') : GR K ca B0 H0 own B H σ ev :=
  ⟨x.sub, g.b.trans x.b0, x.h0, fun a h1 h2 => x.cut a h1 (g.c a h1 h2), x.len, x.loc, x.owns, x.apart⟩
theorem Grow.unbase (x : Grow B1 H0 B H) (g : Grow B0 H0 B1 H') : Grow B0 H0 B H := ⟨g.b.trans x.b, x.h, fun a h1 h2 => x.c a h1 (g.c a h1 h2), x.s⟩
end

/-! ### statements -/
structure SEnd (K : PySem.W.Frag) (ca : Nat → Addr) (W : WX) (B0 H0 : Hp) (own' ob : List Nat) (D : Ends) (o : Out) : Prop where
  nb : o ≠ .bad
  nx : ∀ ev', o = .nx ev' → ∀ σ' B' H', GR K ca B0 H0 own' B' H' σ' ev' → D.nx σ' H'
  rt : ∀ d, o = .rt d → ∀ v B' H', Grow B0 H0 B' H' → Rep K ca B' v d → D.rt v H'
  bk : ∀ ev', o = .bk ev' → ∀ σ' B' H', GR K ca B0 H0 ob B' H' σ' ev' → D.bk σ' H'
  ct : ∀ ev', o = .ct ev' → ∀ σ' B' H', GR K ca B0 H0 ob B' H' σ' ev' → D.ct σ' H'
  xc : ∀ c fs ev', o = .xc c fs ev' → ∀ σ' B' H' dd, GR K ca B0 H0 [] B' H' σ' ev' → ExAt K ca B' dd fs → W (.ref (ca c)) dd σ' H'
def scan (K : PySem.W.Frag) (ca : Nat → Addr) (W : WX) (own own' ob : List Nat) (g : EnvG → Out) : TS := fun D σ H =>
  ∃ B0 H0 B ev, GR K ca B0 H0 own B H σ ev ∧ SEnd K ca W B0 H0 own' ob D (g ev)
abbrev GS (X : Cx) (ca : Nat → Addr) (W : WX) (own own' ob : List Nat) (st : Stmt) (g : EnvG → Out) : Prop := PS X st (scan X.K ca W own own' ob g)
abbrev GSs (X : Cx) (ca : Nat → Addr) (W : WX) (own own' ob : List Nat) (st : List Stmt) (g : EnvG → Out) : Prop := PSs X st (scan X.K ca W own own' ob g)
section
variable {K : PySem.W.Frag} {ca : Nat → Addr} {W : WX} {B0 H0 B H : Hp} {own own' ob : List Nat} {D' : Ends} {σ : L2.St} {ev : EnvG}
theorem scan_mk {g : EnvG → Out} (R : GR K ca B0 H0 own B H σ ev) (s : SEnd K ca W B0 H0 own' ob D' (g ev)) : scan K ca W own own' ob g D' σ H := ⟨B0, H0, B, ev, R, s⟩
/-- ExAt grows -/
theorem ExAt.mono {dd : Option Addr} {fs : List (Str × D)} {B' : Hp} (e : Same B B') (x : ExAt K ca B dd fs) : ExAt K ca B' dd fs := by
  obtain ⟨vs, h, r⟩ := x
  exact ⟨vs, h.imp id fun ⟨dx, a, b⟩ => ⟨dx, a, e _ _ b⟩, r.mono e⟩
/-- an expression within a statement -/
theorem SEnd.out {α : Type} {r : Res α} {f : α → Out} (s : SEnd K ca W B0 H0 own' ob D' (r.out ev f)) (R : GR K ca B0 H0 own B H σ ev) :
    Gets K ca B H r (fun c d H' => W c d σ H') (fun a => r = .ok a ∧ SEnd K ca W B0 H0 own' ob D' (f a)) := by
  refine ⟨fun z => s.nb (by rw [z]; rfl), fun a e => ⟨e, by rw [e] at s; exact s⟩, fun c fs e B' H' dd gr x => ?_⟩
  obtain ⟨B2, R2, s2⟩ := (R.grow gr).weak (own' := []) (fun _ z => by cases z)
  exact s.xc c fs ev (by rw [e]; rfl) σ B2 H' dd R2 (x.mono s2)
theorem SEnd.bad {P : Prop} (s : SEnd K ca W B0 H0 own' ob D' .bad) : P := absurd rfl s.nb
end
section
variable {X : Cx} {ca : Nat → Addr} {W : WX} {own own1 own2 own' ob : List Nat} {pos : Pos} {st : Stmt} {rest : List Stmt} {g g1 g2 : EnvG → Out} {e : Expr} {ge : EnvG → Res D}
/-- fewer one's own behind -/
theorem gs_weak (h : GS X ca W own own1 ob st g) (hs : ∀ j ∈ own2, j ∈ own1) : GS X ca W own own2 ob st g :=
  h.conv fun D σ H ⟨B0, H0, B, ev, R, s⟩ => scan_mk R ⟨s.nb, fun ev' q σ' B' H' R' => let ⟨B2, R2, _⟩ := R'.weak hs; s.nx ev' q σ' B2 H' R2, s.rt, s.bk, s.ct, s.xc⟩
theorem gss_weak (h : GSs X ca W own own1 ob rest g) (hs : ∀ j ∈ own2, j ∈ own1) : GSs X ca W own own2 ob rest g :=
  h.conv fun D σ H ⟨B0, H0, B, ev, R, s⟩ => scan_mk R ⟨s.nb, fun ev' q σ' B' H' R' => let ⟨B2, R2, _⟩ := R'.weak hs; s.nx ev' q σ' B2 H' R2, s.rt, s.bk, s.ct, s.xc⟩
/-- .. ahead -/
theorem gs_drop (h : GS X ca W own own1 ob st g) (hs : ∀ j ∈ own, j ∈ own2) : GS X ca W own2 own1 ob st g :=
  h.conv fun D σ H ⟨B0, H0, B, ev, R, s⟩ => let ⟨B2, R2, _⟩ := R.weak hs; scan_mk R2 s
theorem gss_drop (h : GSs X ca W own own1 ob rest g) (hs : ∀ j ∈ own, j ∈ own2) : GSs X ca W own2 own1 ob rest g :=
  h.conv fun D σ H ⟨B0, H0, B, ev, R, s⟩ => let ⟨B2, R2, _⟩ := R.weak hs; scan_mk R2 s
def sNext : EnvG → Out := fun ev => .nx ev
def sSeq (g1 g2 : EnvG → Out) : EnvG → Out := fun ev => (g1 ev).seq g2
theorem gss_nil : GSs X ca W own own ob [] sNext := pss_nil.conv fun D σ H ⟨B0, H0, B, ev, R, s⟩ => s.nx ev rfl σ B H R
theorem gss_cons (h1 : GS X ca W own own1 ob st g1) (h2 : GSs X ca W own1 own' ob rest g2) : GSs X ca W own own' ob (st :: rest) (sSeq g1 g2) := by
  refine (pss_cons h1 h2).conv fun D σ H ⟨B0, H0, B, ev, R, s⟩ => scan_mk R ?_
  have s : SEnd X.K ca W B0 H0 own' ob D ((g1 ev).seq g2) := s
  exact ⟨fun z => s.nb (by rw [z]; rfl), fun ev' q σ' B' H' R' => scan_mk R' (by rw [q] at s; exact s), fun d q => s.rt d (by rw [q]; rfl), fun ev' q => s.bk ev' (by rw [q]; rfl), fun ev' q => s.ct ev' (by rw [q]; rfl), fun c fs ev' q => s.xc c fs ev' (by rw [q]; rfl)⟩
theorem gss_one (h1 : GS X ca W own own' ob st g) : GSs X ca W own own' ob [st] g := pss_one h1
theorem gs_pass : GS X ca W own own ob (.Pass pos) sNext := ps_pass.conv fun D σ H ⟨B0, H0, B, ev, R, s⟩ => s.nx ev rfl σ B H R
/-- behind a break nothing is reached: any own -/
theorem gs_break : GS X ca W ob own' ob (.Break pos) (fun ev => .bk ev) := ps_break.conv fun D σ H ⟨B0, H0, B, ev, R, s⟩ => s.bk ev rfl σ B H R
theorem gs_continue : GS X ca W ob own' ob (.Continue pos) (fun ev => .ct ev) := ps_continue.conv fun D σ H ⟨B0, H0, B, ev, R, s⟩ => s.ct ev rfl σ B H R
/-- what is never run -/
theorem gs_never : GS X ca W own own' ob st (fun _ => .bad) := ps_never.conv fun D σ H ⟨B0, H0, B, ev, R, s⟩ => s.bad
theorem gss_never : GSs X ca W own own' ob rest (fun _ => .bad) := pss_never.conv fun D σ H ⟨B0, H0, B, ev, R, s⟩ => s.bad
def sRet (ge : EnvG → Res D) : EnvG → Out := fun ev => (ge ev).out ev fun d => .rt d
theorem gs_ret (h : GE X ca W own e ge) : GS X ca W own own' ob (.Return (some e) pos) (sRet ge) := by
  refine (ps_ret h).conv fun D σ H ⟨B0, H0, B, ev, R, s⟩ => ecan_mk R ((SEnd.out s R).mono fun d ⟨_, s1⟩ v B' H' gr r => ?_)
  exact s1.rt d rfl v B' H' (R.gr.trans gr) r
theorem gs_retN : GS X ca W own own' ob (.Return none pos) (fun _ => .rt .non) := ps_retN.conv fun D σ H ⟨B0, H0, B, ev, R, s⟩ => s.rt .non rfl .non B H R.gr .non
/-- an expression for nothing -/
def sDrop (ge : EnvG → Res D) : EnvG → Out := fun ev => (ge ev).out ev fun _ => .nx ev
theorem gs_expr (h : GE X ca W own e ge) (hs : swapsWith e none pos.line X.env = pure false := by rfl) : GS X ca W own own ob (.Expr e pos) (sDrop ge) := by
  refine (ps_expr h hs).conv fun D σ H ⟨B0, H0, B, ev, R, s⟩ => ecan_mk R ((SEnd.out s R).mono fun d ⟨_, s1⟩ v B' H' gr r => ?_)
  exact s1.nx ev rfl σ B' H' (R.grow gr)
def sIf (t : EnvG → Res Bool) (g1 g2 : EnvG → Out) : EnvG → Out := fun ev => (t ev).out ev fun c => if c = true then g1 ev else g2 ev
theorem gs_if {c : Expr} {tc : EnvG → Res Bool} {as bs : List Stmt} (hc : GT X ca W own c tc) (ha : GSs X ca W own own' ob as g1) (hb : GSs X ca W own own' ob bs g2) : GS X ca W own own' ob (.If c as bs pos) (sIf tc g1 g2) := by
  refine (ps_if hc ha hb).conv fun D σ H ⟨B0, H0, B, ev, R, s⟩ => ccan_mk R ((SEnd.out s R).mono fun c ⟨_, s1⟩ B' H' gr => ?_)
  cases c with
  | true => exact scan_mk (R.grow gr) s1
  | false => exact scan_mk (R.grow gr) s1
/-- name = value -/
def sSet (i : Nat) (ge : EnvG → Res D) : EnvG → Out := fun ev => (ge ev).out ev fun d => .nx (ev.set i (some d))
theorem gs_set (i : Nat) {x : Str} {pos' : Pos} (hN : X.N.Nodup) (h : GE X ca W own e ge) (ho : own.filter (fun z => !decide (z = i)) = own' := by rfl) (hi : X.N[i]? = some x := by rfl) (hx : Loc X.env.scope x := by first | exact Or.inl rfl | exact Or.inr rfl)
    (hs : swapsWith e (some (.Name x pos')) pos.line X.env = pure false := by rfl) (hf : X.fn x = true ∨ X.env.scope.names.lookup x = some .local := by first | exact .inl rfl | exact .inr rfl) : GS X ca W own own' ob (.Assign [.Name x pos'] e pos) (sSet i ge) := by
  subst ho
  refine (ps_set hN hi hx h hs hf).conv fun D σ H ⟨B0, H0, B, ev, R, s⟩ => ecan_mk R ((SEnd.out s R).mono fun d ⟨_, s1⟩ v B' H' gr r => ?_)
  exact s1.nx _ rfl _ B' H' ((R.grow gr).set r)
theorem fcan_mk {K : PySem.W.Frag} {B0 H0 B H : Hp} {σ : L2.St} {ev : EnvG} {g : EnvG → Res D} {Q : VK} {W' : WX} (R : GR K ca B0 H0 own B H σ ev)
    (k : Gets K ca B H (g ev) (fun c d H' => W' c d σ H') (fun d => ∀ ds, d = .lst ds → ∀ a xs B' H', Grow B H B' H' → H a = none → B' a = none → H' a = some (.lst xs) → RepL K ca B' xs ds → Q (.ref a) H')) : fcan K ca W' own g σ H Q := ⟨B0, H0, B, ev, R, k⟩
/-- name = a new list -/
theorem gs_setF (i : Nat) {x : Str} {pos' : Pos} (hN : X.N.Nodup) (h : GF X ca W own e ge) (ho : i :: own.filter (fun z => !decide (z = i)) = own' := by rfl) (hi : X.N[i]? = some x := by rfl) (hx : Loc X.env.scope x := by first | exact Or.inl rfl | exact Or.inr rfl)
    (hs : swapsWith e (some (.Name x pos')) pos.line X.env = pure false := by rfl) (hf : X.fn x = true ∨ X.env.scope.names.lookup x = some .local := by first | exact .inl rfl | exact .inr rfl) : GS X ca W own own' ob (.Assign [.Name x pos'] e pos) (sSet i ge) := by
  subst ho
  refine (ps_set hN hi hx h hs hf).conv fun D σ H ⟨B0, H0, B, ev, R, s⟩ => fcan_mk R ((SEnd.out s R).mono fun d ⟨_, s1⟩ ds ed a xs B' H' gr hn hb hh r => ?_)
  subst ed
  exact s1.nx _ rfl _ B' H' (R.setOwn gr hn hb hh r)
/-- name op= e -/
def sAug (i : Nat) (f : D → D → Option D) (ge : EnvG → Res D) : EnvG → Out := fun ev => (lk ev i).out ev fun x => (ge ev).out ev fun y => (Res.ofO (f x y)).out ev fun d => .nx (ev.set i (some d))
theorem gs_aug (i : Nat) {x : Str} {pos' : Pos} {op : Operator} {r : R2} {f : D → D → Option D} (hN : X.N.Nodup) (ho : OpR X (inplaceOp op) r) (hs : OpS X ca r f) (h : GE X ca W own e ge) (hno : own.filter (fun z => !decide (z = i)) = own := by rfl) (hi : X.N[i]? = some x := by rfl) (hx : Loc X.env.scope x := by first | exact Or.inl rfl | exact Or.inr rfl)
    (hf : X.fn x = true ∨ X.env.scope.names.lookup x = some .local := by first | exact .inl rfl | exact .inr rfl) : GS X ca W own own ob (.AugAssign (.Name x pos') op e pos) (sAug i f ge) := by
  refine (ps_aug (ti := r) hN hi hx h (fun pins s σ H x y v u Q I r1 r2 h => ho pins s σ H x y v u Q I r1 r2 h) hf).conv fun D σ H ⟨B0, H0, B, ev, R, s⟩ => ?_
  have g0 := SEnd.out (r := lk ev i) s R
  obtain ⟨dx, e1, e2⟩ := lk_cases g0.nb
  have hno' : i ∉ own := fun z => by
    have : i ∈ own.filter (fun z => !decide (z = i)) := by rw [hno]; exact z
    exact (mem_without.mp this).2 rfl
  obtain ⟨v, h1, h2⟩ := R.loc i dx hno' e1
  refine ⟨v, h1, ecan_mk R ((SEnd.out (g0.ok dx e2).2 R).mono fun dy ⟨_, s1⟩ u B1 H1 gr1 r1 => ?_)⟩
  obtain ⟨d, e3, _, s2⟩ := gets_ofO (SEnd.out s1 R)
  refine hs _ _ _ _ _ _ _ _ gr1.s (h2.mono gr1.b) r1 e3 fun w B2 H2 gr2 r2 => ?_
  have := (R.grow (gr1.trans gr2)).set (i := i) r2
  rw [hno] at this
  exact s2.nx _ rfl _ B2 H2 this
end

/-! ### while -/
def whileN (c : EnvG → Res Bool) (b : EnvG → Out) : Nat → EnvG → Option Out
  | 0, _ => none
  | n + 1, ev => match c ev with
    | .ok true => match b ev with
      | .nx ev' => whileN c b n ev'
      | .ct ev' => whileN c b n ev'
      | .bk ev' => some (.nx ev')
      | o => some o
    | .ok false => some (.nx ev)
    | .xc k fs => some (.xc k fs ev)
    | .bad => some .bad
theorem whileN_mono {c : EnvG → Res Bool} {b : EnvG → Out} : ∀ {n m : Nat} {ev : EnvG} {o : Out}, whileN c b n ev = some o → n ≤ m → whileN c b m ev = some o
  | 0, _, _, _, h, _ => by cases h
  | n + 1, 0, _, _, _, hm => by omega
  | n + 1, m + 1, ev, o, h, hm => by
    unfold whileN at h ⊢
    cases q : c ev with
    | ok d =>
      rw [q] at h
      cases d with
      | false => exact h
      | true =>
        dsimp only at h ⊢
        cases q2 : b ev with
        | nx ev' => rw [q2] at h; exact whileN_mono h (by omega)
        | ct ev' => rw [q2] at h; exact whileN_mono h (by omega)
        | bk ev' => rw [q2] at h; exact h
        | rt d => rw [q2] at h; exact h
        | xc k fs ev' => rw [q2] at h; exact h
        | bad => rw [q2] at h; exact h
    | xc k fs => rw [q] at h; exact h
    | bad => rw [q] at h; exact h
open Classical in
noncomputable def gWhile (c : EnvG → Res Bool) (b : EnvG → Out) : EnvG → Out := fun ev => if h : ∃ o n, whileN c b n ev = some o then h.choose else .bad
theorem gWhile_eq {c : EnvG → Res Bool} {b : EnvG → Out} {n : Nat} {ev : EnvG} {o : Out} (h : whileN c b n ev = some o) : gWhile c b ev = o := by
  have hx : ∃ o n, whileN c b n ev = some o := ⟨o, n, h⟩
  unfold gWhile
  rw [dif_pos hx]
  obtain ⟨m, hm⟩ := hx.choose_spec
  have h1 := whileN_mono h (Nat.le_max_left n m)
  have h2 := whileN_mono hm (Nat.le_max_right n m)
  rw [h1] at h2
  exact (Option.some.inj h2).symm
theorem gWhile_ex {c : EnvG → Res Bool} {b : EnvG → Out} {ev : EnvG} (h : gWhile c b ev ≠ .bad) : ∃ n, whileN c b n ev = some (gWhile c b ev) := by
  by_cases hx : ∃ o n, whileN c b n ev = some o
  · obtain ⟨o, n, e⟩ := hx
    exact ⟨n, by rw [gWhile_eq e]; exact e⟩
  · unfold gWhile at h
    rw [dif_neg hx] at h
    exact absurd rfl h
section
variable {X : Cx} {ca : Nat → Addr} {W : WX} {own ob : List Nat} {pos : Pos} {e : Expr} {c : EnvG → Res Bool} {b : EnvG → Out} {body : List Stmt}
theorem SEnd.inner {K : PySem.W.Frag} {B0 H0 : Hp} {D : Ends} {o o' : Out} {N : L2.St → Hp → Prop} (s : SEnd K ca W B0 H0 own ob D o)
    (nx : ∀ ev', o' = .nx ev' → ∀ σ' B' H', GR K ca B0 H0 own B' H' σ' ev' → N σ' H') (ct : ∀ ev', o' = .ct ev' → ∀ σ' B' H', GR K ca B0 H0 own B' H' σ' ev' → N σ' H')
    (bk : ∀ ev', o' = .bk ev' → o = .nx ev') (rt : ∀ d, o' = .rt d → o = .rt d) (xc : ∀ c fs ev', o' = .xc c fs ev' → o = .xc c fs ev') (nb : o' ≠ .bad) : SEnd K ca W B0 H0 own own { D with nx := N, ct := N, bk := D.nx } o' :=
  ⟨nb, nx, fun d q => s.rt d (rt d q), fun ev' q => s.nx ev' (bk ev' q), ct, fun c fs ev' q => s.xc c fs ev' (xc c fs ev' q)⟩
theorem gs_while (hp : PassesOwn (model X.prog X.w) X.A X.env X.xe) (hc : GT X ca W own e c) (hb : GSs X ca W own own own body b) : GS X ca W own own ob (.While e body [] pos) (gWhile c b) := by
  refine (ps_while hp hc hb).conv fun D σ H ⟨B0, H0, B, ev, R, s⟩ => ?_
  obtain ⟨n, hn⟩ := gWhile_ex s.nb
  refine ⟨fun m σ' H' => ∃ B' ev' o, GR X.K ca B0 H0 own B' H' σ' ev' ∧ whileN c b m ev' = some o ∧ SEnd X.K ca W B0 H0 own ob D o, ⟨n, B, ev, _, R, hn, s⟩, ?_⟩
  rintro m σ1 H1 ⟨B1, ev1, o, R1, h1, s1⟩
  cases m with
  | zero => cases h1
  | succ m =>
    unfold whileN at h1
    refine ccan_mk R1 ⟨fun z => ?_, fun d q B2 H2 gr => ?_, fun k fs q B2 H2 dd gr x => ?_⟩
    · rw [z] at h1
      cases h1
      exact s1.bad
    · rw [q] at h1
      cases d with
      | false =>
        cases h1
        exact s1.nx ev1 rfl σ1 B2 H2 (R1.grow gr)
      | true =>
        have h1 : (match b ev1 with | .nx ev' => whileN c b m ev' | .ct ev' => whileN c b m ev' | .bk ev' => some (.nx ev') | o => some o) = some o := h1
        rw [if_pos rfl]
        refine ⟨fun σ' H' => ∃ B' ev' o, GR X.K ca B0 H0 own B' H' σ' ev' ∧ whileN c b m ev' = some o ∧ SEnd X.K ca W B0 H0 own ob D o, fun σ' H' w => ⟨m, Nat.lt_succ_self _, w⟩, scan_mk (R1.grow gr) (s1.inner (fun ev' q σ' B' H' R' => ?_) (fun ev' q σ' B' H' R' => ?_) (fun ev' q => ?_) (fun d q => ?_) (fun c fs ev' q => ?_) fun q => ?_)⟩
        · rw [q] at h1; exact ⟨B', ev', o, R', h1, s1⟩
        · rw [q] at h1; exact ⟨B', ev', o, R', h1, s1⟩
        · rw [q] at h1; exact (Option.some.inj h1).symm
        · rw [q] at h1; exact (Option.some.inj h1).symm
        · rw [q] at h1; exact (Option.some.inj h1).symm
        · rw [q] at h1
          cases h1
          exact s1.bad
    · rw [q] at h1
      cases h1
      obtain ⟨B3, R3, s3⟩ := (R1.grow gr).weak (own' := []) (fun _ z => by cases z)
      exact s1.xc k fs ev1 rfl σ1 B3 H2 dd R3 (x.mono s3)
end

/-! ### what is walked -/
def GWalk (K : PySem.W.Frag) (ca : Nat → Addr) (J : It) (items : List D) (B1 : Hp) : Prop :=
  ∃ (Gd : Hp → Prop) (Y : Nat → Hp → V → Hp → Prop), Walk J items.length Gd Y ∧ (∀ B2 H2, Same B1 B2 → Same B2 H2 → Gd H2) ∧
    ∀ i H x H' B2, i < items.length → Y i H x H' → Same B1 B2 → Same B2 H → ∃ B' d, Grow B2 H B' H' ∧ items[i]? = some d ∧ Rep K ca B' x d
def ican (K : PySem.W.Frag) (ca : Nat → Addr) (W : WX) (own : List Nat) (g : EnvG → Res (List D)) : TI := fun σ H R =>
  ∃ B0 H0 B ev, GR K ca B0 H0 own B H σ ev ∧ Gets K ca B H (g ev) (fun c d H' => W c d σ H') (fun items => ∀ J B' H', Grow B H B' H' → GWalk K ca J items B' → R J H')
abbrev GI (X : Cx) (ca : Nat → Addr) (W : WX) (own : List Nat) (tg e : Expr) (g : EnvG → Res (List D)) : Prop := PI X tg e (ican X.K ca W own g)
/-- targets; σ' is σ but for the slots sl -/
def Eqo (sl : List Nat) (σ σ' : L2.St) : Prop := σ'.length = σ.length ∧ ∀ j, j ∉ sl → σ'[j]? = σ[j]?
theorem Eqo.refl (sl : List Nat) (σ : L2.St) : Eqo sl σ σ := ⟨rfl, fun _ _ => rfl⟩
def tcan (K : PySem.W.Frag) (ca : Nat → Addr) (own : List Nat) (set : D → EnvG → Option EnvG) (sl : List Nat) : TG := fun v σ H Q =>
  ∃ B0 H0 B ev d ev', GR K ca B0 H0 own B H σ ev ∧ Rep K ca B v d ∧ set d ev = some ev' ∧ ∀ σ', GR K ca B0 H0 own B H σ' ev' → Eqo sl σ σ' → Q σ' H
abbrev GG (X : Cx) (ca : Nat → Addr) (own : List Nat) (tg : Expr) (set : D → EnvG → Option EnvG) (sl : List Nat) : Prop := PG X tg (tcan X.K ca own set sl)
def gg1 (i : Nat) : D → EnvG → Option EnvG := fun d ev => some (ev.set i (some d))
def ggs : List (D → EnvG → Option EnvG) → List D → EnvG → Option EnvG
  | [], [], ev => some ev
  | s :: ss, d :: ds, ev => (s d ev).bind fun ev' => ggs ss ds ev'
  | _, _, _ => none
def ggT (ss : List (D → EnvG → Option EnvG)) : D → EnvG → Option EnvG
  | .tup ds, ev => ggs ss ds ev
  | _, _ => none
def tscan (K : PySem.W.Frag) (ca : Nat → Addr) (own : List Nat) (ss : List (D → EnvG → Option EnvG)) (sl : List Nat) : TGs := fun vs σ H Q =>
  ∃ B0 H0 B ev ds ev', GR K ca B0 H0 own B H σ ev ∧ RepL K ca B vs ds ∧ ggs ss ds ev = some ev' ∧ ∀ σ', GR K ca B0 H0 own B H σ' ev' → Eqo sl σ σ' → Q σ' H
section
variable {X : Cx} {ca : Nat → Addr} {W : WX} {own own' ob : List Nat} {pos : Pos} {e : Expr}
theorem ggs_len : ∀ {ss : List (D → EnvG → Option EnvG)} {ds : List D} {ev ev' : EnvG}, ggs ss ds ev = some ev' → ds.length = ss.length
  | [], [], _, _, _ => rfl
  | [], _ :: _, _, _, h => by cases h
  | _ :: _, [], _, _, h => by cases h
  | s :: ss, d :: ds, ev, ev', h => by
    unfold ggs at h
    cases q : s d ev with
    | none => rw [q] at h; cases h
    | some e2 =>
      rw [q] at h
      exact congrArg (· + 1) (ggs_len (ss := ss) (ds := ds) h)
theorem gg_name (i : Nat) {x : Str} (hN : X.N.Nodup) (hno : own.contains i = false := by rfl) (hi : X.N[i]? = some x := by rfl) (hx : Loc X.env.scope x := by first | exact Or.inl rfl | exact Or.inr rfl)
    (hf : X.fn x = true ∨ X.env.scope.names.lookup x = some .local := by first | exact .inl rfl | exact .inr rfl) : GG X ca own (.Name x pos) (gg1 i) [i] := by
  refine (pg_name hN hi hx hf).conv fun v σ H Q ⟨B0, H0, B, ev, d, ev', R, r, h, q⟩ => ?_
  cases h
  have R2 := R.set (i := i) r
  have : own.filter (fun z => !decide (z = i)) = own := List.filter_eq_self.mpr fun j hj => by
    have : i ∉ own := by simpa using hno
    have : j ≠ i := fun z => this (z ▸ hj)
    simp [this]
  rw [this] at R2
  exact q _ R2 ⟨List.length_set .., fun j hj => List.getElem?_set_ne (fun z => hj (by simp [z]))⟩
theorem ggs_nil : PGs X [] (tscan X.K ca own [] []) := by
  refine ⟨fun pins s σ H vs us Q I rv h => ?_⟩
  obtain ⟨B0, H0, B, ev, ds, ev', R, r, h, q⟩ := h
  cases ds with
  | cons _ _ => cases h
  | nil =>
    cases r
    cases h
    exact pgs_nil.run pins s σ H [] us Q I rv ⟨rfl, q σ R (Eqo.refl _ _)⟩
theorem ggs_cons {es : List Expr} {s1 : D → EnvG → Option EnvG} {ss : List (D → EnvG → Option EnvG)} {l1 l2 : List Nat} (h1 : GG X ca own e s1 l1) (h2 : PGs X es (tscan X.K ca own ss l2))
    (hs : (assignEach (e :: es) X.env).map (·.2) = assign e X.env :: (assignEach es X.env).map (·.2) := by rfl) : PGs X (e :: es) (tscan X.K ca own (s1 :: ss) (l1 ++ l2)) := by
  refine ⟨fun pins s σ H vs us Q I rv h => ?_⟩
  obtain ⟨B0, H0, B, ev, ds, ev', R, r, h, q⟩ := h
  cases ds with
  | nil => cases h
  | cons d ds =>
    cases r with
    | cons r1 rr =>
      unfold ggs at h
      cases hq : s1 d ev with
      | none => rw [hq] at h; cases h
      | some ev1 =>
        rw [hq] at h
        refine (pgs_cons h1 h2 hs).run pins s σ H _ us Q I rv ⟨_, _, rfl, ⟨B0, H0, B, ev, d, ev1, R, r1, hq, fun σ' R' e1 => ⟨B0, H0, B, ev1, ds, ev', R', rr, h, fun σ2 R2 e2 => q σ2 R2 ⟨e2.1.trans e1.1, fun j hj => (e2.2 j fun z => hj (List.mem_append_right _ z)).trans (e1.2 j fun z => hj (List.mem_append_left _ z))⟩⟩⟩⟩
theorem gg_tup {es : List Expr} {k n : Nat} {ss : List (D → EnvG → Option EnvG)} {sl : List Nat} (hc : X.calm = true) (h : PGs X es (tscan X.K ca own ss sl)) (hl : ss.length = n := by rfl)
    (hn : (assignEach es X.env).length = n := by rfl) (hst : (assignEach es X.env).findIdx? (·.1) = none := by rfl) : GG X ca own (.Tuple es k pos) (ggT ss) sl := by
  refine (pg_tup hc h hn hst).conv fun v σ H Q ⟨B0, H0, B, ev, d, ev', R, r, h, q⟩ => ?_
  cases d with
  | tup ds =>
    cases r with
    | tup hs rr => exact ⟨_, _, rfl, .inl (.inl (R.sub _ _ hs)), by rw [rr.length, ← hl]; exact ggs_len h, B0, H0, B, ev, ds, ev', R, rr, h, q⟩
  | _ => cases h
/-- a, b = value -/
def sAsg (set : D → EnvG → Option EnvG) (ge : EnvG → Res D) : EnvG → Out := fun ev => (ge ev).out ev fun d => match set d ev with
  | some ev' => .nx ev'
  | none => .bad
theorem gs_asg {tg : Expr} {set : D → EnvG → Option EnvG} {sl : List Nat} {ge : EnvG → Res D} (h : GE X ca W own e ge) (hg : GG X ca own tg set sl) (hs : swapsWithSole [tg] e pos.line X.env = pure false := by rfl) (hw : swappedStores [tg] e X.env = pure none := by rfl)
    (h1 : (assignEach [tg] X.env).map (·.2) = [assign tg X.env] := by rfl) : GS X ca W own own ob (.Assign [tg] e pos) (sAsg set ge) := by
  refine (ps_asg h hg hs hw h1).conv fun D σ H ⟨B0, H0, B, ev, R, s⟩ => ecan_mk R ((SEnd.out s R).mono fun d ⟨_, s1⟩ v B' H' gr r => ?_)
  cases q : set d ev with
  | none => rw [q] at s1; exact s1.bad
  | some ev' =>
    rw [q] at s1
    exact ⟨B0, H0, B', ev, d, ev', R.grow gr, r, q, fun σ' R' _ => s1.nx _ rfl _ _ _ R'⟩

/-! ### for -/
def forL (set : D → EnvG → Option EnvG) (b : EnvG → Out) : List D → EnvG → Out
  | [], ev => .nx ev
  | d :: ds, ev => match set d ev with
    | none => .bad
    | some ev1 => match b ev1 with
      | .nx ev' => forL set b ds ev'
      | .ct ev' => forL set b ds ev'
      | .bk ev' => .nx ev'
      | o => o
def sFor (gi : EnvG → Res (List D)) (set : D → EnvG → Option EnvG) (b : EnvG → Out) : EnvG → Out := fun ev => (gi ev).out ev fun items => forL set b items ev
theorem gs_for {tg iter : Expr} {body : List Stmt} {gi : EnvG → Res (List D)} {set : D → EnvG → Option EnvG} {b : EnvG → Out} {sl : List Nat} (hp : PassesOwn (model X.prog X.w) X.A X.env X.xe) (hc : X.calm = true) (hi : GI X ca W own tg iter gi) (hg : GG X ca own tg set sl)
    (hb : GSs X ca W own own own body b) (hs : ∀ x, foldedSetIterable iter X.env x = pure x := by intro _; rfl) : GS X ca W own own ob (.For tg iter body [] pos) (sFor gi set b) := by
  refine (ps_for hp hc hi hg hb hs).conv fun D σ H ⟨B0, H0, B, ev, R, s⟩ => ⟨B0, H0, B, ev, R, (SEnd.out s R).mono fun items ⟨_, s1⟩ J B1 H1 gr wk => ?_⟩
  obtain ⟨Gd, Y, wk, hG, hY⟩ := wk
  have R1 := R.grow gr
  have g01 : Grow B0 H0 B1 H1 := R1.gr
  refine for_it wk (fun i σ' H' => ∃ B' ev', GR X.K ca B0 H0 own B' H' σ' ev' ∧ Same B1 B' ∧ SEnd X.K ca W B0 H0 own ob D (forL set b (items.drop i) ev')) ⟨B1, ev, R1, Same.refl _, s1⟩
    (fun i σ' H' _ ⟨B', ev', R', sb, _⟩ => hG B' H' sb R'.sub) (fun i x σ' H' H2 hi ⟨B', ev', R', sb, s'⟩ y => ?_) (fun σ' H' ⟨B', ev', R', sb, s'⟩ => ?_)
  · obtain ⟨B2, d, gr2, ei, rx⟩ := hY i H' x H2 B' hi y sb R'.sub
    have R2 := R'.grow gr2
    have sb2 : Same B1 B2 := sb.trans gr2.b
    have ed : items.drop i = d :: items.drop (i + 1) := by
      rw [List.drop_eq_getElem_cons hi]
      rw [List.getElem?_eq_getElem hi] at ei
      rw [Option.some.inj ei]
    rw [ed] at s'
    unfold forL at s'
    cases q : set d ev' with
    | none => rw [q] at s'; exact s'.bad
    | some ev1 =>
      rw [q] at s'
      dsimp only at s'
      refine ⟨B1, H0, B2, ev', d, ev1, R2.rebase g01 sb2, rx, q, fun σ2 R3 _ => scan_mk R3 ?_⟩
      have nxt : ∀ {ev2 : EnvG}, SEnd X.K ca W B0 H0 own ob D (forL set b (items.drop (i + 1)) ev2) → ∀ σ3 B3 H3, GR X.K ca B1 H0 own B3 H3 σ3 ev2 → ∃ B4 ev4, GR X.K ca B0 H0 own B4 H3 σ3 ev4 ∧ Same B1 B4 ∧ SEnd X.K ca W B0 H0 own ob D (forL set b (items.drop (i + 1)) ev4) :=
        fun {ev2} z σ3 B3 H3 R4 => ⟨B3, ev2, R4.unbase g01, R4.b0, z⟩
      cases hbv : b ev1 with
      | nx ev2 =>
        rw [hbv] at s'
        exact ⟨fun z => (by cases z), fun _ e => (by cases e; exact nxt s'), fun _ e => (by cases e), fun _ e => (by cases e), fun _ e => (by cases e), fun _ _ _ e => (by cases e)⟩
      | ct ev2 =>
        rw [hbv] at s'
        exact ⟨fun z => (by cases z), fun _ e => (by cases e), fun _ e => (by cases e), fun _ e => (by cases e), fun _ e => (by cases e; exact nxt s'), fun _ _ _ e => (by cases e)⟩
      | bk ev2 =>
        rw [hbv] at s'
        exact ⟨fun z => (by cases z), fun _ e => (by cases e), fun _ e => (by cases e), fun _ e => (by cases e; exact fun σ3 B3 H3 R4 => s'.nx _ rfl _ _ _ (R4.unbase g01)), fun _ e => (by cases e), fun _ _ _ e => (by cases e)⟩
      | rt d2 =>
        rw [hbv] at s'
        exact ⟨fun z => (by cases z), fun _ e => (by cases e), fun _ e => (by cases e; exact fun v B3 H3 g r => s'.rt _ rfl _ _ _ (g.unbase g01) r), fun _ e => (by cases e), fun _ e => (by cases e), fun _ _ _ e => (by cases e)⟩
      | xc c fs ev2 =>
        rw [hbv] at s'
        exact ⟨fun z => (by cases z), fun _ e => (by cases e), fun _ e => (by cases e), fun _ e => (by cases e), fun _ e => (by cases e), fun _ _ _ e => (by cases e; exact fun σ3 B3 H3 dd R4 x => s'.xc _ _ _ rfl _ _ _ _ (R4.unbase g01) x)⟩
      | bad =>
        rw [hbv] at s'
        exact s'.bad
  · rw [List.drop_of_length_le (Nat.le_refl _)] at s'
    exact s'.nx _ rfl _ _ _ R'
end
end GL

namespace GL
open PySem PySem.Spec PyProof.Rows L2

/-! ### defs -/
def _root_.GL.Out.res : Out → Res D
  | .rt d => .ok d
  | .nx _ => .ok .non
  | .xc c fs _ => .xc c fs
  | _ => .bad
def runF (n np : Nat) (g : EnvG → Out) (ds : List D) : Res D :=
  if ds.length = np then (g (ds.map some ++ List.replicate (n - np) none)).res else .bad
theorem runF_len {n np : Nat} {g : EnvG → Out} {ds : List D} (h : runF n np g ds ≠ .bad) : ds.length = np := by
  unfold runF at h
  by_cases e : ds.length = np
  · exact e
  · rw [if_neg e] at h; exact absurd rfl h
/-- the promise of a def that does what F says -/
def spOf (K : PySem.W.Frag) (ca : Nat → Addr) (n : Nat) (F : List D → Res D) : Sp := fun vs H Q E =>
  vs.length = n ∧ ∃ B ds, Same B H ∧ RepL K ca B vs ds ∧ Gets K ca B H (F ds) (fun c d H' => E c d H') (KOk K ca B H Q)
structure GFn (P : Program) (w : World) (K : PySem.W.Frag) (mg : Str → Option Value) (base : Heap) (ca : Nat → Addr) (x : Str) (k : Nat) (F : List D → Res D) : Prop where
  ex : ∃ f fd ps, FnOk P w K mg base (L2.CX P w) k f fd ps (spOf K ca ps.length F) ∧ mg x = some (.ref f) ∧ PySem.W.keepIn K (.ref f) = true ∧ Binds K fd ps [] ∧ ∀ ds, F ds ≠ .bad → ds.length = ps.length
theorem get_append_some {ds : List D} {n j : Nat} {d : D} (h : (ds.map some ++ List.replicate n none)[j]? = some (some d)) : ds[j]? = some d := by
  by_cases hj : j < ds.length
  · rw [List.getElem?_append_left (by simpa using hj), List.getElem?_map] at h
    rw [List.getElem?_eq_getElem hj] at h ⊢
    exact Option.some.inj h
  · rw [List.getElem?_append_right (by simpa using hj)] at h
    have h2 := List.mem_of_getElem? h
    have h3 := (List.mem_replicate.mp h2).2
    cases h3
theorem gr_start {K : PySem.W.Frag} {ca : Nat → Addr} {B H : Hp} {vs : List V} {ds : List D} {N : List Str} (s : Same B H) (r : RepL K ca B vs ds) : GR K ca B H [] B H (L2.start N vs) (ds.map some ++ List.replicate (N.length - ds.length) none) where
  sub := s
  b0 := Same.refl _
  h0 := Same.refl _
  cut := fun _ _ h => h
  len := by unfold L2.start; rw [List.length_append, List.length_append, List.length_map, List.length_map, List.length_replicate, List.length_replicate, r.length]
  loc := fun j d _ h => by
    obtain ⟨v, h1, h2⟩ := r.get (get_append_some h)
    refine ⟨v, ?_, h2⟩
    unfold L2.start
    have : j < vs.length := by
      rw [List.getElem?_eq_some_iff] at h1
      exact h1.1
    rw [List.getElem?_append_left (by simpa using this), List.getElem?_map, h1]
    rfl
  owns := fun _ _ h => by cases h
  apart := fun _ _ _ _ _ h => by cases h
section
variable {P : Program} {w : World} {K : PySem.W.Frag} {mg : Str → Option Value} {base : Heap} {ca : Nat → Addr}
theorem fnok_of {x qual : Str} {st : Stmt} {f : Addr} {fd : FuncData} {N ps : List Str} {k : Nat} {g : EnvG → Out} {own' : List Nat} (F : Fun K x qual st f fd) (S : FnScope N ps (defScope st))
    (body : ∀ (cdv : Value) (A : Around) (outer : List Env) (s : Shared) (H : Hp) (E : XK), Room k (A.deeper (envOfC qual (defScope st) s.heap.objs.size f cdv)) →
      GSs (cxOf (L2.CX P w) P w K mg base N qual (defScope st) f cdv A outer s H E) ca (fun c d _ H => E c d H) [] own' [] (defBody st) g) : FnOk P w K mg base (L2.CX P w) (k + 1) f fd ps (spOf K ca ps.length (runF N.length ps.length g)) := by
  refine F.okX S (fun vs H Q E h => h.1) (fun cdv A outer s H vs Q E hr h => ⟨_, body cdv A outer s H E hr, ?_⟩)
  obtain ⟨hl, B, ds, sb, r, g0⟩ := h
  have hld : ds.length = ps.length := by rw [← r.length]; exact hl
  refine scan_mk (gr_start sb r) ?_
  unfold runF at g0
  rw [if_pos hld] at g0
  rw [hld]
  cases q : g (ds.map some ++ List.replicate (N.length - ps.length) none) with
  | rt d =>
    rw [q] at g0
    exact ⟨fun z => (by cases z), fun _ e => (by cases e), fun d' e => (by cases e; exact fun v B' H' gr r' => g0.ok d rfl v B' H' gr r'), fun _ e => (by cases e), fun _ e => (by cases e), fun _ _ _ e => (by cases e)⟩
  | nx ev =>
    rw [q] at g0
    exact ⟨fun z => (by cases z), fun _ e => (by cases e; exact fun σ' B' H' R' => g0.ok .non rfl .non B' H' R'.gr .non), fun d' e => (by cases e), fun _ e => (by cases e), fun _ e => (by cases e), fun _ _ _ e => (by cases e)⟩
  | xc c fs ev =>
    rw [q] at g0
    exact ⟨fun z => (by cases z), fun _ e => (by cases e), fun d' e => (by cases e), fun _ e => (by cases e), fun _ e => (by cases e), fun _ _ _ e => (by cases e; exact fun σ' B' H' dd R' xa => g0.xc c fs rfl B' H' dd R'.gr xa)⟩
  | bk ev => rw [q] at g0; exact absurd rfl g0.nb
  | ct ev => rw [q] at g0; exact absurd rfl g0.nb
  | bad => rw [q] at g0; exact absurd rfl g0.nb
theorem gfn_of {x qual : Str} {st : Stmt} {f : Addr} {fd : FuncData} {N ps : List Str} {k : Nat} {g : EnvG → Out} {own' : List Nat} (F : Fun K x qual st f fd) (S : FnScope N ps (defScope st)) (hm : mg x = some (.ref f)) (hb : Binds K fd ps [])
    (body : ∀ (cdv : Value) (A : Around) (outer : List Env) (s : Shared) (H : Hp) (E : XK), Room k (A.deeper (envOfC qual (defScope st) s.heap.objs.size f cdv)) →
      GSs (cxOf (L2.CX P w) P w K mg base N qual (defScope st) f cdv A outer s H E) ca (fun c d _ H => E c d H) [] own' [] (defBody st) g) : GFn P w K mg base ca x (k + 1) (runF N.length ps.length g) :=
  ⟨f, fd, ps, fnok_of F S body, hm, F.kp, hb, fun _ h => runF_len h⟩
theorem GFn.mono {x : Str} {k j : Nat} {F : List D → Res D} (h : GFn P w K mg base ca x k F) (hk : k ≤ j) : GFn P w K mg base ca x j F := by
  obtain ⟨f, fd, ps, h1, h2⟩ := h.ex
  exact ⟨f, fd, ps, h1.mono hk, h2⟩
theorem takes_def {N : List Str} {qual : Str} {scope : Scope} {f : Addr} {cd : Value} {A : Around} {outer : List Env} {s : Shared} {H : Hp} {E : XK} :
    Takes (cxOf (L2.CX P w) P w K mg base N qual scope f cd A outer s H E) (fun c d _ H => E c d H) := takes_of rfl rfl rfl rfl
theorem own_def {N : List Str} {qual : Str} {scope : Scope} {f : Addr} {cd : Value} {A : Around} {outer : List Env} {s : Shared} {H : Hp} {E : XK} :
    PassesOwn (model (cxOf (L2.CX P w) P w K mg base N qual scope f cd A outer s H E).prog (cxOf (L2.CX P w) P w K mg base N qual scope f cd A outer s H E).w) (cxOf (L2.CX P w) P w K mg base N qual scope f cd A outer s H E).A (cxOf (L2.CX P w) P w K mg base N qual scope f cd A outer s H E).env (cxOf (L2.CX P w) P w K mg base N qual scope f cd A outer s H E).xe := PassesOwn.leaving
end

/-! ### calls -/
def gCall (F : List D → Res D) (ga : EnvG → Res (List D)) : EnvG → Res D := fun ev => (ga ev).bind F
section
variable {X : Cx} {ca : Nat → Addr} {W : WX} {own : List Nat} {pos p apos : Pos} {e o : Expr} {es : List Expr} {ga : EnvG → Res (List D)}
theorem ge_call {x : Str} {k j : Nat} {F : List D → Res D} (G : GFn X.prog X.w X.K X.mg X.base ca x k F) (hr : Room j X.A) (tk : Takes X W) (ha : GA X ca W own (e :: es) ga) (hk : k ≤ j := by decide) (hg : Gl X x := by rfl)
    (hdb : (x == ("__debug__" : Str)) = false := by decide) (he : starEach (e :: es) X.env = (false, eval e X.env) :: starEach es X.env := by rfl) (hpl : (backTo pos (starEach es X.env)).any (·.1) = false := by rfl) :
    GE X ca W own (.Call (.Name x p) (e :: es) [] pos) (gCall F ga) := by
  obtain ⟨f, fd, ps, h1, h2, h3, h4, h5⟩ := G.ex
  refine (pe_callS (E := WE W) h1 (hr.mono hk) hg h2 h3 h4 (fun σ => passAt tk σ) ha hdb he hpl).conv fun σ H Q ⟨B0, H0, B, ev, R, g⟩ => ?_
  refine acan_mk R (g.bind.mono fun ds ⟨e1, g1⟩ vs B' H' gr r => ?_)
  exact ⟨by rw [r.length]; exact h5 ds g1.nb, B', ds, gr.s, r, g1.grow gr fun d q => q.grow gr⟩
end

/-! ### methods -/
structure GMt (P : Program) (w : World) (K : PySem.W.Frag) (mg : Str → Option Value) (base : Heap) (ca : Nat → Addr) (c : Nat) (m : Str) (k : Nat) (F : List D → Res D) : Prop where
  ex : ∃ f fd ps, FnOk P w K mg base (L2.CX P w) k f fd ps (spOf K ca ps.length F) ∧ Cls K (ca c) ∧ Meth K (ca c) m f ∧ Binds K fd ps [] ∧ ∀ ds, F ds ≠ .bad → ds.length = ps.length
def dispO (disp : Nat → Option (List D → Res D)) (m : Str) : D → Option (List D → Res D)
  | .obj c fs => if (fs.lookup m).isNone = true then disp c else none
  | _ => none
def gMeth (disp : Nat → Option (List D → Res D)) (m : Str) (go : EnvG → Res D) (ga : EnvG → Res (List D)) : EnvG → Res D := fun ev => (go ev).bind fun o => match dispO disp m o with
  | some F => (ga ev).bind fun ds => F (o :: ds)
  | none => .bad
theorem dispO_some {disp : Nat → Option (List D → Res D)} {m : Str} {o : D} {F : List D → Res D} (h : dispO disp m o = some F) : ∃ c fs, o = .obj c fs ∧ fs.lookup m = none ∧ disp c = some F := by
  cases o with
  | obj c fs =>
    have h : (if (fs.lookup m).isNone = true then disp c else none) = some F := h
    by_cases q : (fs.lookup m).isNone = true
    · rw [if_pos q] at h
      refine ⟨c, fs, rfl, ?_, h⟩
      cases z : fs.lookup m with
      | none => rfl
      | some _ => rw [z] at q; cases q
    · rw [if_neg q] at h
      cases h
  | _ => cases h
section
variable {X : Cx} {ca : Nat → Addr} {W : WX} {own : List Nat} {pos p apos : Pos} {e o : Expr} {es : List Expr} {ga : EnvG → Res (List D)} {go : EnvG → Res D}
def tMethS (C : Addr) (m : Str) (sp : Sp) (E : L2.St → XK) (ta : TE) (t : TA) : TE := fun σ H Q => ta σ H fun x H1 => ∃ a dx fs, x = .ref a ∧ H1 a = some (.ins C dx fs) ∧ fs.lookup m = none ∧ t σ H1 fun vs H2 => sp (x :: vs) H2 Q (E σ)
/-- what a method's call is -/
def IsMeth (X : Cx) (o e : Expr) (es : List Expr) (m : Str) (apos pos : Pos) (pl : Sem Bool) : Prop :=
  eval (.Call (.Attribute o m apos) (e :: es) [] pos) X.env = (do
    let r ← eval o X.env; standAt apos.atName
    let (g, h) ← holding [r] (getMethod r m pl); callWith pos g h (backTo pos (starEach (e :: es) X.env)) (backToKw pos (keywordEach [] X.env)))
theorem pe_methS {CX : CXT} {k : Nat} {f C : Addr} {fd : FuncData} {ps : List Str} {sp : Sp} {E : L2.St → XK} {m : Str} {ta : TE} {t : TA} {pl : Sem Bool} (po : PE X o ta) (cl : Cls X.K C) (mt : Meth X.K C m f) (F : FnOk X.prog X.w X.K X.mg X.base CX k f fd ps sp) (rm : Room k X.A) (bi : Binds X.K fd ps []) (pa : ∀ σ, PassesAt CX X σ (E σ)) (as : PA X (e :: es) t)
    (h1 : starEach (e :: es) X.env = (false, eval e X.env) :: starEach es X.env) (h2 : (backTo pos (starEach es X.env)).any (·.1) = false) (h3 : IsMeth X o e es m apos pos pl) :
    PE X (.Call (.Attribute o m apos) (e :: es) [] pos) (tMethS C m sp E ta t) := by
  constructor
  intro pins s σ H Q I hr
  apply PySem.W.methodCall_KW (pl := pl) _ h3
  apply thn (po.run pins s σ H _ I hr)
  rintro u s1 ⟨x, H1, J, rx, a, dx, fs, rfl, at1, lu, go⟩
  cases rx
  apply getmeth_ok J at1 cl mt lu
  apply PySem.W.callWith_K (first := [.ref a]) (h₀ := X.base) J.ok.mod.kin mt.kp _ h1 h2
  apply thn (as.run pos pins s1 σ H1 _ J go)
  rintro us s2 ⟨vs, H2, J2, rs, go2⟩
  exact ⟨J2.kIn, run_fnS (us := .ref a :: us) (vs := .ref a :: vs) F rm bi (pa σ) J2 (.cons rfl rs) go2⟩
theorem ge_meth {m : Str} {k j : Nat} {disp : Nat → Option (List D → Res D)} {pl : Sem Bool} (G : ∀ c F, disp c = some F → GMt X.prog X.w X.K X.mg X.base ca c m k F) (hw : ∃ c F, disp c = some F) (hr : Room j X.A) (tk : Takes X W) (ho : GE X ca W own o go) (ha : GA X ca W own (e :: es) ga) (hk : k ≤ j := by decide)
    (hst : starEach (e :: es) X.env = (false, eval e X.env) :: starEach es X.env := by rfl) (hpl : (backTo pos (starEach es X.env)).any (·.1) = false := by rfl)
    (ht : IsMeth X o e es m apos pos pl := by rfl) :
    GE X ca W own (.Call (.Attribute o m apos) (e :: es) [] pos) (gMeth disp m go ga) := by
  refine ⟨fun pins s σ H Q I h => ?_⟩
  obtain ⟨B0, H0, B, ev, R, g⟩ := h
  -- by one class
  have by1 : ∀ c F, disp c = some F → Gets X.K ca B H (go ev) (fun c d H' => W c d σ H') (fun d => (∃ fs, d = .obj c fs ∧ fs.lookup m = none) ∧ go ev = .ok d ∧ Gets X.K ca B H ((ga ev).bind fun ds => F (d :: ds)) (fun c d H' => W c d σ H') (KOk X.K ca B H Q)) →
      wpAny (model X.prog X.w) X.A (eval (.Call (.Attribute o m apos) (e :: es) [] pos) X.env) (EP X pins σ Q) X.xe s := fun c F hd g => by
    obtain ⟨f, fd, ps, h1, h2, h3, h4, h5⟩ := (G c F hd).ex
    refine (pe_methS (E := WE W) ho h2 h3 h1 (hr.mono hk) h4 (fun σ => passAt tk σ) ha hst hpl ht).run pins s σ H Q I (ecan_mk R (g.mono fun d ⟨⟨fs, ed, hl⟩, _, g1⟩ v B1 H1 gr1 r1 => ?_))
    subst ed
    cases r1 with
    | obj ho rf =>
      refine ⟨_, _, _, rfl, gr1.s _ _ ho, rf.lookupN hl, acan_mk (R.grow gr1) (g1.bind.grow gr1 fun ds ⟨_, g2⟩ vs B2 H2 gr2 r2 => ?_)⟩
      have ro : Rep X.K ca B2 (.ref _) (.obj c fs) := (Rep.obj ho rf).mono gr2.b
      refine ⟨by rw [List.length_cons, r2.length]; exact h5 _ g2.nb, B2, _, gr2.s, .cons ro r2, g2.grow (gr1.trans gr2) fun d q => q.grow (gr1.trans gr2)⟩
  have g : Gets X.K ca B H ((go ev).bind fun o => match dispO disp m o with | some F => (ga ev).bind fun ds => F (o :: ds) | none => .bad) (fun c d H' => W c d σ H') (KOk X.K ca B H Q) := g
  have gb := g.bind
  cases q : go ev with
  | ok d =>
    obtain ⟨e1, g1⟩ := gb.ok d q
    cases qd : dispO disp m d with
    | none => rw [qd] at g1; exact absurd rfl g1.nb
    | some F =>
      rw [qd] at g1
      obtain ⟨c, fs, ed, hl, hd⟩ := dispO_some qd
      exact by1 c F hd ⟨fun z => (by rw [q] at z; cases z), fun d' e' => (by rw [q] at e'; cases e'; exact ⟨⟨fs, ed, hl⟩, q, g1⟩), fun c' fs' e' => (by rw [q] at e'; cases e')⟩
  | xc c fs =>
    obtain ⟨c0, F0, hd⟩ := hw
    exact by1 c0 F0 hd ⟨fun z => (by rw [q] at z; cases z), fun d' e' => (by rw [q] at e'; cases e'), gb.xc⟩
  | bad => exact absurd q gb.nb
/-- e.f -/
def fldO (okc : Nat → Bool) (f : Str) : D → Res D
  | .obj c fs => if okc c = true then .ofO (fs.lookup f) else .bad
  | _ => .bad
def gFld (okc : Nat → Bool) (f : Str) (go : EnvG → Res D) : EnvG → Res D := fun ev => (go ev).bind (fldO okc f)
theorem ge_fld {f : Str} {okc : Nat → Bool} (hc : ∀ c, okc c = true → Cls X.K (ca c) ∧ NoAttr X.K (ca c) f) (ho : GE X ca W own o go) (hb : attributeBase o f X.env (eval o X.env) = eval o X.env := by rfl) : GE X ca W own (.Attribute o f pos) (gFld okc f go) := by
  refine (pe_fld ho hb).conv fun σ H Q ⟨B0, H0, B, ev, R, g⟩ => ?_
  refine ecan_mk R (g.bind.mono fun d ⟨e1, g1⟩ v B1 H1 gr1 r1 => ?_)
  cases d with
  | obj c fs =>
    have g1 : Gets X.K ca B H (if okc c = true then .ofO (fs.lookup f) else .bad) (fun c d H' => W c d σ H') (KOk X.K ca B H Q) := g1
    obtain ⟨hk, g2⟩ := gets_if g1
    obtain ⟨x, ex, k⟩ := gets_ofO g2
    cases r1 with
    | obj h rf =>
      obtain ⟨u, hu, ru⟩ := rf.lookup ex
      exact ⟨_, _, _, _, u, rfl, gr1.s _ _ h, (hc c hk).1, (hc c hk).2, hu, k u B1 H1 gr1 ru⟩
  | _ => exact absurd rfl g1.nb
end

/-! ### comprehensions -/
def lcL (set : D → EnvG → Option EnvG) (tt : EnvG → Res Bool) (te : EnvG → Res D) : List D → EnvG → Res (List D)
  | [], _ => .ok []
  | d :: ds, ev => match set d ev with
    | none => .bad
    | some ev1 => match tt ev1 with
      | .ok true => match te ev1 with
        | .ok y => (lcL set tt te ds ev).bind fun ys => .ok (y :: ys)
        | _ => .bad
      | .ok false => lcL set tt te ds ev
      | _ => .bad
def wipeE (ev : EnvG) : List Nat → EnvG
  | [] => ev
  | v :: vs => (wipeE ev vs).set v none
def gLc (gi : EnvG → Res (List D)) (set : D → EnvG → Option EnvG) (tt : EnvG → Res Bool) (te : EnvG → Res D) (vs : List Nat) : EnvG → Res D := fun ev =>
  (gi ev).bind fun items => (lcL set tt te items (wipeE ev vs)).bind fun ds => if ds.length ≤ 16777216 then .ok (.lst ds) else .bad
theorem wipeE_len (ev : EnvG) : ∀ vs : List Nat, (wipeE ev vs).length = ev.length
  | [] => rfl
  | v :: vs => by unfold wipeE; rw [List.length_set, wipeE_len ev vs]
theorem wipeE_some {ev : EnvG} {j : Nat} {d : D} : ∀ {vs : List Nat}, (wipeE ev vs)[j]? = some (some d) → j ∉ vs ∧ ev[j]? = some (some d)
  | [], h => ⟨by simp, h⟩
  | v :: vs, h => by
    unfold wipeE at h
    rcases set_get h with ⟨_, e⟩ | ⟨ne, e⟩
    · cases e
    · obtain ⟨h1, h2⟩ := wipeE_some e
      exact ⟨by simp [h1, ne], h2⟩
theorem wipe_out {σ : L2.St} {j : Nat} : ∀ {vs : List Nat}, j ∉ vs → (wipe σ vs)[j]? = σ[j]?
  | [], _ => rfl
  | v :: vs, h => by
    unfold wipe
    rw [List.getElem?_set_ne (fun z => h (by simp [z])), wipe_out fun z => h (List.mem_cons_of_mem _ z)]
theorem wipe_in {σ : L2.St} {j : Nat} : ∀ {vs : List Nat}, j ∈ vs → j < σ.length → (wipe σ vs)[j]? = some none
  | v :: vs, h, hl => by
    unfold wipe
    by_cases e : v = j
    · subst e
      exact List.getElem?_set_self (by rw [wipe_length]; exact hl)
    · rw [List.getElem?_set_ne e]
      exact wipe_in ((List.mem_cons.mp h).resolve_left fun z => e z.symm) hl
theorem wipe_eqo {σ σ' : L2.St} {sl vs : List Nat} (h : Eqo sl (wipe σ vs) σ') (hs : ∀ j ∈ sl, j ∈ vs) : wipe σ' vs = wipe σ vs := by
  have hl : σ'.length = σ.length := by rw [h.1, wipe_length]
  refine List.ext_getElem? fun j => ?_
  by_cases hj : j ∈ vs
  · by_cases hlt : j < σ.length
    · rw [wipe_in hj hlt, wipe_in hj (by omega)]
    · rw [List.getElem?_eq_none (by rw [wipe_length]; omega), List.getElem?_eq_none (by rw [wipe_length]; omega)]
  · rw [wipe_out hj, h.2 j fun z => hj (hs j z)]
theorem GR.wipe {K : PySem.W.Frag} {ca : Nat → Addr} {B0 H0 B H : Hp} {own vs : List Nat} {σ : L2.St} {ev : EnvG} (x : GR K ca B0 H0 own B H σ ev) : GR K ca B0 H0 own B H (wipe σ vs) (wipeE ev vs) where
  sub := x.sub
  b0 := x.b0
  h0 := x.h0
  cut := x.cut
  len := by rw [wipeE_len, wipe_length]; exact x.len
  loc := fun j d h e => by
    obtain ⟨h1, h2⟩ := wipeE_some e
    rw [wipe_out h1]
    exact x.loc j d h h2
  owns := fun j d h e => by
    obtain ⟨h1, h2⟩ := wipeE_some e
    rw [wipe_out h1]
    exact x.owns j d h h2
  apart := fun i j a d e h1 h2 q1 q2 q3 q4 => by
    obtain ⟨z1, z2⟩ := wipeE_some q1
    obtain ⟨y1, y2⟩ := wipeE_some q2
    rw [wipe_out z1] at q3
    rw [wipe_out y1] at q4
    exact x.apart i j a d e h1 h2 z2 y2 q3 q4
abbrev WF : WX := fun _ _ _ _ => False
abbrev GTs (X : Cx) (ca : Nat → Addr) (W : WX) (own : List Nat) (es : List Expr) (g : EnvG → Res Bool) : Prop := PTs X es (ccan X.K ca W own g)
def gYes : EnvG → Res Bool := fun _ => .ok true
section
variable {X : Cx} {ca : Nat → Addr} {W : WX} {own : List Nat} {pos : Pos}
theorem gts_nil : GTs X ca W own [] gYes := ⟨fun pins s σ H Q I ⟨B0, H0, B, ev, R, g⟩ => pts_nil.run pins s σ H Q I (g.ok true rfl B H (.refl R.sub))⟩
theorem gts_one {c : Expr} {t : EnvG → Res Bool} (h : GT X ca W own c t) : GTs X ca W own [c] t := pts_one h
theorem lcL_xc {set : D → EnvG → Option EnvG} {tt : EnvG → Res Bool} {te : EnvG → Res D} : ∀ {items : List D} {ev : EnvG} {c fs}, lcL set tt te items ev ≠ .xc c fs
  | [], _, _, _ => fun h => by cases h
  | d :: ds, ev, c, fs => fun h => by
    unfold lcL at h
    split at h
    · cases h
    · split at h
      · split at h
        · cases q : lcL set tt te ds ev with
          | ok ys => rw [q] at h; cases h
          | xc c' fs' => exact lcL_xc q
          | bad => rw [q] at h; cases h
        · cases h
      · exact lcL_xc h
      · cases h
theorem lc_use {elt tg iter : Expr} {ifs : List Expr} {scope : Scope} {vo : List (Str × Nat)} {gi : EnvG → Res (List D)} {set : D → EnvG → Option EnvG} {sl : List Nat} {tt : EnvG → Res Bool} {te : EnvG → Res D} (hsl : ∀ j ∈ sl, j ∈ vo.map (·.2))
    (σ : L2.St) (H : Hp) (Q : VK) (h : fcan X.K ca W own (gLc gi set tt te (vo.map (·.2))) σ H Q) : tLc (ican X.K ca W own gi) (tcan X.K ca own set sl) (ccan X.K ca WF own tt) (ecan X.K ca WF own te) (vo.map (·.2)) σ H Q := by
  obtain ⟨B0, H0, B, ev, R, k⟩ := h
  refine ⟨B0, H0, B, ev, R, k.bind.mono fun items ⟨_, k1⟩ J B1 H1 gr wk Da hD => ?_⟩
  obtain ⟨Gd, Y, wk, hG, hY⟩ := wk
  have k2 := k1.bind
  have hD0 : H Da = none := gr.h.free hD
  have hDB : B1 Da = none := gr.s.free hD
  cases q : lcL set tt te items (wipeE ev (vo.map (·.2))) with
  | bad => exact absurd q k2.nb
  | xc c fs => exact absurd q lcL_xc
  | ok ds =>
  obtain ⟨_, k3⟩ := k2.ok ds q
  obtain ⟨hl, k4⟩ := gets_if k3
  have fin := k4.ok _ rfl ds rfl
  refine lc_it wk (fun i H' => ∃ B' acc accd tl, Grow B1 H1 B' H' ∧ B' Da = none ∧ H' Da = some (.lst acc) ∧ RepL X.K ca B' acc accd ∧ lcL set tt te (items.drop i) (wipeE ev (vo.map (·.2))) = .ok tl ∧ accd ++ tl = ds)
    ⟨B1, [], [], ds, Grow.newH gr.s hD, hDB, upd_same, .nil, q, rfl⟩ (fun i H' _ ⟨B', _, _, _, g1, _⟩ => hG B' H' g1.b g1.s) (fun i x H' H2 hi ⟨B', acc, accd, tl, g1, hb, hh, ra, hq, he⟩ y => ?_) (fun H' ⟨B', acc, accd, tl, g1, hb, hh, ra, hq, he⟩ => ?_)
  · obtain ⟨B2, d, gr2, ei, rx⟩ := hY i H' x H2 B' hi y g1.b g1.s
    have g2 : Grow B1 H1 B2 H2 := g1.trans gr2
    have ed : items.drop i = d :: items.drop (i + 1) := by
      rw [List.drop_eq_getElem_cons hi]
      rw [List.getElem?_eq_getElem hi] at ei
      rw [Option.some.inj ei]
    rw [ed] at hq
    unfold lcL at hq
    cases qs : set d (wipeE ev (vo.map (·.2))) with
    | none => rw [qs] at hq; cases hq
    | some ev1 =>
      rw [qs] at hq
      dsimp only at hq
      have R2 : GR X.K ca B0 H0 own B2 H2 (wipe σ (vo.map (·.2))) (wipeE ev (vo.map (·.2))) := (R.grow (gr.trans g2)).wipe
      refine ⟨B0, H0, B2, _, d, ev1, R2, rx, qs, fun σ2 R3 eq => ⟨wipe_eqo eq hsl, ?_⟩⟩
      have hb2 : B2 Da = none := gr2.c Da (by rw [hh]; exact fun z => by cases z) hb
      have hh2 : H2 Da = some (.lst acc) := gr2.h _ _ hh
      cases qt : tt ev1 with
      | bad => rw [qt] at hq; cases hq
      | xc c fs => rw [qt] at hq; cases hq
      | ok b =>
        refine ccan_mk R3 ⟨fun z => (by rw [qt] at z; cases z), fun b' eb B3 H3 gr3 => ?_, fun c fs eb => (by rw [qt] at eb; cases eb)⟩
        rw [qt] at eb hq
        cases eb
        have g3 : Grow B1 H1 B3 H3 := g2.trans gr3
        have hb3 : B3 Da = none := gr3.c Da (by rw [hh2]; exact fun z => by cases z) hb2
        have hh3 : H3 Da = some (.lst acc) := gr3.h _ _ hh2
        have ra3 : RepL X.K ca B3 acc accd := (ra.mono gr2.b).mono gr3.b
        cases b with
        | false => exact ⟨B3, acc, accd, tl, g3, hb3, hh3, ra3, hq, he⟩
        | true =>
          dsimp only at hq
          rw [if_pos rfl]
          cases qe : te ev1 with
          | bad => rw [qe] at hq; cases hq
          | xc c fs => rw [qe] at hq; cases hq
          | ok y =>
            rw [qe] at hq
            dsimp only at hq
            refine ecan_mk (R3.grow gr3) ⟨fun z => (by rw [qe] at z; cases z), fun y' ey v B4 H4 gr4 r4 => ?_, fun c fs eb => (by rw [qe] at eb; cases eb)⟩
            rw [qe] at ey
            cases ey
            cases qr : lcL set tt te (items.drop (i + 1)) (wipeE ev (vo.map (·.2))) with
            | bad => rw [qr] at hq; cases hq
            | xc c fs => rw [qr] at hq; cases hq
            | ok tl' =>
              rw [qr] at hq
              cases hq
              have g4 : Grow B1 H1 B4 H4 := g3.trans gr4
              have hb4 : B4 Da = none := gr4.c Da (by rw [hh3]; exact fun z => by cases z) hb3
              have ra4 : RepL X.K ca B4 acc accd := ra3.mono gr4.b
              have hlen : accd.length + (tl'.length + 1) = ds.length := by rw [← he, List.length_append, List.length_cons]
              refine ⟨acc, gr4.h _ _ hh3, by rw [ra4.length, line_eq]; omega, B4, acc ++ [v], accd ++ [y], tl', ⟨g4.b, fun b o e => ?_, g4.c, fun b o e => ?_⟩, hb4, upd_same, ra4.append (.cons r4 .nil), by first | exact qr | rfl, by rw [← he]; simp⟩
              · rw [upd_ne (ne_of_none e hD)]
                exact g4.h b o e
              · rw [upd_ne (ne_of_none e hb4)]
                exact g4.s b o e
  · rw [List.drop_of_length_le (Nat.le_refl _)] at hq
    cases hq
    rw [List.append_nil] at he
    subst he
    exact fin Da acc B' H' (gr.trans g1) hD0 hb hh ra
theorem gf_lc {elt tg iter : Expr} {ifs : List Expr} {scope : Scope} {vo : List (Str × Nat)} {gi : EnvG → Res (List D)} {set : D → EnvG → Option EnvG} {sl : List Nat} {tt : EnvG → Res Bool} {te : EnvG → Res D} (hc : X.calm = true) (hN : X.N.Nodup) (hi : GI X ca W own tg iter gi)
    (ok : BlkOk X.N X.env.scope scope vo) (hsl : ∀ j ∈ sl, j ∈ vo.map (·.2))
    (hg : ∀ (s : Shared) (H : Hp) (C : Addr) (cl : List (Str × Addr)) (fp : List Addr), GG (X.blk s H scope (compEnvC scope cl C X.env) fp) ca own tg set sl)
    (ht : ∀ (s : Shared) (H : Hp) (C : Addr) (cl : List (Str × Addr)) (fp : List Addr), GTs (X.blk s H scope (compEnvC scope cl C X.env) fp) ca WF own ifs tt)
    (he : ∀ (s : Shared) (H : Hp) (C : Addr) (cl : List (Str × Addr)) (fp : List Addr), GE (X.blk s H scope (compEnvC scope cl C X.env) fp) ca WF own elt te)
    (hs : ∀ x, foldedSetIterable iter X.env x = pure x := by intro _; rfl) :
    GF X ca W own (.ListComp elt [⟨tg, iter, ifs, 0⟩] scope pos) (gLc gi set tt te (vo.map (·.2))) :=
  (pe_lc (g := tcan X.K ca own set sl) (tt := ccan X.K ca WF own tt) (te := ecan X.K ca WF own te) hc hN hi ok hg ht he hs).conv (lc_use (elt := elt) (tg := tg) (iter := iter) (ifs := ifs) (scope := scope) hsl)
/-- name = [..] on one line -/
theorem gs_setLc (i : Nat) {own' ob : List Nat} {elt tg iter : Expr} {ifs : List Expr} {scope : Scope} {vo : List (Str × Nat)} {gi : EnvG → Res (List D)} {set : D → EnvG → Option EnvG} {sl : List Nat} {tt : EnvG → Res Bool} {te : EnvG → Res D} {y : Str} {py spos : Pos} (hc : X.calm = true) (hN : X.N.Nodup)
    (hi : GI X ca W own tg iter gi) (ok : BlkOk X.N X.env.scope scope vo) (hsl : ∀ j ∈ sl, j ∈ vo.map (·.2))
    (hg : ∀ (s : Shared) (H : Hp) (C : Addr) (cl : List (Str × Addr)) (fp : List Addr), GG (X.blk s H scope (compEnvC scope cl C X.env) fp) ca own tg set sl)
    (ht : ∀ (s : Shared) (H : Hp) (C : Addr) (cl : List (Str × Addr)) (fp : List Addr), GTs (X.blk s H scope (compEnvC scope cl C X.env) fp) ca WF own ifs tt)
    (he : ∀ (s : Shared) (H : Hp) (C : Addr) (cl : List (Str × Addr)) (fp : List Addr), GE (X.blk s H scope (compEnvC scope cl C X.env) fp) ca WF own elt te)
    (ho : i :: own.filter (fun z => !decide (z = i)) = own' := by rfl) (hy : X.N[i]? = some y := by rfl) (hyl : X.env.scope.names.lookup y = some .local := by rfl)
    (hsw : swapsWith (.ListComp elt [⟨tg, iter, ifs, 0⟩] scope pos) (some (.Name y py)) spos.line X.env = pure true := by exact sw_true rfl rfl rfl (by decide +kernel))
    (hs : ∀ x, foldedSetIterable iter X.env x = pure x := by intro _; rfl) :
    GS X ca W own own' ob (.Assign [.Name y py] (.ListComp elt [⟨tg, iter, ifs, 0⟩] scope pos) spos) (sSet i (gLc gi set tt te (vo.map (·.2)))) := by
  subst ho
  refine (ps_setLc (g := tcan X.K ca own set sl) (tt := ccan X.K ca WF own tt) (te := ecan X.K ca WF own te) hc hN hy hyl hsw hi ok hg ht he hs).conv fun D σ H ⟨B0, H0, B, ev, R, s⟩ => ?_
  refine lc_use (elt := elt) (tg := tg) (iter := iter) (ifs := ifs) (scope := scope) hsl σ H _ (fcan_mk R ((SEnd.out s R).mono fun d ⟨_, s1⟩ ds ed a xs B' H' gr hn hb hh r => ?_))
  subst ed
  exact s1.nx _ rfl _ B' H' (R.setOwn gr hn hb hh r)
end
end GL

namespace GL
open PySem PySem.Spec PyProof.Rows L2

/-! ### operators by deep values -/
abbrev line : Nat := 16777216
def opAdd : D → D → Option D
  | .int i, .int j => some (.int (i + j))
  | .lst xs, .lst ys => if xs.length + ys.length ≤ line then some (.lst (xs ++ ys)) else none
  | .str x, .str y => if x.length + y.length ≤ line then some (.str (x ++ y)) else none
  | _, _ => none
def opSub : D → D → Option D
  | .int i, .int j => some (.int (i - j))
  | _, _ => none
def mulOk (i j : Int) : Prop := ((-(2 ^ 64) < i ∧ i < 2 ^ 64) ∨ (-(2 ^ 64) < j ∧ j < 2 ^ 64)) ∨ i.natAbs.log2 + j.natAbs.log2 < 1000000
noncomputable instance (i j : Int) : Decidable (mulOk i j) := Classical.propDecidable _
def repOk (n : Nat) (k : Int) : Prop := -(2 ^ 63) ≤ k ∧ k < 2 ^ 63 ∧ n * k.toNat ≤ line
noncomputable instance (n : Nat) (k : Int) : Decidable (repOk n k) := Classical.propDecidable _
def powOk (i j : Int) : Prop := 0 ≤ j ∧ j ≤ 1000000 ∧ i.natAbs < 2 ^ 64
noncomputable instance (i j : Int) : Decidable (powOk i j) := Classical.propDecidable _
noncomputable def opMul : D → D → Option D
  | .int i, .int j => if mulOk i j then some (.int (i * j)) else none
  | .lst xs, .int k => if repOk xs.length k then some (.lst (List.replicate k.toNat xs).flatten) else none
  | _, _ => none
def opDiv : D → D → Option D
  | .int i, .int j => if j ≠ 0 ∧ j.natAbs.log2 < 9000 then some (.int (i.fdiv j)) else none
  | _, _ => none
def opMod : D → D → Option D
  | .int i, .int j => if j ≠ 0 then some (.int (i.fmod j)) else none
  | _, _ => none
noncomputable def opPow : D → D → Option D
  | .int i, .int j => if powOk i j then some (.int (i ^ j.toNat)) else none
  | _, _ => none
noncomputable def opShl : D → D → Option D
  | .int i, .int j => if powOk i j then some (.int (i * 2 ^ j.toNat)) else none
  | _, _ => none
def opShr : D → D → Option D
  | .int i, .int j => if 0 ≤ j then some (.int (i / 2 ^ j.toNat)) else none
  | _, _ => none
def opAnd : D → D → Option D
  | .int i, .int j => some (.int (Builtin.bitAnd i j))
  | _, _ => none
def opOr : D → D → Option D
  | .int i, .int j => some (.int (Builtin.bitOr i j))
  | _, _ => none
def opLt : D → D → Option D
  | .int i, .int j => some (.bl (decide (i < j)))
  | _, _ => none
def opLe : D → D → Option D
  | .int i, .int j => some (.bl (decide (i ≤ j)))
  | _, _ => none
def opGt : D → D → Option D
  | .int i, .int j => some (.bl (decide (j < i)))
  | _, _ => none
def opGe : D → D → Option D
  | .int i, .int j => some (.bl (decide (j ≤ i)))
  | _, _ => none
mutual
def toPy : D → Option PyData
  | .non => some .none
  | .bl b => some (.bool b)
  | .int i => some (.int i)
  | .str x => some (.str x)
  | .lst xs => (toPyL xs).map .list
  | .tup xs => (toPyL xs).map .tuple
  | .scr _ => none
  | .obj _ _ => none
  | .exc _ _ => none
  | .own _ _ _ => none
def toPyL : List D → Option (List PyData)
  | [] => some []
  | x :: xs => (toPy x).bind fun d => (toPyL xs).map fun ds => d :: ds
end
def eqB (x y : D) : Option Bool := match toPy x, toPy y with
  | some d, some e => if SeqAt.shaped d = true ∧ SeqAt.shaped e = true then some (PyData.eqv d e) else none
  | _, _ => none
def opEq (x y : D) : Option D := (eqB x y).map .bl
def opNe (x y : D) : Option D := (eqB x y).map fun b => .bl (!b)
def isNon : D → Bool
  | .non => true
  | _ => false
def opIs : D → D → Option D
  | x, .non => some (.bl (isNon x))
  | .bl a, .bl b => some (.bl (decide (a = b)))
  | _, _ => none
def opIsN : D → D → Option D
  | x, .non => some (.bl (!isNon x))
  | .bl a, .bl b => some (.bl (!decide (a = b)))
  | _, _ => none
def opNeg : D → Option D
  | .int i => some (.int (-i))
  | _ => none
mutual
theorem dp_of {K : PySem.W.Frag} {ca : Nat → Addr} {B : Hp} : ∀ (x : D) {v : V} {d : PyData}, Rep K ca B v x → toPy x = some d → Dp K B v d
  | .non, _, _, r, e => by cases r; unfold toPy at e; cases e; exact .non
  | .bl b, _, _, r, e => by cases r; unfold toPy at e; cases e; exact .bl b
  | .int b, _, _, r, e => by cases r; unfold toPy at e; cases e; exact .int b
  | .str b, _, _, r, e => by cases r; unfold toPy at e; cases e; exact .str b
  | .lst xs, _, _, r, e => by
    cases r with
    | lst h t =>
      unfold toPy at e
      cases q : toPyL xs with
      | none => rw [q] at e; cases e
      | some ds => rw [q] at e; cases e; exact .lst (.inl (.inl h)) (dpL_of xs t q)
  | .tup xs, _, _, r, e => by
    cases r with
    | tup h t =>
      unfold toPy at e
      cases q : toPyL xs with
      | none => rw [q] at e; cases e
      | some ds => rw [q] at e; cases e; exact .tup (.inl (.inl h)) (dpL_of xs t q)
  | .scr _, _, _, _, e => by unfold toPy at e; cases e
  | .obj _ _, _, _, _, e => by unfold toPy at e; cases e
  | .exc _ _, _, _, _, e => by unfold toPy at e; cases e
  | .own _ _ _, _, _, _, e => by unfold toPy at e; cases e
theorem dpL_of {K : PySem.W.Frag} {ca : Nat → Addr} {B : Hp} : ∀ (xs : List D) {vs : List V} {ds : List PyData}, RepL K ca B vs xs → toPyL xs = some ds → DpAll K B vs ds
  | [], _, _, r, e => by cases r; unfold toPyL at e; cases e; exact .nil
  | x :: xs, _, _, r, e => by
    cases r with
    | cons h t =>
      unfold toPyL at e
      cases q : toPy x with
      | none => rw [q] at e; cases e
      | some d =>
        rw [q] at e
        cases q2 : toPyL xs with
        | none => rw [q2] at e; cases e
        | some ds => rw [q2] at e; cases e; exact .cons (dp_of x h q) (dpL_of xs t q2)
end
section
variable {X : Cx} {ca : Nat → Addr}
/-- ints -/
theorem os_int {f : D → D → Option D} {g : Int → Int → V} {G : Int → Int → D} {C : Int → Int → Prop} (hf : ∀ x y d, f x y = some d → ∃ i j, x = .int i ∧ y = .int j ∧ C i j ∧ d = G i j) (hr : ∀ i j B, Rep X.K ca B (g i j) (G i j)) : OpS X ca (rI C g) f := by
  intro x y dx dy d B H Q s rx ry e k
  obtain ⟨i, j, rfl, rfl, hc, rfl⟩ := hf _ _ _ e
  exact ⟨i, j, rep_int rx, rep_int ry, hc, k _ B H (.refl s) (hr i j B)⟩
theorem os_int0 {f : D → D → Option D} {g : Int → Int → V} {G : Int → Int → D} (hf : ∀ x y d, f x y = some d → ∃ i j, x = .int i ∧ y = .int j ∧ d = G i j) (hr : ∀ i j B, Rep X.K ca B (g i j) (G i j)) : OpS X ca (rI0 g) f := by
  intro x y dx dy d B H Q s rx ry e k
  obtain ⟨i, j, rfl, rfl, rfl⟩ := hf _ _ _ e
  exact ⟨i, j, rep_int rx, rep_int ry, k _ B H (.refl s) (hr i j B)⟩
theorem os_sub : OpS X ca (rI0 fun i j => .int (i - j)) opSub := os_int0 (G := fun i j => .int (i - j)) (fun x y d e => by unfold opSub at e; split at e <;> cases e; exact ⟨_, _, rfl, rfl, rfl⟩) fun _ _ _ => .int _
theorem os_lt : OpS X ca (rI0 fun i j => .bl (decide (i < j))) opLt := os_int0 (G := fun i j => .bl (decide (i < j))) (fun x y d e => by unfold opLt at e; split at e <;> cases e; exact ⟨_, _, rfl, rfl, rfl⟩) fun _ _ _ => .bl _
theorem os_le : OpS X ca (rI0 fun i j => .bl (decide (i ≤ j))) opLe := os_int0 (G := fun i j => .bl (decide (i ≤ j))) (fun x y d e => by unfold opLe at e; split at e <;> cases e; exact ⟨_, _, rfl, rfl, rfl⟩) fun _ _ _ => .bl _
theorem os_gt : OpS X ca (rI0 fun i j => .bl (decide (j < i))) opGt := os_int0 (G := fun i j => .bl (decide (j < i))) (fun x y d e => by unfold opGt at e; split at e <;> cases e; exact ⟨_, _, rfl, rfl, rfl⟩) fun _ _ _ => .bl _
theorem os_ge : OpS X ca (rI0 fun i j => .bl (decide (j ≤ i))) opGe := os_int0 (G := fun i j => .bl (decide (j ≤ i))) (fun x y d e => by unfold opGe at e; split at e <;> cases e; exact ⟨_, _, rfl, rfl, rfl⟩) fun _ _ _ => .bl _
theorem os_and : OpS X ca (rI0 fun i j => .int (Builtin.bitAnd i j)) opAnd := os_int0 (G := fun i j => .int (Builtin.bitAnd i j)) (fun x y d e => by unfold opAnd at e; split at e <;> cases e; exact ⟨_, _, rfl, rfl, rfl⟩) fun _ _ _ => .int _
theorem os_or : OpS X ca (rI0 fun i j => .int (Builtin.bitOr i j)) opOr := os_int0 (G := fun i j => .int (Builtin.bitOr i j)) (fun x y d e => by unfold opOr at e; split at e <;> cases e; exact ⟨_, _, rfl, rfl, rfl⟩) fun _ _ _ => .int _
theorem if_some {α : Type} {c : Prop} [Decidable c] {x d : α} (h : (if c then some x else none) = some d) : c ∧ d = x := by
  by_cases q : c
  · rw [if_pos q] at h; exact ⟨q, (Option.some.inj h).symm⟩
  · rw [if_neg q] at h; cases h
theorem os_mod : OpS X ca (rI (fun _ j => j ≠ 0) fun i j => .int (i.fmod j)) opMod := os_int (G := fun i j => .int (i.fmod j)) (fun x y d e => by
  unfold opMod at e; split at e
  · obtain ⟨h, rfl⟩ := if_some e; exact ⟨_, _, rfl, rfl, h, rfl⟩
  · cases e) fun _ _ _ => .int _
def CDivZ (_ j : Int) : Prop := j ≠ 0 ∧ j.natAbs.log2 < 9000
theorem op_fdivZ : OpR X (binaryOp .FloorDiv) (rI CDivZ fun i j => .int (i.fdiv j)) := opI fun i j _ _ _ _ _ hc q => floordiv_int hc.1 q (.inl (PyProof.noPylong_of_log2 hc.2))
theorem os_div : OpS X ca (rI CDivZ fun i j => .int (i.fdiv j)) opDiv := os_int (G := fun i j => .int (i.fdiv j)) (fun x y d e => by
  unfold opDiv at e; split at e
  · obtain ⟨h, rfl⟩ := if_some e; exact ⟨_, _, rfl, rfl, h, rfl⟩
  · cases e) fun _ _ _ => .int _
theorem os_pow : OpS X ca (rI CPow fun i j => .int (i ^ j.toNat)) opPow := os_int (G := fun i j => .int (i ^ j.toNat)) (fun x y d e => by
  unfold opPow at e; split at e
  · obtain ⟨h, rfl⟩ := if_some e; exact ⟨_, _, rfl, rfl, h, rfl⟩
  · cases e) fun _ _ _ => .int _
theorem os_shl : OpS X ca (rI CPow fun i j => .int (i * 2 ^ j.toNat)) opShl := os_int (G := fun i j => .int (i * 2 ^ j.toNat)) (fun x y d e => by
  unfold opShl at e; split at e
  · obtain ⟨h, rfl⟩ := if_some e; exact ⟨_, _, rfl, rfl, h, rfl⟩
  · cases e) fun _ _ _ => .int _
theorem os_shr : OpS X ca (rI (fun _ j => 0 ≤ j) fun i j => .int (i / 2 ^ j.toNat)) opShr := os_int (G := fun i j => .int (i / 2 ^ j.toNat)) (fun x y d e => by
  unfold opShr at e; split at e
  · obtain ⟨h, rfl⟩ := if_some e; exact ⟨_, _, rfl, rfl, h, rfl⟩
  · cases e) fun _ _ _ => .int _

/-! ### +, * of lists and texts -/
def rAddA : R2 := fun x y H Q => (rI0 (fun i j => .int (i + j)) x y H Q ∨ (∃ i j, x = .str i ∧ y = .str j ∧ i.length + j.length ≤ sizeLine ∧ Q (.str (i ++ j)) H)) ∨ rCat x y H Q
theorem op_addA : OpR X (binaryOp .Add) rAddA := (op_add.or op_add_str).or op_cat
theorem iop_addA : OpR X (inplaceOp .Add) (fun x y H Q => rI0 (fun i j => .int (i + j)) x y H Q ∨ (∃ i j, x = .str i ∧ y = .str j ∧ i.length + j.length ≤ sizeLine ∧ Q (.str (i ++ j)) H)) := iop_add.or iop_add_str
theorem os_add : OpS X ca rAddA opAdd := by
  intro x y dx dy d B H Q s rx ry e k
  unfold opAdd at e
  split at e
  · cases e
    exact .inl (.inl ⟨_, _, rep_int rx, rep_int ry, k _ B H (.refl s) (.int _)⟩)
  · obtain ⟨hl, rfl⟩ := if_some e
    cases rx with
    | lst h1 t1 =>
      cases ry with
      | lst h2 t2 =>
        refine .inr ⟨_, _, _, _, rfl, rfl, s _ _ h1, s _ _ h2, by rw [t1.length, t2.length]; exact hl, fun p hp => ?_⟩
        exact k _ _ _ (Grow.newB s hp) (.lst upd_same ((t1.append t2).mono (Grow.newB s hp).b))
  · obtain ⟨hl, rfl⟩ := if_some e
    exact .inl (.inr ⟨_, _, rep_str rx, rep_str ry, hl, k _ B H (.refl s) (.str _)⟩)
  · cases e
def opIAdd : D → D → Option D
  | .int i, .int j => some (.int (i + j))
  | .str x, .str y => if x.length + y.length ≤ line then some (.str (x ++ y)) else none
  | _, _ => none
theorem ois_add : OpS X ca (fun x y H Q => rI0 (fun i j => .int (i + j)) x y H Q ∨ (∃ i j, x = .str i ∧ y = .str j ∧ i.length + j.length ≤ sizeLine ∧ Q (.str (i ++ j)) H)) opIAdd := by
  intro x y dx dy d B H Q s rx ry e k
  unfold opIAdd at e
  split at e
  · cases e
    exact .inl ⟨_, _, rep_int rx, rep_int ry, k _ B H (.refl s) (.int _)⟩
  · obtain ⟨hl, rfl⟩ := if_some e
    exact .inr ⟨_, _, rep_str rx, rep_str ry, hl, k _ B H (.refl s) (.str _)⟩
  · cases e
def rMulA : R2 := fun x y H Q => (rI CMul (fun i j => .int (i * j)) x y H Q ∨ rI CMulW (fun i j => .int (i * j)) x y H Q) ∨ rRep x y H Q
theorem op_mulA : OpR X (binaryOp .Mult) rMulA := (op_mul.or op_mulW).or op_rep
theorem os_mul : OpS X ca rMulA opMul := by
  intro x y dx dy d B H Q s rx ry e k
  unfold opMul at e
  split at e
  · obtain ⟨hl, rfl⟩ := if_some e
    rcases hl with hl | hl
    · exact .inl (.inl ⟨_, _, rep_int rx, rep_int ry, hl, k _ B H (.refl s) (.int _)⟩)
    · exact .inl (.inr ⟨_, _, rep_int rx, rep_int ry, hl, k _ B H (.refl s) (.int _)⟩)
  · obtain ⟨⟨h1, h2, h3⟩, rfl⟩ := if_some e
    cases rx with
    | lst hx t1 =>
      refine .inr ⟨_, _, _, rfl, rep_int ry, s _ _ hx, h1, h2, by rw [t1.length]; exact h3, fun p hp => ?_⟩
      exact k _ _ _ (Grow.newB s hp) (.lst upd_same ((t1.rep _).mono (Grow.newB s hp).b))
  · cases e
theorem os_eq : OpS X ca (rEqD X.K) opEq := by
  intro x y dx dy d B H Q s rx ry e k
  unfold opEq eqB at e
  cases q1 : toPy dx with
  | none => rw [q1] at e; cases e
  | some a =>
    rw [q1] at e
    cases q2 : toPy dy with
    | none => rw [q2] at e; cases e
    | some b =>
      rw [q2] at e
      dsimp only at e
      by_cases h : SeqAt.shaped a = true ∧ SeqAt.shaped b = true
      · rw [if_pos h] at e
        cases e
        exact ⟨a, b, dp_of dx (rx.mono s) q1, dp_of dy (ry.mono s) q2, h.1, h.2, k _ B H (.refl s) (.bl _)⟩
      · rw [if_neg h] at e; cases e
theorem os_ne : OpS X ca (rNeD X.K) opNe := by
  intro x y dx dy d B H Q s rx ry e k
  unfold opNe eqB at e
  cases q1 : toPy dx with
  | none => rw [q1] at e; cases e
  | some a =>
    rw [q1] at e
    cases q2 : toPy dy with
    | none => rw [q2] at e; cases e
    | some b =>
      rw [q2] at e
      dsimp only at e
      by_cases h : SeqAt.shaped a = true ∧ SeqAt.shaped b = true
      · rw [if_pos h] at e
        cases e
        exact ⟨a, b, dp_of dx (rx.mono s) q1, dp_of dy (ry.mono s) q2, h.1, h.2, k _ B H (.refl s) (.bl _)⟩
      · rw [if_neg h] at e; cases e
theorem rep_isN {K : PySem.W.Frag} {B : Hp} {v : V} {d : D} (r : Rep K ca B v d) : decide (v = .non) = isNon d := by
  cases r <;> first | rfl | exact decide_eq_false (fun z => by cases z)
def rIsA : R2 := fun x y H Q => (y = .non ∧ Q (.bl (decide (x = .non))) H) ∨ rIsB x y H Q
theorem op_isA : OpR X (compareOp .Is) rIsA := OpR.or op_isN op_isBl
def rNotA : R2 := fun x y H Q => (y = .non ∧ Q (.bl (!decide (x = .non))) H) ∨ rNotB x y H Q
theorem op_isnA : OpR X (compareOp .IsNot) rNotA := OpR.or op_notN op_notBl
theorem os_is : OpS X ca rIsA opIs := by
  intro x y dx dy d B H Q s rx ry e k
  unfold opIs at e
  split at e
  · cases e
    refine .inl ⟨rep_non ry, ?_⟩
    rw [rep_isN rx]
    exact k _ B H (.refl s) (.bl _)
  · cases e
    exact .inr ⟨_, _, rep_bl rx, rep_bl ry, k _ B H (.refl s) (.bl _)⟩
  · cases e
theorem os_isn : OpS X ca rNotA opIsN := by
  intro x y dx dy d B H Q s rx ry e k
  unfold opIsN at e
  split at e
  · cases e
    refine .inl ⟨rep_non ry, ?_⟩
    rw [rep_isN rx]
    exact k _ B H (.refl s) (.bl _)
  · cases e
    exact .inr ⟨_, _, rep_bl rx, rep_bl ry, k _ B H (.refl s) (.bl _)⟩
  · cases e
theorem us_neg : UnS X ca (rU fun i => .int (-i)) opNeg := by
  intro x dx d B H Q s rx e k
  unfold opNeg at e
  split at e
  · cases e
    exact ⟨_, rep_int rx, k _ B H (.refl s) (.int _)⟩
  · cases e

/-! ### subscripts -/
def opIx : D → D → Option D
  | .lst xs, .int i => atI xs i
  | .scr xs, .int i => atI xs i
  | .tup xs, .int i => atI xs i
  | .str z, .int i => if z.length ≤ line then (atI z.cps.toList i).map fun c => .str ⟨#[c]⟩ else none
  | _, _ => none
theorem atI_rep {K : PySem.W.Frag} {B : Hp} {vs : List V} {ds : List D} {i : Int} {d : D} (r : RepL K ca B vs ds) (h : atI ds i = some d) : ∃ v, atI vs i = some v ∧ Rep K ca B v d := by
  unfold atI at h ⊢
  rw [r.length]
  cases q : ixN ds.length i with
  | none => rw [q] at h; cases h
  | some j =>
    rw [q] at h
    exact r.get h
theorem os_ix : OpS X ca (rIx X.K) opIx := by
  intro x y dx dy d B H Q s rx ry e k
  unfold opIx at e
  split at e
  · cases rx with
    | lst h t =>
      obtain ⟨v, h1, h2⟩ := atI_rep t e
      exact .inl ⟨_, _, _, v, rfl, rep_int ry, .inl (.inl (s _ _ h)), h1, k _ B H (.refl s) h2⟩
  · cases rx with
    | scr h t =>
      obtain ⟨v, h1, h2⟩ := atI_rep t e
      exact .inl ⟨_, _, _, v, rfl, rep_int ry, s.seq h, h1, k _ B H (.refl s) h2⟩
  · cases rx with
    | tup h t =>
      obtain ⟨v, h1, h2⟩ := atI_rep t e
      exact .inr (.inl ⟨_, _, _, v, rfl, rep_int ry, .inl (.inl (s _ _ h)), h1, k _ B H (.refl s) h2⟩)
  · by_cases hz : ‹Str›.length ≤ line
    · rw [if_pos hz] at e
      obtain ⟨c, hc, rfl⟩ := Option.map_eq_some_iff.mp e
      exact .inr (.inr ⟨_, _, c, rep_str rx, rep_int ry, hz, hc, k _ B H (.refl s) (.str _)⟩)
    · rw [if_neg hz] at e; cases e
  · cases e
end
section
variable {X : Cx} {ca : Nat → Addr} {W : WX} {own : List Nat} {pos : Pos} {a b e : Expr} {ga gb : EnvG → Res D}
theorem ge_ix (ha : GE X ca W own a ga) (hb : GE X ca W own b gb) (hs : PlainIx b := by exact fun _ _ => rfl) : GE X ca W own (.Subscript a b pos) (gOp opIx ga gb) := ge_opR os_ix ha hb (pe_ix ix_seq ha hb hs)
/-- one's own list's item -/
theorem ge_ixO (i : Nat) {x : Str} {p : Pos} (hv : PE X (.Name x p) (tVar i)) (hi : i ∈ own) (hb : GE X ca W own b gb) (hs : PlainIx b := by exact fun _ _ => rfl) : GE X ca W own (.Subscript (.Name x p) b pos) (gOp opIx (gVar i) gb) := by
  refine (pe_ix ix_list hv hb hs).conv fun σ H Q ⟨B0, H0, B, ev, R, g⟩ => ?_
  have g1 := g.bind
  obtain ⟨d, e1, e2⟩ := lk_cases g1.nb
  obtain ⟨al, o, h1, h3, h4, h5, h6⟩ := R.owns i d hi e1
  obtain ⟨_, g2⟩ := g1.ok _ e2
  refine ⟨_, h1, ecan_mk R (g2.bind.mono fun dy ⟨_, g3⟩ u B1 H1 gr1 r1 => ?_)⟩
  obtain ⟨d, e3, k⟩ := gets_ofO g3
  cases h6 with
  | obj _ => cases e3
  | lst h6 =>
  cases dy with
  | int j =>
    have e3 : atI _ j = some d := e3
    obtain ⟨v, z1, z2⟩ := atI_rep (h6.mono gr1.b) e3
    exact ⟨_, _, _, v, rfl, rep_int r1, .inl (.inl (gr1.h _ _ h5)), z1, k _ _ _ gr1 z2⟩
  | _ => cases e3
end
end GL

namespace GL
open PySem PySem.Spec PyProof.Rows L2
/-! ### what is walked -/
def asL : D → Res (List D)
  | .lst xs => .ok xs
  | .scr xs => .ok xs
  | _ => .bad
def iLst (g : EnvG → Res D) : EnvG → Res (List D) := fun ev => (g ev).bind asL
def rangeD (lo : Int) (n : Nat) (c : Int) : List D := (List.range n).map fun i => .int (lo + (i : Nat) * c)
def small62 (i : Int) : Prop := -4611686018427387904 ≤ i ∧ i < 4611686018427387904
noncomputable instance (i : Int) : Decidable (small62 i) := Classical.propDecidable _
noncomputable def iRange1 : List D → Res (List D)
  | [.int n] => if small62 n then .ok (rangeD 0 n.toNat 1) else .bad
  | _ => .bad
noncomputable def iRange2 : List D → Res (List D)
  | [.int a, .int b] => if small62 a ∧ small62 b then .ok (rangeD a (b - a).toNat 1) else .bad
  | _ => .bad
def enumD (xs : List D) : List D := (List.range xs.length).zipWith (fun i x => .tup [.int (i : Nat), x]) xs
def zipD (xs ys : List D) : List D := xs.zipWith (fun x y => .tup [x, y]) ys
def iEnumD : List D → Res (List D)
  | [d] => (asL d).map enumD
  | _ => .bad
def iZipD : List D → Res (List D)
  | [d, e] => (asL d).bind fun xs => (asL e).map fun ys => zipD xs ys
  | _ => .bad
def iRevD : List D → Res (List D)
  | [d] => (asL d).map List.reverse
  | _ => .bad
def iA (f : List D → Res (List D)) (ga : EnvG → Res (List D)) : EnvG → Res (List D) := fun ev => (ga ev).bind f
section
variable {X : Cx} {ca : Nat → Addr} {W : WX} {own : List Nat} {pos p tpos : Pos} {e : Expr} {g : EnvG → Res D} {tg : Expr} {ga : EnvG → Res (List D)}
theorem rangeD_len (lo : Int) (n : Nat) (c : Int) : (rangeD lo n c).length = n := by unfold rangeD; rw [List.length_map, List.length_range]
theorem rangeD_get {lo : Int} {n i : Nat} {c : Int} (h : i < n) : (rangeD lo n c)[i]? = some (.int (lo + (i : Nat) * c)) := by
  unfold rangeD
  rw [List.getElem?_map, List.getElem?_range h]
  rfl
theorem Res.bind_okr {α : Type} (r : Res α) : r.bind Res.ok = r := by cases r <;> rfl
theorem asL_rep {K : PySem.W.Frag} {B : Hp} {v : V} {d : D} {β : Type} {f : List D → Res β} {W' : Value → Option Addr → Hp → Prop} {Q : β → Prop} {B' H' : Hp} (r : Rep K ca B v d) (g : Gets K ca B' H' ((asL d).bind f) W' Q) :
    ∃ a xs ds, v = .ref a ∧ SqL K B a xs ∧ RepL K ca B xs ds ∧ Gets K ca B' H' (f ds) W' Q := by
  cases d with
  | lst ds => cases r with
    | lst h t => exact ⟨_, _, ds, rfl, .inl (.inl h), t, g⟩
  | scr ds => cases r with
    | scr h t => exact ⟨_, _, ds, rfl, h, t, g⟩
  | _ => exact absurd rfl g.nb
theorem gi_list (h : GE X ca W own e g) : GI X ca W own tg e (iLst g) := by
  refine (pi_list h).conv fun σ H R' ⟨B0, H0, B, ev, R, k⟩ => ecan_mk R (k.bind.mono fun d ⟨_, k1⟩ v B1 H1 gr1 r1 => ?_)
  rw [← Res.bind_okr (asL d)] at k1
  obtain ⟨a, xs, ds, rfl, hr, rl, k2⟩ := asL_rep r1 k1
  refine ⟨a, rfl, ⟨xs, gr1.s.seq hr⟩, k2.ok ds rfl _ B1 H1 gr1 ⟨fun H => SqL X.K H a xs, YAt xs, by rw [← rl.length]; exact walk_list (xs := xs), fun B2 H2 s1 s2 => (s1.trans s2).seq hr, fun i H x H' B2 hi y s1 s2 => ?_⟩⟩
  obtain ⟨rfl, hx⟩ := y
  obtain ⟨d, hd, rd⟩ := rl.getV hx
  exact ⟨B2, d, .refl s2, hd, rd.mono s1⟩
theorem walk_rg {K : PySem.W.Frag} {B : Hp} {lo c : Int} {n : Nat} : GWalk K ca (Itc lo c n) (rangeD lo n c) B :=
  ⟨_, _, by rw [rangeD_len]; exact walk_rangeC, fun _ _ _ _ => trivial, fun i H x H' B2 hi y s1 s2 => by
    obtain ⟨rfl, rfl⟩ := y
    rw [rangeD_len] at hi
    exact ⟨B2, _, .refl s2, rangeD_get hi, .int _⟩⟩
theorem walk_r1 {K : PySem.W.Frag} {B : Hp} {lo : Int} {n : Nat} : GWalk K ca (Itr lo n) (rangeD lo n 1) B :=
  ⟨_, _, by rw [rangeD_len]; exact walk_range, fun _ _ _ _ => trivial, fun i H x H' B2 hi y s1 s2 => by
    obtain ⟨rfl, rfl⟩ := y
    rw [rangeD_len] at hi
    refine ⟨B2, _, .refl s2, rangeD_get hi, ?_⟩
    rw [Int.mul_one]
    exact .int _⟩
theorem gi_range1 {a : Expr} (hm : X.mg "range" = none) (ha : GA X ca W own [a] ga) (hg : Gl X "range" := by rfl) (hs : starEach [a] X.env = [(false, eval a X.env)] := by rfl) : GI X ca W own tg (.Call (.Name "range" p) [a] [] pos) (iA iRange1 ga) := by
  refine (pi_range1 hg hm ha hs).conv fun σ H R' ⟨B0, H0, B, ev, R, k⟩ => acan_mk R (k.bind.mono fun ds ⟨_, k1⟩ vs B1 H1 gr1 r1 => ?_)
  unfold iRange1 at k1
  split at k1
  · obtain ⟨hs, k2⟩ := gets_if k1
    cases r1 with
    | cons r2 r3 =>
      cases r3
      refine ⟨_, by rw [rep_int r2], by have := hs.1; omega, by have := hs.2; omega, k2.ok _ rfl _ B1 H1 gr1 walk_r1⟩
  · exact absurd rfl k1.nb
theorem gi_range2 {a b : Expr} (hm : X.mg "range" = none) (ha : GA X ca W own [a, b] ga) (hg : Gl X "range" := by rfl) (hs : starEach [a, b] X.env = [(false, eval a X.env), (false, eval b X.env)] := by rfl) (hs2 : starEach [b] X.env = [(false, eval b X.env)] := by rfl) :
    GI X ca W own tg (.Call (.Name "range" p) [a, b] [] pos) (iA iRange2 ga) := by
  refine (pi_range2 hg hm ha hs hs2).conv fun σ H R' ⟨B0, H0, B, ev, R, k⟩ => acan_mk R (k.bind.mono fun ds ⟨_, k1⟩ vs B1 H1 gr1 r1 => ?_)
  unfold iRange2 at k1
  split at k1
  · obtain ⟨hs, k2⟩ := gets_if k1
    cases r1 with
    | cons r2 r3 =>
      cases r3 with
      | cons r3 r4 =>
        cases r4
        refine ⟨_, _, by rw [rep_int r2, rep_int r3], ⟨by have := hs.1.1; omega, by have := hs.1.2; omega, by have := hs.2.1; omega, by have := hs.2.2; omega⟩, k2.ok _ rfl _ B1 H1 gr1 walk_r1⟩
  · exact absurd rfl k1.nb
theorem enumD_len (xs : List D) : (enumD xs).length = xs.length := by unfold enumD; rw [List.length_zipWith, List.length_range, Nat.min_self]
theorem gi_enum {elts : List Expr} {kk : Nat} (hc : X.calm = true) (hm : X.mg "enumerate" = none) (ha : GA X ca W own [e] ga)
    (hpi : PI X (.Tuple elts kk tpos) (.Call (.Name "enumerate" p) [e] [] pos) (iEnum X.K (acan X.K ca W own ga))) : GI X ca W own (.Tuple elts kk tpos) (.Call (.Name "enumerate" p) [e] [] pos) (iA iEnumD ga) := by
  refine hpi.conv fun σ H R' ⟨B0, H0, B, ev, R, k⟩ => acan_mk R (k.bind.mono fun ds ⟨_, k1⟩ vs B1 H1 gr1 r1 => ?_)
  unfold iEnumD at k1
  split at k1
  · cases r1 with
    | cons r2 r3 =>
      cases r3
      obtain ⟨a, xs, ds, rfl, hr, rl, k2⟩ := asL_rep r2 k1
      refine ⟨a, xs, rfl, gr1.s.seq hr, k2.ok _ rfl _ B1 H1 gr1 ⟨fun H => SqL X.K H a xs, YPair (fun i => some (.int (i : Nat))) (fun i => xs[i]?), by rw [enumD_len, ← rl.length]; exact walk_enum (xs := xs), fun B2 H2 s1 s2 => (s1.trans s2).seq hr, fun i H x H' B2 hi y s1 s2 => ?_⟩⟩
      obtain ⟨T, u, v, rfl, hT, rfl, e1, e2⟩ := y
      cases e1
      obtain ⟨d, hd, rd⟩ := rl.getV e2
      have gn := Grow.newB (o := .tup [.int (i : Nat), v]) s2 hT
      refine ⟨_, .tup [.int (i : Nat), d], gn, ?_, .tup upd_same (.cons (.int _) (.cons ((rd.mono s1).mono gn.b) .nil))⟩
      unfold enumD
      rw [enumD_len] at hi
      rw [List.getElem?_zipWith, List.getElem?_range hi, hd]
  · exact absurd rfl k1.nb
theorem zipD_len (xs ys : List D) : (zipD xs ys).length = min xs.length ys.length := by unfold zipD; rw [List.length_zipWith]
theorem gi_zip {e2 : Expr} {elts : List Expr} {kk : Nat} (hpi : PI X (.Tuple elts kk tpos) (.Call (.Name "zip" p) [e, e2] [] pos) (iZip X.K (acan X.K ca W own ga))) :
    GI X ca W own (.Tuple elts kk tpos) (.Call (.Name "zip" p) [e, e2] [] pos) (iA iZipD ga) := by
  refine hpi.conv fun σ H R' ⟨B0, H0, B, ev, R, k⟩ => acan_mk R (k.bind.mono fun ds ⟨_, k1⟩ vs B1 H1 gr1 r1 => ?_)
  unfold iZipD at k1
  split at k1
  · cases r1 with
    | cons r2 r3 =>
      cases r3 with
      | cons r3 r4 =>
        cases r4
        obtain ⟨a, xs, ds, rfl, hr, rl, k2⟩ := asL_rep r2 k1
        obtain ⟨b, ys, es, rfl, hr', rl', k3⟩ := asL_rep r3 k2
        refine ⟨a, b, xs, ys, rfl, gr1.s.seq hr, gr1.s.seq hr', k3.ok _ rfl _ B1 H1 gr1 ⟨fun H => SqL X.K H a xs ∧ SqL X.K H b ys, YPair (fun i => xs[i]?) (fun i => ys[i]?), by rw [zipD_len]; exact walk_zip (xs := xs) (ys := ys) (by rw [rl.length, rl'.length]), fun B2 H2 s1 s2 => ⟨(s1.trans s2).seq hr, (s1.trans s2).seq hr'⟩, fun i H x H' B2 hi y s1 s2 => ?_⟩⟩
        obtain ⟨T, u, v, rfl, hT, rfl, e1, e2⟩ := y
        obtain ⟨d, hd, rd⟩ := rl.getV e1
        obtain ⟨d', hd', rd'⟩ := rl'.getV e2
        have gn := Grow.newB (o := .tup [u, v]) s2 hT
        refine ⟨_, .tup [d, d'], gn, ?_, .tup upd_same (.cons ((rd.mono s1).mono gn.b) (.cons ((rd'.mono s1).mono gn.b) .nil))⟩
        unfold zipD
        rw [List.getElem?_zipWith, hd, hd']
  · exact absurd rfl k1.nb
theorem gi_rev (hpi : PI X tg (.Call (.Name "reversed" p) [e] [] pos) (iRev X.K (acan X.K ca W own ga))) : GI X ca W own tg (.Call (.Name "reversed" p) [e] [] pos) (iA iRevD ga) := by
  refine hpi.conv fun σ H R' ⟨B0, H0, B, ev, R, k⟩ => acan_mk R (k.bind.mono fun ds ⟨_, k1⟩ vs B1 H1 gr1 r1 => ?_)
  unfold iRevD at k1
  split at k1
  · cases r1 with
    | cons r2 r3 =>
      cases r3
      obtain ⟨a, xs, ds, rfl, hr, rl, k2⟩ := asL_rep r2 k1
      refine ⟨a, xs, rfl, gr1.s.seq hr, k2.ok _ rfl _ B1 H1 gr1 ⟨fun H => SqL X.K H a xs, fun i H x H' => H' = H ∧ xs[xs.length - 1 - i]? = some x, by rw [List.length_reverse, ← rl.length]; exact walk_rev (xs := xs), fun B2 H2 s1 s2 => (s1.trans s2).seq hr, fun i H x H' B2 hi y s1 s2 => ?_⟩⟩
      obtain ⟨rfl, hx⟩ := y
      obtain ⟨d, hd, rd⟩ := rl.getV hx
      rw [List.length_reverse] at hi
      exact ⟨B2, d, .refl s2, by rw [List.getElem?_reverse hi, ← rl.length]; exact hd, rd.mono s1⟩
  · exact absurd rfl k1.nb

/-! ### built-in calls -/
/-- r does what f says -/
def CallS (X : Cx) (ca : Nat → Addr) (r : List V → Hp → VK → Prop) (f : List D → Option D) : Prop :=
  ∀ (vs : List V) (ds : List D) (d : D) (B H : Hp) (Q : VK), Same B H → RepL X.K ca B vs ds → f ds = some d → KOk X.K ca B H Q d → r vs H Q
def gB1 (f : List D → Option D) (ga : EnvG → Res (List D)) : EnvG → Res D := fun ev => (ga ev).bind fun ds => .ofO (f ds)
theorem ge_callR {whole : Expr} {r : List V → Hp → VK → Prop} {f : List D → Option D} (hs : CallS X ca r f) (hw : PE X whole (tCB r (acan X.K ca W own ga))) : GE X ca W own whole (gB1 f ga) := by
  refine hw.conv fun σ H Q ⟨B0, H0, B, ev, R, k⟩ => acan_mk R (k.bind.mono fun ds ⟨_, k1⟩ vs B1 H1 gr1 r1 => ?_)
  obtain ⟨d, e, kd⟩ := gets_ofO k1
  exact hs vs ds d B1 H1 Q gr1.s r1 e (kd.grow gr1)
def fLen : List D → Option D
  | [.lst xs] => some (.int xs.length)
  | [.scr xs] => some (.int xs.length)
  | [.tup xs] => some (.int xs.length)
  | [.str z] => if z.length ≤ line then some (.int z.length) else none
  | _ => none
def fAbs : List D → Option D
  | [.int i] => some (.int (if i < 0 then -i else i))
  | _ => none
def fMax2 : List D → Option D
  | [.int i, .int j] => some (.int (if j > i then j else i))
  | _ => none
def fMin2 : List D → Option D
  | [.int i, .int j] => some (.int (if j < i then j else i))
  | _ => none
def fInt : List D → Option D
  | [.int i] => some (.int i)
  | [.bl k] => some (.int (if k then 1 else 0))
  | _ => none
def fDivmod : List D → Option D
  | [.int i, .int j] => if 0 < j ∧ Builtin.divisionGoesByPylong i j = false then some (.tup [.int (i / j), .int (i % j)]) else none
  | _ => none
theorem rep1 {K : PySem.W.Frag} {B : Hp} {vs : List V} {d : D} (r : RepL K ca B vs [d]) : ∃ v, vs = [v] ∧ Rep K ca B v d := by
  cases r with
  | cons a b => cases b; exact ⟨_, rfl, a⟩
theorem rep2 {K : PySem.W.Frag} {B : Hp} {vs : List V} {d e : D} (r : RepL K ca B vs [d, e]) : ∃ v u, vs = [v, u] ∧ Rep K ca B v d ∧ Rep K ca B u e := by
  cases r with
  | cons a b => cases b with
    | cons b c => cases c; exact ⟨_, _, rfl, a, b⟩
def rLenA (K : PySem.W.Frag) : List V → Hp → VK → Prop := fun xs H Q => (∃ p ys, xs = [.ref p] ∧ (SqL K H p ys ∨ SqT K H p ys) ∧ Q (.int ys.length) H) ∨ ∃ z, xs = [.str z] ∧ z.length ≤ sizeLine ∧ Q (.int z.length) H
theorem cr_len : CallR X (.builtin "len") (rLenA X.K) := CallR.or call_len_seq call_len_str
theorem cs_len : CallS X ca (rLenA X.K) fLen := by
  intro vs ds d B H Q s r e k
  unfold fLen at e
  split at e
  · obtain ⟨v, rfl, rv⟩ := rep1 r
    cases e
    cases rv with
    | lst h t => exact .inl ⟨_, _, rfl, .inl (.inl (.inl (s _ _ h))), by rw [t.length]; exact k _ B H (.refl s) (.int _)⟩
  · obtain ⟨v, rfl, rv⟩ := rep1 r
    cases e
    cases rv with
    | scr h t => exact .inl ⟨_, _, rfl, .inl (s.seq h), by rw [t.length]; exact k _ B H (.refl s) (.int _)⟩
  · obtain ⟨v, rfl, rv⟩ := rep1 r
    cases e
    cases rv with
    | tup h t => exact .inl ⟨_, _, rfl, .inr (.inl (.inl (s _ _ h))), by rw [t.length]; exact k _ B H (.refl s) (.int _)⟩
  · obtain ⟨v, rfl, rv⟩ := rep1 r
    obtain ⟨hz, rfl⟩ := if_some e
    rw [rep_str rv]
    exact .inr ⟨_, rfl, hz, k _ B H (.refl s) (.int _)⟩
  · cases e
/-- len of one's own list -/
theorem ge_lenO (i : Nat) {x : Str} {p2 : Pos} (hm : X.mg "len" = none) (hv : PE X (.Name x p2) (tVar i)) (hi : i ∈ own) (hg : Gl X "len" := by rfl)
    (hw : PE X (.Call (.Name "len" p) [.Name x p2] [] pos) (tCB (rLenA X.K) (tCons (tVar i) tNil)) := by exact pe_callB cr_len (by rfl) (by assumption) PySem.boot_len (pa_cons (by assumption) pa_nil)) : GE X ca W own (.Call (.Name "len" p) [.Name x p2] [] pos) (gB1 fLen (aCons (gVar i) aNil)) := by
  refine hw.conv fun σ H Q ⟨B0, H0, B, ev, R, g⟩ => ?_
  have g : Gets X.K ca B H (((gVar i ev).bind fun d => (Res.ok []).bind fun ds => .ok (d :: ds)).bind fun ds => .ofO (fLen ds)) (fun c d H' => W c d σ H') (KOk X.K ca B H Q) := g
  rw [Res.bind_assoc] at g
  have g1 := g.bind
  obtain ⟨d, e1, e2⟩ := lk_cases g1.nb
  obtain ⟨al, o, h1, h3, h4, h5, h6⟩ := R.owns i d hi e1
  obtain ⟨_, g2⟩ := g1.ok _ e2
  cases h6 with
  | lst h6 => exact ⟨_, h1, .inl ⟨al, _, rfl, .inl (.inl (.inl h5)), by rw [h6.length]; exact g2.ok _ rfl _ B H (.refl R.sub) (.int _)⟩⟩
  | obj _ => exact absurd rfl g2.nb
theorem cs_abs : CallS X ca (fun xs H Q => ∃ i, xs = [.int i] ∧ Q (.int (if i < 0 then -i else i)) H) fAbs := by
  intro vs ds d B H Q s r e k
  unfold fAbs at e
  split at e
  · obtain ⟨v, rfl, rv⟩ := rep1 r
    cases e
    rw [rep_int rv]
    exact ⟨_, rfl, k _ B H (.refl s) (.int _)⟩
  · cases e
theorem cs_max2 : CallS X ca (fun xs H Q => ∃ i j, xs = [.int i, .int j] ∧ Q (.int (if j > i then j else i)) H) fMax2 := by
  intro vs ds d B H Q s r e k
  unfold fMax2 at e
  split at e
  · obtain ⟨v, u, rfl, r1, r2⟩ := rep2 r
    cases e
    rw [rep_int r1, rep_int r2]
    exact ⟨_, _, rfl, k _ B H (.refl s) (.int _)⟩
  · cases e
theorem cs_min2 : CallS X ca (fun xs H Q => ∃ i j, xs = [.int i, .int j] ∧ Q (.int (if j < i then j else i)) H) fMin2 := by
  intro vs ds d B H Q s r e k
  unfold fMin2 at e
  split at e
  · obtain ⟨v, u, rfl, r1, r2⟩ := rep2 r
    cases e
    rw [rep_int r1, rep_int r2]
    exact ⟨_, _, rfl, k _ B H (.refl s) (.int _)⟩
  · cases e
theorem cs_int : CallS X ca (fun xs H Q => (∃ i, xs = [.int i] ∧ Q (.int i) H) ∨ ∃ k, xs = [.bl k] ∧ Q (.int (if k then 1 else 0)) H) fInt := by
  intro vs ds d B H Q s r e k
  unfold fInt at e
  split at e
  · obtain ⟨v, rfl, rv⟩ := rep1 r
    cases e
    rw [rep_int rv]
    exact .inl ⟨_, rfl, k _ B H (.refl s) (.int _)⟩
  · obtain ⟨v, rfl, rv⟩ := rep1 r
    cases e
    rw [rep_bl rv]
    exact .inr ⟨_, rfl, k _ B H (.refl s) (.int _)⟩
  · cases e
theorem cs_divmod : CallS X ca (fun xs H Q => ∃ i j, xs = [.int i, .int j] ∧ CDivP i j ∧ ∀ p, H p = none → Q (.ref p) (upd H p (.tup [.int (i / j), .int (i % j)]))) fDivmod := by
  intro vs ds d B H Q s r e k
  unfold fDivmod at e
  split at e
  · obtain ⟨v, u, rfl, r1, r2⟩ := rep2 r
    obtain ⟨hz, rfl⟩ := if_some e
    rw [rep_int r1, rep_int r2]
    exact ⟨_, _, rfl, hz, fun p hp => k _ _ _ (Grow.newB s hp) (.tup upd_same (.cons (.int _) (.cons (.int _) .nil)))⟩
  · cases e
section
variable {a b : Expr}
theorem ge_len (hm : X.mg "len" = none) (ha : GA X ca W own [a] ga) (hg : Gl X "len" := by rfl) (he : starEach [a] X.env = (false, eval a X.env) :: starEach [] X.env := by rfl) (hpl : (backTo pos (starEach [] X.env)).any (·.1) = false := by rfl) : GE X ca W own (.Call (.Name "len" p) [a] [] pos) (gB1 fLen ga) := ge_callR cs_len (pe_callB (he := he) (hpl := hpl) cr_len hg hm (by decide +kernel) ha)
theorem ge_abs (hm : X.mg "abs" = none) (ha : GA X ca W own [a] ga) (hg : Gl X "abs" := by rfl) (he : starEach [a] X.env = (false, eval a X.env) :: starEach [] X.env := by rfl) (hpl : (backTo pos (starEach [] X.env)).any (·.1) = false := by rfl) : GE X ca W own (.Call (.Name "abs" p) [a] [] pos) (gB1 fAbs ga) := ge_callR cs_abs (pe_callB (he := he) (hpl := hpl) call_abs hg hm (by decide +kernel) ha)
theorem ge_max2 (hc : X.calm = true) (hm : X.mg "max" = none) (ha : GA X ca W own [a, b] ga) (hg : Gl X "max" := by rfl) (he : starEach [a, b] X.env = (false, eval a X.env) :: starEach [b] X.env := by rfl) (hpl : (backTo pos (starEach [b] X.env)).any (·.1) = false := by rfl) : GE X ca W own (.Call (.Name "max" p) [a, b] [] pos) (gB1 fMax2 ga) := ge_callR cs_max2 (pe_callB (he := he) (hpl := hpl) (call_max2 hc) hg hm (by decide +kernel) ha)
theorem ge_min2 (hc : X.calm = true) (hm : X.mg "min" = none) (ha : GA X ca W own [a, b] ga) (hg : Gl X "min" := by rfl) (he : starEach [a, b] X.env = (false, eval a X.env) :: starEach [b] X.env := by rfl) (hpl : (backTo pos (starEach [b] X.env)).any (·.1) = false := by rfl) : GE X ca W own (.Call (.Name "min" p) [a, b] [] pos) (gB1 fMin2 ga) := ge_callR cs_min2 (pe_callB (he := he) (hpl := hpl) (call_min2 hc) hg hm (by decide +kernel) ha)
theorem ge_intc (hm : X.mg "int" = none) (ha : GA X ca W own [a] ga) (hg : Gl X "int" := by rfl) (he : starEach [a] X.env = (false, eval a X.env) :: starEach [] X.env := by rfl) (hpl : (backTo pos (starEach [] X.env)).any (·.1) = false := by rfl) : GE X ca W own (.Call (.Name "int" p) [a] [] pos) (gB1 fInt ga) := ge_callR cs_int (pe_callTy (he := he) (hpl := hpl) call_int1 hg hm (by decide +kernel) ha)
theorem ge_divmod (hm : X.mg "divmod" = none) (ha : GA X ca W own [a, b] ga) (hg : Gl X "divmod" := by rfl) (he : starEach [a, b] X.env = (false, eval a X.env) :: starEach [b] X.env := by rfl) (hpl : (backTo pos (starEach [b] X.env)).any (·.1) = false := by rfl) : GE X ca W own (.Call (.Name "divmod" p) [a, b] [] pos) (gB1 fDivmod ga) := ge_callR cs_divmod (pe_callB (he := he) (hpl := hpl) call_divmodW hg hm (by decide +kernel) ha)
end
/-- isinstance against built-in types -/
inductive TyD where
  | int | bool | str | list | tuple
def isTy : TyD → D → Option Bool
  | .int, .int _ => some true
  | .int, .bl _ => some true
  | .int, .non => some false
  | .int, .str _ => some false
  | .int, .lst _ => some false
  | .int, .tup _ => some false
  | .bool, .bl _ => some true
  | .bool, .int _ => some false
  | .bool, .non => some false
  | .bool, .str _ => some false
  | .bool, .lst _ => some false
  | .bool, .tup _ => some false
  | .str, .str _ => some true
  | .str, .int _ => some false
  | .str, .bl _ => some false
  | .str, .non => some false
  | .str, .lst _ => some false
  | .str, .tup _ => some false
  | .list, .lst _ => some true
  | .list, .int _ => some false
  | .list, .bl _ => some false
  | .list, .non => some false
  | .list, .str _ => some false
  | .list, .tup _ => some false
  | .tuple, .tup _ => some true
  | .tuple, .int _ => some false
  | .tuple, .bl _ => some false
  | .tuple, .non => some false
  | .tuple, .str _ => some false
  | .tuple, .lst _ => some false
  | _, _ => none
end
def TyD.name : TyD → String
  | .int => "int" | .bool => "bool" | .str => "str" | .list => "list" | .tuple => "tuple"
def gIsi (T : TyD) (g : EnvG → Res D) : EnvG → Res D := fun ev => (g ev).bind fun d => .ofO ((isTy T d).map .bl)
theorem kit_isTy {K : PySem.W.Frag} {B H : Hp} {v : V} {d : D} {T : TyD} {b : Bool} (s : Same B H) (r : Rep K ca B v d) (e : isTy T d = some b) : ∃ t, TyX K H v t ∧ PySem.W.kitOne K t (.type T.name) = some b := by
  cases r with
  | non => cases T <;> cases e <;> exact ⟨_, .base .non, kit_ty (by decide +kernel)⟩
  | bl x => cases T <;> cases e <;> exact ⟨_, .base (.bl x), kit_ty (by decide +kernel)⟩
  | int x => cases T <;> cases e <;> exact ⟨_, .base (.int x), kit_ty (by decide +kernel)⟩
  | str x => cases T <;> cases e <;> exact ⟨_, .base (.str x), kit_ty (by decide +kernel)⟩
  | lst h t =>
    have : TyX K H _ (.type "list") := .base (.lst (s _ _ h))
    cases T <;> cases e <;> exact ⟨_, this, kit_ty (by decide +kernel)⟩
  | tup h t =>
    have : TyX K H _ (.type "tuple") := .base (.tup (s _ _ h))
    cases T <;> cases e <;> exact ⟨_, this, kit_ty (by decide +kernel)⟩
  | scr h t => cases T <;> cases e
  | obj h t => cases T <;> cases e
  | exc h g t => cases T <;> cases e
  | own h t => cases T <;> cases e
theorem ge_isi (T : TyD) {a : Expr} {p2 : Pos} {g : EnvG → Res D} (hm : X.mg "isinstance" = none) (hm2 : X.mg (Str.ofString T.name) = none) (ha : GE X ca W own a g)
    (hw : PE X (.Call (.Name "isinstance" p) [a, .Name (Str.ofString T.name) p2] [] pos) (tCB (rIsi X.K) (tCons (ecan X.K ca W own g) (tCons (tC (.ty T.name)) tNil)))) : GE X ca W own (.Call (.Name "isinstance" p) [a, .Name (Str.ofString T.name) p2] [] pos) (gIsi T g) := by
  refine hw.conv fun σ H Q ⟨B0, H0, B, ev, R, k⟩ => ecan_mk R (k.bind.mono fun d ⟨_, k1⟩ v B1 H1 gr1 r1 => ?_)
  obtain ⟨x, e, kd⟩ := gets_ofO k1
  obtain ⟨b, hb, rfl⟩ := Option.map_eq_some_iff.mp e
  obtain ⟨t, ht, hk⟩ := kit_isTy gr1.s r1 hb
  exact ⟨v, .ty T.name, t, _, b, rfl, .ty _, ht, hk, kd _ B1 H1 gr1 (.bl b)⟩
end GL

namespace GL
open PySem PySem.Spec PyProof.Rows L2
/-! ### one's own list changed -/
def asOwn (ev : EnvG) (i : Nat) (f : List D → Out) : Out := match ev[i]? with
  | some (some (.lst ds)) => f ds
  | _ => .bad
def sAppend (i : Nat) (ge : EnvG → Res D) : EnvG → Out := fun ev => asOwn ev i fun _ => (ge ev).out ev fun d => asOwn ev i fun ds => if ds.length < line then .nx (ev.set i (some (.lst (ds ++ [d])))) else .bad
def sPop (i : Nat) : EnvG → Out := fun ev => asOwn ev i fun ds => if ds = [] then .bad else .nx (ev.set i (some (.lst ds.dropLast)))
def sSetPop (j i : Nat) : EnvG → Out := fun ev => asOwn ev i fun ds => match ds[ds.length - 1]? with
  | some d => .nx ((ev.set i (some (.lst ds.dropLast))).set j (some d))
  | none => .bad
def sExtend (i : Nat) (ge : EnvG → Res D) : EnvG → Out := fun ev => asOwn ev i fun _ => (ge ev).out ev fun d => asOwn ev i fun ds => match d with
  | .lst es => if ds.length + es.length ≤ line then .nx (ev.set i (some (.lst (ds ++ es)))) else .bad
  | _ => .bad
def setIx (ds : List D) (k d : D) : Option (List D) := match k with
  | .int k => (ixN ds.length k).map fun j => ds.set j d
  | _ => none
def sSetIx (i : Nat) (gi ge : EnvG → Res D) : EnvG → Out := fun ev => (ge ev).out ev fun d => asOwn ev i fun _ => (gi ev).out ev fun k => asOwn ev i fun ds => match setIx ds k d with
  | some es => .nx (ev.set i (some (.lst es)))
  | none => .bad
def sAugIx (i : Nat) (f : D → D → Option D) (gi ge : EnvG → Res D) : EnvG → Out := fun ev => asOwn ev i fun _ => (gi ev).out ev fun k => asOwn ev i fun ds => (Res.ofO (opIx (.lst ds) k)).out ev fun old => (ge ev).out ev fun d => (Res.ofO (f old d)).out ev fun new => match setIx ds k new with
  | some es => .nx (ev.set i (some (.lst es)))
  | none => .bad
theorem asOwn_ex {ev : EnvG} {i : Nat} {f : List D → Out} (h : asOwn ev i f ≠ .bad) : ∃ ds, ev[i]? = some (some (.lst ds)) ∧ asOwn ev i f = f ds := by
  unfold asOwn at h ⊢
  split at h
  · rename_i ds e
    exact ⟨ds, e, rfl⟩
  · exact absurd rfl h
section
variable {X : Cx} {ca : Nat → Addr} {W : WX} {own own' ob : List Nat} {pos p p2 p3 apos : Pos} {e a : Expr} {g gi : EnvG → Res D} {x : Str}
theorem own_at {K : PySem.W.Frag} {B0 H0 B H : Hp} {σ : L2.St} {ev : EnvG} {i : Nat} {ds : List D} (R : GR K ca B0 H0 own B H σ ev) (hi : i ∈ own) (he : ev[i]? = some (some (.lst ds))) :
    ∃ l xs, σ[i]? = some (some (.ref l)) ∧ B l = none ∧ H l = some (.lst xs) ∧ RepL K ca B xs ds := by
  obtain ⟨l, o, h1, h3, h4, h5, h6⟩ := R.owns i _ hi he
  obtain ⟨xs, rfl, h7⟩ := h6.lst'
  exact ⟨l, xs, h1, h3, h5, h7⟩
theorem gs_append (i : Nat) (hi : i ∈ own) (ha : GE X ca W own a g)
    (hw : PS X (.Expr (.Call (.Attribute (.Name x p) "append" apos) [a] [] p2) pos) (tDrop (tBM X.K "list" (fun x vs H Q => rAppend x vs H Q) (tVar i) (tCons (ecan X.K ca W own g) tNil)))) :
    GS X ca W own own ob (.Expr (.Call (.Attribute (.Name x p) "append" apos) [a] [] p2) pos) (sAppend i g) := by
  refine hw.conv fun D' σ H ⟨B0, H0, B, ev, R, s⟩ => ?_
  unfold sAppend at s
  obtain ⟨ds0, he, eq⟩ := asOwn_ex s.nb
  rw [eq] at s
  obtain ⟨l, xs, h1, h3, h5, h6⟩ := own_at R hi he
  refine ⟨_, h1, .inl ⟨rfl, xs, .inl (.inl h5)⟩, ecan_mk R ((SEnd.out s R).mono fun d ⟨_, s1⟩ v B' H' gr r => ?_)⟩
  obtain ⟨ds, he2, eq2⟩ := asOwn_ex s1.nb
  rw [he] at he2
  cases he2
  rw [eq2] at s1
  by_cases hl : ds0.length < line
  · rw [if_pos hl] at s1
    exact ⟨l, xs, v, rfl, rfl, gr.h _ _ h5, by rw [h6.length]; exact hl, s1.nx _ rfl _ _ _ ((R.grow gr).change hi he h1 ((h6.mono gr.b).append (.cons r .nil)))⟩
  · rw [if_neg hl] at s1; exact s1.bad
theorem gs_extend (i : Nat) (hi : i ∈ own) (ha : GE X ca W own a g)
    (hw : PS X (.Expr (.Call (.Attribute (.Name x p) "extend" apos) [a] [] p2) pos) (tDrop (tBM X.K "list" (fun x vs H Q => rExtend x vs H Q) (tVar i) (tCons (fcan X.K ca W own g) tNil)))) :
    GS X ca W own own ob (.Expr (.Call (.Attribute (.Name x p) "extend" apos) [a] [] p2) pos) (sExtend i g) := by
  refine hw.conv fun D' σ H ⟨B0, H0, B, ev, R, s⟩ => ?_
  unfold sExtend at s
  obtain ⟨ds0, he, eq⟩ := asOwn_ex s.nb
  rw [eq] at s
  obtain ⟨l, xs, h1, h3, h5, h6⟩ := own_at R hi he
  refine ⟨_, h1, .inl ⟨rfl, xs, .inl (.inl h5)⟩, fcan_mk R ((SEnd.out s R).mono fun d ⟨_, s1⟩ es ed b zs B' H' gr hn hb hh r => ?_)⟩
  subst ed
  obtain ⟨ds, he2, eq2⟩ := asOwn_ex s1.nb
  rw [he] at he2
  cases he2
  rw [eq2] at s1
  by_cases hl : ds0.length + es.length ≤ line
  · have s1 : SEnd X.K ca W B0 H0 own ob D' (if ds0.length + es.length ≤ line then .nx (ev.set i (some (.lst (ds0 ++ es)))) else .bad) := s1
    rw [if_pos hl] at s1
    exact ⟨l, b, xs, zs, rfl, rfl, gr.h _ _ h5, hh, by rw [h6.length, r.length]; exact hl, s1.nx _ rfl _ _ _ ((R.grow gr).change hi he h1 ((h6.mono gr.b).append r))⟩
  · have s1 : SEnd X.K ca W B0 H0 own ob D' (if ds0.length + es.length ≤ line then .nx (ev.set i (some (.lst (ds0 ++ es)))) else .bad) := s1
    rw [if_neg hl] at s1; exact s1.bad
theorem last_get {α : Type} {xs : List α} (h : xs ≠ []) : ∃ x, xs[xs.length - 1]? = some x := by
  have : 0 < xs.length := List.length_pos_iff.mpr h
  exact ⟨xs[xs.length - 1], List.getElem?_eq_getElem (by omega)⟩
theorem gs_pop (i : Nat) (hi : i ∈ own)
    (hw : PS X (.Expr (.Call (.Attribute (.Name x p) "pop" apos) [] [] p2) pos) (tDrop (tBM0 X.K "list" (fun x vs H Q => rPop x vs H Q) (tVar i)))) :
    GS X ca W own own ob (.Expr (.Call (.Attribute (.Name x p) "pop" apos) [] [] p2) pos) (sPop i) := by
  refine hw.conv fun D' σ H ⟨B0, H0, B, ev, R, s⟩ => ?_
  unfold sPop at s
  obtain ⟨ds0, he, eq⟩ := asOwn_ex s.nb
  rw [eq] at s
  obtain ⟨l, xs, h1, h3, h5, h6⟩ := own_at R hi he
  by_cases hl : ds0 = []
  · rw [if_pos hl] at s; exact s.bad
  · rw [if_neg hl] at s
    obtain ⟨y, hy⟩ := last_get (xs := xs) (fun z => hl (by rw [z] at h6; cases h6; rfl))
    exact ⟨_, h1, .inl ⟨rfl, xs, .inl (.inl h5)⟩, l, xs, y, rfl, rfl, h5, hy, s.nx _ rfl _ _ _ (R.change hi he h1 h6.dropLast)⟩
theorem gs_setIx (i : Nat) {b : Expr} (hc : i ∈ own) (ha : GE X ca W own a g) (hb : GE X ca W own b gi) (hw : PS X (.Assign [.Subscript (.Name x p) b p2] a pos) (tAsg (ecan X.K ca W own g) (gSub (tVar i) (ecan X.K ca W own gi) rSetL))) :
    GS X ca W own own ob (.Assign [.Subscript (.Name x p) b p2] a pos) (sSetIx i gi g) := by
  refine hw.conv fun D' σ H ⟨B0, H0, B, ev, R, s⟩ => ?_
  refine ecan_mk R ((SEnd.out s R).mono fun d ⟨_, s1⟩ v B1 H1 gr1 r1 => ?_)
  obtain ⟨ds0, he, eq⟩ := asOwn_ex s1.nb
  rw [eq] at s1
  have R1 := R.grow gr1
  obtain ⟨l, xs, h1, h3, h5, h6⟩ := own_at R1 hc he
  refine ⟨_, h1, ecan_mk R1 ((SEnd.out s1 R1).mono fun k ⟨_, s2⟩ u B2 H2 gr2 r2 => ?_)⟩
  obtain ⟨ds, he2, eq2⟩ := asOwn_ex s2.nb
  rw [he] at he2
  cases he2
  rw [eq2] at s2
  cases k with
  | int k =>
    have s2 : SEnd X.K ca W B0 H0 own ob D' (match (ixN ds0.length k).map fun j => ds0.set j d with | some es => .nx (ev.set i (some (.lst es))) | none => .bad) := s2
    cases q : ixN ds0.length k with
    | none => rw [q] at s2; exact s2.bad
    | some j =>
      rw [q] at s2
      have h6' := h6.mono gr2.b
      exact ⟨l, xs, k, j, rfl, rep_int r2, gr2.h _ _ h5, by rw [h6.length]; exact q, s2.nx _ rfl _ _ _ ((R1.grow gr2).change hc he h1 (h6'.set (r1.mono gr2.b) j))⟩
  | _ => exact s2.bad
theorem gs_augIx (i : Nat) {b : Expr} {op : Operator} {r : R2} {f : D → D → Option D} (hc : i ∈ own) (hs : OpS X ca r f) (ha : GE X ca W own a g) (hb : GE X ca W own b gi)
    (hw : PS X (.AugAssign (.Subscript (.Name x p) b p2) op a pos) (tAugS (tVar i) (ecan X.K ca W own gi) (ecan X.K ca W own g) (rIxL X.K) r rSetL)) :
    GS X ca W own own ob (.AugAssign (.Subscript (.Name x p) b p2) op a pos) (sAugIx i f gi g) := by
  refine hw.conv fun D' σ H ⟨B0, H0, B, ev, R, s⟩ => ?_
  unfold sAugIx at s
  obtain ⟨ds0, he, eq⟩ := asOwn_ex s.nb
  rw [eq] at s
  obtain ⟨l, xs, h1, h3, h5, h6⟩ := own_at R hc he
  refine ⟨_, h1, ecan_mk R ((SEnd.out s R).mono fun k ⟨_, s1⟩ u B1 H1 gr1 r1 => ?_)⟩
  obtain ⟨ds, he2, eq2⟩ := asOwn_ex s1.nb
  rw [he] at he2
  cases he2
  rw [eq2] at s1
  have R1 := R.grow gr1
  obtain ⟨old, eo, _, s2⟩ := gets_ofO (SEnd.out s1 R1)
  cases k with
  | int k =>
    have eo : atI ds0 k = some old := eo
    obtain ⟨vo, z1, z2⟩ := atI_rep (h6.mono gr1.b) eo
    refine ⟨l, xs, k, vo, rfl, rep_int r1, .inl (.inl (gr1.h _ _ h5)), z1, ecan_mk R1 ((SEnd.out s2 R1).mono fun d ⟨_, s3⟩ v B2 H2 gr2 r2 => ?_)⟩
    have R2 := R1.grow gr2
    obtain ⟨new, en, _, s4⟩ := gets_ofO (SEnd.out s3 R2)
    refine hs _ _ _ _ _ _ _ _ gr2.s (z2.mono gr2.b) r2 en fun w B3 H3 gr3 r3 => ?_
    have s4 : SEnd X.K ca W B0 H0 own ob D' (match (ixN ds0.length k).map fun j => ds0.set j new with | some es => .nx (ev.set i (some (.lst es))) | none => .bad) := s4
    cases q : ixN ds0.length k with
    | none => rw [q] at s4; exact s4.bad
    | some j =>
      rw [q] at s4
      have g3 := (gr1.trans gr2).trans gr3
      exact ⟨l, xs, k, j, rfl, rep_int r1, g3.h _ _ h5, by rw [h6.length]; exact q, s4.nx _ rfl _ _ _ ((R.grow g3).change hc he h1 ((h6.mono g3.b).set r3 j))⟩
  | _ => cases eo
end
end GL

namespace GL
open PySem PySem.Spec PyProof.Rows L2
/-! ### the end -/
def dInts (ns : List Int) : List D := ns.map D.int
theorem repL_ints {K : PySem.W.Frag} {ca : Nat → Addr} {B : Hp} : ∀ ns : List Int, RepL K ca B (ns.map V.int) (dInts ns)
  | [] => .nil
  | n :: ns => .cons (.int n) (repL_ints ns)
theorem end_sp {K : PySem.W.Frag} {ca : Nat → Addr} {F : List D → Res D} {H : Hp} {a : Addr} {ns : List Int} (h : F [.scr (dInts ns)] = .ok (.bl true)) (hS : SqL K H a (ns.map V.int)) :
    spOf K ca 1 F [.ref a] H (fun v _ => v = .bl true) fun _ _ _ => False :=
  ⟨rfl, H, [.scr (dInts ns)], Same.refl _, .cons (.scr hS (repL_ints ns)) .nil, by rw [h]; exact ⟨fun z => (by cases z), fun d e => (by cases e; exact fun v B' H' _ r => rep_bl r), fun c fs e => (by cases e)⟩⟩
theorem end_cx {P : Program} {w : World} {H : Hp} {s s' : Shared} {e : Value} (h : L2.CX P w [] H s (fun _ _ _ => False) e s') : False := by
  obtain ⟨_, _, _, _, _, _, _, _, _, _, _, _, z⟩ := h
  exact z
end GL

namespace GL
open PySem L2
/-! ### equations of the combinators -/
@[simp] theorem lk_0 (x : Option D) (l : EnvG) : lk (x :: l) 0 = match x with | some d => .ok d | none => .bad := by cases x <;> rfl
@[simp] theorem lk_s (x : Option D) (l : EnvG) (n : Nat) : lk (x :: l) (n + 1) = lk l n := rfl
@[simp] theorem gVar_e (i : Nat) (ev : EnvG) : gVar i ev = lk ev i := rfl
@[simp] theorem gC_e (d : D) (ev : EnvG) : gC d ev = .ok d := rfl
@[simp] theorem gOp_e (f) (a b : EnvG → Res D) (ev : EnvG) : gOp f a b ev = (a ev).bind fun x => (b ev).bind fun y => .ofO (f x y) := rfl
@[simp] theorem gUn_e (f) (a : EnvG → Res D) (ev : EnvG) : gUn f a ev = (a ev).bind fun x => .ofO (f x) := rfl
@[simp] theorem gB_e (a : EnvG → Res D) (ev : EnvG) : gB a ev = (a ev).bind asB := rfl
@[simp] theorem asB_bl (b : Bool) : asB (.bl b) = .ok b := rfl
@[simp] theorem gNot_e (t : EnvG → Res Bool) (ev : EnvG) : gNot t ev = (t ev).bind fun c => .ok (!c) := rfl
@[simp] theorem gAnd_e (t u : EnvG → Res Bool) (ev : EnvG) : gAnd t u ev = (t ev).bind fun c => if c = true then u ev else .ok false := rfl
@[simp] theorem gOr_e (t u : EnvG → Res Bool) (ev : EnvG) : gOr t u ev = (t ev).bind fun c => if c = true then .ok true else u ev := rfl
@[simp] theorem gNotV_e (g : EnvG → Res D) (ev : EnvG) : gNotV g ev = (g ev).bind fun d => (asB d).bind fun c => .ok (.bl (!c)) := rfl
@[simp] theorem gAndV_e (g h : EnvG → Res D) (ev : EnvG) : gAndV g h ev = (g ev).bind fun d => (asB d).bind fun c => if c = true then h ev else .ok (.bl false) := rfl
@[simp] theorem gOrV_e (g h : EnvG → Res D) (ev : EnvG) : gOrV g h ev = (g ev).bind fun d => (asB d).bind fun c => if c = true then .ok (.bl true) else h ev := rfl
@[simp] theorem gIf_e (t : EnvG → Res Bool) (g h : EnvG → Res D) (ev : EnvG) : gIf t g h ev = (t ev).bind fun c => if c = true then g ev else h ev := rfl
@[simp] theorem aNil_e (ev : EnvG) : aNil ev = .ok [] := rfl
@[simp] theorem aCons_e (g : EnvG → Res D) (t) (ev : EnvG) : aCons g t ev = (g ev).bind fun d => (t ev).bind fun ds => .ok (d :: ds) := rfl
@[simp] theorem gTup_e (t : EnvG → Res (List D)) (ev : EnvG) : gTup t ev = (t ev).bind fun ds => if ds.length ≤ 16777216 then .ok (.tup ds) else .bad := rfl
@[simp] theorem gLst_e (t : EnvG → Res (List D)) (ev : EnvG) : gLst t ev = (t ev).bind fun ds => if ds.length ≤ 16777216 then .ok (.lst ds) else .bad := rfl
@[simp] theorem gCall_e (F) (t : EnvG → Res (List D)) (ev : EnvG) : gCall F t ev = (t ev).bind F := rfl
@[simp] theorem gB1_e (f) (t : EnvG → Res (List D)) (ev : EnvG) : gB1 f t ev = (t ev).bind fun ds => .ofO (f ds) := rfl
@[simp] theorem gIsi_e (T) (t : EnvG → Res D) (ev : EnvG) : gIsi T t ev = (t ev).bind fun d => .ofO ((isTy T d).map .bl) := rfl
@[simp] theorem gLc_e (gi set tt te vs) (ev : EnvG) : gLc gi set tt te vs ev = (gi ev).bind fun items => (lcL set tt te items (wipeE ev vs)).bind fun ds => if ds.length ≤ 16777216 then .ok (.lst ds) else .bad := rfl
@[simp] theorem gMeth_e (disp m go ga) (ev : EnvG) : gMeth disp m go ga ev = (go ev).bind fun o => match dispO disp m o with | some F => (ga ev).bind fun ds => F (o :: ds) | none => .bad := rfl
@[simp] theorem gFld_e (okc f go) (ev : EnvG) : gFld okc f go ev = (go ev).bind (fldO okc f) := rfl
@[simp] theorem iLst_e (g : EnvG → Res D) (ev : EnvG) : iLst g ev = (g ev).bind asL := rfl
@[simp] theorem asL_lst (xs : List D) : asL (.lst xs) = .ok xs := rfl
@[simp] theorem asL_scr (xs : List D) : asL (.scr xs) = .ok xs := rfl
@[simp] theorem iA_e (f) (t : EnvG → Res (List D)) (ev : EnvG) : iA f t ev = (t ev).bind f := rfl
@[simp] theorem gg1_e (i : Nat) (d : D) (ev : EnvG) : gg1 i d ev = some (ev.set i (some d)) := rfl
@[simp] theorem sNext_e (ev : EnvG) : sNext ev = .nx ev := rfl
@[simp] theorem sSeq_e (f g : EnvG → Out) (ev : EnvG) : sSeq f g ev = (f ev).seq g := rfl
@[simp] theorem sRet_e (g : EnvG → Res D) (ev : EnvG) : sRet g ev = (g ev).out ev fun d => .rt d := rfl
@[simp] theorem sDrop_e (g : EnvG → Res D) (ev : EnvG) : sDrop g ev = (g ev).out ev fun _ => .nx ev := rfl
@[simp] theorem sIf_e (t : EnvG → Res Bool) (f g : EnvG → Out) (ev : EnvG) : sIf t f g ev = (t ev).out ev fun c => if c = true then f ev else g ev := rfl
@[simp] theorem sSet_e (i : Nat) (g : EnvG → Res D) (ev : EnvG) : sSet i g ev = (g ev).out ev fun d => .nx (ev.set i (some d)) := rfl
@[simp] theorem sAug_e (i : Nat) (f) (g : EnvG → Res D) (ev : EnvG) : sAug i f g ev = (lk ev i).out ev fun x => (g ev).out ev fun y => (Res.ofO (f x y)).out ev fun d => .nx (ev.set i (some d)) := rfl
@[simp] theorem sFor_e (gi set b) (ev : EnvG) : sFor gi set b ev = (gi ev).out ev fun items => forL set b items ev := rfl
@[simp] theorem wipeE_nil (ev : EnvG) : wipeE ev [] = ev := rfl
@[simp] theorem wipeE_cons (ev : EnvG) (v vs) : wipeE ev (v :: vs) = (wipeE ev vs).set v none := rfl
@[simp] theorem forL_nil (set b) (ev : EnvG) : forL set b [] ev = .nx ev := rfl
@[simp] theorem res_rt (d : D) : (Out.rt d).res = .ok d := rfl
@[simp] theorem res_nx (ev : EnvG) : (Out.nx ev).res = .ok .non := rfl
@[simp] theorem res_xc (c fs) (ev : EnvG) : (Out.xc c fs ev).res = .xc c fs := rfl
@[simp] theorem res_bad : Out.bad.res = .bad := rfl
theorem runF_0 (n : Nat) (g) : runF n 0 g [] = (g (List.replicate n none)).res := rfl
theorem runF_1 (n : Nat) (g) (a : D) : runF n 1 g [a] = (g (some a :: List.replicate (n - 1) none)).res := rfl
theorem runF_2 (n : Nat) (g) (a b : D) : runF n 2 g [a, b] = (g (some a :: some b :: List.replicate (n - 2) none)).res := rfl
theorem runF_3 (n : Nat) (g) (a b c : D) : runF n 3 g [a, b, c] = (g (some a :: some b :: some c :: List.replicate (n - 3) none)).res := rfl
theorem runF_4 (n : Nat) (g) (a b c d : D) : runF n 4 g [a, b, c, d] = (g (some a :: some b :: some c :: some d :: List.replicate (n - 4) none)).res := rfl
theorem runF_5 (n : Nat) (g) (a b c d e : D) : runF n 5 g [a, b, c, d, e] = (g (some a :: some b :: some c :: some d :: some e :: List.replicate (n - 5) none)).res := rfl
theorem runF_6 (n : Nat) (g) (a b c d e f : D) : runF n 6 g [a, b, c, d, e, f] = (g (some a :: some b :: some c :: some d :: some e :: some f :: List.replicate (n - 6) none)).res := rfl
theorem ite_seq (c : Prop) [Decidable c] (a b : Out) (f) : (if c then a else b).seq f = if c then a.seq f else b.seq f := by split <;> rfl
theorem ite_res (c : Prop) [Decidable c] (a b : Out) : (if c then a else b).res = if c then a.res else b.res := by split <;> rfl
theorem ite_bind {α β : Type} (c : Prop) [Decidable c] (a b : Res α) (f : α → Res β) : (if c then a else b).bind f = if c then a.bind f else b.bind f := by split <;> rfl
theorem ite_out {α : Type} (c : Prop) [Decidable c] (a b : Res α) (ev) (f : α → Out) : (if c then a else b).out ev f = if c then a.out ev f else b.out ev f := by split <;> rfl

/-! ### operators -/
@[simp] theorem opAdd_i (i j : Int) : opAdd (.int i) (.int j) = some (.int (i + j)) := rfl
@[simp] theorem opIAdd_i (i j : Int) : opIAdd (.int i) (.int j) = some (.int (i + j)) := rfl
@[simp] theorem opSub_i (i j : Int) : opSub (.int i) (.int j) = some (.int (i - j)) := rfl
theorem opMul_i {i j : Int} (h : mulOk i j) : opMul (.int i) (.int j) = some (.int (i * j)) := if_pos h
theorem opMul_r {i j : Int} (h : -(2 ^ 64) < j) (h2 : j < 2 ^ 64) : opMul (.int i) (.int j) = some (.int (i * j)) := opMul_i (.inl (.inr ⟨h, h2⟩))
theorem opMul_l {i j : Int} (h : -(2 ^ 64) < i) (h2 : i < 2 ^ 64) : opMul (.int i) (.int j) = some (.int (i * j)) := opMul_i (.inl (.inl ⟨h, h2⟩))
theorem mulOk_of {i j : Int} {a b : Nat} (ha : i.natAbs < 2 ^ a) (hb : j.natAbs < 2 ^ b) (h0 : 0 < a) (h1 : 0 < b) (h : a + b ≤ 1000000) : mulOk i j := .inr (wide_mul ha hb h0 h1 h)
theorem opMod_p {i j : Int} (h : 0 < j) : opMod (.int i) (.int j) = some (.int (i % j)) := by
  show (if j ≠ 0 then some (D.int (i.fmod j)) else none) = _
  rw [if_pos (by omega), Int.fmod_eq_emod_of_nonneg _ (by omega)]
theorem opDiv_w {i j : Int} {k : Nat} (h : 0 < j) (hb : j.natAbs < 2 ^ k) (h0 : 0 < k) (h9 : k ≤ 9000) : opDiv (.int i) (.int j) = some (.int (i / j)) := by
  show (if j ≠ 0 ∧ j.natAbs.log2 < 9000 then some (D.int (i.fdiv j)) else none) = _
  rw [if_pos ⟨by omega, (wide_div (i := i) h hb h0 h9).2⟩, Int.fdiv_eq_ediv_of_nonneg _ (by omega)]
theorem opDiv_p {i j : Int} (h : 0 < j) (hb : j < 2 ^ 64) : opDiv (.int i) (.int j) = some (.int (i / j)) := opDiv_w (k := 64) h (by omega) (by omega) (by omega)
theorem opPow_i {i j : Int} (h : powOk i j) : opPow (.int i) (.int j) = some (.int (i ^ j.toNat)) := if_pos h
@[simp] theorem opLt_i (i j : Int) : opLt (.int i) (.int j) = some (.bl (decide (i < j))) := rfl
@[simp] theorem opLe_i (i j : Int) : opLe (.int i) (.int j) = some (.bl (decide (i ≤ j))) := rfl
@[simp] theorem opGt_i (i j : Int) : opGt (.int i) (.int j) = some (.bl (decide (j < i))) := rfl
@[simp] theorem opGe_i (i j : Int) : opGe (.int i) (.int j) = some (.bl (decide (j ≤ i))) := rfl
@[simp] theorem opNeg_i (i : Int) : opNeg (.int i) = some (.int (-i)) := rfl
@[simp] theorem opIx_l (xs : List D) (i : Int) : opIx (.lst xs) (.int i) = atI xs i := rfl
@[simp] theorem opIx_s (xs : List D) (i : Int) : opIx (.scr xs) (.int i) = atI xs i := rfl
@[simp] theorem opIx_t (xs : List D) (i : Int) : opIx (.tup xs) (.int i) = atI xs i := rfl
@[simp] theorem fLen_l (xs : List D) : fLen [.lst xs] = some (.int xs.length) := rfl
@[simp] theorem fLen_s (xs : List D) : fLen [.scr xs] = some (.int xs.length) := rfl
@[simp] theorem fLen_t (xs : List D) : fLen [.tup xs] = some (.int xs.length) := rfl
@[simp] theorem fAbs_i (i : Int) : fAbs [.int i] = some (.int (if i < 0 then -i else i)) := rfl
@[simp] theorem fMax2_i (i j : Int) : fMax2 [.int i, .int j] = some (.int (if j > i then j else i)) := rfl
@[simp] theorem fMin2_i (i j : Int) : fMin2 [.int i, .int j] = some (.int (if j < i then j else i)) := rfl
@[simp] theorem fInt_i (i : Int) : fInt [.int i] = some (.int i) := rfl
@[simp] theorem fInt_b (b : Bool) : fInt [.bl b] = some (.int (if b then 1 else 0)) := rfl
theorem atI_p {xs : List D} {i : Int} (h : 0 ≤ i) (h2 : i < xs.length) : atI xs i = xs[i.toNat]? := by
  unfold atI ixN
  rw [if_pos h, if_pos h2]
  rfl
theorem atI_n {xs : List D} {i : Int} (h : i < 0) (h2 : -(xs.length : Int) ≤ i) : atI xs i = xs[(i + xs.length).toNat]? := by
  unfold atI ixN
  rw [if_neg (by omega), if_pos h2]
  rfl

/-! ### loops -/
theorem gWhile_unfold (c : EnvG → Res Bool) (b : EnvG → Out) (ev : EnvG) : gWhile c b ev = match c ev with
    | .ok true => match b ev with
      | .nx ev' => gWhile c b ev'
      | .ct ev' => gWhile c b ev'
      | .bk ev' => .nx ev'
      | o => o
    | .ok false => .nx ev
    | .xc k fs => .xc k fs ev
    | .bad => .bad := by
  have go : ∀ ev', (∀ n, whileN c b (n + 1) ev = whileN c b n ev') → gWhile c b ev = gWhile c b ev' := fun ev' h => by
    by_cases hx : ∃ o n, whileN c b n ev' = some o
    · obtain ⟨o, n, e⟩ := hx
      rw [gWhile_eq e, gWhile_eq ((h n).trans e)]
    · have hx2 : ¬ ∃ o n, whileN c b n ev = some o := fun ⟨o, n, e⟩ => by
        cases n with
        | zero => cases e
        | succ n => exact hx ⟨o, n, (h n).symm.trans e⟩
      unfold gWhile
      rw [dif_neg hx, dif_neg hx2]
  cases q : c ev with
  | ok d =>
    cases d with
    | false => exact gWhile_eq (n := 1) (by unfold whileN; rw [q])
    | true =>
      dsimp only
      cases q2 : b ev with
      | nx ev' => exact go ev' fun n => by rw [whileN, q]; dsimp only; rw [q2]
      | ct ev' => exact go ev' fun n => by rw [whileN, q]; dsimp only; rw [q2]
      | bk ev' => exact gWhile_eq (n := 1) (by unfold whileN; rw [q]; dsimp only; rw [q2])
      | rt d => exact gWhile_eq (n := 1) (by unfold whileN; rw [q]; dsimp only; rw [q2])
      | xc k fs ev' => exact gWhile_eq (n := 1) (by unfold whileN; rw [q]; dsimp only; rw [q2])
      | bad => exact gWhile_eq (n := 1) (by unfold whileN; rw [q]; dsimp only; rw [q2])
  | xc k fs => exact gWhile_eq (n := 1) (by unfold whileN; rw [q])
  | bad => exact gWhile_eq (n := 1) (by unfold whileN; rw [q])
end GL

namespace GL
open PySem L2
theorem dInts_len (ns : List Int) : (dInts ns).length = ns.length := List.length_map ..
theorem dInts_get {ns : List Int} {i : Nat} (h : i < ns.length) : (dInts ns)[i]? = some (.int ns[i]) := by
  unfold dInts
  rw [List.getElem?_map, List.getElem?_eq_getElem h]
  rfl
theorem atI_ints {ns : List Int} {i : Int} (h : -(ns.length : Int) ≤ i) (h2 : i < ns.length) : ∃ v, atI (dInts ns) i = some (.int v) := by
  by_cases q : 0 ≤ i
  · rw [atI_p q (by rw [dInts_len]; exact h2), dInts_get (by omega)]
    exact ⟨_, rfl⟩
  · rw [atI_n (by omega) (by rw [dInts_len]; exact h), dInts_len, dInts_get (by omega)]
    exact ⟨_, rfl⟩
theorem range1_e {n : Int} (h : -4611686018427387904 ≤ n) (h2 : n < 4611686018427387904) : iRange1 [.int n] = .ok (rangeD 0 n.toNat 1) := if_pos ⟨h, h2⟩
theorem range1_n {n : Nat} {i : Int} (e : i = n) (h : n < 1000000000) : iRange1 [.int i] = .ok (rangeD 0 n 1) := by
  subst e
  rw [range1_e (by omega) (by omega), Int.toNat_natCast]
theorem range2_e {a b : Int} (h : small62 a) (h2 : small62 b) : iRange2 [.int a, .int b] = .ok (rangeD a (b - a).toNat 1) := if_pos ⟨h, h2⟩
theorem range_at {lo : Int} {n j : Nat} {d : D} (h : (rangeD lo n 1)[j]? = some d) : j < n ∧ d = .int (lo + j) := by
  by_cases q : j < n
  · rw [rangeD_get q, Int.mul_one] at h
    exact ⟨q, (Option.some.inj h).symm⟩
  · rw [List.getElem?_eq_none (by rw [rangeD_len]; omega)] at h
    cases h
theorem forL_cons (set : D → EnvG → Option EnvG) (b : EnvG → Out) (d : D) (ds : List D) (ev : EnvG) : forL set b (d :: ds) ev = match set d ev with
    | none => .bad
    | some ev1 => match b ev1 with
      | .nx ev' => forL set b ds ev'
      | .ct ev' => forL set b ds ev'
      | .bk ev' => .nx ev'
      | o => o := rfl
/-- every turn goes on -/
theorem forL_inv {set : D → EnvG → Option EnvG} {b : EnvG → Out} {ds : List D} (I : Nat → EnvG → Prop) {ev : EnvG} (h0 : I 0 ev)
    (turn : ∀ k ev d, I k ev → ds[k]? = some d → ∃ ev1, set d ev = some ev1 ∧ ∃ ev2, (b ev1 = .nx ev2 ∨ b ev1 = .ct ev2) ∧ I (k + 1) ev2) : ∃ ev', forL set b ds ev = .nx ev' ∧ I ds.length ev' := by
  have go : ∀ (es : List D) (k : Nat) (ev : EnvG), ds.drop k = es → k ≤ ds.length → I k ev → ∃ ev', forL set b es ev = .nx ev' ∧ I ds.length ev' := fun es => by
    induction es with
    | nil =>
      intro k ev hd hk hI
      have : k = ds.length := by
        have := congrArg List.length hd
        rw [List.length_drop, List.length_nil] at this
        omega
      subst this
      exact ⟨ev, rfl, hI⟩
    | cons d es ih =>
      intro k ev hd hk hI
      have hlt : k < ds.length := by
        have := congrArg List.length hd
        rw [List.length_drop, List.length_cons] at this
        omega
      rw [List.drop_eq_getElem_cons hlt] at hd
      injection hd with h1 h2
      obtain ⟨ev1, e1, ev2, e2, hI2⟩ := turn k ev d hI (by rw [List.getElem?_eq_getElem hlt, h1])
      rw [forL_cons, e1]
      dsimp only
      rcases e2 with e2 | e2 <;> rw [e2] <;> exact ih (k + 1) ev2 h2 hlt hI2
  exact go ds 0 ev rfl (Nat.zero_le _) h0
end GL

namespace LW
open PySem PySem.Spec PyProof.Rows L2 GL
def topS (i : Nat) : Stmt := PySem.Challenge.pw_factorforge_k04_primes.main.body.getD i (.Pass ⟨0, 0, 0, 0⟩)
abbrev st_is_prime : Stmt := topS 2
abbrev N_is_prime : List Str := ["number", "by"]
theorem sc_is_prime : FnScope N_is_prime ["number"] (defScope st_is_prime) := ⟨rfl, rfl, rfl, by decide +kernel, rfl, by decide +kernel, by decide +kernel⟩
noncomputable def c_is_prime_1 : EnvG → Res Bool :=
    (gB (gOp opLe (gOp opMul (gVar 1) (gVar 1)) (gVar 0)))
noncomputable def l_is_prime_1 : EnvG → Out :=
    (sSeq (sIf (gB (gOp opEq (gOp opMod (gVar 0) (gVar 1)) (gC (.int 0))))
      (sRet (gC (.bl false)))
      sNext) (sAug 1 opIAdd (gC (.int 1))))
noncomputable def b_is_prime : EnvG → Out :=
    (sSeq (sIf (gOr (gB (gOp opLt (gVar 0) (gC (.int 2)))) (gB (gOp opGt (gVar 0) (gC (.int 9973)))))
      (sRet (gC (.bl false)))
      sNext) (sSeq (sSet 1 (gC (.int 2))) (sSeq (gWhile c_is_prime_1 l_is_prime_1) (sRet (gC (.bl true))))))
noncomputable def d_is_prime : List D → Res D := runF 2 1 b_is_prime
abbrev st__law_due : Stmt := topS 4
abbrev N__law_due : List Str := ["_law_number", "_law_by"]
theorem sc__law_due : FnScope N__law_due ["_law_number"] (defScope st__law_due) := ⟨rfl, rfl, rfl, by decide +kernel, rfl, by decide +kernel, by decide +kernel⟩
noncomputable def c__law_due_1 : EnvG → Res Bool :=
    (gB (gOp opLe (gOp opMul (gVar 1) (gVar 1)) (gVar 0)))
noncomputable def l__law_due_1 : EnvG → Out :=
    (sSeq (sIf (gB (gOp opEq (gOp opMod (gVar 0) (gVar 1)) (gC (.int 0))))
      (sRet (gC (.bl false)))
      sNext) (sSet 1 (gOp opAdd (gVar 1) (gC (.int 1)))))
noncomputable def b__law_due : EnvG → Out :=
    (sSeq (sIf (gOr (gB (gOp opLt (gVar 0) (gC (.int 2)))) (gB (gOp opGt (gVar 0) (gC (.int 9973)))))
      (sRet (gC (.bl false)))
      sNext) (sSeq (sSet 1 (gC (.int 2))) (sSeq (gWhile c__law_due_1 l__law_due_1) (sRet (gC (.bl true))))))
noncomputable def d__law_due : List D → Res D := runF 2 1 b__law_due
abbrev st__law_number_by : Stmt := topS 5
abbrev N__law_number_by : List Str := ["_law_cell", "_law_way", "_law_rest"]
theorem sc__law_number_by : FnScope N__law_number_by ["_law_cell"] (defScope st__law_number_by) := ⟨rfl, rfl, rfl, by decide +kernel, rfl, by decide +kernel, by decide +kernel⟩
noncomputable def b__law_number_by : EnvG → Out :=
    (sSeq (sSet 1 (gOp opMod (gVar 0) (gC (.int 6)))) (sSeq (sSet 2 (gOp opDiv (gVar 0) (gC (.int 6)))) (sSeq (sIf (gB (gOp opEq (gVar 1) (gC (.int 0))))
      (sRet (gOp opSub (gOp opMod (gVar 2) (gC (.int 40))) (gC (.int 8))))
      sNext) (sSeq (sIf (gB (gOp opEq (gVar 1) (gC (.int 1))))
      (sRet (gOp opAdd (gC (.int 9900)) (gOp opMod (gOp opMul (gVar 2) (gC (.int 48271))) (gC (.int 130)))))
      sNext) (sSeq (sIf (gB (gOp opEq (gVar 1) (gC (.int 2))))
      (sRet (gOp opMul (gOp opMod (gVar 2) (gC (.int 101))) (gOp opMod (gOp opDiv (gVar 2) (gC (.int 101))) (gC (.int 101)))))
      sNext) (sSeq (sIf (gAnd (gB (gOp opEq (gVar 1) (gC (.int 3)))) (gB (gOp opEq (gOp opMod (gVar 2) (gC (.int 2))) (gC (.int 0)))))
      (sRet (gOp opMul (gOp opMod (gOp opDiv (gVar 2) (gC (.int 2))) (gC (.int 100))) (gOp opMod (gOp opDiv (gVar 2) (gC (.int 2))) (gC (.int 100)))))
      sNext) (sSeq (sIf (gB (gOp opEq (gVar 1) (gC (.int 3))))
      (sRet (gOp opIx (gLst (aCons (gC (.int 2)) (aCons (gC (.int 3)) (aCons (gC (.int 7)) (aCons (gC (.int 97)) (aCons (gC (.int 9967)) (aCons (gC (.int 9973)) aNil))))))) (gOp opMod (gOp opDiv (gVar 2) (gC (.int 2))) (gC (.int 6)))))
      sNext) (sSeq (sIf (gB (gOp opEq (gVar 1) (gC (.int 4))))
      (sRet (gOp opSub (gOp opMod (gOp opMul (gVar 2) (gC (.int 69621))) (gOp opAdd (gOp opMul (gC (.int 2)) (gOp opPow (gC (.int 10)) (gC (.int 60)))) (gC (.int 1)))) (gOp opPow (gC (.int 10)) (gC (.int 60)))))
      sNext) (sRet (gOp opMod (gOp opMul (gVar 2) (gC (.int 48271))) (gC (.int 10100))))))))))))
noncomputable def d__law_number_by : List D → Res D := runF 3 1 b__law_number_by
abbrev st_law : Stmt := topS 6
abbrev N_law : List Str := ["_law_script", "_law_k", "_law_number", "_law_found"]
theorem sc_law : FnScope N_law ["_law_script"] (defScope st_law) := ⟨rfl, rfl, rfl, by decide +kernel, rfl, by decide +kernel, by decide +kernel⟩
noncomputable def l_law_1 : EnvG → Out :=
    (sSeq (sSet 2 (gC (.int 9973))) (sSeq (sIf (gB (gOp opGt (gB1 fLen (aCons (gVar 0) aNil)) (gC (.int 0))))
      (sSet 2 (gCall d__law_number_by (aCons (gOp opIx (gVar 0) (gOp opSub (gVar 1) (gC (.int 1)))) aNil)))
      sNext) (sSeq (sSet 3 (gCall d_is_prime (aCons (gVar 2) aNil))) (sIf (gOr (gNot (gB (gIsi .bool (gVar 3)))) (gB (gOp opNe (gVar 3) (gCall d__law_due (aCons (gVar 2) aNil)))))
      (sRet (gC (.bl false)))
      sNext))))
noncomputable def b_law : EnvG → Out :=
    (sSeq (sFor (iA iRange1 (aCons (gOp opAdd (gB1 fLen (aCons (gVar 0) aNil)) (gC (.int 1))) aNil)) (gg1 1) l_law_1) (sRet (gC (.bl true))))
noncomputable def d_law : List D → Res D := runF 4 1 b_law
structure Txt (K : PySem.W.Frag) (mg : Str → Option Value) : Prop where
  f_is_prime : ∃ f fd, Fun K "is_prime" "is_prime" st_is_prime f fd ∧ mg "is_prime" = some (.ref f)
  f__law_due : ∃ f fd, Fun K "_law_due" "_law_due" st__law_due f fd ∧ mg "_law_due" = some (.ref f)
  f__law_number_by : ∃ f fd, Fun K "_law_number_by" "_law_number_by" st__law_number_by f fd ∧ mg "_law_number_by" = some (.ref f)
  f_law : ∃ f fd, Fun K "law" "law" st_law f fd ∧ mg "law" = some (.ref f)
  m_bool : mg "bool" = none
  const_GREATEST : ∃ t, mg "GREATEST" = some (.int 9973 t)
  m_isinstance : mg "isinstance" = none
  m_len : mg "len" = none
  m_range : mg "range" = none
section
variable {P : Program} {w : World} {K : PySem.W.Frag} {mg : Str → Option Value} {base : Heap} {ca : Nat → Addr}
theorem w_is_prime (T : Txt K mg) : GFn P w K mg base ca "is_prime" 1 d_is_prime := by
  obtain ⟨f, fd, F, hm⟩ := T.f_is_prime
  exact gfn_of (N := N_is_prime) (ps := ["number"]) (k := 0) (own' := []) (g := b_is_prime) F sc_is_prime hm (F.binds (ps := ["number"]) fun _ _ _ _ _ _ us hl => match us, hl with | [_], _ => rfl) (fun cdv A outer s H E hr =>
      (gss_cons (gs_if ((gw_or (gt_cmp op_lt os_lt (ge_var (pv 0)) ge_int) (gw_or1 (gt_cmp op_gt os_gt (ge_var (pv 0)) (ge_globI T.const_GREATEST.choose_spec))))).pt
      (gss_one (gs_ret ge_bl))
      gss_nil)
      (gss_cons (gs_set (own := []) (own' := []) 1 sc_is_prime.nd ge_int)
      (gss_cons (gs_while own_def (own := []) (gt_cmp op_le os_le (ge_op op_mulA os_mul (ge_var (pv 1)) (ge_var (pv 1))) (ge_var (pv 0)))
      (gss_cons (gs_if (gt_cmp (op_eqD hr.units) os_eq (ge_op op_modN os_mod (ge_var (pv 0)) (ge_var (pv 1))) ge_int)
      (gss_one (gs_ret ge_bl))
      gss_nil)
      (gss_one (gs_aug 1 sc_is_prime.nd iop_addA ois_add ge_int))))
      (gss_one (gs_ret ge_bl))))))
theorem w__law_due (T : Txt K mg) : GFn P w K mg base ca "_law_due" 1 d__law_due := by
  obtain ⟨f, fd, F, hm⟩ := T.f__law_due
  exact gfn_of (N := N__law_due) (ps := ["_law_number"]) (k := 0) (own' := []) (g := b__law_due) F sc__law_due hm (F.binds (ps := ["_law_number"]) fun _ _ _ _ _ _ us hl => match us, hl with | [_], _ => rfl) (fun cdv A outer s H E hr =>
      (gss_cons (gs_if ((gw_or (gt_cmp op_lt os_lt (ge_var (pv 0)) ge_int) (gw_or1 (gt_cmp op_gt os_gt (ge_var (pv 0)) ge_int)))).pt
      (gss_one (gs_ret ge_bl))
      gss_nil)
      (gss_cons (gs_set (own := []) (own' := []) 1 sc__law_due.nd ge_int)
      (gss_cons (gs_while own_def (own := []) (gt_cmp op_le os_le (ge_op op_mulA os_mul (ge_var (pv 1)) (ge_var (pv 1))) (ge_var (pv 0)))
      (gss_cons (gs_if (gt_cmp (op_eqD hr.units) os_eq (ge_op op_modN os_mod (ge_var (pv 0)) (ge_var (pv 1))) ge_int)
      (gss_one (gs_ret ge_bl))
      gss_nil)
      (gss_one (gs_set (own := []) (own' := []) 1 sc__law_due.nd (ge_op op_addA os_add (ge_var (pv 1)) ge_int)))))
      (gss_one (gs_ret ge_bl))))))
theorem w__law_number_by (T : Txt K mg) : GFn P w K mg base ca "_law_number_by" 1 d__law_number_by := by
  obtain ⟨f, fd, F, hm⟩ := T.f__law_number_by
  exact gfn_of (N := N__law_number_by) (ps := ["_law_cell"]) (k := 0) (own' := []) (g := b__law_number_by) F sc__law_number_by hm (F.binds (ps := ["_law_cell"]) fun _ _ _ _ _ _ us hl => match us, hl with | [_], _ => rfl) (fun cdv A outer s H E hr =>
      (gss_cons (gs_set (own := []) (own' := []) 1 sc__law_number_by.nd (ge_op op_modN os_mod (ge_var (pv 0)) ge_int))
      (gss_cons (gs_set (own := []) (own' := []) 2 sc__law_number_by.nd (ge_op op_fdivZ os_div (ge_var (pv 0)) ge_int))
      (gss_cons (gs_if (gt_cmp (op_eqD hr.units) os_eq (ge_var (pv 1)) ge_int)
      (gss_one (gs_ret (ge_op op_sub os_sub (ge_op op_modN os_mod (ge_var (pv 2)) ge_int) ge_int)))
      gss_nil)
      (gss_cons (gs_if (gt_cmp (op_eqD hr.units) os_eq (ge_var (pv 1)) ge_int)
      (gss_one (gs_ret (ge_op op_addA os_add ge_int (ge_op op_modN os_mod (ge_op op_mulA os_mul (ge_var (pv 2)) ge_int) ge_int))))
      gss_nil)
      (gss_cons (gs_if (gt_cmp (op_eqD hr.units) os_eq (ge_var (pv 1)) ge_int)
      (gss_one (gs_ret (ge_op op_mulA os_mul (ge_op op_modN os_mod (ge_var (pv 2)) ge_int) (ge_op op_modN os_mod (ge_op op_fdivZ os_div (ge_var (pv 2)) ge_int) ge_int))))
      gss_nil)
      (gss_cons (gs_if ((gw_and (gt_cmp (op_eqD hr.units) os_eq (ge_var (pv 1)) ge_int) (gw_and1 (gt_cmp (op_eqD hr.units) os_eq (ge_op op_modN os_mod (ge_var (pv 2)) ge_int) ge_int)))).pt
      (gss_one (gs_ret (ge_op op_mulA os_mul (ge_op op_modN os_mod (ge_op op_fdivZ os_div (ge_var (pv 2)) ge_int) ge_int) (ge_op op_modN os_mod (ge_op op_fdivZ os_div (ge_var (pv 2)) ge_int) ge_int))))
      gss_nil)
      (gss_cons (gs_if (gt_cmp (op_eqD hr.units) os_eq (ge_var (pv 1)) ge_int)
      (gss_one (gs_ret (ge_ix (ge_f (gf_lst (ga_cons ge_int (ga_cons ge_int (ga_cons ge_int (ga_cons ge_int (ga_cons ge_int (ga_cons ge_int ga_nil)))))))) (ge_op op_modN os_mod (ge_op op_fdivZ os_div (ge_var (pv 2)) ge_int) ge_int))))
      gss_nil)
      (gss_cons (gs_if (gt_cmp (op_eqD hr.units) os_eq (ge_var (pv 1)) ge_int)
      (gss_one (gs_ret (ge_op op_sub os_sub (ge_op op_modN os_mod (ge_op op_mulA os_mul (ge_var (pv 2)) ge_int) (ge_op op_addA os_add (ge_op op_mulA os_mul ge_int (ge_op op_pow os_pow ge_int ge_int)) ge_int)) (ge_op op_pow os_pow ge_int ge_int))))
      gss_nil)
      (gss_one (gs_ret (ge_op op_modN os_mod (ge_op op_mulA os_mul (ge_var (pv 2)) ge_int) ge_int))))))))))))
theorem body_law (T : Txt K mg) {f : Addr} {fd : FuncData} (F : Fun K "law" "law" st_law f fd) : FnOk P w K mg base (L2.CX P w) 2 f fd ["_law_script"] (spOf K ca 1 d_law) :=
  fnok_of (N := N_law) (ps := ["_law_script"]) (k := 1) (own' := []) (g := b_law) F sc_law (fun cdv A outer s H E hr =>
      (gss_cons (gs_for (own := []) own_def rfl (gi_range1 T.m_range (ga_cons (ge_op op_addA os_add (ge_len T.m_len (ga_cons (ge_var (pv 0)) ga_nil)) ge_int) ga_nil)) (gg_name 1 sc_law.nd)
      (gss_cons (gs_set (own := []) (own' := []) 2 sc_law.nd ge_int)
      (gss_cons (gs_if (gt_cmp op_gt os_gt (ge_len T.m_len (ga_cons (ge_var (pv 0)) ga_nil)) ge_int)
      (gss_one (gs_set (own := []) (own' := []) 2 sc_law.nd (ge_call (w__law_number_by T) hr takes_def (ga_cons (ge_ix (ge_var (pv 0)) (ge_op op_sub os_sub (ge_var (pv 1)) ge_int)) ga_nil))))
      gss_nil)
      (gss_cons (gs_set (own := []) (own' := []) 3 sc_law.nd (ge_call (w_is_prime T) hr takes_def (ga_cons (ge_var (pv 2)) ga_nil)))
      (gss_one (gs_if ((gw_or (gt_not (gt_val (ge_isi .bool T.m_isinstance T.m_bool (ge_var (pv 3)) (pe_callB call_isi (by rfl) T.m_isinstance (by decide +kernel) (pa_cons (ge_var (pv 3)) (pa_cons (pe_bltn (by rfl) T.m_bool (by decide +kernel) rfl) pa_nil)))))) (gw_or1 (gt_cmp (op_neD hr.units) os_ne (ge_var (pv 3)) (ge_call (w__law_due T) hr takes_def (ga_cons (ge_var (pv 2)) ga_nil)))))).pt
      (gss_one (gs_ret ge_bl))
      gss_nil))))))
      (gss_one (gs_ret ge_bl))))
end
theorem all_mk {l : PySem.W.OpenLaw} {w : World} {K : PySem.W.Frag} {h : Heap} {mg : Str → Option Value} {fa : Addr} (X : K.In h) (G : h.Ns mainGlobals mg) (hfa : mg "law" = some (.ref fa))
    {f0 : Addr} {od0 an0 : Option Addr} {sl0 : Array (Option Value)} {oc0 kV0 dc0 pm0 cd0 ct0 : Value}
    {f1 : Addr} {od1 an1 : Option Addr} {sl1 : Array (Option Value)} {oc1 kV1 dc1 pm1 cd1 ct1 : Value}
    {f2 : Addr} {od2 an2 : Option Addr} {sl2 : Array (Option Value)} {oc2 kV2 dc2 pm2 cd2 ct2 : Value}
    {f3 : Addr} {od3 an3 : Option Addr} {sl3 : Array (Option Value)} {oc3 kV3 dc3 pm3 cd3 ct3 : Value}
    (a0 : PySem.W.nsIn K mainGlobals "is_prime" = some (some (.ref f0))) (l0 : K.lookup f0 = some ⟨oc0, od0, .func (PySem.W.fnOf "is_prime" "is_prime" (defArgs st_is_prime) (defBody st_is_prime) (defScope st_is_prime) .none kV0 dc0 pm0 an0 cd0 ct0), sl0⟩) (c0 : PySem.W.codeIn K cd0 "is_prime" = true) (k0 : PySem.W.keepIn K (.ref f0) = true)
    (a1 : PySem.W.nsIn K mainGlobals "_law_due" = some (some (.ref f1))) (l1 : K.lookup f1 = some ⟨oc1, od1, .func (PySem.W.fnOf "_law_due" "_law_due" (defArgs st__law_due) (defBody st__law_due) (defScope st__law_due) .none kV1 dc1 pm1 an1 cd1 ct1), sl1⟩) (c1 : PySem.W.codeIn K cd1 "_law_due" = true) (k1 : PySem.W.keepIn K (.ref f1) = true)
    (a2 : PySem.W.nsIn K mainGlobals "_law_number_by" = some (some (.ref f2))) (l2 : K.lookup f2 = some ⟨oc2, od2, .func (PySem.W.fnOf "_law_number_by" "_law_number_by" (defArgs st__law_number_by) (defBody st__law_number_by) (defScope st__law_number_by) .none kV2 dc2 pm2 an2 cd2 ct2), sl2⟩) (c2 : PySem.W.codeIn K cd2 "_law_number_by" = true) (k2 : PySem.W.keepIn K (.ref f2) = true)
    (a3 : PySem.W.nsIn K mainGlobals "law" = some (some (.ref f3))) (l3 : K.lookup f3 = some ⟨oc3, od3, .func (PySem.W.fnOf "law" "law" (defArgs st_law) (defBody st_law) (defScope st_law) .none kV3 dc3 pm3 an3 cd3 ct3), sl3⟩) (c3 : PySem.W.codeIn K cd3 "law" = true) (k3 : PySem.W.keepIn K (.ref f3) = true)
    (z0 : PySem.W.nsIn K mainGlobals "bool" = some none)
    (z1 : PySem.W.nsIn K mainGlobals "isinstance" = some none)
    (z2 : PySem.W.nsIn K mainGlobals "len" = some none)
    (z3 : PySem.W.nsIn K mainGlobals "range" = some none)
    {t0 : Tok} (y0 : PySem.W.nsIn K mainGlobals "GREATEST" = some (some (.int 9973 t0)))
    : ∃ fd : FuncData, (∀ (s : Shared) (v : Value), BindsTo s fd ⟨[v], []⟩ [("_law_script", v)]) ∧ ∀ base : Heap, K.In base → base.Ns mainGlobals mg → FnOk l.prog w K mg base (L2.CX l.prog w) 2 fa fd ["_law_script"] (spOf K (fun _ => 0) 1 d_law) := by
  have e := hfa.symm.trans (PySem.W.mg_of X G a3)
  cases e
  have F0 := fun_mk (st := st_is_prime) l0 c0 k0
  have F1 := fun_mk (st := st__law_due) l1 c1 k1
  have F2 := fun_mk (st := st__law_number_by) l2 c2 k2
  have F3 := fun_mk (st := st_law) l3 c3 k3
  have T : Txt K mg := ⟨⟨_, _, F0, PySem.W.mg_of X G a0⟩, ⟨_, _, F1, PySem.W.mg_of X G a1⟩, ⟨_, _, F2, PySem.W.mg_of X G a2⟩, ⟨_, _, F3, PySem.W.mg_of X G a3⟩, PySem.W.mg_none_of X G z0, ⟨_, PySem.W.mg_of X G y0⟩, PySem.W.mg_none_of X G z1, PySem.W.mg_none_of X G z2, PySem.W.mg_none_of X G z3⟩
  refine ⟨PySem.W.fnOf "law" "law" (defArgs st_law) (defBody st_law) (defScope st_law) .none kV3 dc3 pm3 an3 cd3 ct3, fun s v => .of_eq rfl, fun base _ _ => ?_⟩
  exact body_law T F3
end LW

namespace LW
open PySem L2 GL
theorem number_by (c : Int) : ∃ v, d__law_number_by [.int c] = .ok (.int v) := by
  unfold d__law_number_by
  rw [runF_1]
  unfold b__law_number_by
  have h : 0 ≤ c / 6 / 2 % 6 ∧ c / 6 / 2 % 6 < 6 := by omega
  generalize hi : c / 6 / 2 % 6 = i at h
  have q : i = 0 ∨ i = 1 ∨ i = 2 ∨ i = 3 ∨ i = 4 ∨ i = 5 := by omega
  have hm : ∀ (a m n : Int), 0 < m → m < 200 → opMul (.int (a % m)) (.int n) = some (.int (a % m * n)) := fun a m n h0 h1 => by
    have := Int.emod_nonneg a (Int.ne_of_gt h0)
    have := Int.emod_lt_of_pos a h0
    exact opMul_l (by omega) (by omega)
  have hp : opPow (.int 10) (.int 60) = some (.int (10 ^ 60)) := opPow_i (by unfold powOk; decide)
  have he : ∀ x y : Int, opEq (.int x) (.int y) = some (.bl (decide (x = y))) := fun _ _ => rfl
  rcases q with q | q | q | q | q | q <;> subst q <;>
    simp [ite_seq, ite_res, ite_bind, ite_out, opMod_p, opDiv_p, opMul_r, opMul_l, hm, hp, hi, he, atI_p] <;>
    repeat' split
  all_goals exact ⟨_, rfl⟩
def loopM : Nat → Int → Int → Bool
  | 0, _, _ => true
  | k + 1, n, b => if b * b ≤ n then (if n % b = 0 then false else loopM k n (b + 1)) else true
theorem loop_p {c : EnvG → Res Bool} {l : EnvG → Out} {n : Int} (hn : n ≤ 9973)
    (hc : ∀ b : Int, 2 ≤ b → b < 200 → c [some (.int n), some (.int b)] = .ok (decide (b * b ≤ n)))
    (hl : ∀ b : Int, 2 ≤ b → b < 200 → l [some (.int n), some (.int b)] = if n % b = 0 then .rt (.bl false) else .nx [some (.int n), some (.int (b + 1))]) :
    ∀ (k : Nat) (b : Int), 2 ≤ b → b + k = 101 → ∃ ev, gWhile c l [some (.int n), some (.int b)] = if loopM k n b = true then .nx ev else .rt (.bl false)
  | 0, b, h2, hk => by
    have hb : b = 101 := by omega
    subst hb
    refine ⟨[some (.int n), some (.int 101)], ?_⟩
    rw [gWhile_unfold, hc 101 (by omega) (by omega)]
    simp [loopM, show ¬ (10201 ≤ n) by omega]
  | k + 1, b, h2, hk => by
    rw [gWhile_unfold, hc b h2 (by omega), hl b h2 (by omega)]
    by_cases h : b * b ≤ n
    · by_cases h3 : n % b = 0
      · exact ⟨[], by simp [loopM, h, h3]⟩
      · obtain ⟨ev, e⟩ := loop_p hn hc hl k (b + 1) (by omega) (by omega)
        exact ⟨ev, by simp [loopM, h, h3, e]⟩
    · exact ⟨[some (.int n), some (.int b)], by simp [loopM, h]⟩
noncomputable def primeM (n : Int) : Bool := if n < 2 ∨ 9973 < n then false else loopM 99 n 2
theorem is_prime_e (n : Int) : d_is_prime [.int n] = .ok (.bl (primeM n)) := by
  unfold d_is_prime
  rw [runF_1]
  unfold b_is_prime
  have he : ∀ x y : Int, opEq (.int x) (.int y) = some (.bl (decide (x = y))) := fun _ _ => rfl
  have key : n ≤ 9973 → ∃ ev, gWhile c_is_prime_1 l_is_prime_1 [some (.int n), some (.int 2)] = if loopM 99 n 2 = true then .nx ev else .rt (.bl false) := fun hn =>
    loop_p hn (fun b h2 h3 => by
      unfold c_is_prime_1
      simp [opMul_r (i := b) (j := b) (by omega) (by omega)]) (fun b h2 h3 => by
      unfold l_is_prime_1
      simp [opMod_p (i := n) (j := b) (by omega), he, ite_seq]) 99 2 (by omega) (by omega)
  unfold primeM
  by_cases h1 : n < 2
  · simp [h1]
  · by_cases h2 : 9973 < n
    · simp [h1, h2]
    · obtain ⟨ev, e⟩ := key (by omega)
      simp [h1, h2, e]
      split <;> simp_all
theorem due_e (n : Int) : d__law_due [.int n] = .ok (.bl (primeM n)) := by
  unfold d__law_due
  rw [runF_1]
  unfold b__law_due
  have he : ∀ x y : Int, opEq (.int x) (.int y) = some (.bl (decide (x = y))) := fun _ _ => rfl
  have key : n ≤ 9973 → ∃ ev, gWhile c__law_due_1 l__law_due_1 [some (.int n), some (.int 2)] = if loopM 99 n 2 = true then .nx ev else .rt (.bl false) := fun hn =>
    loop_p hn (fun b h2 h3 => by
      unfold c__law_due_1
      simp [opMul_r (i := b) (j := b) (by omega) (by omega)]) (fun b h2 h3 => by
      unfold l__law_due_1
      simp [opMod_p (i := n) (j := b) (by omega), he, ite_seq]) 99 2 (by omega) (by omega)
  unfold primeM
  by_cases h1 : n < 2
  · simp [h1]
  · by_cases h2 : 9973 < n
    · simp [h1, h2]
    · obtain ⟨ev, e⟩ := key (by omega)
      simp [h1, h2, e]
      split <;> simp_all
theorem turn (ns : List Int) (k : Nat) (hk : k < ns.length + 1) (x2 x3 : Option D) : ∃ y2 y3, l_law_1 [some (.scr (dInts ns)), some (.int k), x2, x3] = .nx [some (.scr (dInts ns)), some (.int k), y2, y3] := by
  unfold l_law_1
  have hb : ∀ b : Bool, opNe (.bl b) (.bl b) = some (.bl false) := fun b => by cases b <;> rfl
  by_cases h : 0 < ns.length
  · obtain ⟨v, hv⟩ := atI_ints (ns := ns) (i := (k : Int) - 1) (by omega) (by omega)
    obtain ⟨u, hu⟩ := number_by v
    exact ⟨_, _, by simp [dInts_len, h, hv, hu, is_prime_e, due_e, isTy, hb]; exact ⟨rfl, rfl⟩⟩
  · exact ⟨_, _, by simp [dInts_len, h, is_prime_e, due_e, isTy, hb]; exact ⟨rfl, rfl⟩⟩
theorem hr_ (ns : List Int) (hl : ns.length ≤ 63) : iRange1 [.int ((ns.length : Int) + 1)] = .ok (rangeD 0 (ns.length + 1) 1) := range1_n (by omega) (by omega)
theorem step_ (ns : List Int) (k : Nat) (x1 x2 x3 : Option D) (h1 : k < ns.length + 1) : ∃ ev1, gg1 1 (.int (0 + (k : Int))) [some (.scr (dInts ns)), x1, x2, x3] = some ev1 ∧ ∃ ev2, (l_law_1 ev1 = .nx ev2 ∨ l_law_1 ev1 = .ct ev2) ∧ ∃ x1 x2 x3, ev2 = [some (.scr (dInts ns)), x1, x2, x3] := by
  obtain ⟨y2, y3, e⟩ := turn ns k h1 x2 x3
  rw [Int.zero_add]
  exact ⟨_, rfl, _, .inl e, _, _, _, rfl⟩
theorem loop_ (ns : List Int) : ∃ ev, forL (gg1 1) l_law_1 (rangeD 0 (ns.length + 1) 1) [some (.scr (dInts ns)), none, none, none] = .nx ev := by
  obtain ⟨ev, e, _⟩ := forL_inv (set := gg1 1) (b := l_law_1) (ds := rangeD 0 (ns.length + 1) 1) (fun _ ev => ∃ x1 x2 x3, ev = [some (.scr (dInts ns)), x1, x2, x3]) (ev := [some (.scr (dInts ns)), none, none, none]) ⟨none, none, none, rfl⟩
    (fun k ev d ⟨x1, x2, x3, hev⟩ hd => by
      obtain ⟨h1, h2⟩ := range_at hd
      subst hev h2
      exact step_ ns k x1 x2 x3 h1)
  exact ⟨ev, e⟩
theorem law_true (ns : List Int) (hl : ns.length ≤ 63) : d_law [.scr (dInts ns)] = .ok (.bl true) := by
  unfold d_law
  rw [runF_1]
  unfold b_law
  obtain ⟨ev, e⟩ := loop_ ns
  have hr := hr_ ns hl
  simp [dInts_len, hr, e]
end LW

open PySem PySem.W PyProof.Rows
set_option maxHeartbeats 0 in
theorem PySem.Challenge.cw_factorforge_k04_primes_holds : PySem.Challenge.rw_factorforge_k04_primes.Holds := by
  w_on; o_law; k_head; (case hw => w_witness2)
  k_fill
  refine L2.walk_of (l := PySem.Challenge.rw_factorforge_k04_primes) (n := 63) (k := 2) (x := "_law_script") (CX := fun w => L2.CX (PySem.Challenge.rw_factorforge_k04_primes).prog w) (sp := fun w => GL.spOf _ (fun _ => 0) 1 LW.d_law) rfl (by decide) rfl ⟨rfl, by decide, by decide⟩ (fun w h Y => PySem.W.kIn_of Y) ?F (fun _ _ a ns hl _ hS => GL.end_sp (LW.law_true ns hl) hS) (fun _ _ _ _ _ h => GL.end_cx h)
  case F =>
    intro w mg fa h KX G hmg
    refine' LW.all_mk KX G hmg ?a0 ?l0 ?c0 ?k0 ?a1 ?l1 ?c1 ?k1 ?a2 ?l2 ?c2 ?k2 ?a3 ?l3 ?c3 ?k3 ?z0 ?z1 ?z2 ?z3 ?y0
    (case a0 => k_is); (case l0 => k_is); (case c0 => k_is); (case k0 => k_is); (case a1 => k_is); (case l1 => k_is); (case c1 => k_is); (case k1 => k_is)
    (case a2 => k_is); (case l2 => k_is); (case c2 => k_is); (case k2 => k_is); (case a3 => k_is); (case l3 => k_is); (case c3 => k_is); (case k3 => k_is)
    (case z0 => k_is); (case z1 => k_is); (case z2 => k_is); (case z3 => k_is); (case y0 => k_is)

