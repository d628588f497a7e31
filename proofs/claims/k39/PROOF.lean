import PyProof.Rows.All
import Wide.All
import OpenK.AllK
import Wide.FinOn
import HandS.ForMost
import HandS.Walk
import HandS.Star
import HandS.TupAny
import HandS.TupMul
import HandS.TupLe
import HandS.WideBits
import HandS.Conv
import HandS.WordsDict
import HandS.NoneIn
import KE.KTupSum
import HandS.Words
import HandS.Style
import KE.GoesNew
import KE.GoesMore
import PySem.Challenge.RW_bitsasked_k39_whole_changes_of_rising_fu
set_option Elab.async false
set_option linter.all false
set_option maxRecDepth 100000
set_option maxHeartbeats 4000000
/-! The M layer, part 1: values without a heap, programs with drawn numbers, what a value stands for, expressions. -/
namespace ML
open PySem PySem.Spec PyProof.Rows L2

/-! ### programs with drawn numbers -/
inductive M (α : Type) where
  | ret (a : α)
  | bad
  | pick (n : Nat) (k : Nat → M α)
namespace M
def bind {α β : Type} : M α → (α → M β) → M β
  | .ret a, f => f a
  | .bad, _ => .bad
  | .pick n k, f => .pick n fun r => bind (k r) f
instance : Monad M where
  pure := M.ret
  bind := M.bind
def All {α : Type} (Q : α → Prop) : M α → Prop
  | .ret a => Q a
  | .bad => False
  | .pick n k => ∀ r, r < max n 1 → All Q (k r)
@[simp] theorem ret_bind {α β : Type} (a : α) (f : α → M β) : (M.ret a >>= f) = f a := rfl
@[simp] theorem bad_bind {α β : Type} (f : α → M β) : (M.bad >>= f) = M.bad := rfl
@[simp] theorem pick_bind {α β : Type} (n : Nat) (k : Nat → M α) (f : α → M β) : (M.pick n k >>= f) = M.pick n fun r => k r >>= f := rfl
theorem bind_ret {α : Type} (m : M α) : (m >>= M.ret) = m := by
  induction m with
  | ret a => rfl
  | bad => rfl
  | pick n k ih => rw [pick_bind]; congr; funext r; exact ih r
theorem assoc {α β γ : Type} (m : M α) (f : α → M β) (g : β → M γ) : ((m >>= f) >>= g) = (m >>= fun a => f a >>= g) := by
  induction m with
  | ret a => rfl
  | bad => rfl
  | pick n k ih => rw [pick_bind, pick_bind, pick_bind]; congr; funext r; exact ih r
theorem pure_eq {α : Type} (a : α) : (pure a : M α) = M.ret a := rfl
theorem map_eq {α β : Type} (f : α → β) (m : M α) : (f <$> m) = (m >>= fun a => M.ret (f a)) := rfl
instance : LawfulMonad M := LawfulMonad.mk' (m := M) (id_map := fun m => bind_ret m) (pure_bind := fun _ _ => rfl) (bind_assoc := fun m f g => assoc m f g)
theorem All.mono {α : Type} {Q R : α → Prop} (h : ∀ a, Q a → R a) : ∀ {m : M α}, m.All Q → m.All R
  | .ret a, q => h a q
  | .bad, q => q
  | .pick n k, q => fun r hr => All.mono h (q r hr)
@[simp] theorem all_ret {α : Type} {Q : α → Prop} (a : α) : (M.ret a).All Q ↔ Q a := Iff.rfl
@[simp] theorem all_bad {α : Type} {Q : α → Prop} : (M.bad : M α).All Q ↔ False := Iff.rfl
theorem all_pick {α : Type} {Q : α → Prop} {n : Nat} {k : Nat → M α} : (M.pick n k).All Q ↔ ∀ r, r < max n 1 → (k r).All Q := Iff.rfl
theorem all_bind {α β : Type} {Q : β → Prop} (m : M α) (f : α → M β) : (m >>= f).All Q ↔ m.All fun a => (f a).All Q := by
  induction m with
  | ret a => exact Iff.rfl
  | bad => exact Iff.rfl
  | pick n k ih => exact ⟨fun h r hr => (ih r).mp (h r hr), fun h r hr => (ih r).mpr (h r hr)⟩
end M

/-! ### values without a heap -/
inductive PV where
  | non | bl (b : Bool) | int (i : Int) | str (s : Str) | tup (xs : List PV) | lst (xs : List PV) | dct (kvs : List (PV × PV)) | src
  deriving Inhabited

/-- the known part of the heap that never changes; where the drawn numbers' source stands -/
structure Wd where
  G : Hp
  S : Option (Addr × Addr)
def Sub (G H : Hp) : Prop := ∀ a o, G a = some o → H a = some o
theorem Sub.refl (G : Hp) : Sub G G := fun _ _ h => h
theorem Sub.trans {A B C : Hp} (h : Sub A B) (h' : Sub B C) : Sub A C := fun a o q => h' a o (h a o q)
theorem Sub.put {G : Hp} {a : Addr} {o : HO} (h : G a = none) : Sub G (upd G a o) := fun b u q => by rw [upd_ne (ne_of_none q h)]; exact q
theorem Sub.put_right {G H : Hp} {a : Addr} {o : HO} (s : Sub G H) (h : G a = none) : Sub G (upd H a o) := fun b u q => by rw [upd_ne (ne_of_none q h)]; exact s b u q
theorem Sub.put2 {G H : Hp} {a : Addr} {o : HO} (s : Sub G H) : Sub (upd G a o) (upd H a o) := fun b u q => by
  by_cases e : b = a
  · subst e; rw [upd_same] at q ⊢; exact q
  · rw [upd_ne e] at q ⊢; exact s b u q
theorem Sub.none {G H : Hp} {a : Addr} (s : Sub G H) (h : H a = none) : G a = none := by
  cases e : G a with
  | none => rfl
  | some o => rw [s a o e] at h; cases h
structure Wd.le (W W' : Wd) : Prop where
  g : Sub W.G W'.G
  s : W.S = none ∨ W'.S = W.S
theorem Wd.le.refl (W : Wd) : W.le W := ⟨Sub.refl _, .inr rfl⟩
theorem Wd.le.trans {A B C : Wd} (h : A.le B) (h' : B.le C) : A.le C := ⟨h.g.trans h'.g, by
  rcases h.s with e | e
  · exact .inl e
  · rcases h'.s with e' | e'
    · exact .inl (e ▸ e')
    · exact .inr (e'.trans e)⟩

mutual
/-- what v stands for -/
inductive Rp : Wd → V → PV → Prop
  | non {W} : Rp W .non .non
  | bl {W} (b : Bool) : Rp W (.bl b) (.bl b)
  | int {W} (i : Int) : Rp W (.int i) (.int i)
  | str {W} (s : Str) : Rp W (.str s) (.str s)
  | tup {W} {a : Addr} {xs : List V} {ps : List PV} : W.G a = some (.tup xs) → RpL W xs ps → Rp W (.ref a) (.tup ps)
  | lst {W} {a : Addr} {xs : List V} {ps : List PV} : W.G a = some (.lst xs) → RpL W xs ps → Rp W (.ref a) (.lst ps)
  | src {W} {a b : Addr} : W.S = some (a, b) → Rp W (.ref a) .src
inductive RpL : Wd → List V → List PV → Prop
  | nil {W} : RpL W [] []
  | cons {W} {v : V} {vs : List V} {p : PV} {ps : List PV} : Rp W v p → RpL W vs ps → RpL W (v :: vs) (p :: ps)
end
mutual
theorem Rp.mono {W W' : Wd} (h : W.le W') : ∀ {v : V} {p : PV}, Rp W v p → Rp W' v p
  | _, _, .non => .non
  | _, _, .bl b => .bl b
  | _, _, .int i => .int i
  | _, _, .str s => .str s
  | _, _, .tup e r => .tup (h.g _ _ e) (RpL.mono h r)
  | _, _, .lst e r => .lst (h.g _ _ e) (RpL.mono h r)
  | _, _, .src e => .src (h.s.elim (fun q => nomatch (q.symm.trans e)) fun q => q.trans e)
theorem RpL.mono {W W' : Wd} (h : W.le W') : ∀ {vs : List V} {ps : List PV}, RpL W vs ps → RpL W' vs ps
  | _, _, .nil => .nil
  | _, _, .cons r rs => .cons (Rp.mono h r) (RpL.mono h rs)
end
namespace RpL
variable {W : Wd}
theorem length : ∀ {vs : List V} {ps : List PV}, RpL W vs ps → vs.length = ps.length
  | _, _, .nil => rfl
  | _, _, .cons _ r => congrArg (· + 1) (length r)
theorem get : ∀ {vs : List V} {ps : List PV} {i : Nat} {v : V}, RpL W vs ps → vs[i]? = some v → ∃ p, ps[i]? = some p ∧ Rp W v p
  | _, _, _, _, .nil, e => by simp at e
  | _, _, 0, _, .cons r _, e => by simp at e; subst e; exact ⟨_, rfl, r⟩
  | _, _, i + 1, v, .cons _ t, e => by
    obtain ⟨u, h1, h2⟩ := get (i := i) (v := v) t (by simpa using e)
    exact ⟨u, by simpa using h1, h2⟩
theorem getP : ∀ {vs : List V} {ps : List PV} {i : Nat} {p : PV}, RpL W vs ps → ps[i]? = some p → ∃ v, vs[i]? = some v ∧ Rp W v p
  | _, _, _, _, .nil, e => by simp at e
  | _, _, 0, _, .cons r _, e => by simp at e; subst e; exact ⟨_, rfl, r⟩
  | _, _, i + 1, p, .cons _ t, e => by
    obtain ⟨u, h1, h2⟩ := getP (i := i) (p := p) t (by simpa using e)
    exact ⟨u, by simpa using h1, h2⟩
theorem append : ∀ {vs ws : List V} {ps qs : List PV}, RpL W vs ps → RpL W ws qs → RpL W (vs ++ ws) (ps ++ qs)
  | _, _, _, _, .nil, s => s
  | _, _, _, _, .cons r t, s => .cons r (append t s)
theorem one {v : V} {p : PV} (h : Rp W v p) : RpL W [v] [p] := .cons h .nil
theorem set {v : V} {p : PV} (r : Rp W v p) : ∀ {vs : List V} {ps : List PV} (i : Nat), RpL W vs ps → RpL W (vs.set i v) (ps.set i p)
  | _, _, _, .nil => .nil
  | _, _, 0, .cons _ t => .cons r t
  | _, _, i + 1, .cons q t => .cons q (set r i t)
theorem take : ∀ {vs : List V} {ps : List PV} (n : Nat), RpL W vs ps → RpL W (vs.take n) (ps.take n)
  | _, _, 0, _ => .nil
  | _, _, _ + 1, .nil => .nil
  | _, _, n + 1, .cons r t => .cons r (take n t)
theorem drop : ∀ {vs : List V} {ps : List PV} (n : Nat), RpL W vs ps → RpL W (vs.drop n) (ps.drop n)
  | _, _, 0, r => r
  | _, _, _ + 1, .nil => .nil
  | _, _, n + 1, .cons _ t => drop n t
theorem reverse {vs : List V} {ps : List PV} (h : RpL W vs ps) : RpL W vs.reverse ps.reverse := by
  induction vs generalizing ps with
  | nil => cases h; exact .nil
  | cons v vs ih =>
    cases h with
    | cons r t => rw [List.reverse_cons, List.reverse_cons]; exact append (ih t) (.one r)
theorem rep {vs : List V} {ps : List PV} (h : RpL W vs ps) : ∀ k : Nat, RpL W (List.replicate k vs).flatten (List.replicate k ps).flatten
  | 0 => .nil
  | k + 1 => by rw [List.replicate_succ, List.replicate_succ, List.flatten_cons, List.flatten_cons]; exact append h (rep h k)
end RpL
theorem Rp.inv_int {W : Wd} {v : V} {i : Int} (h : Rp W v (.int i)) : v = .int i := by cases h; rfl
theorem Rp.inv_bl {W : Wd} {v : V} {b : Bool} (h : Rp W v (.bl b)) : v = .bl b := by cases h; rfl
theorem Rp.inv_str {W : Wd} {v : V} {b : Str} (h : Rp W v (.str b)) : v = .str b := by cases h; rfl
theorem Rp.inv_non {W : Wd} {v : V} (h : Rp W v .non) : v = .non := by cases h; rfl
theorem Rp.inv_tup {W : Wd} {v : V} {ps : List PV} (h : Rp W v (.tup ps)) : ∃ a xs, v = .ref a ∧ W.G a = some (.tup xs) ∧ RpL W xs ps := by
  cases h with | tup e r => exact ⟨_, _, rfl, e, r⟩
theorem Rp.inv_lst {W : Wd} {v : V} {ps : List PV} (h : Rp W v (.lst ps)) : ∃ a xs, v = .ref a ∧ W.G a = some (.lst xs) ∧ RpL W xs ps := by
  cases h with | lst e r => exact ⟨_, _, rfl, e, r⟩
theorem Rp.inv_src {W : Wd} {v : V} (h : Rp W v .src) : ∃ a b, v = .ref a ∧ W.S = some (a, b) := by
  cases h with | src e => exact ⟨_, _, rfl, e⟩

/-- the source of drawn numbers as it stands -/
def SrcAt (H : Hp) (sd sc : Addr) : Prop := sd ≠ sc ∧ ∃ (cs : List Int) (left mixed turn : Int), H sd = some (.dK [(.inr "cells", .ref sc), (.inr "left", .int left), (.inr "mixed", .int mixed), (.inr "turn", .int turn)]) ∧
  H sc = some (.lst (cs.map V.int)) ∧ 0 ≤ mixed ∧ mixed < 2 ^ 31
/-- the heap: the known part, what others own, the source: apart -/
structure Hs (F : Hp) (W : Wd) (H : Hp) : Prop where
  g : Sub W.G H
  f : Sub F H
  d : ∀ a o, W.G a = some o → F a = none
  s : ∀ sd sc, W.S = some (sd, sc) → SrcAt H sd sc ∧ W.G sd = none ∧ W.G sc = none ∧ F sd = none ∧ F sc = none
theorem Hs.d' {F : Hp} {W : Wd} {H : Hp} (h : Hs F W H) {a : Addr} {o : HO} (e : F a = some o) : W.G a = none := by
  cases q : W.G a with
  | none => rfl
  | some u => rw [h.d a u q] at e; cases e

inductive Slot where
  | no | fr (p : PV) | ow (p : PV)
/-- an object that the def owns -/
def OwnO (W : Wd) (o : HO) (p : PV) : Prop := ∃ xs ps, p = .lst ps ∧ o = .lst xs ∧ RpL W xs ps
theorem OwnO.mono {W W' : Wd} {o : HO} {p : PV} (h : W.le W') (z : OwnO W o p) : OwnO W' o p := by
  obtain ⟨xs, ps, e, f, r⟩ := z
  exact ⟨xs, ps, e, f, r.mono h⟩
theorem OwnO.lst {W : Wd} {xs : List V} {ps : List PV} (r : RpL W xs ps) : OwnO W (.lst xs) (.lst ps) := ⟨xs, ps, rfl, rfl, r⟩
theorem OwnO.inv_lst {W : Wd} {o : HO} {ps : List PV} (z : OwnO W o (.lst ps)) : ∃ xs, o = .lst xs ∧ RpL W xs ps := by
  obtain ⟨xs, ps', e, f, r⟩ := z
  cases e
  exact ⟨xs, f, r⟩
def Own (F : Hp) (W : Wd) (a : Addr) (p : PV) : Prop := ∃ o, F a = some o ∧ OwnO W o p
def SlotOk (F : Hp) (W : Wd) : Slot → Option (Option V) → Prop
  | .no, _ => True
  | .fr p, ov => ∃ v, ov = some (some v) ∧ Rp W v p
  | .ow p, ov => ∃ a, ov = some (some (.ref a)) ∧ Own F W a p
theorem Own.mono {F : Hp} {W W' : Wd} {a : Addr} {p : PV} (h : W.le W') (o : Own F W a p) : Own F W' a p := by
  obtain ⟨u, e, z⟩ := o
  exact ⟨u, e, z.mono h⟩
theorem SlotOk.mono {F : Hp} {W W' : Wd} (h : W.le W') : ∀ {s : Slot} {ov : Option (Option V)}, SlotOk F W s ov → SlotOk F W' s ov
  | .no, _, _ => trivial
  | .fr _, _, ⟨v, e, r⟩ => ⟨v, e, r.mono h⟩
  | .ow _, _, ⟨a, e, o⟩ => ⟨a, e, o.mono h⟩
/-- the names' values -/
abbrev Env := List Slot
structure Sta (F : Hp) (W : Wd) (ρ : Env) (σ : L2.St) (H : Hp) : Prop where
  hs : Hs F W H
  at_ : ∀ (i : Nat) (s : Slot), ρ[i]? = some s → SlotOk F W s σ[i]?
theorem Sta.grow {F : Hp} {W W' : Wd} {ρ : Env} {σ : L2.St} {H H' : Hp} (S : Sta F W ρ σ H) (h : W.le W') (hs : Hs F W' H') : Sta F W' ρ σ H' :=
  ⟨hs, fun i s e => (S.at_ i s e).mono h⟩

/-! ### a new object joins the known part -/
def Wd.add (W : Wd) (a : Addr) (o : HO) : Wd := ⟨upd W.G a o, W.S⟩
theorem Wd.add_le {W : Wd} {a : Addr} {o : HO} (h : W.G a = none) : W.le (W.add a o) := ⟨Sub.put h, .inr rfl⟩
theorem SrcAt.keep {H H' : Hp} {sd sc : Addr} (s : SrcAt H sd sc) (h1 : H' sd = H sd) (h2 : H' sc = H sc) : SrcAt H' sd sc := by
  obtain ⟨n, cs, l, m, t, e1, e2, r⟩ := s
  exact ⟨n, cs, l, m, t, by rw [h1, e1], by rw [h2, e2], r⟩
theorem SrcAt.ne {H : Hp} {sd sc a : Addr} (s : SrcAt H sd sc) (h : H a = none) : sd ≠ a ∧ sc ≠ a := by
  obtain ⟨n, cs, l, m, t, e1, e2, r⟩ := s
  exact ⟨ne_of_none e1 h, ne_of_none e2 h⟩
theorem Hs.new {F : Hp} {W : Wd} {H : Hp} {a : Addr} {o : HO} (h : Hs F W H) (e : H a = none) : Hs F (W.add a o) (upd H a o) := by
  refine ⟨h.g.put2, h.f.put_right (h.f.none e), fun b u q => ?_, fun sd sc q => ?_⟩
  · by_cases hb : b = a
    · subst hb; exact h.f.none e
    · have q : upd W.G a o b = some u := q
      rw [upd_ne hb] at q; exact h.d b u q
  · obtain ⟨s, g1, g2, f1, f2⟩ := h.s sd sc q
    obtain ⟨n1, n2⟩ := s.ne e
    exact ⟨s.keep (upd_ne n1) (upd_ne n2), (upd_ne n1).trans g1, (upd_ne n2).trans g2, f1, f2⟩
/-- .. or stays apart -/
theorem Hs.apart {F : Hp} {W : Wd} {H : Hp} {a : Addr} {o : HO} (h : Hs F W H) (e : H a = none) : Hs (upd F a o) W (upd H a o) := by
  refine ⟨h.g.put_right (h.g.none e), h.f.put2, fun b u q => ?_, fun sd sc q => ?_⟩
  · have hb : b ≠ a := ne_of_none q (h.g.none e)
    rw [upd_ne hb]; exact h.d b u q
  · obtain ⟨s, g1, g2, f1, f2⟩ := h.s sd sc q
    obtain ⟨n1, n2⟩ := s.ne e
    exact ⟨s.keep (upd_ne n1) (upd_ne n2), g1, g2, (upd_ne n1).trans f1, (upd_ne n2).trans f2⟩
/-- what is apart is changed -/
theorem Hs.change {F : Hp} {W : Wd} {H : Hp} {a : Addr} {o o' : HO} (h : Hs F W H) (e : F a = some o) : Hs (upd F a o') W (upd H a o') := by
  refine ⟨h.g.put_right (h.d' e), h.f.put2, fun b u q => ?_, fun sd sc q => ?_⟩
  · have hb : b ≠ a := ne_of_none q (h.d' e)
    rw [upd_ne hb]; exact h.d b u q
  · obtain ⟨s, g1, g2, f1, f2⟩ := h.s sd sc q
    have n1 : sd ≠ a := fun z => by rw [z, e] at f1; cases f1
    have n2 : sc ≠ a := fun z => by rw [z, e] at f2; cases f2
    exact ⟨s.keep (upd_ne n1) (upd_ne n2), g1, g2, (upd_ne n1).trans f1, (upd_ne n2).trans f2⟩
/-- what stood apart joins the known part; F' is F without it -/
theorem Hs.join {F F' : Hp} {W : Wd} {H : Hp} {a : Addr} {o : HO} (h : Hs F W H) (e : H a = some o) (hg : W.G a = none) (fs : Sub F' F) (fa : F' a = none) (hn : ∀ sd sc, W.S = some (sd, sc) → sd ≠ a ∧ sc ≠ a) : Hs F' (W.add a o) H := by
  refine ⟨fun b u q => ?_, fs.trans h.f, fun b u q => ?_, fun sd sc q => ?_⟩
  · by_cases hb : b = a
    · subst hb
      have q : upd W.G b o b = some u := q
      rw [upd_same] at q; rw [e, ← q]
    · have q : upd W.G a o b = some u := q
      rw [upd_ne hb] at q; exact h.g b u q
  · by_cases hb : b = a
    · subst hb; exact fa
    · have q : upd W.G a o b = some u := q
      rw [upd_ne hb] at q
      exact fs.none (h.d b u q)
  · obtain ⟨s, g1, g2, f1, f2⟩ := h.s sd sc q
    obtain ⟨n1, n2⟩ := hn sd sc q
    exact ⟨s, (upd_ne n1).trans g1, (upd_ne n2).trans g2, fs.none f1, fs.none f2⟩

/-! ### expressions -/
section
variable {X : Cx}
/-- what must hold so that e gives what is wanted -/
def WE (X : Cx) (e : Expr) : TE := fun σ H Q => ∀ pins s, Inv X pins σ H s → wpAny (model X.prog X.w) X.A (eval e X.env) (EP X pins σ Q) X.xe s
theorem pe_we {e : Expr} : PE X e (WE X e) := ⟨fun pins s σ H Q I h => h pins s I⟩
theorem _root_.L2.PE.we {e : Expr} {t : TE} (h : PE X e t) {σ : L2.St} {H : Hp} {Q : VK} (q : t σ H Q) : WE X e σ H Q := fun pins s I => h.run pins s σ H Q I q
def WT (X : Cx) (e : Expr) : TT := fun σ H Q => ∀ pins s, Inv X pins σ H s → wpAny (model X.prog X.w) X.A (isTrue e X.env (eval e X.env)) (TP X pins σ Q) X.xe s
theorem pt_wt {e : Expr} : PT X e (WT X e) := ⟨fun pins s σ H Q I h => h pins s I⟩
theorem _root_.L2.PT.wt {e : Expr} {t : TT} (h : PT X e t) {σ : L2.St} {H : Hp} {Q : Bool → Hp → Prop} (q : t σ H Q) : WT X e σ H Q := fun pins s I => h.run pins s σ H Q I q

/-- a value that may be one of the def's own -/
def Rb (F : Hp) (W : Wd) (v : V) (p : PV) : Prop := Rp W v p ∨ ∃ a, v = .ref a ∧ Own F W a p
theorem Rb.mono {F : Hp} {W W' : Wd} {v : V} {p : PV} (h : W.le W') : Rb F W v p → Rb F W' v p
  | .inl r => .inl (r.mono h)
  | .inr ⟨a, e, o⟩ => .inr ⟨a, e, o.mono h⟩
/-- a new object that nobody knows -/
structure New (F : Hp) (W : Wd) (H : Hp) (a : Addr) (p : PV) : Prop where
  g : W.G a = none
  f : F a = none
  s : ∀ sd sc, W.S = some (sd, sc) → sd ≠ a ∧ sc ≠ a
  o : ∃ o, H a = some o ∧ OwnO W o p

/-- wanted of a value -/
def QE (F : Hp) (W : Wd) (ρ : Env) (σ : L2.St) (Q : VK) (p : PV) : Prop := ∀ v H' W', W.le W' → Sta F W' ρ σ H' → Rp W' v p → Q v H'
def QB (F : Hp) (W : Wd) (ρ : Env) (σ : L2.St) (Q : VK) (p : PV) : Prop := ∀ v H' W', W.le W' → Sta F W' ρ σ H' → Rb F W' v p → Q v H'
def QF (F : Hp) (W : Wd) (ρ : Env) (σ : L2.St) (Q : VK) (p : PV) : Prop := ∀ a H' W', W.le W' → Sta F W' ρ σ H' → New F W' H' a p → Q (.ref a) H'
def QT (F : Hp) (W : Wd) (ρ : Env) (σ : L2.St) (Q : Bool → Hp → Prop) (b : Bool) : Prop := ∀ H' W', W.le W' → Sta F W' ρ σ H' → Q b H'
/-- e gives what m tells: a known value; one that may be the def's own; a new list; a truth -/
def SE (X : Cx) (ρ : Env) (e : Expr) (m : M PV) : Prop := ∀ F W σ H Q, Sta F W ρ σ H → m.All (QE F W ρ σ Q) → WE X e σ H Q
def SB (X : Cx) (ρ : Env) (e : Expr) (m : M PV) : Prop := ∀ F W σ H Q, Sta F W ρ σ H → m.All (QB F W ρ σ Q) → WE X e σ H Q
def SF (X : Cx) (ρ : Env) (e : Expr) (m : M PV) : Prop := ∀ F W σ H Q, Sta F W ρ σ H → m.All (QF F W ρ σ Q) → WE X e σ H Q
def SC (X : Cx) (ρ : Env) (e : Expr) (m : M Bool) : Prop := ∀ F W σ H Q, Sta F W ρ σ H → m.All (QT F W ρ σ Q) → WT X e σ H Q
variable {ρ : Env} {e : Expr} {m : M PV}
theorem QE.le {F : Hp} {W W' : Wd} {σ : L2.St} {Q : VK} {p : PV} (h : W.le W') (q : QE F W ρ σ Q p) : QE F W' ρ σ Q p := fun v H' W'' l => q v H' W'' (h.trans l)
theorem QB.le {F : Hp} {W W' : Wd} {σ : L2.St} {Q : VK} {p : PV} (h : W.le W') (q : QB F W ρ σ Q p) : QB F W' ρ σ Q p := fun v H' W'' l => q v H' W'' (h.trans l)
theorem QF.le {F : Hp} {W W' : Wd} {σ : L2.St} {Q : VK} {p : PV} (h : W.le W') (q : QF F W ρ σ Q p) : QF F W' ρ σ Q p := fun v H' W'' l => q v H' W'' (h.trans l)
theorem QT.le {F : Hp} {W W' : Wd} {σ : L2.St} {Q : Bool → Hp → Prop} {p : Bool} (h : W.le W') (q : QT F W ρ σ Q p) : QT F W' ρ σ Q p := fun H' W'' l => q H' W'' (h.trans l)
theorem QE.now {F : Hp} {W : Wd} {σ : L2.St} {Q : VK} {p : PV} {v : V} {H : Hp} (q : QE F W ρ σ Q p) (S : Sta F W ρ σ H) (r : Rp W v p) : Q v H := q v H W (.refl W) S r
theorem SE.sb (h : SE X ρ e m) : SB X ρ e m := fun F W σ H Q S q => h F W σ H Q S (q.mono fun p k v H' W' l S' r => k v H' W' l S' (.inl r))
theorem OwnO.known {W W' : Wd} {o : HO} {a : Addr} {p : PV} (_ : OwnO W o p) (e : W'.G a = some o) (z : OwnO W' o p) : Rp W' (.ref a) p := by
  obtain ⟨xs, ps, rfl, rfl, r⟩ := z
  exact .lst e r
/-- a new list becomes a known one -/
theorem New.join {F : Hp} {W : Wd} {H : Hp} {a : Addr} {p : PV} {σ : L2.St} (n : New F W H a p) (S : Sta F W ρ σ H) : ∃ W', W.le W' ∧ Sta F W' ρ σ H ∧ Rp W' (.ref a) p := by
  obtain ⟨o, e, z⟩ := n.o
  have l : W.le (W.add a o) := Wd.add_le n.g
  exact ⟨_, l, S.grow l (S.hs.join e n.g (Sub.refl _) n.f n.s), z.known (show upd W.G a o a = some o from upd_same) (z.mono l)⟩
theorem SF.se (h : SF X ρ e m) : SE X ρ e m := fun F W σ H Q S q => h F W σ H Q S (q.mono fun p k a H' W' l S' n => by
  obtain ⟨W2, l2, S2, r⟩ := n.join S'
  exact k _ H' W2 (l.trans l2) S2 r)
theorem SE.bind_eq {m' : M PV} (h : SE X ρ e m) (e' : m = m') : SE X ρ e m' := e' ▸ h

/-! names, constants -/
theorem se_var (i : Nat) {x : Str} {pos : Pos} {p : PV} (hi : ρ[i]? = some (.fr p) := by rfl) (hN : X.N[i]? = some x := by rfl) (hv : Vis X.env.scope x := by first | exact Or.inl rfl | exact Or.inr (Or.inl rfl) | exact Or.inr (Or.inr rfl)) (hd : (x == ("__debug__" : Str)) = false := by decide)
    (hcd : (x == ("__classdict__" : Str)) = false := by decide) : SE X ρ (.Name x pos) (.ret p) := fun F W σ H Q S q => by
  refine (pe_var hN hv hd hcd).we ?_
  obtain ⟨v, e, r⟩ := S.at_ i _ hi
  exact ⟨v, e, q.now S r⟩
theorem sb_var (i : Nat) {x : Str} {pos : Pos} {p : PV} (hi : ρ[i]? = some (.ow p) := by rfl) (hN : X.N[i]? = some x := by rfl) (hv : Vis X.env.scope x := by first | exact Or.inl rfl | exact Or.inr (Or.inl rfl) | exact Or.inr (Or.inr rfl)) (hd : (x == ("__debug__" : Str)) = false := by decide)
    (hcd : (x == ("__classdict__" : Str)) = false := by decide) : SB X ρ (.Name x pos) (.ret p) := fun F W σ H Q S q => by
  refine (pe_var hN hv hd hcd).we ?_
  obtain ⟨a, e, r⟩ := S.at_ i _ hi
  exact ⟨_, e, q _ H W (.refl W) S (.inr ⟨a, rfl, r⟩)⟩
theorem se_int {i : Int} {j pos} : SE X ρ (.Constant (.int i) j pos) (.ret (.int i)) := fun F W σ H Q S q => pe_int.we (show Q _ _ from QE.now q S (.int i))
theorem se_bl {b : Bool} {j pos} : SE X ρ (.Constant (.bool b) j pos) (.ret (.bl b)) := fun F W σ H Q S q => pe_bl.we (show Q _ _ from QE.now q S (.bl b))
theorem se_non {j pos} : SE X ρ (.Constant .none j pos) (.ret .non) := fun F W σ H Q S q => pe_non.we (show Q _ _ from QE.now q S .non)
theorem se_str {x : Str} {j pos} : SE X ρ (.Constant (.str x) j pos) (.ret (.str x)) := fun F W σ H Q S q => pe_str.we (show Q _ _ from QE.now q S (.str x))

/-- two expressions, then what is made of both -/
theorem two {a b : Expr} {ma mb : M PV} (ha : SB X ρ a ma) (hb : SB X ρ b mb) {F : Hp} {W : Wd} {σ : L2.St} {H : Hp} {R : V → V → Hp → Prop} (S : Sta F W ρ σ H)
    {α : Type} {f : PV → PV → M α} {K : Wd → α → Prop} (q : (ma >>= fun p => mb >>= fun r => f p r).All (K W)) (hK : ∀ W W' a, W.le W' → K W a → K W' a)
    (hf : ∀ x y p r H' W', W.le W' → Sta F W' ρ σ H' → Rb F W' x p → Rb F W' y r → (f p r).All (K W') → R x y H') :
    WE X a σ H fun x H1 => WE X b σ H1 fun y H2 => R x y H2 := by
  rw [M.all_bind] at q
  refine ha F W σ H _ S (q.mono fun p k v H1 W1 l1 S1 r1 => ?_)
  rw [M.all_bind] at k
  refine hb F W1 σ H1 _ S1 (k.mono fun r k u H2 W2 l2 S2 r2 => ?_)
  exact hf v u p r H2 W2 (l1.trans l2) S2 (r1.mono l2) r2 (k.mono fun a => hK W W2 a (l1.trans l2))
/-- a op b: the rule by values -/
def OpOk (r : R2) (f : PV → PV → M PV) : Prop := ∀ F W ρ σ H x y p q Q, Sta F W ρ σ H → Rb F W x p → Rb F W y q → (f p q).All (QE F W ρ σ Q) → r x y H Q
theorem se_op {op : Operator} {r : R2} {f : PV → PV → M PV} {a b : Expr} {pos : Pos} {ma mb : M PV} (ho : OpR X (binaryOp op) r) (hf : OpOk r f) (ha : SB X ρ a ma) (hb : SB X ρ b mb) :
    SE X ρ (.BinOp a op b pos) (ma >>= fun p => mb >>= fun q => f p q) := fun F W σ H Q S q =>
  (pe_op ho pe_we pe_we).we (two (R := fun x y H' => r x y H' Q) ha hb S q (fun _ _ _ l k => k.le l) fun x y p r H' W' l S' rx ry k => hf F W' ρ σ H' x y p r Q S' rx ry k)
theorem Rb.int {F : Hp} {W : Wd} {v : V} {i : Int} (h : Rb F W v (.int i)) : v = .int i := by
  rcases h with h | ⟨a, e, o, f, xs, ps, z, _⟩
  · exact h.inv_int
  · cases z
theorem Rb.rp {F : Hp} {W : Wd} {v : V} {p : PV} (h : Rb F W v p) (n : ∀ ps, p ≠ .lst ps) : Rp W v p := by
  rcases h with h | ⟨a, e, o, f, xs, ps, z, _⟩
  · exact h
  · exact absurd z (n ps)
def pSub : PV → PV → M PV
  | .int i, .int j => .ret (.int (i - j))
  | _, _ => .bad
def big : Int := 2 ^ 64
def small (i : Int) : Bool := decide (-(2 ^ 64) < i) && decide (i < 2 ^ 64)
def pMulI (i j : Int) : M PV := if small i || small j then .ret (.int (i * j)) else .bad
theorem op_sub_ok : OpOk (rI0 fun i j => .int (i - j)) pSub := by
  intro F W ρ σ H x y p q Q S rx ry h
  unfold pSub at h
  split at h
  · exact ⟨_, _, rx.int, ry.int, QE.now h S (.int _)⟩
  · exact h.elim
theorem se_sub {a b : Expr} {pos : Pos} {ma mb : M PV} (ha : SB X ρ a ma) (hb : SB X ρ b mb) : SE X ρ (.BinOp a .Sub b pos) (ma >>= fun p => mb >>= fun q => pSub p q) := se_op op_sub op_sub_ok ha hb
end
end ML

/-! The M layer, part 2: operators, comparisons, displays, calls. -/
namespace ML
open PySem PySem.Spec PyProof.Rows L2
section
variable {X : Cx} {ρ : Env}
/-! ### new objects -/
theorem Hs.put {F : Hp} {W : Wd} {H : Hp} {a : Addr} {o : HO} (h : Hs F W H) (e : H a = none) : Hs F W (upd H a o) := by
  refine ⟨h.g.put_right (h.g.none e), h.f.put_right (h.f.none e), h.d, fun sd sc q => ?_⟩
  obtain ⟨s, g1, g2, f1, f2⟩ := h.s sd sc q
  obtain ⟨n1, n2⟩ := s.ne e
  exact ⟨s.keep (upd_ne n1) (upd_ne n2), g1, g2, f1, f2⟩
theorem QE.tup {F : Hp} {W : Wd} {σ : L2.St} {Q : VK} {ps : List PV} {xs : List V} {H : Hp} (q : QE F W ρ σ Q (.tup ps)) (S : Sta F W ρ σ H) (r : RpL W xs ps) : ∀ p, H p = none → Q (.ref p) (upd H p (.tup xs)) := fun p hp => by
  have l : W.le (W.add p (.tup xs)) := Wd.add_le (S.hs.g.none hp)
  exact q _ _ _ l (S.grow l (S.hs.new hp)) (.tup (by show upd W.G p _ p = _; exact upd_same) (r.mono l))
theorem QE.lst {F : Hp} {W : Wd} {σ : L2.St} {Q : VK} {ps : List PV} {xs : List V} {H : Hp} (q : QE F W ρ σ Q (.lst ps)) (S : Sta F W ρ σ H) (r : RpL W xs ps) : ∀ p, H p = none → Q (.ref p) (upd H p (.lst xs)) := fun p hp => by
  have l : W.le (W.add p (.lst xs)) := Wd.add_le (S.hs.g.none hp)
  exact q _ _ _ l (S.grow l (S.hs.new hp)) (.lst (by show upd W.G p _ p = _; exact upd_same) (r.mono l))
theorem QF.lst {F : Hp} {W : Wd} {σ : L2.St} {Q : VK} {ps : List PV} {xs : List V} {H : Hp} (q : QF F W ρ σ Q (.lst ps)) (S : Sta F W ρ σ H) (r : RpL W xs ps) : ∀ p, H p = none → Q (.ref p) (upd H p (.lst xs)) := fun p hp =>
  q _ _ _ (.refl W) (S.grow (.refl W) (S.hs.put hp)) ⟨S.hs.g.none hp, S.hs.f.none hp, fun sd sc z => (S.hs.s sd sc z).1.ne hp, _, upd_same, OwnO.lst r⟩
theorem Rb.lst {F : Hp} {W : Wd} {H : Hp} {v : V} {ps : List PV} (h : Rb F W v (.lst ps)) (S : Hs F W H) : ∃ a xs, v = .ref a ∧ H a = some (.lst xs) ∧ RpL W xs ps := by
  rcases h with h | ⟨a, e, o, f, z⟩
  · obtain ⟨a, xs, e, g, r⟩ := h.inv_lst
    exact ⟨a, xs, e, S.g _ _ g, r⟩
  · obtain ⟨xs, rfl, r⟩ := z.inv_lst
    exact ⟨a, xs, e, S.f _ _ f, r⟩
theorem Rb.tup {F : Hp} {W : Wd} {H : Hp} {v : V} {ps : List PV} (h : Rb F W v (.tup ps)) (S : Hs F W H) : ∃ a xs, v = .ref a ∧ W.G a = some (.tup xs) ∧ H a = some (.tup xs) ∧ RpL W xs ps := by
  obtain ⟨a, xs, e, g, r⟩ := (h.rp fun _ z => nomatch z).inv_tup
  exact ⟨a, xs, e, g, S.g _ _ g, r⟩
theorem Rb.str {F : Hp} {W : Wd} {v : V} {i : Str} (h : Rb F W v (.str i)) : v = .str i := (h.rp fun _ z => nomatch z).inv_str
theorem Rb.bl {F : Hp} {W : Wd} {v : V} {i : Bool} (h : Rb F W v (.bl i)) : v = .bl i := (h.rp fun _ z => nomatch z).inv_bl

/-! ### + -/
def pAdd : PV → PV → M PV
  | .int i, .int j => .ret (.int (i + j))
  | .lst xs, .lst ys => if xs.length + ys.length ≤ sizeLine then .ret (.lst (xs ++ ys)) else .bad
  | .tup xs, .tup ys => if xs.length + ys.length ≤ sizeLine then .ret (.tup (xs ++ ys)) else .bad
  | .str x, .str y => if x.length + y.length ≤ sizeLine then .ret (.str (x ++ y)) else .bad
  | _, _ => .bad
def rAddAll (K : PySem.W.Frag) : R2 := fun x y H Q => (rI0 fun i j => .int (i + j)) x y H Q ∨ rCat x y H Q ∨ rCatA K x y H Q ∨ ∃ i j, x = .str i ∧ y = .str j ∧ i.length + j.length ≤ sizeLine ∧ Q (.str (i ++ j)) H
theorem op_addAll : OpR X (binaryOp .Add) (rAddAll X.K) := op_add.or (op_cat.or (op_catA.or op_add_str))
theorem all_ite {α : Type} {c : Prop} [Decidable c] {a : M α} {Q : α → Prop} (h : (if c then a else M.bad).All Q) : c ∧ a.All Q := by
  by_cases e : c
  · rw [if_pos e] at h; exact ⟨e, h⟩
  · rw [if_neg e] at h; exact h.elim
theorem op_add_ok : OpOk (rAddAll X.K) pAdd := by
  intro F W ρ σ H x y p q Q S rx ry h
  unfold pAdd at h
  split at h
  · exact .inl ⟨_, _, rx.int, ry.int, QE.now h S (.int _)⟩
  · obtain ⟨hl, h⟩ := all_ite h
    obtain ⟨a, xs, rfl, ha, ra⟩ := rx.lst S.hs
    obtain ⟨b, ys, rfl, hb, rb⟩ := ry.lst S.hs
    exact .inr (.inl ⟨a, b, xs, ys, rfl, rfl, ha, hb, by rw [ra.length, rb.length]; exact hl, QE.lst h S (ra.append rb)⟩)
  · obtain ⟨hl, h⟩ := all_ite h
    obtain ⟨a, xs, rfl, ga, ha, ra⟩ := rx.tup S.hs
    obtain ⟨b, ys, rfl, gb, hb, rb⟩ := ry.tup S.hs
    refine .inr (.inr (.inl ⟨a, b, xs, ys, rfl, rfl, SqT.of ha, SqT.of hb, by rw [ra.length, rb.length]; exact hl, fun e => ?_, fun _ e => ?_, fun _ _ => QE.tup h S (ra.append rb)⟩))
    · subst e
      cases ra
      exact QE.now h S (.tup gb rb)
    · subst e
      cases rb
      rw [List.append_nil] at h
      exact QE.now h S (.tup ga ra)
  · obtain ⟨hl, h⟩ := all_ite h
    cases rx.str; cases ry.str
    exact .inr (.inr (.inr ⟨_, _, rfl, rfl, hl, QE.now h S (.str _)⟩))
  · exact h.elim
theorem se_add {a b : Expr} {pos : Pos} {ma mb : M PV} (ha : SB X ρ a ma) (hb : SB X ρ b mb) : SE X ρ (.BinOp a .Add b pos) (ma >>= fun p => mb >>= fun q => pAdd p q) := se_op op_addAll op_add_ok ha hb
/-- a new list that the def may change -/
def pCat : PV → PV → M PV
  | .lst xs, .lst ys => if xs.length + ys.length ≤ sizeLine then .ret (.lst (xs ++ ys)) else .bad
  | _, _ => .bad
theorem sf_cat {a b : Expr} {pos : Pos} {ma mb : M PV} (ha : SB X ρ a ma) (hb : SB X ρ b mb) : SF X ρ (.BinOp a .Add b pos) (ma >>= fun p => mb >>= fun q => pCat p q) := fun F W σ H Q S q =>
  (pe_op op_cat pe_we pe_we).we (two (R := fun x y H' => rCat x y H' Q) (K := fun W => QF F W ρ σ Q) ha hb S q (fun _ _ _ l k => k.le l) fun x y p r H' W' l S' rx ry h => by
    unfold pCat at h
    split at h
    · obtain ⟨hl, h⟩ := all_ite h
      obtain ⟨a, xs, rfl, ha, ra⟩ := rx.lst S'.hs
      obtain ⟨b, ys, rfl, hb, rb⟩ := ry.lst S'.hs
      exact ⟨a, b, xs, ys, rfl, rfl, ha, hb, by rw [ra.length, rb.length]; exact hl, QF.lst h S' (ra.append rb)⟩
    · exact h.elim)

/-! ### * -/
def pRep (xs : List PV) (k : Int) : List PV := (List.replicate k.toNat xs).flatten
def pMul : PV → PV → M PV
  | .int i, .int j => if small i || small j then .ret (.int (i * j)) else .bad
  | .lst xs, .int k => if -(2 ^ 63) ≤ k ∧ k < 2 ^ 63 ∧ xs.length * k.toNat ≤ sizeLine then .ret (.lst (pRep xs k)) else .bad
  | _, _ => .bad
def rMulAll : R2 := fun x y H Q => (rI CMul fun i j => .int (i * j)) x y H Q ∨ rRep x y H Q
theorem op_mulAll : OpR X (binaryOp .Mult) rMulAll := op_mul.or op_rep
theorem cmul_of {i j : Int} (h : (small i || small j) = true) : CMul i j := by
  unfold small at h
  simp only [Bool.or_eq_true, Bool.and_eq_true, decide_eq_true_eq] at h
  exact h
theorem op_mul_ok : OpOk rMulAll pMul := by
  intro F W ρ σ H x y p q Q S rx ry h
  unfold pMul at h
  split at h
  · obtain ⟨hl, h⟩ := all_ite h
    exact .inl ⟨_, _, rx.int, ry.int, cmul_of hl, QE.now h S (.int _)⟩
  · obtain ⟨⟨h1, h2, hl⟩, h⟩ := all_ite h
    obtain ⟨a, xs, rfl, ha, ra⟩ := rx.lst S.hs
    refine .inr ⟨a, _, xs, rfl, ry.int, ha, h1, h2, by rw [ra.length]; exact hl, QE.lst h S (ra.rep _)⟩
  · exact h.elim
theorem se_mul {a b : Expr} {pos : Pos} {ma mb : M PV} (ha : SB X ρ a ma) (hb : SB X ρ b mb) : SE X ρ (.BinOp a .Mult b pos) (ma >>= fun p => mb >>= fun q => pMul p q) := se_op op_mulAll op_mul_ok ha hb
def pRepL : PV → PV → M PV
  | .lst xs, .int k => if -(2 ^ 63) ≤ k ∧ k < 2 ^ 63 ∧ xs.length * k.toNat ≤ sizeLine then .ret (.lst (pRep xs k)) else .bad
  | _, _ => .bad
theorem sf_rep {a b : Expr} {pos : Pos} {ma mb : M PV} (ha : SB X ρ a ma) (hb : SB X ρ b mb) : SF X ρ (.BinOp a .Mult b pos) (ma >>= fun p => mb >>= fun q => pRepL p q) := fun F W σ H Q S q =>
  (pe_op op_rep pe_we pe_we).we (two (R := fun x y H' => rRep x y H' Q) (K := fun W => QF F W ρ σ Q) ha hb S q (fun _ _ _ l k => k.le l) fun x y p r H' W' l S' rx ry h => by
    unfold pRepL at h
    split at h
    · obtain ⟨⟨h1, h2, hl⟩, h⟩ := all_ite h
      obtain ⟨a, xs, rfl, ha, ra⟩ := rx.lst S'.hs
      exact ⟨a, _, xs, rfl, ry.int, ha, h1, h2, by rw [ra.length]; exact hl, QF.lst h S' (ra.rep _)⟩
    · exact h.elim)

/-! ### whole numbers -/
theorem op_int_ok {C : Int → Int → Prop} {g : Int → Int → Int} {f : PV → PV → M PV} (hi : ∀ i j Q, (f (.int i) (.int j)).All Q → C i j ∧ Q (.int (g i j))) (hb : ∀ p q Q, (f p q).All Q → ∃ i j, p = .int i ∧ q = .int j) :
    OpOk (rI C fun i j => .int (g i j)) f := by
  intro F W ρ σ H x y p q Q S rx ry h
  obtain ⟨i, j, rfl, rfl⟩ := hb _ _ _ h
  obtain ⟨c, k⟩ := hi _ _ _ h
  exact ⟨i, j, rx.int, ry.int, c, QE.now k S (.int _)⟩
def pInt2 (c : Int → Int → Bool) (g : Int → Int → Int) : PV → PV → M PV
  | .int i, .int j => if c i j = true then .ret (.int (g i j)) else .bad
  | _, _ => .bad
theorem pInt2_ok {C : Int → Int → Prop} {c : Int → Int → Bool} {g : Int → Int → Int} (hc : ∀ i j, c i j = true → C i j) : OpOk (rI C fun i j => .int (g i j)) (pInt2 c g) :=
  op_int_ok (fun i j Q h => by obtain ⟨z, h⟩ := all_ite (show (if c i j = true then M.ret (PV.int (g i j)) else M.bad).All Q from h); exact ⟨hc i j z, h⟩) fun p q Q h => by
    unfold pInt2 at h
    split at h
    · exact ⟨_, _, rfl, rfl⟩
    · exact h.elim
def pDiv : PV → PV → M PV := pInt2 (fun _ j => j != 0 && decide (j.natAbs < 1073741824)) fun i j => i.fdiv j
def pMod : PV → PV → M PV := pInt2 (fun _ j => j != 0) fun i j => i.fmod j
def cPow (i j : Int) : Bool := decide (0 ≤ j) && decide (j ≤ 1000000) && decide (i.natAbs < 2 ^ 64)
def pShl : PV → PV → M PV := pInt2 cPow fun i j => i * 2 ^ j.toNat
def pPow : PV → PV → M PV := pInt2 cPow fun i j => i ^ j.toNat
def pShr : PV → PV → M PV := pInt2 (fun _ j => decide (0 ≤ j)) fun i j => i / 2 ^ j.toNat
def pAnd : PV → PV → M PV := pInt2 (fun _ _ => true) Builtin.bitAnd
def pOr : PV → PV → M PV := pInt2 (fun _ _ => true) Builtin.bitOr
def pXor : PV → PV → M PV := pInt2 (fun _ _ => true) Builtin.bitXor
theorem cpow_of {i j : Int} (h : cPow i j = true) : CPow i j := by
  unfold cPow at h
  simp only [Bool.and_eq_true, decide_eq_true_eq] at h
  exact ⟨h.1.1, h.1.2, h.2⟩
theorem rI0_of {op : Operator} {g : Int → Int → V} (h : OpR X (binaryOp op) (rI0 g)) : OpR X (binaryOp op) (rI (fun _ _ => True) g) := by
  intro pins s σ H x y v u Q I rx ry q
  obtain ⟨i, j, e1, e2, _, q⟩ := q
  exact h pins s σ H x y v u Q I rx ry ⟨i, j, e1, e2, q⟩
variable {a b : Expr} {pos : Pos} {ma mb : M PV}
theorem se_div (ha : SB X ρ a ma) (hb : SB X ρ b mb) : SE X ρ (.BinOp a .FloorDiv b pos) (ma >>= fun p => mb >>= fun q => pDiv p q) :=
  se_op op_fdivN (pInt2_ok fun i j h => by simp only [Bool.and_eq_true, decide_eq_true_eq, bne_iff_ne] at h; exact h) ha hb
theorem se_mod (ha : SB X ρ a ma) (hb : SB X ρ b mb) : SE X ρ (.BinOp a .Mod b pos) (ma >>= fun p => mb >>= fun q => pMod p q) :=
  se_op op_modN (pInt2_ok fun i j h => by simpa using h) ha hb
theorem se_shl (ha : SB X ρ a ma) (hb : SB X ρ b mb) : SE X ρ (.BinOp a .LShift b pos) (ma >>= fun p => mb >>= fun q => pShl p q) := se_op op_shl (pInt2_ok fun i j h => cpow_of h) ha hb
theorem se_pow (ha : SB X ρ a ma) (hb : SB X ρ b mb) : SE X ρ (.BinOp a .Pow b pos) (ma >>= fun p => mb >>= fun q => pPow p q) := se_op op_pow (pInt2_ok fun i j h => cpow_of h) ha hb
theorem se_shr (ha : SB X ρ a ma) (hb : SB X ρ b mb) : SE X ρ (.BinOp a .RShift b pos) (ma >>= fun p => mb >>= fun q => pShr p q) := se_op op_shr (pInt2_ok fun i j h => by simpa using h) ha hb
theorem se_and (ha : SB X ρ a ma) (hb : SB X ρ b mb) : SE X ρ (.BinOp a .BitAnd b pos) (ma >>= fun p => mb >>= fun q => pAnd p q) := se_op (rI0_of op_and) (pInt2_ok fun i j h => trivial) ha hb
theorem se_or (ha : SB X ρ a ma) (hb : SB X ρ b mb) : SE X ρ (.BinOp a .BitOr b pos) (ma >>= fun p => mb >>= fun q => pOr p q) := se_op (rI0_of op_or) (pInt2_ok fun i j h => trivial) ha hb
theorem se_xor (ha : SB X ρ a ma) (hb : SB X ρ b mb) : SE X ρ (.BinOp a .BitXor b pos) (ma >>= fun p => mb >>= fun q => pXor p q) := se_op (rI0_of op_xor) (pInt2_ok fun i j h => trivial) ha hb
/-- one expression, then what is made of it -/
theorem one (ha : SB X ρ a ma) {F : Hp} {W : Wd} {σ : L2.St} {H : Hp} {R : V → Hp → Prop} (S : Sta F W ρ σ H)
    {α : Type} {f : PV → M α} {K : Wd → α → Prop} (q : (ma >>= fun p => f p).All (K W)) (hK : ∀ W W' a, W.le W' → K W a → K W' a)
    (hf : ∀ x p H' W', W.le W' → Sta F W' ρ σ H' → Rb F W' x p → (f p).All (K W') → R x H') : WE X a σ H R := by
  rw [M.all_bind] at q
  exact ha F W σ H _ S (q.mono fun p k v H1 W1 l1 S1 r1 => hf v p H1 W1 l1 S1 r1 (k.mono fun a => hK W W1 a l1))
def pNeg : PV → M PV
  | .int i => .ret (.int (-i))
  | _ => .bad
theorem se_neg (ha : SB X ρ a ma) : SE X ρ (.UnaryOp .USub a pos) (ma >>= fun p => pNeg p) := fun F W σ H Q S q =>
  (pe_un un_neg pe_we).we (one (R := fun x H' => rU (fun i => .int (-i)) x H' Q) (K := fun W => QE F W ρ σ Q) ha S q (fun _ _ _ l k => k.le l) fun x p H' W' l S' rx h => by
    unfold pNeg at h
    split at h
    · exact ⟨_, rx.int, QE.now h S' (.int _)⟩
    · exact h.elim)

/-! ### comparisons -/
def CmpOk (r : R2) (f : PV → PV → M Bool) : Prop := ∀ F W ρ σ H x y p q (Q : VK), Sta F W ρ σ H → Rb F W x p → Rb F W y q → (f p q).All (fun b => Q (.bl b) H) → r x y H Q
theorem se_cmp {op : CmpOp} {r : R2} {f : PV → PV → M Bool} (ho : OpR X (compareOp op) r) (hf : CmpOk r f) (hm : behindInMarks op b = false) (ha : SB X ρ a ma) (hb : SB X ρ b mb) :
    SE X ρ (.Compare a [op] [b] pos) (ma >>= fun p => mb >>= fun q => f p q >>= fun c => .ret (.bl c)) := fun F W σ H Q S q =>
  (pe_cmpR ho pe_we pe_we hm).we (two (R := fun x y H' => r x y H' Q) (K := fun W => QE F W ρ σ Q) (f := fun p q => f p q >>= fun c => .ret (.bl c)) ha hb S q (fun _ _ _ l k => k.le l) fun x y p r H' W' l S' rx ry k => hf F W' ρ σ H' x y p r Q S' rx ry (by
    rw [M.all_bind] at k
    exact k.mono fun c z => QE.now z S' (.bl c)))
theorem sc_cmp {op : CmpOp} {r : R2} {f : PV → PV → M Bool} (ho : OpR X (compareOp op) r) (hf : CmpOk r f) (hm : behindInMarks op b = false) (ha : SB X ρ a ma) (hb : SB X ρ b mb) :
    SC X ρ (.Compare a [op] [b] pos) (ma >>= fun p => mb >>= fun q => f p q) := fun F W σ H Q S q =>
  (pt_cmpR ho pe_we pe_we hm).wt (two (R := fun x y H' => r x y H' fun z H'' => ∃ k, z = .bl k ∧ Q k H'') (K := fun W => QT F W ρ σ Q) ha hb S q (fun _ _ _ l k => k.le l) fun x y p r H' W' l S' rx ry k => hf F W' ρ σ H' x y p r _ S' rx ry
    (k.mono fun c z => ⟨c, rfl, z H' W' (.refl W') S'⟩))
def pCmpI (c : Int → Int → Bool) : PV → PV → M Bool
  | .int i, .int j => .ret (c i j)
  | _, _ => .bad
theorem pCmpI_ok {c : Int → Int → Bool} : CmpOk (rI0 fun i j => .bl (c i j)) (pCmpI c) := by
  intro F W ρ σ H x y p q Q S rx ry h
  unfold pCmpI at h
  split at h
  · exact ⟨_, _, rx.int, ry.int, h⟩
  · exact h.elim
def pLt : PV → PV → M Bool := pCmpI fun i j => decide (i < j)
def pLe : PV → PV → M Bool := pCmpI fun i j => decide (i ≤ j)
def pGt : PV → PV → M Bool := pCmpI fun i j => decide (j < i)
def pGe : PV → PV → M Bool := pCmpI fun i j => decide (j ≤ i)
theorem lt_ok : CmpOk (rI0 fun i j => .bl (decide (i < j))) pLt := pCmpI_ok
theorem le_ok : CmpOk (rI0 fun i j => .bl (decide (i ≤ j))) pLe := pCmpI_ok
theorem gt_ok : CmpOk (rI0 fun i j => .bl (decide (j < i))) pGt := pCmpI_ok
theorem ge_ok : CmpOk (rI0 fun i j => .bl (decide (j ≤ i))) pGe := pCmpI_ok

/-! equality of data -/
mutual
def toD : PV → PyData
  | .non => .none
  | .bl b => .bool b
  | .int i => .int i
  | .str s => .str s
  | .tup xs => .tuple (toDs xs)
  | .lst xs => .list (toDs xs)
  | .dct _ => .dict []
  | .src => .dict []
def toDs : List PV → List PyData
  | [] => []
  | x :: xs => toD x :: toDs xs
end
mutual
/-- no dict within, at most n deep -/
def fl : Nat → PV → Bool
  | _, .non => true
  | _, .bl _ => true
  | _, .int _ => true
  | _, .str s => PyData.strOk s
  | 0, .tup _ => false
  | 0, .lst _ => false
  | n + 1, .tup xs => fls n xs
  | n + 1, .lst xs => fls n xs
  | _, .dct _ => false
  | _, .src => false
def fls : Nat → List PV → Bool
  | _, [] => true
  | n, x :: xs => fl n x && fls n xs
end
def eqv (p q : PV) : Bool := PyData.eqv (toD p) (toD q)
def eqvs (p q : List PV) : Bool := PyData.eqvAll (toDs p) (toDs q)
mutual
theorem fl_lay : ∀ (n : Nat) (p : PV), fl n p = true → (toD p).canLay0 = true ∧ (toD p).depth ≤ n
  | n, .non, _ => by simp [toD, PyData.canLay0, PyData.depth]
  | n, .bl _, _ => by simp [toD, PyData.canLay0, PyData.depth]
  | n, .int _, _ => by simp [toD, PyData.canLay0, PyData.depth]
  | n, .str s, h => by simp only [fl] at h; simp [toD, PyData.canLay0, PyData.depth, h]
  | 0, .tup _, h => by simp [fl] at h
  | 0, .lst _, h => by simp [fl] at h
  | n + 1, .tup xs, h => by
    simp only [fl] at h
    have := fls_lay n xs h
    simp only [toD, PyData.canLay0, PyData.depth]
    exact ⟨this.1, by omega⟩
  | n + 1, .lst xs, h => by
    simp only [fl] at h
    have := fls_lay n xs h
    simp only [toD, PyData.canLay0, PyData.depth]
    exact ⟨this.1, by omega⟩
  | n, .dct _, h => by cases n <;> simp [fl] at h
  | n, .src, h => by cases n <;> simp [fl] at h
theorem fls_lay : ∀ (n : Nat) (p : List PV), fls n p = true → PyData.canLayAll0 (toDs p) = true ∧ PyData.depthAll (toDs p) ≤ n
  | n, [], _ => by simp [toDs, PyData.canLayAll0, PyData.depthAll]
  | n, x :: xs, h => by
    simp only [fls, Bool.and_eq_true] at h
    have h1 := fl_lay n x h.1
    have h2 := fls_lay n xs h.2
    simp only [toDs, PyData.canLayAll0, PyData.depthAll, h1.1, h2.1, Bool.and_self, true_and]
    omega
end
theorem fl_shaped {p : PV} (h : fl 60 p = true) : SeqAt.shaped (toD p) = true := by
  have := fl_lay 60 p h
  show ((toD p).canLay0 && decide ((toD p).depth ≤ 64)) = true
  rw [this.1, Bool.true_and, decide_eq_true_eq]
  omega
mutual
theorem rp_dp {K : PySem.W.Frag} {W : Wd} {H : Hp} (s : Sub W.G H) : ∀ {n : Nat} {v : V} {p : PV}, fl n p = true → Rp W v p → Dp K H v (toD p)
  | _, _, _, _, .non => .non
  | _, _, _, _, .bl b => .bl b
  | _, _, _, _, .int i => .int i
  | _, _, _, _, .str x => .str x
  | 0, _, _, h, .tup _ _ => by simp [fl] at h
  | 0, _, _, h, .lst _ _ => by simp [fl] at h
  | n + 1, _, _, h, .tup e r => by simp only [fl] at h; exact .tup (SqT.of (s _ _ e)) (rpl_dp s h r)
  | n + 1, _, _, h, .lst e r => by simp only [fl] at h; exact .lst (SqL.of (s _ _ e)) (rpl_dp s h r)
  | n, _, _, h, .src _ => by cases n <;> simp [fl] at h
theorem rpl_dp {K : PySem.W.Frag} {W : Wd} {H : Hp} (s : Sub W.G H) : ∀ {n : Nat} {vs : List V} {ps : List PV}, fls n ps = true → RpL W vs ps → DpAll K H vs (toDs ps)
  | _, _, _, _, .nil => .nil
  | n, _, _, h, .cons r rs => by simp only [fls, Bool.and_eq_true] at h; exact .cons (rp_dp s h.1 r) (rpl_dp s h.2 rs)
end
theorem rb_dp {K : PySem.W.Frag} {F : Hp} {W : Wd} {H : Hp} (S : Hs F W H) {n : Nat} {v : V} {p : PV} (h : fl n p = true) (r : Rb F W v p) : Dp K H v (toD p) := by
  rcases r with r | ⟨a, rfl, o, e, xs, ps, rfl, rfl, r⟩
  · exact rp_dp S.g h r
  · cases n with
    | zero => simp [fl] at h
    | succ n => simp only [fl] at h; exact .lst (SqL.of (S.f _ _ e)) (rpl_dp S.g h r)
def pEq (p q : PV) : M Bool := if fl 60 p = true ∧ fl 60 q = true then .ret (eqv p q) else .bad
def pNe (p q : PV) : M Bool := if fl 60 p = true ∧ fl 60 q = true then .ret (!eqv p q) else .bad
theorem eq_ok : CmpOk (rEqD X.K) pEq := by
  intro F W ρ σ H x y p q Q S rx ry h
  obtain ⟨⟨h1, h2⟩, h⟩ := all_ite h
  exact ⟨_, _, rb_dp S.hs h1 rx, rb_dp S.hs h2 ry, fl_shaped h1, fl_shaped h2, h⟩
theorem ne_ok : CmpOk (rNeD X.K) pNe := by
  intro F W ρ σ H x y p q Q S rx ry h
  obtain ⟨⟨h1, h2⟩, h⟩ := all_ite h
  exact ⟨_, _, rb_dp S.hs h1 rx, rb_dp S.hs h2 ry, fl_shaped h1, fl_shaped h2, h⟩
/-! is None -/
def pIsN (p : PV) : Bool := match p with | .non => true | _ => false
theorem Rb.non_iff {F : Hp} {W : Wd} {v : V} {p : PV} (h : Rb F W v p) : decide (v = .non) = pIsN p := by
  rcases h with h | ⟨a, rfl, o, e, xs, ps, rfl, _⟩
  · cases h <;> simp [pIsN]
  · simp [pIsN]
theorem isn_ok : CmpOk (fun x y H Q => y = .non ∧ Q (.bl (decide (x = .non))) H) (fun p q => if pIsN q = true then .ret (pIsN p) else .bad) := by
  intro F W ρ σ H x y p q Q S rx ry h
  obtain ⟨h1, h⟩ := all_ite h
  have e := ry.non_iff
  rw [h1, decide_eq_true_eq] at e
  exact ⟨e, by rw [rx.non_iff]; exact h⟩
theorem notn_ok : CmpOk (fun x y H Q => y = .non ∧ Q (.bl (!decide (x = .non))) H) (fun p q => if pIsN q = true then .ret (!pIsN p) else .bad) := by
  intro F W ρ σ H x y p q Q S rx ry h
  obtain ⟨h1, h⟩ := all_ite h
  have e := ry.non_iff
  rw [h1, decide_eq_true_eq] at e
  exact ⟨e, by rw [rx.non_iff]; exact h⟩
end
end ML

/-! The M layer, part 3: tests, displays, subscripts, calls of defs and built-ins. -/
namespace ML
open PySem PySem.Spec PyProof.Rows L2
section
variable {X : Cx} {ρ : Env} {a b c e : Expr} {pos : Pos} {ma mb mc : M PV}

/-! ### truth -/
def pTru : PV → M Bool
  | .non => .ret false
  | .bl b => .ret b
  | .int i => .ret (i != 0)
  | .str y => if y.length ≤ sizeLine then .ret ((y.length : Int) != 0) else .bad
  | .lst xs => .ret (!xs.isEmpty)
  | .tup xs => .ret (!xs.isEmpty)
  | _ => .bad
theorem RpL.isEmpty {W : Wd} {xs : List V} {ps : List PV} (r : RpL W xs ps) : xs.isEmpty = ps.isEmpty := by cases r <;> rfl
theorem tru_of {K : PySem.W.Frag} {F : Hp} {W : Wd} {H : Hp} {x : V} {p : PV} {Q : Bool → Prop} (S : Hs F W H) (r : Rb F W x p) (h : (pTru p).All Q) : ∃ k, TruV K x H k ∧ Q k := by
  unfold pTru at h
  split at h
  · cases (r.rp fun _ z => nomatch z).inv_non; exact ⟨_, rfl, h⟩
  · cases r.bl; exact ⟨_, rfl, h⟩
  · cases r.int; exact ⟨_, rfl, h⟩
  · obtain ⟨z, h⟩ := all_ite h
    cases r.str; exact ⟨_, ⟨z, rfl⟩, h⟩
  · obtain ⟨a, xs, rfl, e, rl⟩ := r.lst S
    exact ⟨_, .inl ⟨xs, SqL.of e, rfl⟩, by rw [rl.isEmpty]; exact h⟩
  · obtain ⟨a, xs, rfl, g, e, rl⟩ := r.tup S
    exact ⟨_, .inr (.inl ⟨xs, SqT.of e, rfl⟩), by rw [rl.isEmpty]; exact h⟩
  · exact h.elim
theorem sc_tru (ha : SB X ρ a ma) (he : ∀ whole, isTrue a X.env whole = (do let v ← whole; standAt a.pos; holding [v] (truthy v)) := by intro _; rfl) : SC X ρ a (ma >>= fun p => pTru p) := fun F W σ H Q S q =>
  (pt_truth pe_we he).wt (one (K := fun W => QT F W ρ σ Q) ha S q (fun _ _ _ l k => k.le l) fun x p H' W' l S' rx h => by
    obtain ⟨k, z, q⟩ := tru_of (K := X.K) S'.hs rx h
    exact ⟨k, z, q _ _ (.refl _) S'⟩)

/-! ### and, or, not, if -/
def WW (X : Cx) (e : Expr) : TT := fun σ H Q => ∀ (whole : Sem Value) pins s, Inv X pins σ H s → wpAny (model X.prog X.w) X.A (isTrue e X.env whole) (TP X pins σ Q) X.xe s
theorem pw_ww {e : Expr} : PW X e (WW X e) := ⟨fun whole pins s σ H Q I h => h whole pins s I⟩
def SW (X : Cx) (ρ : Env) (e : Expr) (m : M Bool) : Prop := ∀ F W σ H Q, Sta F W ρ σ H → m.All (QT F W ρ σ Q) → WW X e σ H Q
variable {ta tb tc : M Bool} {rest : List Expr}
theorem SW.sc {e : Expr} {m : M Bool} (h : SW X ρ e m) : SC X ρ e m := fun F W σ H Q S q => pw_ww.pt.wt (h F W σ H Q S q)
theorem _root_.L2.PW.ww {e : Expr} {t : TT} (h : PW X e t) {σ : L2.St} {H : Hp} {Q : Bool → Hp → Prop} (q : t σ H Q) : WW X e σ H Q := fun whole pins s I => h.run whole pins s σ H Q I q
theorem sw_and1 (ha : SC X ρ a ta) : SW X ρ (.BoolOp .And [a] pos) ta := fun F W σ H Q S q => (pw_and1 pt_wt).ww (ha F W σ H Q S q)
theorem sw_or1 (ha : SC X ρ a ta) : SW X ρ (.BoolOp .Or [a] pos) ta := fun F W σ H Q S q => (pw_or1 pt_wt).ww (ha F W σ H Q S q)
def mAnd (ta tb : M Bool) : M Bool := ta >>= fun c => if c = true then tb else .ret false
def mOr (ta tb : M Bool) : M Bool := ta >>= fun c => if c = true then .ret true else tb
def mNot (ta : M Bool) : M Bool := ta >>= fun c => .ret (!c)
theorem sw_and (ha : SC X ρ a ta) (hb : SW X ρ (.BoolOp .And (b :: rest) pos) tb) : SW X ρ (.BoolOp .And (a :: b :: rest) pos) (mAnd ta tb) := fun F W σ H Q S q => by
  refine (pw_and pt_wt pw_ww).ww (ha F W σ H _ S ?_)
  unfold mAnd at q
  rw [M.all_bind] at q
  refine q.mono fun c k H' W' l S' => ?_
  cases c with
  | true => exact hb F W' σ H' Q S' (show tb.All _ from M.All.mono (fun _ z => z.le l) k)
  | false => exact k H' W' l S'
theorem sw_or (ha : SC X ρ a ta) (hb : SW X ρ (.BoolOp .Or (b :: rest) pos) tb) : SW X ρ (.BoolOp .Or (a :: b :: rest) pos) (mOr ta tb) := fun F W σ H Q S q => by
  refine (pw_or pt_wt pw_ww).ww (ha F W σ H _ S ?_)
  unfold mOr at q
  rw [M.all_bind] at q
  refine q.mono fun c k H' W' l S' => ?_
  cases c with
  | false => exact hb F W' σ H' Q S' (show tb.All _ from M.All.mono (fun _ z => z.le l) k)
  | true => exact k H' W' l S'
theorem sc_not (ha : SC X ρ a ta) : SC X ρ (.UnaryOp .Not a pos) (mNot ta) := fun F W σ H Q S q => by
  refine (pt_not pt_wt).wt (ha F W σ H _ S ?_)
  unfold mNot at q
  rw [M.all_bind] at q
  exact q.mono fun c k H' W' l S' => k H' W' l S'
/-- as values: bools -/
def vAnd (ma mb : M PV) : M PV := ma >>= fun p => match p with
  | .bl true => mb
  | .bl false => .ret (.bl false)
  | _ => .bad
def vOr (ma mb : M PV) : M PV := ma >>= fun p => match p with
  | .bl false => mb
  | .bl true => .ret (.bl true)
  | _ => .bad
def vNot (ma : M PV) : M PV := ma >>= fun p => match p with
  | .bl c => .ret (.bl !c)
  | _ => .bad
theorem se_one {op} (ha : SE X ρ a ma) : SE X ρ (.BoolOp op [a] pos) ma := fun F W σ H Q S q => (pe_one pe_we).we (ha F W σ H Q S q)
theorem se_andV (ha : SE X ρ a ma) (hb : SE X ρ (.BoolOp .And (b :: rest) pos) mb) : SE X ρ (.BoolOp .And (a :: b :: rest) pos) (vAnd ma mb) := fun F W σ H Q S q => by
  refine (pe_and pe_we pe_we).we (ha F W σ H _ S ?_)
  unfold vAnd at q
  rw [M.all_bind] at q
  refine q.mono fun p k v H' W' l S' r => ?_
  split at k
  · exact ⟨true, r.inv_bl, by rw [if_pos rfl]; exact hb F W' σ H' Q S' (k.mono fun _ z => z.le l)⟩
  · refine ⟨false, r.inv_bl, ?_⟩
    rw [if_neg (by decide)]
    exact QE.now (QE.le l k) S' (.bl false)
  · exact k.elim
theorem se_orV (ha : SE X ρ a ma) (hb : SE X ρ (.BoolOp .Or (b :: rest) pos) mb) : SE X ρ (.BoolOp .Or (a :: b :: rest) pos) (vOr ma mb) := fun F W σ H Q S q => by
  refine (pe_or pe_we pe_we).we (ha F W σ H _ S ?_)
  unfold vOr at q
  rw [M.all_bind] at q
  refine q.mono fun p k v H' W' l S' r => ?_
  split at k
  · refine ⟨false, r.inv_bl, ?_⟩
    rw [if_neg (by decide)]
    exact hb F W' σ H' Q S' (k.mono fun _ z => z.le l)
  · refine ⟨true, r.inv_bl, ?_⟩
    rw [if_pos rfl]
    exact QE.now (QE.le l k) S' (.bl true)
  · exact k.elim
theorem se_notV (ha : SE X ρ a ma) : SE X ρ (.UnaryOp .Not a pos) (vNot ma) := fun F W σ H Q S q => by
  refine (pe_not pe_we).we (ha F W σ H _ S ?_)
  unfold vNot at q
  rw [M.all_bind] at q
  refine q.mono fun p k v H' W' l S' r => ?_
  split at k
  · exact ⟨_, r.inv_bl, QE.now (QE.le l k) S' (.bl _)⟩
  · exact k.elim
/-- not of any value by its truth is told by its test -/
theorem se_if {mx my : M PV} (hc : SC X ρ c tc) (ha : SE X ρ a mx) (hb : SE X ρ b my) : SE X ρ (.IfExp c a b pos) (tc >>= fun k => if k = true then mx else my) := fun F W σ H Q S q => by
  refine (pe_ifExp pt_wt pe_we pe_we).we (hc F W σ H _ S ?_)
  rw [M.all_bind] at q
  refine q.mono fun k z H' W' l S' => ?_
  by_cases e : k = true
  · rw [if_pos e] at z ⊢
    exact ha F W' σ H' Q S' (z.mono fun _ y => y.le l)
  · rw [if_neg e] at z ⊢
    exact hb F W' σ H' Q S' (z.mono fun _ y => y.le l)
theorem sb_if {mx my : M PV} (hc : SC X ρ c tc) (ha : SB X ρ a mx) (hb : SB X ρ b my) : SB X ρ (.IfExp c a b pos) (tc >>= fun k => if k = true then mx else my) := fun F W σ H Q S q => by
  refine (pe_ifExp pt_wt pe_we pe_we).we (hc F W σ H _ S ?_)
  rw [M.all_bind] at q
  refine q.mono fun k z H' W' l S' => ?_
  by_cases e : k = true
  · rw [if_pos e] at z ⊢
    exact ha F W' σ H' Q S' (z.mono fun _ y => y.le l)
  · rw [if_neg e] at z ⊢
    exact hb F W' σ H' Q S' (z.mono fun _ y => y.le l)
/-! a < b < c -/
theorem chain_aux {op op' : CmpOp} {r r' : R2} {f f' : PV → PV → M Bool} (hf : CmpOk r f) (hf' : CmpOk r' f')
    (ha : SB X ρ a ma) (hb : SB X ρ b mb) (hc : SB X ρ c mc) {F : Hp} {W : Wd} {σ : L2.St} {H : Hp} {Q : VK} {R : Wd → Bool → Prop} (S : Sta F W ρ σ H) (hR : ∀ W W' a, W.le W' → R W a → R W' a)
    (q : (ma >>= fun p => mb >>= fun q => f p q >>= fun k => if k = true then mc >>= fun s => f' q s else .ret false).All (R W))
    (hq : ∀ W' H' k, W.le W' → Sta F W' ρ σ H' → R W' k → Q (.bl k) H') : tChain r r' (WE X a) (WE X b) (WE X c) σ H Q := by
  refine two (K := R) (f := fun p q => f p q >>= fun k => if k = true then mc >>= fun s => f' q s else .ret false) ha hb S q hR fun x y p r H' W' l S' rx ry k => ?_
  rw [M.all_bind] at k
  refine hf F W' ρ σ H' x y p r _ S' rx ry (k.mono fun k z => ⟨k, rfl, ?_⟩)
  by_cases e : k = true
  · rw [if_pos e] at z ⊢
    exact one (K := R) hc S' z hR fun u s H2 W2 l2 S2 ru k2 => hf' F W2 ρ σ H2 y u r s Q S2 (ry.mono l2) ru (k2.mono fun b y => hq W2 H2 b (l.trans l2) S2 y)
  · rw [if_neg e] at z ⊢
    exact hq W' H' false l S' z
theorem sc_chain {op op' : CmpOp} {r r' : R2} {f f' : PV → PV → M Bool} (ho : OpR X (compareOp op) r) (ho' : OpR X (compareOp op') r') (hf : CmpOk r f) (hf' : CmpOk r' f')
    (ha : SB X ρ a ma) (hb : SB X ρ b mb) (hc : SB X ρ c mc) (hm : lastMarks [op, op'] [b, c] = false := by with_unfolding_all rfl) :
    SC X ρ (.Compare a [op, op'] [b, c] pos) (ma >>= fun p => mb >>= fun q => f p q >>= fun k => if k = true then mc >>= fun s => f' q s else .ret false) := fun F W σ H Q S q =>
  (pt_chain ho ho' pe_we pe_we pe_we hm).wt (chain_aux (op := op) (op' := op') (R := fun W => QT F W ρ σ Q) hf hf' ha hb hc S (fun _ _ _ l k => k.le l) q fun W' H' k l S' z => ⟨k, rfl, z _ _ (.refl _) S'⟩)
theorem se_chain {op op' : CmpOp} {r r' : R2} {f f' : PV → PV → M Bool} (ho : OpR X (compareOp op) r) (ho' : OpR X (compareOp op') r') (hf : CmpOk r f) (hf' : CmpOk r' f')
    (ha : SB X ρ a ma) (hb : SB X ρ b mb) (hc : SB X ρ c mc) (hm : lastMarks [op, op'] [b, c] = false := by with_unfolding_all rfl) :
    SE X ρ (.Compare a [op, op'] [b, c] pos) ((ma >>= fun p => mb >>= fun q => f p q >>= fun k => if k = true then mc >>= fun s => f' q s else .ret false) >>= fun k => .ret (.bl k)) := fun F W σ H Q S q =>
  (pe_chain ho ho' pe_we pe_we pe_we hm).we (chain_aux (op := op) (op' := op') (R := fun W k => QE F W ρ σ Q (.bl k)) hf hf' ha hb hc S (fun _ _ _ l k => k.le l) (by rw [M.all_bind] at q; exact q) fun W' H' k l S' z => QE.now z S' (.bl k))

/-! ### items, slices -/
def pItem : PV → PV → M PV
  | .lst xs, .int i => match atI xs i with
    | some v => .ret v
    | none => .bad
  | .tup xs, .int i => match atI xs i with
    | some v => .ret v
    | none => .bad
  | .str z, .int i => if z.length ≤ sizeLine then match atI z.cps.toList i with
      | some c => .ret (.str ⟨#[c]⟩)
      | none => .bad
    else .bad
  | _, _ => .bad
theorem RpL.atI {W : Wd} {xs : List V} {ps : List PV} {i : Int} {p : PV} (r : RpL W xs ps) (h : atI ps i = some p) : ∃ v, L2.atI xs i = some v ∧ Rp W v p := by
  unfold L2.atI at h ⊢
  rw [r.length]
  cases e : ixN ps.length i with
  | none => rw [e] at h; cases h
  | some j =>
    rw [e] at h
    exact r.getP h
theorem item_ok : OpOk (rIx X.K) pItem := by
  intro F W ρ σ H x y p q Q S rx ry h
  unfold pItem at h
  split at h
  · split at h
    · rename_i e
      obtain ⟨a, xs, rfl, ha, ra⟩ := rx.lst S.hs
      obtain ⟨v, ev, rv⟩ := ra.atI e
      exact .inl ⟨a, xs, _, v, rfl, ry.int, SqL.of ha, ev, QE.now h S rv⟩
    · exact h.elim
  · split at h
    · rename_i e
      obtain ⟨a, xs, rfl, _, ha, ra⟩ := rx.tup S.hs
      obtain ⟨v, ev, rv⟩ := ra.atI e
      exact .inr (.inl ⟨a, xs, _, v, rfl, ry.int, SqT.of ha, ev, QE.now h S rv⟩)
    · exact h.elim
  · obtain ⟨z, h⟩ := all_ite h
    split at h
    · rename_i e
      exact .inr (.inr ⟨_, _, _, rx.str, ry.int, z, e, QE.now h S (.str _)⟩)
    · exact h.elim
  · exact h.elim
theorem se_item (ha : SB X ρ a ma) (hb : SE X ρ b mb) (hs : PlainIx b := by exact fun _ _ => rfl) : SE X ρ (.Subscript a b pos) (ma >>= fun p => mb >>= fun q => pItem p q) := fun F W σ H Q S q =>
  (pe_ix ix_seq pe_we pe_we hs).we (two (R := fun x y H' => rIx X.K x y H' Q) (K := fun W => QE F W ρ σ Q) ha hb.sb S q (fun _ _ _ l k => k.le l) fun x y p r H' W' l S' rx ry k => item_ok F W' ρ σ H' x y p r Q S' rx ry k)
def cutP (xs : List PV) (lo hi : Option Int) : List PV := (xs.drop (HT.sIx xs.length 0 lo)).take (HT.sIx xs.length xs.length hi - HT.sIx xs.length 0 lo)
theorem RpL.cut {W : Wd} {xs : List V} {ps : List PV} (r : RpL W xs ps) (lo hi : Option Int) : RpL W (cutV xs lo hi) (cutP ps lo hi) := by
  unfold cutV cutP
  rw [r.length]
  exact (r.drop _).take _
def pSlice : PV → Option Int → Option Int → M PV
  | .lst xs, lo, hi => .ret (.lst (cutP xs lo hi))
  | .tup xs, lo, hi => .ret (.tup (cutP xs lo hi))
  | _, _, _ => .bad
theorem cut_whole {xs : List V} {lo hi : Option Int} (h : HT.sIx xs.length 0 lo = 0 ∧ HT.sIx xs.length xs.length hi = xs.length) : cutV xs lo hi = xs := by
  unfold cutV
  rw [h.1, h.2, List.drop_zero, Nat.sub_zero, List.take_length]
theorem cutP_whole {xs : List PV} {lo hi : Option Int} (h : HT.sIx xs.length 0 lo = 0 ∧ HT.sIx xs.length xs.length hi = xs.length) : cutP xs lo hi = xs := by
  unfold cutP
  rw [h.1, h.2, List.drop_zero, Nat.sub_zero, List.take_length]
def rSlAll (K : PySem.W.Frag) : V → Option Int → Option Int → Hp → VK → Prop := fun x lo hi H Q => rSlL K x lo hi H Q ∨ rSlA K x lo hi H Q
theorem sl_all : SlR X (rSlAll X.K) := sl_list.or sl_tupA
theorem slice_ok {F : Hp} {W : Wd} {σ : L2.St} {H : Hp} {x : V} {p : PV} {lo hi : Option Int} {Q : VK} (S : Sta F W ρ σ H) (rx : Rb F W x p) (h : (pSlice p lo hi).All (QE F W ρ σ Q)) : rSlAll X.K x lo hi H Q := by
  unfold pSlice at h
  split at h
  · obtain ⟨a, xs, rfl, ha, ra⟩ := rx.lst S.hs
    exact .inl ⟨a, xs, rfl, SqL.of ha, QE.lst h S (ra.cut _ _)⟩
  · obtain ⟨a, xs, rfl, g, ha, ra⟩ := rx.tup S.hs
    refine .inr ⟨a, xs, rfl, SqT.of ha, fun z => ?_, fun _ => QE.tup h S (ra.cut _ _)⟩
    have z2 := z
    rw [ra.length] at z2
    rw [cutP_whole z2] at h
    exact QE.now h S (.tup g ra)
  · exact h.elim
def WO (X : Cx) (e : Option Expr) : TO := match e with
  | none => tNoPart
  | some e => tPart (WE X e)
theorem po_wo : ∀ {e : Option Expr}, PO X e (WO X e)
  | none => po_none
  | some _ => po_some pe_we
/-- a part of a slice -/
inductive SO (X : Cx) (ρ : Env) : Option Expr → M (Option Int) → Prop
  | none : SO X ρ none (.ret none)
  | some {e : Expr} {m : M PV} : SE X ρ e m → SO X ρ (some e) (m >>= fun p => match p with | .int i => .ret (some i) | _ => .bad)
theorem SO.run {e : Option Expr} {m : M (Option Int)} (h : SO X ρ e m) {F : Hp} {W : Wd} {σ : L2.St} {H : Hp} {Q : Option Int → Hp → Prop} (S : Sta F W ρ σ H) (q : m.All fun o => ∀ H' W', W.le W' → Sta F W' ρ σ H' → Q o H') : WO X e σ H Q := by
  cases h with
  | none => exact q H W (.refl W) S
  | some h =>
    rw [M.all_bind] at q
    refine h F W σ H _ S (q.mono fun p k v H' W' l S' r => ?_)
    split at k
    · exact ⟨_, r.inv_int, k H' W' l S'⟩
    · exact k.elim
theorem se_slice {lo hi : Option Expr} {ml mh : M (Option Int)} {p2 : Pos} (ha : SB X ρ a ma) (hl : SO X ρ lo ml) (hh : SO X ρ hi mh) : SE X ρ (.Subscript a (.Slice lo hi none p2) pos) (ma >>= fun p => ml >>= fun l => mh >>= fun h => pSlice p l h) := fun F W σ H Q S q => by
  refine (pe_slice sl_all pe_we po_wo po_wo).we ?_
  refine one (K := fun W => QE F W ρ σ Q) (f := fun p => ml >>= fun l => mh >>= fun h => pSlice p l h) ha S q (fun _ _ _ l k => k.le l) fun x p H' W' l S' rx k => ?_
  rw [M.all_bind] at k
  refine hl.run S' (k.mono fun o k H2 W2 l2 S2 => ?_)
  rw [M.all_bind] at k
  refine hh.run S2 (k.mono fun o2 k H3 W3 l3 S3 => ?_)
  exact slice_ok S3 (rx.mono (l2.trans l3)) (k.mono fun _ z => z.le (l2.trans l3))

/-! ### arguments -/
/-- borrowed values, one behind another -/
inductive RbL (F : Hp) (W : Wd) : List V → List PV → Prop
  | nil : RbL F W [] []
  | cons {v : V} {vs : List V} {p : PV} {ps : List PV} : Rb F W v p → RbL F W vs ps → RbL F W (v :: vs) (p :: ps)
theorem RbL.append {F : Hp} {W : Wd} : ∀ {vs ws : List V} {ps qs : List PV}, RbL F W vs ps → RbL F W ws qs → RbL F W (vs ++ ws) (ps ++ qs)
  | _, _, _, _, .nil, s => s
  | _, _, _, _, .cons r t, s => .cons r (append t s)
theorem RbL.mono {F : Hp} {W W' : Wd} (h : W.le W') : ∀ {vs : List V} {ps : List PV}, RbL F W vs ps → RbL F W' vs ps
  | _, _, .nil => .nil
  | _, _, .cons r t => .cons (r.mono h) (t.mono h)
theorem RpL.rb {F : Hp} {W : Wd} : ∀ {vs : List V} {ps : List PV}, RpL W vs ps → RbL F W vs ps
  | _, _, .nil => .nil
  | _, _, .cons r t => .cons (.inl r) (RpL.rb t)
def WA (X : Cx) (es : List Expr) : TA := fun σ H Q => ∀ pos pins s, Inv X pins σ H s → wpAny (model X.prog X.w) X.A (spliced (backTo pos (starEach es X.env))) (AP X pins σ Q) X.xe s
theorem pa_wa {es : List Expr} : PA X es (WA X es) := ⟨fun pos pins s σ H Q I h => h pos pins s I⟩
theorem _root_.L2.PA.wa {es : List Expr} {t : TA} (h : PA X es t) {σ : L2.St} {H : Hp} {Q : List V → Hp → Prop} (q : t σ H Q) : WA X es σ H Q := fun pos pins s I => h.run pos pins s σ H Q I q
/-- known values; borrowed ones -/
def SA (X : Cx) (ρ : Env) (es : List Expr) (m : M (List PV)) : Prop := ∀ F W σ H Q, Sta F W ρ σ H → m.All (fun ps => ∀ vs H' W', W.le W' → Sta F W' ρ σ H' → RpL W' vs ps → Q vs H') → WA X es σ H Q
def SAb (X : Cx) (ρ : Env) (es : List Expr) (m : M (List PV)) : Prop := ∀ F W σ H Q, Sta F W ρ σ H → m.All (fun ps => ∀ vs H' W', W.le W' → Sta F W' ρ σ H' → RbL F W' vs ps → Q vs H') → WA X es σ H Q
theorem sa_nil : SA X ρ [] (.ret []) := fun F W σ H Q S q => pa_nil.wa (show Q [] H from (M.all_ret _).mp q [] H W (.refl W) S .nil)
theorem sa_cons {es : List Expr} {ms : M (List PV)} (ha : SE X ρ a ma) (hr : SA X ρ es ms) (hs : starEach (a :: es) X.env = (false, eval a X.env) :: starEach es X.env := by rfl) : SA X ρ (a :: es) (ma >>= fun p => ms >>= fun ps => .ret (p :: ps)) := fun F W σ H Q S q => by
  refine (pa_cons pe_we pa_wa hs).wa ?_
  rw [M.all_bind] at q
  refine ha F W σ H _ S (q.mono fun p k v H1 W1 l1 S1 r1 => ?_)
  rw [M.all_bind] at k
  exact hr F W1 σ H1 _ S1 (k.mono fun ps k => by have k := (M.all_ret _).mp k; exact fun vs H2 W2 l2 S2 r2 => k _ H2 W2 (l1.trans l2) S2 (.cons (r1.mono l2) r2))
theorem sab_nil : SAb X ρ [] (.ret []) := fun F W σ H Q S q => pa_nil.wa (show Q [] H from (M.all_ret _).mp q [] H W (.refl W) S .nil)
theorem sab_cons {es : List Expr} {ms : M (List PV)} (ha : SB X ρ a ma) (hr : SAb X ρ es ms) (hs : starEach (a :: es) X.env = (false, eval a X.env) :: starEach es X.env := by rfl) : SAb X ρ (a :: es) (ma >>= fun p => ms >>= fun ps => .ret (p :: ps)) := fun F W σ H Q S q => by
  refine (pa_cons pe_we pa_wa hs).wa ?_
  rw [M.all_bind] at q
  refine ha F W σ H _ S (q.mono fun p k v H1 W1 l1 S1 r1 => ?_)
  rw [M.all_bind] at k
  exact hr F W1 σ H1 _ S1 (k.mono fun ps k => by have k := (M.all_ret _).mp k; exact fun vs H2 W2 l2 S2 r2 => k _ H2 W2 (l1.trans l2) S2 (.cons (r1.mono l2) r2))
/-- *e -/
def pSeq : PV → M (List PV)
  | .lst xs => .ret xs
  | .tup xs => .ret xs
  | _ => .bad
theorem Rb.seq {K : PySem.W.Frag} {F : Hp} {W : Wd} {H : Hp} {v : V} {p : PV} {Q : List PV → Prop} (r : Rb F W v p) (S : Hs F W H) (h : (pSeq p).All Q) : ∃ a xs ps, v = .ref a ∧ (SqT K H a xs ∨ SqL K H a xs) ∧ RpL W xs ps ∧ Q ps := by
  unfold pSeq at h
  split at h
  · obtain ⟨a, xs, rfl, ha, ra⟩ := r.lst S
    exact ⟨a, xs, _, rfl, .inr (SqL.of ha), ra, h⟩
  · obtain ⟨a, xs, rfl, _, ha, ra⟩ := r.tup S
    exact ⟨a, xs, _, rfl, .inl (SqT.of ha), ra, h⟩
  · exact h.elim
theorem sa_star {es : List Expr} {ms : M (List PV)} {p : Pos} (ha : SB X ρ a ma) (hr : SA X ρ es ms) (hs : starEach (.Starred a p :: es) X.env = (true, eval a X.env) :: starEach es X.env := by rfl) :
    SA X ρ (.Starred a p :: es) (ma >>= fun p => pSeq p >>= fun xs => ms >>= fun ps => .ret (xs ++ ps)) := fun F W σ H Q S q => by
  refine (StX.pa_star pe_we pa_wa hs).wa ?_
  rw [M.all_bind] at q
  refine ha F W σ H _ S (q.mono fun p k v H1 W1 l1 S1 r1 => ?_)
  rw [M.all_bind] at k
  obtain ⟨a, xs, zs, rfl, hx, rx, k⟩ := r1.seq (K := X.K) S1.hs k
  refine ⟨a, xs, rfl, hx, ?_⟩
  rw [M.all_bind] at k
  exact hr F W1 σ H1 _ S1 (k.mono fun ps k => by have k := (M.all_ret _).mp k; exact fun vs H2 W2 l2 S2 r2 => k _ H2 W2 (l1.trans l2) S2 ((rx.mono l2).append r2))

theorem SF.bind_eq {e : Expr} {m m' : M PV} (h : SF X ρ e m) (e' : m = m') : SF X ρ e m' := e' ▸ h
theorem SB.bind_eq {e : Expr} {m m' : M PV} (h : SB X ρ e m) (e' : m = m') : SB X ρ e m' := e' ▸ h
theorem SC.bind_eq {e : Expr} {m m' : M Bool} (h : SC X ρ e m) (e' : m = m') : SC X ρ e m' := e' ▸ h
/-! ### displays -/
def pTupD (ps : List PV) : M PV := if ps.length ≤ sizeLine then .ret (.tup ps) else .bad
def pLstD (ps : List PV) : M PV := if ps.length ≤ sizeLine then .ret (.lst ps) else .bad
theorem se_tupD {es : List Expr} {ms : M (List PV)} {k : Nat} (h : SA X ρ es ms) : SE X ρ (.Tuple es k pos) (ms >>= fun ps => pTupD ps) := fun F W σ H Q S q => by
  refine (pe_tup pa_wa).we ?_
  rw [M.all_bind] at q
  refine h F W σ H _ S (q.mono fun ps k vs H' W' l S' r => ?_)
  obtain ⟨z, k⟩ := all_ite k
  exact ⟨by rw [r.length]; exact z, QE.tup (QE.le l k) S' r⟩
theorem sf_lstD {es : List Expr} {ms : M (List PV)} (h : SA X ρ es ms) : SF X ρ (.List es pos) (ms >>= fun ps => pLstD ps) := fun F W σ H Q S q => by
  refine (pe_lst pa_wa).we ?_
  rw [M.all_bind] at q
  refine h F W σ H _ S (q.mono fun ps k vs H' W' l S' r => ?_)
  obtain ⟨z, k⟩ := all_ite k
  exact ⟨by rw [r.length]; exact z, QF.lst (QF.le l k) S' r⟩

/-! ### calls of defs -/
/-- the promise of a def by what it tells -/
def spM (n : Nat) (m : List PV → M PV) : Sp := fun vs H Q _ => ∃ F W ps, Hs F W H ∧ RpL W vs ps ∧ ps.length = n ∧ (m ps).All fun p => ∀ v H' W', W.le W' → Hs F W' H' → Rp W' v p → Q v H'
/-- a def of the program: it stands under its name, keeps its promise at level k -/
def Dn (P : Program) (w : World) (K : PySem.W.Frag) (mg : Str → Option Value) (base : Heap) (x : Str) (k : Nat) (n : Nat) (m : List PV → M PV) : Prop :=
  ∃ (f : Addr) (fd : FuncData) (ps : List Str), FnOk P w K mg base CX0 k f fd ps (spM n m) ∧ Binds K fd ps [] ∧ PySem.W.keepIn K (.ref f) = true ∧ mg x = some (.ref f)
theorem se_callL {x : Str} {k n : Nat} {m : List PV → M PV} {es : List Expr} {ms : M (List PV)} {p : Pos} (D : Dn X.prog X.w X.K X.mg X.base x k n m) (hr : Room k X.A) (hg : Gl X x) (ha : SA X ρ (a :: es) ms) (hn : ∀ {Q}, ms.All Q → ms.All fun ps => Q ps ∧ ps.length = n)
    (hdb : (x == ("__debug__" : Str)) = false := by decide) (he : starEach (a :: es) X.env = (false, eval a X.env) :: starEach es X.env := by rfl) (hpl : (backTo pos (starEach es X.env)).any (·.1) = false := by rfl) :
    SE X ρ (.Call (.Name x p) (a :: es) [] pos) (ms >>= fun ps => m ps) := fun F W σ H Q S q => by
  obtain ⟨f, fd, ps, hF, hb, hk, hm⟩ := D
  refine (pe_call hF hr hg hm hk hb .nil pass0 pa_wa hdb he hpl).we ?_
  rw [M.all_bind] at q
  refine ha F W σ H _ S ((hn q).mono fun ps ⟨k, hl⟩ vs H' W' l S' r => ?_)
  refine ⟨F, W', ps, S'.hs, by rw [List.append_nil]; exact r, hl, k.mono fun p z v H2 W2 l2 S2 r2 => z v H2 W2 (l.trans l2) (S'.grow l2 S2) r2⟩
theorem se_call0 {x : Str} {k : Nat} {m : List PV → M PV} {p : Pos} (D : Dn X.prog X.w X.K X.mg X.base x k 0 m) (hr : Room k X.A) (hg : Gl X x) (hdb : (x == ("__debug__" : Str)) = false := by decide) :
    SE X ρ (.Call (.Name x p) [] [] pos) (m []) := fun F W σ H Q S q => by
  obtain ⟨f, fd, ps, hF, hb, hk, hm⟩ := D
  refine (pe_call0 hF hr hg hm hk hb .nil pass0 hdb).we ?_
  exact ⟨F, W, [], S.hs, .nil, rfl, q.mono fun p z v H2 W2 l2 S2 r2 => z v H2 W2 l2 (S.grow l2 S2) r2⟩
theorem len_nil {Q : List PV → Prop} (h : (M.ret ([] : List PV)).All Q) : (M.ret ([] : List PV)).All fun ps => Q ps ∧ ps.length = 0 := ⟨h, rfl⟩
theorem len_cons {n : Nat} {ms : M (List PV)} (hn : ∀ {Q}, ms.All Q → ms.All fun ps => Q ps ∧ ps.length = n) {Q : List PV → Prop} (h : (ma >>= fun p => ms >>= fun ps => M.ret (p :: ps)).All Q) : (ma >>= fun p => ms >>= fun ps => M.ret (p :: ps)).All fun ps => Q ps ∧ ps.length = n + 1 := by
  rw [M.all_bind] at h ⊢
  refine h.mono fun p h => ?_
  rw [M.all_bind] at h ⊢
  exact (hn h).mono fun ps h => ⟨h.1, by show ps.length + 1 = n + 1; rw [h.2]⟩
theorem se_call1 {x : Str} {k : Nat} {m : List PV → M PV} {p : Pos} {a0 : Expr} {m0 : M PV} (D : Dn X.prog X.w X.K X.mg X.base x k 1 m) (hr : Room k X.A) (hg : Gl X x) (h0 : SE X ρ a0 m0) (hdb : (x == ("__debug__" : Str)) = false := by decide) (s0 : starEach [a0] X.env = (false, eval a0 X.env) :: starEach [] X.env := by rfl) (hpl : (backTo pos (starEach [] X.env)).any (·.1) = false := by rfl) :
    SE X ρ (.Call (.Name x p) [a0] [] pos) (m0 >>= fun p0 => m [p0]) :=
  (se_callL D hr hg (sa_cons h0 sa_nil s0) (fun {Q} h => len_cons (fun {Q} h => len_nil h) h) hdb s0 hpl).bind_eq (by simp only [bind_assoc, M.ret_bind])
theorem se_tup1 {k : Nat} {a0 : Expr} {m0 : M PV} (h0 : SE X ρ a0 m0) (s0 : starEach [a0] X.env = (false, eval a0 X.env) :: starEach [] X.env := by rfl) : SE X ρ (.Tuple [a0] k pos) (m0 >>= fun p0 => .ret (.tup [p0])) :=
  (se_tupD (sa_cons h0 sa_nil s0)).bind_eq (by simp only [bind_assoc, M.ret_bind, pTupD]; rfl)
theorem sf_lst1 {a0 : Expr} {m0 : M PV} (h0 : SE X ρ a0 m0) (s0 : starEach [a0] X.env = (false, eval a0 X.env) :: starEach [] X.env := by rfl) : SF X ρ (.List [a0] pos) (m0 >>= fun p0 => .ret (.lst [p0])) :=
  SF.bind_eq (sf_lstD (sa_cons h0 sa_nil s0)) (by simp only [bind_assoc, M.ret_bind, pLstD]; rfl)
theorem se_call2 {x : Str} {k : Nat} {m : List PV → M PV} {p : Pos} {a0 a1 : Expr} {m0 m1 : M PV} (D : Dn X.prog X.w X.K X.mg X.base x k 2 m) (hr : Room k X.A) (hg : Gl X x) (h0 : SE X ρ a0 m0) (h1 : SE X ρ a1 m1) (hdb : (x == ("__debug__" : Str)) = false := by decide) (s0 : starEach [a0, a1] X.env = (false, eval a0 X.env) :: starEach [a1] X.env := by rfl) (s1 : starEach [a1] X.env = (false, eval a1 X.env) :: starEach [] X.env := by rfl) (hpl : (backTo pos (starEach [a1] X.env)).any (·.1) = false := by rfl) :
    SE X ρ (.Call (.Name x p) [a0, a1] [] pos) (m0 >>= fun p0 => m1 >>= fun p1 => m [p0, p1]) :=
  (se_callL D hr hg (sa_cons h0 (sa_cons h1 sa_nil s1) s0) (fun {Q} h => len_cons ((fun {Q} h => len_cons (fun {Q} h => len_nil h) h)) h) hdb s0 hpl).bind_eq (by simp only [bind_assoc, M.ret_bind])
theorem se_tup2 {k : Nat} {a0 a1 : Expr} {m0 m1 : M PV} (h0 : SE X ρ a0 m0) (h1 : SE X ρ a1 m1) (s0 : starEach [a0, a1] X.env = (false, eval a0 X.env) :: starEach [a1] X.env := by rfl) (s1 : starEach [a1] X.env = (false, eval a1 X.env) :: starEach [] X.env := by rfl) : SE X ρ (.Tuple [a0, a1] k pos) (m0 >>= fun p0 => m1 >>= fun p1 => .ret (.tup [p0, p1])) :=
  (se_tupD (sa_cons h0 (sa_cons h1 sa_nil s1) s0)).bind_eq (by simp only [bind_assoc, M.ret_bind, pTupD]; rfl)
theorem sf_lst2 {a0 a1 : Expr} {m0 m1 : M PV} (h0 : SE X ρ a0 m0) (h1 : SE X ρ a1 m1) (s0 : starEach [a0, a1] X.env = (false, eval a0 X.env) :: starEach [a1] X.env := by rfl) (s1 : starEach [a1] X.env = (false, eval a1 X.env) :: starEach [] X.env := by rfl) : SF X ρ (.List [a0, a1] pos) (m0 >>= fun p0 => m1 >>= fun p1 => .ret (.lst [p0, p1])) :=
  SF.bind_eq (sf_lstD (sa_cons h0 (sa_cons h1 sa_nil s1) s0)) (by simp only [bind_assoc, M.ret_bind, pLstD]; rfl)
theorem se_call3 {x : Str} {k : Nat} {m : List PV → M PV} {p : Pos} {a0 a1 a2 : Expr} {m0 m1 m2 : M PV} (D : Dn X.prog X.w X.K X.mg X.base x k 3 m) (hr : Room k X.A) (hg : Gl X x) (h0 : SE X ρ a0 m0) (h1 : SE X ρ a1 m1) (h2 : SE X ρ a2 m2) (hdb : (x == ("__debug__" : Str)) = false := by decide) (s0 : starEach [a0, a1, a2] X.env = (false, eval a0 X.env) :: starEach [a1, a2] X.env := by rfl) (s1 : starEach [a1, a2] X.env = (false, eval a1 X.env) :: starEach [a2] X.env := by rfl) (s2 : starEach [a2] X.env = (false, eval a2 X.env) :: starEach [] X.env := by rfl) (hpl : (backTo pos (starEach [a1, a2] X.env)).any (·.1) = false := by rfl) :
    SE X ρ (.Call (.Name x p) [a0, a1, a2] [] pos) (m0 >>= fun p0 => m1 >>= fun p1 => m2 >>= fun p2 => m [p0, p1, p2]) :=
  (se_callL D hr hg (sa_cons h0 (sa_cons h1 (sa_cons h2 sa_nil s2) s1) s0) (fun {Q} h => len_cons ((fun {Q} h => len_cons ((fun {Q} h => len_cons (fun {Q} h => len_nil h) h)) h)) h) hdb s0 hpl).bind_eq (by simp only [bind_assoc, M.ret_bind])
theorem se_tup3 {k : Nat} {a0 a1 a2 : Expr} {m0 m1 m2 : M PV} (h0 : SE X ρ a0 m0) (h1 : SE X ρ a1 m1) (h2 : SE X ρ a2 m2) (s0 : starEach [a0, a1, a2] X.env = (false, eval a0 X.env) :: starEach [a1, a2] X.env := by rfl) (s1 : starEach [a1, a2] X.env = (false, eval a1 X.env) :: starEach [a2] X.env := by rfl) (s2 : starEach [a2] X.env = (false, eval a2 X.env) :: starEach [] X.env := by rfl) : SE X ρ (.Tuple [a0, a1, a2] k pos) (m0 >>= fun p0 => m1 >>= fun p1 => m2 >>= fun p2 => .ret (.tup [p0, p1, p2])) :=
  (se_tupD (sa_cons h0 (sa_cons h1 (sa_cons h2 sa_nil s2) s1) s0)).bind_eq (by simp only [bind_assoc, M.ret_bind, pTupD]; rfl)
theorem sf_lst3 {a0 a1 a2 : Expr} {m0 m1 m2 : M PV} (h0 : SE X ρ a0 m0) (h1 : SE X ρ a1 m1) (h2 : SE X ρ a2 m2) (s0 : starEach [a0, a1, a2] X.env = (false, eval a0 X.env) :: starEach [a1, a2] X.env := by rfl) (s1 : starEach [a1, a2] X.env = (false, eval a1 X.env) :: starEach [a2] X.env := by rfl) (s2 : starEach [a2] X.env = (false, eval a2 X.env) :: starEach [] X.env := by rfl) : SF X ρ (.List [a0, a1, a2] pos) (m0 >>= fun p0 => m1 >>= fun p1 => m2 >>= fun p2 => .ret (.lst [p0, p1, p2])) :=
  SF.bind_eq (sf_lstD (sa_cons h0 (sa_cons h1 (sa_cons h2 sa_nil s2) s1) s0)) (by simp only [bind_assoc, M.ret_bind, pLstD]; rfl)
theorem se_call4 {x : Str} {k : Nat} {m : List PV → M PV} {p : Pos} {a0 a1 a2 a3 : Expr} {m0 m1 m2 m3 : M PV} (D : Dn X.prog X.w X.K X.mg X.base x k 4 m) (hr : Room k X.A) (hg : Gl X x) (h0 : SE X ρ a0 m0) (h1 : SE X ρ a1 m1) (h2 : SE X ρ a2 m2) (h3 : SE X ρ a3 m3) (hdb : (x == ("__debug__" : Str)) = false := by decide) (s0 : starEach [a0, a1, a2, a3] X.env = (false, eval a0 X.env) :: starEach [a1, a2, a3] X.env := by rfl) (s1 : starEach [a1, a2, a3] X.env = (false, eval a1 X.env) :: starEach [a2, a3] X.env := by rfl) (s2 : starEach [a2, a3] X.env = (false, eval a2 X.env) :: starEach [a3] X.env := by rfl) (s3 : starEach [a3] X.env = (false, eval a3 X.env) :: starEach [] X.env := by rfl) (hpl : (backTo pos (starEach [a1, a2, a3] X.env)).any (·.1) = false := by rfl) :
    SE X ρ (.Call (.Name x p) [a0, a1, a2, a3] [] pos) (m0 >>= fun p0 => m1 >>= fun p1 => m2 >>= fun p2 => m3 >>= fun p3 => m [p0, p1, p2, p3]) :=
  (se_callL D hr hg (sa_cons h0 (sa_cons h1 (sa_cons h2 (sa_cons h3 sa_nil s3) s2) s1) s0) (fun {Q} h => len_cons ((fun {Q} h => len_cons ((fun {Q} h => len_cons ((fun {Q} h => len_cons (fun {Q} h => len_nil h) h)) h)) h)) h) hdb s0 hpl).bind_eq (by simp only [bind_assoc, M.ret_bind])
theorem se_tup4 {k : Nat} {a0 a1 a2 a3 : Expr} {m0 m1 m2 m3 : M PV} (h0 : SE X ρ a0 m0) (h1 : SE X ρ a1 m1) (h2 : SE X ρ a2 m2) (h3 : SE X ρ a3 m3) (s0 : starEach [a0, a1, a2, a3] X.env = (false, eval a0 X.env) :: starEach [a1, a2, a3] X.env := by rfl) (s1 : starEach [a1, a2, a3] X.env = (false, eval a1 X.env) :: starEach [a2, a3] X.env := by rfl) (s2 : starEach [a2, a3] X.env = (false, eval a2 X.env) :: starEach [a3] X.env := by rfl) (s3 : starEach [a3] X.env = (false, eval a3 X.env) :: starEach [] X.env := by rfl) : SE X ρ (.Tuple [a0, a1, a2, a3] k pos) (m0 >>= fun p0 => m1 >>= fun p1 => m2 >>= fun p2 => m3 >>= fun p3 => .ret (.tup [p0, p1, p2, p3])) :=
  (se_tupD (sa_cons h0 (sa_cons h1 (sa_cons h2 (sa_cons h3 sa_nil s3) s2) s1) s0)).bind_eq (by simp only [bind_assoc, M.ret_bind, pTupD]; rfl)
theorem sf_lst4 {a0 a1 a2 a3 : Expr} {m0 m1 m2 m3 : M PV} (h0 : SE X ρ a0 m0) (h1 : SE X ρ a1 m1) (h2 : SE X ρ a2 m2) (h3 : SE X ρ a3 m3) (s0 : starEach [a0, a1, a2, a3] X.env = (false, eval a0 X.env) :: starEach [a1, a2, a3] X.env := by rfl) (s1 : starEach [a1, a2, a3] X.env = (false, eval a1 X.env) :: starEach [a2, a3] X.env := by rfl) (s2 : starEach [a2, a3] X.env = (false, eval a2 X.env) :: starEach [a3] X.env := by rfl) (s3 : starEach [a3] X.env = (false, eval a3 X.env) :: starEach [] X.env := by rfl) : SF X ρ (.List [a0, a1, a2, a3] pos) (m0 >>= fun p0 => m1 >>= fun p1 => m2 >>= fun p2 => m3 >>= fun p3 => .ret (.lst [p0, p1, p2, p3])) :=
  SF.bind_eq (sf_lstD (sa_cons h0 (sa_cons h1 (sa_cons h2 (sa_cons h3 sa_nil s3) s2) s1) s0)) (by simp only [bind_assoc, M.ret_bind, pLstD]; rfl)
theorem se_call5 {x : Str} {k : Nat} {m : List PV → M PV} {p : Pos} {a0 a1 a2 a3 a4 : Expr} {m0 m1 m2 m3 m4 : M PV} (D : Dn X.prog X.w X.K X.mg X.base x k 5 m) (hr : Room k X.A) (hg : Gl X x) (h0 : SE X ρ a0 m0) (h1 : SE X ρ a1 m1) (h2 : SE X ρ a2 m2) (h3 : SE X ρ a3 m3) (h4 : SE X ρ a4 m4) (hdb : (x == ("__debug__" : Str)) = false := by decide) (s0 : starEach [a0, a1, a2, a3, a4] X.env = (false, eval a0 X.env) :: starEach [a1, a2, a3, a4] X.env := by rfl) (s1 : starEach [a1, a2, a3, a4] X.env = (false, eval a1 X.env) :: starEach [a2, a3, a4] X.env := by rfl) (s2 : starEach [a2, a3, a4] X.env = (false, eval a2 X.env) :: starEach [a3, a4] X.env := by rfl) (s3 : starEach [a3, a4] X.env = (false, eval a3 X.env) :: starEach [a4] X.env := by rfl) (s4 : starEach [a4] X.env = (false, eval a4 X.env) :: starEach [] X.env := by rfl) (hpl : (backTo pos (starEach [a1, a2, a3, a4] X.env)).any (·.1) = false := by rfl) :
    SE X ρ (.Call (.Name x p) [a0, a1, a2, a3, a4] [] pos) (m0 >>= fun p0 => m1 >>= fun p1 => m2 >>= fun p2 => m3 >>= fun p3 => m4 >>= fun p4 => m [p0, p1, p2, p3, p4]) :=
  (se_callL D hr hg (sa_cons h0 (sa_cons h1 (sa_cons h2 (sa_cons h3 (sa_cons h4 sa_nil s4) s3) s2) s1) s0) (fun {Q} h => len_cons ((fun {Q} h => len_cons ((fun {Q} h => len_cons ((fun {Q} h => len_cons ((fun {Q} h => len_cons (fun {Q} h => len_nil h) h)) h)) h)) h)) h) hdb s0 hpl).bind_eq (by simp only [bind_assoc, M.ret_bind])
theorem se_tup5 {k : Nat} {a0 a1 a2 a3 a4 : Expr} {m0 m1 m2 m3 m4 : M PV} (h0 : SE X ρ a0 m0) (h1 : SE X ρ a1 m1) (h2 : SE X ρ a2 m2) (h3 : SE X ρ a3 m3) (h4 : SE X ρ a4 m4) (s0 : starEach [a0, a1, a2, a3, a4] X.env = (false, eval a0 X.env) :: starEach [a1, a2, a3, a4] X.env := by rfl) (s1 : starEach [a1, a2, a3, a4] X.env = (false, eval a1 X.env) :: starEach [a2, a3, a4] X.env := by rfl) (s2 : starEach [a2, a3, a4] X.env = (false, eval a2 X.env) :: starEach [a3, a4] X.env := by rfl) (s3 : starEach [a3, a4] X.env = (false, eval a3 X.env) :: starEach [a4] X.env := by rfl) (s4 : starEach [a4] X.env = (false, eval a4 X.env) :: starEach [] X.env := by rfl) : SE X ρ (.Tuple [a0, a1, a2, a3, a4] k pos) (m0 >>= fun p0 => m1 >>= fun p1 => m2 >>= fun p2 => m3 >>= fun p3 => m4 >>= fun p4 => .ret (.tup [p0, p1, p2, p3, p4])) :=
  (se_tupD (sa_cons h0 (sa_cons h1 (sa_cons h2 (sa_cons h3 (sa_cons h4 sa_nil s4) s3) s2) s1) s0)).bind_eq (by simp only [bind_assoc, M.ret_bind, pTupD]; rfl)
theorem sf_lst5 {a0 a1 a2 a3 a4 : Expr} {m0 m1 m2 m3 m4 : M PV} (h0 : SE X ρ a0 m0) (h1 : SE X ρ a1 m1) (h2 : SE X ρ a2 m2) (h3 : SE X ρ a3 m3) (h4 : SE X ρ a4 m4) (s0 : starEach [a0, a1, a2, a3, a4] X.env = (false, eval a0 X.env) :: starEach [a1, a2, a3, a4] X.env := by rfl) (s1 : starEach [a1, a2, a3, a4] X.env = (false, eval a1 X.env) :: starEach [a2, a3, a4] X.env := by rfl) (s2 : starEach [a2, a3, a4] X.env = (false, eval a2 X.env) :: starEach [a3, a4] X.env := by rfl) (s3 : starEach [a3, a4] X.env = (false, eval a3 X.env) :: starEach [a4] X.env := by rfl) (s4 : starEach [a4] X.env = (false, eval a4 X.env) :: starEach [] X.env := by rfl) : SF X ρ (.List [a0, a1, a2, a3, a4] pos) (m0 >>= fun p0 => m1 >>= fun p1 => m2 >>= fun p2 => m3 >>= fun p3 => m4 >>= fun p4 => .ret (.lst [p0, p1, p2, p3, p4])) :=
  SF.bind_eq (sf_lstD (sa_cons h0 (sa_cons h1 (sa_cons h2 (sa_cons h3 (sa_cons h4 sa_nil s4) s3) s2) s1) s0)) (by simp only [bind_assoc, M.ret_bind, pLstD]; rfl)
theorem se_call6 {x : Str} {k : Nat} {m : List PV → M PV} {p : Pos} {a0 a1 a2 a3 a4 a5 : Expr} {m0 m1 m2 m3 m4 m5 : M PV} (D : Dn X.prog X.w X.K X.mg X.base x k 6 m) (hr : Room k X.A) (hg : Gl X x) (h0 : SE X ρ a0 m0) (h1 : SE X ρ a1 m1) (h2 : SE X ρ a2 m2) (h3 : SE X ρ a3 m3) (h4 : SE X ρ a4 m4) (h5 : SE X ρ a5 m5) (hdb : (x == ("__debug__" : Str)) = false := by decide) (s0 : starEach [a0, a1, a2, a3, a4, a5] X.env = (false, eval a0 X.env) :: starEach [a1, a2, a3, a4, a5] X.env := by rfl) (s1 : starEach [a1, a2, a3, a4, a5] X.env = (false, eval a1 X.env) :: starEach [a2, a3, a4, a5] X.env := by rfl) (s2 : starEach [a2, a3, a4, a5] X.env = (false, eval a2 X.env) :: starEach [a3, a4, a5] X.env := by rfl) (s3 : starEach [a3, a4, a5] X.env = (false, eval a3 X.env) :: starEach [a4, a5] X.env := by rfl) (s4 : starEach [a4, a5] X.env = (false, eval a4 X.env) :: starEach [a5] X.env := by rfl) (s5 : starEach [a5] X.env = (false, eval a5 X.env) :: starEach [] X.env := by rfl) (hpl : (backTo pos (starEach [a1, a2, a3, a4, a5] X.env)).any (·.1) = false := by rfl) :
    SE X ρ (.Call (.Name x p) [a0, a1, a2, a3, a4, a5] [] pos) (m0 >>= fun p0 => m1 >>= fun p1 => m2 >>= fun p2 => m3 >>= fun p3 => m4 >>= fun p4 => m5 >>= fun p5 => m [p0, p1, p2, p3, p4, p5]) :=
  (se_callL D hr hg (sa_cons h0 (sa_cons h1 (sa_cons h2 (sa_cons h3 (sa_cons h4 (sa_cons h5 sa_nil s5) s4) s3) s2) s1) s0) (fun {Q} h => len_cons ((fun {Q} h => len_cons ((fun {Q} h => len_cons ((fun {Q} h => len_cons ((fun {Q} h => len_cons ((fun {Q} h => len_cons (fun {Q} h => len_nil h) h)) h)) h)) h)) h)) h) hdb s0 hpl).bind_eq (by simp only [bind_assoc, M.ret_bind])
theorem se_tup6 {k : Nat} {a0 a1 a2 a3 a4 a5 : Expr} {m0 m1 m2 m3 m4 m5 : M PV} (h0 : SE X ρ a0 m0) (h1 : SE X ρ a1 m1) (h2 : SE X ρ a2 m2) (h3 : SE X ρ a3 m3) (h4 : SE X ρ a4 m4) (h5 : SE X ρ a5 m5) (s0 : starEach [a0, a1, a2, a3, a4, a5] X.env = (false, eval a0 X.env) :: starEach [a1, a2, a3, a4, a5] X.env := by rfl) (s1 : starEach [a1, a2, a3, a4, a5] X.env = (false, eval a1 X.env) :: starEach [a2, a3, a4, a5] X.env := by rfl) (s2 : starEach [a2, a3, a4, a5] X.env = (false, eval a2 X.env) :: starEach [a3, a4, a5] X.env := by rfl) (s3 : starEach [a3, a4, a5] X.env = (false, eval a3 X.env) :: starEach [a4, a5] X.env := by rfl) (s4 : starEach [a4, a5] X.env = (false, eval a4 X.env) :: starEach [a5] X.env := by rfl) (s5 : starEach [a5] X.env = (false, eval a5 X.env) :: starEach [] X.env := by rfl) : SE X ρ (.Tuple [a0, a1, a2, a3, a4, a5] k pos) (m0 >>= fun p0 => m1 >>= fun p1 => m2 >>= fun p2 => m3 >>= fun p3 => m4 >>= fun p4 => m5 >>= fun p5 => .ret (.tup [p0, p1, p2, p3, p4, p5])) :=
  (se_tupD (sa_cons h0 (sa_cons h1 (sa_cons h2 (sa_cons h3 (sa_cons h4 (sa_cons h5 sa_nil s5) s4) s3) s2) s1) s0)).bind_eq (by simp only [bind_assoc, M.ret_bind, pTupD]; rfl)
theorem sf_lst6 {a0 a1 a2 a3 a4 a5 : Expr} {m0 m1 m2 m3 m4 m5 : M PV} (h0 : SE X ρ a0 m0) (h1 : SE X ρ a1 m1) (h2 : SE X ρ a2 m2) (h3 : SE X ρ a3 m3) (h4 : SE X ρ a4 m4) (h5 : SE X ρ a5 m5) (s0 : starEach [a0, a1, a2, a3, a4, a5] X.env = (false, eval a0 X.env) :: starEach [a1, a2, a3, a4, a5] X.env := by rfl) (s1 : starEach [a1, a2, a3, a4, a5] X.env = (false, eval a1 X.env) :: starEach [a2, a3, a4, a5] X.env := by rfl) (s2 : starEach [a2, a3, a4, a5] X.env = (false, eval a2 X.env) :: starEach [a3, a4, a5] X.env := by rfl) (s3 : starEach [a3, a4, a5] X.env = (false, eval a3 X.env) :: starEach [a4, a5] X.env := by rfl) (s4 : starEach [a4, a5] X.env = (false, eval a4 X.env) :: starEach [a5] X.env := by rfl) (s5 : starEach [a5] X.env = (false, eval a5 X.env) :: starEach [] X.env := by rfl) : SF X ρ (.List [a0, a1, a2, a3, a4, a5] pos) (m0 >>= fun p0 => m1 >>= fun p1 => m2 >>= fun p2 => m3 >>= fun p3 => m4 >>= fun p4 => m5 >>= fun p5 => .ret (.lst [p0, p1, p2, p3, p4, p5])) :=
  SF.bind_eq (sf_lstD (sa_cons h0 (sa_cons h1 (sa_cons h2 (sa_cons h3 (sa_cons h4 (sa_cons h5 sa_nil s5) s4) s3) s2) s1) s0)) (by simp only [bind_assoc, M.ret_bind, pLstD]; rfl)
theorem se_call7 {x : Str} {k : Nat} {m : List PV → M PV} {p : Pos} {a0 a1 a2 a3 a4 a5 a6 : Expr} {m0 m1 m2 m3 m4 m5 m6 : M PV} (D : Dn X.prog X.w X.K X.mg X.base x k 7 m) (hr : Room k X.A) (hg : Gl X x) (h0 : SE X ρ a0 m0) (h1 : SE X ρ a1 m1) (h2 : SE X ρ a2 m2) (h3 : SE X ρ a3 m3) (h4 : SE X ρ a4 m4) (h5 : SE X ρ a5 m5) (h6 : SE X ρ a6 m6) (hdb : (x == ("__debug__" : Str)) = false := by decide) (s0 : starEach [a0, a1, a2, a3, a4, a5, a6] X.env = (false, eval a0 X.env) :: starEach [a1, a2, a3, a4, a5, a6] X.env := by rfl) (s1 : starEach [a1, a2, a3, a4, a5, a6] X.env = (false, eval a1 X.env) :: starEach [a2, a3, a4, a5, a6] X.env := by rfl) (s2 : starEach [a2, a3, a4, a5, a6] X.env = (false, eval a2 X.env) :: starEach [a3, a4, a5, a6] X.env := by rfl) (s3 : starEach [a3, a4, a5, a6] X.env = (false, eval a3 X.env) :: starEach [a4, a5, a6] X.env := by rfl) (s4 : starEach [a4, a5, a6] X.env = (false, eval a4 X.env) :: starEach [a5, a6] X.env := by rfl) (s5 : starEach [a5, a6] X.env = (false, eval a5 X.env) :: starEach [a6] X.env := by rfl) (s6 : starEach [a6] X.env = (false, eval a6 X.env) :: starEach [] X.env := by rfl) (hpl : (backTo pos (starEach [a1, a2, a3, a4, a5, a6] X.env)).any (·.1) = false := by rfl) :
    SE X ρ (.Call (.Name x p) [a0, a1, a2, a3, a4, a5, a6] [] pos) (m0 >>= fun p0 => m1 >>= fun p1 => m2 >>= fun p2 => m3 >>= fun p3 => m4 >>= fun p4 => m5 >>= fun p5 => m6 >>= fun p6 => m [p0, p1, p2, p3, p4, p5, p6]) :=
  (se_callL D hr hg (sa_cons h0 (sa_cons h1 (sa_cons h2 (sa_cons h3 (sa_cons h4 (sa_cons h5 (sa_cons h6 sa_nil s6) s5) s4) s3) s2) s1) s0) (fun {Q} h => len_cons ((fun {Q} h => len_cons ((fun {Q} h => len_cons ((fun {Q} h => len_cons ((fun {Q} h => len_cons ((fun {Q} h => len_cons ((fun {Q} h => len_cons (fun {Q} h => len_nil h) h)) h)) h)) h)) h)) h)) h) hdb s0 hpl).bind_eq (by simp only [bind_assoc, M.ret_bind])
theorem se_tup7 {k : Nat} {a0 a1 a2 a3 a4 a5 a6 : Expr} {m0 m1 m2 m3 m4 m5 m6 : M PV} (h0 : SE X ρ a0 m0) (h1 : SE X ρ a1 m1) (h2 : SE X ρ a2 m2) (h3 : SE X ρ a3 m3) (h4 : SE X ρ a4 m4) (h5 : SE X ρ a5 m5) (h6 : SE X ρ a6 m6) (s0 : starEach [a0, a1, a2, a3, a4, a5, a6] X.env = (false, eval a0 X.env) :: starEach [a1, a2, a3, a4, a5, a6] X.env := by rfl) (s1 : starEach [a1, a2, a3, a4, a5, a6] X.env = (false, eval a1 X.env) :: starEach [a2, a3, a4, a5, a6] X.env := by rfl) (s2 : starEach [a2, a3, a4, a5, a6] X.env = (false, eval a2 X.env) :: starEach [a3, a4, a5, a6] X.env := by rfl) (s3 : starEach [a3, a4, a5, a6] X.env = (false, eval a3 X.env) :: starEach [a4, a5, a6] X.env := by rfl) (s4 : starEach [a4, a5, a6] X.env = (false, eval a4 X.env) :: starEach [a5, a6] X.env := by rfl) (s5 : starEach [a5, a6] X.env = (false, eval a5 X.env) :: starEach [a6] X.env := by rfl) (s6 : starEach [a6] X.env = (false, eval a6 X.env) :: starEach [] X.env := by rfl) : SE X ρ (.Tuple [a0, a1, a2, a3, a4, a5, a6] k pos) (m0 >>= fun p0 => m1 >>= fun p1 => m2 >>= fun p2 => m3 >>= fun p3 => m4 >>= fun p4 => m5 >>= fun p5 => m6 >>= fun p6 => .ret (.tup [p0, p1, p2, p3, p4, p5, p6])) :=
  (se_tupD (sa_cons h0 (sa_cons h1 (sa_cons h2 (sa_cons h3 (sa_cons h4 (sa_cons h5 (sa_cons h6 sa_nil s6) s5) s4) s3) s2) s1) s0)).bind_eq (by simp only [bind_assoc, M.ret_bind, pTupD]; rfl)
theorem sf_lst7 {a0 a1 a2 a3 a4 a5 a6 : Expr} {m0 m1 m2 m3 m4 m5 m6 : M PV} (h0 : SE X ρ a0 m0) (h1 : SE X ρ a1 m1) (h2 : SE X ρ a2 m2) (h3 : SE X ρ a3 m3) (h4 : SE X ρ a4 m4) (h5 : SE X ρ a5 m5) (h6 : SE X ρ a6 m6) (s0 : starEach [a0, a1, a2, a3, a4, a5, a6] X.env = (false, eval a0 X.env) :: starEach [a1, a2, a3, a4, a5, a6] X.env := by rfl) (s1 : starEach [a1, a2, a3, a4, a5, a6] X.env = (false, eval a1 X.env) :: starEach [a2, a3, a4, a5, a6] X.env := by rfl) (s2 : starEach [a2, a3, a4, a5, a6] X.env = (false, eval a2 X.env) :: starEach [a3, a4, a5, a6] X.env := by rfl) (s3 : starEach [a3, a4, a5, a6] X.env = (false, eval a3 X.env) :: starEach [a4, a5, a6] X.env := by rfl) (s4 : starEach [a4, a5, a6] X.env = (false, eval a4 X.env) :: starEach [a5, a6] X.env := by rfl) (s5 : starEach [a5, a6] X.env = (false, eval a5 X.env) :: starEach [a6] X.env := by rfl) (s6 : starEach [a6] X.env = (false, eval a6 X.env) :: starEach [] X.env := by rfl) : SF X ρ (.List [a0, a1, a2, a3, a4, a5, a6] pos) (m0 >>= fun p0 => m1 >>= fun p1 => m2 >>= fun p2 => m3 >>= fun p3 => m4 >>= fun p4 => m5 >>= fun p5 => m6 >>= fun p6 => .ret (.lst [p0, p1, p2, p3, p4, p5, p6])) :=
  SF.bind_eq (sf_lstD (sa_cons h0 (sa_cons h1 (sa_cons h2 (sa_cons h3 (sa_cons h4 (sa_cons h5 (sa_cons h6 sa_nil s6) s5) s4) s3) s2) s1) s0)) (by simp only [bind_assoc, M.ret_bind, pLstD]; rfl)
theorem se_call8 {x : Str} {k : Nat} {m : List PV → M PV} {p : Pos} {a0 a1 a2 a3 a4 a5 a6 a7 : Expr} {m0 m1 m2 m3 m4 m5 m6 m7 : M PV} (D : Dn X.prog X.w X.K X.mg X.base x k 8 m) (hr : Room k X.A) (hg : Gl X x) (h0 : SE X ρ a0 m0) (h1 : SE X ρ a1 m1) (h2 : SE X ρ a2 m2) (h3 : SE X ρ a3 m3) (h4 : SE X ρ a4 m4) (h5 : SE X ρ a5 m5) (h6 : SE X ρ a6 m6) (h7 : SE X ρ a7 m7) (hdb : (x == ("__debug__" : Str)) = false := by decide) (s0 : starEach [a0, a1, a2, a3, a4, a5, a6, a7] X.env = (false, eval a0 X.env) :: starEach [a1, a2, a3, a4, a5, a6, a7] X.env := by rfl) (s1 : starEach [a1, a2, a3, a4, a5, a6, a7] X.env = (false, eval a1 X.env) :: starEach [a2, a3, a4, a5, a6, a7] X.env := by rfl) (s2 : starEach [a2, a3, a4, a5, a6, a7] X.env = (false, eval a2 X.env) :: starEach [a3, a4, a5, a6, a7] X.env := by rfl) (s3 : starEach [a3, a4, a5, a6, a7] X.env = (false, eval a3 X.env) :: starEach [a4, a5, a6, a7] X.env := by rfl) (s4 : starEach [a4, a5, a6, a7] X.env = (false, eval a4 X.env) :: starEach [a5, a6, a7] X.env := by rfl) (s5 : starEach [a5, a6, a7] X.env = (false, eval a5 X.env) :: starEach [a6, a7] X.env := by rfl) (s6 : starEach [a6, a7] X.env = (false, eval a6 X.env) :: starEach [a7] X.env := by rfl) (s7 : starEach [a7] X.env = (false, eval a7 X.env) :: starEach [] X.env := by rfl) (hpl : (backTo pos (starEach [a1, a2, a3, a4, a5, a6, a7] X.env)).any (·.1) = false := by rfl) :
    SE X ρ (.Call (.Name x p) [a0, a1, a2, a3, a4, a5, a6, a7] [] pos) (m0 >>= fun p0 => m1 >>= fun p1 => m2 >>= fun p2 => m3 >>= fun p3 => m4 >>= fun p4 => m5 >>= fun p5 => m6 >>= fun p6 => m7 >>= fun p7 => m [p0, p1, p2, p3, p4, p5, p6, p7]) :=
  (se_callL D hr hg (sa_cons h0 (sa_cons h1 (sa_cons h2 (sa_cons h3 (sa_cons h4 (sa_cons h5 (sa_cons h6 (sa_cons h7 sa_nil s7) s6) s5) s4) s3) s2) s1) s0) (fun {Q} h => len_cons ((fun {Q} h => len_cons ((fun {Q} h => len_cons ((fun {Q} h => len_cons ((fun {Q} h => len_cons ((fun {Q} h => len_cons ((fun {Q} h => len_cons ((fun {Q} h => len_cons (fun {Q} h => len_nil h) h)) h)) h)) h)) h)) h)) h)) h) hdb s0 hpl).bind_eq (by simp only [bind_assoc, M.ret_bind])
theorem se_tup8 {k : Nat} {a0 a1 a2 a3 a4 a5 a6 a7 : Expr} {m0 m1 m2 m3 m4 m5 m6 m7 : M PV} (h0 : SE X ρ a0 m0) (h1 : SE X ρ a1 m1) (h2 : SE X ρ a2 m2) (h3 : SE X ρ a3 m3) (h4 : SE X ρ a4 m4) (h5 : SE X ρ a5 m5) (h6 : SE X ρ a6 m6) (h7 : SE X ρ a7 m7) (s0 : starEach [a0, a1, a2, a3, a4, a5, a6, a7] X.env = (false, eval a0 X.env) :: starEach [a1, a2, a3, a4, a5, a6, a7] X.env := by rfl) (s1 : starEach [a1, a2, a3, a4, a5, a6, a7] X.env = (false, eval a1 X.env) :: starEach [a2, a3, a4, a5, a6, a7] X.env := by rfl) (s2 : starEach [a2, a3, a4, a5, a6, a7] X.env = (false, eval a2 X.env) :: starEach [a3, a4, a5, a6, a7] X.env := by rfl) (s3 : starEach [a3, a4, a5, a6, a7] X.env = (false, eval a3 X.env) :: starEach [a4, a5, a6, a7] X.env := by rfl) (s4 : starEach [a4, a5, a6, a7] X.env = (false, eval a4 X.env) :: starEach [a5, a6, a7] X.env := by rfl) (s5 : starEach [a5, a6, a7] X.env = (false, eval a5 X.env) :: starEach [a6, a7] X.env := by rfl) (s6 : starEach [a6, a7] X.env = (false, eval a6 X.env) :: starEach [a7] X.env := by rfl) (s7 : starEach [a7] X.env = (false, eval a7 X.env) :: starEach [] X.env := by rfl) : SE X ρ (.Tuple [a0, a1, a2, a3, a4, a5, a6, a7] k pos) (m0 >>= fun p0 => m1 >>= fun p1 => m2 >>= fun p2 => m3 >>= fun p3 => m4 >>= fun p4 => m5 >>= fun p5 => m6 >>= fun p6 => m7 >>= fun p7 => .ret (.tup [p0, p1, p2, p3, p4, p5, p6, p7])) :=
  (se_tupD (sa_cons h0 (sa_cons h1 (sa_cons h2 (sa_cons h3 (sa_cons h4 (sa_cons h5 (sa_cons h6 (sa_cons h7 sa_nil s7) s6) s5) s4) s3) s2) s1) s0)).bind_eq (by simp only [bind_assoc, M.ret_bind, pTupD]; rfl)
theorem sf_lst8 {a0 a1 a2 a3 a4 a5 a6 a7 : Expr} {m0 m1 m2 m3 m4 m5 m6 m7 : M PV} (h0 : SE X ρ a0 m0) (h1 : SE X ρ a1 m1) (h2 : SE X ρ a2 m2) (h3 : SE X ρ a3 m3) (h4 : SE X ρ a4 m4) (h5 : SE X ρ a5 m5) (h6 : SE X ρ a6 m6) (h7 : SE X ρ a7 m7) (s0 : starEach [a0, a1, a2, a3, a4, a5, a6, a7] X.env = (false, eval a0 X.env) :: starEach [a1, a2, a3, a4, a5, a6, a7] X.env := by rfl) (s1 : starEach [a1, a2, a3, a4, a5, a6, a7] X.env = (false, eval a1 X.env) :: starEach [a2, a3, a4, a5, a6, a7] X.env := by rfl) (s2 : starEach [a2, a3, a4, a5, a6, a7] X.env = (false, eval a2 X.env) :: starEach [a3, a4, a5, a6, a7] X.env := by rfl) (s3 : starEach [a3, a4, a5, a6, a7] X.env = (false, eval a3 X.env) :: starEach [a4, a5, a6, a7] X.env := by rfl) (s4 : starEach [a4, a5, a6, a7] X.env = (false, eval a4 X.env) :: starEach [a5, a6, a7] X.env := by rfl) (s5 : starEach [a5, a6, a7] X.env = (false, eval a5 X.env) :: starEach [a6, a7] X.env := by rfl) (s6 : starEach [a6, a7] X.env = (false, eval a6 X.env) :: starEach [a7] X.env := by rfl) (s7 : starEach [a7] X.env = (false, eval a7 X.env) :: starEach [] X.env := by rfl) : SF X ρ (.List [a0, a1, a2, a3, a4, a5, a6, a7] pos) (m0 >>= fun p0 => m1 >>= fun p1 => m2 >>= fun p2 => m3 >>= fun p3 => m4 >>= fun p4 => m5 >>= fun p5 => m6 >>= fun p6 => m7 >>= fun p7 => .ret (.lst [p0, p1, p2, p3, p4, p5, p6, p7])) :=
  SF.bind_eq (sf_lstD (sa_cons h0 (sa_cons h1 (sa_cons h2 (sa_cons h3 (sa_cons h4 (sa_cons h5 (sa_cons h6 (sa_cons h7 sa_nil s7) s6) s5) s4) s3) s2) s1) s0)) (by simp only [bind_assoc, M.ret_bind, pLstD]; rfl)
theorem se_tup0 {k : Nat} : SE X ρ (.Tuple [] k pos) (.ret (.tup [])) := (se_tupD sa_nil).bind_eq rfl
theorem sf_lst0 : SF X ρ (.List [] pos) (.ret (.lst [])) := (sf_lstD sa_nil).bind_eq rfl

/-! ### built-ins by one argument -/
def C1Ok (r : List V → Hp → VK → Prop) (f : PV → M PV) : Prop := ∀ F W (ρ : Env) σ H x p Q, Sta F W ρ σ H → Rb F W x p → (f p).All (QE F W ρ σ Q) → r [x] H Q
def C1OkF (r : List V → Hp → VK → Prop) (f : PV → M PV) : Prop := ∀ F W (ρ : Env) σ H x p Q, Sta F W ρ σ H → Rb F W x p → (f p).All (QF F W ρ σ Q) → r [x] H Q
variable {x : Str} {id : String} {r : List V → Hp → VK → Prop} {f : PV → M PV} {p : Pos}
theorem se_b1 (hc : CallR X (.builtin id) r) (hf : C1Ok r f) (hg : Gl X x) (hm : X.mg x = none) (hv : bootBuiltins x = some (.builtin id)) (ha : SB X ρ a ma) (hn : x ≠ "__name__" := by decide) (hdb : (x == ("__debug__" : Str)) = false := by decide)
    (he : starEach [a] X.env = (false, eval a X.env) :: starEach [] X.env := by rfl) : SE X ρ (.Call (.Name x p) [a] [] pos) (ma >>= fun p => f p) := fun F W σ H Q S q =>
  (pe_callB hc hg hm hv (pa_cons pe_we pa_nil he) hn hdb he).we (one (R := fun y H' => r [y] H' Q) (K := fun W => QE F W ρ σ Q) ha S q (fun _ _ _ l k => k.le l) fun y p H' W' l S' ry k => hf F W' ρ σ H' y p Q S' ry k)
theorem se_t1 (hc : CallR X (.type id) r) (hf : C1Ok r f) (hg : Gl X x) (hm : X.mg x = none) (hv : bootBuiltins x = some (.type id)) (ha : SB X ρ a ma) (hn : x ≠ "__name__" := by decide) (hdb : (x == ("__debug__" : Str)) = false := by decide)
    (he : starEach [a] X.env = (false, eval a X.env) :: starEach [] X.env := by rfl) : SE X ρ (.Call (.Name x p) [a] [] pos) (ma >>= fun p => f p) := fun F W σ H Q S q =>
  (pe_callTy hc hg hm hv (pa_cons pe_we pa_nil he) hn hdb he).we (one (R := fun y H' => r [y] H' Q) (K := fun W => QE F W ρ σ Q) ha S q (fun _ _ _ l k => k.le l) fun y p H' W' l S' ry k => hf F W' ρ σ H' y p Q S' ry k)
theorem sf_b1 (hc : CallR X (.builtin id) r) (hf : C1OkF r f) (hg : Gl X x) (hm : X.mg x = none) (hv : bootBuiltins x = some (.builtin id)) (ha : SB X ρ a ma) (hn : x ≠ "__name__" := by decide) (hdb : (x == ("__debug__" : Str)) = false := by decide)
    (he : starEach [a] X.env = (false, eval a X.env) :: starEach [] X.env := by rfl) : SF X ρ (.Call (.Name x p) [a] [] pos) (ma >>= fun p => f p) := fun F W σ H Q S q =>
  (pe_callB hc hg hm hv (pa_cons pe_we pa_nil he) hn hdb he).we (one (R := fun y H' => r [y] H' Q) (K := fun W => QF F W ρ σ Q) ha S q (fun _ _ _ l k => k.le l) fun y p H' W' l S' ry k => hf F W' ρ σ H' y p Q S' ry k)
theorem sf_t1 (hc : CallR X (.type id) r) (hf : C1OkF r f) (hg : Gl X x) (hm : X.mg x = none) (hv : bootBuiltins x = some (.type id)) (ha : SB X ρ a ma) (hn : x ≠ "__name__" := by decide) (hdb : (x == ("__debug__" : Str)) = false := by decide)
    (he : starEach [a] X.env = (false, eval a X.env) :: starEach [] X.env := by rfl) : SF X ρ (.Call (.Name x p) [a] [] pos) (ma >>= fun p => f p) := fun F W σ H Q S q =>
  (pe_callTy hc hg hm hv (pa_cons pe_we pa_nil he) hn hdb he).we (one (R := fun y H' => r [y] H' Q) (K := fun W => QF F W ρ σ Q) ha S q (fun _ _ _ l k => k.le l) fun y p H' W' l S' ry k => hf F W' ρ σ H' y p Q S' ry k)

/-! len -/
def pLen : PV → M PV
  | .lst xs => .ret (.int xs.length)
  | .tup xs => .ret (.int xs.length)
  | .str z => if z.length ≤ sizeLine then .ret (.int z.length) else .bad
  | _ => .bad
def rLenAll (K : PySem.W.Frag) : List V → Hp → VK → Prop := fun xs H Q => (∃ p ys, xs = [.ref p] ∧ (SqL K H p ys ∨ SqT K H p ys) ∧ Q (.int ys.length) H) ∨ ∃ z, xs = [.str z] ∧ z.length ≤ sizeLine ∧ Q (.int z.length) H
theorem cr_lenAll : CallR X (.builtin "len") (rLenAll X.K) := call_len_seq.or call_len_str
theorem len_ok {K : PySem.W.Frag} : C1Ok (rLenAll K) pLen := by
  intro F W ρ σ H x p Q S r h
  unfold pLen at h
  split at h
  · obtain ⟨a, xs, rfl, e, rl⟩ := r.lst S.hs
    exact .inl ⟨a, xs, rfl, .inl (SqL.of e), by rw [rl.length]; exact QE.now h S (.int _)⟩
  · obtain ⟨a, xs, rfl, g, e, rl⟩ := r.tup S.hs
    exact .inl ⟨a, xs, rfl, .inr (SqT.of e), by rw [rl.length]; exact QE.now h S (.int _)⟩
  · obtain ⟨z, h⟩ := all_ite h
    cases r.str
    exact .inr ⟨_, rfl, z, QE.now h S (.int _)⟩
  · exact h.elim
theorem se_len (hg : Gl X "len") (hm : X.mg "len" = none) (ha : SB X ρ a ma) (he : starEach [a] X.env = (false, eval a X.env) :: starEach [] X.env := by rfl) : SE X ρ (.Call (.Name "len" p) [a] [] pos) (ma >>= fun p => pLen p) :=
  se_b1 cr_lenAll len_ok hg hm PySem.boot_len ha (by decide) (by decide) he
/-! sum, max, min of whole numbers -/
def intsOf : List PV → Option (List Int)
  | [] => some []
  | .int i :: r => (intsOf r).map (i :: ·)
  | _ :: _ => none
theorem intsOf_map (ns : List Int) : intsOf (ns.map PV.int) = some ns := by
  induction ns with
  | nil => rfl
  | cons n ns ih => rw [List.map_cons, intsOf, ih]; rfl
theorem RpL.intsOf {W : Wd} : ∀ {vs : List V} {ps : List PV} {ns : List Int}, RpL W vs ps → ML.intsOf ps = some ns → vs = ns.map V.int
  | _, _, _, .nil, h => by cases h; rfl
  | _, p :: ps, ns, .cons r t, h => by
    cases p with
    | int i =>
      unfold ML.intsOf at h
      cases e : ML.intsOf ps with
      | none => rw [e] at h; cases h
      | some ms =>
        rw [e] at h
        cases h
        rw [r.inv_int, RpL.intsOf t e]
        rfl
    | _ => cases h
def onInts (f : List Int → M PV) : PV → M PV
  | .lst xs => match intsOf xs with
    | some ns => f ns
    | none => .bad
  | .tup xs => match intsOf xs with
    | some ns => f ns
    | none => .bad
  | _ => .bad
def pSum : PV → M PV := onInts fun ns => .ret (.int ns.sum)
theorem onInts_case {K : PySem.W.Frag} {F : Hp} {W : Wd} {H : Hp} {x : V} {p : PV} {f : List Int → M PV} {Q : PV → Prop} (S : Hs F W H) (r : Rb F W x p) (h : (onInts f p).All Q) :
    ∃ a ns, x = .ref a ∧ (SqL K H a (ns.map V.int) ∨ SqT K H a (ns.map V.int)) ∧ (f ns).All Q := by
  unfold onInts at h
  split at h
  · split at h
    · rename_i e
      obtain ⟨a, xs, rfl, g, rl⟩ := r.lst S
      exact ⟨a, _, rfl, .inl (by rw [← rl.intsOf e]; exact SqL.of g), h⟩
    · exact h.elim
  · split at h
    · rename_i e
      obtain ⟨a, xs, rfl, _, g, rl⟩ := r.tup S
      exact ⟨a, _, rfl, .inr (by rw [← rl.intsOf e]; exact SqT.of g), h⟩
    · exact h.elim
  · exact h.elim
def rSumT (K : PySem.W.Frag) : List V → Hp → VK → Prop := fun vs H Q => ∃ (a : Addr) (ns : List Int), vs = [V.ref a] ∧ SqT K H a (ns.map V.int) ∧ Q (.int ns.sum) H
theorem cr_sumT (hc : X.calm = true) : CallR X (.builtin "sum") (rSumT X.K) := by
  intro pins s σ H vs us Q I r h
  obtain ⟨a, ns, rfl, hs, q⟩ := h
  obtain ⟨its, rv, hl, _⟩ := I.tuple hs
  rw [Vals.ref1 r]
  obtain ⟨xs, e⟩ := rv.ints.allInts.items
  have hn : numsOf (intItems xs).toList = ns := by rw [← e]; exact rv.ints.numsOf
  rw [nums_intItems] at hn
  rw [e] at hl
  refine PySem.W.ktm_sumG (I.ok.hd hc) hl fun h' tk t' hk => ?_
  rw [preSum_eq, List.take_of_length_le (by simp), hn]
  exact ⟨.int _, H, I.kept hk, ⟨_, rfl⟩, q⟩
theorem sum_ok {K : PySem.W.Frag} : C1Ok (fun xs H Q => rSum K xs H Q ∨ rSumT K xs H Q) pSum := by
  intro F W ρ σ H x p Q S r h
  obtain ⟨a, ns, rfl, hs, h⟩ := onInts_case (K := K) S.hs r h
  rcases hs with hs | hs
  · exact .inl ⟨a, ns, rfl, hs, QE.now h S (.int _)⟩
  · exact .inr ⟨a, ns, rfl, hs, QE.now h S (.int _)⟩
theorem se_sum (hc : X.calm = true) (hg : Gl X "sum") (hm : X.mg "sum" = none) (ha : SB X ρ a ma) (he : starEach [a] X.env = (false, eval a X.env) :: starEach [] X.env := by rfl) : SE X ρ (.Call (.Name "sum" p) [a] [] pos) (ma >>= fun p => pSum p) :=
  se_b1 ((cr_sum hc).or (cr_sumT hc)) sum_ok hg hm (by decide +kernel) ha (by decide) (by decide) he
def maxI : List Int → Int
  | [] => 0
  | x :: xs => xs.foldl max x
def minI : List Int → Int
  | [] => 0
  | x :: xs => xs.foldl min x
theorem foldl_max (xs : List Int) : ∀ x, (xs.foldl max x = x ∨ xs.foldl max x ∈ xs) ∧ x ≤ xs.foldl max x ∧ ∀ y ∈ xs, y ≤ xs.foldl max x := by
  induction xs with
  | nil => intro x; simp
  | cons z zs ih =>
    intro x
    obtain ⟨h1, h2, h3⟩ := ih (max x z)
    rw [List.foldl_cons]
    refine ⟨?_, by omega, fun y hy => ?_⟩
    · rcases h1 with h1 | h1
      · rw [h1]
        by_cases e : x ≤ z
        · rw [Int.max_eq_right e]; exact .inr List.mem_cons_self
        · rw [Int.max_eq_left (by omega)]; exact .inl rfl
      · exact .inr (List.mem_cons_of_mem _ h1)
    · rcases List.mem_cons.mp hy with rfl | hy
      · omega
      · exact h3 y hy
theorem foldl_min (xs : List Int) : ∀ x, (xs.foldl min x = x ∨ xs.foldl min x ∈ xs) ∧ xs.foldl min x ≤ x ∧ ∀ y ∈ xs, xs.foldl min x ≤ y := by
  induction xs with
  | nil => intro x; simp
  | cons z zs ih =>
    intro x
    obtain ⟨h1, h2, h3⟩ := ih (min x z)
    rw [List.foldl_cons]
    refine ⟨?_, by omega, fun y hy => ?_⟩
    · rcases h1 with h1 | h1
      · rw [h1]
        by_cases e : x ≤ z
        · rw [Int.min_eq_left e]; exact .inl rfl
        · rw [Int.min_eq_right (by omega)]; exact .inr List.mem_cons_self
      · exact .inr (List.mem_cons_of_mem _ h1)
    · rcases List.mem_cons.mp hy with rfl | hy
      · omega
      · exact h3 y hy
theorem maxI_mem {ns : List Int} (h : ns ≠ []) : maxI ns ∈ ns ∧ ∀ y ∈ ns, y ≤ maxI ns := by
  cases ns with
  | nil => exact absurd rfl h
  | cons x xs =>
    obtain ⟨h1, h2, h3⟩ := foldl_max xs x
    refine ⟨?_, fun y hy => ?_⟩
    · rcases h1 with h1 | h1
      · show xs.foldl max x ∈ _; rw [h1]; exact List.mem_cons_self
      · exact List.mem_cons_of_mem _ h1
    · rcases List.mem_cons.mp hy with rfl | hy
      · exact h2
      · exact h3 y hy
theorem minI_mem {ns : List Int} (h : ns ≠ []) : minI ns ∈ ns ∧ ∀ y ∈ ns, minI ns ≤ y := by
  cases ns with
  | nil => exact absurd rfl h
  | cons x xs =>
    obtain ⟨h1, h2, h3⟩ := foldl_min xs x
    refine ⟨?_, fun y hy => ?_⟩
    · rcases h1 with h1 | h1
      · show xs.foldl min x ∈ _; rw [h1]; exact List.mem_cons_self
      · exact List.mem_cons_of_mem _ h1
    · rcases List.mem_cons.mp hy with rfl | hy
      · exact h2
      · exact h3 y hy
end
end ML

/-! The M layer, part 4: what is walked, comprehensions. -/
namespace ML
open PySem PySem.Spec PyProof.Rows L2
section
variable {X : Cx} {ρ : Env} {a b c e : Expr} {pos p : Pos} {ma mb mc : M PV} {x : Str}

/-! ### more built-ins -/
def pMax : PV → M PV := onInts fun ns => if ns = [] then .bad else .ret (.int (maxI ns))
def pMin : PV → M PV := onInts fun ns => if ns = [] then .bad else .ret (.int (minI ns))
theorem all_ite' {α : Type} {c : Prop} [Decidable c] {a : M α} {Q : α → Prop} (h : (if c then M.bad else a).All Q) : ¬ c ∧ a.All Q := by
  by_cases e : c
  · rw [if_pos e] at h; exact h.elim
  · rw [if_neg e] at h; exact ⟨e, h⟩
/-- of lists alone -/
def onIntsL (f : List Int → M PV) : PV → M PV
  | .lst xs => match intsOf xs with
    | some ns => f ns
    | none => .bad
  | _ => .bad
theorem onIntsL_case {K : PySem.W.Frag} {F : Hp} {W : Wd} {H : Hp} {x : V} {p : PV} {f : List Int → M PV} {Q : PV → Prop} (S : Hs F W H) (r : Rb F W x p) (h : (onIntsL f p).All Q) :
    ∃ a ns, x = .ref a ∧ SqL K H a (ns.map V.int) ∧ (f ns).All Q := by
  unfold onIntsL at h
  split at h
  · split at h
    · rename_i e
      obtain ⟨a, xs, rfl, g, rl⟩ := r.lst S
      exact ⟨a, _, rfl, by rw [← rl.intsOf e]; exact SqL.of g, h⟩
    · exact h.elim
  · exact h.elim
def pMaxL : PV → M PV := onIntsL fun ns => if ns = [] then .bad else .ret (.int (maxI ns))
def pMinL : PV → M PV := onIntsL fun ns => if ns = [] then .bad else .ret (.int (minI ns))
theorem pos_len {α : Type} {l : List α} (h : l ≠ []) : 0 < l.length := by cases l with | nil => exact absurd rfl h | cons _ _ => exact Nat.succ_pos _
theorem max_ok {K : PySem.W.Frag} : C1Ok (rMax K) pMaxL := by
  intro F W ρ σ H x p Q S r h
  obtain ⟨a, ns, rfl, hs, h⟩ := onIntsL_case (K := K) S.hs r h
  obtain ⟨hn, h⟩ := all_ite' h
  refine ⟨a, ns, rfl, hs, pos_len hn, fun m hm hu => ?_⟩
  have e : m = maxI ns := Int.le_antisymm ((maxI_mem hn).2 m hm) (hu _ (maxI_mem hn).1)
  subst e
  exact QE.now h S (.int _)
theorem min_ok {K : PySem.W.Frag} : C1Ok (rMin K) pMinL := by
  intro F W ρ σ H x p Q S r h
  obtain ⟨a, ns, rfl, hs, h⟩ := onIntsL_case (K := K) S.hs r h
  obtain ⟨hn, h⟩ := all_ite' h
  refine ⟨a, ns, rfl, hs, pos_len hn, fun m hm hu => ?_⟩
  have e : m = minI ns := Int.le_antisymm (hu _ (minI_mem hn).1) ((minI_mem hn).2 m hm)
  subst e
  exact QE.now h S (.int _)
theorem se_max (hc : X.calm = true) (hg : Gl X "max") (hm : X.mg "max" = none) (ha : SB X ρ a ma) (he : starEach [a] X.env = (false, eval a X.env) :: starEach [] X.env := by rfl) : SE X ρ (.Call (.Name "max" p) [a] [] pos) (ma >>= fun p => pMaxL p) :=
  se_b1 (cr_max hc) max_ok hg hm (by decide +kernel) ha (by decide) (by decide) he
theorem se_min (hc : X.calm = true) (hg : Gl X "min") (hm : X.mg "min" = none) (ha : SB X ρ a ma) (he : starEach [a] X.env = (false, eval a X.env) :: starEach [] X.env := by rfl) : SE X ρ (.Call (.Name "min" p) [a] [] pos) (ma >>= fun p => pMinL p) :=
  se_b1 (cr_min hc) min_ok hg hm (by decide +kernel) ha (by decide) (by decide) he
def pAbs : PV → M PV
  | .int i => .ret (.int (if i < 0 then -i else i))
  | _ => .bad
theorem abs_ok : C1Ok (fun xs H Q => ∃ i, xs = [.int i] ∧ Q (.int (if i < 0 then -i else i)) H) pAbs := by
  intro F W ρ σ H x p Q S r h
  unfold pAbs at h
  split at h
  · cases r.int; exact ⟨_, rfl, QE.now h S (.int _)⟩
  · exact h.elim
theorem se_abs (hg : Gl X "abs") (hm : X.mg "abs" = none) (ha : SB X ρ a ma) (he : starEach [a] X.env = (false, eval a X.env) :: starEach [] X.env := by rfl) : SE X ρ (.Call (.Name "abs" p) [a] [] pos) (ma >>= fun p => pAbs p) :=
  se_b1 call_abs abs_ok hg hm (by decide +kernel) ha (by decide) (by decide) he
def pIntOf : PV → M PV
  | .int i => .ret (.int i)
  | .bl k => .ret (.int (if k then 1 else 0))
  | _ => .bad
theorem intOf_ok : C1Ok (fun xs H Q => (∃ i, xs = [.int i] ∧ Q (.int i) H) ∨ ∃ k, xs = [.bl k] ∧ Q (.int (if k then 1 else 0)) H) pIntOf := by
  intro F W ρ σ H x p Q S r h
  unfold pIntOf at h
  split at h
  · cases r.int; exact .inl ⟨_, rfl, QE.now h S (.int _)⟩
  · cases r.bl; exact .inr ⟨_, rfl, QE.now h S (.int _)⟩
  · exact h.elim
theorem se_intOf (hg : Gl X "int") (hm : X.mg "int" = none) (ha : SB X ρ a ma) (he : starEach [a] X.env = (false, eval a X.env) :: starEach [] X.env := by rfl) : SE X ρ (.Call (.Name "int" p) [a] [] pos) (ma >>= fun p => pIntOf p) :=
  se_t1 call_int1 intOf_ok hg hm (by decide +kernel) ha (by decide) (by decide) he
/-! tuple(x), list(x) -/
def pTuple : PV → M PV
  | .lst xs => .ret (.tup xs)
  | .tup xs => .ret (.tup xs)
  | _ => .bad
def pList : PV → M PV
  | .lst xs => .ret (.lst xs)
  | .tup xs => .ret (.lst xs)
  | _ => .bad
theorem tuple_ok {K : PySem.W.Frag} : C1Ok (fun xs H Q => ∃ p ys, xs = [.ref p] ∧ ((SqL K H p ys ∧ ∀ l, H l = none → Q (.ref l) (upd H l (.tup ys))) ∨ (SqT K H p ys ∧ Q (.ref p) H))) pTuple := by
  intro F W ρ σ H x p Q S r h
  unfold pTuple at h
  split at h
  · obtain ⟨a, xs, rfl, g, rl⟩ := r.lst S.hs
    exact ⟨a, xs, rfl, .inl ⟨SqL.of g, QE.tup h S rl⟩⟩
  · obtain ⟨a, xs, rfl, g, e, rl⟩ := r.tup S.hs
    exact ⟨a, xs, rfl, .inr ⟨SqT.of e, QE.now h S (.tup g rl)⟩⟩
  · exact h.elim
theorem list_ok {K : PySem.W.Frag} : C1OkF (fun xs H Q => ∃ p ys, xs = [.ref p] ∧ (SqL K H p ys ∨ SqT K H p ys) ∧ ∀ l, H l = none → Q (.ref l) (upd H l (.lst ys))) pList := by
  intro F W ρ σ H x p Q S r h
  unfold pList at h
  split at h
  · obtain ⟨a, xs, rfl, g, rl⟩ := r.lst S.hs
    exact ⟨a, xs, rfl, .inl (SqL.of g), QF.lst h S rl⟩
  · obtain ⟨a, xs, rfl, g, e, rl⟩ := r.tup S.hs
    exact ⟨a, xs, rfl, .inr (SqT.of e), QF.lst h S rl⟩
  · exact h.elim
theorem se_tupleOf (hg : Gl X "tuple") (hm : X.mg "tuple" = none) (ha : SB X ρ a ma) (he : starEach [a] X.env = (false, eval a X.env) :: starEach [] X.env := by rfl) : SE X ρ (.Call (.Name "tuple" p) [a] [] pos) (ma >>= fun p => pTuple p) :=
  se_t1 call_tuple_of tuple_ok hg hm (by decide +kernel) ha (by decide) (by decide) he
theorem sf_listOf (hg : Gl X "list") (hm : X.mg "list" = none) (ha : SB X ρ a ma) (he : starEach [a] X.env = (false, eval a X.env) :: starEach [] X.env := by rfl) : SF X ρ (.Call (.Name "list" p) [a] [] pos) (ma >>= fun p => pList p) :=
  sf_t1 call_list_of list_ok hg hm (by decide +kernel) ha (by decide) (by decide) he
/-! all, any of lists of bools -/
def bools : List PV → Option (List Bool)
  | [] => some []
  | .bl i :: r => (bools r).map (i :: ·)
  | _ :: _ => none
theorem bools_map (ns : List Bool) : bools (ns.map PV.bl) = some ns := by
  induction ns with
  | nil => rfl
  | cons n ns ih => rw [List.map_cons, bools, ih]; rfl
theorem RpL.bools {W : Wd} : ∀ {vs : List V} {ps : List PV} {ns : List Bool}, RpL W vs ps → ML.bools ps = some ns → vs = ns.map V.bl
  | _, _, _, .nil, h => by cases h; rfl
  | _, p :: ps, ns, .cons r t, h => by
    cases p with
    | bl i =>
      unfold ML.bools at h
      cases e : ML.bools ps with
      | none => rw [e] at h; cases h
      | some ms =>
        rw [e] at h
        cases h
        rw [r.inv_bl, RpL.bools t e]
        rfl
    | _ => cases h
def onBools (f : List Bool → Bool) : PV → M PV
  | .lst xs => match bools xs with
    | some ns => .ret (.bl (f ns))
    | none => .bad
  | _ => .bad
def pAll : PV → M PV := onBools fun bs => bs.all id
def pAny : PV → M PV := onBools fun bs => bs.any id
theorem onBools_ok {K : PySem.W.Frag} {g : List Bool → Bool} : C1Ok (fun vs H Q => ∃ (a : Addr) (bs : List Bool), vs = [V.ref a] ∧ SqL K H a (bs.map V.bl) ∧ Q (.bl (g bs)) H) (onBools g) := by
  intro F W ρ σ H x p Q S r h
  unfold onBools at h
  split at h
  · split at h
    · rename_i e
      obtain ⟨a, xs, rfl, g, rl⟩ := r.lst S.hs
      exact ⟨a, _, rfl, by rw [← rl.bools e]; exact SqL.of g, QE.now h S (.bl _)⟩
    · exact h.elim
  · exact h.elim
theorem se_all (hc : X.calm = true) (hg : Gl X "all") (hm : X.mg "all" = none) (ha : SB X ρ a ma) (he : starEach [a] X.env = (false, eval a X.env) :: starEach [] X.env := by rfl) : SE X ρ (.Call (.Name "all" p) [a] [] pos) (ma >>= fun p => pAll p) :=
  se_b1 (cr_all hc) (onBools_ok (g := fun bs => bs.all id)) hg hm (by decide +kernel) ha (by decide) (by decide) he
theorem se_any (hc : X.calm = true) (hg : Gl X "any") (hm : X.mg "any" = none) (ha : SB X ρ a ma) (he : starEach [a] X.env = (false, eval a X.env) :: starEach [] X.env := by rfl) : SE X ρ (.Call (.Name "any" p) [a] [] pos) (ma >>= fun p => pAny p) :=
  se_b1 (cr_any hc) (onBools_ok (g := fun bs => bs.any id)) hg hm (by decide +kernel) ha (by decide) (by decide) he
/-! max(a, b), min(a, b) -/
def pMax2 : PV → PV → M PV := pInt2 (fun _ _ => true) max
def pMin2 : PV → PV → M PV := pInt2 (fun _ _ => true) min
theorem se_max2 (hc : X.calm = true) (hg : Gl X "max") (hm : X.mg "max" = none) (ha : SE X ρ a ma) (hb : SE X ρ b mb) (he : starEach [a, b] X.env = (false, eval a X.env) :: starEach [b] X.env := by rfl) (he2 : starEach [b] X.env = (false, eval b X.env) :: starEach [] X.env := by rfl)
    (hpl : (backTo pos (starEach [b] X.env)).any (·.1) = false := by rfl) : SE X ρ (.Call (.Name "max" p) [a, b] [] pos) (ma >>= fun p => mb >>= fun q => pMax2 p q) := fun F W σ H Q S q =>
  (pe_callB (call_max2 hc) hg hm (by decide +kernel) (pa_cons pe_we (pa_cons pe_we pa_nil he2) he) (by decide) (by decide) he hpl).we (two (R := fun x y H' => ∃ i j, [x, y] = [V.int i, .int j] ∧ Q (.int (if j > i then j else i)) H') (K := fun W => QE F W ρ σ Q) ha.sb hb.sb S q (fun _ _ _ l k => k.le l) fun x y p r H' W' l S' rx ry k => by
    unfold pMax2 pInt2 at k
    split at k
    · cases rx.int; cases ry.int
      rename_i i j
      refine ⟨i, j, rfl, ?_⟩
      have e : (if j > i then j else i) = max i j := by split <;> omega
      rw [e]
      exact QE.now (show QE F W' ρ σ Q (.int (max i j)) from k) S' (.int _)
    · exact k.elim)
theorem se_min2 (hc : X.calm = true) (hg : Gl X "min") (hm : X.mg "min" = none) (ha : SE X ρ a ma) (hb : SE X ρ b mb) (he : starEach [a, b] X.env = (false, eval a X.env) :: starEach [b] X.env := by rfl) (he2 : starEach [b] X.env = (false, eval b X.env) :: starEach [] X.env := by rfl)
    (hpl : (backTo pos (starEach [b] X.env)).any (·.1) = false := by rfl) : SE X ρ (.Call (.Name "min" p) [a, b] [] pos) (ma >>= fun p => mb >>= fun q => pMin2 p q) := fun F W σ H Q S q =>
  (pe_callB (call_min2 hc) hg hm (by decide +kernel) (pa_cons pe_we (pa_cons pe_we pa_nil he2) he) (by decide) (by decide) he hpl).we (two (R := fun x y H' => ∃ i j, [x, y] = [V.int i, .int j] ∧ Q (.int (if j < i then j else i)) H') (K := fun W => QE F W ρ σ Q) ha.sb hb.sb S q (fun _ _ _ l k => k.le l) fun x y p r H' W' l S' rx ry k => by
    unfold pMin2 pInt2 at k
    split at k
    · cases rx.int; cases ry.int
      rename_i i j
      refine ⟨i, j, rfl, ?_⟩
      have e : (if j < i then j else i) = min i j := by split <;> omega
      rw [e]
      exact QE.now (show QE F W' ρ σ Q (.int (min i j)) from k) S' (.int _)
    · exact k.elim)

/-! ### ranges -/
def rg (a b : Int) : List PV := (List.range (b - a).toNat).map fun i => .int (a + (i : Nat))
def pRange (p q : PV) : M (List PV) := match p, q with
  | .int a, .int b => if -16777216 ≤ a ∧ a ≤ 16777216 ∧ -16777216 ≤ b ∧ b ≤ 16777216 ∧ b - a ≤ 16777216 then .ret (rg a b) else .bad
  | _, _ => .bad
theorem rpl_map {W : Wd} {α : Type} (f : α → V) (g : α → PV) (h : ∀ i, Rp W (f i) (g i)) : ∀ l : List α, RpL W (l.map f) (l.map g)
  | [] => .nil
  | i :: l => .cons (h i) (rpl_map f g h l)
theorem rpl_rg {W : Wd} (a b : Int) : RpL W (rgV a b) (rg a b) := rpl_map _ _ (fun _ => .int _) _
/-- an expression that makes a range -/
def WR (X : Cx) (e : Expr) : L2.St → Hp → (Int → Int → Hp → Prop) → Prop := fun σ H Q => ∀ pins s, Inv X pins σ H s → wpAny (model X.prog X.w) X.A (eval e X.env) (fun x s' => ∃ r a b t u v H', x = .ref r ∧ IsRange s'.heap r a b 1 t u v ∧ Inv X pins σ H' s' ∧ Q a b H') X.xe s
theorem prg_wr {e : Expr} : PRg X e (WR X e) := fun pins s σ H Q I h => h pins s I
def SR (X : Cx) (ρ : Env) (e : Expr) (m : M (List PV)) : Prop := ∀ F W σ H Q, Sta F W ρ σ H → m.All (fun l => ∀ a b H' W', W.le W' → Sta F W' ρ σ H' → l = rg a b → RgOk a b → Q a b H') → WR X e σ H Q
theorem range_all {i j : Int} {P : List PV → Prop} (h : (pRange (.int i) (.int j)).All P) : RgOk i j ∧ P (rg i j) := by
  unfold pRange at h
  obtain ⟨⟨h1, h2, h3, h4, h5⟩, h⟩ := all_ite h
  exact ⟨⟨by omega, by omega, by omega, by omega, by omega⟩, h⟩
theorem range_bad {p q : PV} {P : List PV → Prop} (h : (pRange p q).All P) : ∃ i j, p = .int i ∧ q = .int j := by
  unfold pRange at h
  split at h
  · exact ⟨_, _, rfl, rfl⟩
  · exact h.elim
theorem sr_1 (hg : Gl X "range") (hm : X.mg "range" = none) (ha : SE X ρ a ma) (na : starEach [a] X.env = (false, eval a X.env) :: starEach [] X.env := by rfl) : SR X ρ (.Call (.Name "range" p) [a] [] pos) (ma >>= fun p => pRange (.int 0) p) := fun F W σ H Q S q pins s I =>
  (prg_1 hg hm pe_we na) pins s σ H Q I (by
    rw [M.all_bind] at q
    exact ha F W σ H _ S (q.mono fun p k v H' W' l S' r => by
      obtain ⟨i, j, e1, rfl⟩ := range_bad k
      obtain ⟨z, k⟩ := range_all (i := 0) k
      exact ⟨j, r.inv_int, k 0 j H' W' l S' rfl z⟩))
theorem sr_2 (hg : Gl X "range") (hm : X.mg "range" = none) (ha : SE X ρ a ma) (hb : SE X ρ b mb) (na : starEach [a, b] X.env = (false, eval a X.env) :: starEach [b] X.env := by rfl)
    (nb : starEach [b] X.env = (false, eval b X.env) :: starEach [] X.env := by rfl) (hp : (backTo pos (starEach [b] X.env)).any (·.1) = false := by rfl) : SR X ρ (.Call (.Name "range" p) [a, b] [] pos) (ma >>= fun p => mb >>= fun q => pRange p q) := fun F W σ H Q S q pins s I =>
  (prg_2 hg hm pe_we pe_we na nb hp) pins s σ H Q I (by
    rw [M.all_bind] at q
    refine ha F W σ H _ S (q.mono fun p k v H1 W1 l1 S1 r1 => ?_)
    rw [M.all_bind] at k
    refine hb F W1 σ H1 _ S1 (k.mono fun p2 k u H2 W2 l2 S2 r2 => ?_)
    obtain ⟨i, j, rfl, rfl⟩ := range_bad k
    obtain ⟨z, k⟩ := range_all k
    exact ⟨i, j, r1.inv_int, r2.inv_int, k i j H2 W2 (l1.trans l2) S2 rfl z⟩)
variable {ml : M (List PV)}
theorem sf_listRg (hc : X.calm = true) (hg : Gl X "list") (hm : X.mg "list" = none) (he : SR X ρ e ml) (na : starEach [e] X.env = (false, eval e X.env) :: starEach [] X.env := by rfl) : SF X ρ (.Call (.Name "list" p) [e] [] pos) (ml >>= fun l => .ret (.lst l)) := fun F W σ H Q S q => by
  refine (pe_listRg hc hg hm prg_wr na).we ?_
  rw [M.all_bind] at q
  refine he F W σ H _ S (q.mono fun l k a b H' W' le S' el ok => ⟨ok, ?_⟩)
  subst el
  exact QF.lst (QF.le le ((M.all_ret _).mp k)) S' (rpl_rg a b)
theorem se_tupRg (hc : X.calm = true) (hg : Gl X "tuple") (hm : X.mg "tuple" = none) (he : SR X ρ e ml) (na : starEach [e] X.env = (false, eval e X.env) :: starEach [] X.env := by rfl) : SE X ρ (.Call (.Name "tuple" p) [e] [] pos) (ml >>= fun l => .ret (.tup l)) := fun F W σ H Q S q => by
  refine (pe_tupRg hc hg hm prg_wr na).we ?_
  rw [M.all_bind] at q
  refine he F W σ H _ S (q.mono fun l k a b H' W' le S' el ok => ⟨ok, ?_⟩)
  subst el
  exact QE.tup (QE.le le ((M.all_ret _).mp k)) S' (rpl_rg a b)

/-! ### what is walked -/
/-- J gives the items, as long as what is known (and F) stands -/
def ItOk (F : Hp) (W : Wd) (J : It) (items : List PV) : Prop := ∃ Y, Walk J items.length (fun H => Sub W.G H ∧ Sub F H) Y ∧
  ∀ i H x H' p, items[i]? = some p → Y i H x H' → ∀ W1 F1, W.le W1 → Sub F F1 → Hs F1 W1 H → ∃ W2, W1.le W2 ∧ Hs F1 W2 H' ∧ Rp W2 x p
def noH : Hp := fun _ => none
theorem noH_sub (F : Hp) : Sub noH F := fun _ _ h => nomatch h
theorem ItOk.more {F : Hp} {W : Wd} {J : It} {items : List PV} (h : ItOk noH W J items) : ItOk F W J items := by
  obtain ⟨Y, w, g⟩ := h
  exact ⟨Y, w.mono (fun H q => ⟨q.1, noH_sub H⟩) fun _ _ _ _ _ _ y => y, fun i H x H' p hp y W1 F1 l s h => g i H x H' p hp y W1 F1 l (noH_sub F1) h⟩
def WI (X : Cx) (tg e : Expr) : TI := fun σ H R => ∀ pins s, Inv X pins σ H s → wpAny (model X.prog X.w) X.A (eval e X.env) (fun v s1 => wpAny (model X.prog X.w) X.A (pyIter v) (PIE X pins σ tg R) X.xe s1) X.xe s
theorem pi_wi {tg e : Expr} : PI X tg e (WI X tg e) := ⟨fun pins s σ H R I h => h pins s I⟩
theorem _root_.L2.PI.wi {tg e : Expr} {t : TI} (h : PI X tg e t) {σ : L2.St} {H : Hp} {R : It → Hp → Prop} (q : t σ H R) : WI X tg e σ H R := fun pins s I => h.run pins s σ H R I q
/-- the items walked: br: they may stand in one of the def's own lists -/
def SI (X : Cx) (ρ : Env) (tg e : Expr) (br : Bool) (m : M (List PV)) : Prop := ∀ F W σ H R, Sta F W ρ σ H → m.All (fun items => ∀ J H' W', W.le W' → Sta F W' ρ σ H' → ItOk (if br then F else noH) W' J items → items.length ≤ sizeLine → R J H') → WI X tg e σ H R
variable {tg : Expr}
theorem SI.more (h : SI X ρ tg e false ml) : SI X ρ tg e true ml := fun F W σ H R S q => h F W σ H R S (q.mono fun items k J H' W' l S' z hl => k J H' W' l S' z.more hl)
theorem itOk_list {K : PySem.W.Frag} {F : Hp} {W : Wd} {a : Addr} {xs : List V} {ps : List PV} (h : W.G a = some (.lst xs) ∨ F a = some (.lst xs)) (r : RpL W xs ps) : ItOk F W (Itl K a) ps :=
  ⟨_, by rw [← r.length]; exact walk_list.mono (fun H q => SqL.of (h.elim (q.1 _ _) (q.2 _ _))) fun _ _ _ _ _ _ y => y, fun i H x H' p hp y W1 F1 l s hs => by
    obtain ⟨rfl, hx⟩ := y
    obtain ⟨p', e1, r1⟩ := r.get hx
    rw [hp] at e1; cases e1
    exact ⟨W1, .refl W1, hs, r1.mono l⟩⟩
theorem itOk_tup {K : PySem.W.Frag} {F : Hp} {W : Wd} {a : Addr} {xs : List V} {ps : List PV} (h : W.G a = some (.tup xs)) (r : RpL W xs ps) : ItOk F W (Itt K a) ps :=
  ⟨_, by rw [← r.length]; exact walk_tup.mono (fun H q => SqT.of (q.1 _ _ h)) fun _ _ _ _ _ _ y => y, fun i H x H' p hp y W1 F1 l s hs => by
    obtain ⟨rfl, hx⟩ := y
    obtain ⟨p', e1, r1⟩ := r.get hx
    rw [hp] at e1; cases e1
    exact ⟨W1, .refl W1, hs, r1.mono l⟩⟩
/-- a list or a tuple at an address, its iterator -/
theorem iter_seq {pins : List (Addr × Obj)} {σ : L2.St} {H : Hp} {s : Shared} {R : It → Hp → Prop} {v : V} {u : Value} (I : Inv X pins σ H s) (r : RelV v u)
    (h : ∃ a, v = .ref a ∧ ((∃ xs, H a = some (.lst xs) ∧ (xs.length ≤ sizeLine → R (Itl X.K a) H)) ∨ ∃ xs, H a = some (.tup xs) ∧ (xs.length ≤ sizeLine → R (Itt X.K a) H))) : wpAny (model X.prog X.w) X.A (pyIter u) (PIE X pins σ tg R) X.xe s := by
  have fresh : ∀ b ∈ [s.heap.objs.size], FpOk X pins H b := fun b hb => by
    rcases List.mem_singleton.mp hb with rfl
    exact I.fpOk (Nat.le_refl _) I.fresh
  obtain ⟨a, rfl, h⟩ := h
  cases r
  rcases h with ⟨xs, e, q⟩ | ⟨xs, e, q⟩
  · obtain ⟨its, _, pl, hz⟩ := I.list (SqL.of e)
    exact wpAny_pyIter_list pl.isList ⟨_, [s.heap.objs.size], _, _, H, rfl, I.kept (t' := s.toks) fun b o z => Heap.get?_push_of_some _ z, turn_list a _, ⟨_, Heap.get?_push_size _ rfl, rfl, rfl⟩, fresh, q hz⟩
  · obtain ⟨its, _, pl, hz⟩ := I.tuple (SqT.of e)
    exact wpAny_pyIter_tuple pl ⟨_, [s.heap.objs.size], _, _, H, rfl, I.kept (t' := s.toks) fun b o z => Heap.get?_push_of_some _ z, turn_tuple a _, ⟨_, Heap.get?_push_size _ rfl, rfl, rfl⟩, fresh, q hz⟩
theorem pSeq_case {p : PV} {P : List PV → Prop} (h : (pSeq p).All P) : (∃ ps, p = .lst ps ∧ P ps) ∨ ∃ ps, p = .tup ps ∧ P ps := by
  unfold pSeq at h
  split at h
  · exact .inl ⟨_, rfl, h⟩
  · exact .inr ⟨_, rfl, h⟩
  · exact h.elim
theorem si_seq (ha : SE X ρ e ma) : SI X ρ tg e false (ma >>= fun p => pSeq p) := fun F W σ H R S q pins s I => by
  rw [M.all_bind] at q
  refine thn (ha F W σ H (fun x H' => ∃ a, x = .ref a ∧ ((∃ xs, H' a = some (.lst xs) ∧ (xs.length ≤ sizeLine → R (Itl X.K a) H')) ∨ ∃ xs, H' a = some (.tup xs) ∧ (xs.length ≤ sizeLine → R (Itt X.K a) H'))) S (q.mono fun p k v H' W' l S' r => ?_) pins s I) fun u s1 ⟨v, H1, I1, r1, z⟩ => iter_seq I1 r1 z
  rcases pSeq_case k with ⟨ps, rfl, k⟩ | ⟨ps, rfl, k⟩
  · obtain ⟨a, xs, rfl, g, rl⟩ := r.inv_lst
    exact ⟨a, rfl, .inl ⟨xs, S'.hs.g _ _ g, fun hz => k _ _ _ l S' (itOk_list (.inl g) rl) (by rw [← rl.length]; exact hz)⟩⟩
  · obtain ⟨a, xs, rfl, g, rl⟩ := r.inv_tup
    exact ⟨a, rfl, .inr ⟨xs, S'.hs.g _ _ g, fun hz => k _ _ _ l S' (itOk_tup g rl) (by rw [← rl.length]; exact hz)⟩⟩
theorem si_seqB (ha : SB X ρ e ma) : SI X ρ tg e true (ma >>= fun p => pSeq p) := fun F W σ H R S q pins s I => by
  rw [M.all_bind] at q
  refine thn (ha F W σ H (fun x H' => ∃ a, x = .ref a ∧ ((∃ xs, H' a = some (.lst xs) ∧ (xs.length ≤ sizeLine → R (Itl X.K a) H')) ∨ ∃ xs, H' a = some (.tup xs) ∧ (xs.length ≤ sizeLine → R (Itt X.K a) H'))) S (q.mono fun p k v H' W' l S' r => ?_) pins s I) fun u s1 ⟨v, H1, I1, r1, z⟩ => iter_seq I1 r1 z
  rcases r with r | ⟨a, rfl, o, f, xs, ps, rfl, rfl, rl⟩
  · rcases pSeq_case k with ⟨ps, rfl, k⟩ | ⟨ps, rfl, k⟩
    · obtain ⟨a, xs, rfl, g, rl⟩ := r.inv_lst
      exact ⟨a, rfl, .inl ⟨xs, S'.hs.g _ _ g, fun hz => k _ _ _ l S' (itOk_list (.inl g) rl) (by rw [← rl.length]; exact hz)⟩⟩
    · obtain ⟨a, xs, rfl, g, rl⟩ := r.inv_tup
      exact ⟨a, rfl, .inr ⟨xs, S'.hs.g _ _ g, fun hz => k _ _ _ l S' (itOk_tup g rl) (by rw [← rl.length]; exact hz)⟩⟩
  · exact ⟨a, rfl, .inl ⟨xs, S'.hs.f _ _ f, fun hz => (M.all_ret _).mp k _ _ _ l S' (itOk_list (.inr f) rl) (by rw [← rl.length]; exact hz)⟩⟩
theorem itOk_range {F : Hp} {W : Wd} {a b : Int} : ItOk F W (Itr a (b - a).toNat) (rg a b) :=
  ⟨_, by
    have e : (rg a b).length = (b - a).toNat := by unfold rg; rw [List.length_map, List.length_range]
    rw [e]; exact walk_range.mono (fun _ _ => trivial) fun _ _ _ _ _ _ y => y, fun i H x H' p hp y W1 F1 l s hs => by
    obtain ⟨rfl, rfl⟩ := y
    refine ⟨W1, .refl W1, hs, ?_⟩
    unfold rg at hp
    rw [List.getElem?_map] at hp
    cases e : (List.range (b - a).toNat)[i]? with
    | none => rw [e] at hp; cases hp
    | some j =>
      rw [e] at hp
      cases hp
      obtain ⟨_, rfl⟩ := List.getElem?_eq_some_iff.mp e
      rw [List.getElem_range]
      exact .int _⟩
theorem rg_len {i j : Int} (h : RgOk i j) : (rg i j).length ≤ sizeLine := by
  unfold rg
  rw [List.length_map, List.length_range, sizeLine_eq]
  exact h.2.2.2.2
theorem si_range1 (hg : Gl X "range") (hm : X.mg "range" = none) (ha : SE X ρ a ma) (na : starEach [a] X.env = (false, eval a X.env) :: starEach [] X.env := by rfl) (hs : starEach [a] X.env = [(false, eval a X.env)] := by rfl) :
    SI X ρ tg (.Call (.Name "range" p) [a] [] pos) false (ma >>= fun p => pRange (.int 0) p) := fun F W σ H R S q =>
  (pi_range1 hg hm (pa_cons pe_we pa_nil na) hs).wi (by
    rw [M.all_bind] at q
    exact ha F W σ H _ S (q.mono fun p k v H' W' l S' r => by
      obtain ⟨i, j, e1, rfl⟩ := range_bad k
      obtain ⟨z, k⟩ := range_all (i := 0) k
      have w := k _ H' W' l S' (itOk_range (a := 0) (b := j)) (rg_len z)
      rw [Int.sub_zero] at w
      exact ⟨j, by rw [r.inv_int], z.2.2.1, z.2.2.2.1, w⟩))
theorem si_range2 (hg : Gl X "range") (hm : X.mg "range" = none) (ha : SE X ρ a ma) (hb : SE X ρ b mb) (na : starEach [a, b] X.env = (false, eval a X.env) :: starEach [b] X.env := by rfl) (nb : starEach [b] X.env = (false, eval b X.env) :: starEach [] X.env := by rfl)
    (hs2 : starEach [b] X.env = [(false, eval b X.env)] := by rfl) :
    SI X ρ tg (.Call (.Name "range" p) [a, b] [] pos) false (ma >>= fun p => mb >>= fun q => pRange p q) := fun F W σ H R S q =>
  (pi_range2 hg hm (pa_cons pe_we (pa_cons pe_we pa_nil nb) na) (by rw [na, hs2]) hs2).wi (by
    rw [M.all_bind] at q
    refine ha F W σ H _ S (q.mono fun p k v H1 W1 l1 S1 r1 => ?_)
    rw [M.all_bind] at k
    refine hb F W1 σ H1 _ S1 (k.mono fun p2 k u H2 W2 l2 S2 r2 => ?_)
    obtain ⟨i, j, rfl, rfl⟩ := range_bad k
    obtain ⟨z, k⟩ := range_all k
    exact ⟨i, j, by rw [r1.inv_int, r2.inv_int], ⟨z.1, z.2.1, z.2.2.1, z.2.2.2.1⟩, k _ H2 W2 (l1.trans l2) S2 itOk_range (rg_len z)⟩)
end
end ML

/-! The M layer, part 5: targets, comprehensions. -/
namespace ML
open PySem PySem.Spec PyProof.Rows L2

/-! ### what loops tell -/
def mapL (f : PV → M PV) : List PV → M (List PV)
  | [] => .ret []
  | x :: xs => f x >>= fun y => mapL f xs >>= fun ys => .ret (y :: ys)
def compL (f : PV → M (Option PV)) : List PV → M (List PV)
  | [] => .ret []
  | x :: xs => f x >>= fun o => compL f xs >>= fun ys => .ret (match o with | some y => y :: ys | none => ys)
inductive Jn (τ β : Type) where
  | go (t : τ) | out (b : β)
inductive Lp (τ β : Type) where
  | go (t : τ) | brk (t : τ) | out (b : β)
def forM {τ : Type} (f : PV → τ → M τ) : List PV → τ → M τ
  | [], t => .ret t
  | x :: xs, t => f x t >>= fun t' => forM f xs t'
def lpK {τ β : Type} (g : τ → M (Jn τ β)) : Lp τ β → M (Jn τ β)
  | .go t => g t
  | .brk t => .ret (.go t)
  | .out b => .ret (.out b)
def forL {τ β : Type} (f : PV → τ → M (Lp τ β)) : List PV → τ → M (Jn τ β)
  | [], t => .ret (.go t)
  | x :: xs, t => f x t >>= lpK (forL f xs)
def whileM {τ : Type} (c : τ → M Bool) (f : τ → M τ) : Nat → τ → M τ
  | 0, _ => .bad
  | n + 1, t => c t >>= fun b => if b = true then f t >>= fun t' => whileM c f n t' else .ret t
def whileL {τ β : Type} (c : τ → M Bool) (f : τ → M (Lp τ β)) : Nat → τ → M (Jn τ β)
  | 0, _ => .bad
  | n + 1, t => c t >>= fun b => if b = true then f t >>= lpK (whileL c f n) else .ret (.go t)
def fuel : Nat := 1000000000
def unpk2 {α : Type} (p : PV) (k : PV → PV → M α) : M α := match p with
  | .tup [a, b] => k a b
  | .lst [a, b] => k a b
  | _ => .bad
def unpk3 {α : Type} (p : PV) (k : PV → PV → PV → M α) : M α := match p with
  | .tup [a, b, c] => k a b c
  | .lst [a, b, c] => k a b c
  | _ => .bad
def unpk4 {α : Type} (p : PV) (k : PV → PV → PV → PV → M α) : M α := match p with
  | .tup [a, b, c, d] => k a b c d
  | .lst [a, b, c, d] => k a b c d
  | _ => .bad

section
variable {X : Cx} {ρ : Env} {a b c e : Expr} {pos p : Pos} {ma mb mc : M PV} {x : Str}
/-! ### targets -/
def WG (X : Cx) (tg : Expr) : TG := fun v σ H Q => ∀ pins s u, Inv X pins σ H s → RelV v u → wpAny (model X.prog X.w) X.A (assign tg X.env u) (fun _ s' => ∃ σ' H', Inv X pins σ' H' s' ∧ Q σ' H') X.xe s
theorem pg_wg {tg : Expr} : PG X tg (WG X tg) := ⟨fun pins s σ H v u Q I r h => h pins s u I r⟩
theorem _root_.L2.PG.wg {tg : Expr} {t : TG} (h : PG X tg t) {v : V} {σ : L2.St} {H : Hp} {Q : L2.St → Hp → Prop} (q : t v σ H Q) : WG X tg v σ H Q := fun pins s u I r => h.run pins s σ H v u Q I r q
/-- the slots outside vs stand -/
def Off (vs : List Nat) (σ σ' : L2.St) : Prop := σ'.length = σ.length ∧ ∀ i, i ∉ vs → σ'[i]? = σ[i]?
abbrev Bd := PV → Env → Option Env
def SG (X : Cx) (tg : Expr) (B : Bd) (vs : List Nat) : Prop := ∀ F W ρ σ H v p ρ' Q, Sta F W ρ σ H → Rp W v p → B p ρ = some ρ' → (∀ σ', Sta F W ρ' σ' H → Off vs σ σ' → Q σ' H) → WG X tg v σ H Q
def bNm (i : Nat) : Bd := fun p ρ => some (ρ.set i (.fr p))
def bindAll : List Bd → List PV → Env → Option Env
  | [], [], ρ => some ρ
  | b :: bs, p :: ps, ρ => match b p ρ with
    | some ρ' => bindAll bs ps ρ'
    | none => none
  | _, _, _ => none
def bTup (bs : List Bd) : Bd := fun p ρ => match p with
  | .tup ps => bindAll bs ps ρ
  | .lst ps => bindAll bs ps ρ
  | _ => none
theorem Sta.set {F : Hp} {W : Wd} {σ : L2.St} {H : Hp} {i : Nat} {v : V} {p : PV} (S : Sta F W ρ σ H) (hi : i < σ.length) (r : Rp W v p) : Sta F W (ρ.set i (.fr p)) (σ.set i (some v)) H :=
  ⟨S.hs, fun j s e => by
    by_cases hj : j = i
    · subst hj
      rw [List.getElem?_set_self hi]
      by_cases hl : j < ρ.length
      · rw [List.getElem?_set_self hl] at e
        cases e
        exact ⟨v, rfl, r⟩
      · rw [List.getElem?_eq_none (by rw [List.length_set]; omega)] at e
        cases e
    · rw [List.getElem?_set_ne (Ne.symm hj)] at e ⊢
      exact S.at_ j s e⟩
theorem lt_of_some {α : Type} {l : List α} {i : Nat} {x : α} (h : l[i]? = some x) : i < l.length := (List.getElem?_eq_some_iff.mp h).1
theorem sg_name (i : Nat) {x : Str} (hN : X.N.Nodup) (hi : X.N[i]? = some x := by rfl) (hx : Loc X.env.scope x := by first | exact .inl rfl | exact .inr rfl) (hf : X.fn x = true ∨ X.env.scope.names.lookup x = some .local := by first | exact .inl rfl | exact .inr rfl | assumption) : SG X (.Name x pos) (bNm i) [i] := by
  intro F W ρ σ H v p ρ' Q S r e q pins s u I ru
  have hl : i < σ.length := by rw [I.len]; exact lt_of_some hi
  cases e
  exact (pg_name hN hi hx hf).run pins s σ H v u Q I ru (q _ (S.set hl r) ⟨List.length_set, fun j hj => List.getElem?_set_ne (fun z => hj (by simp [z]))⟩)
def WGs (X : Cx) (ts : List Expr) : TGs := fun vs σ H Q => ∀ pins s us, Inv X pins σ H s → Vals vs us → wpAny (model X.prog X.w) X.A (assignInOrder ((assignEach ts X.env).map (·.2)) us) (fun _ s' => ∃ σ' H', Inv X pins σ' H' s' ∧ Q σ' H') X.xe s
theorem pgs_wgs {ts : List Expr} : PGs X ts (WGs X ts) := ⟨fun pins s σ H vs us Q I r h => h pins s us I r⟩
def SGs (X : Cx) (ts : List Expr) (bs : List Bd) (vs : List Nat) : Prop := ∀ F W ρ σ H xs ps ρ' Q, Sta F W ρ σ H → RpL W xs ps → bindAll bs ps ρ = some ρ' → (∀ σ', Sta F W ρ' σ' H → Off vs σ σ' → Q σ' H) → WGs X ts xs σ H Q
theorem sgs_nil : SGs X [] [] [] := by
  intro F W ρ σ H xs ps ρ' Q S r e q pins s us I ru
  cases r with
  | nil =>
    cases e
    exact pgs_nil.run pins s σ H [] us Q I ru ⟨rfl, q σ S ⟨rfl, fun _ _ => rfl⟩⟩
  | cons _ _ => cases e
theorem sgs_cons {t : Expr} {ts : List Expr} {b : Bd} {bs : List Bd} {v vs : List Nat} (h1 : SG X t b v) (h2 : SGs X ts bs vs) (hs : (assignEach (t :: ts) X.env).map (·.2) = assign t X.env :: (assignEach ts X.env).map (·.2) := by rfl) : SGs X (t :: ts) (b :: bs) (v ++ vs) := by
  intro F W ρ σ H xs ps ρ' Q S r e q pins s us I ru
  cases r with
  | nil => cases e
  | cons r rr =>
    unfold bindAll at e
    split at e
    · rename_i ρ1 e1
      refine (pgs_cons (t := WG X t) (u := WGs X ts) pg_wg pgs_wgs hs).run pins s σ H _ us Q I ru ⟨_, _, rfl, h1 F W ρ σ H _ _ ρ1 _ S r e1 fun σ1 S1 o1 => ?_⟩
      refine h2 F W ρ1 σ1 H _ _ ρ' Q S1 rr e fun σ2 S2 o2 => q σ2 S2 ⟨o2.1.trans o1.1, fun i hi => ?_⟩
      rw [List.mem_append, not_or] at hi
      exact (o2.2 i hi.2).trans (o1.2 i hi.1)
    · cases e
theorem bindAll_len : ∀ {bs : List Bd} {ps : List PV} {ρ ρ' : Env}, bindAll bs ps ρ = some ρ' → ps.length = bs.length
  | [], [], _, _, _ => rfl
  | [], _ :: _, _, _, e => by cases e
  | _ :: _, [], _, _, e => by cases e
  | b :: bs, p :: ps, ρ, ρ', e => by
    unfold bindAll at e
    split at e
    · exact congrArg (· + 1) (bindAll_len e)
    · cases e
theorem sg_tup {es : List Expr} {k : Nat} {bs : List Bd} {vs : List Nat} (hc : X.calm = true) (h : SGs X es bs vs) (hn : (assignEach es X.env).length = bs.length := by rfl) (hst : (assignEach es X.env).findIdx? (·.1) = none := by rfl) : SG X (.Tuple es k pos) (bTup bs) vs := by
  intro F W ρ σ H v p ρ' Q S r e q
  unfold bTup at e
  split at e
  · obtain ⟨a, xs, rfl, g, rl⟩ := r.inv_tup
    exact (pg_tup hc pgs_wgs hn hst).wg ⟨a, xs, rfl, SqT.of (S.hs.g _ _ g), rl.length.trans (bindAll_len e), h F W ρ σ H xs _ ρ' Q S rl e q⟩
  · obtain ⟨a, xs, rfl, g, rl⟩ := r.inv_lst
    exact (pg_unl hc pgs_wgs hn hst).wg ⟨a, xs, rfl, SqL.of (S.hs.g _ _ g), rl.length.trans (bindAll_len e), h F W ρ σ H xs _ ρ' Q S rl e q⟩
  · cases e

/-! ### list comprehensions -/
def wipeE (ρ : Env) : List Nat → Env
  | [] => ρ
  | v :: vs => (wipeE ρ vs).set v .no
theorem wipe_at {σ : L2.St} {i : Nat} : ∀ {vs : List Nat}, i ∉ vs → (wipe σ vs)[i]? = σ[i]?
  | [], _ => rfl
  | v :: vs, h => by
    unfold wipe
    rw [List.mem_cons, not_or] at h
    rw [List.getElem?_set_ne (Ne.symm h.1)]
    exact wipe_at h.2
theorem wipeE_at {i : Nat} {s : Slot} : ∀ {vs : List Nat}, (wipeE ρ vs)[i]? = some s → s = .no ∨ (i ∉ vs ∧ ρ[i]? = some s)
  | [], h => .inr ⟨by simp, h⟩
  | v :: vs, h => by
    unfold wipeE at h
    by_cases e : i = v
    · subst e
      by_cases hl : i < (wipeE ρ vs).length
      · rw [List.getElem?_set_self hl] at h; cases h; exact .inl rfl
      · rw [List.getElem?_eq_none (by rw [List.length_set]; omega)] at h; cases h
    · rw [List.getElem?_set_ne (Ne.symm e)] at h
      rcases wipeE_at h with h | ⟨h1, h2⟩
      · exact .inl h
      · exact .inr ⟨by rw [List.mem_cons, not_or]; exact ⟨e, h1⟩, h2⟩
theorem Sta.wipe {F : Hp} {W : Wd} {σ : L2.St} {H : Hp} (S : Sta F W ρ σ H) (vs : List Nat) : Sta F W (wipeE ρ vs) (L2.wipe σ vs) H :=
  ⟨S.hs, fun i s e => by
    rcases wipeE_at e with rfl | ⟨h1, h2⟩
    · trivial
    · rw [wipe_at h1]; exact S.at_ i s h2⟩
theorem wipe_off {vs : List Nat} {σ σ2 : L2.St} (h : Off vs (wipe σ vs) σ2) : wipe σ2 vs = wipe σ vs := by
  refine List.ext_getElem? fun i => ?_
  have ab : ∀ (τ : L2.St) (ws : List Nat), i ∈ ws → (wipe τ ws)[i]? = if i < τ.length then some none else none := by
    intro τ ws
    induction ws with
    | nil => intro z; cases z
    | cons w ws ih =>
      intro hm
      unfold wipe
      by_cases e : i = w
      · subst e
        by_cases hl : i < τ.length
        · rw [List.getElem?_set_self (by rw [wipe_length]; exact hl), if_pos hl]
        · rw [List.getElem?_eq_none (by rw [List.length_set, wipe_length]; omega), if_neg hl]
      · rw [List.getElem?_set_ne (Ne.symm e)]
        exact ih ((List.mem_cons.mp hm).resolve_left e)
  have hl : σ2.length = σ.length := by rw [h.1, wipe_length]
  by_cases hi : i ∈ vs
  · rw [ab σ2 vs hi, ab σ vs hi, hl]
  · rw [wipe_at hi]; exact h.2 i hi
/-- a clause's tests -/
def WTs (X : Cx) (ifs : List Expr) : TT := fun σ H Q => ∀ pins s, Inv X pins σ H s → wpAny (model X.prog X.w) X.A (forIn ifs true fun c r => if r = true then do let ok ← isTrue c X.env (eval c X.env); pure (ForInStep.yield ok) else pure (ForInStep.yield r)) (TP X pins σ Q) X.xe s
theorem pts_wts {ifs : List Expr} : PTs X ifs (WTs X ifs) := ⟨fun pins s σ H Q I h => h pins s I⟩
def STs (X : Cx) (ρ : Env) (ifs : List Expr) (m : M Bool) : Prop := ∀ F W σ H Q, Sta F W ρ σ H → m.All (QT F W ρ σ Q) → WTs X ifs σ H Q
theorem sts_nil : STs X ρ [] (.ret true) := fun F W σ H Q S q pins s I => pts_nil.run pins s σ H Q I ((M.all_ret _).mp q H W (.refl W) S)
theorem sts_one {t : M Bool} (h : SC X ρ c t) : STs X ρ [c] t := fun F W σ H Q S q pins s I => (pts_one pt_wt).run pins s σ H Q I (h F W σ H Q S q)
/-- in a comprehension's block, whatever its frame is -/
def Blk (X : Cx) (scope : Scope) (P : Cx → Prop) : Prop := ∀ (s : Shared) (H : Hp) (C : Addr) (cl : List (Str × Addr)) (fp : List Addr), P (X.blk s H scope (compEnvC scope cl C X.env) fp)
def gBlk (X : Cx) (scope : Scope) (tg : Expr) : TG := fun v σ H Q => Blk X scope fun Y => WG Y tg v σ H Q
def tBlk (X : Cx) (scope : Scope) (ifs : List Expr) : TT := fun σ H Q => Blk X scope fun Y => WTs Y ifs σ H Q
def eBlk (X : Cx) (scope : Scope) (elt : Expr) : TE := fun σ H Q => Blk X scope fun Y => WE Y elt σ H Q
variable {tg elt iter : Expr} {ifs : List Expr} {scope : Scope} {own : List (Str × Nat)} {B : Bd} {mi : M (List PV)} {f : PV → M (Option PV)}
/-- an element's turn: the tests, then the element -/
def turnM (t : M Bool) (m : M PV) : M (Option PV) := t >>= fun b => if b = true then m >>= fun y => .ret (some y) else .ret none
theorem comp_core (hi : SI X ρ tg iter true mi) (hg : Blk X scope fun Y => SG Y tg B (own.map (·.2)))
    (mt : PV → M Bool) (me : PV → M PV) (ht : ∀ p ρ', B p (wipeE ρ (own.map (·.2))) = some ρ' → Blk X scope fun Y => STs Y ρ' ifs (mt p))
    (he : ∀ p ρ', B p (wipeE ρ (own.map (·.2))) = some ρ' → Blk X scope fun Y => SE Y ρ' elt (me p))
    (hf : ∀ p, (∃ ρ', B p (wipeE ρ (own.map (·.2))) = some ρ' ∧ f p = turnM (mt p) (me p)) ∨ f p = .bad)
    {F : Hp} {W : Wd} {σ : L2.St} {H : Hp} {Q : VK} (S : Sta F W ρ σ H) (q : (mi >>= fun xs => compL f xs >>= fun ys => .ret (.lst ys)).All (QF F W ρ σ Q)) :
    tLc (WI X tg iter) (gBlk X scope tg) (tBlk X scope ifs) (eBlk X scope elt) (own.map (·.2)) σ H Q := by
  generalize hvs : own.map (·.2) = vs at *
  rw [M.all_bind] at q
  refine hi F W σ H _ S (q.mono fun xs k J H1 W1 l1 S1 it hlen D hD => ?_)
  rw [M.all_bind] at k
  obtain ⟨Y, wk, gv⟩ := it
  -- at turn i: the new list holds what was made, the rest is still to come
  refine lc_it wk (fun i H' => ∃ W2 acc ys, W1.le W2 ∧ Sta (upd F D (.lst acc)) W2 ρ σ H' ∧ RpL W2 acc ys ∧ acc.length ≤ i ∧ i ≤ xs.length ∧ (compL f (xs.drop i)).All (fun zs => QF F W ρ σ Q (.lst (ys ++ zs))))
    ⟨W1, [], [], .refl W1, ?_, .nil, Nat.le_refl _, Nat.zero_le _, by rw [List.drop_zero]; exact k.mono fun zs z => (M.all_ret _).mp z⟩ (fun i H' _ h => ?_) (fun i x H' H'' hi h y => ?_) fun H' h => ?_
  · have fr : ∀ o, Sub F (upd F D o) := fun o => Sub.put (S1.hs.f.none hD)
    exact ⟨S1.hs.apart hD, fun i s e => by
      have z := S1.at_ i s e
      cases s with
      | no => trivial
      | fr p => exact z
      | ow p =>
        obtain ⟨a, e1, o, e3, r⟩ := z
        exact ⟨a, e1, o, fr _ _ _ e3, r⟩⟩
  · obtain ⟨W2, acc, ys, l, S2, _⟩ := h
    have hDF : F D = none := S1.hs.f.none hD
    refine ⟨(l.g).trans S2.hs.g, ?_⟩
    show Sub F H'
    exact (Sub.put hDF).trans S2.hs.f
  · obtain ⟨W2, acc, ys, l, S2, ra, hl, hi2, k2⟩ := h
    have hDF : F D = none := S1.hs.f.none hD
    have ex : xs[i]? = some xs[i] := List.getElem?_eq_getElem hi
    obtain ⟨W3, l3, h3, rx⟩ := gv i H' x H'' xs[i] ex y W2 (upd F D (.lst acc)) l (Sub.put hDF) S2.hs
    have S3 : Sta (upd F D (.lst acc)) W3 ρ σ H'' := S2.grow l3 h3
    rw [List.drop_eq_getElem_cons hi] at k2
    unfold compL at k2
    rw [M.all_bind] at k2
    rcases hf xs[i] with ⟨ρ', hB, hfe⟩ | hfe
    · rw [hfe] at k2
      intro s0 H0 C cl fp
      refine hg s0 H0 C cl fp (upd F D (.lst acc)) W3 (wipeE ρ vs) (wipe σ vs) H'' x xs[i] ρ' _ (S3.wipe vs) rx hB fun σ4 S4 o4 => ⟨wipe_off o4, ?_⟩
      intro s1 H1' C1 cl1 fp1
      unfold turnM at k2
      rw [M.all_bind] at k2
      refine ht xs[i] ρ' hB s1 H1' C1 cl1 fp1 _ W3 σ4 H'' _ S4 (k2.mono fun b k3 H5 W5 l5 S5 => ?_)
      -- the def's own names again
      have back : ∀ {F' W' σ' H'}, Sta F' W' ρ' σ' H' → W3.le W' → F' = upd F D (.lst acc) → Sta F' W' ρ σ H' := fun {F' W' σ' H'} Z lz ez => by
        subst ez
        exact S3.grow lz Z.hs
      cases b with
      | true =>
        have k3 : M.All _ (me xs[i] >>= fun y => M.ret (some y)) := k3
        rw [M.all_bind] at k3
        intro s2 H2' C2 cl2 fp2
        refine he xs[i] ρ' hB s2 H2' C2 cl2 fp2 _ W5 σ4 H5 _ S5 (k3.mono fun pz k4 v H6 W6 l6 S6 r6 => ?_)
        have k4 := (M.all_ret _).mp k4
        rw [M.all_bind] at k4
        have S6' := back S6 (l5.trans l6) rfl
        have eD : upd F D (.lst acc) D = some (.lst acc) := upd_same
        refine ⟨acc, S6.hs.f _ _ eD, Nat.lt_of_le_of_lt hl (Nat.lt_of_lt_of_le hi hlen), W6, acc ++ [v], ys ++ [pz], l.trans (l3.trans (l5.trans l6)), ?_, (ra.mono (l3.trans (l5.trans l6))).append (.one r6), by rw [List.length_append, List.length_singleton]; omega, hi, k4.mono fun zs z => ?_⟩
        · have hc := S6'.hs.change (o' := .lst (acc ++ [v])) eD
          rw [upd_upd] at hc
          refine ⟨hc, fun j s e => ?_⟩
          have z := S6'.at_ j s e
          cases s with
          | no => trivial
          | fr p => exact z
          | ow p =>
            obtain ⟨a, e1, o, e3, r⟩ := z
            refine ⟨a, e1, o, ?_, r⟩
            -- the owned object is not D: it stood apart ahead of D
            have z0 := S1.at_ j _ e
            obtain ⟨a0, e10, o0, e30, _⟩ := z0
            rw [e1] at e10
            cases e10
            have ne : a ≠ D := ne_of_none e30 hDF
            rw [upd_ne ne] at e3 ⊢
            exact e3
        · have z := (M.all_ret _).mp z
          rw [List.append_assoc]
          exact z
      | false =>
        have k3 := (M.all_ret _).mp (show M.All _ (M.ret none) from k3)
        rw [M.all_bind] at k3
        exact ⟨W5, acc, ys, l.trans (l3.trans l5), back S5 l5 rfl, ra.mono (l3.trans l5), by omega, hi, k3.mono fun zs z => (M.all_ret _).mp z⟩
    · rw [hfe] at k2
      exact k2.elim
  · obtain ⟨W2, acc, ys, l, S2, ra, hl, hi2, k2⟩ := h
    have hDF : F D = none := S1.hs.f.none hD
    rw [List.drop_length] at k2
    have k2 := (M.all_ret _).mp k2
    rw [List.append_nil] at k2
    have eD : upd F D (.lst acc) D = some (.lst acc) := upd_same
    refine k2 D H' W2 (l1.trans l) ⟨⟨S2.hs.g, (Sub.put hDF).trans S2.hs.f, fun a o z => (Sub.put hDF).none (S2.hs.d a o z), fun sd sc z => ?_⟩, fun j s e => ?_⟩ ⟨S2.hs.d' eD, hDF, fun sd sc z => ?_, _, S2.hs.f _ _ eD, OwnO.lst ra⟩
    · obtain ⟨s1, g1, g2, f1, f2⟩ := S2.hs.s sd sc z
      exact ⟨s1, g1, g2, (Sub.put hDF).none f1, (Sub.put hDF).none f2⟩
    · have z := S2.at_ j s e
      cases s with
      | no => trivial
      | fr p => exact z
      | ow p =>
        obtain ⟨a, e1, o, e3, r⟩ := z
        obtain ⟨a0, e10, o0, e30, _⟩ := S1.at_ j _ e
        rw [e1] at e10
        cases e10
        have ne : a ≠ D := ne_of_none e30 hDF
        rw [upd_ne ne] at e3
        exact ⟨a, e1, o, e3, r⟩
    · obtain ⟨s1, g1, g2, f1, f2⟩ := S2.hs.s sd sc z
      exact ⟨fun w => (by rw [w, eD] at f1; cases f1), fun w => (by rw [w, eD] at f2; cases f2)⟩
theorem sf_comp (hc : X.calm = true) (hN : X.N.Nodup) (ok : BlkOk X.N X.env.scope scope own) (hi : SI X ρ tg iter true mi) (hg : Blk X scope fun Y => SG Y tg B (own.map (·.2)))
    (mt : PV → M Bool) (me : PV → M PV) (ht : ∀ p ρ', B p (wipeE ρ (own.map (·.2))) = some ρ' → Blk X scope fun Y => STs Y ρ' ifs (mt p))
    (he : ∀ p ρ', B p (wipeE ρ (own.map (·.2))) = some ρ' → Blk X scope fun Y => SE Y ρ' elt (me p))
    (hf : ∀ p, (∃ ρ', B p (wipeE ρ (own.map (·.2))) = some ρ' ∧ f p = turnM (mt p) (me p)) ∨ f p = .bad) (hs : ∀ x, foldedSetIterable iter X.env x = pure x := by intro _; rfl) :
    SF X ρ (.ListComp elt [⟨tg, iter, ifs, 0⟩] scope pos) (mi >>= fun xs => compL f xs >>= fun ys => .ret (.lst ys)) := fun F W σ H Q S q =>
  (pe_lc hc hN pi_wi ok (g := gBlk X scope tg) (tt := tBlk X scope ifs) (te := eBlk X scope elt) (fun s H C cl fp => ⟨fun pins s' σ H' v u Q I r h => h s H C cl fp pins s' u I r⟩)
    (fun s H C cl fp => ⟨fun pins s' σ H' Q I h => h s H C cl fp pins s' I⟩) (fun s H C cl fp => ⟨fun pins s' σ H' Q I h => h s H C cl fp pins s' I⟩) hs).we (comp_core hi hg mt me ht he hf S q)
/-! the usual targets -/
theorem compL_map (g : PV → M PV) : ∀ xs, compL (fun p => turnM (.ret true) (g p)) xs = mapL g xs
  | [] => rfl
  | x :: xs => by
    unfold compL mapL
    have e : turnM (.ret true) (g x) = (g x >>= fun y => .ret (some y)) := rfl
    rw [e, bind_assoc, compL_map g xs]
    rfl
theorem compL_congr {f g : PV → M (Option PV)} (h : ∀ p, f p = g p) (xs : List PV) : compL f xs = compL g xs := by
  have e : f = g := funext h
  rw [e]
end
end ML

/-! The M layer, part 6: statements. -/
namespace ML
open PySem PySem.Spec PyProof.Rows L2
/-! ### how a block may end -/
inductive Outc where
  | nx (ρ : Env) | lp (ρ : Env) | ct (ρ : Env) | bk (ρ : Env) | rt (p : PV) | rn (p : PV) | any
structure Sta1 (F0 F : Hp) (W : Wd) (ρ : Env) (σ : L2.St) (H : Hp) : Prop where
  s : Sta F W ρ σ H
  f0 : Sub F0 F
  ow : ∀ (i : Nat) (p : PV) (a : Addr), ρ[i]? = some (.ow p) → σ[i]? = some (some (.ref a)) → F0 a = none
  dj : ∀ (i j : Nat) (p q : PV) (a : Addr), i ≠ j → ρ[i]? = some (.ow p) → ρ[j]? = some (.ow q) → σ[i]? = some (some (.ref a)) → σ[j]? ≠ some (some (.ref a))
theorem Sta1.grow {F0 F : Hp} {W W' : Wd} {ρ : Env} {σ : L2.St} {H H' : Hp} (S : Sta1 F0 F W ρ σ H) (S' : Sta F W' ρ σ H') : Sta1 F0 F W' ρ σ H' := ⟨S', S.f0, S.ow, S.dj⟩
def EndAt (F0 : Hp) (W : Wd) (ρ : Env) (P : L2.St → Hp → Prop) : Prop := ∀ F' W' σ' H', W.le W' → Sta1 F0 F' W' ρ σ' H' → P σ' H'
def RetAt (F0 : Hp) (W : Wd) (p : PV) (P : VK) : Prop := ∀ F' W' v H', W.le W' → Hs F' W' H' → Sub F0 F' → Rp W' v p → P v H'
def OutOk (D : Ends) (F0 : Hp) (W : Wd) : Outc → Prop
  | .nx ρ => EndAt F0 W ρ D.nx
  | .lp ρ => EndAt F0 W ρ D.nx ∧ EndAt F0 W ρ D.ct
  | .ct ρ => EndAt F0 W ρ D.ct
  | .bk ρ => EndAt F0 W ρ D.bk
  | .rt p => RetAt F0 W p D.rt
  | .rn p => RetAt F0 W p D.rt ∧ (p = .non → ∀ F' W' σ' H', W.le W' → Hs F' W' H' → Sub F0 F' → D.nx σ' H')
  | .any => True
theorem EndAt.le {F0 : Hp} {W W' : Wd} {ρ : Env} {P : L2.St → Hp → Prop} (h : W.le W') (q : EndAt F0 W ρ P) : EndAt F0 W' ρ P := fun F' W'' σ' H' l => q F' W'' σ' H' (h.trans l)
theorem RetAt.le {F0 : Hp} {W W' : Wd} {p : PV} {P : VK} (h : W.le W') (q : RetAt F0 W p P) : RetAt F0 W' p P := fun F' W'' σ' H' l => q F' W'' σ' H' (h.trans l)
theorem OutOk.le {D : Ends} {F0 : Hp} {W W' : Wd} (h : W.le W') : ∀ {o : Outc}, OutOk D F0 W o → OutOk D F0 W' o
  | .nx _, q => EndAt.le h q
  | .lp _, q => ⟨EndAt.le h q.1, EndAt.le h q.2⟩
  | .ct _, q => EndAt.le h q
  | .bk _, q => EndAt.le h q
  | .rt _, q => RetAt.le h q
  | .rn _, q => ⟨RetAt.le h q.1, fun e F' W'' σ' H' l => q.2 e F' W'' σ' H' (h.trans l)⟩
  | .any, _ => trivial
/-- within a part that is left by return, break, continue -/
def exitOf : Outc → Outc
  | .nx _ => .any
  | .lp ρ => .ct ρ
  | .ct ρ => .ct ρ
  | .bk ρ => .bk ρ
  | .rt p => .rt p
  | .rn p => .rt p
  | .any => .any
theorem OutOk.exit {D : Ends} {F0 : Hp} {W : Wd} {nx : L2.St → Hp → Prop} : ∀ {o : Outc}, OutOk D F0 W o → OutOk { D with nx := nx } F0 W (exitOf o)
  | .nx _, _ => trivial
  | .lp _, q => q.2
  | .ct _, q => q
  | .bk _, q => q
  | .rt _, q => q
  | .rn _, q => q.1
  | .any, _ => trivial
/-- within a loop's body: what leaves it by return -/
def retOf : Outc → Outc
  | .rt p => .rt p
  | .rn p => .rt p
  | _ => .any
theorem OutOk.ret {D D' : Ends} {F0 : Hp} {W : Wd} (e : D'.rt = D.rt) : ∀ {o : Outc}, OutOk D F0 W o → OutOk D' F0 W (retOf o)
  | .nx _, _ => trivial
  | .lp _, _ => trivial
  | .ct _, _ => trivial
  | .bk _, _ => trivial
  | .rt _, q => by show RetAt _ _ _ D'.rt; rw [e]; exact q
  | .rn _, q => by show RetAt _ _ _ D'.rt; rw [e]; exact q.1
  | .any, _ => trivial
def joinR {τ β : Type} (inj : τ → Env) (R : β → Outc) : Jn τ β → Outc
  | .go t => .nx (inj t)
  | .out b => exitOf (R b)
def loopR {τ β : Type} (inj : τ → Env) (R : β → Outc) : Lp τ β → Outc
  | .go t => .lp (inj t)
  | .brk t => .bk (inj t)
  | .out b => retOf (R b)
/-- ρ' knows no more than ρ -/
def Le (ρ ρ' : Env) : Prop := ∀ (i : Nat) (s : Slot), ρ'[i]? = some s → s = .no ∨ ρ[i]? = some s
theorem Le.nil {ρ : Env} : Le ρ [] := fun i s h => by simp at h
theorem Le.drop {s : Slot} {ρ ρ' : Env} (h : Le ρ ρ') : Le (s :: ρ) (.no :: ρ') := fun i t e => by
  cases i with
  | zero => simp at e; exact .inl e.symm
  | succ i => exact h i t (by simpa using e)
theorem Le.keep {s : Slot} {ρ ρ' : Env} (h : Le ρ ρ') : Le (s :: ρ) (s :: ρ') := fun i t e => by
  cases i with
  | zero => exact .inr e
  | succ i => exact h i t (by simpa using e)
theorem Le.refl (ρ : Env) : Le ρ ρ := fun _ _ h => .inr h
theorem Sta1.less {F0 F : Hp} {W : Wd} {ρ ρ' : Env} {σ : L2.St} {H : Hp} (S : Sta1 F0 F W ρ σ H) (l : Le ρ ρ') : Sta1 F0 F W ρ' σ H :=
  ⟨⟨S.s.hs, fun i s e => by
      rcases l i s e with rfl | e'
      · trivial
      · exact S.s.at_ i s e'⟩, S.f0, fun i p a e => by
      rcases l i _ e with z | e'
      · cases z
      · exact S.ow i p a e', fun i j p q a ne e1 e2 => by
      rcases l i _ e1 with z | e1'
      · cases z
      rcases l j _ e2 with z | e2'
      · cases z
      exact S.dj i j p q a ne e1' e2'⟩
theorem EndAt.less {F0 : Hp} {W : Wd} {ρ ρ' : Env} {P : L2.St → Hp → Prop} (l : Le ρ ρ') (q : EndAt F0 W ρ' P) : EndAt F0 W ρ P := fun F' W' σ' H' h S => q F' W' σ' H' h (S.less l)

section
variable {X : Cx} {ρ : Env} {a b c e : Expr} {pos p : Pos} {ma mb mc : M PV} {x : Str} {β τ : Type} {R : β → Outc} {rest : List Stmt}
def WS (X : Cx) (st : Stmt) : TS := fun D σ H => ∀ pins s, Inv X pins σ H s → wpAny (model X.prog X.w) X.A (exec st X.env) (SP X pins D) X.xe s
def WSs (X : Cx) (ss : List Stmt) : TS := fun D σ H => ∀ pins s, Inv X pins σ H s → wpAny (model X.prog X.w) X.A (execs ss X.env) (SP X pins D) X.xe s
theorem ps_ws {st : Stmt} : PS X st (WS X st) := ⟨fun pins s σ H D I h => h pins s I⟩
theorem pss_wss {ss : List Stmt} : PSs X ss (WSs X ss) := ⟨fun pins s σ H D I h => h pins s I⟩
theorem wss_of {ss : List Stmt} {t : TS} (h : PSs X ss t) {D : Ends} {σ : L2.St} {H : Hp} (q : σ.length = X.N.length → t D σ H) : WSs X ss D σ H := fun pins s I => h.run pins s σ H D I (q I.len)
/-- the block does what m tells; R tells how each of its ends ends -/
def SS (X : Cx) (ρ : Env) (ss : List Stmt) (m : M β) (R : β → Outc) : Prop := ∀ F0 F W σ H D, Sta1 F0 F W ρ σ H → m.All (fun b => OutOk D F0 W (R b)) → WSs X ss D σ H
theorem SS.eq {ss : List Stmt} {m m' : M β} (h : SS X ρ ss m R) (e : m = m') : SS X ρ ss m' R := e ▸ h
theorem ss_bad {ss : List Stmt} : SS X ρ ss (.bad) R := fun F0 F W σ H D S q => q.elim
theorem SS.of_env {ss : List Stmt} {m : M β} {ρ' : Env} (l : Le ρ ρ') (h : SS X ρ' ss m R) : SS X ρ ss m R := fun F0 F W σ H D S q => h F0 F W σ H D (S.less l) q
/-! ends -/
theorem ss_nil {t : β} {ρ' : Env} (hR : R t = .nx ρ' ∨ R t = .lp ρ' := by exact .inl rfl) (l : Le ρ ρ' := by exact Le.refl _) : SS X ρ [] (.ret t) R := fun F0 F W σ H D S q => by
  have q := (M.all_ret _).mp q
  refine wss_of pss_nil fun _ => ?_
  rcases hR with e | e
  · rw [e] at q; exact q F W σ H (.refl W) (S.less l)
  · rw [e] at q; exact q.1 F W σ H (.refl W) (S.less l)
theorem ss_end {t : β} (hR : R t = .rn .non := by rfl) : SS X ρ [] (.ret t) R := fun F0 F W σ H D S q => by
  have q := (M.all_ret _).mp q
  rw [hR] at q
  exact wss_of pss_nil fun _ => q.2 rfl F W σ H (.refl W) S.s.hs S.f0
theorem ss_cont {t : β} {ρ' : Env} (hR : R t = .ct ρ' ∨ R t = .lp ρ' := by exact .inl rfl) (l : Le ρ ρ' := by exact Le.refl _) : SS X ρ (.Continue pos :: rest) (.ret t) R := fun F0 F W σ H D S q => by
  have q := (M.all_ret _).mp q
  refine wss_of (pss_cons ps_continue pss_wss) fun _ => ?_
  rcases hR with e | e
  · rw [e] at q; exact q F W σ H (.refl W) (S.less l)
  · rw [e] at q; exact q.2 F W σ H (.refl W) (S.less l)
theorem ss_break {t : β} {ρ' : Env} (hR : R t = .bk ρ' := by rfl) (l : Le ρ ρ' := by exact Le.refl _) : SS X ρ (.Break pos :: rest) (.ret t) R := fun F0 F W σ H D S q => by
  have q := (M.all_ret _).mp q
  rw [hR] at q
  exact wss_of (pss_cons ps_break pss_wss) fun _ => q F W σ H (.refl W) (S.less l)
theorem ss_pass {m : M β} (h : SS X ρ rest m R) : SS X ρ (.Pass pos :: rest) m R := fun F0 F W σ H D S q => wss_of (pss_cons ps_pass pss_wss) fun _ => h F0 F W σ H D S q
theorem ss_retG {g : PV → β} (ha : SE X ρ e ma) (hR : ∀ p, R (g p) = .rt p ∨ R (g p) = .rn p) : SS X ρ (.Return (some e) pos :: rest) (ma >>= fun p => .ret (g p)) R := fun F0 F W σ H D S q =>
  wss_of (pss_cons (ps_ret pe_we) pss_wss) fun _ => by
    rw [M.all_bind] at q
    refine ha F W σ H _ S.s (q.mono fun p k v H' W' l S' r => ?_)
    have k := (M.all_ret _).mp k
    rcases hR p with z | z
    · rw [z] at k; exact k F W' v H' l S'.hs S.f0 r
    · rw [z] at k; exact k.1 F W' v H' l S'.hs S.f0 r
theorem ss_ret (ha : SE X ρ e ma) : SS X ρ (.Return (some e) pos :: rest) ma Outc.rn := (ss_retG (g := fun p => p) ha fun _ => .inr rfl).eq (M.bind_ret ma)
theorem ss_retN {t : β} (hR : R t = .rt .non ∨ R t = .rn .non) : SS X ρ (.Return none pos :: rest) (.ret t) R := fun F0 F W σ H D S q => by
  have q := (M.all_ret _).mp q
  refine wss_of (pss_cons ps_retN pss_wss) fun _ => ?_
  rcases hR with z | z
  · rw [z] at q; exact q F W _ H (.refl W) S.s.hs S.f0 .non
  · rw [z] at q; exact q.1 F W _ H (.refl W) S.s.hs S.f0 .non
/-! names stored -/
theorem get_set {α : Type} {l : List α} {i j : Nat} {x y : α} (h : (l.set i x)[j]? = some y) : (j = i ∧ y = x) ∨ (j ≠ i ∧ l[j]? = some y) := by
  by_cases e : j = i
  · subst e
    refine .inl ⟨rfl, ?_⟩
    by_cases hl : j < l.length
    · rw [List.getElem?_set_self hl] at h; exact (Option.some.inj h).symm
    · rw [List.getElem?_eq_none (by rw [List.length_set]; omega)] at h; cases h
  · rw [List.getElem?_set_ne (Ne.symm e)] at h
    exact .inr ⟨e, h⟩
theorem Sta1.set {F0 F : Hp} {W : Wd} {σ : L2.St} {H : Hp} {i : Nat} {v : V} {p : PV} (S : Sta1 F0 F W ρ σ H) (hi : i < σ.length) (r : Rp W v p) : Sta1 F0 F W (ρ.set i (.fr p)) (σ.set i (some v)) H :=
  ⟨S.s.set hi r, S.f0, fun j q a e1 e2 => by
      rcases get_set e1 with ⟨_, z⟩ | ⟨ne, e1⟩
      · cases z
      · rw [List.getElem?_set_ne (Ne.symm ne)] at e2; exact S.ow j q a e1 e2, fun j k q q' a ne e1 e2 e3 => by
      rcases get_set e1 with ⟨_, z⟩ | ⟨n1, e1⟩
      · cases z
      rcases get_set e2 with ⟨_, z⟩ | ⟨n2, e2⟩
      · cases z
      rw [List.getElem?_set_ne (Ne.symm n1)] at e3
      rw [List.getElem?_set_ne (Ne.symm n2)]
      exact S.dj j k q q' a ne e1 e2 e3⟩
/-- what nobody owns becomes the def's own -/
theorem Sta1.claim {F0 F : Hp} {W : Wd} {σ : L2.St} {H : Hp} {i : Nat} {a : Addr} {p : PV} (S : Sta1 F0 F W ρ σ H) (hi : i < σ.length) (n : New F W H a p) : ∃ F', Sta1 F0 F' W (ρ.set i (.ow p)) (σ.set i (some (.ref a))) H := by
  obtain ⟨o, e, z⟩ := n.o
  have sub : Sub F (upd F a o) := Sub.put n.f
  refine ⟨upd F a o, ⟨⟨S.s.hs.g, fun b u q => ?_, fun b u q => ?_, fun sd sc q => ?_⟩, fun j s q => ?_⟩, S.f0.trans sub, fun j q b e1 e2 => ?_, fun j k q q' b ne e1 e2 e3 => ?_⟩
  · by_cases hb : b = a
    · subst hb; rw [upd_same] at q; rw [e, ← q]
    · rw [upd_ne hb] at q; exact S.s.hs.f b u q
  · rw [upd_ne (ne_of_none q n.g)]; exact S.s.hs.d b u q
  · obtain ⟨s, g1, g2, f1, f2⟩ := S.s.hs.s sd sc q
    obtain ⟨n1, n2⟩ := n.s sd sc q
    exact ⟨s, g1, g2, (upd_ne n1).trans f1, (upd_ne n2).trans f2⟩
  · rcases get_set q with ⟨rfl, rfl⟩ | ⟨ne, q⟩
    · exact ⟨a, List.getElem?_set_self hi, o, upd_same, z⟩
    · rw [List.getElem?_set_ne (Ne.symm ne)]
      have w := S.s.at_ j s q
      cases s with
      | no => trivial
      | fr p => exact w
      | ow p =>
        obtain ⟨b, e1, u, e3, r⟩ := w
        exact ⟨b, e1, u, sub _ _ e3, r⟩
  · rcases get_set e1 with ⟨rfl, _⟩ | ⟨ne, e1⟩
    · rw [List.getElem?_set_self hi] at e2; cases e2; exact S.f0.none n.f
    · rw [List.getElem?_set_ne (Ne.symm ne)] at e2; exact S.ow j q b e1 e2
  · have other : ∀ {j : Nat} {q : PV} {b : Addr}, ρ[j]? = some (.ow q) → σ[j]? = some (some (.ref b)) → b ≠ a := fun {j q b} e1 e2 => by
      have w := S.s.at_ j _ e1
      obtain ⟨b', e1', u, e3, r⟩ := w
      rw [e2] at e1'; cases e1'
      exact ne_of_none e3 n.f
    rcases get_set e1 with ⟨rfl, _⟩ | ⟨n1, g1⟩
    · rw [List.getElem?_set_self hi] at e3; cases e3
      rcases get_set e2 with ⟨rfl, _⟩ | ⟨n2, g2⟩
      · exact absurd rfl ne
      · rw [List.getElem?_set_ne (Ne.symm n2)]
        exact fun z => other g2 z rfl
    · rw [List.getElem?_set_ne (Ne.symm n1)] at e3
      rcases get_set e2 with ⟨rfl, _⟩ | ⟨n2, g2⟩
      · rw [List.getElem?_set_self hi]
        intro z; cases z
        exact other g1 e3 rfl
      · rw [List.getElem?_set_ne (Ne.symm n2)]
        exact S.dj j k q q' b ne g1 g2 e3
/-- the def's own becomes known: it is changed no more -/
theorem Sta1.freeze {F0 F : Hp} {W : Wd} {σ : L2.St} {H : Hp} {i : Nat} {p : PV} (S : Sta1 F0 F W ρ σ H) (hi : ρ[i]? = some (.ow p)) : ∃ F' W', W.le W' ∧ Sta1 F0 F' W' (ρ.set i (.fr p)) σ H := by
  obtain ⟨a, e1, o, e2, z⟩ := S.s.at_ i _ hi
  have fn : F0 a = none := S.ow i p a hi e1
  have hg : W.G a = none := S.s.hs.d' e2
  have fsub : Sub (fun b => if b = a then none else F b) F := fun b u q => by
    by_cases hb : b = a
    · have q : (if b = a then none else F b) = some u := q
      rw [if_pos hb] at q; cases q
    · have q : (if b = a then none else F b) = some u := q
      rw [if_neg hb] at q; exact q
  have l : W.le (W.add a o) := Wd.add_le hg
  refine ⟨fun b => if b = a then none else F b, W.add a o, l, ⟨S.s.hs.join (S.s.hs.f _ _ e2) hg fsub (if_pos rfl) fun sd sc q => ?_, fun j s q => ?_⟩, fun b u q => ?_, fun j q b e3 e4 => ?_, fun j k q q' b ne e3 e4 e5 => ?_⟩
  · obtain ⟨_, _, _, f1, f2⟩ := S.s.hs.s sd sc q
    exact ⟨fun w => (by rw [w, e2] at f1; cases f1), fun w => (by rw [w, e2] at f2; cases f2)⟩
  · rcases get_set q with ⟨rfl, rfl⟩ | ⟨ne, q⟩
    · exact ⟨.ref a, e1, z.known (show upd W.G a o a = some o from upd_same) (z.mono l)⟩
    · have w := S.s.at_ j s q
      cases s with
      | no => trivial
      | fr p => exact SlotOk.mono (s := .fr p) l w
      | ow p' =>
        obtain ⟨b, e1', u, e3, r⟩ := w
        have nb : b ≠ a := fun w => S.dj i j p p' a (Ne.symm ne) hi q e1 (w ▸ e1')
        exact ⟨b, e1', u, (if_neg nb).trans e3, r.mono l⟩
  · show (if b = a then none else F b) = some u
    rw [if_neg (ne_of_none q fn)]; exact S.f0 b u q
  · rcases get_set e3 with ⟨_, z⟩ | ⟨ne, e3⟩
    · cases z
    · exact S.ow j q b e3 e4
  · rcases get_set e3 with ⟨_, z⟩ | ⟨n1, e3⟩
    · cases z
    rcases get_set e4 with ⟨_, z⟩ | ⟨n2, e4⟩
    · cases z
    exact S.dj j k q q' b ne e3 e4 e5
theorem ss_freeze (i : Nat) {p : PV} {ss : List Stmt} {m : M β} (hi : ρ[i]? = some (.ow p) := by rfl) (h : SS X (ρ.set i (.fr p)) ss m R) : SS X ρ ss m R := fun F0 F W σ H D S q => by
  obtain ⟨F', W', l, S'⟩ := S.freeze hi
  exact h F0 F' W' σ H D S' (q.mono fun _ z => z.le l)
section
variable {i : Nat} {pos' : Pos}
theorem ss_set (i : Nat) {k : PV → M β} (ha : SE X ρ e ma) (hN : X.N.Nodup) (hk : ∀ p, SS X (ρ.set i (.fr p)) rest (k p) R) (hi : X.N[i]? = some x := by rfl) (hx : Loc X.env.scope x := by first | exact .inl rfl | exact .inr rfl)
    (hs : swapsWith e (some (.Name x pos')) pos.line X.env = pure false := by rfl) (hf : X.fn x = true ∨ X.env.scope.names.lookup x = some .local := by first | exact .inl rfl | exact .inr rfl) :
    SS X ρ (.Assign [.Name x pos'] e pos :: rest) (ma >>= fun p => k p) R := fun F0 F W σ H D S q =>
  wss_of (pss_cons (ps_set hN hi hx pe_we hs hf) pss_wss) fun hl => by
    rw [M.all_bind] at q
    refine ha F W σ H _ S.s (q.mono fun p z v H' W' l S' r => ?_)
    exact hk p F0 F W' _ H' D ((S.grow S').set (by rw [hl]; exact lt_of_some hi) r) (z.mono fun _ y => y.le l)
/-- a list that the def will change -/
def asL {α : Type} (p : PV) (k : List PV → M α) : M α := match p with
  | .lst ps => k ps
  | _ => .bad
theorem asL_case {α : Type} {p : PV} {k : List PV → M α} {Q : α → Prop} (h : (asL p k).All Q) : ∃ ps, p = .lst ps ∧ (k ps).All Q := by
  unfold asL at h
  split at h
  · exact ⟨_, rfl, h⟩
  · exact h.elim
theorem ss_own (i : Nat) {k : List PV → M β} (ha : SF X ρ e ma) (hN : X.N.Nodup) (hk : ∀ ps, SS X (ρ.set i (.ow (.lst ps))) rest (k ps) R) (hi : X.N[i]? = some x := by rfl) (hx : Loc X.env.scope x := by first | exact .inl rfl | exact .inr rfl)
    (hs : swapsWith e (some (.Name x pos')) pos.line X.env = pure false := by rfl) (hf : X.fn x = true ∨ X.env.scope.names.lookup x = some .local := by first | exact .inl rfl | exact .inr rfl) :
    SS X ρ (.Assign [.Name x pos'] e pos :: rest) (ma >>= fun p => asL p k) R := fun F0 F W σ H D S q =>
  wss_of (pss_cons (ps_set hN hi hx pe_we hs hf) pss_wss) fun hl => by
    rw [M.all_bind] at q
    refine ha F W σ H _ S.s (q.mono fun p z a H' W' l S' n => ?_)
    obtain ⟨ps, rfl, z⟩ := asL_case z
    obtain ⟨F', S2⟩ := (S.grow S').claim (by rw [hl]; exact lt_of_some hi) n
    exact hk ps F0 F' W' _ H' D S2 (z.mono fun _ y => y.le l)
/-! name = [..] on one line -/
theorem QE.qf {F : Hp} {W : Wd} {σ : L2.St} {Q : VK} {p : PV} (q : QE F W ρ σ Q p) : QF F W ρ σ Q p := fun a H' W' l S' n => by
  obtain ⟨W2, l2, S2, r⟩ := n.join S'
  exact q _ H' W2 (l.trans l2) S2 r
variable {tg elt iter : Expr} {ifs : List Expr} {scope : Scope} {own : List (Str × Nat)} {B : Bd} {mi : M (List PV)} {f : PV → M (Option PV)} {g : List PV → M (List PV)}
/-- a comprehension, whatever is done with its list -/
structure CompOk (X : Cx) (ρ : Env) (tg iter : Expr) (ifs : List Expr) (elt : Expr) (scope : Scope) (own : List (Str × Nat)) (mi : M (List PV)) (g : List PV → M (List PV)) : Prop where
  ok : BlkOk X.N X.env.scope scope own
  core : ∀ {F : Hp} {W : Wd} {σ : L2.St} {H : Hp} {Q : VK}, Sta F W ρ σ H → (mi >>= fun xs => g xs >>= fun ys => .ret (.lst ys)).All (QF F W ρ σ Q) →
    tLc (WI X tg iter) (gBlk X scope tg) (tBlk X scope ifs) (eBlk X scope elt) (own.map (·.2)) σ H Q
  fs : ∀ x, foldedSetIterable iter X.env x = pure x
theorem CompOk.sf (h : CompOk X ρ tg iter ifs elt scope own mi g) (hc : X.calm = true) (hN : X.N.Nodup) : SF X ρ (.ListComp elt [⟨tg, iter, ifs, 0⟩] scope pos) (mi >>= fun xs => g xs >>= fun ys => .ret (.lst ys)) := fun F W σ H Q S q =>
  (pe_lc hc hN pi_wi h.ok (g := gBlk X scope tg) (tt := tBlk X scope ifs) (te := eBlk X scope elt) (fun s H C cl fp => ⟨fun pins s' σ H' v u Q I r h => h s H C cl fp pins s' u I r⟩)
    (fun s H C cl fp => ⟨fun pins s' σ H' Q I h => h s H C cl fp pins s' I⟩) (fun s H C cl fp => ⟨fun pins s' σ H' Q I h => h s H C cl fp pins s' I⟩) h.fs).we (h.core S q)
theorem CompOk.of (ok : BlkOk X.N X.env.scope scope own) (hi : SI X ρ tg iter true mi) (hg : Blk X scope fun Y => SG Y tg B (own.map (·.2)))
    (mt : PV → M Bool) (me : PV → M PV) (ht : ∀ p ρ', B p (wipeE ρ (own.map (·.2))) = some ρ' → Blk X scope fun Y => STs Y ρ' ifs (mt p))
    (he : ∀ p ρ', B p (wipeE ρ (own.map (·.2))) = some ρ' → Blk X scope fun Y => SE Y ρ' elt (me p))
    (hf : ∀ p, (∃ ρ', B p (wipeE ρ (own.map (·.2))) = some ρ' ∧ f p = turnM (mt p) (me p)) ∨ f p = .bad) (eg : ∀ xs, compL f xs = g xs) (fs : ∀ x, foldedSetIterable iter X.env x = pure x) : CompOk X ρ tg iter ifs elt scope own mi g :=
  ⟨ok, fun S q => comp_core hi hg mt me ht he hf S (by
    have e : compL f = g := funext eg
    rw [e]; exact q), fs⟩
/-- [e for x in ..] -/
theorem comp_map1 (i : Nat) {me : PV → M PV} {n : Str} {pn : Pos} (ok : BlkOk X.N X.env.scope scope own) (hi : SI X ρ (.Name n pn) iter true mi) (hg : Blk X scope fun Y => SG Y (.Name n pn) (bNm i) [i]) (he : ∀ p, Blk X scope fun Y => SE Y ((wipeE ρ (own.map (·.2))).set i (.fr p)) elt (me p))
    (ho : own.map (·.2) = [i] := by rfl) (fs : ∀ x, foldedSetIterable iter X.env x = pure x := by intro _; rfl) : CompOk X ρ (.Name n pn) iter [] elt scope own mi (mapL me) :=
  CompOk.of (B := bNm i) (f := fun p => turnM (.ret true) (me p)) ok hi (by rw [ho]; exact hg) (fun _ => .ret true) me (fun p ρ' _ s H C cl fp => sts_nil) (fun p ρ' e => by cases e; exact he p) (fun p => .inl ⟨_, rfl, rfl⟩) (compL_map me) fs
/-- [e for x in .. if t] -/
theorem comp_if1 (i : Nat) {c : Expr} {mt : PV → M Bool} {me : PV → M PV} {n : Str} {pn : Pos} (ok : BlkOk X.N X.env.scope scope own) (hi : SI X ρ (.Name n pn) iter true mi) (hg : Blk X scope fun Y => SG Y (.Name n pn) (bNm i) [i]) (ht : ∀ p, Blk X scope fun Y => SC Y ((wipeE ρ (own.map (·.2))).set i (.fr p)) c (mt p))
    (he : ∀ p, Blk X scope fun Y => SE Y ((wipeE ρ (own.map (·.2))).set i (.fr p)) elt (me p)) (ho : own.map (·.2) = [i] := by rfl) (fs : ∀ x, foldedSetIterable iter X.env x = pure x := by intro _; rfl) : CompOk X ρ (.Name n pn) iter [c] elt scope own mi (compL fun p => turnM (mt p) (me p)) :=
  CompOk.of (B := bNm i) (f := fun p => turnM (mt p) (me p)) ok hi (by rw [ho]; exact hg) mt me (fun p ρ' e s H C cl fp => by cases e; exact sts_one (ht p s H C cl fp)) (fun p ρ' e => by cases e; exact he p) (fun p => .inl ⟨_, rfl, rfl⟩) (fun _ => rfl) fs
/-- two names -/
theorem unpk2_bind {α β : Type} (p : PV) (f : PV → PV → M α) (k : α → M β) : (unpk2 p f >>= k) = unpk2 p fun a b => f a b >>= k := by
  unfold unpk2
  split <;> rfl
theorem comp_of2 (i j : Nat) {mt : PV → PV → M Bool} {me : PV → PV → M PV} {g : List PV → M (List PV)} (ok : BlkOk X.N X.env.scope scope own) (hi : SI X ρ tg iter true mi) (hg : Blk X scope fun Y => SG Y tg (bTup [bNm i, bNm j]) [i, j])
    (ht : ∀ a b, Blk X scope fun Y => STs Y (((wipeE ρ (own.map (·.2))).set i (.fr a)).set j (.fr b)) ifs (mt a b)) (he : ∀ a b, Blk X scope fun Y => SE Y (((wipeE ρ (own.map (·.2))).set i (.fr a)).set j (.fr b)) elt (me a b))
    (eg : ∀ xs, compL (fun p => unpk2 p fun a b => turnM (mt a b) (me a b)) xs = g xs) (ho : own.map (·.2) = [i, j]) (fs : ∀ x, foldedSetIterable iter X.env x = pure x) : CompOk X ρ tg iter ifs elt scope own mi g :=
  CompOk.of (B := bTup [bNm i, bNm j]) (f := fun p => unpk2 p fun a b => turnM (mt a b) (me a b)) ok hi (by rw [ho]; exact hg) (fun p => unpk2 p mt) (fun p => unpk2 p me) (fun p ρ' e => by
      unfold bTup at e
      split at e
      · cases hp : (‹List PV› : List PV) with
        | nil => rw [hp] at e; cases e
        | cons a l => cases l with
          | nil => rw [hp] at e; cases e
          | cons b l => cases l with
            | nil => rw [hp] at e; cases e; exact ht a b
            | cons c l => rw [hp] at e; cases e
      · cases hp : (‹List PV› : List PV) with
        | nil => rw [hp] at e; cases e
        | cons a l => cases l with
          | nil => rw [hp] at e; cases e
          | cons b l => cases l with
            | nil => rw [hp] at e; cases e; exact ht a b
            | cons c l => rw [hp] at e; cases e
      · cases e) (fun p ρ' e => by
      unfold bTup at e
      split at e
      · cases hp : (‹List PV› : List PV) with
        | nil => rw [hp] at e; cases e
        | cons a l => cases l with
          | nil => rw [hp] at e; cases e
          | cons b l => cases l with
            | nil => rw [hp] at e; cases e; exact he a b
            | cons c l => rw [hp] at e; cases e
      · cases hp : (‹List PV› : List PV) with
        | nil => rw [hp] at e; cases e
        | cons a l => cases l with
          | nil => rw [hp] at e; cases e
          | cons b l => cases l with
            | nil => rw [hp] at e; cases e; exact he a b
            | cons c l => rw [hp] at e; cases e
      · cases e) (fun p => by
      unfold unpk2
      split
      · exact .inl ⟨_, rfl, rfl⟩
      · exact .inl ⟨_, rfl, rfl⟩
      · exact .inr rfl) eg fs
theorem comp_map2 (i j : Nat) {me : PV → PV → M PV} (ok : BlkOk X.N X.env.scope scope own) (hi : SI X ρ tg iter true mi) (hg : Blk X scope fun Y => SG Y tg (bTup [bNm i, bNm j]) [i, j])
    (he : ∀ a b, Blk X scope fun Y => SE Y (((wipeE ρ (own.map (·.2))).set i (.fr a)).set j (.fr b)) elt (me a b)) (ho : own.map (·.2) = [i, j] := by rfl) (fs : ∀ x, foldedSetIterable iter X.env x = pure x := by intro _; rfl) :
    CompOk X ρ tg iter [] elt scope own mi (mapL fun p => unpk2 p me) :=
  comp_of2 i j (mt := fun _ _ => .ret true) ok hi hg (fun a b s H C cl fp => sts_nil) he (fun xs => by
    rw [← compL_map]
    exact compL_congr (fun p => by
      have e : turnM (.ret true) (unpk2 p me) = (unpk2 p me >>= fun y => .ret (some y)) := rfl
      rw [e, unpk2_bind]
      rfl) xs) ho fs
theorem comp_if2 (i j : Nat) {c : Expr} {mt : PV → PV → M Bool} {me : PV → PV → M PV} (ok : BlkOk X.N X.env.scope scope own) (hi : SI X ρ tg iter true mi) (hg : Blk X scope fun Y => SG Y tg (bTup [bNm i, bNm j]) [i, j])
    (ht : ∀ a b, Blk X scope fun Y => SC Y (((wipeE ρ (own.map (·.2))).set i (.fr a)).set j (.fr b)) c (mt a b))
    (he : ∀ a b, Blk X scope fun Y => SE Y (((wipeE ρ (own.map (·.2))).set i (.fr a)).set j (.fr b)) elt (me a b)) (ho : own.map (·.2) = [i, j] := by rfl) (fs : ∀ x, foldedSetIterable iter X.env x = pure x := by intro _; rfl) :
    CompOk X ρ tg iter [c] elt scope own mi (compL fun p => unpk2 p fun a b => turnM (mt a b) (me a b)) :=
  comp_of2 i j ok hi hg (fun a b s H C cl fp => sts_one (ht a b s H C cl fp)) he (fun _ => rfl) ho fs
theorem ss_compG (i : Nat) {F0 F : Hp} {W : Wd} {σ : L2.St} {H : Hp} {D : Ends} (h : CompOk X ρ tg iter ifs elt scope own mi g) (hc : X.calm = true) (hN : X.N.Nodup) (hi : X.N[i]? = some x) (hx : X.env.scope.names.lookup x = some .local)
    (hsw : swapsWith (.ListComp elt [⟨tg, iter, ifs, 0⟩] scope p) (some (.Name x pos')) pos.line X.env = pure true) (S : Sta F W ρ σ H)
    (q : σ.length = X.N.length → (mi >>= fun xs => g xs >>= fun ys => .ret (.lst ys)).All (QF F W ρ σ fun v H' => WSs X rest D (σ.set i (some v)) H')) :
    WSs X (.Assign [.Name x pos'] (.ListComp elt [⟨tg, iter, ifs, 0⟩] scope p) pos :: rest) D σ H :=
  wss_of (pss_cons (ps_setLc hc hN hi hx hsw pi_wi h.ok (g := gBlk X scope tg) (tt := tBlk X scope ifs) (te := eBlk X scope elt) (fun s H C cl fp => ⟨fun pins s' σ H' v u Q I r h => h s H C cl fp pins s' u I r⟩)
    (fun s H C cl fp => ⟨fun pins s' σ H' Q I h => h s H C cl fp pins s' I⟩) (fun s H C cl fp => ⟨fun pins s' σ H' Q I h => h s H C cl fp pins s' I⟩) h.fs) pss_wss) fun hl => h.core S (q hl)
theorem ss_setC (i : Nat) {k : List PV → M β} (h : CompOk X ρ tg iter ifs elt scope own mi g) (hc : X.calm = true) (hN : X.N.Nodup) (hk : ∀ ps, SS X (ρ.set i (.fr (.lst ps))) rest (k ps) R) (hi : X.N[i]? = some x := by rfl) (hx : X.env.scope.names.lookup x = some .local := by rfl)
    (hsw : swapsWith (.ListComp elt [⟨tg, iter, ifs, 0⟩] scope p) (some (.Name x pos')) pos.line X.env = pure true := by exact sw_true rfl rfl rfl (by decide +kernel)) :
    SS X ρ (.Assign [.Name x pos'] (.ListComp elt [⟨tg, iter, ifs, 0⟩] scope p) pos :: rest) (mi >>= fun xs => g xs >>= fun ys => k ys) R := fun F0 F W σ H D S q =>
  ss_compG i (F0 := F0) h hc hN hi hx hsw S.s fun hl => by
    rw [M.all_bind] at q ⊢
    refine q.mono fun xs z => ?_
    rw [M.all_bind] at z ⊢
    refine z.mono fun ys z => (M.all_ret _).mpr (QE.qf fun v H' W' l S' r => ?_)
    exact hk ys F0 F W' _ H' D ((S.grow S').set (by rw [hl]; exact lt_of_some hi) r) (z.mono fun _ y => y.le l)
theorem ss_ownC (i : Nat) {k : List PV → M β} (h : CompOk X ρ tg iter ifs elt scope own mi g) (hc : X.calm = true) (hN : X.N.Nodup) (hk : ∀ ps, SS X (ρ.set i (.ow (.lst ps))) rest (k ps) R) (hi : X.N[i]? = some x := by rfl) (hx : X.env.scope.names.lookup x = some .local := by rfl)
    (hsw : swapsWith (.ListComp elt [⟨tg, iter, ifs, 0⟩] scope p) (some (.Name x pos')) pos.line X.env = pure true := by exact sw_true rfl rfl rfl (by decide +kernel)) :
    SS X ρ (.Assign [.Name x pos'] (.ListComp elt [⟨tg, iter, ifs, 0⟩] scope p) pos :: rest) (mi >>= fun xs => g xs >>= fun ys => k ys) R := fun F0 F W σ H D S q =>
  ss_compG i (F0 := F0) h hc hN hi hx hsw S.s fun hl => by
    rw [M.all_bind] at q ⊢
    refine q.mono fun xs z => ?_
    rw [M.all_bind] at z ⊢
    refine z.mono fun ys z => (M.all_ret _).mpr fun a H' W' l S' n => ?_
    obtain ⟨F', S2⟩ := (S.grow S').claim (by rw [hl]; exact lt_of_some hi) n
    exact hk ys F0 F' W' _ H' D S2 (z.mono fun _ y => y.le l)
end
/-! targets of several names -/
def NoOw (ρ : Env) (vs : List Nat) : Prop := ∀ i ∈ vs, ∀ p, ρ[i]? ≠ some (.ow p)
/-- a = e by any binding; what the def owns stays where it is -/
theorem ss_bind {tg : Expr} {B : Bd} {vs : List Nat} {k : PV → M β} (ha : SE X ρ e ma) (hg : SG X tg B vs) (hk : ∀ p, (∃ ρ', B p ρ = some ρ' ∧ (∀ (i : Nat) (q : PV), ρ'[i]? = some (.ow q) → i ∉ vs ∧ ρ[i]? = some (.ow q)) ∧ SS X ρ' rest (k p) R) ∨ k p = .bad)
    (hs : swapsWithSole [tg] e pos.line X.env = pure false := by rfl) (hw : swappedStores [tg] e X.env = pure none := by rfl) (h1 : (assignEach [tg] X.env).map (·.2) = [assign tg X.env] := by rfl) :
    SS X ρ (.Assign [tg] e pos :: rest) (ma >>= fun p => k p) R := fun F0 F W σ H D S q =>
  wss_of (pss_cons (ps_asg pe_we pg_wg hs hw h1) pss_wss) fun hl => by
    rw [M.all_bind] at q
    refine ha F W σ H _ S.s (q.mono fun p z v H' W' l S' r => ?_)
    rcases hk p with ⟨ρ', hB, ho, hk⟩ | hk
    · refine hg F W' ρ σ H' v p ρ' _ S' r hB fun σ' S2 off => ?_
      refine hk F0 F W' σ' H' D ⟨S2, S.f0, fun i q a e1 e2 => ?_, fun i j q q' a ne e1 e2 e3 => ?_⟩ (z.mono fun _ y => y.le l)
      · obtain ⟨h1, h2⟩ := ho i q e1
        rw [off.2 i h1] at e2
        exact S.ow i q a h2 e2
      · obtain ⟨h1, h2⟩ := ho i q e1
        obtain ⟨h3, h4⟩ := ho j q' e2
        rw [off.2 i h1] at e3
        rw [off.2 j h3]
        exact S.dj i j q q' a ne h2 h4 e3
    · rw [hk] at z
      exact z.elim
theorem ow_set {i : Nat} {p : PV} {ρ : Env} {j : Nat} {q : PV} (h : (ρ.set i (.fr p))[j]? = some (.ow q)) : j ≠ i ∧ ρ[j]? = some (.ow q) := by
  rcases get_set h with ⟨_, z⟩ | ⟨ne, h⟩
  · cases z
  · exact ⟨ne, h⟩
/-- a, b = e -/
theorem ss_bind2 (i j : Nat) {tg : Expr} {k : PV → PV → M β} (ha : SE X ρ e ma) (hg : SG X tg (bTup [bNm i, bNm j]) [i, j]) (hk : ∀ p q, SS X ((ρ.set i (.fr p)).set j (.fr q)) rest (k p q) R)
    (hs : swapsWithSole [tg] e pos.line X.env = pure false := by rfl) (hw : swappedStores [tg] e X.env = pure none := by rfl) (h1 : (assignEach [tg] X.env).map (·.2) = [assign tg X.env] := by rfl) :
    SS X ρ (.Assign [tg] e pos :: rest) (ma >>= fun p => unpk2 p k) R := by
  refine ss_bind ha hg (fun p => ?_) hs hw h1
  have ow : ∀ {p q : PV} (m : Nat) (q' : PV), ((ρ.set i (.fr p)).set j (.fr q))[m]? = some (.ow q') → m ∉ [i, j] ∧ ρ[m]? = some (.ow q') := fun m q' h => by
    obtain ⟨n1, h⟩ := ow_set h
    obtain ⟨n2, h⟩ := ow_set h
    exact ⟨by simp [n1, n2], h⟩
  unfold unpk2
  split
  · exact .inl ⟨_, rfl, ow, hk _ _⟩
  · exact .inl ⟨_, rfl, ow, hk _ _⟩
  · exact .inr rfl
theorem ss_bind3 (i j l : Nat) {tg : Expr} {k : PV → PV → PV → M β} (ha : SE X ρ e ma) (hg : SG X tg (bTup [bNm i, bNm j, bNm l]) [i, j, l]) (hk : ∀ p q r, SS X (((ρ.set i (.fr p)).set j (.fr q)).set l (.fr r)) rest (k p q r) R)
    (hs : swapsWithSole [tg] e pos.line X.env = pure false := by rfl) (hw : swappedStores [tg] e X.env = pure none := by rfl) (h1 : (assignEach [tg] X.env).map (·.2) = [assign tg X.env] := by rfl) :
    SS X ρ (.Assign [tg] e pos :: rest) (ma >>= fun p => unpk3 p k) R := by
  refine ss_bind ha hg (fun p => ?_) hs hw h1
  have ow : ∀ {p q r : PV} (m : Nat) (q' : PV), (((ρ.set i (.fr p)).set j (.fr q)).set l (.fr r))[m]? = some (.ow q') → m ∉ [i, j, l] ∧ ρ[m]? = some (.ow q') := fun m q' h => by
    obtain ⟨n1, h⟩ := ow_set h
    obtain ⟨n2, h⟩ := ow_set h
    obtain ⟨n3, h⟩ := ow_set h
    exact ⟨by simp [n1, n2, n3], h⟩
  unfold unpk3
  split
  · exact .inl ⟨_, rfl, ow, hk _ _ _⟩
  · exact .inl ⟨_, rfl, ow, hk _ _ _⟩
  · exact .inr rfl
theorem sg2 (i j : Nat) {x y : Str} {px py : Pos} {k : Nat} (hc : X.calm = true) (hN : X.N.Nodup) (h1 : SG X (.Name x px) (bNm i) [i]) (h2 : SG X (.Name y py) (bNm j) [j])
    (s1 : (assignEach [.Name x px, .Name y py] X.env).map (·.2) = assign (.Name x px) X.env :: (assignEach [.Name y py] X.env).map (·.2) := by rfl) (s2 : (assignEach [.Name y py] X.env).map (·.2) = assign (.Name y py) X.env :: (assignEach [] X.env).map (·.2) := by rfl)
    (hn : (assignEach [.Name x px, .Name y py] X.env).length = 2 := by rfl) (hst : (assignEach [.Name x px, .Name y py] X.env).findIdx? (·.1) = none := by rfl) : SG X (.Tuple [.Name x px, .Name y py] k pos) (bTup [bNm i, bNm j]) [i, j] :=
  sg_tup hc (sgs_cons h1 (sgs_cons h2 sgs_nil s2) s1) hn hst
theorem sg3 (i j l : Nat) {x y z : Str} {px py pz : Pos} {k : Nat} (hc : X.calm = true) (hN : X.N.Nodup) (h1 : SG X (.Name x px) (bNm i) [i]) (h2 : SG X (.Name y py) (bNm j) [j]) (h3 : SG X (.Name z pz) (bNm l) [l])
    (s1 : (assignEach [.Name x px, .Name y py, .Name z pz] X.env).map (·.2) = assign (.Name x px) X.env :: (assignEach [.Name y py, .Name z pz] X.env).map (·.2) := by rfl) (s2 : (assignEach [.Name y py, .Name z pz] X.env).map (·.2) = assign (.Name y py) X.env :: (assignEach [.Name z pz] X.env).map (·.2) := by rfl)
    (s3 : (assignEach [.Name z pz] X.env).map (·.2) = assign (.Name z pz) X.env :: (assignEach [] X.env).map (·.2) := by rfl)
    (hn : (assignEach [.Name x px, .Name y py, .Name z pz] X.env).length = 3 := by rfl) (hst : (assignEach [.Name x px, .Name y py, .Name z pz] X.env).findIdx? (·.1) = none := by rfl) : SG X (.Tuple [.Name x px, .Name y py, .Name z pz] k pos) (bTup [bNm i, bNm j, bNm l]) [i, j, l] :=
  sg_tup hc (sgs_cons h1 (sgs_cons h2 (sgs_cons h3 sgs_nil s3) s2) s1) hn hst
end
end ML

/-! The M layer, part 7: if, loops, stores, defs. -/
namespace ML
open PySem PySem.Spec PyProof.Rows L2
section
variable {X : Cx} {ρ : Env} {a b c e : Expr} {pos p : Pos} {ma mb mc : M PV} {x : Str} {β τ : Type} {R : β → Outc} {rest A B : List Stmt} {tc : M Bool}
/-! ### if -/
theorem all_bool {α : Type} {k : Bool} {x y : M α} {Q : α → Prop} (h : (if k = true then x else y).All Q) : (k = true ∧ x.All Q) ∨ (k = false ∧ y.All Q) := by
  cases k with
  | true => exact .inl ⟨rfl, h⟩
  | false => exact .inr ⟨rfl, h⟩
theorem if_core {F0 F : Hp} {W : Wd} {σ : L2.St} {H : Hp} {D : Ends} {α : Type} {f : Bool → M α} {K : Wd → α → Prop} (hc : SC X ρ c tc) (S : Sta1 F0 F W ρ σ H) (q : (tc >>= f).All (K W)) (hK : ∀ W W' a, W.le W' → K W a → K W' a)
    (hA : ∀ W' H', Sta1 F0 F W' ρ σ H' → (f true).All (K W') → WSs X A { D with nx := WSs X rest D } σ H') (hB : ∀ W' H', Sta1 F0 F W' ρ σ H' → (f false).All (K W') → WSs X B { D with nx := WSs X rest D } σ H') :
    WSs X (.If c A B pos :: rest) D σ H := wss_of (pss_cons (ps_if pt_wt pss_wss pss_wss) pss_wss) fun _ => by
  rw [M.all_bind] at q
  refine hc F W σ H _ S.s (q.mono fun k z H' W' l S' => ?_)
  have z := z.mono fun a => hK W W' a l
  cases k with
  | true => exact hA W' H' (S.grow S') z
  | false => exact hB W' H' (S.grow S') z
/-- if c: A, A leaves -/
theorem ss_ifX {mA mr : M β} (hc : SC X ρ c tc) (hA : SS X ρ A mA (fun b => exitOf (R b))) (hr : SS X ρ rest mr R) : SS X ρ (.If c A [] pos :: rest) (tc >>= fun k => if k = true then mA else mr) R := fun F0 F W σ H D S q =>
  if_core (f := fun k => if k = true then mA else mr) (K := fun W b => OutOk D F0 W (R b)) hc S q (fun _ _ _ l k => k.le l) (fun W' H' S' z => hA F0 F W' σ H' _ S' (M.All.mono (fun _ y => y.exit) z)) fun W' H' S' z => wss_of pss_nil fun _ => hr F0 F W' σ H' D S' z
/-- the last statement: both ways end as R tells -/
theorem ss_ifE {mA mB : M β} (hc : SC X ρ c tc) (hA : SS X ρ A mA R) (hB : SS X ρ B mB R) : SS X ρ [.If c A B pos] (tc >>= fun k => if k = true then mA else mB) R := fun F0 F W σ H D S q => by
  have nil : ∀ {σ : L2.St} {H : Hp}, D.nx σ H → WSs X [] D σ H := fun z => wss_of pss_nil fun _ => z
  have up : ∀ {W' : Wd} {o : Outc}, OutOk D F0 W' o → OutOk { D with nx := WSs X [] D } F0 W' o := fun {W' o} z => by
    cases o with
    | nx ρ => exact fun F' W' σ' H' l S => nil (z F' W' σ' H' l S)
    | lp ρ => exact ⟨fun F' W' σ' H' l S => nil (z.1 F' W' σ' H' l S), z.2⟩
    | ct ρ => exact z
    | bk ρ => exact z
    | rt p => exact z
    | rn p => exact ⟨z.1, fun e F' W' σ' H' l S f => nil (z.2 e F' W' σ' H' l S f)⟩
    | any => trivial
  exact if_core (f := fun k => if k = true then mA else mB) (K := fun W b => OutOk D F0 W (R b)) hc S q (fun _ _ _ l k => k.le l) (fun W' H' S' z => hA F0 F W' σ H' _ S' (M.All.mono (fun _ y => up y) z)) fun W' H' S' z => hB F0 F W' σ H' _ S' (M.All.mono (fun _ y => up y) z)
/-- both ways meet again, with what they changed -/
theorem ss_ifJ (inj : τ → Env) {mA mB : M τ} {k : τ → M β} (hc : SC X ρ c tc) (hA : SS X ρ A mA (fun t => .nx (inj t))) (hB : SS X ρ B mB (fun t => .nx (inj t))) (hk : ∀ t, SS X (inj t) rest (k t) R) :
    SS X ρ (.If c A B pos :: rest) (tc >>= fun z => (if z = true then mA else mB) >>= fun t => k t) R := fun F0 F W σ H D S q => by
  have go : ∀ {W' : Wd} {m : M τ}, (m >>= fun t => k t).All (fun b => OutOk D F0 W' (R b)) → m.All fun t => OutOk { D with nx := WSs X rest D } F0 W' (.nx (inj t)) := fun {W' m} z => by
    rw [M.all_bind] at z
    exact z.mono fun t z F' W2 σ' H' l S2 => hk t F0 F' W2 σ' H' D S2 (z.mono fun _ y => y.le l)
  exact if_core (f := fun z => (if z = true then mA else mB) >>= fun t => k t) hc S q (fun _ _ _ l k => k.le l) (fun W' H' S' z => hA F0 F W' σ H' _ S' (go z)) fun W' H' S' z => hB F0 F W' σ H' _ S' (go z)
def jn {τ β : Type} (k : τ → M β) : Jn τ β → M β
  | .go t => k t
  | .out b => .ret b
/-- .. or one of them leaves -/
theorem ss_ifL (inj : τ → Env) {mA mB : M (Jn τ β)} {k : τ → M β} (hc : SC X ρ c tc) (hA : SS X ρ A mA (joinR inj R)) (hB : SS X ρ B mB (joinR inj R)) (hk : ∀ t, SS X (inj t) rest (k t) R) :
    SS X ρ (.If c A B pos :: rest) (tc >>= fun z => (if z = true then mA else mB) >>= fun j => jn k j) R := fun F0 F W σ H D S q => by
  have go : ∀ {W' : Wd} {m : M (Jn τ β)}, (m >>= fun j => jn k j).All (fun b => OutOk D F0 W' (R b)) → m.All fun j => OutOk { D with nx := WSs X rest D } F0 W' (joinR inj R j) := fun {W' m} z => by
    rw [M.all_bind] at z
    refine z.mono fun j z => ?_
    cases j with
    | go t => exact fun F' W2 σ' H' l S2 => hk t F0 F' W2 σ' H' D S2 (M.All.mono (fun _ y => y.le l) z)
    | out b => exact OutOk.exit ((M.all_ret _).mp z)
  exact if_core (f := fun z => (if z = true then mA else mB) >>= fun j => jn k j) hc S q (fun _ _ _ l k => k.le l) (fun W' H' S' z => hA F0 F W' σ H' _ S' (go z)) fun W' H' S' z => hB F0 F W' σ H' _ S' (go z)

/-! ### for -/
variable {tg : Expr} {Bd : Bd} {vs : List Nat} {mi : M (List PV)} {body : List Stmt}
/-- the target bound in ρ gives ρ', what the def owns stays -/
def BindOk (B : ML.Bd) (vs : List Nat) (p : PV) (ρ ρ' : Env) : Prop := B p ρ = some ρ' ∧ ∀ (i : Nat) (q : PV), ρ'[i]? = some (.ow q) → i ∉ vs ∧ ρ[i]? = some (.ow q)
theorem Sta1.bound {F0 F : Hp} {W : Wd} {σ σ' : L2.St} {H : Hp} {B : ML.Bd} {p : PV} {ρ' : Env} (S : Sta1 F0 F W ρ σ H) (h : BindOk B vs p ρ ρ') (S2 : Sta F W ρ' σ' H) (off : Off vs σ σ') : Sta1 F0 F W ρ' σ' H :=
  ⟨S2, S.f0, fun i q a e1 e2 => by
    obtain ⟨h1, h2⟩ := h.2 i q e1
    rw [off.2 i h1] at e2
    exact S.ow i q a h2 e2, fun i j q q' a ne e1 e2 e3 => by
    obtain ⟨h1, h2⟩ := h.2 i q e1
    obtain ⟨h3, h4⟩ := h.2 j q' e2
    rw [off.2 i h1] at e3
    rw [off.2 j h3]
    exact S.dj i j q q' a ne h2 h4 e3⟩
theorem for_core (inj : τ → Env) {f : PV → τ → M (Lp τ β)} {k : Jn τ β → M β} (hp : PassesOwn (model X.prog X.w) X.A X.env X.xe) (hc : X.calm = true) (hi : SI X ρ tg e false mi) (hg : SG X tg Bd vs) {t0 : τ} (h0 : Le ρ (inj t0))
    (hb : ∀ t p, (∃ ρ', BindOk Bd vs p (inj t) ρ' ∧ SS X ρ' body (f p t) (loopR inj R)) ∨ f p t = .bad)
    (hk : ∀ t, SS X (inj t) rest (k (.go t)) R) (ho : ∀ b, k (.out b) = .ret b) (hs : ∀ x, foldedSetIterable e X.env x = pure x := by intro _; rfl) :
    SS X ρ (.For tg e body [] pos :: rest) (mi >>= fun xs => forL f xs t0 >>= k) R := fun F0 F W σ H D S q =>
  wss_of (pss_cons (ps_for hp hc pi_wi pg_wg pss_wss hs) pss_wss) fun _ => by
    rw [M.all_bind] at q
    refine hi F W σ H _ S.s (q.mono fun xs q J H1 W1 l1 S1 it hlen => ?_)
    obtain ⟨Y, wk, gv⟩ := it
    refine for_it wk (fun i σ' H' => ∃ t F2 W2, W1.le W2 ∧ Sta1 F0 F2 W2 (inj t) σ' H' ∧ i ≤ xs.length ∧ (forL f (xs.drop i) t >>= k).All (fun b => OutOk D F0 W2 (R b)))
      ⟨t0, F, W1, .refl W1, (S.grow S1).less h0, Nat.zero_le _, by rw [List.drop_zero]; exact q.mono fun b z => z.le l1⟩
      (fun i σ' H' _ h => by obtain ⟨t, F2, W2, l, S2, _⟩ := h; exact ⟨l.g.trans S2.s.hs.g, noH_sub H'⟩) (fun i y σ' H' H'' hi h yy => ?_) fun σ' H' h => ?_
    · obtain ⟨t, F2, W2, l2, S2, _, q2⟩ := h
      have ex : xs[i]? = some xs[i] := List.getElem?_eq_getElem hi
      obtain ⟨W3, l3, h3, rx⟩ := gv i H' y H'' xs[i] ex yy W2 F2 l2 (noH_sub F2) S2.s.hs
      have S3 := S2.grow (S2.s.grow l3 h3)
      rw [List.drop_eq_getElem_cons hi] at q2
      unfold forL at q2
      rw [bind_assoc, M.all_bind] at q2
      rcases hb t xs[i] with ⟨ρ', bo, hb⟩ | hb
      · refine hg F2 W3 (inj t) σ' H'' y xs[i] ρ' _ S3.s rx bo.1 fun σ4 S4 off => ?_
        refine hb F0 F2 W3 σ4 H'' _ (S3.bound bo S4 off) (q2.mono fun b z => ?_)
        cases b with
        | go t' =>
          have fin : EndAt F0 W3 (inj t') fun σ5 H5 => ∃ t F2 W2, W1.le W2 ∧ Sta1 F0 F2 W2 (inj t) σ5 H5 ∧ i + 1 ≤ xs.length ∧ (forL f (xs.drop (i + 1)) t >>= k).All (fun b => OutOk D F0 W2 (R b)) := fun F5 W5 σ5 H5 l5 S5 =>
            ⟨t', F5, W5, l2.trans (l3.trans l5), S5, hi, M.All.mono (fun b y => y.le (l3.trans l5)) z⟩
          exact ⟨fin, fin⟩
        | brk t' =>
          have z : (k (.go t')).All fun b => OutOk D F0 W2 (R b) := z
          exact fun F5 W5 σ5 H5 l5 S5 => hk t' F0 F5 W5 σ5 H5 D S5 (z.mono fun b y => y.le (l3.trans l5))
        | out b =>
          have z : (k (.out b)).All fun b => OutOk D F0 W2 (R b) := z
          rw [ho] at z
          have z := (M.all_ret _).mp z
          exact OutOk.ret (D := D) (by rfl) (z.le l3)
      · rw [hb] at q2
        exact q2.elim
    · obtain ⟨t, F2, W2, l2, S2, _, q2⟩ := h
      rw [List.drop_length] at q2
      have q2 : (k (.go t)).All fun b => OutOk D F0 W2 (R b) := q2
      exact hk t F0 F2 W2 σ' H' D S2 q2
/-! the usual forms -/
theorem bo_name {i : Nat} {p : PV} {ρ : Env} : BindOk (bNm i) [i] p ρ (ρ.set i (.fr p)) := ⟨rfl, fun j q h => by
  obtain ⟨n1, h⟩ := ow_set h
  exact ⟨by simp [n1], h⟩⟩
theorem bo_two {i j : Nat} {a b : PV} {ρ : Env} : BindOk (bTup [bNm i, bNm j]) [i, j] (.tup [a, b]) ρ ((ρ.set i (.fr a)).set j (.fr b)) := ⟨rfl, fun m q h => by
  obtain ⟨n1, h⟩ := ow_set h
  obtain ⟨n2, h⟩ := ow_set h
  exact ⟨by simp [n1, n2], h⟩⟩
theorem bo_two' {i j : Nat} {a b : PV} {ρ : Env} : BindOk (bTup [bNm i, bNm j]) [i, j] (.lst [a, b]) ρ ((ρ.set i (.fr a)).set j (.fr b)) := ⟨rfl, bo_two.2⟩
theorem bo_three {i j l : Nat} {a b c : PV} {ρ : Env} : BindOk (bTup [bNm i, bNm j, bNm l]) [i, j, l] (.tup [a, b, c]) ρ (((ρ.set i (.fr a)).set j (.fr b)).set l (.fr c)) := ⟨rfl, fun m q h => by
  obtain ⟨n1, h⟩ := ow_set h
  obtain ⟨n2, h⟩ := ow_set h
  obtain ⟨n3, h⟩ := ow_set h
  exact ⟨by simp [n1, n2, n3], h⟩⟩
theorem bo_three' {i j l : Nat} {a b c : PV} {ρ : Env} : BindOk (bTup [bNm i, bNm j, bNm l]) [i, j, l] (.lst [a, b, c]) ρ (((ρ.set i (.fr a)).set j (.fr b)).set l (.fr c)) := ⟨rfl, bo_three.2⟩
/-- a body's way for a pair -/
theorem two_ways {i j : Nat} {ρ : Env} {α : Type} {P : Env → M α → Prop} {f : PV → PV → M α} (h : ∀ a b, P ((ρ.set i (.fr a)).set j (.fr b)) (f a b)) (p : PV) :
    (∃ ρ', BindOk (bTup [bNm i, bNm j]) [i, j] p ρ ρ' ∧ P ρ' (unpk2 p f)) ∨ unpk2 p f = .bad := by
  unfold unpk2
  split
  · exact .inl ⟨_, bo_two, h _ _⟩
  · exact .inl ⟨_, bo_two', h _ _⟩
  · exact .inr rfl
theorem three_ways {i j l : Nat} {ρ : Env} {α : Type} {P : Env → M α → Prop} {f : PV → PV → PV → M α} (h : ∀ a b c, P (((ρ.set i (.fr a)).set j (.fr b)).set l (.fr c)) (f a b c)) (p : PV) :
    (∃ ρ', BindOk (bTup [bNm i, bNm j, bNm l]) [i, j, l] p ρ ρ' ∧ P ρ' (unpk3 p f)) ∨ unpk3 p f = .bad := by
  unfold unpk3
  split
  · exact .inl ⟨_, bo_three, h _ _ _⟩
  · exact .inl ⟨_, bo_three', h _ _ _⟩
  · exact .inr rfl
theorem forL_forM {τ β : Type} (f : PV → τ → M τ) : ∀ (xs : List PV) (t : τ), forL (fun p t => f p t >>= fun t' => .ret (Lp.go t' : Lp τ β)) xs t = (forM f xs t >>= fun t' => .ret (.go t'))
  | [], t => rfl
  | x :: xs, t => by
    unfold forL forM
    rw [bind_assoc, bind_assoc]
    exact congrArg (f x t >>= ·) (funext fun t' => forL_forM f xs t')
theorem SS.map {τ' : Type} {ss : List Stmt} {m : M τ} {R1 : τ → Outc} {R2 : τ' → Outc} {g : τ → τ'} (h : SS X ρ ss m R1) (e : ∀ t, R2 (g t) = R1 t) : SS X ρ ss (m >>= fun t => .ret (g t)) R2 := fun F0 F W σ H D S q =>
  h F0 F W σ H D S (by
    rw [M.all_bind] at q
    exact q.mono fun t z => by rw [← e]; exact (M.all_ret _).mp z)
/-- a for that is neither left nor broken -/
theorem ss_for (inj : τ → Env) {f : PV → τ → M τ} {k : τ → M β} (hp : PassesOwn (model X.prog X.w) X.A X.env X.xe) (hc : X.calm = true) (hi : SI X ρ tg e false mi) (hg : SG X tg Bd vs) {t0 : τ} (h0 : Le ρ (inj t0))
    (hb : ∀ t p, (∃ ρ', BindOk Bd vs p (inj t) ρ' ∧ SS X ρ' body (f p t) (fun t' => .lp (inj t'))) ∨ f p t = .bad)
    (hk : ∀ t, SS X (inj t) rest (k t) R) (hs : ∀ x, foldedSetIterable e X.env x = pure x := by intro _; rfl) :
    SS X ρ (.For tg e body [] pos :: rest) (mi >>= fun xs => forM f xs t0 >>= fun t => k t) R :=
  (for_core (R := R) inj (f := fun p t => f p t >>= fun t' => .ret (Lp.go t' : Lp τ β)) (k := jn k) hp hc hi hg h0 (fun t p => by
    rcases hb t p with ⟨ρ', h1, h2⟩ | h
    · exact .inl ⟨ρ', h1, h2.map fun _ => rfl⟩
    · exact .inr (by rw [h]; rfl)) hk (fun _ => rfl) hs).eq (by
    refine congrArg _ (funext fun xs => ?_)
    rw [forL_forM, bind_assoc]
    rfl)
/-- a for that may be left -/
theorem ss_forL (inj : τ → Env) {f : PV → τ → M (Lp τ β)} {k : τ → M β} (hp : PassesOwn (model X.prog X.w) X.A X.env X.xe) (hc : X.calm = true) (hi : SI X ρ tg e false mi) (hg : SG X tg Bd vs) {t0 : τ} (h0 : Le ρ (inj t0))
    (hb : ∀ t p, (∃ ρ', BindOk Bd vs p (inj t) ρ' ∧ SS X ρ' body (f p t) (loopR inj R)) ∨ f p t = .bad)
    (hk : ∀ t, SS X (inj t) rest (k t) R) (hs : ∀ x, foldedSetIterable e X.env x = pure x := by intro _; rfl) :
    SS X ρ (.For tg e body [] pos :: rest) (mi >>= fun xs => forL f xs t0 >>= fun j => jn k j) R := for_core (k := jn k) inj hp hc hi hg h0 hb hk (fun _ => rfl) hs

/-! ### while -/
theorem while_core (inj : τ → Env) {cm : τ → M Bool} {f : τ → M (Lp τ β)} {k : Jn τ β → M β} (hp : PassesOwn (model X.prog X.w) X.A X.env X.xe) {t0 : τ} (h0 : Le ρ (inj t0))
    (hc : ∀ t, SC X (inj t) c (cm t)) (hb : ∀ t, SS X (inj t) body (f t) (loopR inj R)) (hk : ∀ t, SS X (inj t) rest (k (.go t)) R) (ho : ∀ b, k (.out b) = .ret b) (n : Nat) :
    SS X ρ (.While c body [] pos :: rest) (whileL cm f n t0 >>= k) R := fun F0 F W σ H D S q =>
  wss_of (pss_cons (ps_while hp pt_wt pss_wss) pss_wss) fun _ => by
    refine ⟨fun m σ' H' => ∃ t F2 W2, W.le W2 ∧ Sta1 F0 F2 W2 (inj t) σ' H' ∧ (whileL cm f m t >>= k).All (fun b => OutOk D F0 W2 (R b)), ⟨n, t0, F, W, .refl W, S.less h0, q⟩, ?_⟩
    rintro m σ' H' ⟨t, F2, W2, l2, S2, q2⟩
    cases m with
    | zero => exact q2.elim
    | succ m =>
      unfold whileL at q2
      rw [bind_assoc, M.all_bind] at q2
      refine hc t F2 W2 σ' H' _ S2.s (q2.mono fun b z H3 W3 l3 S3 => ?_)
      cases b with
      | true =>
        have z : (f t >>= fun l => lpK (whileL cm f m) l >>= k).All (fun b => OutOk D F0 W2 (R b)) := by
          have z' := z
          rw [if_pos rfl, bind_assoc] at z'
          exact z'
        rw [M.all_bind] at z
        refine ⟨fun σ5 H5 => ∃ t F2 W2, W.le W2 ∧ Sta1 F0 F2 W2 (inj t) σ5 H5 ∧ (whileL cm f m t >>= k).All (fun b => OutOk D F0 W2 (R b)), fun σ5 H5 h => ⟨m, Nat.lt_succ_self m, h⟩, ?_⟩
        refine hb t F0 F2 W3 σ' H3 _ (S2.grow S3) (z.mono fun b z => ?_)
        cases b with
        | go t' =>
          have fin : EndAt F0 W3 (inj t') fun σ5 H5 => ∃ t F2 W2, W.le W2 ∧ Sta1 F0 F2 W2 (inj t) σ5 H5 ∧ (whileL cm f m t >>= k).All (fun b => OutOk D F0 W2 (R b)) := fun F5 W5 σ5 H5 l5 S5 =>
            ⟨t', F5, W5, l2.trans (l3.trans l5), S5, M.All.mono (fun b y => y.le (l3.trans l5)) z⟩
          exact ⟨fin, fin⟩
        | brk t' =>
          have z : (k (.go t')).All fun b => OutOk D F0 W2 (R b) := z
          exact fun F5 W5 σ5 H5 l5 S5 => hk t' F0 F5 W5 σ5 H5 D S5 (z.mono fun b y => y.le (l3.trans l5))
        | out b =>
          have z : (k (.out b)).All fun b => OutOk D F0 W2 (R b) := z
          rw [ho] at z
          exact OutOk.ret (D := D) (by rfl) (((M.all_ret _).mp z).le l3)
      | false =>
        have z : (k (.go t)).All (fun b => OutOk D F0 W2 (R b)) := z
        exact hk t F0 F2 W3 σ' H3 D (S2.grow S3) (z.mono fun b y => y.le l3)
theorem whileL_whileM {τ β : Type} (cm : τ → M Bool) (f : τ → M τ) : ∀ (n : Nat) (t : τ), whileL cm (fun t => f t >>= fun t' => .ret (Lp.go t' : Lp τ β)) n t = (whileM cm f n t >>= fun t' => .ret (.go t'))
  | 0, t => rfl
  | n + 1, t => by
    unfold whileL whileM
    rw [bind_assoc (cm t)]
    refine congrArg (cm t >>= ·) (funext fun b => ?_)
    cases b with
    | false => rfl
    | true =>
      simp only [if_true, bind_assoc, M.ret_bind]
      exact congrArg (f t >>= ·) (funext fun t' => whileL_whileM cm f n t')
theorem ss_while (inj : τ → Env) {cm : τ → M Bool} {f : τ → M τ} {k : τ → M β} (hp : PassesOwn (model X.prog X.w) X.A X.env X.xe) {t0 : τ} (h0 : Le ρ (inj t0))
    (hc : ∀ t, SC X (inj t) c (cm t)) (hb : ∀ t, SS X (inj t) body (f t) (fun t' => .lp (inj t'))) (hk : ∀ t, SS X (inj t) rest (k t) R) :
    SS X ρ (.While c body [] pos :: rest) (whileM cm f fuel t0 >>= fun t => k t) R :=
  (while_core (R := R) inj (f := fun t => f t >>= fun t' => .ret (Lp.go t' : Lp τ β)) (k := jn k) hp h0 hc (fun t => (hb t).map fun _ => rfl) hk (fun _ => rfl) fuel).eq (by
    rw [whileL_whileM, bind_assoc]
    rfl)
theorem ss_whileL (inj : τ → Env) {cm : τ → M Bool} {f : τ → M (Lp τ β)} {k : τ → M β} (hp : PassesOwn (model X.prog X.w) X.A X.env X.xe) {t0 : τ} (h0 : Le ρ (inj t0))
    (hc : ∀ t, SC X (inj t) c (cm t)) (hb : ∀ t, SS X (inj t) body (f t) (loopR inj R)) (hk : ∀ t, SS X (inj t) rest (k t) R) :
    SS X ρ (.While c body [] pos :: rest) (whileL cm f fuel t0 >>= fun j => jn k j) R := while_core (k := jn k) inj hp h0 hc hb hk (fun _ => rfl) fuel

/-! ### the def's own lists changed -/
/-- what the def owns at slot i becomes p' -/
theorem Sta1.change {F0 F : Hp} {W : Wd} {σ : L2.St} {H : Hp} {i : Nat} {q q' : PV} {a : Addr} {o' : HO} (S : Sta1 F0 F W ρ σ H) (hi : ρ[i]? = some (.ow q)) (e1 : σ[i]? = some (some (.ref a))) (z : OwnO W o' q') :
    Sta1 F0 (upd F a o') W (ρ.set i (.ow q')) σ (upd H a o') := by
  obtain ⟨a', e1', o, e2, _⟩ := S.s.at_ i _ hi
  rw [e1] at e1'; cases e1'
  have fn : F0 a = none := S.ow i q a hi e1
  have same : ∀ {j : Nat} {r r' : PV}, (ρ.set i (.ow q'))[j]? = some (.ow r) → ∃ r', ρ[j]? = some (.ow r') := fun {j r r'} h => by
    rcases get_set h with ⟨rfl, _⟩ | ⟨_, h⟩
    · exact ⟨_, hi⟩
    · exact ⟨_, h⟩
  refine ⟨⟨S.s.hs.change e2, fun j s h => ?_⟩, fun b u w => ?_, fun j r b h e => ?_, fun j k r r' b ne h h' e => ?_⟩
  · rcases get_set h with ⟨rfl, rfl⟩ | ⟨ne, h⟩
    · exact ⟨a, e1, o', upd_same, z⟩
    · have w := S.s.at_ j s h
      cases s with
      | no => trivial
      | fr p => exact w
      | ow p' =>
        obtain ⟨b, e1', u, e3, r⟩ := w
        have nb : b ≠ a := fun w => S.dj i j q p' a (Ne.symm ne) hi h e1 (w ▸ e1')
        exact ⟨b, e1', u, (upd_ne nb).trans e3, r⟩
  · rw [upd_ne (ne_of_none w fn)]; exact S.f0 b u w
  · obtain ⟨r', h⟩ := same (r' := r) h
    exact S.ow j r' b h e
  · obtain ⟨s, h⟩ := same (r' := r) h
    obtain ⟨s', h'⟩ := same (r' := r) h'
    exact S.dj j k s s' b ne h h' e
def pApp (ps : List PV) (p : PV) : M (List PV) := if ps.length < sizeLine then .ret (ps ++ [p]) else .bad
theorem ss_append (i : Nat) {ps : List PV} {x : Str} {k : List PV → M β} {p1 p2 p3 : Pos} (hρ : ρ[i]? = some (.ow (.lst ps)) := by rfl) (ha : SE X ρ e ma) (hk : ∀ ps', SS X (ρ.set i (.ow (.lst ps'))) rest (k ps') R)
    (hN : X.N[i]? = some x := by rfl) (hv : Vis X.env.scope x := by first | exact Or.inl rfl | exact Or.inr (Or.inl rfl) | exact Or.inr (Or.inr rfl)) (hd : (x == ("__debug__" : Str)) = false := by decide) (hcd : (x == ("__classdict__" : Str)) = false := by decide)
    (hbm : ∀ {to : TE} {t : TA}, PE X (.Name x p1) to → PA X [e] t → PE X (.Call (.Attribute (.Name x p1) "append" p2) [e] [] p3) (tBM X.K "list" rAppend to t) := by exact fun h1 h2 => pe_bm PySem.F.plainAttrs_list PySem.F.slot_list_append PySem.F.type_list_append mt_append h1 h2)
    (he : starEach [e] X.env = (false, eval e X.env) :: starEach [] X.env := by rfl) (hs : swapsWith (.Call (.Attribute (.Name x p1) "append" p2) [e] [] p3) none pos.line X.env = pure false := by rfl) :
    SS X ρ (.Expr (.Call (.Attribute (.Name x p1) "append" p2) [e] [] p3) pos :: rest) (ma >>= fun p => pApp ps p >>= fun ps' => k ps') R := fun F0 F W σ H D S q =>
  wss_of (pss_cons (ps_expr (hbm (pe_var hN hv hd hcd) (pa_cons pe_we pa_nil he)) hs) pss_wss) fun _ => by
    obtain ⟨a, e1, o, e2, z⟩ := S.s.at_ i _ hρ
    obtain ⟨xs, rfl, r⟩ := z.inv_lst
    refine ⟨.ref a, e1, .inl ⟨rfl, xs, .inl (.inl (S.s.hs.f _ _ e2))⟩, ?_⟩
    rw [M.all_bind] at q
    refine ha F W σ H _ S.s (q.mono fun p y v H' W' l S' rv => ?_)
    unfold pApp at y
    rw [M.all_bind] at y
    obtain ⟨hl, y⟩ := all_ite y
    refine ⟨a, xs, v, rfl, rfl, S'.hs.f _ _ e2, by rw [r.length]; exact hl, ?_⟩
    exact hk _ F0 _ W' σ _ D ((S.grow S').change hρ e1 (.lst ((r.mono l).append (.one rv)))) (M.All.mono (fun _ w => w.le l) y)
def pSet (ps : List PV) (i v : PV) : M (List PV) := match i with
  | .int j => match ixN ps.length j with
    | some n => .ret (ps.set n v)
    | none => .bad
  | _ => .bad
theorem ss_setitem (i : Nat) {ps : List PV} {x : Str} {k : List PV → M β} {p1 p2 : Pos} {ei : Expr} {mx : M PV} (hρ : ρ[i]? = some (.ow (.lst ps)) := by rfl) (ha : SE X ρ e ma) (hx : SE X ρ ei mx) (hk : ∀ ps', SS X (ρ.set i (.ow (.lst ps'))) rest (k ps') R)
    (hN : X.N[i]? = some x := by rfl) (hv : Vis X.env.scope x := by first | exact Or.inl rfl | exact Or.inr (Or.inl rfl) | exact Or.inr (Or.inr rfl)) (hd : (x == ("__debug__" : Str)) = false := by decide) (hcd : (x == ("__classdict__" : Str)) = false := by decide)
    (hg : ∀ {to ti : TE}, PE X (.Name x p1) to → PE X ei ti → PG X (.Subscript (.Name x p1) ei p2) (gSub to ti rSetL) := by exact fun h1 h2 => pg_sub h1 h2 set_list)
    (hs : swapsWithSole [.Subscript (.Name x p1) ei p2] e pos.line X.env = pure false := by rfl) (hw : swappedStores [.Subscript (.Name x p1) ei p2] e X.env = pure none := by rfl)
    (h1 : (assignEach [.Subscript (.Name x p1) ei p2] X.env).map (·.2) = [assign (.Subscript (.Name x p1) ei p2) X.env] := by rfl) :
    SS X ρ (.Assign [.Subscript (.Name x p1) ei p2] e pos :: rest) (ma >>= fun v => mx >>= fun j => pSet ps j v >>= fun ps' => k ps') R := fun F0 F W σ H D S q =>
  wss_of (pss_cons (ps_asg pe_we (hg (pe_var hN hv hd hcd) pe_we) hs hw h1) pss_wss) fun _ => by
    obtain ⟨a, e1, o, e2, z⟩ := S.s.at_ i _ hρ
    obtain ⟨xs, rfl, r⟩ := z.inv_lst
    rw [M.all_bind] at q
    refine ha F W σ H _ S.s (q.mono fun p y v H1 W1 l1 S1 rv => ?_)
    refine ⟨.ref a, e1, ?_⟩
    rw [M.all_bind] at y
    refine hx F W1 σ H1 _ S1 (y.mono fun j y u H2 W2 l2 S2 ru => ?_)
    rw [M.all_bind] at y
    cases j with
    | int jj =>
      unfold pSet at y
      cases hn : ixN ps.length jj with
      | some n =>
        simp only [hn] at y
        refine ⟨a, xs, jj, n, rfl, ru.inv_int, S2.hs.f _ _ e2, by rw [r.length]; exact hn, ?_⟩
        exact hk _ F0 _ W2 σ _ D ((S.grow S2).change hρ e1 (.lst (RpL.set (rv.mono l2) n (r.mono (l1.trans l2))))) (M.All.mono (fun _ w => w.le (l1.trans l2)) y)
      | none =>
        simp only [hn] at y
        exact y.elim
    | _ => exact y.elim
/-! ### a, b = x, y by names alone; name += e -/
theorem ss_par (i j : Nat) {x y : Str} {px py pt : Pos} {kt k2 pt2} {k : PV → PV → M β} (hc : X.calm = true) (hN : X.N.Nodup) (ha : SE X ρ a ma) (hb : SE X ρ b mb) (hk : ∀ p q, SS X ((ρ.set i (.fr p)).set j (.fr q)) rest (k p q) R)
    (hij : i ≠ j := by decide) (hi : X.N[i]? = some x := by rfl) (hj : X.N[j]? = some y := by rfl) (hx : X.env.scope.names.lookup x = some .local := by rfl) (hy : X.env.scope.names.lookup y = some .local := by rfl)
    (hw : swappedStores [.Tuple [.Name x px, .Name y py] kt pt] (.Tuple [a, b] k2 pt2) X.env = pure (some [x, y]) := by rfl)
    (hs : swapsWithSole [.Tuple [.Name x px, .Name y py] kt pt] (.Tuple [a, b] k2 pt2) pos.line X.env = pure false := by rfl) (s1 : starEach [a, b] X.env = (false, eval a X.env) :: starEach [b] X.env := by rfl) (s2 : starEach [b] X.env = (false, eval b X.env) :: starEach [] X.env := by rfl) :
    SS X ρ (.Assign [.Tuple [.Name x px, .Name y py] kt pt] (.Tuple [a, b] k2 pt2) pos :: rest) (ma >>= fun p => mb >>= fun q => k p q) R := fun F0 F W σ H D S q =>
  wss_of (pss_cons (ps_par hc hN hi hj hij hx hy (pa_cons pe_we (pa_cons pe_we pa_nil s2) s1) hw hs) pss_wss) fun hl => by
    rw [M.all_bind] at q
    refine ha F W σ H _ S.s (q.mono fun p z v H1 W1 l1 S1 r1 => ?_)
    rw [M.all_bind] at z
    refine hb F W1 σ H1 _ S1 (z.mono fun p2 z u H2 W2 l2 S2 r2 => ⟨v, u, rfl, ?_⟩)
    have T1 := (S.grow S2).set (i := i) (by rw [hl]; exact lt_of_some hi) (r1.mono l2)
    exact hk p p2 F0 F W2 _ H2 D (T1.set (by rw [List.length_set, hl]; exact lt_of_some hj) r2) (z.mono fun _ w => w.le (l1.trans l2))
theorem ss_par3 (i j m : Nat) {x y z : Str} {px py pz pt : Pos} {kt k2 pt2} {k : PV → PV → PV → M β} (hc : X.calm = true) (hN : X.N.Nodup) (ha : SE X ρ a ma) (hb : SE X ρ b mb) (hc3 : SE X ρ c mc) (hk : ∀ p q r, SS X (((ρ.set i (.fr p)).set j (.fr q)).set m (.fr r)) rest (k p q r) R)
    (hij : i ≠ j := by decide) (him : i ≠ m := by decide) (hjm : j ≠ m := by decide) (hi : X.N[i]? = some x := by rfl) (hj : X.N[j]? = some y := by rfl) (hm : X.N[m]? = some z := by rfl) (hx : X.env.scope.names.lookup x = some .local := by rfl) (hy : X.env.scope.names.lookup y = some .local := by rfl) (hz : X.env.scope.names.lookup z = some .local := by rfl)
    (hw : swappedStores [.Tuple [.Name x px, .Name y py, .Name z pz] kt pt] (.Tuple [a, b, c] k2 pt2) X.env = pure (some [x, y, z]) := by rfl)
    (hs : swapsWithSole [.Tuple [.Name x px, .Name y py, .Name z pz] kt pt] (.Tuple [a, b, c] k2 pt2) pos.line X.env = pure false := by rfl) (s1 : starEach [a, b, c] X.env = (false, eval a X.env) :: starEach [b, c] X.env := by rfl) (s2 : starEach [b, c] X.env = (false, eval b X.env) :: starEach [c] X.env := by rfl) (s3 : starEach [c] X.env = (false, eval c X.env) :: starEach [] X.env := by rfl) :
    SS X ρ (.Assign [.Tuple [.Name x px, .Name y py, .Name z pz] kt pt] (.Tuple [a, b, c] k2 pt2) pos :: rest) (ma >>= fun p => mb >>= fun q => mc >>= fun r => k p q r) R := fun F0 F W σ H D S q =>
  wss_of (pss_cons (ps_par3 hc hN hi hj hm hij him hjm hx hy hz (pa_cons pe_we (pa_cons pe_we (pa_cons pe_we pa_nil s3) s2) s1) hw hs) pss_wss) fun hl => by
    rw [M.all_bind] at q
    refine ha F W σ H _ S.s (q.mono fun p z v H1 W1 l1 S1 r1 => ?_)
    rw [M.all_bind] at z
    refine hb F W1 σ H1 _ S1 (z.mono fun p2 z u H2 W2 l2 S2 r2 => ?_)
    rw [M.all_bind] at z
    refine hc3 F W2 σ H2 _ S2 (z.mono fun p3 z t H3 W3 l3 S3 r3 => ⟨v, u, t, rfl, ?_⟩)
    have T1 := (S.grow S3).set (i := i) (by rw [hl]; exact lt_of_some hi) (r1.mono (l2.trans l3))
    have T2 := T1.set (i := j) (by rw [List.length_set, hl]; exact lt_of_some hj) (r2.mono l3)
    exact hk p p2 p3 F0 F W3 _ H3 D (T2.set (by rw [List.length_set, List.length_set, hl]; exact lt_of_some hm) r3) (z.mono fun _ w => w.le (l1.trans (l2.trans l3)))
def pAddI : PV → PV → M PV
  | .int i, .int j => .ret (.int (i + j))
  | _, _ => .bad
theorem ss_aug (i : Nat) {x : Str} {pos' : Pos} {q0 : PV} {k : PV → M β} (hN : X.N.Nodup) (ha : SE X ρ e ma) (hk : ∀ p, SS X (ρ.set i (.fr p)) rest (k p) R) (hρ : ρ[i]? = some (.fr q0) := by rfl) (hi : X.N[i]? = some x := by rfl) (hx : Loc X.env.scope x := by first | exact .inl rfl | exact .inr rfl)
    (hf : X.fn x = true ∨ X.env.scope.names.lookup x = some .local := by first | exact .inl rfl | exact .inr rfl) :
    SS X ρ (.AugAssign (.Name x pos') .Add e pos :: rest) (ma >>= fun p => pAddI q0 p >>= fun p => k p) R := fun F0 F W σ H D S q =>
  wss_of (pss_cons (ps_aug hN hi hx pe_we ip_add hf) pss_wss) fun hl => by
    obtain ⟨v0, e0, r0⟩ := S.s.at_ i _ hρ
    refine ⟨v0, e0, ?_⟩
    rw [M.all_bind] at q
    refine ha F W σ H _ S.s (q.mono fun p z v H1 W1 l1 S1 r1 => ?_)
    rw [M.all_bind] at z
    unfold pAddI at z
    split at z
    · refine ⟨_, _, r0.inv_int, r1.inv_int, ?_⟩
      exact hk _ F0 F W1 _ H1 D ((S.grow S1).set (by rw [hl]; exact lt_of_some hi) (.int _)) (M.All.mono (fun _ w => w.le l1) z)
    · exact z.elim
end

/-! ### a def -/
def ap0 (m : M PV) : List PV → M PV
  | [] => m
  | _ => .bad
def ap1 (m : PV → M PV) : List PV → M PV
  | [a] => m a
  | _ => .bad
def ap2 (m : PV → PV → M PV) : List PV → M PV
  | [a, b] => m a b
  | _ => .bad
def ap3 (m : PV → PV → PV → M PV) : List PV → M PV
  | [a, b, c] => m a b c
  | _ => .bad
def ap4 (m : PV → PV → PV → PV → M PV) : List PV → M PV
  | [a, b, c, d] => m a b c d
  | _ => .bad
def ap5 (m : PV → PV → PV → PV → PV → M PV) : List PV → M PV
  | [a, b, c, d, e] => m a b c d e
  | _ => .bad
def ap6 (m : PV → PV → PV → PV → PV → PV → M PV) : List PV → M PV
  | [a, b, c, d, e, f] => m a b c d e f
  | _ => .bad
def envOf (ps : List PV) (n : Nat) : Env := ps.map Slot.fr ++ List.replicate n .no
section
variable {P : Program} {w : World} {K : PySem.W.Frag} {mg : Str → Option Value} {base : Heap}
theorem Hs.less {F F' : Hp} {W : Wd} {H : Hp} (h : Hs F' W H) (s : Sub F F') : Hs F W H :=
  ⟨h.g, s.trans h.f, fun a o e => s.none (h.d a o e), fun sd sc e => by
    obtain ⟨z, g1, g2, f1, f2⟩ := h.s sd sc e
    exact ⟨z, g1, g2, s.none f1, s.none f2⟩⟩
theorem start_sta {F : Hp} {W : Wd} {H : Hp} {N : List Str} {vs : List V} {as : List PV} {j : Nat} (hs : Hs F W H) (r : RpL W vs as) : Sta1 F F W (envOf as j) (start N vs) H := by
  have key : ∀ (i : Nat) (s : Slot), (envOf as j)[i]? = some s → s = .no ∨ ∃ p, as[i]? = some p ∧ s = .fr p := fun i s e => by
    unfold envOf at e
    by_cases hi : i < as.length
    · rw [List.getElem?_append_left (by rw [List.length_map]; exact hi), List.getElem?_map, List.getElem?_eq_getElem hi] at e
      exact .inr ⟨_, List.getElem?_eq_getElem hi, (Option.some.inj e).symm⟩
    · rw [List.getElem?_append_right (by rw [List.length_map]; omega)] at e
      rw [List.getElem?_replicate] at e
      split at e
      · exact .inl (Option.some.inj e).symm
      · cases e
  refine ⟨⟨hs, fun i s e => ?_⟩, Sub.refl _, fun i p a e => ?_, fun i j p q a _ e => ?_⟩
  · rcases key i s e with rfl | ⟨p, h, rfl⟩
    · trivial
    · obtain ⟨v, h1, h2⟩ := r.getP h
      refine ⟨v, ?_, h2⟩
      unfold L2.start
      rw [List.getElem?_append_left (by rw [List.length_map]; exact lt_of_some h1), List.getElem?_map, h1]
      rfl
  · rcases key i _ e with z | ⟨p, _, z⟩ <;> cases z
  · rcases key i _ e with z | ⟨p, _, z⟩ <;> cases z
theorem fn_M {x qual : Str} {st : Stmt} {f : Addr} {fd : FuncData} {N ps : List Str} {k n : Nat} {m : List PV → M PV} (F : Fun K x qual st f fd) (S : FnScope N ps (defScope st)) (hb : Binds K fd ps []) (hm : mg x = some (.ref f)) (hn : ps.length = n)
    (walk : ∀ (cdv : Value) (A : Around) (outer : List _root_.PySem.Env) (s : Shared) (H : Hp) (E : XK) (as : List PV), Room k (A.deeper (envOfC qual (defScope st) s.heap.objs.size f cdv)) → as.length = n →
      SS (cxOf CX0 P w K mg base N qual (defScope st) f cdv A outer s H E).nox (envOf as (N.length - n)) (defBody st) (m as) Outc.rn) : Dn P w K mg base x (k + 1) n m := by
  refine ⟨f, fd, ps, F.ok S (fun vs H Q E h => ?_) fun cdv A outer s H vs Q E hr h => ?_, hb, F.kp, hm⟩
  · obtain ⟨_, _, as, _, r, hl, _⟩ := h
    exact r.length.trans (hl.trans hn.symm)
  · obtain ⟨G, W, as, hs, r, hl, q⟩ := h
    refine ⟨_, pss_wss, walk cdv A outer s H E as hr hl G G W _ H _ (start_sta hs r) (q.mono fun p z => ⟨fun F' W' v H' l hs' sub rv => z v H' W' l (hs'.less sub) rv, fun e F' W' σ' H' l hs' sub => ?_⟩)⟩
    subst e
    exact z .non H' W' l (hs'.less sub) .non
end
end ML

/-! The M layer, part 8: enumerate and zip over lists and tuples. -/
namespace ML
open PySem PySem.Spec PyProof.Rows L2
/-! ### a list or a tuple: t: it is a tuple -/
def sqO (t : Bool) (xs : List V) : HO := match t with
  | true => .tup xs
  | false => .lst xs
def SeqH (t : Bool) (h : Heap) (a : Addr) (its : Array Value) : Prop := match t with
  | true => h.IsTuple a its
  | false => h.IsList a its
def IterH (t : Bool) (h : Heap) (it a : Addr) (i : Nat) : Prop := match t with
  | true => h.IsTupleIter it a i
  | false => h.IsListIter it a i
def iterO (t : Bool) (a : Addr) : Obj := match t with
  | true => { cls := .type "tuple_iterator", data := .fields #[.ref a, .int 0 0] }
  | false => { cls := .type "list_iterator", data := .fields #[.ref a, .int 0 0] }
theorem begins_sq (t : Bool) (a : Addr) (its : Array Value) : Begins (.ref a) (iterO t a) (fun h => SeqH t h a its) := match t with
  | true => begins_tuple a its
  | false => begins_list a its
theorem iterH_new (t : Bool) {h : Heap} {it a : Addr} (e : h.get? it = some (iterO t a)) : IterH t h it a 0 := match t, e with
  | true, e => ⟨_, e, rfl, rfl⟩
  | false, e => ⟨_, e, rfl, rfl⟩
theorem iterH_at {t : Bool} {h h' : Heap} {it a : Addr} {i : Nat} (x : IterH t h it a i) (k : ∀ o, h.get? it = some o → h'.get? it = some o) : IterH t h' it a i := match t, x with
  | true, x => Heap.IsTupleIter.at x fun o e => k o e
  | false, x => Heap.IsListIter.at x fun o e => k o e
theorem iterH_obj {t : Bool} {h : Heap} {it a : Addr} {i : Nat} (x : IterH t h it a i) : ∃ o, h.get? it = some o ∧ ∀ v, o.data ≠ .cell v := match t, x with
  | true, ⟨o, e, _, d⟩ => ⟨o, e, fun v z => by rw [d] at z; cases z⟩
  | false, ⟨o, e, _, d⟩ => ⟨o, e, fun v z => by rw [d] at z; cases z⟩
theorem draws_sq {prog : Program} {w : World} {A : Around} (t : Bool) (hh : A.handled = none) (it a : Addr) (hne : a ≠ it) (its : Array Value) :
    Draws prog w A it [it, a] its.size (fun i v => its[i]? = some v) (fun i h => IterH t h it a i ∧ SeqH t h a its) := match t with
  | true => Draws.tuple hh it a hne its
  | false => Draws.list hh it a hne its
section
variable {X : Cx} {pins : List (Addr × Obj)} {σ : L2.St} {H : Hp} {s : Shared}
theorem _root_.L2.Inv.sq (I : Inv X pins σ H s) {t : Bool} {a : Addr} {xs : List V} (h : H a = some (sqO t xs)) : ∃ its : List Value, Vals xs its ∧ SeqH t s.heap a its.toArray ∧ xs.length ≤ sizeLine := match t, h with
  | true, h => I.tuple (SqT.of h)
  | false, h => by
    obtain ⟨its, rv, pl, hz⟩ := I.list (SqL.of h)
    exact ⟨its, rv, pl.isList, hz⟩
theorem sq_lt {t : Bool} {h : Heap} {a : Addr} {its : Array Value} (x : SeqH t h a its) : a < h.objs.size := match t, x with
  | true, ⟨_, e, _⟩ => Heap.lt_size e
  | false, ⟨_, e, _⟩ => Heap.lt_size e
theorem sqO_inj {t : Bool} {xs ys : List V} (h : sqO t xs = sqO t ys) : xs = ys := by
  cases t <;> exact (by unfold sqO at h; injection h)
/-- a new tuple given out by an iterator -/
theorem given_new {T : Addr} {vs : List V} {us : List Value} {h' : Heap} {tk : Nat} {ch : List Addr} (I : Inv X pins σ H s) (hl : vs.length ≤ sizeLine) (rv : Vals vs us) (hT : s.heap.objs.size ≤ T) (ht : h'.IsTuple T us.toArray)
    (hf : ∀ b ∈ ch, FpOk X pins H b) (hk : ∀ b o, b ∉ ch → s.heap.get? b = some o → h'.get? b = some o) : Inv X pins σ (upd H T (.tup vs)) { s with heap := h', toks := tk } :=
  I.turnedNew hk hf hT (show ObjOk X.prog X.w _ _ _ (.tup vs) from ⟨hl, us, rv, ht⟩)
end
/-! ### enumerate -/
def Iten (t : Bool) (a : Addr) : It :=
  ⟨fun i H => ∃ (xs : List V) (x : V), H a = some (sqO t xs) ∧ xs[i]? = some x, fun i H v H' => ∃ T x, v = .ref T ∧ H T = none ∧ H' = upd H T (.tup [.int (i : Nat), x]) ∧ ∀ xs, H a = some (sqO t xs) → xs[i]? = some x, fun i H => ∃ xs : List V, H a = some (sqO t xs) ∧ xs.length = i⟩
theorem ne_fp {X : Cx} {pins : List (Addr × Obj)} {H : Hp} {a b : Addr} {o : HO} (h : H a = some o) (f : FpOk X pins H b) : a ≠ b := ne_of_none h f.1
theorem turn_en {P : Program} {w : World} {K : PySem.W.Frag} {elts : List Expr} {kk : Nat} {tpos : Pos} (t : Bool) (a e it : Addr) (hne : e ≠ it) :
    Turn P w K (.Tuple elts kk tpos) (Iten t a) [e, it] e (fun i h => (∃ old, IsEnum h e it (0 + (i : Int)) old) ∧ IterH t h it a i) where
  mem := by simp
  obj := fun i h st b hb => by
    obtain ⟨⟨old, he⟩, hi⟩ := st
    rcases (show b = e ∨ b = it by simpa using hb) with z | z
    · rw [z]; exact ⟨_, he, fun v q => nomatch q⟩
    · rw [z]; exact iterH_obj hi
  keep := fun i h h' st k => let ⟨⟨old, he⟩, hi⟩ := st; ⟨⟨old, k e (by simp) _ he⟩, iterH_at hi fun o q => k it (by simp) o q⟩
  item := by
    intro X hP hw hK hc i pins s σ H E I hf st hg
    subst hP hw hK
    obtain ⟨hen, hit⟩ := st
    obtain ⟨xs, x, hq, hx⟩ := hg
    obtain ⟨its, rv, sq, hz⟩ := I.sq hq
    obtain ⟨u, hu, ru⟩ := rv.get hx
    have nae : a ≠ e := ne_fp hq (hf e (by simp))
    have nai : a ≠ it := ne_fp hq (hf it (by simp))
    have G := GoesN.enumFrom (elts := elts) (x1 := kk) (pos := tpos) 0 (draws_sq (prog := X.prog) (w := X.w) (A := X.A.in1) t (I.ok.hd hc) it a nai its.toArray) e hne (by simp [hne, Ne.symm nae]) (by simp)
    have hlt : i < its.toArray.size := by rw [List.size_toArray]; exact lt_of_some hu
    refine wpAny_mono (G.goes i s (fun v s2 => ∃ x' H', Inv X pins σ H' s2 ∧ RelV x' v ∧ (Iten t a).yld i H x' H' ∧ ((∃ old, IsEnum s2.heap e it (0 + ((i + 1 : Nat) : Int)) old) ∧ IterH t s2.heap it a (i + 1)) ∧ ∀ b ∈ [e, it], H' b = none) E hlt ⟨hen, hit, sq⟩ ?_) (fun r s1 h => h) fun _ _ z => z
    rintro v h' tk ⟨T, tt, y, rfl, hT, hy, hTup⟩ ⟨hen', hit', _⟩ hk _
    have ey : y = u := by
      have hu' : its.toArray[i]? = some u := by simpa using hu
      rw [hy] at hu'; exact Option.some.inj hu'
    subst ey
    have I1 := given_new (tk := tk) (ch := [e, it]) (vs := [.int (0 + (i : Int)), x]) (us := [.int (0 + (i : Int)) tt, y]) I (by show 2 ≤ sizeLine; decide) (.cons ⟨tt, rfl⟩ (.cons ru .nil)) hT hTup hf hk
    rw [Int.zero_add] at I1
    refine ⟨.ref T, _, I1, rfl, ⟨T, x, rfl, I.hok.fresh hT, rfl, fun ys hys => ?_⟩, ⟨hen', hit'⟩, fun b hb => ?_⟩
    · rw [hq] at hys
      rw [← sqO_inj (Option.some.inj hys)]
      exact hx
    · have hlt : b < s.heap.objs.size := by
        rcases (show b = e ∨ b = it by simpa using hb) with z | z
        · rw [z]; obtain ⟨old, he⟩ := hen; exact Heap.lt_size he
        · rw [z]; obtain ⟨o, ho, _⟩ := iterH_obj hit; exact Heap.lt_size ho
      rw [upd_ne (Nat.ne_of_lt (Nat.lt_of_lt_of_le hlt hT))]
      exact (hf b hb).1
  done := by
    intro X hP hw hK hc i pins s σ H E I hf st hg
    subst hP hw hK
    obtain ⟨hen, hit⟩ := st
    obtain ⟨xs, hq, hx⟩ := hg
    obtain ⟨its, rv, sq, hz⟩ := I.sq hq
    have nae : a ≠ e := ne_fp hq (hf e (by simp))
    have nai : a ≠ it := ne_fp hq (hf it (by simp))
    have G := GoesN.enumFrom (elts := elts) (x1 := kk) (pos := tpos) 0 (draws_sq (prog := X.prog) (w := X.w) (A := X.A.in1) t (I.ok.hd hc) it a nai its.toArray) e hne (by simp [hne, Ne.symm nae]) (by simp)
    have ei : its.toArray.size = i := by rw [List.size_toArray, ← rv.length]; exact hx
    subst ei
    refine wpAny_mono (G.stops s (fun s1 => Inv X pins σ H s1) E ⟨hen, hit, sq⟩ fun h' tk hk _ => ?_) (fun r s1 h => h) fun _ _ z => z
    exact I.turnedL (ch := [e, it]) (fun b o hb q => hk b o hb q) hf
  self := fun A i s Q E st h => let ⟨⟨_, he⟩, _⟩ := st; wpAny_pyIter_enum he h
theorem meets_enum1 {v : Value} {o : Obj} {H : Heap → Prop} (B : Begins v o H) :
    Meets (Builtin.«enumerate.__new__» ⟨[.type "enumerate", v], []⟩) (fun _ R s => H s.heap ∧
      R (.ok (.ret (.ref (s.heap.push o).objs.size))) { s with heap := (s.heap.push o).push { cls := .type "enumerate", data := .fields #[.none, .bool false, .ref s.heap.objs.size, rawInt 0, .none, .none] } }) :=
  .of_wp fun prog w A R s h => by
    obtain ⟨hp, g, d, tk, os⟩ := s
    obtain ⟨h1, h⟩ := h
    have sub := sub_enumerate
    have hb : ∀ {A' : Around} {E : Value → Shared → Prop} {Q : Value → Shared → Prop}, Q (.ref hp.objs.size) ⟨hp.push o, g, d, tk, os⟩ → wpAny (model prog w) A' (pyIter v) Q E ⟨hp, g, d, tk, os⟩ := fun q => B.iter prog w _ _ _ _ h1 q
    wp_walk using hb
    refine wpAny_stack_any fun st => wpAny_pure ?_
    split
    · rename_i c _ _ _ _ _
      cases (c == Value.type "enumerate")
      all_goals (wp_walk using hb)
      all_goals exact ⟨_, rfl, h⟩
    · wp_walk using hb
      exact ⟨_, rfl, h⟩
theorem enum_begins1 {prog : Program} {w : World} {A : Around} {E : Value → Shared → Prop} {s : Shared} {v : Value} {o : Obj} {H : Heap → Prop} {Q : Value → Shared → Prop} (B : Begins v o H) (h1 : H s.heap)
    (h : ∀ h', IsEnum h' (s.heap.objs.size + 1) s.heap.objs.size 0 .none → h'.get? s.heap.objs.size = some o → (∀ b u, s.heap.get? b = some u → h'.get? b = some u) → Q (.ref (s.heap.objs.size + 1)) { s with heap := h' }) :
    wpAny (model prog w) A (call (.type "enumerate") [v]) Q E s := by
  refine callType_new F.called_enumerate (by decide) (F.typeCall_enumerate_1 _) (F.newCall_enumerate_1 _) (fun obj => F.args_object_init_2 obj _) F.entry_enumerate_new (meets_enum1 B) ⟨h1, ?_⟩
  have hz : (s.heap.push o).objs.size = s.heap.objs.size + 1 := Heap.size_push ..
  show _ ∧ _
  rw [hz]
  have he : IsEnum ((s.heap.push o).push { cls := .type "enumerate", data := .fields #[.none, .bool false, .ref s.heap.objs.size, rawInt 0, .none, .none] }) (s.heap.objs.size + 1) s.heap.objs.size 0 .none := by
    have q := Heap.get?_push_size (s.heap.push o) (o := { cls := .type "enumerate", data := .fields #[.none, .bool false, .ref s.heap.objs.size, rawInt 0, .none, .none] }) rfl
    rw [hz] at q; exact q
  exact ⟨⟨_, he, rfl⟩, h _ he (Heap.get?_push_of_some _ (Heap.get?_push_size _ B.free)) fun b u x => Heap.get?_push_of_some _ (Heap.get?_push_of_some _ x)⟩
def iEn (ta : TA) : TI := fun σ H R => ta σ H fun vs H1 => ∃ a t xs, vs = [.ref a] ∧ H1 a = some (sqO t xs) ∧ (xs.length ≤ sizeLine → R (Iten t a) H1)
theorem pi_en {X : Cx} {e : Expr} {ta : TA} {p pos tpos : Pos} {elts : List Expr} {kk : Nat} (hg : Gl X "enumerate") (hm : X.mg "enumerate" = none) (ha : PA X [e] ta) (hs : starEach [e] X.env = [(false, eval e X.env)] := by rfl) :
    PI X (.Tuple elts kk tpos) (.Call (.Name "enumerate" p) [e] [] pos) (iEn ta) := by
  refine ⟨fun pins s σ H R I h => ?_⟩
  refine Call_ (ld_blt I hg hm boot_enumerate (PyProof.Rows.callWith_type1 (thn (ha.run pos pins s σ H _ I h) fun us s1 ⟨vs, H1, I1, r1, q1⟩ => ?_) hs rfl))
  obtain ⟨a, t, xs, rfl, hq, q⟩ := q1
  rw [Vals.ref1 r1]
  obtain ⟨its, rv, sq, hz⟩ := I1.sq hq
  refine enum_begins1 (begins_sq t a its.toArray) sq fun h' he hi hk => wpAny_pyIter_enum he ?_
  refine ⟨s1.heap.objs.size + 1, [s1.heap.objs.size + 1, s1.heap.objs.size], _, _, H1, rfl, I1.kept (t' := s1.toks) hk, turn_en t a _ _ (Nat.succ_ne_self _), ⟨⟨.none, he⟩, iterH_new t hi⟩, fun b hb => ?_, q hz⟩
  have hle : s1.heap.objs.size ≤ b := by
    rcases (show b = s1.heap.objs.size + 1 ∨ b = s1.heap.objs.size by simpa using hb) with z | z
    · rw [z]; exact Nat.le_succ _
    · rw [z]; exact Nat.le_refl _
  exact I1.fpOk hle (I1.hok.fresh hle)
/-! ### zip -/
def Itzp (t t2 : Bool) (a b : Addr) : It :=
  ⟨fun i H => ∃ (xs ys : List V) (x y : V), H a = some (sqO t xs) ∧ H b = some (sqO t2 ys) ∧ xs[i]? = some x ∧ ys[i]? = some y,
    fun i H v H' => ∃ T x y, v = .ref T ∧ H T = none ∧ H' = upd H T (.tup [x, y]) ∧ (∀ xs, H a = some (sqO t xs) → xs[i]? = some x) ∧ ∀ ys, H b = some (sqO t2 ys) → ys[i]? = some y,
    fun i H => ∃ xs ys : List V, H a = some (sqO t xs) ∧ H b = some (sqO t2 ys) ∧ min xs.length ys.length = i⟩
structure ZApart (z TI TO i1 i2 : Addr) : Prop where
  a : TI ≠ z
  b : TO ≠ z
  c : TI ≠ TO
  d : TI ≠ i1
  e : TI ≠ i2
  f : TO ≠ i1
  g : TO ≠ i2
  h : z ≠ i1
  i : z ≠ i2
  j : i1 ≠ i2
theorem ZApart.sep {z TI TO i1 i2 a b : Addr} (D : ZApart z TI TO i1 i2) (ha : ∀ c ∈ [z, TI, TO, i1, i2], a ≠ c) (hb : ∀ c ∈ [z, TI, TO, i1, i2], b ≠ c) : ZipSep2 z TI TO i1 i2 [i1, a] [i2, b] :=
  { TIz := D.a, TOz := D.b, TITO := D.c, TIi1 := D.d, mem1 := by simp, zf1 := by simp [D.h, Ne.symm (ha z (by simp))], Tf1 := by simp [D.f, Ne.symm (ha TO (by simp))], TIi2 := D.e, mem2 := by simp, zf2 := by simp [D.i, Ne.symm (hb z (by simp))], Tf2 := by simp [D.g, Ne.symm (hb TO (by simp))],
    sep1_2 := by simp [D.j, Ne.symm (hb i1 (by simp))], sep2_1 := by simp [Ne.symm D.j, Ne.symm (ha i2 (by simp))] }
theorem mem45 {c z TI TO i1 i2 : Addr} (h : c ∈ [z, TO, i1, i2]) : c ∈ [z, TI, TO, i1, i2] := by
  simp only [List.mem_cons, List.not_mem_nil, or_false] at h ⊢
  rcases h with h | h | h | h <;> simp [h]
theorem turn_zp {P : Program} {w : World} {K : PySem.W.Frag} {elts : List Expr} {kk : Nat} {tpos : Pos} (t t2 : Bool) (a b z TI TO i1 i2 : Addr) (D : ZApart z TI TO i1 i2) :
    Turn P w K (.Tuple elts kk tpos) (Itzp t t2 a b) [z, TI, TO, i1, i2] z (fun i h => IsZip h z TI TO .none ∧ IsTupOf2 h TI (.ref i1) (.ref i2) ∧ (∃ x y, IsTupOf2 h TO x y) ∧ IterH t h i1 a i ∧ IterH t2 h i2 b i) where
  mem := by simp
  obj := fun i h st c hc => by
    obtain ⟨hz, hTI, ⟨x, y, hTO⟩, h1, h2⟩ := st
    rcases (show c = z ∨ c = TI ∨ c = TO ∨ c = i1 ∨ c = i2 by simpa using hc) with q | q | q | q | q
    · rw [q]; exact ⟨_, hz, fun v q => nomatch q⟩
    · rw [q]; exact ⟨_, hTI, fun v q => nomatch q⟩
    · rw [q]; exact ⟨_, hTO, fun v q => nomatch q⟩
    · rw [q]; exact iterH_obj h1
    · rw [q]; exact iterH_obj h2
  keep := fun i h h' st k => by
    obtain ⟨hz, hTI, ⟨x, y, hTO⟩, h1, h2⟩ := st
    exact ⟨k z (by simp) _ hz, k TI (by simp) _ hTI, ⟨x, y, k TO (by simp) _ hTO⟩, iterH_at h1 fun o q => k i1 (by simp) o q, iterH_at h2 fun o q => k i2 (by simp) o q⟩
  item := by
    intro X hP hw hK hc i pins s σ H E I hf st hg
    subst hP hw hK
    obtain ⟨hz, hTI, hTO, h1, h2⟩ := st
    obtain ⟨xs, ys, x, y, hqx, hqy, hx, hy⟩ := hg
    obtain ⟨its, rv, sq, _⟩ := I.sq hqx
    obtain ⟨its2, rv2, sq2, _⟩ := I.sq hqy
    obtain ⟨u, hu, ru⟩ := rv.get hx
    obtain ⟨u2, hu2, ru2⟩ := rv2.get hy
    have na : ∀ c ∈ [z, TI, TO, i1, i2], a ≠ c := fun c hc => ne_fp hqx (hf c hc)
    have nb : ∀ c ∈ [z, TI, TO, i1, i2], b ≠ c := fun c hc => ne_fp hqy (hf c hc)
    have G := GoesN.zip2 (elts := elts) (x1 := kk) (pos := tpos) (D.sep na nb) (draws_sq (prog := X.prog) (w := X.w) (A := X.A.in1) t (I.ok.hd hc) i1 a (na i1 (by simp)) its.toArray) (draws_sq (prog := X.prog) (w := X.w) (A := X.A.in1) t2 (I.ok.hd hc) i2 b (nb i2 (by simp)) its2.toArray)
    have hlt : i < min its.toArray.size its2.toArray.size := by
      rw [List.size_toArray, List.size_toArray]
      exact Nat.lt_min.mpr ⟨lt_of_some hu, lt_of_some hu2⟩
    refine wpAny_mono (G.goes i s (fun v s2 => ∃ x' H', Inv X pins σ H' s2 ∧ RelV x' v ∧ (Itzp t t2 a b).yld i H x' H' ∧ (IsZip s2.heap z TI TO .none ∧ IsTupOf2 s2.heap TI (.ref i1) (.ref i2) ∧ (∃ x y, IsTupOf2 s2.heap TO x y) ∧ IterH t s2.heap i1 a (i + 1) ∧ IterH t2 s2.heap i2 b (i + 1)) ∧ ∀ c ∈ [z, TI, TO, i1, i2], H' c = none) E hlt ⟨hz, hTI, hTO, ⟨h1, sq⟩, ⟨h2, sq2⟩⟩ ?_) (fun r s1 h => h) fun _ _ z => z
    rintro v h' tk ⟨T, w1, w2, rfl, hT, hw1, hw2, hTup⟩ ⟨hz', hTI', hTO', ⟨h1', _⟩, ⟨h2', _⟩⟩ hk _
    have e1 : w1 = u := by
      have hu' : its.toArray[i]? = some u := by simpa using hu
      rw [hw1] at hu'; exact Option.some.inj hu'
    have e2 : w2 = u2 := by
      have hu' : its2.toArray[i]? = some u2 := by simpa using hu2
      rw [hw2] at hu'; exact Option.some.inj hu'
    subst e1 e2
    have I1 := given_new (tk := tk) (ch := [z, TI, TO, i1, i2]) (vs := [x, y]) (us := [w1, w2]) I (by show 2 ≤ sizeLine; decide) (.cons ru (.cons ru2 .nil)) hT hTup hf (fun c o hc q => hk c o (fun z => hc (mem45 z)) q)
    refine ⟨.ref T, _, I1, rfl, ⟨T, x, y, rfl, I.hok.fresh hT, rfl, fun l hl => ?_, fun l hl => ?_⟩, ⟨hz', hTI', hTO', h1', h2'⟩, fun c hcm => ?_⟩
    · rw [hqx] at hl
      rw [← sqO_inj (Option.some.inj hl)]; exact hx
    · rw [hqy] at hl
      rw [← sqO_inj (Option.some.inj hl)]; exact hy
    · have hlt : c < s.heap.objs.size := by
        rcases (show c = z ∨ c = TI ∨ c = TO ∨ c = i1 ∨ c = i2 by simpa using hcm) with q | q | q | q | q
        · rw [q]; exact Heap.lt_size hz
        · rw [q]; exact Heap.lt_size hTI
        · rw [q]; obtain ⟨_, _, hTO⟩ := hTO; exact Heap.lt_size hTO
        · rw [q]; obtain ⟨o, ho, _⟩ := iterH_obj h1; exact Heap.lt_size ho
        · rw [q]; obtain ⟨o, ho, _⟩ := iterH_obj h2; exact Heap.lt_size ho
      rw [upd_ne (Nat.ne_of_lt (Nat.lt_of_lt_of_le hlt hT))]
      exact (hf c hcm).1
  done := by
    intro X hP hw hK hc i pins s σ H E I hf st hg
    subst hP hw hK
    obtain ⟨hz, hTI, hTO, h1, h2⟩ := st
    obtain ⟨xs, ys, hqx, hqy, hend⟩ := hg
    obtain ⟨its, rv, sq, _⟩ := I.sq hqx
    obtain ⟨its2, rv2, sq2, _⟩ := I.sq hqy
    have na : ∀ c ∈ [z, TI, TO, i1, i2], a ≠ c := fun c hc => ne_fp hqx (hf c hc)
    have nb : ∀ c ∈ [z, TI, TO, i1, i2], b ≠ c := fun c hc => ne_fp hqy (hf c hc)
    have G := GoesN.zip2 (elts := elts) (x1 := kk) (pos := tpos) (D.sep na nb) (draws_sq (prog := X.prog) (w := X.w) (A := X.A.in1) t (I.ok.hd hc) i1 a (na i1 (by simp)) its.toArray) (draws_sq (prog := X.prog) (w := X.w) (A := X.A.in1) t2 (I.ok.hd hc) i2 b (nb i2 (by simp)) its2.toArray)
    have ei : min its.toArray.size its2.toArray.size = i := by rw [List.size_toArray, List.size_toArray, ← rv.length, ← rv2.length]; exact hend
    subst ei
    refine wpAny_mono (G.stops s (fun s1 => Inv X pins σ H s1) E ⟨hz, hTI, hTO, ⟨h1, sq⟩, ⟨h2, sq2⟩⟩ fun h' tk hk _ => ?_) (fun r s1 h => h) fun _ _ z => z
    exact I.turnedL (ch := [z, TI, TO, i1, i2]) (fun c o hc q => hk c o (fun z => hc (mem45 z)) q) hf
  self := fun A i s Q E st h => wpAny_pyIter_zip st.1 h
def iZp (ta : TA) : TI := fun σ H R => ta σ H fun vs H1 => ∃ a b t t2 xs ys, vs = [.ref a, .ref b] ∧ H1 a = some (sqO t xs) ∧ H1 b = some (sqO t2 ys) ∧ (xs.length ≤ sizeLine → R (Itzp t t2 a b) H1)
theorem pi_zp {X : Cx} {e e2 : Expr} {ta : TA} {p pos tpos : Pos} {elts : List Expr} {kk : Nat} (hg : Gl X "zip") (hm : X.mg "zip" = none) (ha : PA X [e, e2] ta)
    (hs : starEach [e, e2] X.env = (false, eval e X.env) :: starEach [e2] X.env := by rfl) (hpl : (backTo pos (starEach [e2] X.env)).any (·.1) = false := by rfl) :
    PI X (.Tuple elts kk tpos) (.Call (.Name "zip" p) [e, e2] [] pos) (iZp ta) := by
  refine ⟨fun pins s σ H R I h => ?_⟩
  refine Call_ (ld_blt I hg hm PyProof.Rows.boot_zip (PyProof.Rows.callWith_type1 (thn (ha.run pos pins s σ H _ I h) fun us s1 ⟨vs, H1, I1, r1, q1⟩ => ?_) hs hpl))
  obtain ⟨a, b, t, t2, xs, ys, rfl, hqx, hqy, q⟩ := q1
  obtain ⟨u1, u2, rfl, ra, rb⟩ := Vals.two r1
  cases ra
  cases rb
  obtain ⟨its, rv, sq, hz⟩ := I1.sq hqx
  obtain ⟨its2, rv2, sq2, _⟩ := I1.sq hqy
  refine zip_begins2 (begins_sq t a its.toArray) (begins_sq t2 b its2.toArray) sq sq2 fun h' z1 z2 z3 e1 e2 _ hk => wpAny_pyIter_zip z1 ?_
  have ap : ZApart (s1.heap.objs.size + 4) (s1.heap.objs.size + 2) (s1.heap.objs.size + 3) s1.heap.objs.size (s1.heap.objs.size + 1) := by
    exact ⟨show (s1.heap.objs.size + 2 : Nat) ≠ s1.heap.objs.size + 4 by omega, show (s1.heap.objs.size + 3 : Nat) ≠ s1.heap.objs.size + 4 by omega, show (s1.heap.objs.size + 2 : Nat) ≠ s1.heap.objs.size + 3 by omega, show (s1.heap.objs.size + 2 : Nat) ≠ s1.heap.objs.size by omega, show (s1.heap.objs.size + 2 : Nat) ≠ s1.heap.objs.size + 1 by omega, show (s1.heap.objs.size + 3 : Nat) ≠ s1.heap.objs.size by omega, show (s1.heap.objs.size + 3 : Nat) ≠ s1.heap.objs.size + 1 by omega, show (s1.heap.objs.size + 4 : Nat) ≠ s1.heap.objs.size by omega, show (s1.heap.objs.size + 4 : Nat) ≠ s1.heap.objs.size + 1 by omega, show (s1.heap.objs.size : Nat) ≠ s1.heap.objs.size + 1 by omega⟩
  refine ⟨s1.heap.objs.size + 4, [s1.heap.objs.size + 4, s1.heap.objs.size + 2, s1.heap.objs.size + 3, s1.heap.objs.size, s1.heap.objs.size + 1], _, _, H1, rfl, I1.kept (t' := s1.toks) hk, turn_zp t t2 a b _ _ _ _ _ ap, ⟨z1, z2, ⟨_, _, z3⟩, iterH_new t e1, iterH_new t2 e2⟩, fun c hc => ?_, q hz⟩
  have hle : s1.heap.objs.size ≤ c := by
    rcases (show c = s1.heap.objs.size + 4 ∨ c = s1.heap.objs.size + 2 ∨ c = s1.heap.objs.size + 3 ∨ c = s1.heap.objs.size ∨ c = s1.heap.objs.size + 1 by simpa using hc) with w | w | w | w | w
    all_goals rw [w]
    all_goals first | exact Nat.le_refl _ | exact Nat.le_add_right _ _
  exact I1.fpOk hle (I1.hok.fresh hle)
section
variable {X : Cx} {ρ : Env} {a b e : Expr} {pos p : Pos} {ma mb : M PV} {elts : List Expr} {kk : Nat} {tpos : Pos}
/-- pairs (number, item) -/
def enumP (xs : List PV) : List PV := xs.zipIdx.map fun z => .tup [.int (z.2 : Nat), z.1]
def zipP (xs ys : List PV) : List PV := (xs.zip ys).map fun z => .tup [z.1, z.2]
theorem Rb.sq {F : Hp} {W : Wd} {H : Hp} {v : V} {p : PV} {Q : List PV → Prop} (r : Rb F W v p) (S : Hs F W H) (h : (pSeq p).All Q) : ∃ a t xs ps, v = .ref a ∧ H a = some (sqO t xs) ∧ (W.G a = some (sqO t xs) ∨ F a = some (sqO t xs)) ∧ RpL W xs ps ∧ Q ps := by
  rcases pSeq_case h with ⟨ps, rfl, k⟩ | ⟨ps, rfl, k⟩
  · rcases r with r | ⟨a, e, o, f, z⟩
    · obtain ⟨a, xs, e, g, r⟩ := r.inv_lst
      exact ⟨a, false, xs, ps, e, S.g _ _ g, .inl g, r, k⟩
    · obtain ⟨xs, rfl, r⟩ := z.inv_lst
      exact ⟨a, false, xs, ps, e, S.f _ _ f, .inr f, r, k⟩
  · obtain ⟨a, xs, e, g, g', r⟩ := r.tup S
    exact ⟨a, true, xs, ps, e, g', .inl g, r, k⟩
theorem itOk_en {F : Hp} {W : Wd} {t : Bool} {a : Addr} {xs : List V} {ps : List PV} (h : W.G a = some (sqO t xs) ∨ F a = some (sqO t xs)) (r : RpL W xs ps) : ItOk F W (Iten t a) (enumP ps) := by
  have hl : (enumP ps).length = xs.length := by unfold enumP; rw [List.length_map, List.length_zipIdx, r.length]
  have at_ : ∀ {H : Hp}, Sub W.G H ∧ Sub F H → H a = some (sqO t xs) := fun q => h.elim (q.1 _ _) (q.2 _ _)
  refine ⟨fun i H v H' => ∃ T x, v = .ref T ∧ H T = none ∧ H' = upd H T (.tup [.int (i : Nat), x]) ∧ xs[i]? = some x, ⟨fun i H hi q => ⟨xs, xs[i]'(by omega), at_ q, List.getElem?_eq_getElem _⟩, fun H q => ⟨xs, at_ q, hl.symm⟩, fun i H x H' hi q y => ?_⟩, fun i H x H' p hp y W1 F1 l s hs => ?_⟩
  · obtain ⟨T, x', e1, e2, e3, e4⟩ := y
    exact ⟨T, x', e1, e2, e3, e4 xs (at_ q)⟩
  · obtain ⟨T, x', rfl, hT, rfl, hx⟩ := y
    obtain ⟨px, h1, h2⟩ := r.get hx
    have ep : p = .tup [.int (i : Nat), px] := by
      unfold enumP at hp
      rw [List.getElem?_map, List.getElem?_zipIdx, h1] at hp
      simp at hp
      exact hp.symm
    subst ep
    have l2 : W1.le (W1.add T (.tup [.int (i : Nat), x'])) := Wd.add_le (hs.g.none hT)
    exact ⟨_, l2, hs.new hT, .tup (show upd W1.G T _ T = some (.tup [.int (i : Nat), x']) from upd_same) (.cons (.int _) (.one (h2.mono (l.trans l2))))⟩
theorem itOk_zp {F : Hp} {W : Wd} {t t2 : Bool} {a b : Addr} {xs ys : List V} {ps qs : List PV} (h : W.G a = some (sqO t xs) ∨ F a = some (sqO t xs)) (h2 : W.G b = some (sqO t2 ys) ∨ F b = some (sqO t2 ys)) (r : RpL W xs ps) (r2 : RpL W ys qs) : ItOk F W (Itzp t t2 a b) (zipP ps qs) := by
  have hl : (zipP ps qs).length = min xs.length ys.length := by unfold zipP; rw [List.length_map, List.length_zip, r.length, r2.length]
  have at1 : ∀ {H : Hp}, Sub W.G H ∧ Sub F H → H a = some (sqO t xs) := fun q => h.elim (q.1 _ _) (q.2 _ _)
  have at2 : ∀ {H : Hp}, Sub W.G H ∧ Sub F H → H b = some (sqO t2 ys) := fun q => h2.elim (q.1 _ _) (q.2 _ _)
  refine ⟨fun i H v H' => ∃ T x y, v = .ref T ∧ H T = none ∧ H' = upd H T (.tup [x, y]) ∧ xs[i]? = some x ∧ ys[i]? = some y, ⟨fun i H hi q => ⟨xs, ys, xs[i]'(by omega), ys[i]'(by omega), at1 q, at2 q, List.getElem?_eq_getElem _, List.getElem?_eq_getElem _⟩, fun H q => ⟨xs, ys, at1 q, at2 q, hl.symm⟩, fun i H x H' hi q y => ?_⟩, fun i H x H' p hp y W1 F1 l s hs => ?_⟩
  · obtain ⟨T, x', y', e1, e2, e3, e4, e5⟩ := y
    exact ⟨T, x', y', e1, e2, e3, e4 xs (at1 q), e5 ys (at2 q)⟩
  · obtain ⟨T, x', y', rfl, hT, rfl, hx, hy⟩ := y
    obtain ⟨px, h1, h2⟩ := r.get hx
    obtain ⟨py, h3, h4⟩ := r2.get hy
    have ep : p = .tup [px, py] := by
      unfold zipP at hp
      have hz : (ps.zip qs)[i]? = some (px, py) := List.getElem?_zip_eq_some.mpr ⟨h1, h3⟩
      rw [List.getElem?_map, hz] at hp
      simp at hp
      exact hp.symm
    subst ep
    have l2 : W1.le (W1.add T (.tup [x', y'])) := Wd.add_le (hs.g.none hT)
    exact ⟨_, l2, hs.new hT, .tup (show upd W1.G T _ T = some (.tup [x', y']) from upd_same) (.cons (h2.mono (l.trans l2)) (.one (h4.mono (l.trans l2))))⟩
theorem enum_len {xs : List PV} : (enumP xs).length = xs.length := by unfold enumP; rw [List.length_map, List.length_zipIdx]
theorem si_enumB (hg : Gl X "enumerate") (hm : X.mg "enumerate" = none) (ha : SB X ρ a ma) (na : starEach [a] X.env = (false, eval a X.env) :: starEach [] X.env := by rfl) (hs : starEach [a] X.env = [(false, eval a X.env)] := by rfl) :
    SI X ρ (.Tuple elts kk tpos) (.Call (.Name "enumerate" p) [a] [] pos) true (ma >>= fun p => pSeq p >>= fun xs => .ret (enumP xs)) := fun F W σ H R S q =>
  (pi_en hg hm (pa_cons pe_we pa_nil na) hs).wi (by
    rw [M.all_bind] at q
    refine ha F W σ H _ S (q.mono fun p k v H' W' l S' r => ?_)
    rw [M.all_bind] at k
    obtain ⟨a, t, xs, ps, rfl, e, ge, rl, k⟩ := r.sq S'.hs k
    exact ⟨a, t, xs, rfl, e, fun hz => (M.all_ret _).mp k _ H' W' l S' (itOk_en ge rl) (by rw [enum_len, ← rl.length]; exact hz)⟩)
theorem si_enum (hg : Gl X "enumerate") (hm : X.mg "enumerate" = none) (ha : SE X ρ a ma) (na : starEach [a] X.env = (false, eval a X.env) :: starEach [] X.env := by rfl) (hs : starEach [a] X.env = [(false, eval a X.env)] := by rfl) :
    SI X ρ (.Tuple elts kk tpos) (.Call (.Name "enumerate" p) [a] [] pos) false (ma >>= fun p => pSeq p >>= fun xs => .ret (enumP xs)) := fun F W σ H R S q =>
  (pi_en hg hm (pa_cons pe_we pa_nil na) hs).wi (by
    rw [M.all_bind] at q
    refine ha F W σ H _ S (q.mono fun p k v H' W' l S' r => ?_)
    rw [M.all_bind] at k
    obtain ⟨a, t, xs, ps, rfl, e, ge, rl, k⟩ := Rb.sq (F := noH) (.inl r) (S'.hs.less (noH_sub F)) k
    exact ⟨a, t, xs, rfl, e, fun hz => (M.all_ret _).mp k _ H' W' l S' (itOk_en ge rl) (by rw [enum_len, ← rl.length]; exact hz)⟩)
theorem zip_len {xs ys : List PV} : (zipP xs ys).length ≤ xs.length := by unfold zipP; rw [List.length_map, List.length_zip]; omega
theorem si_zipB (hg : Gl X "zip") (hm : X.mg "zip" = none) (ha : SB X ρ a ma) (hb : SB X ρ b mb) (na : starEach [a, b] X.env = (false, eval a X.env) :: starEach [b] X.env := by rfl) (nb : starEach [b] X.env = (false, eval b X.env) :: starEach [] X.env := by rfl) (hpl : (backTo pos (starEach [b] X.env)).any (·.1) = false := by rfl) :
    SI X ρ (.Tuple elts kk tpos) (.Call (.Name "zip" p) [a, b] [] pos) true (ma >>= fun p => mb >>= fun q => pSeq p >>= fun xs => pSeq q >>= fun ys => .ret (zipP xs ys)) := fun F W σ H R S q =>
  (pi_zp hg hm (pa_cons pe_we (pa_cons pe_we pa_nil nb) na) na hpl).wi (by
    rw [M.all_bind] at q
    refine ha F W σ H _ S (q.mono fun p k v H1 W1 l1 S1 r1 => ?_)
    rw [M.all_bind] at k
    refine hb F W1 σ H1 _ S1 (k.mono fun p2 k u H2 W2 l2 S2 r2 => ?_)
    rw [M.all_bind] at k
    obtain ⟨a, t, xs, ps, rfl, e, ge, rl, k⟩ := (r1.mono l2).sq S2.hs k
    rw [M.all_bind] at k
    obtain ⟨b, t2, ys, qs, rfl, e2, ge2, rl2, k⟩ := r2.sq S2.hs k
    exact ⟨a, b, t, t2, xs, ys, rfl, e, e2, fun hz => (M.all_ret _).mp k _ H2 W2 (l1.trans l2) S2 (itOk_zp ge ge2 rl rl2) (Nat.le_trans zip_len (by rw [← rl.length]; exact hz))⟩)
theorem si_zip (hg : Gl X "zip") (hm : X.mg "zip" = none) (ha : SE X ρ a ma) (hb : SE X ρ b mb) (na : starEach [a, b] X.env = (false, eval a X.env) :: starEach [b] X.env := by rfl) (nb : starEach [b] X.env = (false, eval b X.env) :: starEach [] X.env := by rfl) (hpl : (backTo pos (starEach [b] X.env)).any (·.1) = false := by rfl) :
    SI X ρ (.Tuple elts kk tpos) (.Call (.Name "zip" p) [a, b] [] pos) false (ma >>= fun p => mb >>= fun q => pSeq p >>= fun xs => pSeq q >>= fun ys => .ret (zipP xs ys)) := fun F W σ H R S q =>
  (pi_zp hg hm (pa_cons pe_we (pa_cons pe_we pa_nil nb) na) na hpl).wi (by
    rw [M.all_bind] at q
    refine ha F W σ H _ S (q.mono fun p k v H1 W1 l1 S1 r1 => ?_)
    rw [M.all_bind] at k
    refine hb F W1 σ H1 _ S1 (k.mono fun p2 k u H2 W2 l2 S2 r2 => ?_)
    rw [M.all_bind] at k
    obtain ⟨a, t, xs, ps, rfl, e, ge, rl, k⟩ := Rb.sq (F := noH) (.inl (r1.mono l2)) (S2.hs.less (noH_sub F)) k
    rw [M.all_bind] at k
    obtain ⟨b, t2, ys, qs, rfl, e2, ge2, rl2, k⟩ := Rb.sq (F := noH) (.inl r2) (S2.hs.less (noH_sub F)) k
    exact ⟨a, b, t, t2, xs, ys, rfl, e, e2, fun hz => (M.all_ret _).mp k _ H2 W2 (l1.trans l2) S2 (itOk_zp ge ge2 rl rl2) (Nat.le_trans zip_len (by rw [← rl.length]; exact hz))⟩)
end
end ML

/-! The M layer, part 9: the source of drawn numbers. -/
namespace ML
open PySem PySem.Spec PyProof.Rows L2
/-! ### the source of drawn numbers -/
def CDivL (i j : Int) : Prop := 0 < j ∧ j.natAbs.log2 < 9000
theorem op_fdivL {X : Cx} : OpR X (binaryOp .FloorDiv) (rI CDivL fun i j => .int (i / j)) := opI fun i j _ _ _ _ _ hc q => by
  have h1 : (0 : Int) < j := hc.1
  exact floordiv_int (by omega) (by rw [Int.fdiv_eq_ediv_of_nonneg i (by omega)]; exact q) (.inl (PyProof.noPylong_of_log2 hc.2))
def srcK (sc : Addr) (l m t : Int) : List (Key × V) := [(.inr "cells", .ref sc), (.inr "left", .int l), (.inr "mixed", .int m), (.inr "turn", .int t)]
structure SrcIs (H : Hp) (sd sc : Addr) (cs : List Int) (l m t : Int) : Prop where
  ne : sd ≠ sc
  d : H sd = some (.dK (srcK sc l m t))
  c : H sc = some (.lst (cs.map V.int))
  m0 : 0 ≤ m
  m1 : m < 2 ^ 31
theorem SrcIs.of {H : Hp} {sd sc : Addr} (h : SrcAt H sd sc) : ∃ cs l m t, SrcIs H sd sc cs l m t := by
  obtain ⟨n, cs, l, m, t, e1, e2, h1, h2⟩ := h
  exact ⟨cs, l, m, t, n, e1, e2, h1, h2⟩
theorem SrcIs.at {H : Hp} {sd sc : Addr} {cs : List Int} {l m t : Int} (h : SrcIs H sd sc cs l m t) : SrcAt H sd sc := ⟨h.ne, cs, l, m, t, h.d, h.c, h.m0, h.m1⟩
theorem SrcIs.put {H : Hp} {sd sc : Addr} {cs : List Int} {l m t l' m' t' : Int} (h : SrcIs H sd sc cs l m t) (m0 : 0 ≤ m') (m1 : m' < 2 ^ 31) : SrcIs (upd H sd (.dK (srcK sc l' m' t'))) sd sc cs l' m' t' :=
  ⟨h.ne, upd_same, by rw [upd_ne (Ne.symm h.ne)]; exact h.c, m0, m1⟩
theorem SrcIs.pop {H : Hp} {sd sc : Addr} {cs : List Int} {l m t : Int} (h : SrcIs H sd sc cs l m t) : SrcIs (upd H sc (.lst (cs.map V.int).dropLast)) sd sc cs.dropLast l m t :=
  ⟨h.ne, by rw [upd_ne h.ne]; exact h.d, by rw [upd_same, List.map_dropLast], h.m0, h.m1⟩
section
variable {H : Hp} {sd sc : Addr} {cs : List Int} {l m t : Int}
theorem SrcIs.cells (h : SrcIs H sd sc cs l m t) : DGet H sd (.str "cells") (some (.ref sc)) := .inl ⟨_, .inr "cells", .inl h.d, rfl, by rfl⟩
theorem SrcIs.left (h : SrcIs H sd sc cs l m t) : DGet H sd (.str "left") (some (.int l)) := .inl ⟨_, .inr "left", .inl h.d, rfl, by rfl⟩
theorem SrcIs.mixed (h : SrcIs H sd sc cs l m t) : DGet H sd (.str "mixed") (some (.int m)) := .inl ⟨_, .inr "mixed", .inl h.d, rfl, by rfl⟩
theorem SrcIs.turn (h : SrcIs H sd sc cs l m t) : DGet H sd (.str "turn") (some (.int t)) := .inl ⟨_, .inr "turn", .inl h.d, rfl, by rfl⟩
theorem SrcIs.putLeft (h : SrcIs H sd sc cs l m t) (i : Int) : DPut H sd (.str "left") (.int i) (upd H sd (.dK (srcK sc i m t))) := .inl ⟨_, .inr "left", h.d, rfl, (by show 4 < sizeLine; decide), by rfl⟩
theorem SrcIs.putMixed (h : SrcIs H sd sc cs l m t) (i : Int) : DPut H sd (.str "mixed") (.int i) (upd H sd (.dK (srcK sc l i t))) := .inl ⟨_, .inr "mixed", h.d, rfl, (by show 4 < sizeLine; decide), by rfl⟩
theorem SrcIs.putTurn (h : SrcIs H sd sc cs l m t) (i : Int) : DPut H sd (.str "turn") (.int i) (upd H sd (.dK (srcK sc l m i))) := .inl ⟨_, .inr "turn", h.d, rfl, (by show 4 < sizeLine; decide), by rfl⟩
end
/-- what else stands in the heap stays -/
def But (H H' : Hp) (sd sc : Addr) : Prop := ∀ b, b ≠ sd → b ≠ sc → H' b = H b
theorem But.refl (H : Hp) (sd sc : Addr) : But H H sd sc := fun _ _ _ => rfl
theorem But.d {H H' : Hp} {sd sc : Addr} {o : HO} (h : But H H' sd sc) : But H (upd H' sd o) sd sc := fun b n1 n2 => by rw [upd_ne n1]; exact h b n1 n2
theorem But.c {H H' : Hp} {sd sc : Addr} {o : HO} (h : But H H' sd sc) : But H (upd H' sc o) sd sc := fun b n1 n2 => by rw [upd_ne n2]; exact h b n1 n2
theorem Hs.but {F : Hp} {W : Wd} {H H' : Hp} {sd sc : Addr} (h : Hs F W H) (e : W.S = some (sd, sc)) (k : But H H' sd sc) (s : SrcAt H' sd sc) : Hs F W H' := by
  obtain ⟨_, g1, g2, f1, f2⟩ := h.s sd sc e
  have nn : ∀ {G : Hp} {b : Addr} {u : HO}, G sd = none → G sc = none → G b = some u → b ≠ sd ∧ b ≠ sc := fun e1 e2 q => ⟨fun z => (by rw [z, e1] at q; cases q), fun z => (by rw [z, e2] at q; cases q)⟩
  refine ⟨fun b u q => ?_, fun b u q => ?_, h.d, fun sd' sc' q => ?_⟩
  · obtain ⟨n1, n2⟩ := nn g1 g2 q
    rw [k b n1 n2]; exact h.g b u q
  · obtain ⟨n1, n2⟩ := nn f1 f2 q
    rw [k b n1 n2]; exact h.f b u q
  · rw [e] at q; cases q
    exact ⟨s, g1, g2, f1, f2⟩
def m_pick : PV → PV → M PV
  | .src, .int n => if n < 2 then .ret (.int 0) else if n < 2 ^ 250 then .pick n.toNat fun r => .ret (.int r) else .bad
  | _, _ => .bad
abbrev pickN (n : Int) : M PV := if n < 2 then .ret (.int 0) else if n < 2 ^ 250 then .pick n.toNat fun r => .ret (.int r) else .bad
theorem pick_case {Q : PV → Prop} {p q : PV} (h : (m_pick p q).All Q) : ∃ n, p = .src ∧ q = .int n ∧ (pickN n).All Q := by
  unfold m_pick at h
  split at h
  · exact ⟨_, rfl, rfl, h⟩
  · exact h.elim
theorem pick_done {Q : PV → Prop} {n x : Int} (h : (pickN n).All Q) (h2 : ¬ n < 2) : Q (.int (x % n)) := by
  unfold pickN at h
  rw [if_neg h2] at h
  by_cases hb : n < 2 ^ 250
  · rw [if_pos hb] at h
    have h := M.all_pick.mp h
    have h0 := Int.emod_nonneg x (show n ≠ 0 by omega)
    have h1 := Int.emod_lt_of_pos x (show 0 < n by omega)
    have e : (((x % n).toNat : Nat) : Int) = x % n := Int.toNat_of_nonneg h0
    have z := h (x % n).toNat (by omega)
    rw [← e]
    exact (M.all_ret _).mp z
  · rw [if_neg hb] at h; exact h.elim
theorem pick_small {Q : PV → Prop} {n : Int} (h : (pickN n).All Q) (h2 : ¬ n < 2) : CDivL 0 n := by
  unfold pickN at h
  rw [if_neg h2] at h
  by_cases hb : n < 2 ^ 250
  · refine ⟨by omega, ?_⟩
    have : n.natAbs.log2 < 250 := (Nat.log2_lt (by omega)).mpr (by
      have e : (2 : Int) ^ 250 = ((2 ^ 250 : Nat) : Int) := by norm_cast
      rw [e] at hb
      generalize (2 : Nat) ^ 250 = z at *
      omega)
    omega
  · rw [if_neg hb] at h; exact h.elim
theorem src_start {n i : Nat} {σ : L2.St} {H : Hp} {sd sc : Addr} (S : SrcAt H sd sc) (hi : i < σ.length) : Sta1 noH noH ⟨noH, some (sd, sc)⟩ ((List.replicate n Slot.no).set i (.fr .src)) (σ.set i (some (.ref sd))) H := by
  have key : ∀ {j : Nat} {s : Slot}, ((List.replicate n Slot.no).set i (.fr .src))[j]? = some s → s = .no ∨ (j = i ∧ s = .fr .src) := fun {j s} h => by
    rcases get_set h with ⟨e, e2⟩ | ⟨_, h⟩
    · exact .inr ⟨e, e2⟩
    · rw [List.getElem?_replicate] at h
      split at h
      · exact .inl (Option.some.inj h).symm
      · cases h
  refine ⟨⟨⟨fun _ _ h => (nomatch h), fun _ _ h => (nomatch h), fun _ _ h => (nomatch h), fun a b e => ?_⟩, fun j s h => ?_⟩, Sub.refl _, fun j p a h => ?_, fun j k p q a _ h => ?_⟩
  · cases e
    exact ⟨S, rfl, rfl, rfl, rfl⟩
  · rcases key h with rfl | ⟨rfl, rfl⟩
    · trivial
    · exact ⟨_, List.getElem?_set_self hi, .src rfl⟩
  · rcases key h with e | ⟨_, e⟩ <;> cases e
  · rcases key h with e | ⟨_, e⟩ <;> cases e
/-- what the def that makes the source promises -/
def spSrc (K : PySem.W.Frag) : Sp := fun vs H Q _ => ∃ (a : Addr) (ns : List Int), vs = [.ref a] ∧ SqL K H a (ns.map V.int) ∧ ns.length ≤ 63 ∧ ∀ (H' : Hp) (sd sc : Addr), SrcAt H' sd sc → Q (.ref sd) H'
theorem Same.sq {K : PySem.W.Frag} {H H' : Hp} {a : Addr} {xs : List V} (s : ∀ b u, H b = some u → H' b = some u) (h : SqL K H a xs) : SqL K H' a xs := by
  rcases h with h | h
  · rcases h with h | ⟨o, h⟩
    · exact .inl (.inl (s _ _ h))
    · exact .inl (.inr ⟨o, s _ _ h⟩)
  · exact .inr h
end ML

/-! Sums over 0 .. n-1 and functions of bits, in plain Lean. -/
namespace BF
/-- the sum of f over 0 .. n-1 -/
def S : Nat → (Nat → Int) → Int
  | 0, _ => 0
  | n + 1, f => S n f + f n
theorem S_congr {f g : Nat → Int} : ∀ {n : Nat}, (∀ x, x < n → f x = g x) → S n f = S n g
  | 0, _ => rfl
  | n + 1, h => by
    show S n f + f n = S n g + g n
    rw [S_congr (n := n) fun x hx => h x (by omega), h n (by omega)]
theorem S_add {f g : Nat → Int} : ∀ {n : Nat}, S n (fun x => f x + g x) = S n f + S n g
  | 0 => rfl
  | n + 1 => by
    show S n (fun x => f x + g x) + (f n + g n) = S n f + f n + (S n g + g n)
    rw [S_add (n := n)]; omega
theorem S_sub {f g : Nat → Int} : ∀ {n : Nat}, S n (fun x => f x - g x) = S n f - S n g
  | 0 => rfl
  | n + 1 => by
    show S n (fun x => f x - g x) + (f n - g n) = S n f + f n - (S n g + g n)
    rw [S_sub (n := n)]; omega
theorem S_neg {f : Nat → Int} : ∀ {n : Nat}, S n (fun x => - f x) = - S n f
  | 0 => rfl
  | n + 1 => by
    show S n (fun x => - f x) + (- f n) = - (S n f + f n)
    rw [S_neg (n := n)]; omega
theorem S_mul {f : Nat → Int} (c : Int) : ∀ {n : Nat}, S n (fun x => c * f x) = c * S n f
  | 0 => (Int.mul_zero c).symm
  | n + 1 => by
    show S n (fun x => c * f x) + c * f n = c * (S n f + f n)
    rw [S_mul c (n := n), Int.mul_add]
theorem S_zero : ∀ {n : Nat}, S n (fun _ => 0) = 0
  | 0 => rfl
  | n + 1 => by show S n (fun _ => 0) + 0 = 0; rw [S_zero (n := n)]; rfl
theorem S_const (c : Int) : ∀ {n : Nat}, S n (fun _ => c) = n * c
  | 0 => (Int.zero_mul c).symm
  | n + 1 => by
    show S n (fun _ => c) + c = ((n + 1 : Nat) : Int) * c
    rw [S_const c (n := n)]; push_cast; rw [Int.add_mul, Int.one_mul]
theorem S_le {f g : Nat → Int} : ∀ {n : Nat}, (∀ x, x < n → f x ≤ g x) → S n f ≤ S n g
  | 0, _ => Int.le_refl _
  | n + 1, h => by
    show S n f + f n ≤ S n g + g n
    have h1 := S_le (n := n) fun x hx => h x (by omega)
    have h2 := h n (by omega)
    omega
theorem S_nonneg {f : Nat → Int} {n : Nat} (h : ∀ x, x < n → 0 ≤ f x) : 0 ≤ S n f := by
  have := S_le (f := fun _ => 0) h
  rw [S_zero] at this
  exact this
/-- a sum of numbers that are not below 0 is 0 only if all are -/
theorem S_eq_zero {f : Nat → Int} : ∀ {n : Nat}, (∀ x, x < n → 0 ≤ f x) → S n f = 0 → ∀ x, x < n → f x = 0
  | 0, _, _, x, hx => by omega
  | n + 1, h, e, x, hx => by
    have e : S n f + f n = 0 := e
    have h1 := S_nonneg (n := n) fun x hx => h x (by omega)
    have h2 := h n (by omega)
    by_cases c : x = n
    · subst c; omega
    · exact S_eq_zero (n := n) (fun x hx => h x (by omega)) (by omega) x (by omega)
theorem S_single {f : Nat → Int} {n k : Nat} (hk : k < n) (h : ∀ x, x < n → 0 ≤ f x) : f k ≤ S n f := by
  induction n with
  | zero => omega
  | succ n ih =>
    show f k ≤ S n f + f n
    have h1 := S_nonneg (n := n) fun x hx => h x (by omega)
    have h2 := h n (by omega)
    by_cases c : k = n
    · subst c; omega
    · have := ih (by omega) fun x hx => h x (by omega)
      omega
theorem S_swap {f : Nat → Nat → Int} {n : Nat} : ∀ {m : Nat}, S n (fun x => S m (fun y => f x y)) = S m (fun y => S n (fun x => f x y))
  | 0 => S_zero
  | m + 1 => by
    show S n (fun x => S m (fun y => f x y) + f x m) = S m (fun y => S n (fun x => f x y)) + S n (fun x => f x m)
    rw [S_add, S_swap (m := m)]
theorem S_eq_sum (f : Nat → Int) : ∀ n : Nat, S n f = ((List.range n).map f).sum
  | 0 => rfl
  | n + 1 => by
    rw [List.range_succ, List.map_append, List.sum_append]
    show S n f + f n = _
    rw [S_eq_sum f n]
    simp
theorem perm_sum {l m : List Int} (h : l.Perm m) : l.sum = m.sum := by
  induction h with
  | nil => rfl
  | cons x _ ih => rw [List.sum_cons, List.sum_cons, ih]
  | swap x y l => rw [List.sum_cons, List.sum_cons, List.sum_cons, List.sum_cons]; omega
  | trans _ _ h1 h2 => exact h1.trans h2
/-- a sum in another order -/
theorem S_perm {f : Nat → Int} {n : Nat} (σ : Nat → Nat) (h1 : ∀ x, x < n → σ x < n) (h2 : ∀ x, x < n → σ (σ x) = x) : S n (fun x => f (σ x)) = S n f := by
  rw [S_eq_sum, S_eq_sum]
  have e : (List.range n).map (fun x => f (σ x)) = ((List.range n).map σ).map f := by rw [List.map_map]; rfl
  rw [e]
  refine perm_sum (List.Perm.map f ?_)
  refine (List.perm_ext_iff_of_nodup ?_ List.nodup_range).mpr fun a => ?_
  · unfold List.Nodup
    rw [List.pairwise_map]
    refine List.Pairwise.imp_of_mem (fun {a b} ha hb ne e => ne ?_) (List.nodup_range (n := n))
    have ha := List.mem_range.mp ha
    have hb := List.mem_range.mp hb
    rw [← h2 a ha, ← h2 b hb, e]
  · rw [List.mem_map, List.mem_range]
    constructor
    · rintro ⟨b, hb, rfl⟩
      exact h1 b (List.mem_range.mp hb)
    · intro ha
      exact ⟨σ a, List.mem_range.mpr (h1 a ha), h2 a ha⟩
theorem S_xor {f : Nat → Int} {n m : Nat} (hm : m < 2 ^ n) : S (2 ^ n) (fun x => f (x ^^^ m)) = S (2 ^ n) f :=
  S_perm (fun x => x ^^^ m) (fun x hx => Nat.xor_lt_two_pow hx hm) fun x _ => by
    show x ^^^ m ^^^ m = x
    rw [Nat.xor_assoc, Nat.xor_self, Nat.xor_zero]
/-- how many -/
def C (n : Nat) (p : Nat → Bool) : Int := S n fun x => if p x = true then 1 else 0
theorem C_eq (p : Nat → Bool) : ∀ n : Nat, C n p = (((List.range n).filter p).length : Nat)
  | 0 => rfl
  | n + 1 => by
    rw [List.range_succ, List.filter_append, List.length_append]
    show C n p + (if p n = true then 1 else 0) = _
    rw [C_eq p n]
    by_cases h : p n = true
    · simp [List.filter, h]
    · simp [List.filter, h]
theorem filter_sum (p : Nat → Bool) (h : Nat → Int) : ∀ n : Nat, (((List.range n).filter p).map h).sum = S n fun x => if p x = true then h x else 0
  | 0 => rfl
  | n + 1 => by
    rw [List.range_succ, List.filter_append, List.map_append, List.sum_append, filter_sum p h n]
    show _ = S n (fun x => if p x = true then h x else 0) + (if p n = true then h n else 0)
    by_cases c : p n = true
    · simp [List.filter, c]
    · simp [List.filter, c]
theorem filter_nil (p : Nat → Bool) (n : Nat) (h : ∀ x, x < n → p x = false) : (List.range n).filter p = [] := by
  rw [List.filter_eq_nil_iff]
  intro x hx
  rw [h x (List.mem_range.mp hx)]
  exact Bool.false_ne_true
theorem filter_isEmpty (p : Nat → Bool) (n : Nat) : ((List.range n).filter p).isEmpty = decide (∀ x, x < n → p x = false) := by
  by_cases h : ∀ x, x < n → p x = false
  · rw [filter_nil p n h, decide_eq_true h]; rfl
  · rw [decide_eq_false h]
    refine Bool.eq_false_iff.mpr fun e => h fun x hx => ?_
    have e := List.isEmpty_iff.mp e
    rw [List.filter_eq_nil_iff] at e
    exact Bool.eq_false_iff.mpr (e x (List.mem_range.mpr hx))
/-! bits -/
def bi (x i : Nat) : Int := if x.testBit i = true then 1 else 0
theorem bi_flip (x i : Nat) : bi (x ^^^ 2 ^ i) i = 1 - bi x i := by
  unfold bi
  rw [Nat.testBit_xor, Nat.testBit_two_pow_self]
  cases x.testBit i <;> rfl
theorem bi_flip_ne {x i j : Nat} (h : i ≠ j) : bi (x ^^^ 2 ^ i) j = bi x j := by
  unfold bi
  rw [Nat.testBit_xor, Nat.testBit_two_pow_of_ne h, Bool.xor_false]
/-- how many bits of 0 .. n-1 are 1 -/
def ones (n x : Nat) : Int := S n fun i => bi x i
theorem pow_lt {i n : Nat} (h : i < n) : 2 ^ i < 2 ^ n := Nat.pow_lt_pow_right (by decide) h
/-- how many inputs of n bits t tells apart from their neighbour at i -/
def ch (n : Nat) (t : Nat → Int) (i : Nat) : Int := C (2 ^ n) fun x => decide (t x ≠ t (x ^^^ 2 ^ i))
def chs (n : Nat) (t : Nat → Int) : Int := S n fun i => ch n t i
/-- rising -/
def Mono (n : Nat) (t : Nat → Int) : Prop := (∀ x, x < 2 ^ n → t x = 0 ∨ t x = 1) ∧ ∀ x i, x < 2 ^ n → i < n → x.testBit i = false → t x ≤ t (x ^^^ 2 ^ i)
theorem xor_lt {n x i : Nat} (hx : x < 2 ^ n) (hi : i < n) : x ^^^ 2 ^ i < 2 ^ n := Nat.xor_lt_two_pow hx (pow_lt hi)
theorem xor_back (x m : Nat) : x ^^^ m ^^^ m = x := by rw [Nat.xor_assoc, Nat.xor_self, Nat.xor_zero]
theorem tb_flip (x i : Nat) : (x ^^^ 2 ^ i).testBit i = !x.testBit i := by rw [Nat.testBit_xor, Nat.testBit_two_pow_self, Bool.xor_true]
theorem mono_ch {n : Nat} {t : Nat → Int} (h : Mono n t) {i : Nat} (hi : i < n) : ch n t i = 2 * S (2 ^ n) fun x => (2 * bi x i - 1) * t x := by
  have e : ch n t i = S (2 ^ n) fun x => (2 * bi x i - 1) * t x + (2 * bi (x ^^^ 2 ^ i) i - 1) * t (x ^^^ 2 ^ i) := by
    unfold ch C
    refine S_congr fun x hx => ?_
    rw [bi_flip]
    have hy := xor_lt hx hi
    rcases h.1 x hx with a | a <;> rcases h.1 _ hy with b | b <;> cases c : x.testBit i
    all_goals
      have m1 := h.2 x i hx hi
      have m2 := h.2 _ i hy hi
      rw [tb_flip, xor_back, c] at m2
      rw [c] at m1
      simp [bi, a, b, c] at m1 m2 ⊢
  rw [e, S_add, S_xor (f := fun x => (2 * bi x i - 1) * t x) (pow_lt hi)]
  omega
theorem ones_sum (n x : Nat) : S n (fun i => 2 * bi x i - 1) = 2 * ones n x - n := by
  rw [S_sub, S_mul, S_const]
  have e : ones n x = S n fun i => bi x i := rfl
  have e2 : (S n fun i => bi x i) = S n (bi x) := rfl
  omega
theorem mono_chs {n : Nat} {t : Nat → Int} (h : Mono n t) : chs n t = 2 * S (2 ^ n) fun x => (2 * ones n x - n) * t x := by
  unfold chs
  rw [S_congr fun i hi => mono_ch h hi, S_mul, S_swap]
  congr 1
  refine S_congr fun x _ => ?_
  rw [← ones_sum]
  have : S n (fun i => t x * (2 * bi x i - 1)) = t x * S n (fun i => 2 * bi x i - 1) := S_mul (t x)
  rw [Int.mul_comm, ← this]
  exact S_congr fun i _ => Int.mul_comm _ _
theorem mono_high {n : Nat} {t : Nat → Int} (h : Mono n t) {i : Nat} (hi : i < n) : ch n t i = 2 * (2 * S (2 ^ n) (fun x => bi x i * t x) - S (2 ^ n) t) := by
  rw [mono_ch h hi]
  congr 1
  rw [← S_mul, ← S_sub]
  exact S_congr fun x _ => by rw [Int.sub_mul, Int.mul_assoc, Int.one_mul]
theorem flip_up (x i : Nat) (h : x.testBit i = false) : x ^^^ 2 ^ i = x + 2 ^ i := by
  have hp : 0 < 2 ^ i := Nat.two_pow_pos i
  have hq : x / 2 ^ i % 2 = 0 := by
    rw [Nat.testBit_eq_decide_div_mod_eq] at h
    have := of_decide_eq_false h
    omega
  refine Nat.eq_of_testBit_eq fun j => ?_
  rw [Nat.testBit_xor, Nat.add_comm x]
  rcases Nat.lt_trichotomy j i with c | c | c
  · rw [Nat.testBit_two_pow_add_gt c, Nat.testBit_two_pow_of_ne (by omega), Bool.xor_false]
  · subst c
    rw [Nat.testBit_two_pow_add_eq, Nat.testBit_two_pow_self, Bool.xor_true]
  · rw [Nat.testBit_two_pow_of_ne (by omega), Bool.xor_false, Nat.testBit_eq_decide_div_mod_eq, Nat.testBit_eq_decide_div_mod_eq]
    have e : ∀ y : Nat, y / 2 ^ j = y / 2 ^ i / 2 / 2 ^ (j - i - 1) := fun y => by
      rw [Nat.div_div_eq_div_mul, Nat.div_div_eq_div_mul]
      congr 1
      have e : j = i + (1 + (j - i - 1)) := by omega
      have e2 : 2 ^ j = 2 ^ (i + (1 + (j - i - 1))) := congrArg (2 ^ ·) e
      rw [e2, Nat.pow_add, Nat.pow_add, Nat.pow_one]
    have f : (2 ^ i + x) / 2 ^ i / 2 = x / 2 ^ i / 2 := by
      rw [Nat.add_div_left x hp]
      omega
    rw [e, e, f]
theorem flip_down (x i : Nat) (h : x.testBit i = true) : (x ^^^ 2 ^ i) + 2 ^ i = x := by
  have := flip_up (x ^^^ 2 ^ i) i (by rw [tb_flip, h]; rfl)
  rw [xor_back] at this
  exact this.symm
/-! more on changes -/
theorem ch_le_ones {n : Nat} {t : Nat → Int} (h : ∀ x, x < 2 ^ n → t x = 0 ∨ t x = 1) {i : Nat} (hi : i < n) : ch n t i ≤ 2 * S (2 ^ n) t := by
  have e : ch n t i ≤ S (2 ^ n) fun x => t x + t (x ^^^ 2 ^ i) := by
    unfold ch C
    refine S_le fun x hx => ?_
    rcases h x hx with a | a <;> rcases h _ (xor_lt hx hi) with b | b <;> simp [a, b]
  rw [S_add, S_xor (pow_lt hi)] at e
  omega
theorem ch_opp {n : Nat} {t : Nat → Int} {i : Nat} : ch n (fun x => 1 - t x) i = ch n t i := by
  unfold ch C
  refine S_congr fun x _ => ?_
  have : decide (1 - t x ≠ 1 - t (x ^^^ 2 ^ i)) = decide (t x ≠ t (x ^^^ 2 ^ i)) := decide_eq_decide.mpr (by omega)
  show (if decide (1 - t x ≠ 1 - t (x ^^^ 2 ^ i)) = true then (1 : Int) else 0) = if decide (t x ≠ t (x ^^^ 2 ^ i)) = true then 1 else 0
  rw [this]
theorem ch_le_zeros {n : Nat} {t : Nat → Int} (h : ∀ x, x < 2 ^ n → t x = 0 ∨ t x = 1) {i : Nat} (hi : i < n) : ch n t i ≤ 2 * (2 ^ n - S (2 ^ n) t) := by
  have e := ch_le_ones (t := fun x => 1 - t x) (fun x hx => by rcases h x hx with a | a <;> simp [a]) hi
  rw [ch_opp, S_sub, S_const] at e
  push_cast at e
  omega
theorem S_le_const {f : Nat → Int} {n : Nat} (c : Int) (h : ∀ x, x < n → f x ≤ c) : S n f ≤ n * c := by
  have := S_le (g := fun _ => c) h
  rw [S_const] at this
  exact this
theorem ch_half {n : Nat} {t : Nat → Int} {i : Nat} (hi : i < n) : ch n t i = 2 * C (2 ^ n) fun x => !x.testBit i && decide (t x ≠ t (x ^^^ 2 ^ i)) := by
  let f : Nat → Int := fun x => if (!x.testBit i && decide (t x ≠ t (x ^^^ 2 ^ i))) = true then 1 else 0
  have e : ch n t i = S (2 ^ n) fun x => f x + f (x ^^^ 2 ^ i) := by
    unfold ch C
    refine S_congr fun x _ => ?_
    show _ = (if (!x.testBit i && decide (t x ≠ t (x ^^^ 2 ^ i))) = true then 1 else 0) + (if (!(x ^^^ 2 ^ i).testBit i && decide (t (x ^^^ 2 ^ i) ≠ t (x ^^^ 2 ^ i ^^^ 2 ^ i))) = true then (1 : Int) else 0)
    rw [tb_flip, xor_back]
    by_cases c : t x = t (x ^^^ 2 ^ i)
    · simp [c]
    · have c2 : ¬ t (x ^^^ 2 ^ i) = t x := fun z => c z.symm
      cases x.testBit i <;> simp [c, c2]
  rw [e, S_add, S_xor (pow_lt hi)]
  show S (2 ^ n) f + S (2 ^ n) f = 2 * S (2 ^ n) f
  omega
/-- other places, the same table otherwise -/
theorem ch_turned {n : Nat} {t : Nat → Int} {m i : Nat} (hm : m < 2 ^ n) : ch n (fun x => t (x ^^^ m)) i = ch n t i := by
  unfold ch C
  rw [← S_xor (f := fun x => if decide (t x ≠ t (x ^^^ 2 ^ i)) = true then 1 else 0) hm]
  refine S_congr fun x _ => ?_
  show (if decide (t (x ^^^ m) ≠ t (x ^^^ 2 ^ i ^^^ m)) = true then (1 : Int) else 0) = if decide (t (x ^^^ m) ≠ t (x ^^^ m ^^^ 2 ^ i)) = true then 1 else 0
  rw [Nat.xor_assoc x (2 ^ i) m, Nat.xor_comm (2 ^ i) m, ← Nat.xor_assoc]
theorem chs_turned {n : Nat} {t : Nat → Int} {m : Nat} (hm : m < 2 ^ n) : chs n (fun x => t (x ^^^ m)) = chs n t := S_congr fun i _ => ch_turned hm
theorem chs_opp {n : Nat} {t : Nat → Int} : chs n (fun x => 1 - t x) = chs n t := S_congr fun i _ => ch_opp
/-- a table matters only where it is asked -/
theorem ch_congr {n : Nat} {t u : Nat → Int} (h : ∀ x, x < 2 ^ n → t x = u x) {i : Nat} (hi : i < n) : ch n t i = ch n u i := by
  unfold ch C
  refine S_congr fun x hx => ?_
  show (if decide (t x ≠ t (x ^^^ 2 ^ i)) = true then (1 : Int) else 0) = if decide (u x ≠ u (x ^^^ 2 ^ i)) = true then 1 else 0
  rw [h x hx, h _ (xor_lt hx hi)]
theorem chs_congr {n : Nat} {t u : Nat → Int} (h : ∀ x, x < 2 ^ n → t x = u x) : chs n t = chs n u := S_congr fun i hi => ch_congr h hi
/-- the first n bits' sum, odd or even -/
theorem ones_flip {n x i : Nat} (hi : i < n) : ones n (x ^^^ 2 ^ i) = ones n x + 1 - 2 * bi x i := by
  unfold ones
  have key : ∀ k : Nat, S k (fun j => bi (x ^^^ 2 ^ i) j) = S k (fun j => bi x j) + if i < k then 1 - 2 * bi x i else 0 := by
    intro k
    induction k with
    | zero => rfl
    | succ k ih =>
      show S k (fun j => bi (x ^^^ 2 ^ i) j) + bi (x ^^^ 2 ^ i) k = S k (fun j => bi x j) + bi x k + _
      rw [ih]
      by_cases c : i = k
      · subst c
        rw [bi_flip]
        simp
        omega
      · rw [bi_flip_ne c]
        by_cases d : i < k
        · rw [if_pos d, if_pos (by omega)]; omega
        · rw [if_neg d, if_neg (by omega)]; omega
  rw [key n, if_pos hi]
  omega
theorem bi_01 (x i : Nat) : bi x i = 0 ∨ bi x i = 1 := by
  unfold bi
  cases x.testBit i
  · exact .inl rfl
  · exact .inr rfl
theorem ones_nonneg (n x : Nat) : 0 ≤ ones n x := S_nonneg fun i _ => by rcases bi_01 x i with h | h <;> omega
theorem ones_zero (n : Nat) : ones n 0 = 0 := by
  unfold ones
  rw [S_congr (g := fun _ => 0) fun i _ => by unfold bi; rw [Nat.zero_testBit]; rfl, S_zero]
/-- every step changes the answer: exactly the odd sums and their opposites -/
theorem all_steps {n : Nat} {t : Nat → Int} (h : ∀ x, x < 2 ^ n → t x = 0 ∨ t x = 1) : chs n t = n * 2 ^ n ↔ ∀ x, x < 2 ^ n → t x = (t 0 + ones n x) % 2 := by
  have p0 : 0 < 2 ^ n := Nat.two_pow_pos n
  constructor
  · intro e
    -- every place of every bit counts
    have le : ∀ i, i < n → ch n t i ≤ 2 ^ n := fun i _ => by
      have := S_le_const (n := 2 ^ n) (f := fun x => if decide (t x ≠ t (x ^^^ 2 ^ i)) = true then 1 else 0) 1 fun x _ => by show (if _ then (1 : Int) else 0) ≤ 1; split <;> omega
      have e2 : ch n t i = S (2 ^ n) fun x => if decide (t x ≠ t (x ^^^ 2 ^ i)) = true then (1 : Int) else 0 := rfl
      push_cast at this
      omega
    have z := S_eq_zero (f := fun i => 2 ^ n - ch n t i) (n := n) (fun i hi => by have := le i hi; omega) (by
      rw [S_sub, S_const]
      have : S n (fun i => ch n t i) = chs n t := rfl
      have e2 : (S n fun i => ch n t i) = S n (ch n t) := rfl
      omega)
    have step : ∀ i, i < n → ∀ x, x < 2 ^ n → t x ≠ t (x ^^^ 2 ^ i) := fun i hi x hx => by
      have zi := z i hi
      have zz := S_eq_zero (f := fun x => 1 - (if decide (t x ≠ t (x ^^^ 2 ^ i)) = true then (1 : Int) else 0)) (n := 2 ^ n) (fun x _ => by show 0 ≤ 1 - (if _ then (1 : Int) else 0); split <;> omega) (by
        rw [S_sub, S_const]
        have e2 : ch n t i = S (2 ^ n) fun x => if decide (t x ≠ t (x ^^^ 2 ^ i)) = true then (1 : Int) else 0 := rfl
        push_cast
        omega) x hx
      intro c
      rw [decide_eq_false (by simpa using c)] at zz
      simp at zz
    intro x
    induction x using Nat.strongRecOn with
    | ind x ih =>
      intro hx
      by_cases x0 : x = 0
      · subst x0
        rw [ones_zero]
        rcases h 0 p0 with a | a <;> rw [a] <;> rfl
      · obtain ⟨i, hb⟩ := Nat.exists_testBit_of_ne_zero x0
        have hi : i < n := by
          refine Nat.lt_of_not_le fun c => ?_
          rw [Nat.testBit_lt_two_pow (Nat.lt_of_lt_of_le hx (Nat.pow_le_pow_right (by decide) c))] at hb
          cases hb
        have dn := flip_down x i hb
        have hp : 0 < 2 ^ i := Nat.two_pow_pos i
        have hy := xor_lt hx hi
        have a := ih (x ^^^ 2 ^ i) (by omega) hy
        rw [ones_flip hi] at a
        have b := step i hi x hx
        have bb : bi x i = 1 := by unfold bi; rw [hb]; rfl
        rcases h x hx with c | c <;> rcases h _ hy with d | d <;> omega
  · intro e
    unfold chs
    rw [S_congr (g := fun _ => 2 ^ n) fun i hi => ?_, S_const]
    unfold ch C
    rw [S_congr (g := fun _ => 1) fun x hx => ?_, S_const]
    · push_cast; omega
    · have a := e x hx
      have b := e _ (xor_lt hx hi)
      rw [ones_flip hi] at b
      have c : t x ≠ t (x ^^^ 2 ^ i) := by
        rcases bi_01 x i with d | d <;> omega
      show (if decide (t x ≠ t (x ^^^ 2 ^ i)) = true then (1 : Int) else 0) = 1
      rw [decide_eq_true c]
      rfl
/-! the bound of rising functions -/
def pos (z : Int) : Int := if 0 < z then z else 0
theorem mono_bound {n : Nat} {t : Nat → Int} (h : ∀ x, x < 2 ^ n → t x = 0 ∨ t x = 1) : S (2 ^ n) (fun x => (2 * ones n x - n) * t x) ≤ S (2 ^ n) (fun x => pos (2 * ones n x - n)) :=
  S_le fun x hx => by
    unfold pos
    rcases h x hx with a | a <;> rw [a] <;> split <;> omega
theorem mono_bound_eq {n : Nat} {t : Nat → Int} (h : ∀ x, x < 2 ^ n → t x = 0 ∨ t x = 1) : S (2 ^ n) (fun x => (2 * ones n x - n) * t x) = S (2 ^ n) (fun x => pos (2 * ones n x - n)) ↔
    ∀ x, x < 2 ^ n → 2 * ones n x ≠ n → t x = if (n : Int) < 2 * ones n x then 1 else 0 := by
  constructor
  · intro e x hx ne
    have z := S_eq_zero (f := fun x => pos (2 * ones n x - n) - (2 * ones n x - n) * t x) (n := 2 ^ n) (fun x hx => by
      show 0 ≤ pos (2 * ones n x - n) - (2 * ones n x - n) * t x
      unfold pos
      rcases h x hx with a | a <;> rw [a] <;> split <;> omega) (by rw [S_sub]; omega) x hx
    unfold pos at z
    rcases h x hx with a | a <;> rw [a] at z ⊢ <;> split at z <;> split <;> omega
  · intro e
    refine S_congr fun x hx => ?_
    show (2 * ones n x - n) * t x = pos (2 * ones n x - n)
    by_cases c : 2 * ones n x = n
    · rw [c, Int.sub_self, Int.zero_mul]; rfl
    · rw [e x hx c]
      unfold pos
      split <;> split <;> omega
theorem xor_and (a : Nat) : ∀ b : Nat, (a ^^^ b) + 2 * (a &&& b) = a + b := by
  induction a using Nat.strongRecOn with
  | ind a ih =>
    intro b
    by_cases a0 : a = 0
    · subst a0; simp
    · have h := ih (a / 2) (by omega) (b / 2)
      have h1 : (a ^^^ b) / 2 = a / 2 ^^^ b / 2 := Nat.xor_div_two
      have h2 : (a &&& b) / 2 = a / 2 &&& b / 2 := Nat.and_div_two
      have h3 : decide ((a ^^^ b) % 2 = 1) = (decide (a % 2 = 1) ^^ decide (b % 2 = 1)) := by
        rw [← Nat.testBit_zero, ← Nat.testBit_zero, ← Nat.testBit_zero, Nat.testBit_xor]
      have h6 := Nat.mod_two_eq_zero_or_one (a ^^^ b)
      have h4 : (a &&& b) % 2 = 1 ↔ a % 2 = 1 ∧ b % 2 = 1 := Nat.and_mod_two_eq_one
      have h5 := Nat.mod_two_eq_zero_or_one (a &&& b)
      generalize a / 2 ^^^ b / 2 = u at *
      generalize a / 2 &&& b / 2 = v at *
      generalize a ^^^ b = p at *
      generalize a &&& b = q at *
      rcases Nat.mod_two_eq_zero_or_one a with c | c <;> rcases Nat.mod_two_eq_zero_or_one b with d | d <;> simp [c, d] at h3 h4 <;> omega
end BF

/-! The M layer, part 10: what the pieces tell at plain values. -/
namespace ML
open PySem PySem.Spec PyProof.Rows L2
theorem ap1_eq (m : PV → M PV) (a : PV) : ap1 m [a] = m a := (rfl)
theorem ap2_eq (m : PV → PV → M PV) (a b : PV) : ap2 m [a, b] = m a b := (rfl)
theorem ap3_eq (m : PV → PV → PV → M PV) (a b c : PV) : ap3 m [a, b, c] = m a b c := (rfl)
theorem ap0_eq (m : M PV) : ap0 m [] = m := (rfl)
theorem ev_bind {α β : Type} (a : α) (f : α → M β) : (M.ret a >>= f) = f a := (rfl)
theorem ev_sub (i j : Int) : pSub (.int i) (.int j) = .ret (.int (i - j)) := (rfl)
theorem ev_add (i j : Int) : pAdd (.int i) (.int j) = .ret (.int (i + j)) := (rfl)
theorem ev_addI (i j : Int) : pAddI (.int i) (.int j) = .ret (.int (i + j)) := (rfl)
theorem ev_neg (i : Int) : pNeg (.int i) = .ret (.int (-i)) := (rfl)
theorem ev_lt (i j : Int) : pLt (.int i) (.int j) = .ret (decide (i < j)) := (rfl)
theorem ev_le (i j : Int) : pLe (.int i) (.int j) = .ret (decide (i ≤ j)) := (rfl)
theorem ev_gt (i j : Int) : pGt (.int i) (.int j) = .ret (decide (j < i)) := (rfl)
theorem ev_ge (i j : Int) : pGe (.int i) (.int j) = .ret (decide (j ≤ i)) := (rfl)
theorem ev_and (i j : Int) : pAnd (.int i) (.int j) = .ret (.int (Builtin.bitAnd i j)) := (rfl)
theorem ev_or (i j : Int) : pOr (.int i) (.int j) = .ret (.int (Builtin.bitOr i j)) := (rfl)
theorem ev_xor (i j : Int) : pXor (.int i) (.int j) = .ret (.int (Builtin.bitXor i j)) := (rfl)
theorem ev_truB (b : Bool) : pTru (.bl b) = .ret b := (rfl)
theorem ev_truI (i : Int) : pTru (.int i) = .ret (i != 0) := (rfl)
theorem ev_truL (l : List PV) : pTru (.lst l) = .ret (!l.isEmpty) := (rfl)
theorem ev_intI (i : Int) : pIntOf (.int i) = .ret (.int i) := (rfl)
theorem ev_intB (b : Bool) : pIntOf (.bl b) = .ret (.int (if b then 1 else 0)) := (rfl)
theorem ev_lenL (l : List PV) : pLen (.lst l) = .ret (.int l.length) := (rfl)
theorem ev_lenT (l : List PV) : pLen (.tup l) = .ret (.int l.length) := (rfl)
theorem ev_tupL (l : List PV) : pTuple (.lst l) = .ret (.tup l) := (rfl)
theorem ev_tupT (l : List PV) : pTuple (.tup l) = .ret (.tup l) := (rfl)
theorem ev_lstL (l : List PV) : pList (.lst l) = .ret (.lst l) := (rfl)
theorem ev_lstT (l : List PV) : pList (.tup l) = .ret (.lst l) := (rfl)
theorem ev_seqL (l : List PV) : pSeq (.lst l) = .ret l := (rfl)
theorem ev_seqT (l : List PV) : pSeq (.tup l) = .ret l := (rfl)
theorem ev_div (i j : Int) (h0 : j ≠ 0) (h : j.natAbs < 1073741824) : pDiv (.int i) (.int j) = .ret (.int (i.fdiv j)) := by
  show (if (j != 0 && decide (j.natAbs < 1073741824)) = true then (M.ret (PV.int (i.fdiv j)) : M PV) else .bad) = _
  rw [if_pos (by simp [h0, h])]
theorem ev_divP (i j : Int) (h0 : 0 < j) (h : j < 1073741824) : pDiv (.int i) (.int j) = .ret (.int (i / j)) := by
  rw [ev_div i j (by omega) (by omega), Int.fdiv_eq_ediv_of_nonneg i (by omega)]
theorem ev_mod (i j : Int) (h0 : j ≠ 0) : pMod (.int i) (.int j) = .ret (.int (i.fmod j)) := by
  show (if (j != 0) = true then (M.ret (PV.int (i.fmod j)) : M PV) else .bad) = _
  rw [if_pos (by simp [h0])]
theorem ev_modP (i j : Int) (h0 : 0 < j) : pMod (.int i) (.int j) = .ret (.int (i % j)) := by
  rw [ev_mod i j (by omega), Int.fmod_eq_emod_of_nonneg i (by omega)]
theorem ev_shl (i : Int) (n : Nat) (hn : n ≤ 1000000) (hi : i.natAbs < 2 ^ 64) : pShl (.int i) (.int n) = .ret (.int (i * 2 ^ n)) := by
  show (if cPow i n = true then (M.ret (PV.int (i * 2 ^ (n : Int).toNat)) : M PV) else .bad) = _
  have c : cPow i n = true := by
    unfold cPow
    rw [decide_eq_true hi, decide_eq_true (show (0 : Int) ≤ n by omega), decide_eq_true (show (n : Int) ≤ 1000000 by omega)]
    rfl
  rw [if_pos c, Int.toNat_natCast]
theorem ev_shl1 (n : Nat) (hn : n ≤ 1000000) : pShl (.int 1) (.int n) = .ret (.int ((2 ^ n : Nat) : Int)) := by
  rw [ev_shl 1 n hn (by decide), Int.one_mul]
  norm_cast
theorem ev_mulL (i j : Int) (h : small i = true) : pMul (.int i) (.int j) = .ret (.int (i * j)) := by
  show (if (small i || small j) = true then (M.ret (PV.int (i * j)) : M PV) else .bad) = _
  rw [if_pos (by rw [h]; rfl)]
theorem ev_mulR (i j : Int) (h : small j = true) : pMul (.int i) (.int j) = .ret (.int (i * j)) := by
  show (if (small i || small j) = true then (M.ret (PV.int (i * j)) : M PV) else .bad) = _
  rw [if_pos (by rw [h]; simp)]
theorem small_of {i : Int} (h1 : -18446744073709551616 < i) (h2 : i < 18446744073709551616) : small i = true := by
  unfold small
  rw [decide_eq_true (show -(2 ^ 64) < i by omega), decide_eq_true (show i < 2 ^ 64 by omega)]
  rfl
theorem small_nat {k : Nat} (h : k < 1152921504606846976) : small (k : Int) = true := small_of (by omega) (by omega)
theorem ev_range (n : Nat) (h : n ≤ 16777216) : pRange (.int 0) (.int n) = .ret ((List.range n).map fun k => .int (k : Nat)) := by
  show (if _ then _ else _) = _
  rw [if_pos (by omega)]
  unfold rg
  rw [Int.sub_zero, Int.toNat_natCast]
  congr 2
  funext k
  rw [Int.zero_add]
theorem ev_eqI (i j : Int) : pEq (.int i) (.int j) = .ret (decide (i = j)) := by
  unfold pEq
  rw [if_pos ⟨rfl, rfl⟩]
  rfl
theorem ev_neI (i j : Int) : pNe (.int i) (.int j) = .ret (decide (i ≠ j)) := by
  unfold pNe
  rw [if_pos ⟨rfl, rfl⟩]
  congr 1
  show (!decide (i = j)) = _
  rw [decide_not]
theorem ev_neB (a b : Bool) : pNe (.bl a) (.bl b) = .ret (a != b) := by cases a <;> cases b <;> rfl
theorem ev_eqB (a b : Bool) : pEq (.bl a) (.bl b) = .ret (a == b) := by cases a <;> cases b <;> rfl
/-! walks over lists -/
theorem ev_mapL {α : Type} (f : PV → M PV) (g : α → PV) (h : α → PV) : ∀ (l : List α), (∀ a ∈ l, f (g a) = .ret (h a)) → mapL f (l.map g) = .ret (l.map h)
  | [], _ => rfl
  | a :: l, e => by
    show (f (g a) >>= fun y => mapL f (l.map g) >>= fun ys => M.ret (y :: ys)) = _
    rw [e a List.mem_cons_self, ev_mapL f g h l fun b hb => e b (List.mem_cons_of_mem _ hb)]
    rfl
theorem ev_compL {α : Type} (f : PV → M (Option PV)) (g : α → PV) (p : α → Bool) (h : α → PV) : ∀ (l : List α), (∀ a ∈ l, f (g a) = .ret (if p a = true then some (h a) else none)) → compL f (l.map g) = .ret ((l.filter p).map h)
  | [], _ => rfl
  | a :: l, e => by
    show (f (g a) >>= fun o => compL f (l.map g) >>= fun ys => M.ret (match o with | some y => y :: ys | none => ys)) = _
    rw [e a List.mem_cons_self, ev_compL f g p h l fun b hb => e b (List.mem_cons_of_mem _ hb)]
    by_cases c : p a = true
    · rw [List.filter_cons_of_pos c, if_pos c]; rfl
    · rw [List.filter_cons_of_neg c, if_neg c]; rfl
theorem ev_turn (b : Bool) (m : M PV) : turnM (.ret b) m = if b = true then m >>= fun y => .ret (some y) else .ret none := (rfl)
theorem ev_turnR (b : Bool) (y : PV) : turnM (.ret b) (.ret y) = .ret (if b = true then some y else none) := by cases b <;> rfl
theorem ev_mAnd (b : Bool) (m : M Bool) : mAnd (.ret b) m = if b = true then m else .ret false := (rfl)
theorem ev_mOr (b : Bool) (m : M Bool) : mOr (.ret b) m = if b = true then .ret true else m := (rfl)
theorem ev_mNot (b : Bool) : mNot (.ret b) = .ret (!b) := (rfl)
theorem intsOf_mapF {α : Type} (h : α → Int) : ∀ l : List α, intsOf (l.map fun a => PV.int (h a)) = some (l.map h)
  | [] => rfl
  | a :: l => by
    rw [List.map_cons, intsOf, intsOf_mapF h l]; rfl
theorem ev_sumL {α : Type} (h : α → Int) (l : List α) : pSum (.lst (l.map fun a => .int (h a))) = .ret (.int (l.map h).sum) := by
  show (match intsOf (l.map fun a => PV.int (h a)) with | some ns => (M.ret (PV.int ns.sum) : M PV) | none => .bad) = _
  rw [intsOf_mapF]
theorem ev_sumT {α : Type} (h : α → Int) (l : List α) : pSum (.tup (l.map fun a => .int (h a))) = .ret (.int (l.map h).sum) := by
  show (match intsOf (l.map fun a => PV.int (h a)) with | some ns => (M.ret (PV.int ns.sum) : M PV) | none => .bad) = _
  rw [intsOf_mapF]
theorem fls_int {α : Type} (h : α → Int) (n : Nat) : ∀ l : List α, fls n (l.map fun a => PV.int (h a)) = true
  | [] => by simp [fls]
  | a :: l => by rw [List.map_cons, fls, fls_int h n l]; cases n <;> rfl
theorem eqvs_nil (l : List PV) : eqv (.lst l) (.lst []) = l.isEmpty := by cases l <;> rfl
theorem ev_eqNil {α : Type} (h : α → Int) (l : List α) : pEq (.lst (l.map fun a => PV.int (h a))) (.lst []) = .ret l.isEmpty := by
  unfold pEq
  rw [if_pos ⟨(by show fls 59 _ = true; exact fls_int h 59 l), rfl⟩, eqvs_nil]
  cases l <;> rfl
theorem ev_neNil {α : Type} (h : α → Int) (l : List α) : pNe (.lst (l.map fun a => PV.int (h a))) (.lst []) = .ret (!l.isEmpty) := by
  unfold pNe
  rw [if_pos ⟨(by show fls 59 _ = true; exact fls_int h 59 l), rfl⟩, eqvs_nil]
  cases l <;> rfl
theorem eqvs_int : ∀ a b : List Int, eqvs (a.map PV.int) (b.map PV.int) = decide (a = b)
  | [], [] => rfl
  | [], _ :: _ => rfl
  | _ :: _, [] => rfl
  | x :: a, y :: b => by
    show (decide (x = y) && eqvs (a.map PV.int) (b.map PV.int)) = _
    rw [eqvs_int a b, ← Bool.decide_and]
    refine decide_eq_decide.mpr ?_
    rw [List.cons.injEq]
theorem ev_eqT (a b : List Int) : pEq (.tup (a.map PV.int)) (.tup (b.map PV.int)) = .ret (decide (a = b)) := by
  unfold pEq
  rw [if_pos ⟨(by show fls 59 _ = true; exact fls_int (fun i => i) 59 a), (by show fls 59 _ = true; exact fls_int (fun i => i) 59 b)⟩]
  congr 1
  exact eqvs_int a b
theorem ev_neT (a b : List Int) : pNe (.tup (a.map PV.int)) (.tup (b.map PV.int)) = .ret (decide (a ≠ b)) := by
  unfold pNe
  rw [if_pos ⟨(by show fls 59 _ = true; exact fls_int (fun i => i) 59 a), (by show fls 59 _ = true; exact fls_int (fun i => i) 59 b)⟩]
  congr 1
  rw [show eqv (.tup (a.map PV.int)) (.tup (b.map PV.int)) = decide (a = b) from eqvs_int a b, decide_not]
theorem ev_eqLL (a b : List Int) : pEq (.lst (a.map PV.int)) (.lst (b.map PV.int)) = .ret (decide (a = b)) := by
  unfold pEq
  rw [if_pos ⟨(by show fls 59 _ = true; exact fls_int (fun i => i) 59 a), (by show fls 59 _ = true; exact fls_int (fun i => i) 59 b)⟩]
  congr 1
  exact eqvs_int a b
theorem ev_neLL (a b : List Int) : pNe (.lst (a.map PV.int)) (.lst (b.map PV.int)) = .ret (decide (a ≠ b)) := by
  unfold pNe
  rw [if_pos ⟨(by show fls 59 _ = true; exact fls_int (fun i => i) 59 a), (by show fls 59 _ = true; exact fls_int (fun i => i) 59 b)⟩]
  congr 1
  rw [show eqv (.lst (a.map PV.int)) (.lst (b.map PV.int)) = decide (a = b) from eqvs_int a b, decide_not]
theorem ev_vOr (b : Bool) (m : M PV) : vOr (.ret (.bl b)) m = if b = true then .ret (.bl true) else m := by cases b <;> rfl
theorem ev_vAnd (b : Bool) (m : M PV) : vAnd (.ret (.bl b)) m = if b = true then m else .ret (.bl false) := by cases b <;> rfl
theorem ev_min2 (i j : Int) : pMin2 (.int i) (.int j) = .ret (.int (min i j)) := (rfl)
theorem ev_max2 (i j : Int) : pMax2 (.int i) (.int j) = .ret (.int (max i j)) := (rfl)
theorem ev_compN (f : PV → M (Option PV)) : ∀ l : List PV, (∀ a ∈ l, f a = .ret none) → compL f l = .ret []
  | [], _ => rfl
  | a :: l, e => by
    show (f a >>= fun o => compL f l >>= fun ys => M.ret (match o with | some y => y :: ys | none => ys)) = _
    rw [e a List.mem_cons_self, ev_compN f l fun b hb => e b (List.mem_cons_of_mem _ hb)]
    rfl
/-! drawn numbers -/
theorem all_if {α : Type} {Q : α → Prop} {c : Bool} {a b : M α} (h1 : c = true → a.All Q) (h2 : c = false → b.All Q) : (if c = true then a else b).All Q := by
  cases c with
  | true => exact h1 rfl
  | false => exact h2 rfl

theorem pick_all {k : Int} (hk : k < 1152921504606846976) : (m_pick .src (.int k)).All fun p => ∃ r : Nat, p = .int r ∧ ((r : Int) < k ∨ r = 0) := by
  show (if k < 2 then (M.ret (PV.int 0) : M PV) else if k < 2 ^ 250 then .pick k.toNat fun r => .ret (.int r) else .bad).All _
  by_cases c : k < 2
  · rw [if_pos c]; exact ⟨0, rfl, .inr rfl⟩
  · rw [if_neg c, if_pos (by omega)]
    exact fun r hr => ⟨r, rfl, .inl (by omega)⟩
theorem mapL_all {P : PV → Prop} (f : PV → M PV) : ∀ l : List PV, (∀ a ∈ l, (f a).All P) → (mapL f l).All fun ys => ys.length = l.length ∧ ∀ y ∈ ys, P y
  | [], _ => ⟨rfl, fun y h => nomatch h⟩
  | a :: l, e => by
    show (f a >>= fun y => mapL f l >>= fun ys => M.ret (y :: ys)).All _
    rw [M.all_bind]
    refine (e a List.mem_cons_self).mono fun y hy => ?_
    rw [M.all_bind]
    refine (mapL_all f l fun b hb => e b (List.mem_cons_of_mem _ hb)).mono fun ys ⟨h1, h2⟩ => ?_
    refine ⟨by rw [List.length_cons, List.length_cons, h1], fun z hz => ?_⟩
    rcases List.mem_cons.mp hz with rfl | hz
    · exact hy
    · exact h2 z hz
/-- drawn tests: a part of the list is left -/
theorem compL_sub (f : PV → M (Option PV)) : ∀ l : List PV, (∀ a ∈ l, (f a).All fun o => o = none ∨ o = some a) → (compL f l).All fun ys => ys.Sublist l
  | [], _ => List.Sublist.slnil
  | a :: l, e => by
    show (f a >>= fun o => compL f l >>= fun ys => M.ret (match o with | some y => y :: ys | none => ys)).All _
    rw [M.all_bind]
    refine (e a List.mem_cons_self).mono fun o ho => ?_
    rw [M.all_bind]
    refine (compL_sub f l fun b hb => e b (List.mem_cons_of_mem _ hb)).mono fun ys h => ?_
    rcases ho with rfl | rfl
    · exact h.cons a
    · exact h.cons₂ a
theorem forL_all {β : Type} {Q : Jn Unit β → Prop} (f : PV → Unit → M (Lp Unit β)) : ∀ l : List PV, (∀ a ∈ l, (f a ()).All fun r => r = .go ()) → Q (.go ()) → (forL f l ()).All Q
  | [], _, q => q
  | a :: l, e, q => by
    show (f a () >>= lpK (forL f l)).All Q
    rw [M.all_bind]
    refine (e a List.mem_cons_self).mono fun r hr => ?_
    subst hr
    exact forL_all f l (fun b hb => e b (List.mem_cons_of_mem _ hb)) q
theorem ev_app {l : List PV} {p : PV} (h : l.length < 100000) : pApp l p = .ret (l ++ [p]) := by
  unfold pApp
  rw [if_pos (Nat.lt_trans h (by decide))]
theorem ev_forApp {α : Type} (f : PV → List PV → M (List PV)) (g h : α → PV) : ∀ (l : List α) (acc : List PV), acc.length + l.length < 100000 → (∀ a ∈ l, ∀ t : List PV, t.length < 100000 → f (g a) t = .ret (t ++ [h a])) → forM f (l.map g) acc = .ret (acc ++ l.map h)
  | [], acc, _, _ => by show M.ret acc = _; rw [List.map_nil, List.append_nil]
  | a :: l, acc, hl, e => by
    show (f (g a) acc >>= fun t' => forM f (l.map g) t') = _
    rw [List.length_cons] at hl
    rw [e a List.mem_cons_self acc (by omega)]
    show forM f (l.map g) (acc ++ [h a]) = _
    rw [ev_forApp f g h l _ (by rw [List.length_append, List.length_singleton]; omega) fun b hb => e b (List.mem_cons_of_mem _ hb), List.append_assoc, List.map_cons]
    rfl
/-! tables -/
def tab (N : Nat) (t : Nat → Int) : List PV := (List.range N).map fun x => .int (t x)
theorem tab_len (N : Nat) (t : Nat → Int) : (tab N t).length = N := by unfold tab; rw [List.length_map, List.length_range]
theorem tab_get {N : Nat} {t : Nat → Int} {x : Nat} (h : x < N) : (tab N t)[x]? = some (.int (t x)) := by
  unfold tab
  rw [List.getElem?_map, List.getElem?_range h]
  rfl
theorem ev_itemT {l : List PV} {x : Nat} {p : PV} (h : l[x]? = some p) : pItem (.tup l) (.int x) = .ret p := by
  show (match atI l x with | some v => (M.ret v : M PV) | none => .bad) = _
  rw [atI_nat h]
theorem ev_itemL {l : List PV} {x : Nat} {p : PV} (h : l[x]? = some p) : pItem (.lst l) (.int x) = .ret p := by
  show (match atI l x with | some v => (M.ret v : M PV) | none => .bad) = _
  rw [atI_nat h]
theorem ev_item0 (a : PV) (l : List PV) : pItem (.tup (a :: l)) (.int 0) = .ret a := ev_itemT (x := 0) rfl
theorem ev_item1 (a b : PV) (l : List PV) : pItem (.tup (a :: b :: l)) (.int 1) = .ret b := ev_itemT (x := 1) rfl
theorem ev_tab {N : Nat} {t : Nat → Int} {x : Nat} (h : x < N) : pItem (.tup (tab N t)) (.int x) = .ret (.int (t x)) := ev_itemT (tab_get h)
def num : PV → Int
  | .int i => i
  | _ => 0
/-- a list of 0s and 1s is a table -/
theorem tab_of (ys : List PV) (h : ∀ y ∈ ys, y = .int 0 ∨ y = .int 1) : ∃ t : Nat → Int, ys = tab ys.length t ∧ ∀ x, x < ys.length → t x = 0 ∨ t x = 1 := by
  refine ⟨fun x => num (ys.getD x .non), ?_, fun x hx => ?_⟩
  · refine List.ext_getElem? fun x => ?_
    by_cases hx : x < ys.length
    · rw [tab_get hx, List.getElem?_eq_getElem hx]
      rw [List.getD_eq_getElem?_getD, List.getElem?_eq_getElem hx]
      rcases h _ (List.getElem_mem hx) with e | e <;> rw [e] <;> rfl
    · rw [List.getElem?_eq_none (by omega), List.getElem?_eq_none (by rw [tab_len]; omega)]
  · have z : num (ys.getD x .non) = num ys[x] := by rw [List.getD_eq_getElem?_getD, List.getElem?_eq_getElem hx]; rfl
    rcases h _ (List.getElem_mem hx) with e | e
    · exact .inl (z.trans (by rw [e]; rfl))
    · exact .inr (z.trans (by rw [e]; rfl))
/-- a function of n bits by its table -/
def fnc (n : Nat) (t : Nat → Int) : PV := .tup [.int n, .tup (tab (2 ^ n) t)]
theorem ev_fnc0 (n : Nat) (t : Nat → Int) : pItem (fnc n t) (.int 0) = .ret (.int n) := ev_item0 _ _
theorem ev_fnc1 (n : Nat) (t : Nat → Int) : pItem (fnc n t) (.int 1) = .ret (.tup (tab (2 ^ n) t)) := ev_item1 _ _ _
/-! bits of numbers -/
theorem band (a b : Nat) : Builtin.bitAnd (a : Int) (b : Int) = ((a &&& b : Nat) : Int) := rfl
theorem bxor (a b : Nat) : Builtin.bitXor (a : Int) (b : Int) = ((a ^^^ b : Nat) : Int) := by
  rw [PyProof.Rows.bitXor_and, band]
  have := BF.xor_and a b
  omega
theorem ev_andN (a b : Nat) : pAnd (.int a) (.int b) = .ret (.int ((a &&& b : Nat) : Int)) := (rfl)
theorem ev_xorN (a b : Nat) : pXor (.int a) (.int b) = .ret (.int ((a ^^^ b : Nat) : Int)) := by rw [ev_xor, bxor]

theorem cast_div (a b : Nat) : (a : Int) / (b : Int) = ((a / b : Nat) : Int) := (Int.natCast_ediv a b).symm
theorem cast_mod2 (a : Nat) : (a : Int) % 2 = ((a % 2 : Nat) : Int) := by omega
theorem ev_bitM (x i : Nat) (hi : i < 30) : (pDiv (.int x) (.int ((2 ^ i : Nat) : Int)) >>= fun p => pMod p (.int 2)) = .ret (.int (BF.bi x i)) := by
  have h1 : 0 < 2 ^ i := Nat.two_pow_pos i
  have h2 : 2 ^ i < 2 ^ 30 := Nat.pow_lt_pow_right (by decide) hi
  rw [ev_divP _ _ (by omega) (by omega), ev_bind, ev_modP _ _ (by decide), cast_div, cast_mod2]
  congr 2
  unfold BF.bi
  rw [Nat.testBit_eq_decide_div_mod_eq]
  by_cases c : x / 2 ^ i % 2 = 1
  · simp [c]
  · have : x / 2 ^ i % 2 = 0 := by omega
    simp [this]
end ML

namespace K
open PySem PySem.Spec PyProof.Rows L2 ML
def topS (i : Nat) : Stmt := PySem.Challenge.pw_bitsasked_k39_whole_changes_of_rising_fu.main.body.getD i (.Pass ⟨0, 0, 0, 0⟩)
abbrev s_has_bit : Stmt := topS 1
abbrev s_matters_at : Stmt := topS 3
abbrev s_changes_of : Stmt := topS 4
abbrev s_all_changes : Stmt := topS 5
abbrev s_bits_hung_on : Stmt := topS 6
abbrev s_bit_of : Stmt := topS 8
abbrev s_input_sum : Stmt := topS 9
abbrev s_input_turned : Stmt := topS 10
abbrev s_turned_at : Stmt := topS 12
abbrev s_opposite_of : Stmt := topS 13
abbrev s_dual_of : Stmt := topS 14
abbrev s__law_open_cells : Stmt := topS 16
abbrev s__law_pick : Stmt := topS 17
abbrev s__law_bit : Stmt := topS 18
abbrev s__law_ones : Stmt := topS 19
abbrev s__law_function : Stmt := topS 20
abbrev s__law_rising : Stmt := topS 21
abbrev s__law_every : Stmt := topS 22
abbrev s__law_bound : Stmt := topS 23
abbrev s__law_rises_right : Stmt := topS 24
abbrev s_law : Stmt := topS 25
/-- the names of built-ins are nobody's -/
structure Bt (mg : Str → Option Value) : Prop where
  abs : mg "abs" = none
  enumerate : mg "enumerate" = none
  int : mg "int" = none
  len : mg "len" = none
  list : mg "list" = none
  min : mg "min" = none
  range : mg "range" = none
  sum : mg "sum" = none
  tuple : mg "tuple" = none
theorem sc_has_bit : FnScope ["s", "i"] ["s", "i"] (defScope s_has_bit) := ⟨rfl, rfl, rfl, by decide +kernel, rfl, by decide +kernel, by decide +kernel⟩
theorem sc_matters_at : FnScope ["function", "i", "x", "other"] ["function", "i", "x"] (defScope s_matters_at) := ⟨rfl, rfl, rfl, by decide +kernel, rfl, by decide +kernel, by decide +kernel⟩
theorem sc_changes_of : FnScope ["function", "i", "x"] ["function", "i"] (defScope s_changes_of) := ⟨rfl, rfl, rfl, by decide +kernel, rfl, by decide +kernel, by decide +kernel⟩
theorem sc_all_changes : FnScope ["function", "i"] ["function"] (defScope s_all_changes) := ⟨rfl, rfl, rfl, by decide +kernel, rfl, by decide +kernel, by decide +kernel⟩
theorem sc_bits_hung_on : FnScope ["function", "i"] ["function"] (defScope s_bits_hung_on) := ⟨rfl, rfl, rfl, by decide +kernel, rfl, by decide +kernel, by decide +kernel⟩
theorem sc_bit_of : FnScope ["x", "i"] ["x", "i"] (defScope s_bit_of) := ⟨rfl, rfl, rfl, by decide +kernel, rfl, by decide +kernel, by decide +kernel⟩
theorem sc_input_sum : FnScope ["x", "found"] ["x"] (defScope s_input_sum) := ⟨rfl, rfl, rfl, by decide +kernel, rfl, by decide +kernel, by decide +kernel⟩
theorem sc_input_turned : FnScope ["x", "lot", "i"] ["x", "lot"] (defScope s_input_turned) := ⟨rfl, rfl, rfl, by decide +kernel, rfl, by decide +kernel, by decide +kernel⟩
theorem sc_turned_at : FnScope ["f", "lot", "x"] ["f", "lot"] (defScope s_turned_at) := ⟨rfl, rfl, rfl, by decide +kernel, rfl, by decide +kernel, by decide +kernel⟩
theorem sc_opposite_of : FnScope ["f", "answer"] ["f"] (defScope s_opposite_of) := ⟨rfl, rfl, rfl, by decide +kernel, rfl, by decide +kernel, by decide +kernel⟩
theorem sc_dual_of : FnScope ["f"] ["f"] (defScope s_dual_of) := ⟨rfl, rfl, rfl, by decide +kernel, rfl, by decide +kernel, by decide +kernel⟩
theorem sc__law_open_cells : FnScope ["script", "stirred", "cell", "cells"] ["script"] (defScope s__law_open_cells) := ⟨rfl, rfl, rfl, by decide +kernel, rfl, by decide +kernel, by decide +kernel⟩
theorem sc__law_pick : FnScope ["source", "most", "cells", "others", "lap", "stirred"] ["source", "most"] (defScope s__law_pick) := ⟨rfl, rfl, rfl, by decide +kernel, rfl, by decide +kernel, by decide +kernel⟩
theorem sc__law_bit : FnScope ["x", "i"] ["x", "i"] (defScope s__law_bit) := ⟨rfl, rfl, rfl, by decide +kernel, rfl, by decide +kernel, by decide +kernel⟩
theorem sc__law_ones : FnScope ["x", "i"] ["x"] (defScope s__law_ones) := ⟨rfl, rfl, rfl, by decide +kernel, rfl, by decide +kernel, by decide +kernel⟩
theorem sc__law_function : FnScope ["source", "n", "lot", "way", "size", "some", "turn", "x"] ["source", "n"] (defScope s__law_function) := ⟨rfl, rfl, rfl, by decide +kernel, rfl, by decide +kernel, by decide +kernel⟩
theorem sc__law_rising : FnScope ["source", "n", "some", "table", "x", "way", "size", "weights", "bound", "turn", "i", "lot", "w"] ["source", "n"] (defScope s__law_rising) := ⟨rfl, rfl, rfl, by decide +kernel, rfl, by decide +kernel, by decide +kernel⟩
theorem sc__law_every : FnScope ["n", "found", "i", "late", "one", "two", "k"] ["n"] (defScope s__law_every) := ⟨rfl, rfl, rfl, by decide +kernel, rfl, by decide +kernel, by decide +kernel⟩
theorem sc__law_bound : FnScope ["n", "x"] ["n"] (defScope s__law_bound) := ⟨rfl, rfl, rfl, by decide +kernel, rfl, by decide +kernel, by decide +kernel⟩
theorem sc__law_rises_right : FnScope ["f", "total", "fits", "n", "table", "x"] ["f"] (defScope s__law_rises_right) := ⟨rfl, rfl, rfl, by decide +kernel, rfl, by decide +kernel, by decide +kernel⟩
theorem sc_law : FnScope ["script", "source", "k", "every", "lap", "n", "f", "ones", "i", "hung", "lot", "late", "mask", "g", "even", "x", "high", "total", "least", "table"] ["script"] (defScope s_law) := ⟨rfl, rfl, rfl, by decide +kernel, rfl, by decide +kernel, by decide +kernel⟩
def m_has_bit (s_a i_a : PV) : M PV := (((M.ret s_a >>= fun p => (M.ret (PV.int 1) >>= fun p => M.ret i_a >>= fun q => pShl p q) >>= fun q => pDiv p q) >>= fun p => M.ret (PV.int 2) >>= fun q => pMod p q) >>= fun p => M.ret (PV.int 1) >>= fun q => pEq p q >>= fun c => M.ret (PV.bl c))
def m_matters_at (function_a i_a x_a : PV) : M PV := ((((M.ret x_a >>= fun p0 => M.ret i_a >>= fun p1 => ap2 m_has_bit [p0, p1]) >>= fun p => pTru p) >>= fun k => if k = true then (M.ret x_a >>= fun p => (M.ret (PV.int 1) >>= fun p => M.ret i_a >>= fun q => pShl p q) >>= fun q => pSub p q) else (M.ret x_a >>= fun p => (M.ret (PV.int 1) >>= fun p => M.ret i_a >>= fun q => pShl p q) >>= fun q => pAdd p q)) >>= fun other_1 => (((M.ret function_a >>= fun p => M.ret (PV.int 1) >>= fun q => pItem p q) >>= fun p => M.ret x_a >>= fun q => pItem p q) >>= fun p => ((M.ret function_a >>= fun p => M.ret (PV.int 1) >>= fun q => pItem p q) >>= fun p => M.ret other_1 >>= fun q => pItem p q) >>= fun q => pNe p q >>= fun c => M.ret (PV.bl c)))
def m_changes_of (function_a i_a : PV) : M PV := ((((M.ret (PV.int 1) >>= fun p => (M.ret function_a >>= fun p => M.ret (PV.int 0) >>= fun q => pItem p q) >>= fun q => pShl p q) >>= fun p => pRange (PV.int 0) p) >>= fun xs => compL (fun x_1 => turnM (((M.ret function_a >>= fun p0 => M.ret i_a >>= fun p1 => M.ret x_1 >>= fun p2 => ap3 m_matters_at [p0, p1, p2]) >>= fun p => pTru p)) (M.ret x_1)) xs >>= fun ys => M.ret (PV.lst ys)) >>= fun p => pLen p)
def m_all_changes (function_a : PV) : M PV := ((((M.ret function_a >>= fun p => M.ret (PV.int 0) >>= fun q => pItem p q) >>= fun p => pRange (PV.int 0) p) >>= fun xs => mapL (fun i_1 => (M.ret function_a >>= fun p0 => M.ret i_1 >>= fun p1 => ap2 m_changes_of [p0, p1])) xs >>= fun ys => M.ret (PV.lst ys)) >>= fun p => pSum p)
def m_bits_hung_on (function_a : PV) : M PV := ((((M.ret function_a >>= fun p => M.ret (PV.int 0) >>= fun q => pItem p q) >>= fun p => pRange (PV.int 0) p) >>= fun xs => compL (fun i_1 => turnM (((M.ret function_a >>= fun p0 => M.ret i_1 >>= fun p1 => ap2 m_changes_of [p0, p1]) >>= fun p => M.ret (PV.int 0) >>= fun q => pGt p q)) (M.ret i_1)) xs >>= fun ys => M.ret (PV.lst ys)) >>= fun p => pTuple p)
def m_bit_of (x_a i_a : PV) : M PV := ((M.ret x_a >>= fun p => (M.ret (PV.int 1) >>= fun p => M.ret i_a >>= fun q => pShl p q) >>= fun q => pDiv p q) >>= fun p => M.ret (PV.int 2) >>= fun q => pMod p q)
def m_input_sum (x_a : PV) : M PV := (M.ret (PV.int 0) >>= fun found_1 => (ML.whileM (fun t_2 => (M.ret t_2.1 >>= fun p => M.ret (PV.int 0) >>= fun q => pGt p q)) (fun t_2 => ((M.ret t_2.2 >>= fun p => (M.ret t_2.1 >>= fun p => M.ret (PV.int 2) >>= fun q => pMod p q) >>= fun q => pAdd p q) >>= fun found_3 => ((M.ret t_2.1 >>= fun p => M.ret (PV.int 2) >>= fun q => pDiv p q) >>= fun x_4 => M.ret (x_4, found_3)))) fuel ((x_a, found_1) : PV × PV) >>= fun t_2 => M.ret t_2.2))
def m_input_turned (x_a lot_a : PV) : M PV := (M.ret x_a >>= fun p => (((M.ret lot_a >>= fun p => pSeq p) >>= fun xs => mapL (fun i_1 => ((M.ret (PV.int 1) >>= fun p => (M.ret (PV.int 2) >>= fun p => (M.ret x_a >>= fun p0 => M.ret i_1 >>= fun p1 => ap2 m_bit_of [p0, p1]) >>= fun q => pMul p q) >>= fun q => pSub p q) >>= fun p => (M.ret (PV.int 1) >>= fun p => M.ret i_1 >>= fun q => pShl p q) >>= fun q => pMul p q)) xs >>= fun ys => M.ret (PV.lst ys)) >>= fun p => pSum p) >>= fun q => pAdd p q)
def m_turned_at (f_a lot_a : PV) : M PV := ((M.ret f_a >>= fun p => M.ret (PV.int 0) >>= fun q => pItem p q) >>= fun p0 => ((((M.ret (PV.int 1) >>= fun p => (M.ret f_a >>= fun p => M.ret (PV.int 0) >>= fun q => pItem p q) >>= fun q => pShl p q) >>= fun p => pRange (PV.int 0) p) >>= fun xs => mapL (fun x_1 => ((M.ret f_a >>= fun p => M.ret (PV.int 1) >>= fun q => pItem p q) >>= fun p => (M.ret x_1 >>= fun p0 => M.ret lot_a >>= fun p1 => ap2 m_input_turned [p0, p1]) >>= fun q => pItem p q)) xs >>= fun ys => M.ret (PV.lst ys)) >>= fun p => pTuple p) >>= fun p1 => M.ret (PV.tup [p0, p1]))
def m_opposite_of (f_a : PV) : M PV := ((M.ret f_a >>= fun p => M.ret (PV.int 0) >>= fun q => pItem p q) >>= fun p0 => ((((M.ret f_a >>= fun p => M.ret (PV.int 1) >>= fun q => pItem p q) >>= fun p => pSeq p) >>= fun xs => mapL (fun answer_1 => (M.ret (PV.int 1) >>= fun p => M.ret answer_1 >>= fun q => pSub p q)) xs >>= fun ys => M.ret (PV.lst ys)) >>= fun p => pTuple p) >>= fun p1 => M.ret (PV.tup [p0, p1]))
def m_dual_of (f_a : PV) : M PV := ((M.ret f_a >>= fun p0 => (((M.ret f_a >>= fun p => M.ret (PV.int 0) >>= fun q => pItem p q) >>= fun p => pRange (PV.int 0) p) >>= fun l => M.ret (PV.tup l)) >>= fun p1 => ap2 m_turned_at [p0, p1]) >>= fun p0 => ap1 m_opposite_of [p0])
abbrev m__law_pick : PV → PV → M PV := m_pick
def m__law_bit (x_a i_a : PV) : M PV := (((M.ret x_a >>= fun p => (M.ret (PV.int 1) >>= fun p => M.ret i_a >>= fun q => pShl p q) >>= fun q => pDiv p q) >>= fun p => pIntOf p) >>= fun p => M.ret (PV.int 2) >>= fun q => pMod p q)
def m__law_ones (x_a : PV) : M PV := (((M.ret (PV.int 9) >>= fun p => pRange (PV.int 0) p) >>= fun xs => compL (fun i_1 => turnM (((M.ret x_a >>= fun p0 => M.ret i_1 >>= fun p1 => ap2 m__law_bit [p0, p1]) >>= fun p => M.ret (PV.int 1) >>= fun q => pEq p q)) (M.ret i_1)) xs >>= fun ys => M.ret (PV.lst ys)) >>= fun p => pLen p)
def m__law_function (source_a n_a : PV) : M PV := (((M.ret source_a >>= fun p0 => M.ret (PV.int 5) >>= fun p1 => ap2 m__law_pick [p0, p1]) >>= fun p0 => (M.ret (PV.int 1) >>= fun p => M.ret n_a >>= fun q => pShl p q) >>= fun p1 => M.ret (PV.tup [p0, p1])) >>= fun p => unpk2 p fun way_1 size_2 => ((M.ret way_1 >>= fun p => M.ret (PV.int 0) >>= fun q => pEq p q) >>= fun k => if k = true then ((M.ret n_a >>= fun p0 => (((M.ret size_2 >>= fun p => pRange (PV.int 0) p) >>= fun xs => mapL (fun x_3 => (M.ret source_a >>= fun p0 => M.ret (PV.int 2) >>= fun p1 => ap2 m__law_pick [p0, p1])) xs >>= fun ys => M.ret (PV.lst ys)) >>= fun p => pTuple p) >>= fun p1 => M.ret (PV.tup [p0, p1])) >>= fun p => M.ret (p)) else ((M.ret way_1 >>= fun p => M.ret (PV.int 1) >>= fun q => pEq p q) >>= fun k => if k = true then ((M.ret n_a >>= fun p0 => (((M.ret size_2 >>= fun p => pRange (PV.int 0) p) >>= fun xs => mapL (fun x_4 => (((M.ret source_a >>= fun p0 => M.ret (PV.int 4) >>= fun p1 => ap2 m__law_pick [p0, p1]) >>= fun p => M.ret (PV.int 0) >>= fun q => pEq p q >>= fun c => M.ret (PV.bl c)) >>= fun p => pIntOf p)) xs >>= fun ys => M.ret (PV.lst ys)) >>= fun p => pTuple p) >>= fun p1 => M.ret (PV.tup [p0, p1])) >>= fun p => M.ret (p)) else ((M.ret way_1 >>= fun p => M.ret (PV.int 2) >>= fun q => pEq p q) >>= fun k => if k = true then ((((M.ret (PV.int 1) >>= fun p => (M.ret source_a >>= fun p0 => M.ret (PV.int 3) >>= fun p1 => ap2 m__law_pick [p0, p1]) >>= fun q => pAdd p q) >>= fun p => pRange (PV.int 0) p) >>= fun xs => mapL (fun turn_6 => (M.ret source_a >>= fun p0 => M.ret size_2 >>= fun p1 => ap2 m__law_pick [p0, p1])) xs >>= fun ys => M.ret (PV.lst ys)) >>= fun some_5 => ((M.ret n_a >>= fun p0 => (((M.ret size_2 >>= fun p => pRange (PV.int 0) p) >>= fun xs => mapL (fun x_7 => ((((M.ret some_5 >>= fun p => pSeq p) >>= fun xs => compL (fun lot_8 => turnM (((M.ret x_7 >>= fun p => M.ret lot_8 >>= fun q => pAnd p q) >>= fun p => M.ret lot_8 >>= fun q => pEq p q)) (M.ret lot_8)) xs >>= fun ys => M.ret (PV.lst ys)) >>= fun p => M.ret (PV.lst []) >>= fun q => pNe p q >>= fun c => M.ret (PV.bl c)) >>= fun p => pIntOf p)) xs >>= fun ys => M.ret (PV.lst ys)) >>= fun p => pTuple p) >>= fun p1 => M.ret (PV.tup [p0, p1])) >>= fun p => M.ret (p))) else ((M.ret source_a >>= fun p0 => M.ret size_2 >>= fun p1 => ap2 m__law_pick [p0, p1]) >>= fun lot_9 => ((M.ret way_1 >>= fun p => M.ret (PV.int 3) >>= fun q => pEq p q) >>= fun k => if k = true then ((M.ret n_a >>= fun p0 => (((M.ret size_2 >>= fun p => pRange (PV.int 0) p) >>= fun xs => mapL (fun x_10 => ((((M.ret x_10 >>= fun p => M.ret lot_9 >>= fun q => pAnd p q) >>= fun p0 => ap1 m__law_ones [p0]) >>= fun p => pIntOf p) >>= fun p => M.ret (PV.int 2) >>= fun q => pMod p q)) xs >>= fun ys => M.ret (PV.lst ys)) >>= fun p => pTuple p) >>= fun p1 => M.ret (PV.tup [p0, p1])) >>= fun p => M.ret (p)) else (M.ret n_a >>= fun p0 => (((M.ret size_2 >>= fun p => pRange (PV.int 0) p) >>= fun xs => mapL (fun x_11 => (((M.ret x_11 >>= fun p => M.ret lot_9 >>= fun q => pAnd p q) >>= fun p => M.ret lot_9 >>= fun q => pEq p q >>= fun c => M.ret (PV.bl c)) >>= fun p => pIntOf p)) xs >>= fun ys => M.ret (PV.lst ys)) >>= fun p => pTuple p) >>= fun p1 => M.ret (PV.tup [p0, p1]))))))))
def m__law_rising (source_a n_a : PV) : M PV := (((M.ret source_a >>= fun p0 => M.ret (PV.int 3) >>= fun p1 => ap2 m__law_pick [p0, p1]) >>= fun p0 => (M.ret (PV.int 1) >>= fun p => M.ret n_a >>= fun q => pShl p q) >>= fun p1 => M.ret (PV.tup [p0, p1])) >>= fun p => unpk2 p fun way_1 size_2 => (((M.ret source_a >>= fun p0 => M.ret (PV.int 5) >>= fun p1 => ap2 m__law_pick [p0, p1]) >>= fun p => pRange (PV.int 0) p) >>= fun xs => mapL (fun turn_4 => (M.ret source_a >>= fun p0 => M.ret size_2 >>= fun p1 => ap2 m__law_pick [p0, p1])) xs >>= fun some_3 => (((M.ret n_a >>= fun p => pRange (PV.int 0) p) >>= fun xs => mapL (fun i_5 => (M.ret source_a >>= fun p0 => M.ret (PV.int 4) >>= fun p1 => ap2 m__law_pick [p0, p1])) xs >>= fun ys => M.ret (PV.lst ys)) >>= fun weights_6 => (M.ret source_a >>= fun p0 => M.ret (PV.int 7) >>= fun p1 => ap2 m__law_pick [p0, p1]) >>= fun bound_7 => (M.ret (PV.lst []) >>= fun p => asL p fun table_8 => ((M.ret size_2 >>= fun p => pRange (PV.int 0) p) >>= fun xs => ML.forM (fun x_10 t_9 => ((M.ret way_1 >>= fun p => M.ret (PV.int 0) >>= fun q => pEq p q) >>= fun k => if k = true then (((((M.ret (PV.lst some_3) >>= fun p => pSeq p) >>= fun xs => compL (fun lot_12 => turnM (((M.ret x_10 >>= fun p => M.ret lot_12 >>= fun q => pAnd p q) >>= fun p => M.ret lot_12 >>= fun q => pEq p q)) (M.ret lot_12)) xs >>= fun ys => M.ret (PV.lst ys)) >>= fun p => M.ret (PV.lst []) >>= fun q => pNe p q >>= fun c => M.ret (PV.bl c)) >>= fun p => pIntOf p) >>= fun p => pApp t_9 p >>= fun table_11 => M.ret table_11) else ((M.ret way_1 >>= fun p => M.ret (PV.int 1) >>= fun q => pEq p q) >>= fun k => if k = true then ((((((M.ret weights_6 >>= fun p => pSeq p >>= fun xs => M.ret (enumP xs)) >>= fun xs => mapL (fun p => unpk2 p fun i_14 w_15 => (M.ret w_15 >>= fun p => (M.ret x_10 >>= fun p0 => M.ret i_14 >>= fun p1 => ap2 m__law_bit [p0, p1]) >>= fun q => pMul p q)) xs >>= fun ys => M.ret (PV.lst ys)) >>= fun p => pSum p) >>= fun p => M.ret bound_7 >>= fun q => pGe p q >>= fun c => M.ret (PV.bl c)) >>= fun p => pIntOf p) >>= fun p => pApp t_9 p >>= fun table_13 => M.ret table_13) else ((((M.ret x_10 >>= fun p0 => ap1 m__law_ones [p0]) >>= fun p => M.ret bound_7 >>= fun q => pGe p q >>= fun c => M.ret (PV.bl c)) >>= fun p => pIntOf p) >>= fun p => pApp t_9 p >>= fun table_16 => M.ret table_16)))) xs (table_8 : List PV) >>= fun t_9 => (M.ret n_a >>= fun p0 => (M.ret (PV.lst t_9) >>= fun p => pTuple p) >>= fun p1 => M.ret (PV.tup [p0, p1])))))))
def m__law_every (n_a : PV) : M PV := (((M.ret (PV.int 0) >>= fun p0 => M.ret (PV.tup [p0])) >>= fun p0 => (M.ret (PV.int 1) >>= fun p0 => M.ret (PV.tup [p0])) >>= fun p1 => M.ret (PV.lst [p0, p1])) >>= fun found_1 => ((M.ret n_a >>= fun p => pRange (PV.int 0) p) >>= fun xs => ML.forM (fun i_3 t_2 => (M.ret (PV.lst []) >>= fun late_4 => ((M.ret t_2 >>= fun p => pSeq p) >>= fun xs => ML.forM (fun one_6 t_5 => ((M.ret t_5 >>= fun p => ((M.ret t_2 >>= fun p => pSeq p) >>= fun xs => compL (fun two_8 => turnM (((((M.ret one_6 >>= fun p => pLen p) >>= fun p => pRange (PV.int 0) p) >>= fun xs => compL (fun k_9 => turnM (((M.ret one_6 >>= fun p => M.ret k_9 >>= fun q => pItem p q) >>= fun p => (M.ret two_8 >>= fun p => M.ret k_9 >>= fun q => pItem p q) >>= fun q => pGt p q)) (M.ret k_9)) xs >>= fun ys => M.ret (PV.lst ys)) >>= fun p => M.ret (PV.lst []) >>= fun q => pEq p q)) ((M.ret one_6 >>= fun p => M.ret two_8 >>= fun q => pAdd p q))) xs >>= fun ys => M.ret (PV.lst ys)) >>= fun q => pAdd p q) >>= fun late_7 => M.ret late_7)) xs (late_4 : PV) >>= fun t_5 => ((M.ret t_5 >>= fun p => pList p) >>= fun found_10 => M.ret found_10)))) xs (found_1 : PV) >>= fun t_2 => M.ret t_2))
def m__law_bound (n_a : PV) : M PV := (M.ret (PV.int 2) >>= fun p => ((((M.ret (PV.int 1) >>= fun p => M.ret n_a >>= fun q => pShl p q) >>= fun p => pRange (PV.int 0) p) >>= fun xs => compL (fun x_1 => turnM (((M.ret (PV.int 2) >>= fun p => (M.ret x_1 >>= fun p0 => ap1 m__law_ones [p0]) >>= fun q => pMul p q) >>= fun p => M.ret n_a >>= fun q => pGt p q)) (((M.ret (PV.int 2) >>= fun p => (M.ret x_1 >>= fun p0 => ap1 m__law_ones [p0]) >>= fun q => pMul p q) >>= fun p => M.ret n_a >>= fun q => pSub p q))) xs >>= fun ys => M.ret (PV.lst ys)) >>= fun p => pSum p) >>= fun q => pMul p q)
def m__law_rises_right (f_a : PV) : M PV := (M.ret f_a >>= fun p => unpk2 p fun n_1 table_2 => ((M.ret (PV.int 2) >>= fun p => ((((M.ret (PV.int 1) >>= fun p => M.ret n_1 >>= fun q => pShl p q) >>= fun p => pRange (PV.int 0) p) >>= fun xs => compL (fun x_4 => turnM (((M.ret table_2 >>= fun p => M.ret x_4 >>= fun q => pItem p q) >>= fun p => M.ret (PV.int 1) >>= fun q => pEq p q)) (((M.ret (PV.int 2) >>= fun p => (M.ret x_4 >>= fun p0 => ap1 m__law_ones [p0]) >>= fun q => pMul p q) >>= fun p => M.ret n_1 >>= fun q => pSub p q))) xs >>= fun ys => M.ret (PV.lst ys)) >>= fun p => pSum p) >>= fun q => pMul p q) >>= fun total_3 => ((mOr (((M.ret f_a >>= fun p0 => ap1 m_all_changes [p0]) >>= fun p => M.ret total_3 >>= fun q => pNe p q)) ((M.ret total_3 >>= fun p => (M.ret n_1 >>= fun p0 => ap1 m__law_bound [p0]) >>= fun q => pGt p q))) >>= fun k => if k = true then (M.ret (PV.bl false) >>= fun p => M.ret (p)) else (((((M.ret (PV.int 1) >>= fun p => M.ret n_1 >>= fun q => pShl p q) >>= fun p => pRange (PV.int 0) p) >>= fun xs => compL (fun x_6 => turnM ((mAnd (((M.ret (PV.int 2) >>= fun p => (M.ret x_6 >>= fun p0 => ap1 m__law_ones [p0]) >>= fun q => pMul p q) >>= fun p => M.ret n_1 >>= fun q => pNe p q)) (((M.ret table_2 >>= fun p => M.ret x_6 >>= fun q => pItem p q) >>= fun p => (((M.ret (PV.int 2) >>= fun p => (M.ret x_6 >>= fun p0 => ap1 m__law_ones [p0]) >>= fun q => pMul p q) >>= fun p => M.ret n_1 >>= fun q => pGt p q >>= fun c => M.ret (PV.bl c)) >>= fun p => pIntOf p) >>= fun q => pNe p q)))) (M.ret x_6)) xs >>= fun ys => M.ret (PV.lst ys)) >>= fun p => M.ret (PV.lst []) >>= fun q => pEq p q >>= fun c => M.ret (PV.bl c)) >>= fun fits_5 => ((M.ret total_3 >>= fun p => (M.ret n_1 >>= fun p0 => ap1 m__law_bound [p0]) >>= fun q => pEq p q >>= fun c => M.ret (PV.bl c)) >>= fun p => M.ret fits_5 >>= fun q => pEq p q >>= fun c => M.ret (PV.bl c))))))
def m_law : M PV := ((((M.ret .src >>= fun p0 => M.ret (PV.int 8) >>= fun p1 => ap2 m__law_pick [p0, p1]) >>= fun p => M.ret (PV.int 0) >>= fun q => pEq p q) >>= fun k => if k = true then M.ret (PV.int 4) else (M.ret .src >>= fun p0 => M.ret (PV.int 4) >>= fun p1 => ap2 m__law_pick [p0, p1])) >>= fun k_1 => ((M.ret k_1 >>= fun p0 => ap1 m__law_every [p0]) >>= fun every_2 => ((mOr (((M.ret every_2 >>= fun p => pLen p) >>= fun p => ((M.ret (PV.int 2) >>= fun p0 => M.ret (PV.int 3) >>= fun p1 => M.ret (PV.int 6) >>= fun p2 => M.ret (PV.int 20) >>= fun p3 => M.ret (PV.int 168) >>= fun p4 => M.ret (PV.lst [p0, p1, p2, p3, p4])) >>= fun p => M.ret k_1 >>= fun q => pItem p q) >>= fun q => pNe p q)) ((((M.ret every_2 >>= fun p => pSeq p) >>= fun xs => compL (fun table_3 => turnM ((mNot ((((M.ret k_1 >>= fun p0 => M.ret table_3 >>= fun p1 => M.ret (PV.tup [p0, p1])) >>= fun p0 => ap1 m__law_rises_right [p0]) >>= fun p => pTru p)))) (M.ret table_3)) xs >>= fun ys => M.ret (PV.lst ys)) >>= fun p => M.ret (PV.lst []) >>= fun q => pNe p q))) >>= fun k => if k = true then (M.ret (PV.bl false) >>= fun p => M.ret (p)) else ((M.ret (PV.int 4) >>= fun p => pRange (PV.int 0) p) >>= fun xs => ML.forL (fun lap_5 t_4 => ((M.ret .src >>= fun p0 => M.ret (PV.int 7) >>= fun p1 => ap2 m__law_pick [p0, p1]) >>= fun n_6 => ((M.ret .src >>= fun p0 => M.ret n_6 >>= fun p1 => ap2 m__law_rising [p0, p1]) >>= fun f_7 => ((mNot (((M.ret f_7 >>= fun p0 => ap1 m__law_rises_right [p0]) >>= fun p => pTru p))) >>= fun k => if k = true then (M.ret (PV.bl false) >>= fun p => M.ret ((Lp.out p))) else (((M.ret f_7 >>= fun p => M.ret (PV.int 1) >>= fun q => pItem p q) >>= fun p => pSum p) >>= fun ones_8 => ((M.ret n_6 >>= fun p => pRange (PV.int 0) p) >>= fun xs => ML.forL (fun i_10 t_9 => (((((M.ret (PV.int 1) >>= fun p => M.ret n_6 >>= fun q => pShl p q) >>= fun p => pRange (PV.int 0) p) >>= fun xs => compL (fun x_12 => turnM (((M.ret x_12 >>= fun p0 => M.ret i_10 >>= fun p1 => ap2 m__law_bit [p0, p1]) >>= fun p => M.ret (PV.int 1) >>= fun q => pEq p q)) (((M.ret f_7 >>= fun p => M.ret (PV.int 1) >>= fun q => pItem p q) >>= fun p => M.ret x_12 >>= fun q => pItem p q))) xs >>= fun ys => M.ret (PV.lst ys)) >>= fun p => pSum p) >>= fun high_11 => (((M.ret f_7 >>= fun p0 => M.ret i_10 >>= fun p1 => ap2 m_changes_of [p0, p1]) >>= fun p => (M.ret (PV.int 2) >>= fun p => ((M.ret (PV.int 2) >>= fun p => M.ret high_11 >>= fun q => pMul p q) >>= fun p => M.ret ones_8 >>= fun q => pSub p q) >>= fun q => pMul p q) >>= fun q => pNe p q) >>= fun k => if k = true then (M.ret (PV.bl false) >>= fun p => M.ret ((Lp.out (Lp.out p)))) else M.ret (Lp.go ())))) xs () >>= fun j => jn (fun t_9 => ((((M.ret n_6 >>= fun p => pRange (PV.int 0) p) >>= fun xs => compL (fun i_14 => turnM (((M.ret f_7 >>= fun p0 => M.ret i_14 >>= fun p1 => ap2 m_changes_of [p0, p1]) >>= fun p => M.ret (PV.int 0) >>= fun q => pGt p q)) (M.ret i_14)) xs >>= fun ys => M.ret (PV.lst ys)) >>= fun p => pTuple p) >>= fun hung_13 => ((mOr (((M.ret f_7 >>= fun p0 => ap1 m_bits_hung_on [p0]) >>= fun p => M.ret hung_13 >>= fun q => pNe p q)) ((((M.ret f_7 >>= fun p0 => ap1 m_dual_of [p0]) >>= fun p0 => ap1 m_all_changes [p0]) >>= fun p => (M.ret f_7 >>= fun p0 => ap1 m_all_changes [p0]) >>= fun q => pNe p q))) >>= fun k => if k = true then (M.ret (PV.bl false) >>= fun p => M.ret ((Lp.out p))) else ((((M.ret n_6 >>= fun p => pRange (PV.int 0) p) >>= fun xs => compL (fun i_16 => turnM (((M.ret .src >>= fun p0 => M.ret (PV.int 2) >>= fun p1 => ap2 m__law_pick [p0, p1]) >>= fun p => M.ret (PV.int 0) >>= fun q => pEq p q)) (M.ret i_16)) xs >>= fun ys => M.ret (PV.lst ys)) >>= fun p => pTuple p) >>= fun lot_15 => ((M.ret f_7 >>= fun p0 => M.ret lot_15 >>= fun p1 => ap2 m_turned_at [p0, p1]) >>= fun late_17 => ((((M.ret lot_15 >>= fun p => pSeq p) >>= fun xs => mapL (fun i_19 => (M.ret (PV.int 1) >>= fun p => M.ret i_19 >>= fun q => pShl p q)) xs >>= fun ys => M.ret (PV.lst ys)) >>= fun p => pSum p) >>= fun mask_18 => ((mOr (((((M.ret (PV.int 1) >>= fun p => M.ret n_6 >>= fun q => pShl p q) >>= fun p => pRange (PV.int 0) p) >>= fun xs => compL (fun x_20 => turnM ((((M.ret late_17 >>= fun p => M.ret (PV.int 1) >>= fun q => pItem p q) >>= fun p => M.ret x_20 >>= fun q => pItem p q) >>= fun p => ((M.ret f_7 >>= fun p => M.ret (PV.int 1) >>= fun q => pItem p q) >>= fun p => (M.ret x_20 >>= fun p => M.ret mask_18 >>= fun q => pXor p q) >>= fun q => pItem p q) >>= fun q => pNe p q)) (M.ret x_20)) xs >>= fun ys => M.ret (PV.lst ys)) >>= fun p => M.ret (PV.lst []) >>= fun q => pNe p q)) (((M.ret late_17 >>= fun p0 => ap1 m_all_changes [p0]) >>= fun p => (M.ret f_7 >>= fun p0 => ap1 m_all_changes [p0]) >>= fun q => pNe p q))) >>= fun k => if k = true then (M.ret (PV.bl false) >>= fun p => M.ret ((Lp.out p))) else ((M.ret .src >>= fun p0 => M.ret n_6 >>= fun p1 => ap2 m__law_function [p0, p1]) >>= fun g_21 => ((M.ret g_21 >>= fun p0 => ap1 m_all_changes [p0]) >>= fun total_22 => (((M.ret g_21 >>= fun p => M.ret (PV.int 1) >>= fun q => pItem p q) >>= fun p => pSum p) >>= fun p => ((M.ret (PV.int 1) >>= fun p => M.ret n_6 >>= fun q => pShl p q) >>= fun p => ((M.ret g_21 >>= fun p => M.ret (PV.int 1) >>= fun q => pItem p q) >>= fun p => pSum p) >>= fun q => pSub p q) >>= fun q => pMin2 p q) >>= fun least_23 => ((mOr ((M.ret total_22 >>= fun p => ((M.ret (PV.int 2) >>= fun p => M.ret n_6 >>= fun q => pMul p q) >>= fun p => M.ret least_23 >>= fun q => pMul p q) >>= fun q => pGt p q)) ((((M.ret total_22 >>= fun p => M.ret (PV.int 2) >>= fun q => pDiv p q) >>= fun p => M.ret (PV.int 2) >>= fun q => pMul p q) >>= fun p => M.ret total_22 >>= fun q => pNe p q))) >>= fun k => if k = true then (M.ret (PV.bl false) >>= fun p => M.ret ((Lp.out p))) else (((((M.ret (PV.int 1) >>= fun p => M.ret n_6 >>= fun q => pShl p q) >>= fun p => pRange (PV.int 0) p) >>= fun xs => compL (fun x_25 => turnM ((((M.ret g_21 >>= fun p => M.ret (PV.int 1) >>= fun q => pItem p q) >>= fun p => M.ret x_25 >>= fun q => pItem p q) >>= fun p => (((M.ret g_21 >>= fun p => M.ret (PV.int 1) >>= fun q => pItem p q) >>= fun p => M.ret (PV.int 0) >>= fun q => pItem p q) >>= fun p => ((M.ret x_25 >>= fun p0 => ap1 m__law_ones [p0]) >>= fun p => (((M.ret x_25 >>= fun p0 => ap1 m__law_ones [p0]) >>= fun p => M.ret (PV.int 2) >>= fun q => pDiv p q) >>= fun p => M.ret (PV.int 2) >>= fun q => pMul p q) >>= fun q => pSub p q) >>= fun q => pXor p q) >>= fun q => pNe p q)) (M.ret x_25)) xs >>= fun ys => M.ret (PV.lst ys)) >>= fun p => M.ret (PV.lst []) >>= fun q => pEq p q >>= fun c => M.ret (PV.bl c)) >>= fun even_24 => (((M.ret total_22 >>= fun p => (M.ret n_6 >>= fun p => (M.ret (PV.int 1) >>= fun p => M.ret n_6 >>= fun q => pShl p q) >>= fun q => pMul p q) >>= fun q => pEq p q >>= fun c => M.ret (PV.bl c)) >>= fun p => (vOr (M.ret even_24) ((M.ret n_6 >>= fun p => M.ret (PV.int 0) >>= fun q => pEq p q >>= fun c => M.ret (PV.bl c)))) >>= fun q => pNe p q) >>= fun k => if k = true then (M.ret (PV.bl false) >>= fun p => M.ret ((Lp.out p))) else ((M.ret .src >>= fun p0 => (M.ret (PV.int 1) >>= fun p => M.ret n_6 >>= fun q => pShl p q) >>= fun p1 => ap2 m__law_pick [p0, p1]) >>= fun x_26 => (((M.ret x_26 >>= fun p0 => ap1 m_input_sum [p0]) >>= fun p => (M.ret x_26 >>= fun p0 => ap1 m__law_ones [p0]) >>= fun q => pNe p q) >>= fun k => if k = true then (M.ret (PV.bl false) >>= fun p => M.ret ((Lp.out p))) else M.ret (Lp.go ()))))))))))))))) j)))))) xs () >>= fun j => jn (fun t_4 => M.ret (PV.bl true)) j))))
def spLaw (K : PySem.W.Frag) : Sp := fun vs H Q _ => ∃ (a : Addr) (ns : List Int), vs = [.ref a] ∧ SqL K H a (ns.map V.int) ∧ ns.length ≤ 63 ∧ ∀ H', Q (.bl true) H'
section
variable {P : Program} {w : World} {K : PySem.W.Frag} {mg : Str → Option Value} {base : Heap}
theorem ok_has_bit {f : Addr} {fd : FuncData} (F : Fun K "has_bit" "has_bit" s_has_bit f fd) (hb : Binds K fd ["s", "i"] []) (hm : mg "has_bit" = some (.ref f)) (T : Bt mg) : Dn P w K mg base "has_bit" 1 2 (ap2 m_has_bit) :=
  fn_M F sc_has_bit hb hm rfl fun cdv A outer s H E as hr hl => match as, hl with
    | [s_a, i_a], _ => show SS _ [.fr s_a, .fr i_a] _ (m_has_bit s_a i_a) Outc.rn from by
      unfold m_has_bit
      exact (ss_ret (se_cmp (op_eqD hr.units) eq_ok (nomark _) (SE.sb (se_mod (SE.sb (se_div (SE.sb (se_var 0)) (SE.sb (se_shl (SE.sb se_int) (SE.sb (se_var 1)))))) (SE.sb se_int))) (SE.sb se_int)))
theorem ok_matters_at {f : Addr} {fd : FuncData} (F : Fun K "matters_at" "matters_at" s_matters_at f fd) (hb : Binds K fd ["function", "i", "x"] []) (hm : mg "matters_at" = some (.ref f)) (T : Bt mg) (D_has_bit : Dn P w K mg base "has_bit" 1 2 (ap2 m_has_bit)) : Dn P w K mg base "matters_at" 2 3 (ap3 m_matters_at) :=
  fn_M F sc_matters_at hb hm rfl fun cdv A outer s H E as hr hl => match as, hl with
    | [function_a, i_a, x_a], _ => show SS _ [.fr function_a, .fr i_a, .fr x_a, .no] _ (m_matters_at function_a i_a x_a) Outc.rn from by
      unfold m_matters_at
      refine (ss_set 3 (se_if (sc_tru (SE.sb (se_call2 D_has_bit (hr.mono (by decide)) (by rfl) (se_var 2) (se_var 1)))) (se_sub (SE.sb (se_var 2)) (SE.sb (se_shl (SE.sb se_int) (SE.sb (se_var 1))))) (se_add (SE.sb (se_var 2)) (SE.sb (se_shl (SE.sb se_int) (SE.sb (se_var 1)))))) sc_matters_at.nd (fun other_1 => ?_))
      exact (ss_ret (se_cmp (op_neD hr.units) ne_ok (nomark _) (SE.sb (se_item (SE.sb (se_item (SE.sb (se_var 0)) se_int)) (se_var 2))) (SE.sb (se_item (SE.sb (se_item (SE.sb (se_var 0)) se_int)) (se_var 3)))))
theorem ok_changes_of {f : Addr} {fd : FuncData} (F : Fun K "changes_of" "changes_of" s_changes_of f fd) (hb : Binds K fd ["function", "i"] []) (hm : mg "changes_of" = some (.ref f)) (T : Bt mg) (D_matters_at : Dn P w K mg base "matters_at" 2 3 (ap3 m_matters_at)) : Dn P w K mg base "changes_of" 3 2 (ap2 m_changes_of) :=
  fn_M F sc_changes_of hb hm rfl fun cdv A outer s H E as hr hl => match as, hl with
    | [function_a, i_a], _ => show SS _ [.fr function_a, .fr i_a, .no] _ (m_changes_of function_a i_a) Outc.rn from by
      unfold m_changes_of
      exact (ss_ret (se_len (by rfl) T.len (SE.sb (SF.se (CompOk.sf (comp_if1 (own := [("x", 2)]) 2 (blkOk_by (by kernel_rfl)) (SI.more (si_range1 (by rfl) T.range (se_shl (SE.sb se_int) (SE.sb (se_item (SE.sb (se_var 0)) se_int))))) (fun _ _ _ _ _ => (sg_name 2 sc_changes_of.nd)) (fun x_1 => fun _ _ _ _ _ => (sc_tru (SE.sb (se_call3 D_matters_at (hr.mono (by decide)) (by rfl) (se_var 0) (se_var 1) (se_var 2))))) (fun x_1 => fun _ _ _ _ _ => (se_var 2))) rfl sc_changes_of.nd)))))
theorem ok_all_changes {f : Addr} {fd : FuncData} (F : Fun K "all_changes" "all_changes" s_all_changes f fd) (hb : Binds K fd ["function"] []) (hm : mg "all_changes" = some (.ref f)) (T : Bt mg) (D_changes_of : Dn P w K mg base "changes_of" 3 2 (ap2 m_changes_of)) : Dn P w K mg base "all_changes" 4 1 (ap1 m_all_changes) :=
  fn_M F sc_all_changes hb hm rfl fun cdv A outer s H E as hr hl => match as, hl with
    | [function_a], _ => show SS _ [.fr function_a, .no] _ (m_all_changes function_a) Outc.rn from by
      unfold m_all_changes
      exact (ss_ret (se_sum rfl (by rfl) T.sum (SE.sb (SF.se (CompOk.sf (comp_map1 (own := [("i", 1)]) 1 (blkOk_by (by kernel_rfl)) (SI.more (si_range1 (by rfl) T.range (se_item (SE.sb (se_var 0)) se_int))) (fun _ _ _ _ _ => (sg_name 1 sc_all_changes.nd)) (fun i_1 => fun _ _ _ _ _ => (se_call2 D_changes_of (hr.mono (by decide)) (by rfl) (se_var 0) (se_var 1)))) rfl sc_all_changes.nd)))))
theorem ok_bits_hung_on {f : Addr} {fd : FuncData} (F : Fun K "bits_hung_on" "bits_hung_on" s_bits_hung_on f fd) (hb : Binds K fd ["function"] []) (hm : mg "bits_hung_on" = some (.ref f)) (T : Bt mg) (D_changes_of : Dn P w K mg base "changes_of" 3 2 (ap2 m_changes_of)) : Dn P w K mg base "bits_hung_on" 4 1 (ap1 m_bits_hung_on) :=
  fn_M F sc_bits_hung_on hb hm rfl fun cdv A outer s H E as hr hl => match as, hl with
    | [function_a], _ => show SS _ [.fr function_a, .no] _ (m_bits_hung_on function_a) Outc.rn from by
      unfold m_bits_hung_on
      exact (ss_ret (se_tupleOf (by rfl) T.tuple (SE.sb (SF.se (CompOk.sf (comp_if1 (own := [("i", 1)]) 1 (blkOk_by (by kernel_rfl)) (SI.more (si_range1 (by rfl) T.range (se_item (SE.sb (se_var 0)) se_int))) (fun _ _ _ _ _ => (sg_name 1 sc_bits_hung_on.nd)) (fun i_1 => fun _ _ _ _ _ => (sc_cmp op_gt gt_ok (nomark _) (SE.sb (se_call2 D_changes_of (hr.mono (by decide)) (by rfl) (se_var 0) (se_var 1))) (SE.sb se_int))) (fun i_1 => fun _ _ _ _ _ => (se_var 1))) rfl sc_bits_hung_on.nd)))))
theorem ok_bit_of {f : Addr} {fd : FuncData} (F : Fun K "bit_of" "bit_of" s_bit_of f fd) (hb : Binds K fd ["x", "i"] []) (hm : mg "bit_of" = some (.ref f)) (T : Bt mg) : Dn P w K mg base "bit_of" 1 2 (ap2 m_bit_of) :=
  fn_M F sc_bit_of hb hm rfl fun cdv A outer s H E as hr hl => match as, hl with
    | [x_a, i_a], _ => show SS _ [.fr x_a, .fr i_a] _ (m_bit_of x_a i_a) Outc.rn from by
      unfold m_bit_of
      exact (ss_ret (se_mod (SE.sb (se_div (SE.sb (se_var 0)) (SE.sb (se_shl (SE.sb se_int) (SE.sb (se_var 1)))))) (SE.sb se_int)))
theorem ok_input_sum {f : Addr} {fd : FuncData} (F : Fun K "input_sum" "input_sum" s_input_sum f fd) (hb : Binds K fd ["x"] []) (hm : mg "input_sum" = some (.ref f)) (T : Bt mg) : Dn P w K mg base "input_sum" 1 1 (ap1 m_input_sum) :=
  fn_M F sc_input_sum hb hm rfl fun cdv A outer s H E as hr hl => match as, hl with
    | [x_a], _ => show SS _ [.fr x_a, .no] _ (m_input_sum x_a) Outc.rn from by
      unfold m_input_sum
      refine (ss_set 1 se_int sc_input_sum.nd (fun found_1 => ?_))
      refine (ss_while (fun (t_2 : PV × PV) => [.fr t_2.1, .fr t_2.2]) .never (Le.keep (Le.keep Le.nil)) (fun t_2 => (sc_cmp op_gt gt_ok (nomark _) (SE.sb (se_var 0)) (SE.sb se_int))) (fun t_2 => ?_) (fun t_2 => ?_))
      · refine (ss_set 1 (se_add (SE.sb (se_var 1)) (SE.sb (se_mod (SE.sb (se_var 0)) (SE.sb se_int)))) sc_input_sum.nd (fun found_3 => ?_))
        refine (ss_set 0 (se_div (SE.sb (se_var 0)) (SE.sb se_int)) sc_input_sum.nd (fun x_4 => ?_))
        exact (ss_nil (.inr rfl) (Le.keep (Le.keep Le.nil)))
      exact (ss_ret (se_var 1))
theorem ok_input_turned {f : Addr} {fd : FuncData} (F : Fun K "input_turned" "input_turned" s_input_turned f fd) (hb : Binds K fd ["x", "lot"] []) (hm : mg "input_turned" = some (.ref f)) (T : Bt mg) (D_bit_of : Dn P w K mg base "bit_of" 1 2 (ap2 m_bit_of)) : Dn P w K mg base "input_turned" 2 2 (ap2 m_input_turned) :=
  fn_M F sc_input_turned hb hm rfl fun cdv A outer s H E as hr hl => match as, hl with
    | [x_a, lot_a], _ => show SS _ [.fr x_a, .fr lot_a, .no] _ (m_input_turned x_a lot_a) Outc.rn from by
      unfold m_input_turned
      exact (ss_ret (se_add (SE.sb (se_var 0)) (SE.sb (se_sum rfl (by rfl) T.sum (SE.sb (SF.se (CompOk.sf (comp_map1 (own := [("i", 2)]) 2 (blkOk_by (by kernel_rfl)) (si_seqB (SE.sb (se_var 1))) (fun _ _ _ _ _ => (sg_name 2 sc_input_turned.nd)) (fun i_1 => fun _ _ _ _ _ => (se_mul (SE.sb (se_sub (SE.sb se_int) (SE.sb (se_mul (SE.sb se_int) (SE.sb (se_call2 D_bit_of (hr.mono (by decide)) (by rfl) (se_var 0) (se_var 2))))))) (SE.sb (se_shl (SE.sb se_int) (SE.sb (se_var 2))))))) rfl sc_input_turned.nd)))))))
theorem ok_turned_at {f : Addr} {fd : FuncData} (F : Fun K "turned_at" "turned_at" s_turned_at f fd) (hb : Binds K fd ["f", "lot"] []) (hm : mg "turned_at" = some (.ref f)) (T : Bt mg) (D_input_turned : Dn P w K mg base "input_turned" 2 2 (ap2 m_input_turned)) : Dn P w K mg base "turned_at" 3 2 (ap2 m_turned_at) :=
  fn_M F sc_turned_at hb hm rfl fun cdv A outer s H E as hr hl => match as, hl with
    | [f_a, lot_a], _ => show SS _ [.fr f_a, .fr lot_a, .no] _ (m_turned_at f_a lot_a) Outc.rn from by
      unfold m_turned_at
      exact (ss_ret (se_tup2 (se_item (SE.sb (se_var 0)) se_int) (se_tupleOf (by rfl) T.tuple (SE.sb (SF.se (CompOk.sf (comp_map1 (own := [("x", 2)]) 2 (blkOk_by (by kernel_rfl)) (SI.more (si_range1 (by rfl) T.range (se_shl (SE.sb se_int) (SE.sb (se_item (SE.sb (se_var 0)) se_int))))) (fun _ _ _ _ _ => (sg_name 2 sc_turned_at.nd)) (fun x_1 => fun _ _ _ _ _ => (se_item (SE.sb (se_item (SE.sb (se_var 0)) se_int)) (se_call2 D_input_turned (hr.mono (by decide)) (by rfl) (se_var 2) (se_var 1))))) rfl sc_turned_at.nd))))))
theorem ok_opposite_of {f : Addr} {fd : FuncData} (F : Fun K "opposite_of" "opposite_of" s_opposite_of f fd) (hb : Binds K fd ["f"] []) (hm : mg "opposite_of" = some (.ref f)) (T : Bt mg) : Dn P w K mg base "opposite_of" 1 1 (ap1 m_opposite_of) :=
  fn_M F sc_opposite_of hb hm rfl fun cdv A outer s H E as hr hl => match as, hl with
    | [f_a], _ => show SS _ [.fr f_a, .no] _ (m_opposite_of f_a) Outc.rn from by
      unfold m_opposite_of
      exact (ss_ret (se_tup2 (se_item (SE.sb (se_var 0)) se_int) (se_tupleOf (by rfl) T.tuple (SE.sb (SF.se (CompOk.sf (comp_map1 (own := [("answer", 1)]) 1 (blkOk_by (by kernel_rfl)) (si_seqB (SE.sb (se_item (SE.sb (se_var 0)) se_int))) (fun _ _ _ _ _ => (sg_name 1 sc_opposite_of.nd)) (fun answer_1 => fun _ _ _ _ _ => (se_sub (SE.sb se_int) (SE.sb (se_var 1))))) rfl sc_opposite_of.nd))))))
theorem ok_dual_of {f : Addr} {fd : FuncData} (F : Fun K "dual_of" "dual_of" s_dual_of f fd) (hb : Binds K fd ["f"] []) (hm : mg "dual_of" = some (.ref f)) (T : Bt mg) (D_opposite_of : Dn P w K mg base "opposite_of" 1 1 (ap1 m_opposite_of)) (D_turned_at : Dn P w K mg base "turned_at" 3 2 (ap2 m_turned_at)) : Dn P w K mg base "dual_of" 4 1 (ap1 m_dual_of) :=
  fn_M F sc_dual_of hb hm rfl fun cdv A outer s H E as hr hl => match as, hl with
    | [f_a], _ => show SS _ [.fr f_a] _ (m_dual_of f_a) Outc.rn from by
      unfold m_dual_of
      exact (ss_ret (se_call1 D_opposite_of (hr.mono (by decide)) (by rfl) (se_call2 D_turned_at (hr.mono (by decide)) (by rfl) (se_var 0) (se_tupRg rfl (by rfl) T.tuple (sr_1 (by rfl) T.range (se_item (SE.sb (se_var 0)) se_int))))))
theorem ok__law_open_cells {f : Addr} {fd : FuncData} (F : Fun K "_law_open_cells" "_law_open_cells" s__law_open_cells f fd) (T : Bt mg) : FnOk P w K mg base CX0 1 f fd ["script"] (spSrc K) := by
  refine F.ok sc__law_open_cells (fun vs H Q E h => ?_) (fun cdv A outer s H vs Q E hr h => ?_)
  · obtain ⟨a, ns, rfl, _⟩ := h
    rfl
  obtain ⟨a, ns, rfl, hS, hl, q⟩ := h
  refine ⟨_, pss_cons (ps_set (i := 1) sc__law_open_cells.nd rfl (Or.inl rfl) pe_int)
    (pss_cons (ps_for PassesOwn.never rfl (pi_list (pv 0)) (pg_name (i := 2) sc__law_open_cells.nd rfl (.inl rfl))
      (pss_one (ps_set (i := 1) sc__law_open_cells.nd rfl (Or.inl rfl) (pe_op op_mod (pe_callTy call_int1 (by rfl) T.int (by decide +kernel) (pa_cons (pe_op op_add (pe_op op_add (pe_op op_mul (pv 1) pe_int) (pe_op op_mul (pv 2) pe_int)) pe_int) pa_nil)) pe_int))))
    (pss_cons (ps_setLc (i := 3) rfl sc__law_open_cells.nd rfl rfl (sw_true rfl rfl rfl (by decide +kernel)) (pi_list (pv 0)) (blkOk_by (own := [("cell", 2)]) (by kernel_rfl)) (fun _ _ _ _ _ => pg_name (i := 2) sc__law_open_cells.nd rfl (.inl rfl)) (fun _ _ _ _ _ => pts_nil)
      (fun _ _ _ _ _ => pe_callB call_abs (by rfl) T.abs (by decide +kernel) (pa_cons (pv 2) pa_nil)))
    (pss_one (ps_ret (pe_disp (pps_cons pe_str (pe_revL (pv 3)) (pps_cons pe_str pe_int (pps_cons pe_str (pv 1) (pps_cons pe_str pe_int pps_nil)))) rfl rfl (by decide) (by decide)))))), ?_⟩
  have get : ∀ {i : Nat} {x : V}, (ns.map V.int)[i]? = some x → ∃ k, x = .int k := fun e => by
    rw [List.getElem?_map] at e
    obtain ⟨k, _, rfl⟩ := Option.map_eq_some_iff.mp e
    exact ⟨k, rfl⟩
  refine ⟨_, rfl, a, rfl, ⟨_, hS⟩, ?_⟩
  refine for_list (xs := ns.map V.int) (fun i σ' H' => ∃ (st : Int) (c : Option V), σ' = [some (.ref a), some (.int st), c, none] ∧ H = H' ∧ 0 ≤ st ∧ st < 2 ^ 31) ⟨11, none, rfl, rfl, by decide, by decide⟩ (fun i σ' H' _ h => ?_) (fun i x σ' H' e h => ?_) (fun σ' H' h => ?_)
  · obtain ⟨_, _, _, rfl, _⟩ := h
    exact hS
  · obtain ⟨st, c, rfl, rfl, h0, h1⟩ := h
    obtain ⟨k, rfl⟩ := get e
    have k0 := Int.emod_nonneg (st * 69069 + k * 31 + 5) (show (2147483629 : Int) ≠ 0 by decide)
    have k1 := Int.emod_lt_of_pos (st * 69069 + k * 31 + 5) (show (0 : Int) < 2147483629 by decide)
    refine ⟨_, rfl, _, _, rfl, rfl, .inr ⟨by decide, by decide⟩, _, rfl, _, _, rfl, rfl, .inr ⟨by decide, by decide⟩, _, _, rfl, rfl, _, _, rfl, rfl, .inl ⟨_, rfl, ?_⟩⟩
    refine ⟨_, _, rfl, rfl, Int.pos_of_sign_eq_one rfl, ?_⟩
    exact ⟨_, _, rfl, rfl, k0, by omega⟩
  obtain ⟨st, c, rfl, rfl, h0, h1⟩ := h
  have lenN : (ns.map V.int).length = ns.length := List.length_map _
  refine ⟨_, rfl, a, rfl, ⟨_, hS⟩, fun D hD => ?_⟩
  refine lc_list (xs := ns.map V.int) (fun i H' => ∃ cs : List Int, cs.length ≤ i ∧ i ≤ ns.length ∧ H' = upd H D (.lst (cs.map V.int))) ⟨[], Nat.le_refl _, Nat.zero_le _, rfl⟩ (fun i H' _ h => ?_) (fun i x H' e h => ?_) (fun H' h => ?_)
  · obtain ⟨cs, _, _, rfl⟩ := h
    exact Same.sq (fun b u z => by rw [upd_ne (ne_of_none z hD)]; exact z) hS
  · obtain ⟨cs, hc, hi, rfl⟩ := h
    obtain ⟨k, rfl⟩ := get e
    have hi2 : i < ns.length := by have := lt_of_some e; omega
    refine ⟨rfl, ?_⟩
    refine ⟨_, rfl, _, rfl, _, upd_same, (by rw [List.length_map]; exact Nat.lt_of_le_of_lt hc (Nat.lt_trans hi2 (Nat.lt_of_le_of_lt hl (by decide)))), cs ++ [if k < 0 then -k else k], (by rw [List.length_append, List.length_singleton]; omega), hi2, ?_⟩
    first | rw [upd_upd, List.map_append] | skip
    first | rfl | skip
  · obtain ⟨cs, hc, hi, rfl⟩ := h
    refine fun p hp => ?_
    refine ⟨_, rfl, D, _, rfl, SqL.of (by rw [upd_ne (ne_of_none upd_same hp)]; exact upd_same), fun r hr => ⟨_, rfl, ?_⟩⟩
    have pr : p ≠ r := ne_of_none upd_same hr
    refine ⟨(upd_ne pr).trans upd_same, [(.inr "cells", .ref r), (.inr "left", .int 1), (.inr "mixed", .int st), (.inr "turn", .int 0)], rfl, (by show 4 ≤ 15; decide), ?_⟩
    refine q _ p r ⟨pr, cs.reverse, 1, st, 0, upd_same.trans rfl, ?_, h0, by omega⟩
    rw [upd_ne (Ne.symm pr), upd_same, List.map_reverse]
theorem ok__law_pick {f : Addr} {fd : FuncData} (F : Fun K "_law_pick" "_law_pick" s__law_pick f fd) (hb : Binds K fd ["source", "most"] []) (hm : mg "_law_pick" = some (.ref f)) (T : Bt mg) : Dn P w K mg base "_law_pick" 1 2 (ap2 m_pick) := by
  refine ⟨f, fd, _, F.ok sc__law_pick (fun vs H Q E h => ?_) (fun cdv A outer s H vs Q E hr h => ?_), hb, F.kp, hm⟩
  · obtain ⟨_, _, as, _, r, hl, _⟩ := h
    exact r.length.trans hl
  obtain ⟨G, W, as, hs, r, hl, q⟩ := h
  match as, hl with
  | [p1, p2], _ =>
  rcases r with _ | ⟨r1, r⟩
  rcases r with _ | ⟨r2, r⟩
  rcases r with _ | _
  obtain ⟨n, rfl, rfl, q1⟩ := pick_case q
  have q0 := q1
  unfold pickN at q0
  cases r2.inv_int
  obtain ⟨sd, sc, rfl, eS⟩ := r1.inv_src
  obtain ⟨s0, g1, g2, f1, f2⟩ := hs.s sd sc eS
  obtain ⟨cs, l, m, t, S⟩ := SrcIs.of s0
  have hu := hu_of hr
  refine ⟨_, pss_cons (ps_if (pt_cmpR op_lt (pv 1) pe_int (nomark _)) (pss_one (ps_ret pe_int)) pss_nil)
    (pss_cons (ps_set (i := 2) sc__law_pick.nd rfl (Or.inl rfl) (pe_dget hu (pv 0) pe_str (fun _ _ => rfl)))
    (pss_cons (ps_while PassesOwn.never (pw_and (pt_cmpR op_lt (pe_dget hu (pv 0) pe_str (fun _ _ => rfl)) pe_int (nomark _)) (pw_and1 (pt_cmpR op_gt (pe_callB call_len_seq (by rfl) T.len PySem.boot_len (pa_cons (pv 2) pa_nil)) pe_int (nomark _)))).pt
      (pss_one (ps_dput hu (pv 0) pe_str (pe_bm0 PySem.F.plainAttrs_list PySem.F.slot_list_pop PySem.F.type_list_pop mt_pop (pv 2)) rfl)))
    (pss_cons (ps_set (i := 3) sc__law_pick.nd rfl (Or.inl rfl) (pe_dget hu (pv 0) pe_str (fun _ _ => rfl)))
    (pss_cons (ps_if (pt_cmpR op_gt (pv 3) pe_int (nomark _)) (pss_cons (ps_dput hu (pv 0) pe_str (pe_op op_fdivL (pv 3) (pv 1)) rfl) (pss_one (ps_ret (pe_op op_mod (pe_callTy call_int1 (by rfl) T.int (by decide +kernel) (pa_cons (pv 3) pa_nil)) (pv 1))))) pss_nil)
    (pss_cons (ps_dput hu (pv 0) pe_str (pe_op op_add (pe_dget hu (pv 0) pe_str (fun _ _ => rfl)) pe_int) rfl)
    (pss_cons (ps_set (i := 4) sc__law_pick.nd rfl (Or.inl rfl) (pe_dget hu (pv 0) pe_str (fun _ _ => rfl)))
    (pss_cons (ps_set (i := 5) sc__law_pick.nd rfl (Or.inl rfl) (pe_op op_mod (pe_callTy call_int1 (by rfl) T.int (by decide +kernel) (pa_cons (pe_op op_add (pe_dget hu (pv 0) pe_str (fun _ _ => rfl)) (pe_op op_mul (pv 4) pe_int)) pa_nil)) pe_int))
    (pss_cons (ps_set (i := 5) sc__law_pick.nd rfl (Or.inl rfl) (pe_op op_mod (pe_callTy call_int1 (by rfl) T.int (by decide +kernel) (pa_cons (pe_op op_add (pe_op op_mul (pv 5) (pv 5)) (pe_op op_mul (pv 4) pe_int)) pa_nil)) pe_int))
    (pss_one (ps_ret (pe_op op_mod (pe_callTy call_int1 (by rfl) T.int (by decide +kernel) (pa_cons (pe_op op_fdivL (pv 5) pe_int) pa_nil)) (pv 1)))))))))))), ?_⟩
  have fin : ∀ {H' : Hp} {cs : List Int} {l m t : Int} {i : Int}, SrcIs H' sd sc cs l m t → But H H' sd sc → (∀ v H' W', W.le W' → Hs G W' H' → Rp W' v (.int i) → Q v H') → Q (.int i) H' := fun S b z => z _ _ W (.refl W) (hs.but eS b S.at) (.int _)
  refine ⟨_, rfl, _, _, rfl, rfl, _, rfl, ?_⟩
  refine ite2 (fun c => ?_) (fun c => ?_)
  · have c : n < 2 := of_decide_eq_true c
    rw [if_pos c] at q0
    exact fin S (.refl H sd sc) ((M.all_ret _).mp q0)
  have c2 : ¬ n < 2 := fun z => c (decide_eq_true z)
  have fin2 : ∀ {H' : Hp} {cs : List Int} {l m t x : Int}, SrcIs H' sd sc cs l m t → But H H' sd sc → Q (.int (x % n)) H' := fun S b => fin S b (pick_done (Q := fun p => ∀ v H' W', W.le W' → Hs G W' H' → Rp W' v p → Q v H') q1 c2)
  have dv := pick_small q1 c2
  refine ⟨_, rfl, sd, _, rfl, S.cells, ?_⟩
  refine ⟨fun k σ' H' => σ' = [some (.ref sd), some (.int n), some (.ref sc), none, none, none] ∧ ∃ cs l m t, SrcIs H' sd sc cs l m t ∧ But H H' sd sc ∧ k = cs.length, ⟨_, rfl, cs, l, m, t, S, .refl H sd sc, rfl⟩, ?_⟩
  rintro k σ' H' ⟨rfl, cs, l, m, t, S, b, rfl⟩
  refine ⟨_, rfl, sd, _, rfl, S.left, _, _, rfl, rfl, _, rfl, ?_⟩
  refine ite2 (fun c1 => ?_) (fun c1 => ?b)
  refine ⟨_, rfl, sc, _, rfl, .inl (SqL.of S.c), _, _, rfl, rfl, _, rfl, ?_⟩
  refine ite2 (fun c3 => ?_) (fun c3 => ?a)
  · have c3 : (((cs.map V.int).length : Nat) : Int) > 0 := of_decide_eq_true c3
    rw [List.length_map] at c3
    have hl : cs.length - 1 < cs.length := by omega
    have e : (cs.map V.int)[(cs.map V.int).length - 1]? = some (V.int cs[cs.length - 1]) := by rw [List.length_map, List.getElem?_map, List.getElem?_eq_getElem hl]; rfl
    refine ⟨fun σ' H' => σ' = [some (.ref sd), some (.int n), some (.ref sc), none, none, none] ∧ ∃ ds l m t, SrcIs H' sd sc ds l m t ∧ But H H' sd sc ∧ ds.length < cs.length, fun σ' H' h => ?_, ?_⟩
    · obtain ⟨e, ds, l, m, t, S, b, h⟩ := h
      exact ⟨_, h, e, ds, l, m, t, S, b, rfl⟩
    refine ⟨_, rfl, .inl ⟨rfl, _, .inl (.inl S.c)⟩, sc, _, _, rfl, rfl, S.c, e, ?_⟩
    have S2 := S.pop
    refine ⟨_, rfl, sd, _, rfl, S2.putLeft _, rfl, _, _, _, _, S2.put S.m0 S.m1, b.c.d, ?_⟩
    rw [List.length_dropLast]; exact hl
  all_goals
    refine ⟨_, rfl, sd, _, rfl, S.left, ?_⟩
    refine ⟨_, rfl, _, _, rfl, rfl, _, rfl, ?_⟩
    refine ite2 (fun c4 => ?_) (fun c4 => ?_)
    · refine ⟨_, rfl, _, rfl, _, _, rfl, rfl, dv, _, rfl, sd, _, rfl, S.putLeft _, ?_⟩
      refine ⟨_, rfl, .inl ⟨_, rfl, ?_⟩⟩
      refine ⟨_, rfl, _, _, rfl, rfl, dv.1, ?_⟩
      exact fin2 (S.put S.m0 S.m1) b.d
    have m0 := S.m0
    have m1 := S.m1
    refine ⟨_, rfl, sd, _, rfl, S.turn, _, _, rfl, rfl, _, rfl, sd, _, rfl, S.putTurn _, ?_⟩
    have S3 := S.put (l' := l) (t' := t + 1) m0 m1
    refine ⟨_, rfl, sd, _, rfl, S3.turn, ?_⟩
    refine ⟨_, rfl, sd, _, rfl, S3.mixed, _, rfl, _, _, rfl, rfl, .inr ⟨by decide, by decide⟩, _, _, rfl, rfl, .inl ⟨_, rfl, ?_⟩⟩
    refine ⟨_, _, rfl, rfl, Int.pos_of_sign_eq_one rfl, ?_⟩
    have k0 := Int.emod_nonneg (m + (t + 1) * 104729) (show (998244353 : Int) ≠ 0 by decide)
    have k1 := Int.emod_lt_of_pos (m + (t + 1) * 104729) (show (0 : Int) < 998244353 by decide)
    refine ⟨_, rfl, _, rfl, _, _, rfl, rfl, .inl ⟨by omega, by omega⟩, ?_⟩
    refine ⟨_, rfl, _, _, rfl, rfl, .inr ⟨by decide, by decide⟩, _, _, rfl, rfl, .inl ⟨_, rfl, ?_⟩⟩
    refine ⟨_, _, rfl, rfl, Int.pos_of_sign_eq_one rfl, ?_⟩
    refine ⟨_, rfl, _, _, rfl, rfl, ⟨by decide, by decide⟩, .inl ⟨_, rfl, ?_⟩⟩
    refine ⟨_, rfl, _, _, rfl, rfl, dv.1, ?_⟩
    exact fin2 S3 b.d
theorem ok__law_bit {f : Addr} {fd : FuncData} (F : Fun K "_law_bit" "_law_bit" s__law_bit f fd) (hb : Binds K fd ["x", "i"] []) (hm : mg "_law_bit" = some (.ref f)) (T : Bt mg) : Dn P w K mg base "_law_bit" 1 2 (ap2 m__law_bit) :=
  fn_M F sc__law_bit hb hm rfl fun cdv A outer s H E as hr hl => match as, hl with
    | [x_a, i_a], _ => show SS _ [.fr x_a, .fr i_a] _ (m__law_bit x_a i_a) Outc.rn from by
      unfold m__law_bit
      exact (ss_ret (se_mod (SE.sb (se_intOf (by rfl) T.int (SE.sb (se_div (SE.sb (se_var 0)) (SE.sb (se_shl (SE.sb se_int) (SE.sb (se_var 1)))))))) (SE.sb se_int)))
theorem ok__law_ones {f : Addr} {fd : FuncData} (F : Fun K "_law_ones" "_law_ones" s__law_ones f fd) (hb : Binds K fd ["x"] []) (hm : mg "_law_ones" = some (.ref f)) (T : Bt mg) (D__law_bit : Dn P w K mg base "_law_bit" 1 2 (ap2 m__law_bit)) : Dn P w K mg base "_law_ones" 2 1 (ap1 m__law_ones) :=
  fn_M F sc__law_ones hb hm rfl fun cdv A outer s H E as hr hl => match as, hl with
    | [x_a], _ => show SS _ [.fr x_a, .no] _ (m__law_ones x_a) Outc.rn from by
      unfold m__law_ones
      exact (ss_ret (se_len (by rfl) T.len (SE.sb (SF.se (CompOk.sf (comp_if1 (own := [("i", 1)]) 1 (blkOk_by (by kernel_rfl)) (SI.more (si_range1 (by rfl) T.range se_int)) (fun _ _ _ _ _ => (sg_name 1 sc__law_ones.nd)) (fun i_1 => fun _ _ _ _ _ => (sc_cmp (op_eqD hr.units) eq_ok (nomark _) (SE.sb (se_call2 D__law_bit (hr.mono (by decide)) (by rfl) (se_var 0) (se_var 1))) (SE.sb se_int))) (fun i_1 => fun _ _ _ _ _ => (se_var 1))) rfl sc__law_ones.nd)))))
theorem ok__law_function {f : Addr} {fd : FuncData} (F : Fun K "_law_function" "_law_function" s__law_function f fd) (hb : Binds K fd ["source", "n"] []) (hm : mg "_law_function" = some (.ref f)) (T : Bt mg) (D__law_pick : Dn P w K mg base "_law_pick" 1 2 (ap2 m__law_pick)) (D__law_ones : Dn P w K mg base "_law_ones" 2 1 (ap1 m__law_ones)) : Dn P w K mg base "_law_function" 3 2 (ap2 m__law_function) :=
  fn_M F sc__law_function hb hm rfl fun cdv A outer s H E as hr hl => match as, hl with
    | [source_a, n_a], _ => show SS _ [.fr source_a, .fr n_a, .no, .no, .no, .no, .no, .no] _ (m__law_function source_a n_a) Outc.rn from by
      unfold m__law_function
      refine (ss_bind2 3 4 (se_tup2 (se_call2 D__law_pick (hr.mono (by decide)) (by rfl) (se_var 0) se_int) (se_shl (SE.sb se_int) (SE.sb (se_var 1)))) (sg2 3 4 rfl sc__law_function.nd (sg_name 3 sc__law_function.nd) (sg_name 4 sc__law_function.nd)) (fun way_1 size_2 => ?_))
      refine (ss_ifX (sc_cmp (op_eqD hr.units) eq_ok (nomark _) (SE.sb (se_var 3)) (SE.sb se_int)) ?_ ?_)
      · exact (ss_retG (g := fun p => p) (se_tup2 (se_var 1) (se_tupleOf (by rfl) T.tuple (SE.sb (SF.se (CompOk.sf (comp_map1 (own := [("x", 7)]) 7 (blkOk_by (by kernel_rfl)) (SI.more (si_range1 (by rfl) T.range (se_var 4))) (fun _ _ _ _ _ => (sg_name 7 sc__law_function.nd)) (fun x_3 => fun _ _ _ _ _ => (se_call2 D__law_pick (hr.mono (by decide)) (by rfl) (se_var 0) se_int))) rfl sc__law_function.nd))))) (fun _ => .inl rfl))
      refine (ss_ifX (sc_cmp (op_eqD hr.units) eq_ok (nomark _) (SE.sb (se_var 3)) (SE.sb se_int)) ?_ ?_)
      · exact (ss_retG (g := fun p => p) (se_tup2 (se_var 1) (se_tupleOf (by rfl) T.tuple (SE.sb (SF.se (CompOk.sf (comp_map1 (own := [("x", 7)]) 7 (blkOk_by (by kernel_rfl)) (SI.more (si_range1 (by rfl) T.range (se_var 4))) (fun _ _ _ _ _ => (sg_name 7 sc__law_function.nd)) (fun x_4 => fun _ _ _ _ _ => (se_intOf (by rfl) T.int (SE.sb (se_cmp (op_eqD hr.units) eq_ok (nomark _) (SE.sb (se_call2 D__law_pick (hr.mono (by decide)) (by rfl) (se_var 0) se_int)) (SE.sb se_int)))))) rfl sc__law_function.nd))))) (fun _ => .inl rfl))
      refine (ss_ifX (sc_cmp (op_eqD hr.units) eq_ok (nomark _) (SE.sb (se_var 3)) (SE.sb se_int)) ?_ ?_)
      · refine (ss_set 5 (SF.se (CompOk.sf (comp_map1 (own := [("turn", 6)]) 6 (blkOk_by (by kernel_rfl)) (SI.more (si_range1 (by rfl) T.range (se_add (SE.sb se_int) (SE.sb (se_call2 D__law_pick (hr.mono (by decide)) (by rfl) (se_var 0) se_int))))) (fun _ _ _ _ _ => (sg_name 6 sc__law_function.nd)) (fun turn_6 => fun _ _ _ _ _ => (se_call2 D__law_pick (hr.mono (by decide)) (by rfl) (se_var 0) (se_var 4)))) rfl sc__law_function.nd)) sc__law_function.nd (fun some_5 => ?_))
        exact (ss_retG (g := fun p => p) (se_tup2 (se_var 1) (se_tupleOf (by rfl) T.tuple (SE.sb (SF.se (CompOk.sf (comp_map1 (own := [("x", 7)]) 7 (blkOk_by (by kernel_rfl)) (SI.more (si_range1 (by rfl) T.range (se_var 4))) (fun _ _ _ _ _ => (sg_name 7 sc__law_function.nd)) (fun x_7 => fun _ _ _ _ _ => (se_intOf (by rfl) T.int (SE.sb (se_cmp (op_neD hr.units) ne_ok (nomark _) (SE.sb (SF.se (CompOk.sf (comp_if1 (own := [("lot", 2)]) 2 (blkOk_by (by kernel_rfl)) (si_seqB (SE.sb (se_var 5))) (fun _ _ _ _ _ => (sg_name 2 sc__law_function.nd)) (fun lot_8 => fun _ _ _ _ _ => (sc_cmp (op_eqD hr.units) eq_ok (nomark _) (SE.sb (se_and (SE.sb (se_var 7)) (SE.sb (se_var 2)))) (SE.sb (se_var 2)))) (fun lot_8 => fun _ _ _ _ _ => (se_var 2))) rfl sc__law_function.nd))) (SE.sb (SF.se sf_lst0))))))) rfl sc__law_function.nd))))) (fun _ => .inl rfl))
      refine (ss_set 2 (se_call2 D__law_pick (hr.mono (by decide)) (by rfl) (se_var 0) (se_var 4)) sc__law_function.nd (fun lot_9 => ?_))
      refine (ss_ifX (sc_cmp (op_eqD hr.units) eq_ok (nomark _) (SE.sb (se_var 3)) (SE.sb se_int)) ?_ ?_)
      · exact (ss_retG (g := fun p => p) (se_tup2 (se_var 1) (se_tupleOf (by rfl) T.tuple (SE.sb (SF.se (CompOk.sf (comp_map1 (own := [("x", 7)]) 7 (blkOk_by (by kernel_rfl)) (SI.more (si_range1 (by rfl) T.range (se_var 4))) (fun _ _ _ _ _ => (sg_name 7 sc__law_function.nd)) (fun x_10 => fun _ _ _ _ _ => (se_mod (SE.sb (se_intOf (by rfl) T.int (SE.sb (se_call1 D__law_ones (hr.mono (by decide)) (by rfl) (se_and (SE.sb (se_var 7)) (SE.sb (se_var 2))))))) (SE.sb se_int)))) rfl sc__law_function.nd))))) (fun _ => .inl rfl))
      exact (ss_ret (se_tup2 (se_var 1) (se_tupleOf (by rfl) T.tuple (SE.sb (SF.se (CompOk.sf (comp_map1 (own := [("x", 7)]) 7 (blkOk_by (by kernel_rfl)) (SI.more (si_range1 (by rfl) T.range (se_var 4))) (fun _ _ _ _ _ => (sg_name 7 sc__law_function.nd)) (fun x_11 => fun _ _ _ _ _ => (se_intOf (by rfl) T.int (SE.sb (se_cmp (op_eqD hr.units) eq_ok (nomark _) (SE.sb (se_and (SE.sb (se_var 7)) (SE.sb (se_var 2)))) (SE.sb (se_var 2))))))) rfl sc__law_function.nd))))))
theorem ok__law_rising {f : Addr} {fd : FuncData} (F : Fun K "_law_rising" "_law_rising" s__law_rising f fd) (hb : Binds K fd ["source", "n"] []) (hm : mg "_law_rising" = some (.ref f)) (T : Bt mg) (D__law_pick : Dn P w K mg base "_law_pick" 1 2 (ap2 m__law_pick)) (D__law_bit : Dn P w K mg base "_law_bit" 1 2 (ap2 m__law_bit)) (D__law_ones : Dn P w K mg base "_law_ones" 2 1 (ap1 m__law_ones)) : Dn P w K mg base "_law_rising" 3 2 (ap2 m__law_rising) :=
  fn_M F sc__law_rising hb hm rfl fun cdv A outer s H E as hr hl => match as, hl with
    | [source_a, n_a], _ => show SS _ [.fr source_a, .fr n_a, .no, .no, .no, .no, .no, .no, .no, .no, .no, .no, .no] _ (m__law_rising source_a n_a) Outc.rn from by
      unfold m__law_rising
      refine (ss_bind2 5 6 (se_tup2 (se_call2 D__law_pick (hr.mono (by decide)) (by rfl) (se_var 0) se_int) (se_shl (SE.sb se_int) (SE.sb (se_var 1)))) (sg2 5 6 rfl sc__law_rising.nd (sg_name 5 sc__law_rising.nd) (sg_name 6 sc__law_rising.nd)) (fun way_1 size_2 => ?_))
      refine (ss_setC 2 (comp_map1 (own := [("turn", 9)]) 9 (blkOk_by (by kernel_rfl)) (SI.more (si_range1 (by rfl) T.range (se_call2 D__law_pick (hr.mono (by decide)) (by rfl) (se_var 0) se_int))) (fun _ _ _ _ _ => (sg_name 9 sc__law_rising.nd)) (fun turn_4 => fun _ _ _ _ _ => (se_call2 D__law_pick (hr.mono (by decide)) (by rfl) (se_var 0) (se_var 6)))) rfl sc__law_rising.nd (fun some_3 => ?_))
      refine (ss_par 7 8 rfl sc__law_rising.nd (SF.se (CompOk.sf (comp_map1 (own := [("i", 10)]) 10 (blkOk_by (by kernel_rfl)) (SI.more (si_range1 (by rfl) T.range (se_var 1))) (fun _ _ _ _ _ => (sg_name 10 sc__law_rising.nd)) (fun i_5 => fun _ _ _ _ _ => (se_call2 D__law_pick (hr.mono (by decide)) (by rfl) (se_var 0) se_int))) rfl sc__law_rising.nd)) (se_call2 D__law_pick (hr.mono (by decide)) (by rfl) (se_var 0) se_int) (fun weights_6 bound_7 => ?_))
      refine (ss_own 3 sf_lst0 sc__law_rising.nd (fun table_8 => ?_))
      refine (ss_for (fun (t_9 : List PV) => [.fr source_a, .fr n_a, .fr (PV.lst some_3), .ow (PV.lst t_9), .no, .fr way_1, .fr size_2, .fr weights_6, .fr bound_7, .no, .no, .no, .no]) .never rfl (si_range1 (by rfl) T.range (se_var 6)) (sg_name 4 sc__law_rising.nd) (Le.keep (Le.keep (Le.keep (Le.keep (Le.drop (Le.keep (Le.keep (Le.keep (Le.keep (Le.drop (Le.drop (Le.drop (Le.drop Le.nil))))))))))))) (fun t_9 x_10 => .inl ⟨_, bo_name, ?_⟩) (fun t_9 => ?_))
      · refine (ss_ifE (sc_cmp (op_eqD hr.units) eq_ok (nomark _) (SE.sb (se_var 5)) (SE.sb se_int)) ?_ ?_)
        · refine (ss_append 3 rfl (se_intOf (by rfl) T.int (SE.sb (se_cmp (op_neD hr.units) ne_ok (nomark _) (SE.sb (SF.se (CompOk.sf (comp_if1 (own := [("lot", 11)]) 11 (blkOk_by (by kernel_rfl)) (si_seqB (SE.sb (se_var 2))) (fun _ _ _ _ _ => (sg_name 11 sc__law_rising.nd)) (fun lot_12 => fun _ _ _ _ _ => (sc_cmp (op_eqD hr.units) eq_ok (nomark _) (SE.sb (se_and (SE.sb (se_var 4)) (SE.sb (se_var 11)))) (SE.sb (se_var 11)))) (fun lot_12 => fun _ _ _ _ _ => (se_var 11))) rfl sc__law_rising.nd))) (SE.sb (SF.se sf_lst0))))) (fun table_11 => ?_))
          exact (ss_nil (.inr rfl) (Le.keep (Le.keep (Le.keep (Le.keep (Le.drop (Le.keep (Le.keep (Le.keep (Le.keep (Le.drop (Le.drop (Le.drop (Le.drop Le.nil))))))))))))))
        refine (ss_ifE (sc_cmp (op_eqD hr.units) eq_ok (nomark _) (SE.sb (se_var 5)) (SE.sb se_int)) ?_ ?_)
        · refine (ss_append 3 rfl (se_intOf (by rfl) T.int (SE.sb (se_cmp op_ge ge_ok (nomark _) (SE.sb (se_sum rfl (by rfl) T.sum (SE.sb (SF.se (CompOk.sf (comp_map2 (own := [("i", 10), ("w", 12)]) 10 12 (blkOk_by (by kernel_rfl)) (si_enumB (by rfl) T.enumerate (SE.sb (se_var 7))) (fun _ _ _ _ _ => (sg2 10 12 rfl sc__law_rising.nd (sg_name 10 sc__law_rising.nd) (sg_name 12 sc__law_rising.nd))) (fun i_14 w_15 => fun _ _ _ _ _ => (se_mul (SE.sb (se_var 12)) (SE.sb (se_call2 D__law_bit (hr.mono (by decide)) (by rfl) (se_var 4) (se_var 10)))))) rfl sc__law_rising.nd))))) (SE.sb (se_var 8))))) (fun table_13 => ?_))
          exact (ss_nil (.inr rfl) (Le.keep (Le.keep (Le.keep (Le.keep (Le.drop (Le.keep (Le.keep (Le.keep (Le.keep (Le.drop (Le.drop (Le.drop (Le.drop Le.nil))))))))))))))
        refine (ss_append 3 rfl (se_intOf (by rfl) T.int (SE.sb (se_cmp op_ge ge_ok (nomark _) (SE.sb (se_call1 D__law_ones (hr.mono (by decide)) (by rfl) (se_var 4))) (SE.sb (se_var 8))))) (fun table_16 => ?_))
        exact (ss_nil (.inr rfl) (Le.keep (Le.keep (Le.keep (Le.keep (Le.drop (Le.keep (Le.keep (Le.keep (Le.keep (Le.drop (Le.drop (Le.drop (Le.drop Le.nil))))))))))))))
      exact (ss_ret (se_tup2 (se_var 1) (se_tupleOf (by rfl) T.tuple (sb_var 3))))
theorem ok__law_every {f : Addr} {fd : FuncData} (F : Fun K "_law_every" "_law_every" s__law_every f fd) (hb : Binds K fd ["n"] []) (hm : mg "_law_every" = some (.ref f)) (T : Bt mg) : Dn P w K mg base "_law_every" 1 1 (ap1 m__law_every) :=
  fn_M F sc__law_every hb hm rfl fun cdv A outer s H E as hr hl => match as, hl with
    | [n_a], _ => show SS _ [.fr n_a, .no, .no, .no, .no, .no, .no] _ (m__law_every n_a) Outc.rn from by
      unfold m__law_every
      refine (ss_set 1 (SF.se (sf_lst2 (se_tup1 se_int) (se_tup1 se_int))) sc__law_every.nd (fun found_1 => ?_))
      refine (ss_for (fun (t_2 : PV) => [.fr n_a, .fr t_2, .no, .no, .no, .no, .no]) .never rfl (si_range1 (by rfl) T.range (se_var 0)) (sg_name 2 sc__law_every.nd) (Le.keep (Le.keep (Le.drop (Le.drop (Le.drop (Le.drop (Le.drop Le.nil))))))) (fun t_2 i_3 => .inl ⟨_, bo_name, ?_⟩) (fun t_2 => ?_))
      · refine (ss_set 3 (SF.se sf_lst0) sc__law_every.nd (fun late_4 => ?_))
        refine (ss_for (fun (t_5 : PV) => [.fr n_a, .fr t_2, .fr i_3, .fr t_5, .no, .no, .no]) .never rfl (si_seq (se_var 1)) (sg_name 4 sc__law_every.nd) (Le.keep (Le.keep (Le.keep (Le.keep (Le.drop (Le.drop (Le.drop Le.nil))))))) (fun t_5 one_6 => .inl ⟨_, bo_name, ?_⟩) (fun t_5 => ?_))
        · refine (ss_set 3 (se_add (SE.sb (se_var 3)) (SE.sb (SF.se (CompOk.sf (comp_if1 (own := [("two", 5)]) 5 (blkOk_by (by kernel_rfl)) (si_seqB (SE.sb (se_var 1))) (fun _ _ _ _ _ => (sg_name 5 sc__law_every.nd)) (fun two_8 => fun _ _ _ _ _ => (sc_cmp (op_eqD hr.units) eq_ok (nomark _) (SE.sb (SF.se (CompOk.sf (comp_if1 (own := [("k", 6)]) 6 (blkOk_by (by kernel_rfl)) (SI.more (si_range1 (by rfl) T.range (se_len (by rfl) T.len (SE.sb (se_var 4))))) (fun _ _ _ _ _ => (sg_name 6 sc__law_every.nd)) (fun k_9 => fun _ _ _ _ _ => (sc_cmp op_gt gt_ok (nomark _) (SE.sb (se_item (SE.sb (se_var 4)) (se_var 6))) (SE.sb (se_item (SE.sb (se_var 5)) (se_var 6))))) (fun k_9 => fun _ _ _ _ _ => (se_var 6))) rfl sc__law_every.nd))) (SE.sb (SF.se sf_lst0)))) (fun two_8 => fun _ _ _ _ _ => (se_add (SE.sb (se_var 4)) (SE.sb (se_var 5))))) rfl sc__law_every.nd)))) sc__law_every.nd (fun late_7 => ?_))
          exact (ss_nil (.inr rfl) (Le.keep (Le.keep (Le.keep (Le.keep (Le.drop (Le.drop (Le.drop Le.nil))))))))
        refine (ss_set 1 (SF.se (sf_listOf (by rfl) T.list (SE.sb (se_var 3)))) sc__law_every.nd (fun found_10 => ?_))
        exact (ss_nil (.inr rfl) (Le.keep (Le.keep (Le.drop (Le.drop (Le.drop (Le.drop (Le.drop Le.nil))))))))
      exact (ss_ret (se_var 1))
theorem ok__law_bound {f : Addr} {fd : FuncData} (F : Fun K "_law_bound" "_law_bound" s__law_bound f fd) (hb : Binds K fd ["n"] []) (hm : mg "_law_bound" = some (.ref f)) (T : Bt mg) (D__law_ones : Dn P w K mg base "_law_ones" 2 1 (ap1 m__law_ones)) : Dn P w K mg base "_law_bound" 3 1 (ap1 m__law_bound) :=
  fn_M F sc__law_bound hb hm rfl fun cdv A outer s H E as hr hl => match as, hl with
    | [n_a], _ => show SS _ [.fr n_a, .no] _ (m__law_bound n_a) Outc.rn from by
      unfold m__law_bound
      exact (ss_ret (se_mul (SE.sb se_int) (SE.sb (se_sum rfl (by rfl) T.sum (SE.sb (SF.se (CompOk.sf (comp_if1 (own := [("x", 1)]) 1 (blkOk_by (by kernel_rfl)) (SI.more (si_range1 (by rfl) T.range (se_shl (SE.sb se_int) (SE.sb (se_var 0))))) (fun _ _ _ _ _ => (sg_name 1 sc__law_bound.nd)) (fun x_1 => fun _ _ _ _ _ => (sc_cmp op_gt gt_ok (nomark _) (SE.sb (se_mul (SE.sb se_int) (SE.sb (se_call1 D__law_ones (hr.mono (by decide)) (by rfl) (se_var 1))))) (SE.sb (se_var 0)))) (fun x_1 => fun _ _ _ _ _ => (se_sub (SE.sb (se_mul (SE.sb se_int) (SE.sb (se_call1 D__law_ones (hr.mono (by decide)) (by rfl) (se_var 1))))) (SE.sb (se_var 0))))) rfl sc__law_bound.nd)))))))
theorem ok__law_rises_right {f : Addr} {fd : FuncData} (F : Fun K "_law_rises_right" "_law_rises_right" s__law_rises_right f fd) (hb : Binds K fd ["f"] []) (hm : mg "_law_rises_right" = some (.ref f)) (T : Bt mg) (D__law_ones : Dn P w K mg base "_law_ones" 2 1 (ap1 m__law_ones)) (D_all_changes : Dn P w K mg base "all_changes" 4 1 (ap1 m_all_changes)) (D__law_bound : Dn P w K mg base "_law_bound" 3 1 (ap1 m__law_bound)) : Dn P w K mg base "_law_rises_right" 5 1 (ap1 m__law_rises_right) :=
  fn_M F sc__law_rises_right hb hm rfl fun cdv A outer s H E as hr hl => match as, hl with
    | [f_a], _ => show SS _ [.fr f_a, .no, .no, .no, .no, .no] _ (m__law_rises_right f_a) Outc.rn from by
      unfold m__law_rises_right
      refine (ss_bind2 3 4 (se_var 0) (sg2 3 4 rfl sc__law_rises_right.nd (sg_name 3 sc__law_rises_right.nd) (sg_name 4 sc__law_rises_right.nd)) (fun n_1 table_2 => ?_))
      refine (ss_set 1 (se_mul (SE.sb se_int) (SE.sb (se_sum rfl (by rfl) T.sum (SE.sb (SF.se (CompOk.sf (comp_if1 (own := [("x", 5)]) 5 (blkOk_by (by kernel_rfl)) (SI.more (si_range1 (by rfl) T.range (se_shl (SE.sb se_int) (SE.sb (se_var 3))))) (fun _ _ _ _ _ => (sg_name 5 sc__law_rises_right.nd)) (fun x_4 => fun _ _ _ _ _ => (sc_cmp (op_eqD hr.units) eq_ok (nomark _) (SE.sb (se_item (SE.sb (se_var 4)) (se_var 5))) (SE.sb se_int))) (fun x_4 => fun _ _ _ _ _ => (se_sub (SE.sb (se_mul (SE.sb se_int) (SE.sb (se_call1 D__law_ones (hr.mono (by decide)) (by rfl) (se_var 5))))) (SE.sb (se_var 3))))) rfl sc__law_rises_right.nd)))))) sc__law_rises_right.nd (fun total_3 => ?_))
      refine (ss_ifX (SW.sc (sw_or (sc_cmp (op_neD hr.units) ne_ok (nomark _) (SE.sb (se_call1 D_all_changes (hr.mono (by decide)) (by rfl) (se_var 0))) (SE.sb (se_var 1))) (sw_or1 (sc_cmp op_gt gt_ok (nomark _) (SE.sb (se_var 1)) (SE.sb (se_call1 D__law_bound (hr.mono (by decide)) (by rfl) (se_var 3))))))) ?_ ?_)
      · exact (ss_retG (g := fun p => p) se_bl (fun _ => .inl rfl))
      refine (ss_set 2 (se_cmp (op_eqD hr.units) eq_ok (nomark _) (SE.sb (SF.se (CompOk.sf (comp_if1 (own := [("x", 5)]) 5 (blkOk_by (by kernel_rfl)) (SI.more (si_range1 (by rfl) T.range (se_shl (SE.sb se_int) (SE.sb (se_var 3))))) (fun _ _ _ _ _ => (sg_name 5 sc__law_rises_right.nd)) (fun x_6 => fun _ _ _ _ _ => (SW.sc (sw_and (sc_cmp (op_neD hr.units) ne_ok (nomark _) (SE.sb (se_mul (SE.sb se_int) (SE.sb (se_call1 D__law_ones (hr.mono (by decide)) (by rfl) (se_var 5))))) (SE.sb (se_var 3))) (sw_and1 (sc_cmp (op_neD hr.units) ne_ok (nomark _) (SE.sb (se_item (SE.sb (se_var 4)) (se_var 5))) (SE.sb (se_intOf (by rfl) T.int (SE.sb (se_cmp op_gt gt_ok (nomark _) (SE.sb (se_mul (SE.sb se_int) (SE.sb (se_call1 D__law_ones (hr.mono (by decide)) (by rfl) (se_var 5))))) (SE.sb (se_var 3))))))))))) (fun x_6 => fun _ _ _ _ _ => (se_var 5))) rfl sc__law_rises_right.nd))) (SE.sb (SF.se sf_lst0))) sc__law_rises_right.nd (fun fits_5 => ?_))
      exact (ss_ret (se_cmp (op_eqD hr.units) eq_ok (nomark _) (SE.sb (se_cmp (op_eqD hr.units) eq_ok (nomark _) (SE.sb (se_var 1)) (SE.sb (se_call1 D__law_bound (hr.mono (by decide)) (by rfl) (se_var 3))))) (SE.sb (se_var 2))))
theorem ok_law {f e : Addr} {fd ed : FuncData} (F : Fun K "law" "law" s_law f fd) (G : FnOk P w K mg base CX0 1 e ed ["script"] (spSrc K)) (bG : Binds K ed ["script"] []) (kG : PySem.W.keepIn K (.ref e) = true) (mG : mg "_law_open_cells" = some (.ref e)) (T : Bt mg) (D__law_pick : Dn P w K mg base "_law_pick" 1 2 (ap2 m__law_pick)) (D__law_every : Dn P w K mg base "_law_every" 1 1 (ap1 m__law_every)) (D__law_rises_right : Dn P w K mg base "_law_rises_right" 5 1 (ap1 m__law_rises_right)) (D__law_rising : Dn P w K mg base "_law_rising" 3 2 (ap2 m__law_rising)) (D__law_bit : Dn P w K mg base "_law_bit" 1 2 (ap2 m__law_bit)) (D_changes_of : Dn P w K mg base "changes_of" 3 2 (ap2 m_changes_of)) (D_bits_hung_on : Dn P w K mg base "bits_hung_on" 4 1 (ap1 m_bits_hung_on)) (D_all_changes : Dn P w K mg base "all_changes" 4 1 (ap1 m_all_changes)) (D_dual_of : Dn P w K mg base "dual_of" 4 1 (ap1 m_dual_of)) (D_turned_at : Dn P w K mg base "turned_at" 3 2 (ap2 m_turned_at)) (D__law_function : Dn P w K mg base "_law_function" 3 2 (ap2 m__law_function)) (D__law_ones : Dn P w K mg base "_law_ones" 2 1 (ap1 m__law_ones)) (D_input_sum : Dn P w K mg base "input_sum" 1 1 (ap1 m_input_sum)) (holds : m_law.All (· = .bl true)) : FnOk P w K mg base CX0 6 f fd ["script"] (spLaw K) := by
  refine F.ok sc_law (fun vs H Q E h => ?_) (fun cdv A outer s H vs Q E hr h => ?_)
  · obtain ⟨a, ns, rfl, _⟩ := h
    rfl
  obtain ⟨a, ns, rfl, hS, hl, q⟩ := h
  refine ⟨_, pss_cons (ps_set (i := 1) sc_law.nd rfl (by first | exact Or.inl rfl | exact Or.inr rfl) (pe_call G (hr.mono (by decide)) (by rfl) mG kG bG .nil pass0 (pa_cons (pv 0) pa_nil))) pss_wss, ?_⟩
  refine ⟨_, rfl, a, ns, rfl, hS, hl, fun H' sd sc S => ?_⟩
  have step : SS (cxOf CX0 P w K mg base ["script", "source", "k", "every", "lap", "n", "f", "ones", "i", "hung", "lot", "late", "mask", "g", "even", "x", "high", "total", "least", "table"] "law" (defScope s_law) f cdv A outer s H E).nox [.no, .fr .src, .no, .no, .no, .no, .no, .no, .no, .no, .no, .no, .no, .no, .no, .no, .no, .no, .no, .no] (defBody s_law).tail m_law Outc.rn :=
    by
      unfold m_law
      refine (ss_set 2 (se_if (sc_cmp (op_eqD hr.units) eq_ok (nomark _) (SE.sb (se_call2 D__law_pick (hr.mono (by decide)) (by rfl) (se_var 1) se_int)) (SE.sb se_int)) se_int (se_call2 D__law_pick (hr.mono (by decide)) (by rfl) (se_var 1) se_int)) sc_law.nd (fun k_1 => ?_))
      refine (ss_set 3 (se_call1 D__law_every (hr.mono (by decide)) (by rfl) (se_var 2)) sc_law.nd (fun every_2 => ?_))
      refine (ss_ifX (SW.sc (sw_or (sc_cmp (op_neD hr.units) ne_ok (nomark _) (SE.sb (se_len (by rfl) T.len (SE.sb (se_var 3)))) (SE.sb (se_item (SE.sb (SF.se (sf_lst5 se_int se_int se_int se_int se_int))) (se_var 2)))) (sw_or1 (sc_cmp (op_neD hr.units) ne_ok (nomark _) (SE.sb (SF.se (CompOk.sf (comp_if1 (own := [("table", 19)]) 19 (blkOk_by (by kernel_rfl)) (si_seqB (SE.sb (se_var 3))) (fun _ _ _ _ _ => (sg_name 19 sc_law.nd)) (fun table_3 => fun _ _ _ _ _ => (sc_not (sc_tru (SE.sb (se_call1 D__law_rises_right (hr.mono (by decide)) (by rfl) (se_tup2 (se_var 2) (se_var 19))))))) (fun table_3 => fun _ _ _ _ _ => (se_var 19))) rfl sc_law.nd))) (SE.sb (SF.se sf_lst0)))))) ?_ ?_)
      · exact (ss_retG (g := fun p => p) se_bl (fun _ => .inl rfl))
      refine (ss_forL (fun (t_4 : Unit) => [.no, .fr .src, .fr k_1, .fr every_2, .no, .no, .no, .no, .no, .no, .no, .no, .no, .no, .no, .no, .no, .no, .no, .no]) .never rfl (si_range1 (by rfl) T.range se_int) (sg_name 4 sc_law.nd) (Le.drop (Le.keep (Le.keep (Le.keep (Le.drop (Le.drop (Le.drop (Le.drop (Le.drop (Le.drop (Le.drop (Le.drop (Le.drop (Le.drop (Le.drop (Le.drop (Le.drop (Le.drop (Le.drop (Le.drop Le.nil)))))))))))))))))))) (fun t_4 lap_5 => .inl ⟨_, bo_name, ?_⟩) (fun t_4 => ?_))
      · refine (ss_set 5 (se_call2 D__law_pick (hr.mono (by decide)) (by rfl) (se_var 1) se_int) sc_law.nd (fun n_6 => ?_))
        refine (ss_set 6 (se_call2 D__law_rising (hr.mono (by decide)) (by rfl) (se_var 1) (se_var 5)) sc_law.nd (fun f_7 => ?_))
        refine (ss_ifX (sc_not (sc_tru (SE.sb (se_call1 D__law_rises_right (hr.mono (by decide)) (by rfl) (se_var 6))))) ?_ ?_)
        · exact (ss_retG (g := fun p => (Lp.out p)) se_bl (fun _ => .inl rfl))
        refine (ss_set 7 (se_sum rfl (by rfl) T.sum (SE.sb (se_item (SE.sb (se_var 6)) se_int))) sc_law.nd (fun ones_8 => ?_))
        refine (ss_forL (fun (t_9 : Unit) => [.no, .fr .src, .fr k_1, .fr every_2, .fr lap_5, .fr n_6, .fr f_7, .fr ones_8, .no, .no, .no, .no, .no, .no, .no, .no, .no, .no, .no, .no]) .never rfl (si_range1 (by rfl) T.range (se_var 5)) (sg_name 8 sc_law.nd) (Le.drop (Le.keep (Le.keep (Le.keep (Le.keep (Le.keep (Le.keep (Le.keep (Le.drop (Le.drop (Le.drop (Le.drop (Le.drop (Le.drop (Le.drop (Le.drop (Le.drop (Le.drop (Le.drop (Le.drop Le.nil)))))))))))))))))))) (fun t_9 i_10 => .inl ⟨_, bo_name, ?_⟩) (fun t_9 => ?_))
        · refine (ss_set 16 (se_sum rfl (by rfl) T.sum (SE.sb (SF.se (CompOk.sf (comp_if1 (own := [("x", 15)]) 15 (blkOk_by (by kernel_rfl)) (SI.more (si_range1 (by rfl) T.range (se_shl (SE.sb se_int) (SE.sb (se_var 5))))) (fun _ _ _ _ _ => (sg_name 15 sc_law.nd)) (fun x_12 => fun _ _ _ _ _ => (sc_cmp (op_eqD hr.units) eq_ok (nomark _) (SE.sb (se_call2 D__law_bit (hr.mono (by decide)) (by rfl) (se_var 15) (se_var 8))) (SE.sb se_int))) (fun x_12 => fun _ _ _ _ _ => (se_item (SE.sb (se_item (SE.sb (se_var 6)) se_int)) (se_var 15)))) rfl sc_law.nd)))) sc_law.nd (fun high_11 => ?_))
          refine (ss_ifX (sc_cmp (op_neD hr.units) ne_ok (nomark _) (SE.sb (se_call2 D_changes_of (hr.mono (by decide)) (by rfl) (se_var 6) (se_var 8))) (SE.sb (se_mul (SE.sb se_int) (SE.sb (se_sub (SE.sb (se_mul (SE.sb se_int) (SE.sb (se_var 16)))) (SE.sb (se_var 7))))))) ?_ ?_)
          · exact (ss_retG (g := fun p => (Lp.out (Lp.out p))) se_bl (fun _ => .inl rfl))
          exact (ss_nil (.inr rfl) (Le.drop (Le.keep (Le.keep (Le.keep (Le.keep (Le.keep (Le.keep (Le.keep (Le.drop (Le.drop (Le.drop (Le.drop (Le.drop (Le.drop (Le.drop (Le.drop (Le.drop (Le.drop (Le.drop (Le.drop Le.nil)))))))))))))))))))))
        refine (ss_set 9 (se_tupleOf (by rfl) T.tuple (SE.sb (SF.se (CompOk.sf (comp_if1 (own := [("i", 8)]) 8 (blkOk_by (by kernel_rfl)) (SI.more (si_range1 (by rfl) T.range (se_var 5))) (fun _ _ _ _ _ => (sg_name 8 sc_law.nd)) (fun i_14 => fun _ _ _ _ _ => (sc_cmp op_gt gt_ok (nomark _) (SE.sb (se_call2 D_changes_of (hr.mono (by decide)) (by rfl) (se_var 6) (se_var 8))) (SE.sb se_int))) (fun i_14 => fun _ _ _ _ _ => (se_var 8))) rfl sc_law.nd)))) sc_law.nd (fun hung_13 => ?_))
        refine (ss_ifX (SW.sc (sw_or (sc_cmp (op_neD hr.units) ne_ok (nomark _) (SE.sb (se_call1 D_bits_hung_on (hr.mono (by decide)) (by rfl) (se_var 6))) (SE.sb (se_var 9))) (sw_or1 (sc_cmp (op_neD hr.units) ne_ok (nomark _) (SE.sb (se_call1 D_all_changes (hr.mono (by decide)) (by rfl) (se_call1 D_dual_of (hr.mono (by decide)) (by rfl) (se_var 6)))) (SE.sb (se_call1 D_all_changes (hr.mono (by decide)) (by rfl) (se_var 6))))))) ?_ ?_)
        · exact (ss_retG (g := fun p => (Lp.out p)) se_bl (fun _ => .inl rfl))
        refine (ss_set 10 (se_tupleOf (by rfl) T.tuple (SE.sb (SF.se (CompOk.sf (comp_if1 (own := [("i", 8)]) 8 (blkOk_by (by kernel_rfl)) (SI.more (si_range1 (by rfl) T.range (se_var 5))) (fun _ _ _ _ _ => (sg_name 8 sc_law.nd)) (fun i_16 => fun _ _ _ _ _ => (sc_cmp (op_eqD hr.units) eq_ok (nomark _) (SE.sb (se_call2 D__law_pick (hr.mono (by decide)) (by rfl) (se_var 1) se_int)) (SE.sb se_int))) (fun i_16 => fun _ _ _ _ _ => (se_var 8))) rfl sc_law.nd)))) sc_law.nd (fun lot_15 => ?_))
        refine (ss_set 11 (se_call2 D_turned_at (hr.mono (by decide)) (by rfl) (se_var 6) (se_var 10)) sc_law.nd (fun late_17 => ?_))
        refine (ss_set 12 (se_sum rfl (by rfl) T.sum (SE.sb (SF.se (CompOk.sf (comp_map1 (own := [("i", 8)]) 8 (blkOk_by (by kernel_rfl)) (si_seqB (SE.sb (se_var 10))) (fun _ _ _ _ _ => (sg_name 8 sc_law.nd)) (fun i_19 => fun _ _ _ _ _ => (se_shl (SE.sb se_int) (SE.sb (se_var 8))))) rfl sc_law.nd)))) sc_law.nd (fun mask_18 => ?_))
        refine (ss_ifX (SW.sc (sw_or (sc_cmp (op_neD hr.units) ne_ok (nomark _) (SE.sb (SF.se (CompOk.sf (comp_if1 (own := [("x", 15)]) 15 (blkOk_by (by kernel_rfl)) (SI.more (si_range1 (by rfl) T.range (se_shl (SE.sb se_int) (SE.sb (se_var 5))))) (fun _ _ _ _ _ => (sg_name 15 sc_law.nd)) (fun x_20 => fun _ _ _ _ _ => (sc_cmp (op_neD hr.units) ne_ok (nomark _) (SE.sb (se_item (SE.sb (se_item (SE.sb (se_var 11)) se_int)) (se_var 15))) (SE.sb (se_item (SE.sb (se_item (SE.sb (se_var 6)) se_int)) (se_xor (SE.sb (se_var 15)) (SE.sb (se_var 12))))))) (fun x_20 => fun _ _ _ _ _ => (se_var 15))) rfl sc_law.nd))) (SE.sb (SF.se sf_lst0))) (sw_or1 (sc_cmp (op_neD hr.units) ne_ok (nomark _) (SE.sb (se_call1 D_all_changes (hr.mono (by decide)) (by rfl) (se_var 11))) (SE.sb (se_call1 D_all_changes (hr.mono (by decide)) (by rfl) (se_var 6))))))) ?_ ?_)
        · exact (ss_retG (g := fun p => (Lp.out p)) se_bl (fun _ => .inl rfl))
        refine (ss_set 13 (se_call2 D__law_function (hr.mono (by decide)) (by rfl) (se_var 1) (se_var 5)) sc_law.nd (fun g_21 => ?_))
        refine (ss_par 17 18 rfl sc_law.nd (se_call1 D_all_changes (hr.mono (by decide)) (by rfl) (se_var 13)) (se_min2 rfl (by rfl) T.min (se_sum rfl (by rfl) T.sum (SE.sb (se_item (SE.sb (se_var 13)) se_int))) (se_sub (SE.sb (se_shl (SE.sb se_int) (SE.sb (se_var 5)))) (SE.sb (se_sum rfl (by rfl) T.sum (SE.sb (se_item (SE.sb (se_var 13)) se_int)))))) (fun total_22 least_23 => ?_))
        refine (ss_ifX (SW.sc (sw_or (sc_cmp op_gt gt_ok (nomark _) (SE.sb (se_var 17)) (SE.sb (se_mul (SE.sb (se_mul (SE.sb se_int) (SE.sb (se_var 5)))) (SE.sb (se_var 18))))) (sw_or1 (sc_cmp (op_neD hr.units) ne_ok (nomark _) (SE.sb (se_mul (SE.sb (se_div (SE.sb (se_var 17)) (SE.sb se_int))) (SE.sb se_int))) (SE.sb (se_var 17)))))) ?_ ?_)
        · exact (ss_retG (g := fun p => (Lp.out p)) se_bl (fun _ => .inl rfl))
        refine (ss_set 14 (se_cmp (op_eqD hr.units) eq_ok (nomark _) (SE.sb (SF.se (CompOk.sf (comp_if1 (own := [("x", 15)]) 15 (blkOk_by (by kernel_rfl)) (SI.more (si_range1 (by rfl) T.range (se_shl (SE.sb se_int) (SE.sb (se_var 5))))) (fun _ _ _ _ _ => (sg_name 15 sc_law.nd)) (fun x_25 => fun _ _ _ _ _ => (sc_cmp (op_neD hr.units) ne_ok (nomark _) (SE.sb (se_item (SE.sb (se_item (SE.sb (se_var 13)) se_int)) (se_var 15))) (SE.sb (se_xor (SE.sb (se_item (SE.sb (se_item (SE.sb (se_var 13)) se_int)) se_int)) (SE.sb (se_sub (SE.sb (se_call1 D__law_ones (hr.mono (by decide)) (by rfl) (se_var 15))) (SE.sb (se_mul (SE.sb (se_div (SE.sb (se_call1 D__law_ones (hr.mono (by decide)) (by rfl) (se_var 15))) (SE.sb se_int))) (SE.sb se_int))))))))) (fun x_25 => fun _ _ _ _ _ => (se_var 15))) rfl sc_law.nd))) (SE.sb (SF.se sf_lst0))) sc_law.nd (fun even_24 => ?_))
        refine (ss_ifX (sc_cmp (op_neD hr.units) ne_ok (nomark _) (SE.sb (se_cmp (op_eqD hr.units) eq_ok (nomark _) (SE.sb (se_var 17)) (SE.sb (se_mul (SE.sb (se_var 5)) (SE.sb (se_shl (SE.sb se_int) (SE.sb (se_var 5)))))))) (SE.sb (se_orV (se_var 14) (se_one (se_cmp (op_eqD hr.units) eq_ok (nomark _) (SE.sb (se_var 5)) (SE.sb se_int)))))) ?_ ?_)
        · exact (ss_retG (g := fun p => (Lp.out p)) se_bl (fun _ => .inl rfl))
        refine (ss_set 15 (se_call2 D__law_pick (hr.mono (by decide)) (by rfl) (se_var 1) (se_shl (SE.sb se_int) (SE.sb (se_var 5)))) sc_law.nd (fun x_26 => ?_))
        refine (ss_ifX (sc_cmp (op_neD hr.units) ne_ok (nomark _) (SE.sb (se_call1 D_input_sum (hr.mono (by decide)) (by rfl) (se_var 15))) (SE.sb (se_call1 D__law_ones (hr.mono (by decide)) (by rfl) (se_var 15)))) ?_ ?_)
        · exact (ss_retG (g := fun p => (Lp.out p)) se_bl (fun _ => .inl rfl))
        exact (ss_nil (.inr rfl) (Le.drop (Le.keep (Le.keep (Le.keep (Le.drop (Le.drop (Le.drop (Le.drop (Le.drop (Le.drop (Le.drop (Le.drop (Le.drop (Le.drop (Le.drop (Le.drop (Le.drop (Le.drop (Le.drop (Le.drop Le.nil)))))))))))))))))))))
      exact (ss_ret se_bl)
  refine step noH noH ⟨noH, some (sd, sc)⟩ _ H' _ (src_start (n := 20) (i := 1) S (by show 1 < 20; decide)) (holds.mono fun p e => ?_)
  · subst e
    exact ⟨fun F' W' v H' l hs' sub rv => by cases rv; exact q H', fun e2 => nomatch e2⟩
end
theorem all_mk {l : PySem.W.OpenLaw} {w : World} {K : PySem.W.Frag} {h : Heap} {mg : Str → Option Value} {fa f1 f2 f3 f4 f5 f6 f7 f8 f9 f10 f11 f12 f13 f14 f15 f16 f17 f18 f19 f20 f21 : Addr} (holds : m_law.All (· = .bl true)) (X : K.In h) (G : h.Ns mainGlobals mg) (hfa : mg "law" = some (.ref fa))
    {od1 an1 od2 an2 od3 an3 od4 an4 od5 an5 od6 an6 od7 an7 od8 an8 od9 an9 od10 an10 od11 an11 od12 an12 od13 an13 od14 an14 od15 an15 od16 an16 od17 an17 od18 an18 od19 an19 od20 an20 od21 an21 : Option Addr} {sl1 sl2 sl3 sl4 sl5 sl6 sl7 sl8 sl9 sl10 sl11 sl12 sl13 sl14 sl15 sl16 sl17 sl18 sl19 sl20 sl21 : Array (Option Value)} {oc1 kV1 dc1 pm1 cd1 ct1 oc2 kV2 dc2 pm2 cd2 ct2 oc3 kV3 dc3 pm3 cd3 ct3 oc4 kV4 dc4 pm4 cd4 ct4 oc5 kV5 dc5 pm5 cd5 ct5 oc6 kV6 dc6 pm6 cd6 ct6 oc7 kV7 dc7 pm7 cd7 ct7 oc8 kV8 dc8 pm8 cd8 ct8 oc9 kV9 dc9 pm9 cd9 ct9 oc10 kV10 dc10 pm10 cd10 ct10 oc11 kV11 dc11 pm11 cd11 ct11 oc12 kV12 dc12 pm12 cd12 ct12 oc13 kV13 dc13 pm13 cd13 ct13 oc14 kV14 dc14 pm14 cd14 ct14 oc15 kV15 dc15 pm15 cd15 ct15 oc16 kV16 dc16 pm16 cd16 ct16 oc17 kV17 dc17 pm17 cd17 ct17 oc18 kV18 dc18 pm18 cd18 ct18 oc19 kV19 dc19 pm19 cd19 ct19 oc20 kV20 dc20 pm20 cd20 ct20 oc21 kV21 dc21 pm21 cd21 ct21 : Value}
    (a1 : PySem.W.nsIn K mainGlobals "has_bit" = some (some (.ref f1))) (l1 : K.lookup f1 = some ⟨oc1, od1, .func (PySem.W.fnOf "has_bit" "has_bit" (defArgs s_has_bit) (defBody s_has_bit) (defScope s_has_bit) .none kV1 dc1 pm1 an1 cd1 ct1), sl1⟩) (c1 : PySem.W.codeIn K cd1 "has_bit" = true) (k1 : PySem.W.keepIn K (.ref f1) = true)
    (a2 : PySem.W.nsIn K mainGlobals "matters_at" = some (some (.ref f2))) (l2 : K.lookup f2 = some ⟨oc2, od2, .func (PySem.W.fnOf "matters_at" "matters_at" (defArgs s_matters_at) (defBody s_matters_at) (defScope s_matters_at) .none kV2 dc2 pm2 an2 cd2 ct2), sl2⟩) (c2 : PySem.W.codeIn K cd2 "matters_at" = true) (k2 : PySem.W.keepIn K (.ref f2) = true)
    (a3 : PySem.W.nsIn K mainGlobals "changes_of" = some (some (.ref f3))) (l3 : K.lookup f3 = some ⟨oc3, od3, .func (PySem.W.fnOf "changes_of" "changes_of" (defArgs s_changes_of) (defBody s_changes_of) (defScope s_changes_of) .none kV3 dc3 pm3 an3 cd3 ct3), sl3⟩) (c3 : PySem.W.codeIn K cd3 "changes_of" = true) (k3 : PySem.W.keepIn K (.ref f3) = true)
    (a4 : PySem.W.nsIn K mainGlobals "all_changes" = some (some (.ref f4))) (l4 : K.lookup f4 = some ⟨oc4, od4, .func (PySem.W.fnOf "all_changes" "all_changes" (defArgs s_all_changes) (defBody s_all_changes) (defScope s_all_changes) .none kV4 dc4 pm4 an4 cd4 ct4), sl4⟩) (c4 : PySem.W.codeIn K cd4 "all_changes" = true) (k4 : PySem.W.keepIn K (.ref f4) = true)
    (a5 : PySem.W.nsIn K mainGlobals "bits_hung_on" = some (some (.ref f5))) (l5 : K.lookup f5 = some ⟨oc5, od5, .func (PySem.W.fnOf "bits_hung_on" "bits_hung_on" (defArgs s_bits_hung_on) (defBody s_bits_hung_on) (defScope s_bits_hung_on) .none kV5 dc5 pm5 an5 cd5 ct5), sl5⟩) (c5 : PySem.W.codeIn K cd5 "bits_hung_on" = true) (k5 : PySem.W.keepIn K (.ref f5) = true)
    (a6 : PySem.W.nsIn K mainGlobals "bit_of" = some (some (.ref f6))) (l6 : K.lookup f6 = some ⟨oc6, od6, .func (PySem.W.fnOf "bit_of" "bit_of" (defArgs s_bit_of) (defBody s_bit_of) (defScope s_bit_of) .none kV6 dc6 pm6 an6 cd6 ct6), sl6⟩) (c6 : PySem.W.codeIn K cd6 "bit_of" = true) (k6 : PySem.W.keepIn K (.ref f6) = true)
    (a7 : PySem.W.nsIn K mainGlobals "input_sum" = some (some (.ref f7))) (l7 : K.lookup f7 = some ⟨oc7, od7, .func (PySem.W.fnOf "input_sum" "input_sum" (defArgs s_input_sum) (defBody s_input_sum) (defScope s_input_sum) .none kV7 dc7 pm7 an7 cd7 ct7), sl7⟩) (c7 : PySem.W.codeIn K cd7 "input_sum" = true) (k7 : PySem.W.keepIn K (.ref f7) = true)
    (a8 : PySem.W.nsIn K mainGlobals "input_turned" = some (some (.ref f8))) (l8 : K.lookup f8 = some ⟨oc8, od8, .func (PySem.W.fnOf "input_turned" "input_turned" (defArgs s_input_turned) (defBody s_input_turned) (defScope s_input_turned) .none kV8 dc8 pm8 an8 cd8 ct8), sl8⟩) (c8 : PySem.W.codeIn K cd8 "input_turned" = true) (k8 : PySem.W.keepIn K (.ref f8) = true)
    (a9 : PySem.W.nsIn K mainGlobals "turned_at" = some (some (.ref f9))) (l9 : K.lookup f9 = some ⟨oc9, od9, .func (PySem.W.fnOf "turned_at" "turned_at" (defArgs s_turned_at) (defBody s_turned_at) (defScope s_turned_at) .none kV9 dc9 pm9 an9 cd9 ct9), sl9⟩) (c9 : PySem.W.codeIn K cd9 "turned_at" = true) (k9 : PySem.W.keepIn K (.ref f9) = true)
    (a10 : PySem.W.nsIn K mainGlobals "opposite_of" = some (some (.ref f10))) (l10 : K.lookup f10 = some ⟨oc10, od10, .func (PySem.W.fnOf "opposite_of" "opposite_of" (defArgs s_opposite_of) (defBody s_opposite_of) (defScope s_opposite_of) .none kV10 dc10 pm10 an10 cd10 ct10), sl10⟩) (c10 : PySem.W.codeIn K cd10 "opposite_of" = true) (k10 : PySem.W.keepIn K (.ref f10) = true)
    (a11 : PySem.W.nsIn K mainGlobals "dual_of" = some (some (.ref f11))) (l11 : K.lookup f11 = some ⟨oc11, od11, .func (PySem.W.fnOf "dual_of" "dual_of" (defArgs s_dual_of) (defBody s_dual_of) (defScope s_dual_of) .none kV11 dc11 pm11 an11 cd11 ct11), sl11⟩) (c11 : PySem.W.codeIn K cd11 "dual_of" = true) (k11 : PySem.W.keepIn K (.ref f11) = true)
    (a12 : PySem.W.nsIn K mainGlobals "_law_open_cells" = some (some (.ref f12))) (l12 : K.lookup f12 = some ⟨oc12, od12, .func (PySem.W.fnOf "_law_open_cells" "_law_open_cells" (defArgs s__law_open_cells) (defBody s__law_open_cells) (defScope s__law_open_cells) .none kV12 dc12 pm12 an12 cd12 ct12), sl12⟩) (c12 : PySem.W.codeIn K cd12 "_law_open_cells" = true) (k12 : PySem.W.keepIn K (.ref f12) = true)
    (a13 : PySem.W.nsIn K mainGlobals "_law_pick" = some (some (.ref f13))) (l13 : K.lookup f13 = some ⟨oc13, od13, .func (PySem.W.fnOf "_law_pick" "_law_pick" (defArgs s__law_pick) (defBody s__law_pick) (defScope s__law_pick) .none kV13 dc13 pm13 an13 cd13 ct13), sl13⟩) (c13 : PySem.W.codeIn K cd13 "_law_pick" = true) (k13 : PySem.W.keepIn K (.ref f13) = true)
    (a14 : PySem.W.nsIn K mainGlobals "_law_bit" = some (some (.ref f14))) (l14 : K.lookup f14 = some ⟨oc14, od14, .func (PySem.W.fnOf "_law_bit" "_law_bit" (defArgs s__law_bit) (defBody s__law_bit) (defScope s__law_bit) .none kV14 dc14 pm14 an14 cd14 ct14), sl14⟩) (c14 : PySem.W.codeIn K cd14 "_law_bit" = true) (k14 : PySem.W.keepIn K (.ref f14) = true)
    (a15 : PySem.W.nsIn K mainGlobals "_law_ones" = some (some (.ref f15))) (l15 : K.lookup f15 = some ⟨oc15, od15, .func (PySem.W.fnOf "_law_ones" "_law_ones" (defArgs s__law_ones) (defBody s__law_ones) (defScope s__law_ones) .none kV15 dc15 pm15 an15 cd15 ct15), sl15⟩) (c15 : PySem.W.codeIn K cd15 "_law_ones" = true) (k15 : PySem.W.keepIn K (.ref f15) = true)
    (a16 : PySem.W.nsIn K mainGlobals "_law_function" = some (some (.ref f16))) (l16 : K.lookup f16 = some ⟨oc16, od16, .func (PySem.W.fnOf "_law_function" "_law_function" (defArgs s__law_function) (defBody s__law_function) (defScope s__law_function) .none kV16 dc16 pm16 an16 cd16 ct16), sl16⟩) (c16 : PySem.W.codeIn K cd16 "_law_function" = true) (k16 : PySem.W.keepIn K (.ref f16) = true)
    (a17 : PySem.W.nsIn K mainGlobals "_law_rising" = some (some (.ref f17))) (l17 : K.lookup f17 = some ⟨oc17, od17, .func (PySem.W.fnOf "_law_rising" "_law_rising" (defArgs s__law_rising) (defBody s__law_rising) (defScope s__law_rising) .none kV17 dc17 pm17 an17 cd17 ct17), sl17⟩) (c17 : PySem.W.codeIn K cd17 "_law_rising" = true) (k17 : PySem.W.keepIn K (.ref f17) = true)
    (a18 : PySem.W.nsIn K mainGlobals "_law_every" = some (some (.ref f18))) (l18 : K.lookup f18 = some ⟨oc18, od18, .func (PySem.W.fnOf "_law_every" "_law_every" (defArgs s__law_every) (defBody s__law_every) (defScope s__law_every) .none kV18 dc18 pm18 an18 cd18 ct18), sl18⟩) (c18 : PySem.W.codeIn K cd18 "_law_every" = true) (k18 : PySem.W.keepIn K (.ref f18) = true)
    (a19 : PySem.W.nsIn K mainGlobals "_law_bound" = some (some (.ref f19))) (l19 : K.lookup f19 = some ⟨oc19, od19, .func (PySem.W.fnOf "_law_bound" "_law_bound" (defArgs s__law_bound) (defBody s__law_bound) (defScope s__law_bound) .none kV19 dc19 pm19 an19 cd19 ct19), sl19⟩) (c19 : PySem.W.codeIn K cd19 "_law_bound" = true) (k19 : PySem.W.keepIn K (.ref f19) = true)
    (a20 : PySem.W.nsIn K mainGlobals "_law_rises_right" = some (some (.ref f20))) (l20 : K.lookup f20 = some ⟨oc20, od20, .func (PySem.W.fnOf "_law_rises_right" "_law_rises_right" (defArgs s__law_rises_right) (defBody s__law_rises_right) (defScope s__law_rises_right) .none kV20 dc20 pm20 an20 cd20 ct20), sl20⟩) (c20 : PySem.W.codeIn K cd20 "_law_rises_right" = true) (k20 : PySem.W.keepIn K (.ref f20) = true)
    (a21 : PySem.W.nsIn K mainGlobals "law" = some (some (.ref f21))) (l21 : K.lookup f21 = some ⟨oc21, od21, .func (PySem.W.fnOf "law" "law" (defArgs s_law) (defBody s_law) (defScope s_law) .none kV21 dc21 pm21 an21 cd21 ct21), sl21⟩) (c21 : PySem.W.codeIn K cd21 "law" = true) (k21 : PySem.W.keepIn K (.ref f21) = true)
    (z1 : PySem.W.nsIn K mainGlobals "abs" = some none) (z2 : PySem.W.nsIn K mainGlobals "enumerate" = some none) (z3 : PySem.W.nsIn K mainGlobals "int" = some none) (z4 : PySem.W.nsIn K mainGlobals "len" = some none) (z5 : PySem.W.nsIn K mainGlobals "list" = some none) (z6 : PySem.W.nsIn K mainGlobals "min" = some none) (z7 : PySem.W.nsIn K mainGlobals "range" = some none) (z8 : PySem.W.nsIn K mainGlobals "sum" = some none) (z9 : PySem.W.nsIn K mainGlobals "tuple" = some none)
    : ∃ fd : FuncData, (∀ (s : Shared) (v : Value), BindsTo s fd ⟨[v], []⟩ [("script", v)]) ∧ ∀ base : Heap, K.In base → base.Ns mainGlobals mg → FnOk l.prog w K mg base CX0 6 fa fd ["script"] (spLaw K) := by
  have e := hfa.symm.trans (PySem.W.mg_of X G a21)
  cases e
  have F1 := fun_mk (st := s_has_bit) l1 c1 k1
  have b1 := F1.binds (ps := ["s", "i"]) fun _ _ _ _ _ _ us hl => match us, hl with | [_, _], _ => rfl
  have F2 := fun_mk (st := s_matters_at) l2 c2 k2
  have b2 := F2.binds (ps := ["function", "i", "x"]) fun _ _ _ _ _ _ us hl => match us, hl with | [_, _, _], _ => rfl
  have F3 := fun_mk (st := s_changes_of) l3 c3 k3
  have b3 := F3.binds (ps := ["function", "i"]) fun _ _ _ _ _ _ us hl => match us, hl with | [_, _], _ => rfl
  have F4 := fun_mk (st := s_all_changes) l4 c4 k4
  have b4 := F4.binds (ps := ["function"]) fun _ _ _ _ _ _ us hl => match us, hl with | [_], _ => rfl
  have F5 := fun_mk (st := s_bits_hung_on) l5 c5 k5
  have b5 := F5.binds (ps := ["function"]) fun _ _ _ _ _ _ us hl => match us, hl with | [_], _ => rfl
  have F6 := fun_mk (st := s_bit_of) l6 c6 k6
  have b6 := F6.binds (ps := ["x", "i"]) fun _ _ _ _ _ _ us hl => match us, hl with | [_, _], _ => rfl
  have F7 := fun_mk (st := s_input_sum) l7 c7 k7
  have b7 := F7.binds (ps := ["x"]) fun _ _ _ _ _ _ us hl => match us, hl with | [_], _ => rfl
  have F8 := fun_mk (st := s_input_turned) l8 c8 k8
  have b8 := F8.binds (ps := ["x", "lot"]) fun _ _ _ _ _ _ us hl => match us, hl with | [_, _], _ => rfl
  have F9 := fun_mk (st := s_turned_at) l9 c9 k9
  have b9 := F9.binds (ps := ["f", "lot"]) fun _ _ _ _ _ _ us hl => match us, hl with | [_, _], _ => rfl
  have F10 := fun_mk (st := s_opposite_of) l10 c10 k10
  have b10 := F10.binds (ps := ["f"]) fun _ _ _ _ _ _ us hl => match us, hl with | [_], _ => rfl
  have F11 := fun_mk (st := s_dual_of) l11 c11 k11
  have b11 := F11.binds (ps := ["f"]) fun _ _ _ _ _ _ us hl => match us, hl with | [_], _ => rfl
  have F12 := fun_mk (st := s__law_open_cells) l12 c12 k12
  have b12 := F12.binds (ps := ["script"]) fun _ _ _ _ _ _ us hl => match us, hl with | [_], _ => rfl
  have F13 := fun_mk (st := s__law_pick) l13 c13 k13
  have b13 := F13.binds (ps := ["source", "most"]) fun _ _ _ _ _ _ us hl => match us, hl with | [_, _], _ => rfl
  have F14 := fun_mk (st := s__law_bit) l14 c14 k14
  have b14 := F14.binds (ps := ["x", "i"]) fun _ _ _ _ _ _ us hl => match us, hl with | [_, _], _ => rfl
  have F15 := fun_mk (st := s__law_ones) l15 c15 k15
  have b15 := F15.binds (ps := ["x"]) fun _ _ _ _ _ _ us hl => match us, hl with | [_], _ => rfl
  have F16 := fun_mk (st := s__law_function) l16 c16 k16
  have b16 := F16.binds (ps := ["source", "n"]) fun _ _ _ _ _ _ us hl => match us, hl with | [_, _], _ => rfl
  have F17 := fun_mk (st := s__law_rising) l17 c17 k17
  have b17 := F17.binds (ps := ["source", "n"]) fun _ _ _ _ _ _ us hl => match us, hl with | [_, _], _ => rfl
  have F18 := fun_mk (st := s__law_every) l18 c18 k18
  have b18 := F18.binds (ps := ["n"]) fun _ _ _ _ _ _ us hl => match us, hl with | [_], _ => rfl
  have F19 := fun_mk (st := s__law_bound) l19 c19 k19
  have b19 := F19.binds (ps := ["n"]) fun _ _ _ _ _ _ us hl => match us, hl with | [_], _ => rfl
  have F20 := fun_mk (st := s__law_rises_right) l20 c20 k20
  have b20 := F20.binds (ps := ["f"]) fun _ _ _ _ _ _ us hl => match us, hl with | [_], _ => rfl
  have F21 := fun_mk (st := s_law) l21 c21 k21
  have T : Bt mg := ⟨PySem.W.mg_none_of X G z1, PySem.W.mg_none_of X G z2, PySem.W.mg_none_of X G z3, PySem.W.mg_none_of X G z4, PySem.W.mg_none_of X G z5, PySem.W.mg_none_of X G z6, PySem.W.mg_none_of X G z7, PySem.W.mg_none_of X G z8, PySem.W.mg_none_of X G z9⟩
  refine ⟨PySem.W.fnOf "law" "law" (defArgs s_law) (defBody s_law) (defScope s_law) .none kV21 dc21 pm21 an21 cd21 ct21, fun s v => .of_eq rfl, fun base _ _ => ?_⟩
  have D_has_bit := ok_has_bit (P := l.prog) (w := w) (base := base) F1 b1 (PySem.W.mg_of X G a1) T
  have D_matters_at := ok_matters_at (P := l.prog) (w := w) (base := base) F2 b2 (PySem.W.mg_of X G a2) T D_has_bit
  have D_changes_of := ok_changes_of (P := l.prog) (w := w) (base := base) F3 b3 (PySem.W.mg_of X G a3) T D_matters_at
  have D_all_changes := ok_all_changes (P := l.prog) (w := w) (base := base) F4 b4 (PySem.W.mg_of X G a4) T D_changes_of
  have D_bits_hung_on := ok_bits_hung_on (P := l.prog) (w := w) (base := base) F5 b5 (PySem.W.mg_of X G a5) T D_changes_of
  have D_bit_of := ok_bit_of (P := l.prog) (w := w) (base := base) F6 b6 (PySem.W.mg_of X G a6) T
  have D_input_sum := ok_input_sum (P := l.prog) (w := w) (base := base) F7 b7 (PySem.W.mg_of X G a7) T
  have D_input_turned := ok_input_turned (P := l.prog) (w := w) (base := base) F8 b8 (PySem.W.mg_of X G a8) T D_bit_of
  have D_turned_at := ok_turned_at (P := l.prog) (w := w) (base := base) F9 b9 (PySem.W.mg_of X G a9) T D_input_turned
  have D_opposite_of := ok_opposite_of (P := l.prog) (w := w) (base := base) F10 b10 (PySem.W.mg_of X G a10) T
  have D_dual_of := ok_dual_of (P := l.prog) (w := w) (base := base) F11 b11 (PySem.W.mg_of X G a11) T D_opposite_of D_turned_at
  have D__law_open_cells := ok__law_open_cells (P := l.prog) (w := w) (base := base) F12 T
  have D__law_pick := ok__law_pick (P := l.prog) (w := w) (base := base) F13 b13 (PySem.W.mg_of X G a13) T
  have D__law_bit := ok__law_bit (P := l.prog) (w := w) (base := base) F14 b14 (PySem.W.mg_of X G a14) T
  have D__law_ones := ok__law_ones (P := l.prog) (w := w) (base := base) F15 b15 (PySem.W.mg_of X G a15) T D__law_bit
  have D__law_function := ok__law_function (P := l.prog) (w := w) (base := base) F16 b16 (PySem.W.mg_of X G a16) T D__law_pick D__law_ones
  have D__law_rising := ok__law_rising (P := l.prog) (w := w) (base := base) F17 b17 (PySem.W.mg_of X G a17) T D__law_pick D__law_bit D__law_ones
  have D__law_every := ok__law_every (P := l.prog) (w := w) (base := base) F18 b18 (PySem.W.mg_of X G a18) T
  have D__law_bound := ok__law_bound (P := l.prog) (w := w) (base := base) F19 b19 (PySem.W.mg_of X G a19) T D__law_ones
  have D__law_rises_right := ok__law_rises_right (P := l.prog) (w := w) (base := base) F20 b20 (PySem.W.mg_of X G a20) T D__law_ones D_all_changes D__law_bound
  exact ok_law F21 D__law_open_cells b12 k12 (PySem.W.mg_of X G a12) T D__law_pick D__law_every D__law_rises_right D__law_rising D__law_bit D_changes_of D_bits_hung_on D_all_changes D_dual_of D_turned_at D__law_function D__law_ones D_input_sum holds
theorem walk {l : PySem.W.OpenLaw} {q : Program} {loose : List Str} {XP : (Str → Option Value) → Heap → Prop} {YP : World → Heap → Prop} {d : DefRec} {K : Params → PySem.W.Frag} (hn : l.most = some 63) (hdf : d.params.defaults = [])
    (hY : ∀ (w : World) (h : Heap), YP w h → (K w.params).In h)
    (F : ∀ (w : World) (mg : Str → Option Value) (fa : Addr) (h : Heap), (K w.params).In h → h.Ns mainGlobals mg → mg d.name = some (.ref fa) →
      ∃ fd : FuncData, (∀ (s : Shared) (u : Value), BindsTo s fd ⟨[u], []⟩ [("script", u)]) ∧ ∀ base : Heap, (K w.params).In base → base.Ns mainGlobals mg → FnOk l.prog w (K w.params) mg base CX0 6 fa fd ["script"] (spLaw (K w.params))) :
    PySem.W.WalkO q loose XP YP l.row.toRowW d [] (fun f vs => PySem.call f vs) :=
  L2.walk_of (n := 63) (k := 6) (x := "script") (CX := fun _ => CX0) (sp := fun w => spLaw (K w.params)) hn (by decide) hdf ⟨rfl, by decide, by decide⟩ hY F (fun _ _ a ns hl _ hS => ⟨a, ns, rfl, hS, hl, fun _ => rfl⟩) fun _ _ _ _ _ z => z
end K

namespace K
open PySem PySem.Spec PyProof.Rows L2 ML
theorem tb_of (x i : Nat) : decide (BF.bi x i = 1) = x.testBit i := by
  unfold BF.bi
  cases x.testBit i <;> rfl
theorem has_bit_ev (x i : Nat) (hi : i < 30) : m_has_bit (.int x) (.int i) = .ret (.bl (x.testBit i)) := by
  unfold m_has_bit
  simp only [ev_bind, ap0_eq, ap1_eq, ap2_eq, ap3_eq, ev_sub, ev_add, ev_addI, ev_neg, ev_lt, ev_le, ev_gt, ev_ge, ev_truB, ev_truI, ev_truL, ev_intI, ev_intB, ev_lenL, ev_lenT, ev_tupL, ev_tupT, ev_lstL, ev_lstT, ev_seqL, ev_seqT, ev_eqI, ev_neI, ev_eqB, ev_neB, ev_fnc0, ev_fnc1, ev_turnR, ev_shl1 i (by omega)]
  rw [ev_bitM x i hi]
  simp only [ev_bind, ap0_eq, ap1_eq, ap2_eq, ap3_eq, ev_sub, ev_add, ev_addI, ev_neg, ev_lt, ev_le, ev_gt, ev_ge, ev_truB, ev_truI, ev_truL, ev_intI, ev_intB, ev_lenL, ev_lenT, ev_tupL, ev_tupT, ev_lstL, ev_lstT, ev_seqL, ev_seqT, ev_eqI, ev_neI, ev_eqB, ev_neB, ev_fnc0, ev_fnc1, ev_turnR, tb_of]
theorem matters_ev (n : Nat) (t : Nat → Int) (i x : Nat) (hn : n < 20) (hi : i < n) (hx : x < 2 ^ n) : m_matters_at (fnc n t) (.int i) (.int x) = .ret (.bl (decide (t x ≠ t (x ^^^ 2 ^ i)))) := by
  unfold m_matters_at
  have hy := BF.xor_lt hx hi
  simp only [ev_bind, ap0_eq, ap1_eq, ap2_eq, ap3_eq, ev_sub, ev_add, ev_addI, ev_neg, ev_lt, ev_le, ev_gt, ev_ge, ev_truB, ev_truI, ev_truL, ev_intI, ev_intB, ev_lenL, ev_lenT, ev_tupL, ev_tupT, ev_lstL, ev_lstT, ev_seqL, ev_seqT, ev_eqI, ev_neI, ev_eqB, ev_neB, ev_fnc0, ev_fnc1, ev_turnR, ev_shl1 i (by omega), has_bit_ev x i (by omega)]
  have e : (if x.testBit i = true then (M.ret (PV.int ((x : Int) - ((2 ^ i : Nat) : Int))) : M PV) else .ret (.int ((x : Int) + ((2 ^ i : Nat) : Int)))) = .ret (.int ((x ^^^ 2 ^ i : Nat) : Int)) := by
    by_cases c : x.testBit i = true
    · rw [if_pos c]
      have := BF.flip_down x i c
      congr 2
      omega
    · rw [if_neg c, BF.flip_up x i (by simpa using c)]
      congr 2
  rw [e]
  simp only [ev_bind, ap0_eq, ap1_eq, ap2_eq, ap3_eq, ev_sub, ev_add, ev_addI, ev_neg, ev_lt, ev_le, ev_gt, ev_ge, ev_truB, ev_truI, ev_truL, ev_intI, ev_intB, ev_lenL, ev_lenT, ev_tupL, ev_tupT, ev_lstL, ev_lstT, ev_seqL, ev_seqT, ev_eqI, ev_neI, ev_eqB, ev_neB, ev_fnc0, ev_fnc1, ev_turnR, ev_tab hx, ev_tab hy]
theorem changes_ev (n : Nat) (t : Nat → Int) (i : Nat) (hn : n < 20) (hi : i < n) : m_changes_of (fnc n t) (.int i) = .ret (.int (BF.ch n t i)) := by
  unfold m_changes_of
  have hp : 2 ^ n ≤ 2 ^ 20 := Nat.pow_le_pow_right (by decide) (by omega)
  simp only [ev_bind, ap0_eq, ap1_eq, ap2_eq, ap3_eq, ev_sub, ev_add, ev_addI, ev_neg, ev_lt, ev_le, ev_gt, ev_ge, ev_truB, ev_truI, ev_truL, ev_intI, ev_intB, ev_lenL, ev_lenT, ev_tupL, ev_tupT, ev_lstL, ev_lstT, ev_seqL, ev_seqT, ev_eqI, ev_neI, ev_eqB, ev_neB, ev_fnc0, ev_fnc1, ev_turnR, ev_shl1 n (by omega), ev_range (2 ^ n) (by omega)]
  rw [ev_compL (α := Nat) _ _ (fun x => decide (t x ≠ t (x ^^^ 2 ^ i))) (fun x => .int (x : Nat)) _ fun x hx => by
    simp only [ev_bind, ap0_eq, ap1_eq, ap2_eq, ap3_eq, ev_sub, ev_add, ev_addI, ev_neg, ev_lt, ev_le, ev_gt, ev_ge, ev_truB, ev_truI, ev_truL, ev_intI, ev_intB, ev_lenL, ev_lenT, ev_tupL, ev_tupT, ev_lstL, ev_lstT, ev_seqL, ev_seqT, ev_eqI, ev_neI, ev_eqB, ev_neB, ev_fnc0, ev_fnc1, ev_turnR, matters_ev n t i x hn hi (List.mem_range.mp hx)]]
  simp only [ev_bind, ap0_eq, ap1_eq, ap2_eq, ap3_eq, ev_sub, ev_add, ev_addI, ev_neg, ev_lt, ev_le, ev_gt, ev_ge, ev_truB, ev_truI, ev_truL, ev_intI, ev_intB, ev_lenL, ev_lenT, ev_tupL, ev_tupT, ev_lstL, ev_lstT, ev_seqL, ev_seqT, ev_eqI, ev_neI, ev_eqB, ev_neB, ev_fnc0, ev_fnc1, ev_turnR, List.length_map]
  unfold BF.ch
  rw [BF.C_eq]
theorem all_changes_ev (n : Nat) (t : Nat → Int) (hn : n < 20) : m_all_changes (fnc n t) = .ret (.int (BF.chs n t)) := by
  unfold m_all_changes
  simp only [ev_bind, ap0_eq, ap1_eq, ap2_eq, ap3_eq, ev_sub, ev_add, ev_addI, ev_neg, ev_lt, ev_le, ev_gt, ev_ge, ev_truB, ev_truI, ev_truL, ev_intI, ev_intB, ev_lenL, ev_lenT, ev_tupL, ev_tupT, ev_lstL, ev_lstT, ev_seqL, ev_seqT, ev_eqI, ev_neI, ev_eqB, ev_neB, ev_fnc0, ev_fnc1, ev_turnR, ev_range n (by omega)]
  rw [ev_mapL (α := Nat) _ _ (fun i => .int (BF.ch n t i)) _ fun i hi => by
    simp only [ev_bind, ap0_eq, ap1_eq, ap2_eq, ap3_eq, ev_sub, ev_add, ev_addI, ev_neg, ev_lt, ev_le, ev_gt, ev_ge, ev_truB, ev_truI, ev_truL, ev_intI, ev_intB, ev_lenL, ev_lenT, ev_tupL, ev_tupT, ev_lstL, ev_lstT, ev_seqL, ev_seqT, ev_eqI, ev_neI, ev_eqB, ev_neB, ev_fnc0, ev_fnc1, ev_turnR, changes_ev n t i hn (List.mem_range.mp hi)]]
  simp only [ev_bind, ap0_eq, ap1_eq, ap2_eq, ap3_eq, ev_sub, ev_add, ev_addI, ev_neg, ev_lt, ev_le, ev_gt, ev_ge, ev_truB, ev_truI, ev_truL, ev_intI, ev_intB, ev_lenL, ev_lenT, ev_tupL, ev_tupT, ev_lstL, ev_lstT, ev_seqL, ev_seqT, ev_eqI, ev_neI, ev_eqB, ev_neB, ev_fnc0, ev_fnc1, ev_turnR]
  rw [ev_sumL, ← BF.S_eq_sum]
  rfl
theorem bit_of_ev (x i : Nat) (hi : i < 30) : m_bit_of (.int x) (.int i) = .ret (.int (BF.bi x i)) := by
  unfold m_bit_of
  simp only [ev_bind, ap0_eq, ap1_eq, ap2_eq, ap3_eq, ev_sub, ev_add, ev_addI, ev_neg, ev_lt, ev_le, ev_gt, ev_ge, ev_truB, ev_truI, ev_truL, ev_intI, ev_intB, ev_lenL, ev_lenT, ev_tupL, ev_tupT, ev_lstL, ev_lstT, ev_seqL, ev_seqT, ev_eqI, ev_neI, ev_eqB, ev_neB, ev_fnc0, ev_fnc1, ev_turnR, ev_shl1 i (by omega)]
  exact ev_bitM x i hi
theorem law_bit_ev (x i : Nat) (hi : i < 30) : m__law_bit (.int x) (.int i) = .ret (.int (BF.bi x i)) := by
  unfold m__law_bit
  simp only [ev_bind, ap0_eq, ap1_eq, ap2_eq, ap3_eq, ev_sub, ev_add, ev_addI, ev_neg, ev_lt, ev_le, ev_gt, ev_ge, ev_truB, ev_truI, ev_truL, ev_intI, ev_intB, ev_lenL, ev_lenT, ev_tupL, ev_tupT, ev_lstL, ev_lstT, ev_seqL, ev_seqT, ev_eqI, ev_neI, ev_eqB, ev_neB, ev_fnc0, ev_fnc1, ev_turnR, ev_shl1 i (by omega)]
  have h1 : 0 < 2 ^ i := Nat.two_pow_pos i
  have h2 : 2 ^ i < 2 ^ 30 := Nat.pow_lt_pow_right (by decide) hi
  have e := ev_bitM x i hi
  rw [ev_divP _ _ (by omega) (by omega)] at e ⊢
  simp only [ev_bind, ap0_eq, ap1_eq, ap2_eq, ap3_eq, ev_sub, ev_add, ev_addI, ev_neg, ev_lt, ev_le, ev_gt, ev_ge, ev_truB, ev_truI, ev_truL, ev_intI, ev_intB, ev_lenL, ev_lenT, ev_tupL, ev_tupT, ev_lstL, ev_lstT, ev_seqL, ev_seqT, ev_eqI, ev_neI, ev_eqB, ev_neB, ev_fnc0, ev_fnc1, ev_turnR] at e ⊢
  exact e
/-- ones by nine bits; the same by n bits below 2 ^ n -/
theorem law_ones_ev (x : Nat) : m__law_ones (.int x) = .ret (.int (BF.ones 9 x)) := by
  unfold m__law_ones
  have r := ev_range 9 (by decide)
  simp only [ev_bind, ap0_eq, ap1_eq, ap2_eq, ap3_eq, ev_sub, ev_add, ev_addI, ev_neg, ev_lt, ev_le, ev_gt, ev_ge, ev_truB, ev_truI, ev_truL, ev_intI, ev_intB, ev_lenL, ev_lenT, ev_tupL, ev_tupT, ev_lstL, ev_lstT, ev_seqL, ev_seqT, ev_eqI, ev_neI, ev_eqB, ev_neB, ev_fnc0, ev_fnc1, ev_turnR] at r ⊢
  rw [show (PV.int 9) = PV.int ((9 : Nat) : Int) from rfl, r]
  simp only [ev_bind, ap0_eq, ap1_eq, ap2_eq, ap3_eq, ev_sub, ev_add, ev_addI, ev_neg, ev_lt, ev_le, ev_gt, ev_ge, ev_truB, ev_truI, ev_truL, ev_intI, ev_intB, ev_lenL, ev_lenT, ev_tupL, ev_tupT, ev_lstL, ev_lstT, ev_seqL, ev_seqT, ev_eqI, ev_neI, ev_eqB, ev_neB, ev_fnc0, ev_fnc1, ev_turnR]
  rw [ev_compL (α := Nat) _ _ (fun i => decide (BF.bi x i = 1)) (fun x => .int (x : Nat)) _ fun i hi => by
    simp only [ev_bind, ap0_eq, ap1_eq, ap2_eq, ap3_eq, ev_sub, ev_add, ev_addI, ev_neg, ev_lt, ev_le, ev_gt, ev_ge, ev_truB, ev_truI, ev_truL, ev_intI, ev_intB, ev_lenL, ev_lenT, ev_tupL, ev_tupT, ev_lstL, ev_lstT, ev_seqL, ev_seqT, ev_eqI, ev_neI, ev_eqB, ev_neB, ev_fnc0, ev_fnc1, ev_turnR, law_bit_ev x i (by have := List.mem_range.mp hi; omega)]]
  simp only [ev_bind, ap0_eq, ap1_eq, ap2_eq, ap3_eq, ev_sub, ev_add, ev_addI, ev_neg, ev_lt, ev_le, ev_gt, ev_ge, ev_truB, ev_truI, ev_truL, ev_intI, ev_intB, ev_lenL, ev_lenT, ev_tupL, ev_tupT, ev_lstL, ev_lstT, ev_seqL, ev_seqT, ev_eqI, ev_neI, ev_eqB, ev_neB, ev_fnc0, ev_fnc1, ev_turnR, List.length_map]
  rw [← BF.C_eq]
  congr 2
  unfold BF.C BF.ones
  refine BF.S_congr fun i _ => ?_
  rcases BF.bi_01 x i with h | h <;> simp [h]
theorem ones_low {n x : Nat} (hn : n ≤ 9) (hx : x < 2 ^ n) : BF.ones 9 x = BF.ones n x := by
  have key : ∀ k : Nat, BF.ones (n + k) x = BF.ones n x := by
    intro k
    induction k with
    | zero => rfl
    | succ k ih =>
      show BF.ones (n + k) x + BF.bi x (n + k) = _
      rw [ih]
      have : BF.bi x (n + k) = 0 := by
        unfold BF.bi
        rw [Nat.testBit_lt_two_pow (Nat.lt_of_lt_of_le hx (Nat.pow_le_pow_right (by decide) (by omega)))]
        rfl
      omega
  have := key (9 - n)
  rw [show n + (9 - n) = 9 by omega] at this
  exact this
theorem opp_ev (n : Nat) (t : Nat → Int) : m_opposite_of (fnc n t) = .ret (fnc n fun x => 1 - t x) := by
  unfold m_opposite_of
  simp only [ev_bind, ap0_eq, ap1_eq, ap2_eq, ap3_eq, ev_sub, ev_add, ev_addI, ev_neg, ev_lt, ev_le, ev_gt, ev_ge, ev_truB, ev_truI, ev_truL, ev_intI, ev_intB, ev_lenL, ev_lenT, ev_tupL, ev_tupT, ev_lstL, ev_lstT, ev_seqL, ev_seqT, ev_eqI, ev_neI, ev_eqB, ev_neB, ev_fnc0, ev_fnc1, ev_turnR]
  unfold tab
  rw [ev_mapL (α := Nat) _ _ (fun x => .int (1 - t x)) _ fun x _ => by simp only [ev_bind, ap0_eq, ap1_eq, ap2_eq, ap3_eq, ev_sub, ev_add, ev_addI, ev_neg, ev_lt, ev_le, ev_gt, ev_ge, ev_truB, ev_truI, ev_truL, ev_intI, ev_intB, ev_lenL, ev_lenT, ev_tupL, ev_tupT, ev_lstL, ev_lstT, ev_seqL, ev_seqT, ev_eqI, ev_neI, ev_eqB, ev_neB, ev_fnc0, ev_fnc1, ev_turnR]]
  rfl
/-- a list of places, as the program holds it -/
def lotP (l : List Nat) : PV := .tup (l.map fun i => .int (i : Nat))
def mask (l : List Nat) : Nat := (l.map fun i => 2 ^ i).sum
theorem turned_num (x : Nat) (hx : x < 64) (l : List Nat) (nd : l.Nodup) (hl : ∀ i ∈ l, i < 6) : (x : Int) + (l.map fun i => (1 - 2 * BF.bi x i) * 2 ^ i).sum = ((x ^^^ mask l : Nat) : Int) := by
  have key : ∀ l : List Nat, l.Nodup → (∀ i, (mask l).testBit i = decide (i ∈ l)) ∧ (x : Int) + (l.map fun i => (1 - 2 * BF.bi x i) * 2 ^ i).sum = ((x ^^^ mask l : Nat) : Int) := by
    intro l
    induction l with
    | nil => exact fun _ => ⟨fun i => by show (0 : Nat).testBit i = _; rw [Nat.zero_testBit]; rfl, by show (x : Int) + 0 = ((x ^^^ 0 : Nat) : Int); rw [Nat.xor_zero]; omega⟩
    | cons a l ih =>
      intro nd
      obtain ⟨na, nl⟩ := List.nodup_cons.mp nd
      obtain ⟨h1, h2⟩ := ih nl
      have ma : (mask l).testBit a = false := by rw [h1]; exact decide_eq_false na
      have em : mask (a :: l) = mask l ^^^ 2 ^ a := by
        rw [BF.flip_up _ _ ma]
        show 2 ^ a + mask l = _
        omega
      refine ⟨fun i => ?_, ?_⟩
      · rw [em, Nat.testBit_xor, h1]
        by_cases c : i = a
        · subst c
          rw [Nat.testBit_two_pow_self, decide_eq_false na]
          simp
        · rw [Nat.testBit_two_pow_of_ne (fun z => c z.symm), Bool.xor_false]
          simp [c]
      · rw [List.map_cons, List.sum_cons, em, ← Nat.xor_assoc]
        have ba : BF.bi (x ^^^ mask l) a = BF.bi x a := by
          unfold BF.bi
          rw [Nat.testBit_xor, ma, Bool.xor_false]
        have bx : (x ^^^ mask l).testBit a = x.testBit a := by rw [Nat.testBit_xor, ma, Bool.xor_false]
        cases c : x.testBit a with
        | false =>
          rw [BF.flip_up _ _ (by rw [bx, c])]
          have : BF.bi x a = 0 := by unfold BF.bi; rw [c]; rfl
          rw [this]
          push_cast
          rw [← h2]
          simp
          omega
        | true =>
          have dn := BF.flip_down (x ^^^ mask l) a (by rw [bx, c])
          have : BF.bi x a = 1 := by unfold BF.bi; rw [c]; rfl
          rw [this]
          have dn2 : ((x ^^^ mask l ^^^ 2 ^ a : Nat) : Int) + 2 ^ a = ((x ^^^ mask l : Nat) : Int) := by
            have z := congrArg (fun z : Nat => (z : Int)) dn
            simp only [Int.natCast_add, Int.natCast_pow] at z
            exact z
          rw [← h2] at dn2
          omega
  exact (key l nd).2
theorem input_turned_ev (x : Nat) (hx : x < 64) (l : List Nat) (nd : l.Nodup) (hl : ∀ i ∈ l, i < 6) : m_input_turned (.int x) (lotP l) = .ret (.int ((x ^^^ mask l : Nat) : Int)) := by
  unfold m_input_turned lotP
  simp only [ev_bind, ap0_eq, ap1_eq, ap2_eq, ap3_eq, ev_sub, ev_add, ev_addI, ev_neg, ev_lt, ev_le, ev_gt, ev_ge, ev_truB, ev_truI, ev_truL, ev_intI, ev_intB, ev_lenL, ev_lenT, ev_tupL, ev_tupT, ev_lstL, ev_lstT, ev_seqL, ev_seqT, ev_eqI, ev_neI, ev_eqB, ev_neB, ev_fnc0, ev_fnc1, ev_turnR]
  rw [ev_mapL (α := Nat) _ _ (fun i => .int ((1 - 2 * BF.bi x i) * ((2 ^ i : Nat) : Int))) _ fun i hi => by
    have h6 := hl i hi
    have hp : 2 ^ i ≤ 2 ^ 6 := Nat.pow_le_pow_right (by decide) (by omega)
    simp only [ev_bind, ap0_eq, ap1_eq, ap2_eq, ap3_eq, ev_sub, ev_add, ev_addI, ev_neg, ev_lt, ev_le, ev_gt, ev_ge, ev_truB, ev_truI, ev_truL, ev_intI, ev_intB, ev_lenL, ev_lenT, ev_tupL, ev_tupT, ev_lstL, ev_lstT, ev_seqL, ev_seqT, ev_eqI, ev_neI, ev_eqB, ev_neB, ev_fnc0, ev_fnc1, ev_turnR, bit_of_ev x i (by omega), ev_shl1 i (by omega), ev_mulL 2 _ (by decide)]
    rw [ev_mulR _ _ (small_nat (by omega))]]
  simp only [ev_bind, ap0_eq, ap1_eq, ap2_eq, ap3_eq, ev_sub, ev_add, ev_addI, ev_neg, ev_lt, ev_le, ev_gt, ev_ge, ev_truB, ev_truI, ev_truL, ev_intI, ev_intB, ev_lenL, ev_lenT, ev_tupL, ev_tupT, ev_lstL, ev_lstT, ev_seqL, ev_seqT, ev_eqI, ev_neI, ev_eqB, ev_neB, ev_fnc0, ev_fnc1, ev_turnR]
  rw [ev_sumL]
  simp only [ev_bind, ap0_eq, ap1_eq, ap2_eq, ap3_eq, ev_sub, ev_add, ev_addI, ev_neg, ev_lt, ev_le, ev_gt, ev_ge, ev_truB, ev_truI, ev_truL, ev_intI, ev_intB, ev_lenL, ev_lenT, ev_tupL, ev_tupT, ev_lstL, ev_lstT, ev_seqL, ev_seqT, ev_eqI, ev_neI, ev_eqB, ev_neB, ev_fnc0, ev_fnc1, ev_turnR]
  congr 2
  have := turned_num x hx l nd hl
  simp only [Int.natCast_pow] at this ⊢
  exact this
theorem turned_at_ev (n : Nat) (t : Nat → Int) (hn : n ≤ 6) (l : List Nat) (nd : l.Nodup) (hl : ∀ i ∈ l, i < n) (hm : mask l < 2 ^ n) : m_turned_at (fnc n t) (lotP l) = .ret (fnc n fun x => t (x ^^^ mask l)) := by
  unfold m_turned_at
  have hp : 2 ^ n ≤ 2 ^ 6 := Nat.pow_le_pow_right (by decide) (by omega)
  simp only [ev_bind, ap0_eq, ap1_eq, ap2_eq, ap3_eq, ev_sub, ev_add, ev_addI, ev_neg, ev_lt, ev_le, ev_gt, ev_ge, ev_truB, ev_truI, ev_truL, ev_intI, ev_intB, ev_lenL, ev_lenT, ev_tupL, ev_tupT, ev_lstL, ev_lstT, ev_seqL, ev_seqT, ev_eqI, ev_neI, ev_eqB, ev_neB, ev_fnc0, ev_fnc1, ev_turnR, ev_shl1 n (by omega), ev_range (2 ^ n) (by omega)]
  rw [ev_mapL (α := Nat) _ _ (fun x => .int (t (x ^^^ mask l))) _ fun x hx => by
    have hx := List.mem_range.mp hx
    simp only [ev_bind, ap0_eq, ap1_eq, ap2_eq, ap3_eq, ev_sub, ev_add, ev_addI, ev_neg, ev_lt, ev_le, ev_gt, ev_ge, ev_truB, ev_truI, ev_truL, ev_intI, ev_intB, ev_lenL, ev_lenT, ev_tupL, ev_tupT, ev_lstL, ev_lstT, ev_seqL, ev_seqT, ev_eqI, ev_neI, ev_eqB, ev_neB, ev_fnc0, ev_fnc1, ev_turnR, input_turned_ev x (by omega) l nd (fun i hi => by have := hl i hi; omega), ev_tab (Nat.xor_lt_two_pow hx hm)]]
  rfl
theorem mask_lt (n : Nat) : ∀ l : List Nat, l.Nodup → (∀ i ∈ l, i < n) → mask l < 2 ^ n := by
  intro l nd hl
  refine Nat.lt_pow_two_of_testBit _ fun i hi => ?_
  have key : ∀ l : List Nat, l.Nodup → (∀ i, (mask l).testBit i = decide (i ∈ l)) := by
    intro l
    induction l with
    | nil => exact fun _ i => by show (0 : Nat).testBit i = _; rw [Nat.zero_testBit]; rfl
    | cons a l ih =>
      intro nd i
      obtain ⟨na, nl⟩ := List.nodup_cons.mp nd
      have h1 := ih nl
      have ma : (mask l).testBit a = false := by rw [h1]; exact decide_eq_false na
      have em : mask (a :: l) = mask l ^^^ 2 ^ a := by
        rw [BF.flip_up _ _ ma]
        show 2 ^ a + mask l = _
        omega
      rw [em, Nat.testBit_xor, h1]
      by_cases c : i = a
      · subst c
        rw [Nat.testBit_two_pow_self, decide_eq_false na]
        simp
      · rw [Nat.testBit_two_pow_of_ne (fun z => c z.symm), Bool.xor_false]
        simp [c]
  rw [key l nd]
  exact decide_eq_false fun h => by have := hl i h; omega
theorem dual_ev (n : Nat) (t : Nat → Int) (hn : n ≤ 6) : ∃ m, m < 2 ^ n ∧ m_dual_of (fnc n t) = .ret (fnc n fun x => 1 - t (x ^^^ m)) := by
  have nd : (List.range n).Nodup := List.nodup_range
  have hl : ∀ i ∈ List.range n, i < n := fun i hi => List.mem_range.mp hi
  have hm := mask_lt n _ nd hl
  refine ⟨mask (List.range n), hm, ?_⟩
  unfold m_dual_of
  simp only [ev_bind, ap0_eq, ap1_eq, ap2_eq, ap3_eq, ev_sub, ev_add, ev_addI, ev_neg, ev_lt, ev_le, ev_gt, ev_ge, ev_truB, ev_truI, ev_truL, ev_intI, ev_intB, ev_lenL, ev_lenT, ev_tupL, ev_tupT, ev_lstL, ev_lstT, ev_seqL, ev_seqT, ev_eqI, ev_neI, ev_eqB, ev_neB, ev_fnc0, ev_fnc1, ev_turnR, ev_range n (by omega)]
  have := turned_at_ev n t hn (List.range n) nd hl hm
  unfold lotP at this
  rw [this]
  simp only [ev_bind, ap0_eq, ap1_eq, ap2_eq, ap3_eq, ev_sub, ev_add, ev_addI, ev_neg, ev_lt, ev_le, ev_gt, ev_ge, ev_truB, ev_truI, ev_truL, ev_intI, ev_intB, ev_lenL, ev_lenT, ev_tupL, ev_tupT, ev_lstL, ev_lstT, ev_seqL, ev_seqT, ev_eqI, ev_neI, ev_eqB, ev_neB, ev_fnc0, ev_fnc1, ev_turnR]
  rw [opp_ev]
theorem input_sum_ev (x : Nat) (hx : x < 64) : m_input_sum (.int x) = .ret (.int (BF.ones 9 x)) := by
  have key : ∀ x : Fin 64, (match m_input_sum (.int (x.val : Nat)) with | .ret (.int i) => decide (i = BF.ones 9 x.val) | _ => false) = true := by
    decide +kernel
  have k := key ⟨x, hx⟩
  revert k
  cases m_input_sum (.int (x : Nat)) with
  | ret p =>
    cases p with
    | int i => intro k; rw [of_decide_eq_true k]
    | _ => intro k; cases k
  | _ => intro k; cases k
theorem pow6 {n : Nat} (hn : n ≤ 6) : 2 ^ n ≤ 64 := Nat.pow_le_pow_right (n := 2) (by decide) hn
theorem small_ones (n x : Nat) (hn : n ≤ 9) : small (BF.ones n x) = true := by
  have h0 := BF.ones_nonneg n x
  have h1 := BF.S_le_const (f := fun i => BF.bi x i) (n := n) 1 fun i _ => by rcases BF.bi_01 x i with h | h <;> omega
  have e : BF.ones n x = BF.S n fun i => BF.bi x i := rfl
  have e2 : (BF.S n fun i => BF.bi x i) = BF.S n (BF.bi x) := rfl
  exact small_of (by omega) (by omega)
theorem bound_ev (n : Nat) (hn : n ≤ 6) : m__law_bound (.int n) = .ret (.int (2 * BF.S (2 ^ n) fun x => BF.pos (2 * BF.ones n x - n))) := by
  unfold m__law_bound
  have hp := pow6 hn
  simp only [ev_bind, ap0_eq, ap1_eq, ap2_eq, ap3_eq, ev_sub, ev_add, ev_addI, ev_neg, ev_lt, ev_le, ev_gt, ev_ge, ev_truB, ev_truI, ev_truL, ev_intI, ev_intB, ev_lenL, ev_lenT, ev_tupL, ev_tupT, ev_lstL, ev_lstT, ev_seqL, ev_seqT, ev_eqI, ev_neI, ev_eqB, ev_neB, ev_fnc0, ev_fnc1, ev_turnR, ev_shl1 n (by omega), ev_range (2 ^ n) (by omega)]
  rw [ev_compL (α := Nat) _ _ (fun x => decide ((n : Int) < 2 * BF.ones n x)) (fun x => .int (2 * BF.ones n x - n)) _ fun x hx => by
    simp only [ev_bind, ap0_eq, ap1_eq, ap2_eq, ap3_eq, ev_sub, ev_add, ev_addI, ev_neg, ev_lt, ev_le, ev_gt, ev_ge, ev_truB, ev_truI, ev_truL, ev_intI, ev_intB, ev_lenL, ev_lenT, ev_tupL, ev_tupT, ev_lstL, ev_lstT, ev_seqL, ev_seqT, ev_eqI, ev_neI, ev_eqB, ev_neB, ev_fnc0, ev_fnc1, ev_turnR, law_ones_ev, ev_mulL 2 _ (by decide), ones_low (show n ≤ 9 by omega) (List.mem_range.mp hx)]]
  simp only [ev_bind, ap0_eq, ap1_eq, ap2_eq, ap3_eq, ev_sub, ev_add, ev_addI, ev_neg, ev_lt, ev_le, ev_gt, ev_ge, ev_truB, ev_truI, ev_truL, ev_intI, ev_intB, ev_lenL, ev_lenT, ev_tupL, ev_tupT, ev_lstL, ev_lstT, ev_seqL, ev_seqT, ev_eqI, ev_neI, ev_eqB, ev_neB, ev_fnc0, ev_fnc1, ev_turnR]
  rw [ev_sumL]
  simp only [ev_bind, ap0_eq, ap1_eq, ap2_eq, ap3_eq, ev_sub, ev_add, ev_addI, ev_neg, ev_lt, ev_le, ev_gt, ev_ge, ev_truB, ev_truI, ev_truL, ev_intI, ev_intB, ev_lenL, ev_lenT, ev_tupL, ev_tupT, ev_lstL, ev_lstT, ev_seqL, ev_seqT, ev_eqI, ev_neI, ev_eqB, ev_neB, ev_fnc0, ev_fnc1, ev_turnR, ev_mulL 2 _ (by decide), BF.filter_sum]
  congr 3
  refine BF.S_congr fun x _ => ?_
  unfold BF.pos
  by_cases c : (n : Int) < 2 * BF.ones n x
  · rw [if_pos (decide_eq_true c), if_pos (by omega)]
  · rw [if_neg (by simpa using c), if_neg (by omega)]
theorem rises_ev (n : Nat) (t : Nat → Int) (hn : n ≤ 6) (h : BF.Mono n t) : m__law_rises_right (fnc n t) = .ret (.bl true) := by
  unfold m__law_rises_right
  have hp := pow6 hn
  have u : ∀ k : PV → PV → M PV, unpk2 (fnc n t) k = k (.int n) (.tup (tab (2 ^ n) t)) := fun _ => rfl
  simp only [ev_bind, ap0_eq, ap1_eq, ap2_eq, ap3_eq, ev_sub, ev_add, ev_addI, ev_neg, ev_lt, ev_le, ev_gt, ev_ge, ev_truB, ev_truI, ev_truL, ev_intI, ev_intB, ev_lenL, ev_lenT, ev_tupL, ev_tupT, ev_lstL, ev_lstT, ev_seqL, ev_seqT, ev_eqI, ev_neI, ev_eqB, ev_neB, ev_fnc0, ev_fnc1, ev_turnR, u, ev_shl1 n (by omega), ev_range (2 ^ n) (by omega), all_changes_ev n t (by omega), bound_ev n hn]
  rw [ev_compL (α := Nat) _ _ (fun x => decide (t x = 1)) (fun x => .int (2 * BF.ones n x - n)) _ fun x hx => by
    simp only [ev_bind, ap0_eq, ap1_eq, ap2_eq, ap3_eq, ev_sub, ev_add, ev_addI, ev_neg, ev_lt, ev_le, ev_gt, ev_ge, ev_truB, ev_truI, ev_truL, ev_intI, ev_intB, ev_lenL, ev_lenT, ev_tupL, ev_tupT, ev_lstL, ev_lstT, ev_seqL, ev_seqT, ev_eqI, ev_neI, ev_eqB, ev_neB, ev_fnc0, ev_fnc1, ev_turnR, law_ones_ev, ev_mulL 2 _ (by decide), ones_low (show n ≤ 9 by omega) (List.mem_range.mp hx), ev_tab (List.mem_range.mp hx)]]
  simp only [ev_bind, ap0_eq, ap1_eq, ap2_eq, ap3_eq, ev_sub, ev_add, ev_addI, ev_neg, ev_lt, ev_le, ev_gt, ev_ge, ev_truB, ev_truI, ev_truL, ev_intI, ev_intB, ev_lenL, ev_lenT, ev_tupL, ev_tupT, ev_lstL, ev_lstT, ev_seqL, ev_seqT, ev_eqI, ev_neI, ev_eqB, ev_neB, ev_fnc0, ev_fnc1, ev_turnR]
  rw [ev_sumL]
  simp only [ev_bind, ap0_eq, ap1_eq, ap2_eq, ap3_eq, ev_sub, ev_add, ev_addI, ev_neg, ev_lt, ev_le, ev_gt, ev_ge, ev_truB, ev_truI, ev_truL, ev_intI, ev_intB, ev_lenL, ev_lenT, ev_tupL, ev_tupT, ev_lstL, ev_lstT, ev_seqL, ev_seqT, ev_eqI, ev_neI, ev_eqB, ev_neB, ev_fnc0, ev_fnc1, ev_turnR, ev_mulL 2 _ (by decide), BF.filter_sum]
  have tot : (BF.S (2 ^ n) fun x => if decide (t x = 1) = true then 2 * BF.ones n x - (n : Int) else 0) = BF.S (2 ^ n) fun x => (2 * BF.ones n x - n) * t x := BF.S_congr fun x hx => by
    rcases h.1 x hx with a | a <;> simp [a]
  rw [tot, BF.mono_chs h]
  have le := BF.mono_bound h.1
  have eqv := BF.mono_bound_eq h.1
  generalize (BF.S (2 ^ n) fun x => (2 * BF.ones n x - n) * t x) = T at *
  generalize (BF.S (2 ^ n) fun x => BF.pos (2 * BF.ones n x - n)) = B at *
  rw [decide_eq_false (by omega : ¬ 2 * T ≠ 2 * T), decide_eq_false (by omega : ¬ 2 * B < 2 * T)]
  rw [ev_compL (α := Nat) _ _ (fun x => decide (2 * BF.ones n x ≠ n) && decide (t x ≠ if decide ((n : Int) < 2 * BF.ones n x) = true then 1 else 0)) (fun x => .int (x : Nat)) _ fun x hx => by
    simp only [ev_bind, ap0_eq, ap1_eq, ap2_eq, ap3_eq, ev_sub, ev_add, ev_addI, ev_neg, ev_lt, ev_le, ev_gt, ev_ge, ev_truB, ev_truI, ev_truL, ev_intI, ev_intB, ev_lenL, ev_lenT, ev_tupL, ev_tupT, ev_lstL, ev_lstT, ev_seqL, ev_seqT, ev_eqI, ev_neI, ev_eqB, ev_neB, ev_fnc0, ev_fnc1, ev_turnR, law_ones_ev, ev_mulL 2 _ (by decide), ones_low (show n ≤ 9 by omega) (List.mem_range.mp hx), ev_tab (List.mem_range.mp hx), ev_mAnd]
    by_cases c : decide (2 * BF.ones n x ≠ n) = true
    · rw [if_pos c, c, Bool.true_and, ev_turnR]
    · rw [if_neg c, ev_turnR, Bool.eq_false_iff.mpr c, Bool.false_and]]
  simp only [ev_bind, ap0_eq, ap1_eq, ap2_eq, ap3_eq, ev_sub, ev_add, ev_addI, ev_neg, ev_lt, ev_le, ev_gt, ev_ge, ev_truB, ev_truI, ev_truL, ev_intI, ev_intB, ev_lenL, ev_lenT, ev_tupL, ev_tupT, ev_lstL, ev_lstT, ev_seqL, ev_seqT, ev_eqI, ev_neI, ev_eqB, ev_neB, ev_fnc0, ev_fnc1, ev_turnR, ev_mOr, ev_eqNil]
  rw [if_neg Bool.false_ne_true, ev_bind, if_neg Bool.false_ne_true, BF.filter_isEmpty]
  congr 2
  rw [beq_iff_eq, decide_eq_decide]
  constructor
  · intro e x hx
    have a := eqv.mp (by omega) x hx
    by_cases c : 2 * BF.ones n x = n
    · simp [c]
    · rw [a c]
      simp
  · intro e
    have := eqv.mpr fun x hx c => by
      have z := e x hx
      rw [decide_eq_true c, Bool.true_and] at z
      have z := of_decide_eq_false z
      simp at z
      exact z
    omega
theorem hung_ev (n : Nat) (t : Nat → Int) (hn : n ≤ 6) : m_bits_hung_on (fnc n t) = .ret (lotP ((List.range n).filter fun i => decide (0 < BF.ch n t i))) := by
  unfold m_bits_hung_on
  simp only [ev_bind, ap0_eq, ap1_eq, ap2_eq, ap3_eq, ev_sub, ev_add, ev_addI, ev_neg, ev_lt, ev_le, ev_gt, ev_ge, ev_truB, ev_truI, ev_truL, ev_intI, ev_intB, ev_lenL, ev_lenT, ev_tupL, ev_tupT, ev_lstL, ev_lstT, ev_seqL, ev_seqT, ev_eqI, ev_neI, ev_eqB, ev_neB, ev_fnc0, ev_fnc1, ev_turnR, ev_range n (by omega)]
  rw [ev_compL (α := Nat) _ _ (fun i => decide (0 < BF.ch n t i)) (fun x => .int (x : Nat)) _ fun i hi => by
    simp only [ev_bind, ap0_eq, ap1_eq, ap2_eq, ap3_eq, ev_sub, ev_add, ev_addI, ev_neg, ev_lt, ev_le, ev_gt, ev_ge, ev_truB, ev_truI, ev_truL, ev_intI, ev_intB, ev_lenL, ev_lenT, ev_tupL, ev_tupT, ev_lstL, ev_lstT, ev_seqL, ev_seqT, ev_eqI, ev_neI, ev_eqB, ev_neB, ev_fnc0, ev_fnc1, ev_turnR, changes_ev n t i (by omega) (List.mem_range.mp hi)]]
  rfl
/-! drawn functions -/
def IsFn (n : Nat) (p : PV) : Prop := ∃ t : Nat → Int, (∀ x, x < 2 ^ n → t x = 0 ∨ t x = 1) ∧ p = fnc n t
def IsNat (p : PV) : Prop := ∃ r : Nat, p = .int r
theorem pick_nat {k : Int} (hk : k < 1152921504606846976) : (m_pick .src (.int k)).All IsNat := (pick_all hk).mono fun p ⟨r, e, _⟩ => ⟨r, e⟩
theorem fnc_of {n : Nat} {ys : List PV} (hl : ys.length = 2 ^ n) (h : ∀ y ∈ ys, y = .int 0 ∨ y = .int 1) : IsFn n (.tup [.int n, .tup ys]) := by
  obtain ⟨t, e, h2⟩ := tab_of ys h
  rw [hl] at e h2
  exact ⟨t, h2, by rw [e]; rfl⟩
theorem b01 (b : Bool) : PV.int (if b = true then 1 else 0) = .int 0 ∨ PV.int (if b = true then 1 else 0) = .int 1 := by cases b <;> simp
/-- made by places -/
theorem fnc_map {n : Nat} (h : Nat → Int) (h01 : ∀ x, h x = 0 ∨ h x = 1) : IsFn n (.tup [.int n, .tup ((List.range (2 ^ n)).map fun x => .int (h x))]) := ⟨h, fun x _ => h01 x, rfl⟩

/-- some lot lies in x -/
def inSome (some : List Nat) (x : Nat) : Int := if (some.any fun lot => decide (x &&& lot = lot)) = true then 1 else 0
theorem inSome_ev (some : List Nat) (x : Nat) : compL (fun lot => turnM (pAnd (PV.int (x : Nat)) lot >>= fun p => pEq p lot) (M.ret lot)) (some.map fun l => PV.int (l : Nat)) = .ret ((some.filter fun lot => decide (x &&& lot = lot)).map fun l => PV.int (l : Nat)) :=
  ev_compL (α := Nat) _ _ (fun lot => decide (x &&& lot = lot)) (fun l => .int (l : Nat)) _ fun lot _ => by
    simp only [ev_bind, ap0_eq, ap1_eq, ap2_eq, ap3_eq, ev_sub, ev_add, ev_addI, ev_neg, ev_lt, ev_le, ev_gt, ev_ge, ev_truB, ev_truI, ev_truL, ev_intI, ev_intB, ev_lenL, ev_lenT, ev_tupL, ev_tupT, ev_lstL, ev_lstT, ev_seqL, ev_seqT, ev_eqI, ev_neI, ev_eqB, ev_neB, ev_fnc0, ev_fnc1, ev_turnR, ev_and, band]
    congr 1
    have : decide (((x &&& lot : Nat) : Int) = (lot : Int)) = decide (x &&& lot = lot) := decide_eq_decide.mpr (by omega)
    rw [this]
theorem inSome_any (p : Nat → Bool) (some : List Nat) : (!(some.filter p).isEmpty) = some.any p := by
  induction some with
  | nil => rfl
  | cons a l ih =>
    rw [List.any_cons, ← ih]
    by_cases c : p a = true
    · rw [List.filter_cons_of_pos c, c]; rfl
    · rw [List.filter_cons_of_neg c, Bool.eq_false_iff.mpr c, Bool.false_or]
theorem nats_of : ∀ ys : List PV, (∀ y ∈ ys, IsNat y) → ∃ l : List Nat, ys = l.map fun i => PV.int (i : Nat)
  | [], _ => ⟨[], rfl⟩
  | y :: ys, h => by
    obtain ⟨l, e⟩ := nats_of ys fun z hz => h z (List.mem_cons_of_mem _ hz)
    obtain ⟨r, e2⟩ := h y List.mem_cons_self
    exact ⟨r :: l, by rw [e, e2]; rfl⟩
theorem function_all (n : Nat) (hn : n ≤ 6) : (m__law_function .src (.int n)).All (IsFn n) := by
  unfold m__law_function
  have hp := pow6 hn
  simp only [bind_assoc, ev_bind, ap0_eq, ap1_eq, ap2_eq, ap3_eq, ev_sub, ev_add, ev_addI, ev_neg, ev_lt, ev_le, ev_gt, ev_ge, ev_truB, ev_truI, ev_truL, ev_intI, ev_intB, ev_lenL, ev_lenT, ev_tupL, ev_tupT, ev_lstL, ev_lstT, ev_seqL, ev_seqT, ev_eqI, ev_neI, ev_eqB, ev_neB, ev_fnc0, ev_fnc1, ev_turnR, ev_shl1 n (by omega)]
  rw [M.all_bind]
  refine (pick_nat (by decide)).mono fun p ⟨way, e⟩ => ?_
  subst e
  show M.All (IsFn n) (unpk2 (.tup [_, _]) _)
  unfold unpk2
  simp only [bind_assoc, ev_bind, ap0_eq, ap1_eq, ap2_eq, ap3_eq, ev_sub, ev_add, ev_addI, ev_neg, ev_lt, ev_le, ev_gt, ev_ge, ev_truB, ev_truI, ev_truL, ev_intI, ev_intB, ev_lenL, ev_lenT, ev_tupL, ev_tupT, ev_lstL, ev_lstT, ev_seqL, ev_seqT, ev_eqI, ev_neI, ev_eqB, ev_neB, ev_fnc0, ev_fnc1, ev_turnR, ev_range (2 ^ n) (by omega)]
  refine all_if (fun _ => ?_) fun _ => all_if (fun _ => ?_) fun _ => all_if (fun _ => ?_) fun _ => ?_
  · rw [M.all_bind]
    refine (mapL_all (P := fun y => y = .int 0 ∨ y = .int 1) _ _ fun a _ => (pick_all (by decide)).mono fun p ⟨r, e, h⟩ => ?_).mono fun ys ⟨h1, h2⟩ => ?_
    · subst e
      rcases h with h | h
      · rcases (by omega : r = 0 ∨ r = 1) with c | c <;> subst c
        · exact .inl rfl
        · exact .inr rfl
      · subst h; exact .inl rfl
    · exact fnc_of (by rw [h1, List.length_map, List.length_range]) h2
  · rw [M.all_bind]
    refine (mapL_all (P := fun y => y = .int 0 ∨ y = .int 1) _ _ fun a _ => ?_).mono fun ys ⟨h1, h2⟩ => ?_
    · rw [M.all_bind]
      refine (pick_nat (by decide)).mono fun p ⟨r, e⟩ => ?_
      subst e
      simp only [ev_bind, ap0_eq, ap1_eq, ap2_eq, ap3_eq, ev_sub, ev_add, ev_addI, ev_neg, ev_lt, ev_le, ev_gt, ev_ge, ev_truB, ev_truI, ev_truL, ev_intI, ev_intB, ev_lenL, ev_lenT, ev_tupL, ev_tupT, ev_lstL, ev_lstT, ev_seqL, ev_seqT, ev_eqI, ev_neI, ev_eqB, ev_neB, ev_fnc0, ev_fnc1, ev_turnR, M.all_ret]
      exact b01 _
    · exact fnc_of (by rw [h1, List.length_map, List.length_range]) h2
  · rw [M.all_bind]
    refine (pick_all (by decide)).mono fun p ⟨r, e, hr⟩ => ?_
    subst e
    have e1 : (1 : Int) + (r : Int) = ((1 + r : Nat) : Int) := by omega
    simp only [ev_bind, ap0_eq, ap1_eq, ap2_eq, ap3_eq, ev_sub, ev_add, ev_addI, ev_neg, ev_lt, ev_le, ev_gt, ev_ge, ev_truB, ev_truI, ev_truL, ev_intI, ev_intB, ev_lenL, ev_lenT, ev_tupL, ev_tupT, ev_lstL, ev_lstT, ev_seqL, ev_seqT, ev_eqI, ev_neI, ev_eqB, ev_neB, ev_fnc0, ev_fnc1, ev_turnR, e1, ev_range (1 + r) (by omega)]
    rw [M.all_bind]
    refine (mapL_all (P := IsNat) _ _ fun a _ => pick_nat (by omega)).mono fun ys ⟨h1, h2⟩ => ?_
    obtain ⟨some, e⟩ := nats_of ys h2
    subst e
    rw [ev_mapL (α := Nat) _ _ (fun x => .int (inSome some x)) _ fun x _ => by
      simp only [bind_assoc, ev_bind, ap0_eq, ap1_eq, ap2_eq, ap3_eq, ev_sub, ev_add, ev_addI, ev_neg, ev_lt, ev_le, ev_gt, ev_ge, ev_truB, ev_truI, ev_truL, ev_intI, ev_intB, ev_lenL, ev_lenT, ev_tupL, ev_tupT, ev_lstL, ev_lstT, ev_seqL, ev_seqT, ev_eqI, ev_neI, ev_eqB, ev_neB, ev_fnc0, ev_fnc1, ev_turnR, inSome_ev, ev_neNil, inSome_any]
      rfl]
    simp only [ev_bind, ap0_eq, ap1_eq, ap2_eq, ap3_eq, ev_sub, ev_add, ev_addI, ev_neg, ev_lt, ev_le, ev_gt, ev_ge, ev_truB, ev_truI, ev_truL, ev_intI, ev_intB, ev_lenL, ev_lenT, ev_tupL, ev_tupT, ev_lstL, ev_lstT, ev_seqL, ev_seqT, ev_eqI, ev_neI, ev_eqB, ev_neB, ev_fnc0, ev_fnc1, ev_turnR, M.all_ret]
    exact fnc_map _ fun x => by unfold inSome; split <;> simp
  · rw [M.all_bind]
    refine (pick_nat (by omega)).mono fun p ⟨lot, e⟩ => ?_
    subst e
    refine all_if (fun _ => ?_) fun _ => ?_
    · rw [ev_mapL (α := Nat) _ _ (fun x => .int (BF.ones 9 (x &&& lot) % 2)) _ fun x _ => by
        simp only [ev_bind, ap0_eq, ap1_eq, ap2_eq, ap3_eq, ev_sub, ev_add, ev_addI, ev_neg, ev_lt, ev_le, ev_gt, ev_ge, ev_truB, ev_truI, ev_truL, ev_intI, ev_intB, ev_lenL, ev_lenT, ev_tupL, ev_tupT, ev_lstL, ev_lstT, ev_seqL, ev_seqT, ev_eqI, ev_neI, ev_eqB, ev_neB, ev_fnc0, ev_fnc1, ev_turnR, ev_and, band, law_ones_ev, ev_modP _ 2 (by decide)]]
      simp only [ev_bind, ap0_eq, ap1_eq, ap2_eq, ap3_eq, ev_sub, ev_add, ev_addI, ev_neg, ev_lt, ev_le, ev_gt, ev_ge, ev_truB, ev_truI, ev_truL, ev_intI, ev_intB, ev_lenL, ev_lenT, ev_tupL, ev_tupT, ev_lstL, ev_lstT, ev_seqL, ev_seqT, ev_eqI, ev_neI, ev_eqB, ev_neB, ev_fnc0, ev_fnc1, ev_turnR, M.all_ret]
      exact fnc_map _ fun x => by omega
    · rw [ev_mapL (α := Nat) _ _ (fun x => .int (if decide (((x &&& lot : Nat) : Int) = lot) = true then 1 else 0)) _ fun x _ => by
        simp only [ev_bind, ap0_eq, ap1_eq, ap2_eq, ap3_eq, ev_sub, ev_add, ev_addI, ev_neg, ev_lt, ev_le, ev_gt, ev_ge, ev_truB, ev_truI, ev_truL, ev_intI, ev_intB, ev_lenL, ev_lenT, ev_tupL, ev_tupT, ev_lstL, ev_lstT, ev_seqL, ev_seqT, ev_eqI, ev_neI, ev_eqB, ev_neB, ev_fnc0, ev_fnc1, ev_turnR, ev_and, band]]
      simp only [ev_bind, ap0_eq, ap1_eq, ap2_eq, ap3_eq, ev_sub, ev_add, ev_addI, ev_neg, ev_lt, ev_le, ev_gt, ev_ge, ev_truB, ev_truI, ev_truL, ev_intI, ev_intB, ev_lenL, ev_lenT, ev_tupL, ev_tupT, ev_lstL, ev_lstT, ev_seqL, ev_seqT, ev_eqI, ev_neI, ev_eqB, ev_neB, ev_fnc0, ev_fnc1, ev_turnR, M.all_ret]
      exact fnc_map _ fun x => by split <;> simp
/-! rising functions -/
def IsMono (n : Nat) (p : PV) : Prop := ∃ t : Nat → Int, BF.Mono n t ∧ p = fnc n t
theorem bi_le {x i : Nat} (h : x.testBit i = false) (j : Nat) : BF.bi x j ≤ BF.bi (x ^^^ 2 ^ i) j := by
  by_cases c : i = j
  · subst c
    rw [BF.bi_flip]
    have : BF.bi x i = 0 := by unfold BF.bi; rw [h]; rfl
    omega
  · rw [BF.bi_flip_ne c]
    exact Int.le_refl _
theorem inSome_mono (some : List Nat) {x i : Nat} (h : x.testBit i = false) : inSome some x ≤ inSome some (x ^^^ 2 ^ i) := by
  unfold inSome
  by_cases c : (some.any fun lot => decide (x &&& lot = lot)) = true
  · rw [if_pos c]
    obtain ⟨lot, hl, e⟩ := List.any_eq_true.mp c
    have e := of_decide_eq_true e
    refine Int.le_of_eq (if_pos (List.any_eq_true.mpr ⟨lot, hl, decide_eq_true ?_⟩)).symm
    · refine Nat.eq_of_testBit_eq fun j => ?_
      have ej := congrArg (fun z => Nat.testBit z j) e
      simp only [Nat.testBit_and, Nat.testBit_xor] at ej ⊢
      by_cases d : i = j
      · subst d
        rw [h] at ej
        rw [← ej]
        simp
      · rw [Nat.testBit_two_pow_of_ne d, Bool.xor_false]
        exact ej
  · rw [if_neg c]
    split <;> omega
def wsum (ws : List Nat) (x : Nat) : Int := (ws.zipIdx.map fun z => (z.1 : Int) * BF.bi x z.2).sum
theorem wsum_mono (ws : List Nat) {x i : Nat} (h : x.testBit i = false) : wsum ws x ≤ wsum ws (x ^^^ 2 ^ i) := by
  unfold wsum
  induction ws.zipIdx with
  | nil => exact Int.le_refl _
  | cons z l ih =>
    rw [List.map_cons, List.map_cons, List.sum_cons, List.sum_cons]
    have := Int.mul_le_mul_of_nonneg_left (bi_le h z.2) (show (0 : Int) ≤ (z.1 : Int) by omega)
    omega
theorem enum_map (ws : List Nat) : enumP (ws.map fun w => PV.int (w : Nat)) = ws.zipIdx.map fun z => .tup [.int (z.2 : Nat), .int (z.1 : Nat)] := by
  unfold enumP
  rw [List.zipIdx_map, List.map_map]
  rfl
theorem step_01 {a b : Int} {c d : Prop} [Decidable c] [Decidable d] (h : c → d) : (if c then (1 : Int) else 0) ≤ if d then 1 else 0 := by
  by_cases e : c
  · rw [if_pos e, if_pos (h e)]; exact Int.le_refl _
  · rw [if_neg e]; split <;> omega
theorem rising_all (n : Nat) (hn : n ≤ 6) : (m__law_rising .src (.int n)).All (IsMono n) := by
  unfold m__law_rising
  have hp := pow6 hn
  simp only [bind_assoc, ev_bind, ap0_eq, ap1_eq, ap2_eq, ap3_eq, ev_sub, ev_add, ev_addI, ev_neg, ev_lt, ev_le, ev_gt, ev_ge, ev_truB, ev_truI, ev_truL, ev_intI, ev_intB, ev_lenL, ev_lenT, ev_tupL, ev_tupT, ev_lstL, ev_lstT, ev_seqL, ev_seqT, ev_eqI, ev_neI, ev_eqB, ev_neB, ev_fnc0, ev_fnc1, ev_turnR, ev_shl1 n (by omega), ev_range n (by omega)]
  rw [M.all_bind]
  refine (pick_nat (by decide)).mono fun p ⟨way, e⟩ => ?_
  subst e
  show M.All _ (unpk2 (.tup [_, _]) _)
  unfold unpk2
  simp only [bind_assoc, ev_bind, ap0_eq, ap1_eq, ap2_eq, ap3_eq, ev_sub, ev_add, ev_addI, ev_neg, ev_lt, ev_le, ev_gt, ev_ge, ev_truB, ev_truI, ev_truL, ev_intI, ev_intB, ev_lenL, ev_lenT, ev_tupL, ev_tupT, ev_lstL, ev_lstT, ev_seqL, ev_seqT, ev_eqI, ev_neI, ev_eqB, ev_neB, ev_fnc0, ev_fnc1, ev_turnR]
  rw [M.all_bind]
  refine (pick_all (by decide)).mono fun p ⟨r, e, hr⟩ => ?_
  subst e
  rw [ev_range r (by omega), ev_bind, M.all_bind]
  refine (mapL_all (P := IsNat) _ _ fun a _ => pick_nat (by omega)).mono fun ys ⟨_, h2⟩ => ?_
  obtain ⟨some, e⟩ := nats_of ys h2
  subst e
  rw [M.all_bind]
  refine (mapL_all (P := IsNat) _ _ fun a _ => pick_nat (by decide)).mono fun ys ⟨hw, h2⟩ => ?_
  obtain ⟨ws, e⟩ := nats_of ys h2
  subst e
  rw [M.all_bind]
  refine (pick_nat (by decide)).mono fun p ⟨bound, e⟩ => ?_
  subst e
  rw [List.length_map, List.length_map, List.length_range] at hw
  have wl : ∀ z ∈ ws.zipIdx, z.2 < 30 := fun z hz => by
    have := List.snd_lt_of_mem_zipIdx hz
    omega
  simp only [asL, bind_assoc, ev_range (2 ^ n) (by omega), ev_bind]
  let val : Nat → Int := fun x => if way = 0 then inSome some x else if way = 1 then (if (bound : Int) ≤ wsum ws x then 1 else 0) else if (bound : Int) ≤ BF.ones 9 x then 1 else 0
  rw [ev_forApp (α := Nat) _ _ (fun x => .int (val x)) _ _ (by rw [List.length_range]; show 0 + 2 ^ n < 100000; omega) fun x _ t ht => ?_]
  · simp only [ev_bind, ap0_eq, ap1_eq, ap2_eq, ap3_eq, ev_sub, ev_add, ev_addI, ev_neg, ev_lt, ev_le, ev_gt, ev_ge, ev_truB, ev_truI, ev_truL, ev_intI, ev_intB, ev_lenL, ev_lenT, ev_tupL, ev_tupT, ev_lstL, ev_lstT, ev_seqL, ev_seqT, ev_eqI, ev_neI, ev_eqB, ev_neB, ev_fnc0, ev_fnc1, ev_turnR, M.all_ret, List.nil_append]
    refine ⟨val, ⟨fun x _ => ?_, fun x i _ hi hb => ?_⟩, rfl⟩
    · show (if way = 0 then _ else _) = (0 : Int) ∨ (if way = 0 then _ else _) = (1 : Int)
      unfold inSome
      repeat' split
      all_goals first | exact .inl rfl | exact .inr rfl
    · show (if way = 0 then _ else _) ≤ (if way = 0 then _ else _)
      split
      · exact inSome_mono some hb
      · split
        · exact step_01 (a := 0) (b := 0) fun h => Int.le_trans h (wsum_mono ws hb)
        · refine step_01 (a := 0) (b := 0) fun h => Int.le_trans h ?_
          rw [BF.ones_flip (show i < 9 by omega)]
          have : BF.bi x i = 0 := by unfold BF.bi; rw [hb]; rfl
          omega
  · show _ = M.ret (t ++ [PV.int (if way = 0 then _ else _)])
    by_cases c : way = 0
    · subst c
      simp only [ev_bind, ap0_eq, ap1_eq, ap2_eq, ap3_eq, ev_sub, ev_add, ev_addI, ev_neg, ev_lt, ev_le, ev_gt, ev_ge, ev_truB, ev_truI, ev_truL, ev_intI, ev_intB, ev_lenL, ev_lenT, ev_tupL, ev_tupT, ev_lstL, ev_lstT, ev_seqL, ev_seqT, ev_eqI, ev_neI, ev_eqB, ev_neB, ev_fnc0, ev_fnc1, ev_turnR, inSome_ev, ev_neNil, inSome_any, ev_app ht]
      rfl
    · have c1 : ¬ ((way : Int) = 0) := by omega
      simp only [ev_bind, ap0_eq, ap1_eq, ap2_eq, ap3_eq, ev_sub, ev_add, ev_addI, ev_neg, ev_lt, ev_le, ev_gt, ev_ge, ev_truB, ev_truI, ev_truL, ev_intI, ev_intB, ev_lenL, ev_lenT, ev_tupL, ev_tupT, ev_lstL, ev_lstT, ev_seqL, ev_seqT, ev_eqI, ev_neI, ev_eqB, ev_neB, ev_fnc0, ev_fnc1, ev_turnR, decide_eq_false c1, Bool.false_eq_true, if_false, if_neg c]
      by_cases d : way = 1
      · subst d
        simp only [ev_bind, ap0_eq, ap1_eq, ap2_eq, ap3_eq, ev_sub, ev_add, ev_addI, ev_neg, ev_lt, ev_le, ev_gt, ev_ge, ev_truB, ev_truI, ev_truL, ev_intI, ev_intB, ev_lenL, ev_lenT, ev_tupL, ev_tupT, ev_lstL, ev_lstT, ev_seqL, ev_seqT, ev_eqI, ev_neI, ev_eqB, ev_neB, ev_fnc0, ev_fnc1, ev_turnR, enum_map]
        rw [ev_mapL (α := Nat × Nat) _ _ (fun z => .int ((z.1 : Int) * BF.bi x z.2)) _ fun z hz => by
          show (m__law_bit (.int (x : Nat)) (.int (z.2 : Nat)) >>= fun q => pMul (.int (z.1 : Nat)) q) = _
          rw [law_bit_ev x z.2 (wl z hz), ev_bind, ev_mulR _ _ (by rcases BF.bi_01 x z.2 with h | h <;> rw [h] <;> rfl)]]
        simp only [ev_bind, ap0_eq, ap1_eq, ap2_eq, ap3_eq, ev_sub, ev_add, ev_addI, ev_neg, ev_lt, ev_le, ev_gt, ev_ge, ev_truB, ev_truI, ev_truL, ev_intI, ev_intB, ev_lenL, ev_lenT, ev_tupL, ev_tupT, ev_lstL, ev_lstT, ev_seqL, ev_seqT, ev_eqI, ev_neI, ev_eqB, ev_neB, ev_fnc0, ev_fnc1, ev_turnR]
        rw [ev_sumL]
        simp only [ev_bind, ap0_eq, ap1_eq, ap2_eq, ap3_eq, ev_sub, ev_add, ev_addI, ev_neg, ev_lt, ev_le, ev_gt, ev_ge, ev_truB, ev_truI, ev_truL, ev_intI, ev_intB, ev_lenL, ev_lenT, ev_tupL, ev_tupT, ev_lstL, ev_lstT, ev_seqL, ev_seqT, ev_eqI, ev_neI, ev_eqB, ev_neB, ev_fnc0, ev_fnc1, ev_turnR, ev_app ht, decide_eq_true_eq]
        rfl
      · have d1 : ¬ ((way : Int) = 1) := by omega
        simp only [ev_bind, ap0_eq, ap1_eq, ap2_eq, ap3_eq, ev_sub, ev_add, ev_addI, ev_neg, ev_lt, ev_le, ev_gt, ev_ge, ev_truB, ev_truI, ev_truL, ev_intI, ev_intB, ev_lenL, ev_lenT, ev_tupL, ev_tupT, ev_lstL, ev_lstT, ev_seqL, ev_seqT, ev_eqI, ev_neI, ev_eqB, ev_neB, ev_fnc0, ev_fnc1, ev_turnR, decide_eq_false d1, Bool.false_eq_true, if_false, if_neg d, law_ones_ev, ev_app ht, decide_eq_true_eq]
/-! all rising functions of up to four bits -/
def rightTable (k : Nat) (p : PV) : Bool := match p with
  | .tup ys => match intsOf ys with
    | some ns => decide (ns.length = 2 ^ k) && ns.all (fun i => decide (i = 0) || decide (i = 1)) && (List.range (2 ^ k)).all fun x => (List.range k).all fun i => x.testBit i || decide (ns.getD x 0 ≤ ns.getD (x ^^^ 2 ^ i) 0)
    | none => false
  | _ => false
def rightEvery (k : Nat) (c : Nat) : Bool := match m__law_every (.int k) with
  | .ret (.lst l) => decide (l.length = c) && l.all (rightTable k)
  | _ => false
theorem every0 : rightEvery 0 2 = true := by decide +kernel
theorem every1 : rightEvery 1 3 = true := by decide +kernel
theorem every2 : rightEvery 2 6 = true := by decide +kernel
theorem every3 : rightEvery 3 20 = true := by decide +kernel
theorem every4 : rightEvery 4 168 = true := by decide +kernel
theorem right_mono {k : Nat} {p : PV} (h : rightTable k p = true) : ∃ t, BF.Mono k t ∧ p = .tup (tab (2 ^ k) t) := by
  unfold rightTable at h
  split at h
  case h_2 => cases h
  rename_i ys
  split at h
  case h_2 => cases h
  rename_i ns e
  simp only [Bool.and_eq_true, decide_eq_true_eq, List.all_eq_true, Bool.or_eq_true, List.mem_range] at h
  obtain ⟨⟨h1, h2⟩, h3⟩ := h
  refine ⟨fun x => ns.getD x 0, ⟨fun x hx => ?_, fun x i hx hi hb => ?_⟩, ?_⟩
  · rw [← h1] at hx
    show ns.getD x 0 = 0 ∨ ns.getD x 0 = 1
    rw [List.getD_eq_getElem?_getD, List.getElem?_eq_getElem hx]
    exact h2 _ (List.getElem_mem hx)
  · rcases h3 x hx i hi with z | z
    · rw [hb] at z; cases z
    · exact z
  · congr 1
    have key : ∀ (ys : List PV) (ns : List Int), intsOf ys = some ns → ys = ns.map PV.int := by
      intro ys
      induction ys with
      | nil => intro ns e; cases e; rfl
      | cons y ys ih =>
        intro ns e
        cases y with
        | int i =>
          rw [intsOf] at e
          obtain ⟨r, e2, rfl⟩ := Option.map_eq_some_iff.mp e
          rw [ih r e2]; rfl
        | _ => cases e
    rw [key ys ns e]
    refine List.ext_getElem? fun x => ?_
    by_cases hx : x < ns.length
    · rw [tab_get (by omega), List.getElem?_map, List.getElem?_eq_getElem hx]
      show some (PV.int ns[x]) = some (PV.int (ns.getD x 0))
      rw [List.getD_eq_getElem?_getD, List.getElem?_eq_getElem hx]
      rfl
    · rw [List.getElem?_eq_none (by rw [List.length_map]; omega), List.getElem?_eq_none (by rw [tab_len]; omega)]
theorem every_of {k c : Nat} (h : rightEvery k c = true) : ∃ l, m__law_every (.int k) = .ret (.lst l) ∧ l.length = c ∧ ∀ p ∈ l, ∃ t, BF.Mono k t ∧ p = .tup (tab (2 ^ k) t) := by
  unfold rightEvery at h
  split at h
  case h_2 => cases h
  rename_i l e
  simp only [Bool.and_eq_true, decide_eq_true_eq, List.all_eq_true] at h
  exact ⟨l, e, h.1, fun p hp => right_mono (h.2 p hp)⟩
end K

namespace K
open PySem PySem.Spec PyProof.Rows L2 ML
theorem every_k (k : Nat) (hk : k ≤ 4) : ∃ (l : List PV) (c : Nat), m__law_every (.int k) = .ret (.lst l) ∧ l.length = c ∧ pItem (.lst [.int 2, .int 3, .int 6, .int 20, .int 168]) (.int k) = .ret (.int c) ∧ ∀ p ∈ l, ∃ t, BF.Mono k t ∧ p = .tup (tab (2 ^ k) t) := by
  rcases (by omega : k = 0 ∨ k = 1 ∨ k = 2 ∨ k = 3 ∨ k = 4) with c | c | c | c | c <;> subst c
  · obtain ⟨l, a, b, d⟩ := every_of every0
    exact ⟨l, 2, a, b, ev_itemL rfl, d⟩
  · obtain ⟨l, a, b, d⟩ := every_of every1
    exact ⟨l, 3, a, b, ev_itemL rfl, d⟩
  · obtain ⟨l, a, b, d⟩ := every_of every2
    exact ⟨l, 6, a, b, ev_itemL rfl, d⟩
  · obtain ⟨l, a, b, d⟩ := every_of every3
    exact ⟨l, 20, a, b, ev_itemL rfl, d⟩
  · obtain ⟨l, a, b, d⟩ := every_of every4
    exact ⟨l, 168, a, b, ev_itemL rfl, d⟩
theorem pick_le {k : Nat} {m : Int} (hm : m = k) (hk : k < 1152921504606846976) (h0 : 0 < k) : (m_pick .src (.int m)).All fun p => ∃ r : Nat, p = .int r ∧ r < k := by
  subst hm
  exact (pick_all (by omega)).mono fun p ⟨r, e, h⟩ => ⟨r, e, by omega⟩
theorem mask_cast (zs : List Nat) : ((zs.map fun i => ((2 ^ i : Nat) : Int)).sum) = ((mask zs : Nat) : Int) := by
  unfold mask
  induction zs with
  | nil => rfl
  | cons a l ih =>
    rw [List.map_cons, List.map_cons, List.sum_cons, List.sum_cons, ih]
    exact (Int.natCast_add _ _).symm
theorem bx01 (a b : Int) (h : a = 0 ∨ a = 1) : Builtin.bitXor a (b - b / 2 * 2) = (a + b) % 2 := by
  rcases (by omega : b - b / 2 * 2 = 0 ∨ b - b / 2 * 2 = 1) with c | c <;> rw [c] <;> rcases h with h | h <;> subst h
  · have : Builtin.bitXor 0 0 = 0 := by decide
    omega
  · have : Builtin.bitXor 1 0 = 1 := by decide
    omega
  · have : Builtin.bitXor 0 1 = 1 := by decide
    omega
  · have : Builtin.bitXor 1 1 = 0 := by decide
    omega
theorem holds : m_law.All (· = .bl true) := by
  unfold m_law
  simp only [ev_bind, ap0_eq, ap1_eq, ap2_eq, ap3_eq, ev_sub, ev_add, ev_addI, ev_neg, ev_lt, ev_le, ev_gt, ev_ge, ev_truB, ev_truI, ev_truL, ev_intI, ev_intB, ev_lenL, ev_lenT, ev_tupL, ev_tupT, ev_lstL, ev_lstT, ev_seqL, ev_seqT, ev_eqI, ev_neI, ev_eqB, ev_neB, ev_fnc0, ev_fnc1, ev_turnR]
  rw [M.all_bind]
  have first : ∀ Q : PV → Prop, (∀ k : Nat, k ≤ 4 → Q (.int k)) → ((m_pick .src (.int 8) >>= fun p => pEq p (.int 0)) >>= fun k => if k = true then M.ret (PV.int 4) else m_pick .src (.int 4)).All Q := fun Q h => by
    rw [M.all_bind, M.all_bind]
    refine (pick_le (k := 8) rfl (by decide) (by decide)).mono fun p ⟨r, e, _⟩ => ?_
    subst e
    rw [ev_eqI]
    refine all_if (fun _ => h 4 (Nat.le_refl 4)) fun _ => (pick_le (k := 4) rfl (by decide) (by decide)).mono fun p ⟨r, e, hr⟩ => ?_
    subst e
    exact h r (by omega)
  refine first _ fun k hk => ?_
  obtain ⟨l, c, e1, e2, e3, e4⟩ := every_k k hk
  simp only [ev_bind, ap0_eq, ap1_eq, ap2_eq, ap3_eq, ev_sub, ev_add, ev_addI, ev_neg, ev_lt, ev_le, ev_gt, ev_ge, ev_truB, ev_truI, ev_truL, ev_intI, ev_intB, ev_lenL, ev_lenT, ev_tupL, ev_tupT, ev_lstL, ev_lstT, ev_seqL, ev_seqT, ev_eqI, ev_neI, ev_eqB, ev_neB, ev_fnc0, ev_fnc1, ev_turnR, e1, e2, e3]
  rw [ev_compN]
  · have r4 := ev_range 4 (by decide)
    rw [show ((4 : Nat) : Int) = 4 from rfl] at r4
    rw [decide_eq_false (by simp : ¬ ((c : Int) ≠ (c : Int)))]
    have nn := ev_neNil (α := Nat) (fun _ => 0) []
    simp only [List.map_nil] at nn
    simp only [ev_bind, ap0_eq, ap1_eq, ap2_eq, ap3_eq, ev_sub, ev_add, ev_addI, ev_neg, ev_lt, ev_le, ev_gt, ev_ge, ev_truB, ev_truI, ev_truL, ev_intI, ev_intB, ev_lenL, ev_lenT, ev_tupL, ev_tupT, ev_lstL, ev_lstT, ev_seqL, ev_seqT, ev_eqI, ev_neI, ev_eqB, ev_neB, ev_fnc0, ev_fnc1, ev_turnR, nn, ev_mOr, r4]
    rw [if_neg Bool.false_ne_true, ev_bind]
    show M.All _ (if false = true then _ else _)
    rw [if_neg Bool.false_ne_true, M.all_bind]
    refine forL_all _ _ (fun a _ => ?_) rfl
    rw [M.all_bind]
    refine (pick_le (k := 7) rfl (by decide) (by decide)).mono fun p ⟨n, e, hn⟩ => ?_
    subst e
    rw [M.all_bind]
    refine (rising_all n (by omega)).mono fun p ⟨t, ht, e⟩ => ?_
    subst e
    have d0 : ∀ z : Int, decide (z ≠ z) = false := fun z => by simp
    have n20 : n < 20 := by omega
    have n6 : n ≤ 6 := by omega
    have hp := pow6 n6
    have sumF : ∀ u : Nat → Int, pSum (.tup (tab (2 ^ n) u)) = .ret (.int (BF.S (2 ^ n) u)) := fun u => by
      unfold tab
      rw [ev_sumT, ← BF.S_eq_sum]
    simp only [ev_bind, ap0_eq, ap1_eq, ap2_eq, ap3_eq, ev_sub, ev_add, ev_addI, ev_neg, ev_lt, ev_le, ev_gt, ev_ge, ev_truB, ev_truI, ev_truL, ev_intI, ev_intB, ev_lenL, ev_lenT, ev_tupL, ev_tupT, ev_lstL, ev_lstT, ev_seqL, ev_seqT, ev_eqI, ev_neI, ev_eqB, ev_neB, ev_fnc0, ev_fnc1, ev_turnR, rises_ev n t n6 ht, ev_mNot, Bool.not_true, Bool.false_eq_true, if_false, sumF, ev_range n (by omega), ev_shl1 n (by omega), ev_range (2 ^ n) (by omega)]
    rw [M.all_bind]
    refine forL_all _ _ (fun a ha => ?_) ?_
    · obtain ⟨i, hi, rfl⟩ := List.mem_map.mp ha
      have hi := List.mem_range.mp hi
      rw [ev_compL (α := Nat) _ _ (fun x => decide (BF.bi x i = 1)) (fun x => .int (t x)) _ fun x hx => by
        simp only [ev_bind, ap0_eq, ap1_eq, ap2_eq, ap3_eq, ev_sub, ev_add, ev_addI, ev_neg, ev_lt, ev_le, ev_gt, ev_ge, ev_truB, ev_truI, ev_truL, ev_intI, ev_intB, ev_lenL, ev_lenT, ev_tupL, ev_tupT, ev_lstL, ev_lstT, ev_seqL, ev_seqT, ev_eqI, ev_neI, ev_eqB, ev_neB, ev_fnc0, ev_fnc1, ev_turnR, law_bit_ev x i (by omega), ev_tab (List.mem_range.mp hx)]]
      simp only [ev_bind, ap0_eq, ap1_eq, ap2_eq, ap3_eq, ev_sub, ev_add, ev_addI, ev_neg, ev_lt, ev_le, ev_gt, ev_ge, ev_truB, ev_truI, ev_truL, ev_intI, ev_intB, ev_lenL, ev_lenT, ev_tupL, ev_tupT, ev_lstL, ev_lstT, ev_seqL, ev_seqT, ev_eqI, ev_neI, ev_eqB, ev_neB, ev_fnc0, ev_fnc1, ev_turnR]
      rw [ev_sumL, BF.filter_sum]
      have e : (BF.S (2 ^ n) fun x => if decide (BF.bi x i = 1) = true then t x else 0) = BF.S (2 ^ n) fun x => BF.bi x i * t x := BF.S_congr fun x _ => by
        rcases BF.bi_01 x i with h | h <;> simp [h]
      rw [e]
      simp only [ev_bind, ap0_eq, ap1_eq, ap2_eq, ap3_eq, ev_sub, ev_add, ev_addI, ev_neg, ev_lt, ev_le, ev_gt, ev_ge, ev_truB, ev_truI, ev_truL, ev_intI, ev_intB, ev_lenL, ev_lenT, ev_tupL, ev_tupT, ev_lstL, ev_lstT, ev_seqL, ev_seqT, ev_eqI, ev_neI, ev_eqB, ev_neB, ev_fnc0, ev_fnc1, ev_turnR, changes_ev n t i n20 hi, ev_mulL 2 _ (by decide), BF.mono_high ht hi]
      simp only [d0, Bool.false_eq_true, if_false, M.all_ret]
    simp only [jn, ev_bind, ap0_eq, ap1_eq, ap2_eq, ap3_eq, ev_sub, ev_add, ev_addI, ev_neg, ev_lt, ev_le, ev_gt, ev_ge, ev_truB, ev_truI, ev_truL, ev_intI, ev_intB, ev_lenL, ev_lenT, ev_tupL, ev_tupT, ev_lstL, ev_lstT, ev_seqL, ev_seqT, ev_eqI, ev_neI, ev_eqB, ev_neB, ev_fnc0, ev_fnc1, ev_turnR]
    rw [ev_compL (α := Nat) _ _ (fun i => decide (0 < BF.ch n t i)) (fun x => .int (x : Nat)) _ fun i hi => by
      simp only [ev_bind, ap0_eq, ap1_eq, ap2_eq, ap3_eq, ev_sub, ev_add, ev_addI, ev_neg, ev_lt, ev_le, ev_gt, ev_ge, ev_truB, ev_truI, ev_truL, ev_intI, ev_intB, ev_lenL, ev_lenT, ev_tupL, ev_tupT, ev_lstL, ev_lstT, ev_seqL, ev_seqT, ev_eqI, ev_neI, ev_eqB, ev_neB, ev_fnc0, ev_fnc1, ev_turnR, changes_ev n t i n20 (List.mem_range.mp hi)]]
    have same : ∀ l : List Nat, pNe (lotP l) (.tup (l.map fun x => PV.int (x : Nat))) = .ret false := fun l => by
      have := ev_neT (l.map fun x => ((x : Nat) : Int)) (l.map fun x => ((x : Nat) : Int))
      rw [List.map_map] at this
      unfold lotP
      rw [decide_eq_false (by simp)] at this
      exact this
    obtain ⟨m, hm, ed⟩ := dual_ev n t n6
    have ec : BF.chs n (fun x => 1 - t (x ^^^ m)) = BF.chs n t := (BF.chs_opp (t := fun x => t (x ^^^ m))).trans (BF.chs_turned hm)
    simp only [ev_bind, ap0_eq, ap1_eq, ap2_eq, ap3_eq, ev_sub, ev_add, ev_addI, ev_neg, ev_lt, ev_le, ev_gt, ev_ge, ev_truB, ev_truI, ev_truL, ev_intI, ev_intB, ev_lenL, ev_lenT, ev_tupL, ev_tupT, ev_lstL, ev_lstT, ev_seqL, ev_seqT, ev_eqI, ev_neI, ev_eqB, ev_neB, ev_fnc0, ev_fnc1, ev_turnR, hung_ev n t n6, same, ed, all_changes_ev n _ n20, ec, ev_mOr]
    simp only [d0, ev_bind, ap0_eq, ap1_eq, ap2_eq, ap3_eq, ev_sub, ev_add, ev_addI, ev_neg, ev_lt, ev_le, ev_gt, ev_ge, ev_truB, ev_truI, ev_truL, ev_intI, ev_intB, ev_lenL, ev_lenT, ev_tupL, ev_tupT, ev_lstL, ev_lstT, ev_seqL, ev_seqT, ev_eqI, ev_neI, ev_eqB, ev_neB, ev_fnc0, ev_fnc1, ev_turnR, Bool.false_eq_true, if_false]
    -- a lot of places, drawn
    simp only [bind_assoc]
    rw [M.all_bind]
    refine (compL_sub _ _ fun a ha => ?_).mono fun ys hs => ?_
    · obtain ⟨i, hi, rfl⟩ := List.mem_map.mp ha
      unfold turnM
      simp only [bind_assoc]
      rw [M.all_bind]
      refine (pick_nat (by decide)).mono fun p ⟨r, e⟩ => ?_
      subst e
      simp only [ev_bind, ap0_eq, ap1_eq, ap2_eq, ap3_eq, ev_sub, ev_add, ev_addI, ev_neg, ev_lt, ev_le, ev_gt, ev_ge, ev_truB, ev_truI, ev_truL, ev_intI, ev_intB, ev_lenL, ev_lenT, ev_tupL, ev_tupT, ev_lstL, ev_lstT, ev_seqL, ev_seqT, ev_eqI, ev_neI, ev_eqB, ev_neB, ev_fnc0, ev_fnc1, ev_turnR]
      exact all_if (fun _ => .inr rfl) fun _ => .inl rfl
    obtain ⟨zs, hz, rfl⟩ := List.sublist_map_iff.mp hs
    have nd : zs.Nodup := List.Nodup.sublist hz List.nodup_range
    have hl : ∀ i ∈ zs, i < n := fun i hi => List.mem_range.mp (hz.subset hi)
    have hm := mask_lt n zs nd hl
    have late := turned_at_ev n t n6 zs nd hl hm
    unfold lotP at late
    have ec2 := BF.chs_turned (t := t) hm
    simp only [ev_bind, ap0_eq, ap1_eq, ap2_eq, ap3_eq, ev_sub, ev_add, ev_addI, ev_neg, ev_lt, ev_le, ev_gt, ev_ge, ev_truB, ev_truI, ev_truL, ev_intI, ev_intB, ev_lenL, ev_lenT, ev_tupL, ev_tupT, ev_lstL, ev_lstT, ev_seqL, ev_seqT, ev_eqI, ev_neI, ev_eqB, ev_neB, ev_fnc0, ev_fnc1, ev_turnR, late, all_changes_ev n _ n20, ec2, d0]
    rw [ev_mapL (α := Nat) _ _ (fun i => .int ((2 ^ i : Nat) : Int)) _ fun i hi => by
      rw [ev_shl1 i (by have := hl i hi; omega)]]
    have mk : ((zs.map fun i => ((2 ^ i : Nat) : Int)).sum) = ((mask zs : Nat) : Int) := by
      exact mask_cast zs
    simp only [ev_bind, ap0_eq, ap1_eq, ap2_eq, ap3_eq, ev_sub, ev_add, ev_addI, ev_neg, ev_lt, ev_le, ev_gt, ev_ge, ev_truB, ev_truI, ev_truL, ev_intI, ev_intB, ev_lenL, ev_lenT, ev_tupL, ev_tupT, ev_lstL, ev_lstT, ev_seqL, ev_seqT, ev_eqI, ev_neI, ev_eqB, ev_neB, ev_fnc0, ev_fnc1, ev_turnR]
    rw [ev_sumL, mk]
    simp only [ev_bind, ap0_eq, ap1_eq, ap2_eq, ap3_eq, ev_sub, ev_add, ev_addI, ev_neg, ev_lt, ev_le, ev_gt, ev_ge, ev_truB, ev_truI, ev_truL, ev_intI, ev_intB, ev_lenL, ev_lenT, ev_tupL, ev_tupT, ev_lstL, ev_lstT, ev_seqL, ev_seqT, ev_eqI, ev_neI, ev_eqB, ev_neB, ev_fnc0, ev_fnc1, ev_turnR]
    rw [ev_compN]
    · have nn := ev_neNil (α := Nat) (fun _ => 0) []
      simp only [List.map_nil] at nn
      simp only [ev_bind, ap0_eq, ap1_eq, ap2_eq, ap3_eq, ev_sub, ev_add, ev_addI, ev_neg, ev_lt, ev_le, ev_gt, ev_ge, ev_truB, ev_truI, ev_truL, ev_intI, ev_intB, ev_lenL, ev_lenT, ev_tupL, ev_tupT, ev_lstL, ev_lstT, ev_seqL, ev_seqT, ev_eqI, ev_neI, ev_eqB, ev_neB, ev_fnc0, ev_fnc1, ev_turnR, nn, ev_mOr]
      simp only [List.isEmpty_nil, Bool.not_true, Bool.false_eq_true, if_false, ev_bind, ap0_eq, ap1_eq, ap2_eq, ap3_eq, ev_sub, ev_add, ev_addI, ev_neg, ev_lt, ev_le, ev_gt, ev_ge, ev_truB, ev_truI, ev_truL, ev_intI, ev_intB, ev_lenL, ev_lenT, ev_tupL, ev_tupT, ev_lstL, ev_lstT, ev_seqL, ev_seqT, ev_eqI, ev_neI, ev_eqB, ev_neB, ev_fnc0, ev_fnc1, ev_turnR]
      rw [M.all_bind]
      refine (function_all n n6).mono fun p ⟨u, hu, e⟩ => ?_
      subst e
      have it0 : pItem (.tup (tab (2 ^ n) u)) (.int 0) = .ret (.int (u 0)) := ev_tab (x := 0) (Nat.two_pow_pos n)
      have sn : small (n : Int) = true := small_nat (by omega)
      have sn2 : small (2 * (n : Int)) = true := small_of (by omega) (by omega)
      have half : BF.chs n u = 2 * BF.S n fun i => BF.C (2 ^ n) fun x => !x.testBit i && decide (u x ≠ u (x ^^^ 2 ^ i)) := by
        rw [← BF.S_mul]
        exact BF.S_congr fun i hi => BF.ch_half hi
      have most : ¬ (2 * (n : Int) * min (BF.S (2 ^ n) u) (((2 ^ n : Nat) : Int) - BF.S (2 ^ n) u) < BF.chs n u) := by
        have := BF.S_le_const (f := fun i => BF.ch n u i) (n := n) (2 * min (BF.S (2 ^ n) u) (((2 ^ n : Nat) : Int) - BF.S (2 ^ n) u)) fun i hi => by
          have a := BF.ch_le_ones hu hi
          have b := BF.ch_le_zeros hu hi
          push_cast
          show BF.ch n u i ≤ _
          omega
        have e2 : (BF.S n fun i => BF.ch n u i) = BF.chs n u := rfl
        rw [e2, ← Int.mul_assoc, Int.mul_comm (n : Int) 2] at this
        omega
      have steps := BF.all_steps hu
      simp only [ev_bind, ap0_eq, ap1_eq, ap2_eq, ap3_eq, ev_sub, ev_add, ev_addI, ev_neg, ev_lt, ev_le, ev_gt, ev_ge, ev_truB, ev_truI, ev_truL, ev_intI, ev_intB, ev_lenL, ev_lenT, ev_tupL, ev_tupT, ev_lstL, ev_lstT, ev_seqL, ev_seqT, ev_eqI, ev_neI, ev_eqB, ev_neB, ev_fnc0, ev_fnc1, ev_turnR, all_changes_ev n u n20, sumF, ev_min2, ev_mulL 2 _ (by decide), ev_mulL _ _ sn2, ev_mulL _ _ sn, decide_eq_false most, ev_mOr, Bool.false_eq_true, if_false, ev_divP _ 2 (by decide) (by decide), ev_mulR _ 2 (by decide), it0]
      have half2 : BF.chs n u / 2 * 2 = BF.chs n u := by omega
      simp only [half2, d0, ev_bind, ap0_eq, ap1_eq, ap2_eq, ap3_eq, ev_sub, ev_add, ev_addI, ev_neg, ev_lt, ev_le, ev_gt, ev_ge, ev_truB, ev_truI, ev_truL, ev_intI, ev_intB, ev_lenL, ev_lenT, ev_tupL, ev_tupT, ev_lstL, ev_lstT, ev_seqL, ev_seqT, ev_eqI, ev_neI, ev_eqB, ev_neB, ev_fnc0, ev_fnc1, ev_turnR, Bool.false_eq_true, if_false]
      rw [ev_compL (α := Nat) _ _ (fun x => decide (u x ≠ (u 0 + BF.ones n x) % 2)) (fun x => .int (x : Nat)) _ fun x hx => by
        have hx := List.mem_range.mp hx
        simp only [ev_bind, ap0_eq, ap1_eq, ap2_eq, ap3_eq, ev_sub, ev_add, ev_addI, ev_neg, ev_lt, ev_le, ev_gt, ev_ge, ev_truB, ev_truI, ev_truL, ev_intI, ev_intB, ev_lenL, ev_lenT, ev_tupL, ev_tupT, ev_lstL, ev_lstT, ev_seqL, ev_seqT, ev_eqI, ev_neI, ev_eqB, ev_neB, ev_fnc0, ev_fnc1, ev_turnR, ev_tab hx, law_ones_ev, ev_divP _ 2 (by decide) (by decide), ev_mulR _ 2 (by decide), ev_xor, bx01 _ _ (hu 0 (Nat.two_pow_pos n)), ones_low (show n ≤ 9 by omega) hx]]
      simp only [ev_bind, ap0_eq, ap1_eq, ap2_eq, ap3_eq, ev_sub, ev_add, ev_addI, ev_neg, ev_lt, ev_le, ev_gt, ev_ge, ev_truB, ev_truI, ev_truL, ev_intI, ev_intB, ev_lenL, ev_lenT, ev_tupL, ev_tupT, ev_lstL, ev_lstT, ev_seqL, ev_seqT, ev_eqI, ev_neI, ev_eqB, ev_neB, ev_fnc0, ev_fnc1, ev_turnR, ev_eqNil, BF.filter_isEmpty, ev_vOr]
      have fine : decide (BF.chs n u = (n : Int) * ((2 ^ n : Nat) : Int)) = (decide (∀ x, x < 2 ^ n → decide (u x ≠ (u 0 + BF.ones n x) % 2) = false) || decide ((n : Int) = 0)) := by
        rw [← Bool.decide_or]
        refine decide_eq_decide.mpr ?_
        rw [show ((2 ^ n : Nat) : Int) = 2 ^ n by push_cast; rfl, steps]
        constructor
        · intro h
          exact .inl fun x hx => decide_eq_false fun c => c (h x hx)
        · rintro (h | h)
          · intro x hx
            have := of_decide_eq_false (h x hx)
            exact Classical.not_not.mp this
          · have n0 : n = 0 := by omega
            subst n0
            intro x hx
            have x0 : x = 0 := by
              have : (2 : Nat) ^ 0 = 1 := rfl
              omega
            subst x0
            rw [BF.ones_zero]
            rcases hu 0 (by decide) with a | a <;> rw [a] <;> rfl
      rw [fine]
      generalize decide (∀ x, x < 2 ^ n → decide (u x ≠ (u 0 + BF.ones n x) % 2) = false) = E
      generalize decide ((n : Int) = 0) = Z
      have or : (if E = true then M.ret (PV.bl true) else M.ret (PV.bl Z)) = M.ret (PV.bl (E || Z)) := by cases E <;> rfl
      rw [or]
      have bb : ((E || Z) != (E || Z)) = false := by cases E <;> cases Z <;> rfl
      simp only [ev_bind, ap0_eq, ap1_eq, ap2_eq, ap3_eq, ev_sub, ev_add, ev_addI, ev_neg, ev_lt, ev_le, ev_gt, ev_ge, ev_truB, ev_truI, ev_truL, ev_intI, ev_intB, ev_lenL, ev_lenT, ev_tupL, ev_tupT, ev_lstL, ev_lstT, ev_seqL, ev_seqT, ev_eqI, ev_neI, ev_eqB, ev_neB, ev_fnc0, ev_fnc1, ev_turnR, bb, Bool.false_eq_true, if_false]
      rw [M.all_bind]
      refine (pick_all (by omega)).mono fun p ⟨r, e, hr⟩ => ?_
      subst e
      have r64 : r < 64 := by omega
      simp only [ev_bind, ap0_eq, ap1_eq, ap2_eq, ap3_eq, ev_sub, ev_add, ev_addI, ev_neg, ev_lt, ev_le, ev_gt, ev_ge, ev_truB, ev_truI, ev_truL, ev_intI, ev_intB, ev_lenL, ev_lenT, ev_tupL, ev_tupT, ev_lstL, ev_lstT, ev_seqL, ev_seqT, ev_eqI, ev_neI, ev_eqB, ev_neB, ev_fnc0, ev_fnc1, ev_turnR, input_sum_ev r r64, law_ones_ev, d0, Bool.false_eq_true, if_false, M.all_ret]
    · intro a ha
      obtain ⟨x, hx, rfl⟩ := List.mem_map.mp ha
      have hx := List.mem_range.mp hx
      simp only [ev_bind, ap0_eq, ap1_eq, ap2_eq, ap3_eq, ev_sub, ev_add, ev_addI, ev_neg, ev_lt, ev_le, ev_gt, ev_ge, ev_truB, ev_truI, ev_truL, ev_intI, ev_intB, ev_lenL, ev_lenT, ev_tupL, ev_tupT, ev_lstL, ev_lstT, ev_seqL, ev_seqT, ev_eqI, ev_neI, ev_eqB, ev_neB, ev_fnc0, ev_fnc1, ev_turnR, ev_xorN, ev_tab (Nat.xor_lt_two_pow hx hm), ev_tab hx, d0]
      rfl
  · intro p hp
    obtain ⟨t, ht, e⟩ := e4 p hp
    subst e
    have r := rises_ev k t (by omega) ht
    unfold fnc at r
    simp only [ev_bind, ap0_eq, ap1_eq, ap2_eq, ap3_eq, ev_sub, ev_add, ev_addI, ev_neg, ev_lt, ev_le, ev_gt, ev_ge, ev_truB, ev_truI, ev_truL, ev_intI, ev_intB, ev_lenL, ev_lenT, ev_tupL, ev_tupT, ev_lstL, ev_lstT, ev_seqL, ev_seqT, ev_eqI, ev_neI, ev_eqB, ev_neB, ev_fnc0, ev_fnc1, ev_turnR, r, ev_mNot]
    rfl
end K

open PySem PySem.W PyProof.Rows
set_option maxRecDepth 100000 in
set_option maxHeartbeats 0 in
theorem PySem.Challenge.cw_bitsasked_k39_whole_changes_of_rising_fu_holds : PySem.Challenge.rw_bitsasked_k39_whole_changes_of_rising_fu.Holds := by
  w_on; o_law; k_head; (case hw => w_witness2)
  k_fill
  refine K.walk (l := PySem.Challenge.rw_bitsasked_k39_whole_changes_of_rising_fu) rfl rfl (fun w h Y => PySem.W.kIn_of Y) ?F
  case F =>
    intro w mg fa h KX G hmg
    refine' K.all_mk K.holds KX G hmg ?a1 ?l1 ?c1 ?k1 ?a2 ?l2 ?c2 ?k2 ?a3 ?l3 ?c3 ?k3 ?a4 ?l4 ?c4 ?k4 ?a5 ?l5 ?c5 ?k5 ?a6 ?l6 ?c6 ?k6 ?a7 ?l7 ?c7 ?k7 ?a8 ?l8 ?c8 ?k8 ?a9 ?l9 ?c9 ?k9 ?a10 ?l10 ?c10 ?k10 ?a11 ?l11 ?c11 ?k11 ?a12 ?l12 ?c12 ?k12 ?a13 ?l13 ?c13 ?k13 ?a14 ?l14 ?c14 ?k14 ?a15 ?l15 ?c15 ?k15 ?a16 ?l16 ?c16 ?k16 ?a17 ?l17 ?c17 ?k17 ?a18 ?l18 ?c18 ?k18 ?a19 ?l19 ?c19 ?k19 ?a20 ?l20 ?c20 ?k20 ?a21 ?l21 ?c21 ?k21 ?z1 ?z2 ?z3 ?z4 ?z5 ?z6 ?z7 ?z8 ?z9
    (case a1 => k_is); (case l1 => k_is); (case c1 => k_is); (case k1 => k_is)
    (case a2 => k_is); (case l2 => k_is); (case c2 => k_is); (case k2 => k_is)
    (case a3 => k_is); (case l3 => k_is); (case c3 => k_is); (case k3 => k_is)
    (case a4 => k_is); (case l4 => k_is); (case c4 => k_is); (case k4 => k_is)
    (case a5 => k_is); (case l5 => k_is); (case c5 => k_is); (case k5 => k_is)
    (case a6 => k_is); (case l6 => k_is); (case c6 => k_is); (case k6 => k_is)
    (case a7 => k_is); (case l7 => k_is); (case c7 => k_is); (case k7 => k_is)
    (case a8 => k_is); (case l8 => k_is); (case c8 => k_is); (case k8 => k_is)
    (case a9 => k_is); (case l9 => k_is); (case c9 => k_is); (case k9 => k_is)
    (case a10 => k_is); (case l10 => k_is); (case c10 => k_is); (case k10 => k_is)
    (case a11 => k_is); (case l11 => k_is); (case c11 => k_is); (case k11 => k_is)
    (case a12 => k_is); (case l12 => k_is); (case c12 => k_is); (case k12 => k_is)
    (case a13 => k_is); (case l13 => k_is); (case c13 => k_is); (case k13 => k_is)
    (case a14 => k_is); (case l14 => k_is); (case c14 => k_is); (case k14 => k_is)
    (case a15 => k_is); (case l15 => k_is); (case c15 => k_is); (case k15 => k_is)
    (case a16 => k_is); (case l16 => k_is); (case c16 => k_is); (case k16 => k_is)
    (case a17 => k_is); (case l17 => k_is); (case c17 => k_is); (case k17 => k_is)
    (case a18 => k_is); (case l18 => k_is); (case c18 => k_is); (case k18 => k_is)
    (case a19 => k_is); (case l19 => k_is); (case c19 => k_is); (case k19 => k_is)
    (case a20 => k_is); (case l20 => k_is); (case c20 => k_is); (case k20 => k_is)
    (case a21 => k_is); (case l21 => k_is); (case c21 => k_is); (case k21 => k_is)
    (case z1 => k_is); (case z2 => k_is); (case z3 => k_is); (case z4 => k_is); (case z5 => k_is); (case z6 => k_is); (case z7 => k_is); (case z8 => k_is); (case z9 => k_is)
#print axioms PySem.Challenge.cw_bitsasked_k39_whole_changes_of_rising_fu_holds
