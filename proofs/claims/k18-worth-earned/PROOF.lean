import PyProof.Rows.All
import Wide.All
import OpenK.AllK
import Wide.FinOn
import HandS.ForMost
import HandS.TupAny
import HandS.TupLe
import HandS.Deep
import HandS.Conv
import KE.SortData
import KE.DataCmp
import HandS.Zip
import HandS.Wide
import HandS.IsInst
import HandS.Style
import HandS.Strs
import PySem.Challenge.RW_worksplanned_k18_worth_earned
set_option Elab.async false
set_option linter.all false
set_option maxRecDepth 100000
set_option maxHeartbeats 4000000
/-! The walk over data: values by what they stand for, statements by what they do to names. -/
namespace Wp
open PySem PySem.Spec PyProof.Rows L2

abbrev D := PyData

/-! ### what a run may give: a wish is granted for all outcomes -/
abbrev M (α : Type) := (α → Prop) → Prop
namespace M
variable {α β : Type}
def pure (a : α) : M α := fun P => P a
def bind (m : M α) (k : α → M β) : M β := fun P => m fun x => k x P
def fail : M α := fun _ => False
def opt (o : Option α) : M α := fun P => ∃ x, o = some x ∧ P x
def need (c : Prop) (m : M α) : M α := fun P => c ∧ m P
def draw (n : Int) : M D := fun P => 0 < n ∧ ∀ r : Int, 0 ≤ r → r < n → P (.int r)
def mapM (f : α → M β) : List α → M (List β)
  | [] => pure []
  | x :: xs => bind (f x) fun y => bind (mapM f xs) fun ys => pure (y :: ys)
def filM (f : α → M (Option β)) : List α → M (List β)
  | [] => pure []
  | x :: xs => bind (f x) fun o => bind (filM f xs) fun ys => pure (match o with | some y => y :: ys | none => ys)
def fold {σ : Type} (f : σ → α → M σ) : σ → List α → M σ
  | s, [] => pure s
  | s, x :: xs => bind (f s x) fun s' => fold f s' xs
end M

/-- how a block ends -/
inductive Fl (α β : Type) where
  | nx (a : α) | rt (d : D) | bk (b : β) | ct (b : β)
def M.foldF {α σ : Type} (f : σ → α → M (Fl σ σ)) : σ → List α → M (Fl σ Empty)
  | s, [] => M.pure (.nx s)
  | s, x :: xs => M.bind (f s x) fun r => match r with
    | .nx s' => M.foldF f s' xs
    | .ct s' => M.foldF f s' xs
    | .bk s' => M.pure (.nx s')
    | .rt d => M.pure (.rt d)
/-- n turns of a while at most -/
def M.iter {σ : Type} (c : σ → M Bool) (f : σ → M σ) : Nat → σ → M σ
  | 0, _ => M.fail
  | n + 1, s => M.bind (c s) fun b => bif b then M.bind (f s) fun s' => M.iter c f n s' else M.pure s
def M.while_ {σ : Type} (c : σ → M Bool) (f : σ → M σ) (s : σ) : M σ := fun P => ∃ n, M.iter c f n s P

/-! ### keys -/
def keyD : Key → D
  | .inl i => .int i
  | .inr x => .str x
def keyT (k : List Key) : D := .tuple (k.map keyD)

/-! ### what stands for a datum -/
mutual
inductive Rp (K : PySem.W.Frag) (G : Hp) : V → D → Prop
  | non : Rp K G .non .none
  | bl (b : Bool) : Rp K G (.bl b) (.bool b)
  | int (i : Int) : Rp K G (.int i) (.int i)
  | str (x : Str) : Rp K G (.str x) (.str x)
  | lst {a : Addr} {xs : List V} {ds : List D} : Rd G a (.lst xs) → RpA K G xs ds → ds.length ≤ sizeLine → Rp K G (.ref a) (.list ds)
  | tup {a : Addr} {xs : List V} {ds : List D} : SqT K G a xs → RpA K G xs ds → ds.length ≤ sizeLine → Rp K G (.ref a) (.tuple ds)
  | dK {a : Addr} {kvs : List (Key × V)} {es : List (D × D)} : G a = some (.dK kvs) → RpK K G kvs es → es.length ≤ sizeLine → Rp K G (.ref a) (.dict es)
  | dT {a : Addr} {kvs : List (List Key × V)} {es : List (D × D)} : G a = some (.dT kvs) → RpT K G kvs es → es.length < sizeLine → Rp K G (.ref a) (.dict ((.none, .none) :: es))
inductive RpA (K : PySem.W.Frag) (G : Hp) : List V → List D → Prop
  | nil : RpA K G [] []
  | cons {v : V} {vs : List V} {d : D} {ds : List D} : Rp K G v d → RpA K G vs ds → RpA K G (v :: vs) (d :: ds)
inductive RpK (K : PySem.W.Frag) (G : Hp) : List (Key × V) → List (D × D) → Prop
  | nil : RpK K G [] []
  | cons {k : Key} {v : V} {vs : List (Key × V)} {d : D} {ds : List (D × D)} : Rp K G v d → RpK K G vs ds → RpK K G ((k, v) :: vs) ((keyD k, d) :: ds)
inductive RpT (K : PySem.W.Frag) (G : Hp) : List (List Key × V) → List (D × D) → Prop
  | nil : RpT K G [] []
  | cons {k : List Key} {v : V} {vs : List (List Key × V)} {d : D} {ds : List (D × D)} : Rp K G v d → RpT K G vs ds → RpT K G ((k, v) :: vs) ((keyT k, d) :: ds)
end

/-- what may be read in the one may be read in the other -/
def Le (G H : Hp) : Prop := ∀ a u, Rd G a u → Rd H a u
theorem Le.refl (G : Hp) : Le G G := fun _ _ h => h
theorem Le.trans {A B C : Hp} (h : Le A B) (k : Le B C) : Le A C := fun a u q => k a u (h a u q)
theorem Le.of_same {G H : Hp} (s : Same G H) : Le G H := fun a u h => by
  rcases h with h | ⟨o, h⟩
  · exact .inl (s _ _ h)
  · exact .inr ⟨o, s _ _ h⟩
theorem Le.sqL {K : PySem.W.Frag} {G H : Hp} {a : Addr} {xs : List V} (l : Le G H) (h : SqL K G a xs) : SqL K H a xs := by
  rcases h with h | h
  · exact .inl (l _ _ h)
  · exact .inr h
theorem Le.sqT {K : PySem.W.Frag} {G H : Hp} {a : Addr} {xs : List V} (l : Le G H) (h : SqT K G a xs) : SqT K H a xs := by
  rcases h with h | h
  · exact .inl (l _ _ h)
  · exact .inr h
theorem Le.none {G H : Hp} {a : Addr} (l : Le G H) (h : H a = none) : G a = none := by
  cases q : G a with
  | none => rfl
  | some u =>
    rcases l a u (.inl q) with r | ⟨o, r⟩ <;> (rw [h] at r; cases r)

section
variable {K : PySem.W.Frag} {G H : Hp}
mutual
theorem Rp.le (l : Same G H) : ∀ (d : D) {v : V}, Rp K G v d → Rp K H v d
  | .none, _, .non => .non
  | .bool _, _, .bl b => .bl b
  | .int _, _, .int i => .int i
  | .str _, _, .str x => .str x
  | .list ds, _, .lst s a z => .lst ((Le.of_same l) _ _ s) (RpA.le l ds a) z
  | .tuple ds, _, .tup s a z => .tup ((Le.of_same l).sqT s) (RpA.le l ds a) z
  | .dict es, _, .dK s a z => .dK (l _ _ s) (RpK.le l es a) z
  | .dict (_ :: es), _, .dT s a z => .dT (l _ _ s) (RpT.le l es a) z
theorem RpA.le (l : Same G H) : ∀ (ds : List D) {vs : List V}, RpA K G vs ds → RpA K H vs ds
  | [], _, .nil => .nil
  | d :: ds, _, .cons h t => .cons (Rp.le l d h) (RpA.le l ds t)
theorem RpK.le (l : Same G H) : ∀ (ds : List (D × D)) {vs : List (Key × V)}, RpK K G vs ds → RpK K H vs ds
  | [], _, .nil => .nil
  | (_, d) :: ds, _, .cons h t => .cons (Rp.le l d h) (RpK.le l ds t)
theorem RpT.le (l : Same G H) : ∀ (ds : List (D × D)) {vs : List (List Key × V)}, RpT K G vs ds → RpT K H vs ds
  | [], _, .nil => .nil
  | (_, d) :: ds, _, .cons h t => .cons (Rp.le l d h) (RpT.le l ds t)
end
theorem RpA.length : ∀ {vs : List V} {ds : List D}, RpA K G vs ds → vs.length = ds.length
  | _, _, .nil => rfl
  | _, _, .cons _ t => congrArg (· + 1) t.length
theorem RpA.get : ∀ {vs : List V} {ds : List D} {i : Nat} {v : V}, RpA K G vs ds → vs[i]? = some v → ∃ d, ds[i]? = some d ∧ Rp K G v d
  | _, _, _, _, .nil, e => by simp at e
  | _, _, 0, _, .cons r _, e => by simp at e; subst e; exact ⟨_, rfl, r⟩
  | _, _, i + 1, v, .cons _ t, e => by
    obtain ⟨d, h1, h2⟩ := t.get (i := i) (v := v) (by simpa using e)
    exact ⟨d, by simpa using h1, h2⟩
theorem RpA.getD : ∀ {vs : List V} {ds : List D} {i : Nat} {d : D}, RpA K G vs ds → ds[i]? = some d → ∃ v, vs[i]? = some v ∧ Rp K G v d
  | _, _, _, _, .nil, e => by simp at e
  | _, _, 0, _, .cons r _, e => by simp at e; subst e; exact ⟨_, rfl, r⟩
  | _, _, i + 1, v, .cons _ t, e => by
    obtain ⟨d, h1, h2⟩ := t.getD (i := i) (d := v) (by simpa using e)
    exact ⟨d, by simpa using h1, h2⟩
theorem RpA.append : ∀ {vs ws : List V} {ds es : List D}, RpA K G vs ds → RpA K G ws es → RpA K G (vs ++ ws) (ds ++ es)
  | _, _, _, _, .nil, s => s
  | _, _, _, _, .cons r t, s => .cons r (t.append s)
theorem RpA.take : ∀ {vs : List V} {ds : List D} (n : Nat), RpA K G vs ds → RpA K G (vs.take n) (ds.take n)
  | _, _, 0, _ => by simpa using RpA.nil
  | _, _, _ + 1, .nil => .nil
  | _, _, n + 1, .cons r t => .cons r (t.take n)
theorem RpA.drop : ∀ {vs : List V} {ds : List D} (n : Nat), RpA K G vs ds → RpA K G (vs.drop n) (ds.drop n)
  | _, _, 0, r => r
  | _, _, _ + 1, .nil => .nil
  | _, _, n + 1, .cons _ t => t.drop n
theorem RpA.set {v : V} {d : D} (r : Rp K G v d) : ∀ {vs : List V} {ds : List D} (n : Nat), RpA K G vs ds → RpA K G (vs.set n v) (ds.set n d)
  | _, _, _, .nil => .nil
  | _, _, 0, .cons _ t => .cons r t
  | _, _, n + 1, .cons q t => .cons q (RpA.set r n t)
end

/-- the parts of an object that is one's own -/
inductive RpO (K : PySem.W.Frag) (G : Hp) : HO → D → Prop
  | lst {xs : List V} {ds : List D} : RpA K G xs ds → ds.length ≤ sizeLine → RpO K G (.lst xs) (.list ds)
  | dK {kvs : List (Key × V)} {es : List (D × D)} : RpK K G kvs es → es.length ≤ sizeLine → RpO K G (.dK kvs) (.dict es)
  | dT {kvs : List (List Key × V)} {es : List (D × D)} : RpT K G kvs es → es.length < sizeLine → RpO K G (.dT kvs) (.dict ((.none, .none) :: es))
theorem RpO.le {K : PySem.W.Frag} {G G' : Hp} (l : Same G G') {u : HO} {d : D} (h : RpO K G u d) : RpO K G' u d := by
  cases h with
  | lst a z => exact .lst (a.le l) z
  | dK a z => exact .dK (a.le l) z
  | dT a z => exact .dT (a.le l) z

/-! ### the state -/
/-- the dict that the draws come from -/
def drwO (vd : V) (at_ : Int) : HO := .dK [(.inr ("draws" : Str), vd), (.inr ("at" : Str), .int at_)]
structure DrawOk (K : PySem.W.Frag) (G H : Hp) (o : Addr) : Prop where
  g : G o = none
  h : ∃ (vd : V) (ds : List Int) (at_ : Int), H o = some (drwO vd at_) ∧ Rp K G vd (.list (ds.map .int)) ∧ 0 ≤ at_
/-- how the known and the whole heap may grow -/
structure Ext (ω : Option Addr) (K : PySem.W.Frag) (G H G' H' : Hp) : Prop where
  gg : Same G G'
  hh : ∀ a u, some a ≠ ω → H a = some u → H' a = some u
  le : Le G' H'
  fr : ∀ a u, H a = some u → G a = none → G' a = none
  dr : ∀ o, ω = some o → DrawOk K G' H' o
section
variable {ω : Option Addr} {K : PySem.W.Frag} {G H G' H' G1 H1 G2 H2 : Hp}
theorem Ext.trans (a : Ext ω K G H G1 H1) (b : Ext ω K G1 H1 G2 H2) : Ext ω K G H G2 H2 where
  gg := a.gg.trans b.gg
  hh := fun x u n h => b.hh x u n (a.hh x u n h)
  le := b.le
  fr := fun x u h n => by
    by_cases e : some x = ω
    · obtain ⟨_, _, _, _, h', _⟩ := a.dr x e.symm
      exact b.fr x _ h' (a.fr x u h n)
    · exact b.fr x u (a.hh x u e h) (a.fr x u h n)
  dr := b.dr
theorem Ext.self (a : Ext ω K G H G1 H1) : Ext ω K G1 H1 G1 H1 := ⟨Same.refl _, fun _ _ _ h => h, a.le, fun _ _ _ h => h, a.dr⟩
/-- a new object, frozen at once -/
theorem Ext.new {p : Addr} {o : HO} (a : Ext ω K G H G H) (n : H p = none) : Ext ω K G H (upd G p o) (upd H p o) where
  gg := fun b u e => by rw [upd_ne (ne_of_none e (a.le.none n))]; exact e
  hh := fun b u _ e => by rw [upd_ne (ne_of_none e n)]; exact e
  le := fun b u e => by
    by_cases hb : b = p
    · subst hb
      rcases e with e | ⟨q, e⟩
      · rw [upd_same] at e; exact .inl (by rw [upd_same]; exact e)
      · rw [upd_same] at e; exact .inr ⟨q, by rw [upd_same]; exact e⟩
    · have e' : Rd G b u := by
        rcases e with e | ⟨q, e⟩
        · rw [upd_ne hb] at e; exact .inl e
        · rw [upd_ne hb] at e; exact .inr ⟨q, e⟩
      rcases a.le b u e' with r | ⟨q, r⟩
      · exact .inl (by rw [upd_ne hb]; exact r)
      · exact .inr ⟨q, by rw [upd_ne hb]; exact r⟩
  fr := fun b u e h => by rw [upd_ne (ne_of_none e n)]; exact h
  dr := fun b e => by
    obtain ⟨g, vd, ds, at_, h1, h2, h3⟩ := a.dr b e
    have hb : b ≠ p := ne_of_none h1 n
    refine ⟨by rw [upd_ne hb]; exact g, vd, ds, at_, by rw [upd_ne hb]; exact h1, h2.le ?_, h3⟩
    exact fun c u e => by rw [upd_ne (ne_of_none e (a.le.none n))]; exact e
/-- a new object, not frozen -/
theorem Ext.lay {p : Addr} {o : HO} (a : Ext ω K G H G H) (n : H p = none) : Ext ω K G H G (upd H p o) where
  gg := Same.refl _
  hh := fun b u _ e => by rw [upd_ne (ne_of_none e n)]; exact e
  le := fun b u e => by
    rcases a.le b u e with r | ⟨q, r⟩
    · exact .inl (by rw [upd_ne (ne_of_none r n)]; exact r)
    · exact .inr ⟨q, by rw [upd_ne (ne_of_none r n)]; exact r⟩
  fr := fun b u e h => h
  dr := fun b e => by
    obtain ⟨g, vd, ds, at_, h1, h2, h3⟩ := a.dr b e
    exact ⟨g, vd, ds, at_, by rw [upd_ne (ne_of_none h1 n)]; exact h1, h2, h3⟩
end

/-- what a name holds -/
inductive Ct where
  | val (d : D) | own (d : D) | drw | scr (ns : List Int)
abbrev En := List (Option Ct)
def CtOk (ω : Option Addr) (K : PySem.W.Frag) (H0 G H : Hp) : Ct → V → Prop
  | .val d, v => Rp K G v d
  | .own d, v => ∃ o u, v = .ref o ∧ some o ≠ ω ∧ H o = some u ∧ G o = none ∧ H0 o = none ∧ RpO K G u d
  | .drw, v => ∃ o, v = .ref o ∧ ω = some o
  | .scr ns, v => ∃ a, v = .ref a ∧ SqL K G a (ns.map V.int)
structure EnvOk (ω : Option Addr) (K : PySem.W.Frag) (G0 H0 : Hp) (Γ : En) (σ : L2.St) (G H : Hp) : Prop where
  ext : Ext ω K G0 H0 G H
  ln : σ.length = Γ.length
  sl : ∀ (i : Nat) c, Γ[i]? = some (some c) → ∃ v, σ[i]? = some (some v) ∧ CtOk ω K H0 G H c v
  ds : ∀ (i j : Nat) d e v, Γ[i]? = some (some (.own d)) → Γ[j]? = some (some (.own e)) → σ[i]? = some (some v) → σ[j]? = some (some v) → i = j
section
variable {ω : Option Addr} {K : PySem.W.Frag} {G0 H0 G H G' H' : Hp} {Γ Γ' : En} {σ σ' : L2.St}
theorem CtOk.ext {c : Ct} {v : V} (h : CtOk ω K H0 G H c v) (e : Ext ω K G H G' H') : CtOk ω K H0 G' H' c v := by
  cases c with
  | val d => exact Rp.le (e.gg) d h
  | own d =>
    obtain ⟨o, u, h1, h2, h3, h4, h5, h6⟩ := h
    exact ⟨o, u, h1, h2, e.hh o u h2 h3, e.fr o u h3 h4, h5, h6.le (e.gg)⟩
  | drw => exact h
  | scr ns => obtain ⟨a, h1, h2⟩ := h; exact ⟨a, h1, (Le.of_same e.gg).sqL h2⟩
theorem EnvOk.step (E : EnvOk ω K G0 H0 Γ σ G H) (e : Ext ω K G H G' H') : EnvOk ω K G0 H0 Γ σ G' H' :=
  ⟨E.ext.trans e, E.ln, fun i c h => let ⟨v, h1, h2⟩ := E.sl i c h; ⟨v, h1, h2.ext e⟩, E.ds⟩
theorem EnvOk.self (E : EnvOk ω K G0 H0 Γ σ G H) : Ext ω K G H G H := E.ext.self
theorem getElem?_set_some {α : Type} {l : List (Option α)} {i j : Nat} {x : Option α} {c : α} (h : (l.set i x)[j]? = some (some c)) : (j = i ∧ x = some c ∧ i < l.length) ∨ (j ≠ i ∧ l[j]? = some (some c)) := by
  by_cases e : j = i
  · subst e
    by_cases hi : j < l.length
    · rw [List.getElem?_set_self hi] at h
      exact .inl ⟨rfl, Option.some.inj h, hi⟩
    · rw [List.getElem?_eq_none (by simpa using hi)] at h; cases h
  · rw [List.getElem?_set_ne (Ne.symm e)] at h
    exact .inr ⟨e, h⟩
/-- a name is stored -/
theorem EnvOk.put (E : EnvOk ω K G0 H0 Γ σ G H) {i : Nat} {v : V} {c : Ct} (hc : CtOk ω K H0 G H c v) (hd : ∀ d, c = .own d → ∀ j e, j ≠ i → Γ[j]? = some (some (.own e)) → σ[j]? ≠ some (some v)) :
    EnvOk ω K G0 H0 (Γ.set i (some c)) (σ.set i (some v)) G H where
  ext := E.ext
  ln := by simpa using E.ln
  sl := fun j c' h => by
    rcases getElem?_set_some h with ⟨rfl, e, hi⟩ | ⟨e, h⟩
    · cases e
      exact ⟨v, by rw [List.getElem?_set_self (by rw [E.ln]; exact hi)], hc⟩
    · obtain ⟨v', h1, h2⟩ := E.sl j c' h
      exact ⟨v', by rw [List.getElem?_set_ne (Ne.symm e)]; exact h1, h2⟩
  ds := fun a b d e w ha hb sa sb => by
    rcases getElem?_set_some ha with ⟨rfl, ea, hi⟩ | ⟨na, ha'⟩
    · cases ea
      rcases getElem?_set_some hb with ⟨rfl, _, _⟩ | ⟨nb, hb⟩
      · rfl
      · rw [List.getElem?_set_self (by rw [E.ln]; exact hi)] at sa
        rw [List.getElem?_set_ne (Ne.symm nb)] at sb
        cases sa
        exact absurd sb (hd d rfl b e nb hb)
    · rcases getElem?_set_some hb with ⟨rfl, eb, hi⟩ | ⟨nb, hb'⟩
      · cases eb
        rw [List.getElem?_set_self (by rw [E.ln]; exact hi)] at sb
        rw [List.getElem?_set_ne (Ne.symm na)] at sa
        cases sb
        exact absurd sa (hd e rfl a d na ha')
      · rw [List.getElem?_set_ne (Ne.symm na)] at sa
        rw [List.getElem?_set_ne (Ne.symm nb)] at sb
        exact E.ds a b d e w ha' hb' sa sb
theorem EnvOk.putV (E : EnvOk ω K G0 H0 Γ σ G H) {i : Nat} {v : V} {d : D} (hc : Rp K G v d) : EnvOk ω K G0 H0 (Γ.set i (some (.val d))) (σ.set i (some v)) G H :=
  E.put (c := .val d) hc fun _ e => nomatch e
/-- a name is forgotten -/
theorem EnvOk.wipe1 (E : EnvOk ω K G0 H0 Γ σ G H) (i : Nat) : EnvOk ω K G0 H0 (Γ.set i none) (σ.set i none) G H where
  ext := E.ext
  ln := by simpa using E.ln
  sl := fun j c' h => by
    rcases getElem?_set_some h with ⟨rfl, e, hi⟩ | ⟨e, h⟩
    · cases e
    · obtain ⟨v', h1, h2⟩ := E.sl j c' h
      exact ⟨v', by rw [List.getElem?_set_ne (Ne.symm e)]; exact h1, h2⟩
  ds := fun a b d e w ha hb sa sb => by
    rcases getElem?_set_some ha with ⟨rfl, ea, hi⟩ | ⟨na, ha⟩
    · cases ea
    · rcases getElem?_set_some hb with ⟨rfl, eb, hi⟩ | ⟨nb, hb⟩
      · cases eb
      · rw [List.getElem?_set_ne (Ne.symm na)] at sa
        rw [List.getElem?_set_ne (Ne.symm nb)] at sb
        exact E.ds a b d e w ha hb sa sb
def wipeE (Γ : En) : List Nat → En
  | [] => Γ
  | v :: vs => (wipeE Γ vs).set v none
theorem EnvOk.wipe (E : EnvOk ω K G0 H0 Γ σ G H) : ∀ vs : List Nat, EnvOk ω K G0 H0 (wipeE Γ vs) (L2.wipe σ vs) G H
  | [] => E
  | v :: vs => (E.wipe vs).wipe1 v
/-- weaker: some names are forgotten -/
def maskE : List Bool → En → En
  | b :: bs, c :: cs => (bif b then c else none) :: maskE bs cs
  | _, _ => []
theorem maskE_get : ∀ {bs : List Bool} {Γ : En} {i : Nat} {c : Ct}, (maskE bs Γ)[i]? = some (some c) → Γ[i]? = some (some c)
  | [], _, _, _, h => by simp [maskE] at h
  | _ :: _, [], _, _, h => by simp [maskE] at h
  | b :: bs, x :: cs, 0, c, h => by
    cases b
    · simp [maskE] at h
    · simpa [maskE] using h
  | b :: bs, x :: cs, i + 1, c, h => by
    have h' : (maskE bs cs)[i]? = some (some c) := by simpa [maskE] using h
    simpa using maskE_get h'
theorem EnvOk.weak (E : EnvOk ω K G0 H0 Γ σ G H) (hl : Γ'.length = Γ.length) (w : ∀ (i : Nat) c, Γ'[i]? = some (some c) → Γ[i]? = some (some c)) : EnvOk ω K G0 H0 Γ' σ G H :=
  ⟨E.ext, by rw [E.ln, hl], fun i c h => E.sl i c (w i c h), fun i j d e v hi hj => E.ds i j d e v (w _ _ hi) (w _ _ hj)⟩
/-- what one owns is frozen -/
theorem EnvOk.freeze (E : EnvOk ω K G0 H0 Γ σ G H) {i : Nat} {d : D} (hi : Γ[i]? = some (some (.own d))) : ∃ G', Same G G' ∧ EnvOk ω K G0 H0 (Γ.set i (some (.val d))) σ G' H := by
  obtain ⟨v, hv, o, u, rfl, ho, hu, hg, h0, hr⟩ := E.sl i _ hi
  have sm : Same G (upd G o u) := fun b w e => by rw [upd_ne (ne_of_none e hg)]; exact e
  have le : Le (upd G o u) H := fun b w e => by
    by_cases hb : b = o
    · subst hb
      rcases e with e | ⟨q, e⟩
      · rw [upd_same] at e; cases e; exact .inl hu
      · rw [upd_same] at e; cases e; cases hr
    · refine E.ext.le b w ?_
      rcases e with e | ⟨q, e⟩
      · rw [upd_ne hb] at e; exact .inl e
      · rw [upd_ne hb] at e; exact .inr ⟨q, e⟩
  have hR : Rp K (upd G o u) (.ref o) d := by
    cases hr with
    | lst a z => exact .lst (.inl upd_same) (a.le (sm)) z
    | dK a z => exact .dK upd_same (a.le (sm)) z
    | dT a z => exact .dT upd_same (a.le (sm)) z
  refine ⟨upd G o u, sm, ⟨E.ext.gg.trans sm, E.ext.hh, le, fun a w e n => ?_, fun b e => ?_⟩, by simpa using E.ln, fun j c h => ?_, fun a b da db w ha hb sa sb => ?_⟩
  · rw [upd_ne (fun z => by rw [z, h0] at e; cases e)]
    exact E.ext.fr a w e n
  · obtain ⟨g, vd, ds, at_, h1, h2, h3⟩ := E.ext.dr b e
    have hb : b ≠ o := fun z => ho (by rw [← z, e])
    exact ⟨by rw [upd_ne hb]; exact g, vd, ds, at_, h1, h2.le (sm), h3⟩
  · rcases getElem?_set_some h with ⟨rfl, e, hl⟩ | ⟨ne, h⟩
    · cases e
      exact ⟨.ref o, hv, hR⟩
    · obtain ⟨v', h1, h2⟩ := E.sl j c h
      refine ⟨v', h1, ?_⟩
      cases c with
      | val e => exact Rp.le (sm) e h2
      | own e =>
        obtain ⟨o', u', rfl, q2, q3, q4, q5, q6⟩ := h2
        refine ⟨o', u', rfl, q2, q3, ?_, q5, q6.le (sm)⟩
        rw [upd_ne (fun z => ne (E.ds j i e d (.ref o) h hi (by rw [← z]; exact h1) hv))]
        exact q4
      | drw => exact h2
      | scr ns => obtain ⟨a, g1, g2⟩ := h2; exact ⟨a, g1, (Le.of_same sm).sqL g2⟩
  · rcases getElem?_set_some ha with ⟨rfl, ea, _⟩ | ⟨_, ha⟩
    · cases ea
    · rcases getElem?_set_some hb with ⟨rfl, eb, _⟩ | ⟨_, hb⟩
      · cases eb
      · exact E.ds a b da db w ha hb sa sb
end
end Wp
namespace Wp
open PySem PySem.Spec PyProof.Rows L2

/-! ### where a piece of the text stands -/
structure Sg where
  P : Program
  w : World
  K : PySem.W.Frag
  mg : Str → Option Value
  base : Heap
  N : List Str
  sc : Scope
  k : Nat
  fn : Str → Bool
structure Sg.Of (S : Sg) (X : Cx) : Prop where
  prog : X.prog = S.P
  w : X.w = S.w
  K : X.K = S.K
  mg : X.mg = S.mg
  base : X.base = S.base
  N : X.N = S.N
  sc : X.env.scope = S.sc
  calm : X.calm = true
  room : Room S.k X.A
  xe : X.xe = fun _ _ => False
  fn : X.fn = S.fn
  nd : S.N.Nodup
abbrev Sg.blk (S : Sg) (scope : Scope) : Sg := { S with sc := relS scope S.sc, fn := fun x => scope.names.lookup x == some .cell }
theorem Sg.Of.blk {S : Sg} {X : Cx} (h : S.Of X) (s : Shared) (H : Hp) (scope : Scope) (C : Addr) (cl : List (Str × Addr)) (fp : List Addr) : (S.blk scope).Of (X.blk s H scope (compEnvC scope cl C X.env) fp) where
  prog := h.prog
  w := h.w
  K := h.K
  mg := h.mg
  base := h.base
  N := h.N
  sc := by show relS scope X.env.scope = relS scope S.sc; rw [h.sc]
  calm := h.calm
  room := h.room
  xe := rfl
  fn := rfl
  nd := h.nd

section
variable (S : Sg)
def RE (e : Expr) : TE := fun σ H Q => ∃ t, (∀ X, S.Of X → PE X e t) ∧ t σ H Q
def RT (e : Expr) : TT := fun σ H Q => ∃ t, (∀ X, S.Of X → PT X e t) ∧ t σ H Q
def RA (es : List Expr) : TA := fun σ H Q => ∃ t, (∀ X, S.Of X → PA X es t) ∧ t σ H Q
def RS (st : List Stmt) : TS := fun D σ H => ∃ t, (∀ X, S.Of X → PSs X st t) ∧ t D σ H
def RG (tg : Expr) : TG := fun v σ H Q => ∃ t, (∀ X, S.Of X → PG X tg t) ∧ t v σ H Q
def RI (tg it : Expr) : TI := fun σ H R => ∃ t, (∀ X, S.Of X → PI X tg it t) ∧ t σ H R
def RTs (es : List Expr) : TT := fun σ H Q => ∃ t, (∀ X, S.Of X → PTs X es t) ∧ t σ H Q
def ROp (f : Value → Value → Sem Value) : R2 := fun x y H Q => ∃ r, (∀ X, S.Of X → OpR X f r) ∧ r x y H Q
def RUn (f : Value → Sem Value) : V → Hp → VK → Prop := fun x H Q => ∃ r, (∀ X, S.Of X → UnR X f r) ∧ r x H Q
def RIx : R2 := fun x y H Q => ∃ r, (∀ X, S.Of X → IxR X r) ∧ r x y H Q
def RCall (f : Value) : List V → Hp → VK → Prop := fun xs H Q => ∃ r, (∀ X, S.Of X → CallR X f r) ∧ r xs H Q
def RMt (id : String) : V → List V → Hp → VK → Prop := fun x xs H Q => ∃ r, (∀ X, S.Of X → MtR X id r) ∧ r x xs H Q
def RSl : V → Option Int → Option Int → Hp → VK → Prop := fun x a b H Q => ∃ r, (∀ X, S.Of X → SlR X r) ∧ r x a b H Q
end
section
variable {S : Sg} {X : Cx} (hX : S.Of X)
include hX
theorem RE.pe (e : Expr) : PE X e (RE S e) := ⟨fun pins s σ H Q I ⟨t, h, q⟩ => (h X hX).run pins s σ H Q I q⟩
theorem RT.pt (e : Expr) : PT X e (RT S e) := ⟨fun pins s σ H Q I ⟨t, h, q⟩ => (h X hX).run pins s σ H Q I q⟩
theorem RA.pa (es : List Expr) : PA X es (RA S es) := ⟨fun pos pins s σ H Q I ⟨t, h, q⟩ => (h X hX).run pos pins s σ H Q I q⟩
theorem RS.ps (st : List Stmt) : PSs X st (RS S st) := ⟨fun pins s σ H D I ⟨t, h, q⟩ => (h X hX).run pins s σ H D I q⟩
theorem RG.pg (e : Expr) : PG X e (RG S e) := ⟨fun pins s σ H v u Q I r ⟨t, h, q⟩ => (h X hX).run pins s σ H v u Q I r q⟩
theorem RI.pi (tg it : Expr) : PI X tg it (RI S tg it) := ⟨fun pins s σ H R I ⟨t, h, q⟩ => (h X hX).run pins s σ H R I q⟩
theorem RTs.pts (es : List Expr) : PTs X es (RTs S es) := ⟨fun pins s σ H Q I ⟨t, h, q⟩ => (h X hX).run pins s σ H Q I q⟩
theorem ROp.op (f : Value → Value → Sem Value) : OpR X f (ROp S f) := fun pins s σ H x y v u Q I rx ry ⟨r, h, q⟩ => h X hX pins s σ H x y v u Q I rx ry q
theorem RUn.un (f : Value → Sem Value) : UnR X f (RUn S f) := fun pins s σ H x v Q I rx ⟨r, h, q⟩ => h X hX pins s σ H x v Q I rx q
theorem RIx.ix : IxR X (RIx S) := fun value slice pins s σ H x y v u Q I rx ry ⟨r, h, q⟩ hs => h X hX value slice pins s σ H x y v u Q I rx ry q hs
theorem RCall.call (f : Value) : CallR X f (RCall S f) := fun pins s σ H xs us Q I rx ⟨r, h, q⟩ => h X hX pins s σ H xs us Q I rx q
theorem RMt.mt (id : String) : MtR X id (RMt S id) := fun pins s σ H x xs v us Q I rx rs ⟨r, h, q⟩ => h X hX pins s σ H x xs v us Q I rx rs q
theorem RSl.sl : SlR X (RSl S) := fun pins s σ H x v vl vu lo hi sl Q I rx hs pl pu ⟨r, h, q⟩ => h X hX pins s σ H x v vl vu lo hi sl Q I rx hs pl pu q
end

/-! ### what a value stands for now -/
/-- its top may be one's own -/
def Rb (ω : Option Addr) (K : PySem.W.Frag) (G H : Hp) (v : V) (d : D) : Prop :=
  Rp K G v d ∨ ∃ o u, v = .ref o ∧ some o ≠ ω ∧ H o = some u ∧ RpO K G u d
section
variable {ω : Option Addr} {K : PySem.W.Frag} {G0 H0 G H G' H' : Hp} {Γ Γ' : En} {σ σ' : L2.St} {v : V} {d : D}
theorem Rp.ext (h : Rp K G v d) (e : Ext ω K G H G' H') : Rp K G' v d := Rp.le (e.gg) d h
theorem RpA.ext {vs : List V} {ds : List D} (h : RpA K G vs ds) (e : Ext ω K G H G' H') : RpA K G' vs ds := RpA.le (e.gg) ds h
theorem Rb.ext (h : Rb ω K G H v d) (e : Ext ω K G H G' H') : Rb ω K G' H' v d := by
  rcases h with h | ⟨o, u, h1, h2, h3, h4⟩
  · exact .inl (h.ext e)
  · exact .inr ⟨o, u, h1, h2, e.hh o u h2 h3, h4.le (e.gg)⟩
theorem Rb.list {ds : List D} (h : Rb ω K G H v (.list ds)) (l : Le G H) : ∃ a xs, v = .ref a ∧ Rd H a (.lst xs) ∧ RpA K G xs ds ∧ ds.length ≤ sizeLine := by
  rcases h with h | ⟨o, u, h1, h2, h3, h4⟩
  · cases h with
    | lst s a z => exact ⟨_, _, rfl, l _ _ s, a, z⟩
  · cases h4 with
    | lst a z => exact ⟨o, _, h1, .inl h3, a, z⟩
theorem Rb.tup {ds : List D} (h : Rb ω K G H v (.tuple ds)) (l : Le G H) : ∃ a xs, v = .ref a ∧ SqT K H a xs ∧ RpA K G xs ds ∧ ds.length ≤ sizeLine := by
  rcases h with h | ⟨o, u, h1, h2, h3, h4⟩
  · cases h with
    | tup s a z => exact ⟨_, _, rfl, l.sqT s, a, z⟩
  · cases h4
theorem Rb.non (h : Rb ω K G H v .none) : v = .non := by
  rcases h with h | ⟨o, u, h1, h2, h3, h4⟩
  · cases h; rfl
  · cases h4
theorem Rb.bl {b : Bool} (h : Rb ω K G H v (.bool b)) : v = .bl b := by
  rcases h with h | ⟨o, u, h1, h2, h3, h4⟩
  · cases h; rfl
  · cases h4
theorem Rb.int {i : Int} (h : Rb ω K G H v (.int i)) : v = .int i := by
  rcases h with h | ⟨o, u, h1, h2, h3, h4⟩
  · cases h; rfl
  · cases h4
theorem Rb.str {x : Str} (h : Rb ω K G H v (.str x)) : v = .str x := by
  rcases h with h | ⟨o, u, h1, h2, h3, h4⟩
  · cases h; rfl
  · cases h4
end

/-! ### the judgements -/
section
variable (S : Sg) (Γ : En)
def WE (e : Expr) (m : M D) : Prop := ∀ (ω : Option Addr) (G0 H0 : Hp) (σ : L2.St) (G H : Hp) (P : D → Prop) (Q : VK), EnvOk ω S.K G0 H0 Γ σ G H → m P →
  (∀ d v G' H', P d → Ext ω S.K G H G' H' → Rp S.K G' v d → Q v H') → RE S e σ H Q
/-- its top may be one's own: to be looked at, not kept -/
def WB (e : Expr) (m : M D) : Prop := ∀ (ω : Option Addr) (G0 H0 : Hp) (σ : L2.St) (G H : Hp) (P : D → Prop) (Q : VK), EnvOk ω S.K G0 H0 Γ σ G H → m P →
  (∀ d v G' H', P d → Ext ω S.K G H G' H' → Rb ω S.K G' H' v d → Q v H') → RE S e σ H Q
def WT (e : Expr) (m : M Bool) : Prop := ∀ (ω : Option Addr) (G0 H0 : Hp) (σ : L2.St) (G H : Hp) (P : Bool → Prop) (Q : Bool → Hp → Prop), EnvOk ω S.K G0 H0 Γ σ G H → m P →
  (∀ b G' H', P b → Ext ω S.K G H G' H' → Q b H') → RT S e σ H Q
/-- what an argument stands for -/
def WA (es : List Expr) (m : M (List D)) : Prop := ∀ (ω : Option Addr) (G0 H0 : Hp) (σ : L2.St) (G H : Hp) (P : List D → Prop) (Q : List V → Hp → Prop), EnvOk ω S.K G0 H0 Γ σ G H → m P →
  (∀ ds vs G' H', P ds → Ext ω S.K G H G' H' → RpA S.K G' vs ds → ds.length = es.length → Q vs H') → RA S es σ H Q
end
inductive Out where
  | nx (Γ : En) | rt (d : D) | bk (Γ : En) | ct (Γ : En)
def Post (ω : Option Addr) (K : PySem.W.Frag) (G0 H0 : Hp) (Dn : Ends) : Out → Prop
  | .nx Γ => ∀ σ' G' H', EnvOk ω K G0 H0 Γ σ' G' H' → Dn.nx σ' H'
  | .rt d => ∀ v G' H', Ext ω K G0 H0 G' H' → Rp K G' v d → Dn.rt v H'
  | .bk Γ => ∀ σ' G' H', EnvOk ω K G0 H0 Γ σ' G' H' → Dn.bk σ' H'
  | .ct Γ => ∀ σ' G' H', EnvOk ω K G0 H0 Γ σ' G' H' → Dn.ct σ' H'
/-- a block, by what it comes to -/
def W {ρ : Type} (S : Sg) (Γ : En) (sts : List Stmt) (m : M ρ) (ι : ρ → Out) : Prop := ∀ (ω : Option Addr) (G0 H0 : Hp) (σ : L2.St) (G H : Hp) (P : ρ → Prop) (Dn : Ends), EnvOk ω S.K G0 H0 Γ σ G H → m P →
  (∀ r, P r → Post ω S.K G0 H0 Dn (ι r)) → RS S sts Dn σ H

section
variable {S : Sg} {Γ : En} {e a b : Expr} {m ma mb : M D} {pos : Pos}
theorem WE.wb (h : WE S Γ e m) : WB S Γ e m := fun ω G0 H0 σ G H P Q E hm q => h ω G0 H0 σ G H P Q E hm fun d v G' H' hP x r => q d v G' H' hP x (.inl r)

/-! ### names and constants -/
structure VarAt (S : Sg) (i : Nat) (x : Str) : Prop where
  n : S.N[i]? = some x
  v : Vis S.sc x
  d : (x == ("__debug__" : Str)) = false
  c : (x == ("__classdict__" : Str)) = false
theorem we_var {i : Nat} {x : Str} {d : D} (h : VarAt S i x) (hi : Γ[i]? = some (some (.val d))) : WE S Γ (.Name x pos) (M.pure d) := by
  intro ω G0 H0 σ G H P Q E hm q
  obtain ⟨v, h1, h2⟩ := E.sl i _ hi
  exact ⟨tVar i, fun X hX => pe_var (by rw [hX.N]; exact h.n) (by rw [hX.sc]; exact h.v) h.d h.c, v, h1, q d v G H hm E.self h2⟩
theorem wb_own {i : Nat} {x : Str} {d : D} (h : VarAt S i x) (hi : Γ[i]? = some (some (.own d))) : WB S Γ (.Name x pos) (M.pure d) := by
  intro ω G0 H0 σ G H P Q E hm q
  obtain ⟨v, h1, o, u, rfl, h2, h3, h4, h5, h6⟩ := E.sl i _ hi
  exact ⟨tVar i, fun X hX => pe_var (by rw [hX.N]; exact h.n) (by rw [hX.sc]; exact h.v) h.d h.c, .ref o, h1, q d _ G H hm E.self (.inr ⟨o, u, rfl, h2, h3, h6⟩)⟩
theorem we_int {i : Int} {j} : WE S Γ (.Constant (.int i) j pos) (M.pure (.int i)) := fun ω G0 H0 σ G H P Q E hm q => ⟨_, fun X hX => pe_int, q _ _ G H hm E.self (.int i)⟩
theorem we_bl {i : Bool} {j} : WE S Γ (.Constant (.bool i) j pos) (M.pure (.bool i)) := fun ω G0 H0 σ G H P Q E hm q => ⟨_, fun X hX => pe_bl, q _ _ G H hm E.self (.bl i)⟩
theorem we_non {j} : WE S Γ (.Constant .none j pos) (M.pure .none) := fun ω G0 H0 σ G H P Q E hm q => ⟨_, fun X hX => pe_non, q _ _ G H hm E.self .non⟩
theorem we_str {x : Str} {j} : WE S Γ (.Constant (.str x) j pos) (M.pure (.str x)) := fun ω G0 H0 σ G H P Q E hm q => ⟨_, fun X hX => pe_str, q _ _ G H hm E.self (.str x)⟩

/-! ### operators -/
def OpOk (S : Sg) (g : Value → Value → Sem Value) (f : D → D → M D) : Prop := ∀ (ω : Option Addr) (G H : Hp) (x y : D) (v u : V) (P : D → Prop) (Q : VK), Ext ω S.K G H G H → Rb ω S.K G H v x → Rb ω S.K G H u y → f x y P →
  (∀ d v' G' H', P d → Ext ω S.K G H G' H' → Rp S.K G' v' d → Q v' H') → ROp S g v u H Q
def UnOk (S : Sg) (g : Value → Sem Value) (f : D → M D) : Prop := ∀ (ω : Option Addr) (G H : Hp) (x : D) (v : V) (P : D → Prop) (Q : VK), Ext ω S.K G H G H → Rb ω S.K G H v x → f x P →
  (∀ d v' G' H', P d → Ext ω S.K G H G' H' → Rp S.K G' v' d → Q v' H') → RUn S g v H Q
def IxOk (S : Sg) (f : D → D → M D) : Prop := ∀ (ω : Option Addr) (G H : Hp) (x y : D) (v u : V) (P : D → Prop) (Q : VK), Ext ω S.K G H G H → Rb ω S.K G H v x → Rb ω S.K G H u y → f x y P →
  (∀ d v' G' H', P d → Ext ω S.K G H G' H' → Rp S.K G' v' d → Q v' H') → RIx S v u H Q
def C1Ok (S : Sg) (g : Value) (f : D → M D) : Prop := ∀ (ω : Option Addr) (G H : Hp) (x : D) (v : V) (P : D → Prop) (Q : VK), Ext ω S.K G H G H → Rb ω S.K G H v x → f x P →
  (∀ d v' G' H', P d → Ext ω S.K G H G' H' → Rp S.K G' v' d → Q v' H') → RCall S g [v] H Q
def C2Ok (S : Sg) (g : Value) (f : D → D → M D) : Prop := ∀ (ω : Option Addr) (G H : Hp) (x y : D) (v u : V) (P : D → Prop) (Q : VK), Ext ω S.K G H G H → Rb ω S.K G H v x → Rb ω S.K G H u y → f x y P →
  (∀ d v' G' H', P d → Ext ω S.K G H G' H' → Rp S.K G' v' d → Q v' H') → RCall S g [v, u] H Q
/-- two operands, from the left -/
theorem two {R : V → V → Hp → Prop} (ha : WB S Γ a ma) (hb : WB S Γ b mb) {f : D → D → M D} {ω : Option Addr} {G0 H0 G H : Hp} {σ : L2.St} {P : D → Prop} (E : EnvOk ω S.K G0 H0 Γ σ G H) (hm : ma (fun x => mb (fun y => f x y P)))
    (h : ∀ x y v u G' H', Ext ω S.K G H G' H' → Rb ω S.K G' H' v x → Rb ω S.K G' H' u y → f x y P → R v u H') : RE S a σ H fun v H1 => RE S b σ H1 fun u H2 => R v u H2 := by
  refine ha ω G0 H0 σ G H _ _ E hm fun x v G1 H1 hx e1 r1 => ?_
  refine hb ω G0 H0 σ G1 H1 _ _ (E.step e1) hx fun y u G2 H2 hy e2 r2 => ?_
  exact h x y v u G2 H2 (e1.trans e2) (r1.ext e2) r2 hy
theorem we_op {op : Operator} {f : D → D → M D} (ho : OpOk S (binaryOp op) f) (ha : WB S Γ a ma) (hb : WB S Γ b mb) : WE S Γ (.BinOp a op b pos) (ma.bind fun x => mb.bind fun y => f x y) := by
  intro ω G0 H0 σ G H P Q E hm q
  refine ⟨_, fun X hX => pe_op (ROp.op hX _) (RE.pe hX a) (RE.pe hX b), two ha hb E hm fun x y v u G' H' e r1 r2 hf => ?_⟩
  exact ho ω G' H' x y v u P Q e.self r1 r2 hf fun d v' G2 H2 hP e2 r => q d v' G2 H2 hP (e.trans e2) r
theorem we_un {op : UnaryOp} {f : D → M D} (ho : UnOk S (unaryOp op) f) (ha : WB S Γ a ma) : WE S Γ (.UnaryOp op a pos) (ma.bind fun x => f x) := by
  intro ω G0 H0 σ G H P Q E hm q
  refine ⟨_, fun X hX => pe_un (RUn.un hX _) (RE.pe hX a), ha ω G0 H0 σ G H _ _ E hm fun x v G' H' hf e r1 => ?_⟩
  exact ho ω G' H' x v P Q e.self r1 hf fun d v' G2 H2 hP e2 r => q d v' G2 H2 hP (e.trans e2) r
theorem we_cmp {op : CmpOp} {f : D → D → M D} (ho : OpOk S (compareOp op) f) (ha : WB S Γ a ma) (hb : WB S Γ b mb) (hm : behindInMarks op b = false) : WE S Γ (.Compare a [op] [b] pos) (ma.bind fun x => mb.bind fun y => f x y) := by
  intro ω G0 H0 σ G H P Q E hp q
  refine ⟨_, fun X hX => pe_cmpR (ROp.op hX _) (RE.pe hX a) (RE.pe hX b) hm, two ha hb E hp fun x y v u G' H' e r1 r2 hf => ?_⟩
  exact ho ω G' H' x y v u P Q e.self r1 r2 hf fun d v' G2 H2 hP e2 r => q d v' G2 H2 hP (e.trans e2) r
theorem we_ix {f : D → D → M D} (ho : IxOk S f) (ha : WB S Γ a ma) (hb : WB S Γ b mb) (hs : PlainIx b) : WE S Γ (.Subscript a b pos) (ma.bind fun x => mb.bind fun y => f x y) := by
  intro ω G0 H0 σ G H P Q E hp q
  refine ⟨_, fun X hX => pe_ix (RIx.ix hX) (RE.pe hX a) (RE.pe hX b) hs, two ha hb E hp fun x y v u G' H' e r1 r2 hf => ?_⟩
  exact ho ω G' H' x y v u P Q e.self r1 r2 hf fun d v' G2 H2 hP e2 r => q d v' G2 H2 hP (e.trans e2) r

/-! ### calls of built-ins -/
structure BltAt (S : Sg) (x : Str) (val : Value) : Prop where
  g : S.sc.names.lookup x = some .globalImplicit
  m : S.mg x = none
  v : bootBuiltins x = some val
  n : x ≠ "__name__"
  d : (x == ("__debug__" : Str)) = false
theorem gl_of {X : Cx} {x : Str} (hX : S.Of X) (h : S.sc.names.lookup x = some .globalImplicit) : Gl X x := by
  show X.env.scope.names.lookup x = _
  rw [hX.sc]; exact h
theorem ra_one {σ : L2.St} {H : Hp} {Q : List V → Hp → Prop} (h : RE S a σ H fun v H1 => Q [v] H1) (hs : ∀ env, starEach [a] env = (false, eval a env) :: starEach [] env) : RA S [a] σ H Q :=
  ⟨_, fun X hX => pa_cons (RE.pe hX a) pa_nil (hs _), h⟩
theorem we_c1B {id : String} {x : Str} {p : Pos} {f : D → M D} (hb : BltAt S x (.builtin id)) (ho : C1Ok S (.builtin id) f) (ha : WB S Γ a ma) (he : ∀ env, starEach [a] env = (false, eval a env) :: starEach [] env := by intro _; rfl)
    : WE S Γ (.Call (.Name x p) [a] [] pos) (ma.bind fun x => f x) := by
  intro ω G0 H0 σ G H P Q E hm q
  refine ⟨_, fun X hX => pe_callB (RCall.call hX _) (gl_of hX hb.g) (by rw [hX.mg]; exact hb.m) hb.v (pa_cons (RE.pe hX a) pa_nil (he _)) hb.n hb.d (he _) rfl, ?_⟩
  refine ha ω G0 H0 σ G H _ _ E hm fun x v G' H' hf e r1 => ?_
  exact ho ω G' H' x v P Q e.self r1 hf fun d v' G2 H2 hP e2 r => q d v' G2 H2 hP (e.trans e2) r
theorem we_c1T {T : String} {x : Str} {p : Pos} {f : D → M D} (hb : BltAt S x (.type T)) (ho : C1Ok S (.type T) f) (ha : WB S Γ a ma) (he : ∀ env, starEach [a] env = (false, eval a env) :: starEach [] env := by intro _; rfl)
    : WE S Γ (.Call (.Name x p) [a] [] pos) (ma.bind fun x => f x) := by
  intro ω G0 H0 σ G H P Q E hm q
  refine ⟨_, fun X hX => pe_callTy (RCall.call hX _) (gl_of hX hb.g) (by rw [hX.mg]; exact hb.m) hb.v (pa_cons (RE.pe hX a) pa_nil (he _)) hb.n hb.d (he _) rfl, ?_⟩
  refine ha ω G0 H0 σ G H _ _ E hm fun x v G' H' hf e r1 => ?_
  exact ho ω G' H' x v P Q e.self r1 hf fun d v' G2 H2 hP e2 r => q d v' G2 H2 hP (e.trans e2) r
theorem we_c2B {id : String} {x : Str} {p : Pos} {f : D → D → M D} (hb : BltAt S x (.builtin id)) (ho : C2Ok S (.builtin id) f) (ha : WB S Γ a ma) (hb2 : WB S Γ b mb)
    (he : ∀ env, starEach [a, b] env = (false, eval a env) :: starEach [b] env := by intro _; rfl) (he2 : ∀ env, starEach [b] env = (false, eval b env) :: starEach [] env := by intro _; rfl)
    : WE S Γ (.Call (.Name x p) [a, b] [] pos) (ma.bind fun x => mb.bind fun y => f x y) := by
  intro ω G0 H0 σ G H P Q E hm q
  refine ⟨_, fun X hX => pe_callB (RCall.call hX _) (gl_of hX hb.g) (by rw [hX.mg]; exact hb.m) hb.v (pa_cons (RE.pe hX a) (pa_cons (RE.pe hX b) pa_nil (he2 _)) (he _)) hb.n hb.d (he _) (by rw [he2]; rfl), ?_⟩
  show RE S a σ H fun v H1 => RE S b σ H1 fun u H2 => _
  refine two ha hb2 E hm fun x y v u G' H' e r1 r2 hf => ?_
  exact ho ω G' H' x y v u P Q e.self r1 r2 hf fun d v' G2 H2 hP e2 r => q d v' G2 H2 hP (e.trans e2) r

/-! ### displays -/
theorem wa_nil : WA S Γ [] (M.pure []) := fun ω G0 H0 σ G H P Q E hm q => ⟨_, fun X hX => pa_nil, q [] [] G H hm E.self .nil rfl⟩
theorem wa_cons {es : List Expr} {ms : M (List D)} (ha : WE S Γ a ma) (hs : WA S Γ es ms) (he : ∀ env, starEach (a :: es) env = (false, eval a env) :: starEach es env := by intro _; rfl) :
    WA S Γ (a :: es) (ma.bind fun x => ms.bind fun xs => M.pure (x :: xs)) := by
  intro ω G0 H0 σ G H P Q E hm q
  refine ⟨_, fun X hX => pa_cons (RE.pe hX a) (RA.pa hX es) (he _), ?_⟩
  refine ha ω G0 H0 σ G H _ _ E hm fun x v G1 H1 hx e1 r1 => ?_
  refine hs ω G0 H0 σ G1 H1 _ _ (E.step e1) hx fun xs vs G2 H2 hy e2 r2 l2 => ?_
  exact q (x :: xs) (v :: vs) G2 H2 hy (e1.trans e2) (.cons (r1.ext e2) r2) (congrArg (· + 1) l2)
theorem we_tup {es : List Expr} {ms : M (List D)} {k} (hs : WA S Γ es ms) (hl : es.length ≤ 1000 := by decide) : WE S Γ (.Tuple es k pos) (ms.bind fun ds => M.pure (.tuple ds)) := by
  intro ω G0 H0 σ G H P Q E hm q
  refine ⟨_, fun X hX => pe_tup (RA.pa hX es), ?_⟩
  refine hs ω G0 H0 σ G H _ _ E hm fun ds vs G1 H1 hx e1 r1 hd => ?_
  have z : ds.length ≤ sizeLine := by rw [hd]; exact Nat.le_of_lt (small1000 hl)
  refine ⟨by rw [r1.length]; exact z, fun p np => ?_⟩
  exact q _ _ _ _ hx (e1.trans (e1.self.new np)) (.tup (.inl (.inl upd_same)) (r1.ext (e1.self.new (o := .tup vs) np)) z)
theorem we_lst {es : List Expr} {ms : M (List D)} (hs : WA S Γ es ms) (hl : es.length ≤ 1000 := by decide) : WE S Γ (.List es pos) (ms.bind fun ds => M.pure (.list ds)) := by
  intro ω G0 H0 σ G H P Q E hm q
  refine ⟨_, fun X hX => pe_lst (RA.pa hX es), ?_⟩
  refine hs ω G0 H0 σ G H _ _ E hm fun ds vs G1 H1 hx e1 r1 hd => ?_
  have z : ds.length ≤ sizeLine := by rw [hd]; exact Nat.le_of_lt (small1000 hl)
  refine ⟨by rw [r1.length]; exact z, fun p np => ?_⟩
  exact q _ _ _ _ hx (e1.trans (e1.self.new np)) (.lst (.inl upd_same) (r1.ext (e1.self.new (o := .lst vs) np)) z)
end
end Wp
namespace Wp
open PySem PySem.Spec PyProof.Rows L2

/-! ### tests -/
def asB : D → M Bool
  | .bool b => M.pure b
  | _ => M.fail
def truthD : D → M Bool
  | .none => M.pure false
  | .bool b => M.pure b
  | .int i => M.pure (i != 0)
  | .list xs => M.pure (!xs.isEmpty)
  | .tuple xs => M.pure (!xs.isEmpty)
  | _ => M.fail
section
variable (S : Sg)
def RW (e : Expr) : TT := fun σ H Q => ∃ t, (∀ X, S.Of X → PW X e t) ∧ t σ H Q
theorem RW.pw {S : Sg} {X : Cx} (hX : S.Of X) (e : Expr) : PW X e (RW S e) := ⟨fun wh pins s σ H Q I ⟨t, h, q⟩ => (h X hX).run wh pins s σ H Q I q⟩
def WW (Γ : En) (e : Expr) (m : M Bool) : Prop := ∀ (ω : Option Addr) (G0 H0 : Hp) (σ : L2.St) (G H : Hp) (P : Bool → Prop) (Q : Bool → Hp → Prop), EnvOk ω S.K G0 H0 Γ σ G H → m P →
  (∀ b G' H', P b → Ext ω S.K G H G' H' → Q b H') → RW S e σ H Q
end
section
variable {S : Sg} {Γ : En} {e a b c : Expr} {m ma mb mc : M D} {ta tb tc : M Bool} {pos : Pos} {rest : List Expr}
theorem wt_truth (ha : WB S Γ a ma) (he : ∀ env whole, isTrue a env whole = (do let v ← whole; standAt a.pos; holding [v] (truthy v)) := by intro _ _; rfl) : WT S Γ a (ma.bind fun x => truthD x) := by
  intro ω G0 H0 σ G H P Q E hm q
  refine ⟨_, fun X hX => hX.K ▸ pt_truth (RE.pe hX a) (he _), ?_⟩
  refine ha ω G0 H0 σ G H _ _ E hm fun x v G1 H1 hx e1 r1 => ?_
  cases x with
  | none => cases r1.non; exact ⟨false, rfl, q _ _ _ hx e1⟩
  | bool k => cases r1.bl; exact ⟨k, rfl, q _ _ _ hx e1⟩
  | int k => cases r1.int; exact ⟨_, rfl, q _ _ _ hx e1⟩
  | str _ => exact False.elim hx
  | dict _ => exact False.elim hx
  | list ds =>
    obtain ⟨p, xs, rfl, s, r, z⟩ := r1.list e1.le
    refine ⟨!xs.isEmpty, .inl ⟨xs, .inl s, rfl⟩, q _ _ _ ?_ e1⟩
    have e : xs.isEmpty = ds.isEmpty := by cases r <;> rfl
    rw [e]; exact hx
  | tuple ds =>
    obtain ⟨p, xs, rfl, s, r, z⟩ := r1.tup e1.le
    refine ⟨!xs.isEmpty, .inr (.inl ⟨xs, s, rfl⟩), q _ _ _ ?_ e1⟩
    have e : xs.isEmpty = ds.isEmpty := by cases r <;> rfl
    rw [e]; exact hx
theorem wt_cmp {op : CmpOp} {f : D → D → M D} (ho : OpOk S (compareOp op) f) (ha : WB S Γ a ma) (hb : WB S Γ b mb) (hm : behindInMarks op b = false) : WT S Γ (.Compare a [op] [b] pos) (ma.bind fun x => mb.bind fun y => (f x y).bind fun z => asB z) := by
  intro ω G0 H0 σ G H P Q E hp q
  refine ⟨_, fun X hX => pt_cmpR (ROp.op hX _) (RE.pe hX a) (RE.pe hX b) hm, ?_⟩
  refine two (f := fun x y => (f x y).bind fun z => fun P' => asB z P) (P := fun _ => True) ha hb E hp fun x y v u G' H' e r1 r2 hf => ?_
  refine ho ω G' H' x y v u (fun z => asB z P) _ e.self r1 r2 hf fun d v' G2 H2 hP e2 r => ?_
  cases r <;> first | exact False.elim hP | exact ⟨_, rfl, q _ _ _ hP (e.trans e2)⟩
theorem wt_not (ha : WT S Γ a ta) : WT S Γ (.UnaryOp .Not a pos) (ta.bind fun x => M.pure (!x)) := by
  intro ω G0 H0 σ G H P Q E hp q
  exact ⟨_, fun X hX => pt_not (RT.pt hX a), ha ω G0 H0 σ G H _ _ E hp fun k G1 H1 h e1 => q _ _ _ h e1⟩
theorem wt_ww (h : WW S Γ a ta) : WT S Γ a ta := by
  intro ω G0 H0 σ G H P Q E hp q
  obtain ⟨t, h1, h2⟩ := h ω G0 H0 σ G H P Q E hp q
  exact ⟨t, fun X hX => (h1 X hX).pt, h2⟩
theorem ww_and1 (ha : WT S Γ a ta) : WW S Γ (.BoolOp .And [a] pos) ta := by
  intro ω G0 H0 σ G H P Q E hp q
  exact ⟨_, fun X hX => pw_and1 (RT.pt hX a), ha ω G0 H0 σ G H P Q E hp q⟩
theorem ww_or1 (ha : WT S Γ a ta) : WW S Γ (.BoolOp .Or [a] pos) ta := by
  intro ω G0 H0 σ G H P Q E hp q
  exact ⟨_, fun X hX => pw_or1 (RT.pt hX a), ha ω G0 H0 σ G H P Q E hp q⟩
theorem ww_and (ha : WT S Γ a ta) (hb : WW S Γ (.BoolOp .And (b :: rest) pos) tb) : WW S Γ (.BoolOp .And (a :: b :: rest) pos) (ta.bind fun x => bif x then tb else M.pure false) := by
  intro ω G0 H0 σ G H P Q E hp q
  refine ⟨_, fun X hX => pw_and (RT.pt hX a) (RW.pw hX _), ha ω G0 H0 σ G H _ _ E hp fun k G1 H1 h e1 => ?_⟩
  cases k with
  | true => rw [if_pos rfl]; exact hb ω G0 H0 σ G1 H1 P Q (E.step e1) h fun b G' H' hP e2 => q b G' H' hP (e1.trans e2)
  | false => rw [if_neg Bool.false_ne_true]; exact q _ _ _ h e1
theorem ww_or (ha : WT S Γ a ta) (hb : WW S Γ (.BoolOp .Or (b :: rest) pos) tb) : WW S Γ (.BoolOp .Or (a :: b :: rest) pos) (ta.bind fun x => bif x then M.pure true else tb) := by
  intro ω G0 H0 σ G H P Q E hp q
  refine ⟨_, fun X hX => pw_or (RT.pt hX a) (RW.pw hX _), ha ω G0 H0 σ G H _ _ E hp fun k G1 H1 h e1 => ?_⟩
  cases k with
  | false => rw [if_neg Bool.false_ne_true]; exact hb ω G0 H0 σ G1 H1 P Q (E.step e1) h fun b G' H' hP e2 => q b G' H' hP (e1.trans e2)
  | true => rw [if_pos rfl]; exact q _ _ _ h e1

/-! ### and, or, not as values; a if t else b; chains -/
theorem we_not (ha : WE S Γ a ma) : WE S Γ (.UnaryOp .Not a pos) (ma.bind fun x => (asB x).bind fun k => M.pure (.bool (!k))) := by
  intro ω G0 H0 σ G H P Q E hp q
  refine ⟨_, fun X hX => pe_not (RE.pe hX a), ha ω G0 H0 σ G H _ _ E hp fun x v G1 H1 h e1 r1 => ?_⟩
  cases r1 <;> first | exact False.elim h | exact ⟨_, rfl, q _ _ _ _ h e1 (.bl _)⟩
theorem we_one {op} (ha : WE S Γ a ma) : WE S Γ (.BoolOp op [a] pos) ma := by
  intro ω G0 H0 σ G H P Q E hp q
  exact ⟨_, fun X hX => pe_one (RE.pe hX a), ha ω G0 H0 σ G H P Q E hp q⟩
theorem we_and (ha : WE S Γ a ma) (hb : WE S Γ (.BoolOp .And (b :: rest) pos) mb) : WE S Γ (.BoolOp .And (a :: b :: rest) pos) (ma.bind fun x => (asB x).bind fun k => bif k then mb else M.pure (.bool false)) := by
  intro ω G0 H0 σ G H P Q E hp q
  refine ⟨_, fun X hX => pe_and (RE.pe hX a) (RE.pe hX _), ha ω G0 H0 σ G H _ _ E hp fun x v G1 H1 h e1 r1 => ?_⟩
  cases r1 with
  | bl k =>
    refine ⟨k, rfl, ?_⟩
    cases k with
    | true => rw [if_pos rfl]; exact hb ω G0 H0 σ G1 H1 P Q (E.step e1) h fun d v G' H' hP e2 r => q d v G' H' hP (e1.trans e2) r
    | false => rw [if_neg Bool.false_ne_true]; exact q _ _ _ _ h e1 (.bl _)
  | _ => exact False.elim h
theorem we_or (ha : WE S Γ a ma) (hb : WE S Γ (.BoolOp .Or (b :: rest) pos) mb) : WE S Γ (.BoolOp .Or (a :: b :: rest) pos) (ma.bind fun x => (asB x).bind fun k => bif k then M.pure (.bool true) else mb) := by
  intro ω G0 H0 σ G H P Q E hp q
  refine ⟨_, fun X hX => pe_or (RE.pe hX a) (RE.pe hX _), ha ω G0 H0 σ G H _ _ E hp fun x v G1 H1 h e1 r1 => ?_⟩
  cases r1 with
  | bl k =>
    refine ⟨k, rfl, ?_⟩
    cases k with
    | false => rw [if_neg Bool.false_ne_true]; exact hb ω G0 H0 σ G1 H1 P Q (E.step e1) h fun d v G' H' hP e2 r => q d v G' H' hP (e1.trans e2) r
    | true => rw [if_pos rfl]; exact q _ _ _ _ h e1 (.bl _)
  | _ => exact False.elim h
theorem we_ife (hc : WT S Γ c tc) (ha : WE S Γ a ma) (hb : WE S Γ b mb) : WE S Γ (.IfExp c a b pos) (tc.bind fun k => bif k then ma else mb) := by
  intro ω G0 H0 σ G H P Q E hp q
  refine ⟨_, fun X hX => pe_ifExp (RT.pt hX c) (RE.pe hX a) (RE.pe hX b), hc ω G0 H0 σ G H _ _ E hp fun k G1 H1 h e1 => ?_⟩
  cases k with
  | true => rw [if_pos rfl]; exact ha ω G0 H0 σ G1 H1 P Q (E.step e1) h fun d v G' H' hP e2 r => q d v G' H' hP (e1.trans e2) r
  | false => rw [if_neg Bool.false_ne_true]; exact hb ω G0 H0 σ G1 H1 P Q (E.step e1) h fun d v G' H' hP e2 r => q d v G' H' hP (e1.trans e2) r
theorem chain_go {op op' : CmpOp} {f f' : D → D → M D} (ho : OpOk S (compareOp op) f) (ho' : OpOk S (compareOp op') f') (ha : WB S Γ a ma) (hb : WB S Γ b mb) (hc : WB S Γ c mc) {ω : Option Addr} {G0 H0 : Hp} {σ : L2.St} {G H : Hp} {P : D → Prop} {Q : VK}
    (E : EnvOk ω S.K G0 H0 Γ σ G H) (hp : (ma.bind fun x => mb.bind fun y => (f x y).bind fun z => (asB z).bind fun k => bif k then mc.bind fun w => f' y w else M.pure (.bool false)) P)
    (q : ∀ d v G' H', P d → Ext ω S.K G H G' H' → Rp S.K G' v d → Q v H') : tChain (ROp S (compareOp op)) (ROp S (compareOp op')) (RE S a) (RE S b) (RE S c) σ H Q := by
  refine two (f := fun x y => (f x y).bind fun z => (asB z).bind fun k => bif k then mc.bind fun w => f' y w else M.pure (.bool false)) ha hb E hp fun x y v u G' H' e r1 r2 hf => ?_
  refine ho ω G' H' x y v u (fun z => asB z (fun k => (bif k then mc.bind fun w => f' y w else M.pure (.bool false)) P)) _ e.self r1 r2 hf fun d v' G2 H2 hP e2 r => ?_
  cases r with
  | bl k =>
    refine ⟨k, rfl, ?_⟩
    cases k with
    | false => rw [if_neg Bool.false_ne_true]; exact q _ _ _ _ hP (e.trans e2) (.bl _)
    | true =>
      rw [if_pos rfl]
      refine hc ω G0 H0 σ G2 H2 _ _ (E.step (e.trans e2)) hP fun w v3 G3 H3 h3 e3 r3 => ?_
      exact ho' ω G3 H3 y w u v3 P Q e3.self ((r2.ext e2).ext e3) r3 h3 fun d v4 G4 H4 hP e4 r4 => q d v4 G4 H4 hP (((e.trans e2).trans e3).trans e4) r4
  | _ => exact False.elim hP
theorem we_chain {op op' : CmpOp} {f f' : D → D → M D} (ho : OpOk S (compareOp op) f) (ho' : OpOk S (compareOp op') f') (ha : WB S Γ a ma) (hb : WB S Γ b mb) (hc : WB S Γ c mc) (hm : lastMarks [op, op'] [b, c] = false) :
    WE S Γ (.Compare a [op, op'] [b, c] pos) (ma.bind fun x => mb.bind fun y => (f x y).bind fun z => (asB z).bind fun k => bif k then mc.bind fun w => f' y w else M.pure (.bool false)) :=
  fun ω G0 H0 σ G H P Q E hp q => ⟨_, fun X hX => pe_chain (ROp.op hX _) (ROp.op hX _) (RE.pe hX a) (RE.pe hX b) (RE.pe hX c) hm, chain_go ho ho' ha hb hc E hp q⟩
theorem wt_chain {op op' : CmpOp} {f f' : D → D → M D} (ho : OpOk S (compareOp op) f) (ho' : OpOk S (compareOp op') f') (ha : WB S Γ a ma) (hb : WB S Γ b mb) (hc : WB S Γ c mc) (hm : lastMarks [op, op'] [b, c] = false) :
    WT S Γ (.Compare a [op, op'] [b, c] pos) ((ma.bind fun x => mb.bind fun y => (f x y).bind fun z => (asB z).bind fun k => bif k then mc.bind fun w => f' y w else M.pure (.bool false)).bind fun z => asB z) :=
  fun ω G0 H0 σ G H P Q E hp q => ⟨_, fun X hX => pt_chain (ROp.op hX _) (ROp.op hX _) (RE.pe hX a) (RE.pe hX b) (RE.pe hX c) hm, chain_go ho ho' ha hb hc (P := fun z => asB z P) E hp fun d v G' H' hP e r => by
    cases r <;> first | exact False.elim hP | exact ⟨_, rfl, q _ _ _ hP e⟩⟩

/-! ### slices -/
def asI : D → M Int
  | .int i => M.pure i
  | _ => M.fail
def RO (S : Sg) (e : Option Expr) : TO := fun σ H Q => ∃ t, (∀ X, S.Of X → PO X e t) ∧ t σ H Q
theorem RO.po {X : Cx} (hX : S.Of X) (e : Option Expr) : PO X e (RO S e) := ⟨fun pins s σ H Q I ⟨t, h, q⟩ => (h X hX).run pins s σ H Q I q⟩
def WO (S : Sg) (Γ : En) (e : Option Expr) (m : M (Option Int)) : Prop := ∀ (ω : Option Addr) (G0 H0 : Hp) (σ : L2.St) (G H : Hp) (P : Option Int → Prop) (Q : Option Int → Hp → Prop), EnvOk ω S.K G0 H0 Γ σ G H → m P →
  (∀ b G' H', P b → Ext ω S.K G H G' H' → Q b H') → RO S e σ H Q
theorem wo_none : WO S Γ none (M.pure none) := fun ω G0 H0 σ G H P Q E hp q => ⟨_, fun X hX => po_none, q _ _ _ hp E.self⟩
theorem wo_some (ha : WE S Γ a ma) : WO S Γ (some a) (ma.bind fun x => (asI x).bind fun i => M.pure (some i)) := by
  intro ω G0 H0 σ G H P Q E hp q
  refine ⟨_, fun X hX => po_some (RE.pe hX a), ha ω G0 H0 σ G H _ _ E hp fun x v G1 H1 h e1 r1 => ?_⟩
  cases r1 <;> first | exact False.elim h | exact ⟨_, rfl, q _ _ _ h e1⟩
def SlOk (S : Sg) (f : D → Option Int → Option Int → M D) : Prop := ∀ (ω : Option Addr) (G H : Hp) (x : D) (v : V) (lo hi : Option Int) (P : D → Prop) (Q : VK), Ext ω S.K G H G H → Rb ω S.K G H v x → f x lo hi P →
  (∀ d v' G' H', P d → Ext ω S.K G H G' H' → Rp S.K G' v' d → Q v' H') → RSl S v lo hi H Q
theorem we_slice {f : D → Option Int → Option Int → M D} {lo hi : Option Expr} {ml mh : M (Option Int)} {p2 : Pos} (hs : SlOk S f) (ha : WB S Γ a ma) (hl : WO S Γ lo ml) (hh : WO S Γ hi mh) :
    WE S Γ (.Subscript a (.Slice lo hi none p2) pos) (ma.bind fun x => ml.bind fun l => mh.bind fun h => f x l h) := by
  intro ω G0 H0 σ G H P Q E hp q
  refine ⟨_, fun X hX => pe_slice (RSl.sl hX) (RE.pe hX a) (RO.po hX lo) (RO.po hX hi), ha ω G0 H0 σ G H _ _ E hp fun x v G1 H1 h1 e1 r1 => ?_⟩
  refine hl ω G0 H0 σ G1 H1 _ _ (E.step e1) h1 fun l G2 H2 h2 e2 => ?_
  refine hh ω G0 H0 σ G2 H2 _ _ ((E.step e1).step e2) h2 fun u G3 H3 h3 e3 => ?_
  exact hs ω G3 H3 x v l u P Q e3.self ((r1.ext e2).ext e3) h3 fun d v' G' H' hP e4 r => q d v' G' H' hP (((e1.trans e2).trans e3).trans e4) r
end

/-! ### defs -/
inductive ArgsOk (ω : Option Addr) (K : PySem.W.Frag) (G : Hp) : List V → List Ct → Prop
  | nil : ArgsOk ω K G [] []
  | val {v : V} {vs : List V} {d : D} {cs : List Ct} : Rp K G v d → ArgsOk ω K G vs cs → ArgsOk ω K G (v :: vs) (.val d :: cs)
  | scr {a : Addr} {ns : List Int} {vs : List V} {cs : List Ct} : SqL K G a (ns.map V.int) → ArgsOk ω K G vs cs → ArgsOk ω K G (.ref a :: vs) (.scr ns :: cs)
  | drw {o : Addr} {vs : List V} {cs : List Ct} : ω = some o → ArgsOk ω K G vs cs → ArgsOk ω K G (.ref o :: vs) (.drw :: cs)
theorem ArgsOk.ext {ω : Option Addr} {K : PySem.W.Frag} {G H G' H' : Hp} {vs : List V} {cs : List Ct} (h : ArgsOk ω K G vs cs) (e : Ext ω K G H G' H') : ArgsOk ω K G' vs cs := by
  induction h with
  | nil => exact .nil
  | val r _ ih => exact .val (r.ext e) ih
  | drw r _ ih => exact .drw r ih
  | scr r _ ih => exact .scr ((Le.of_same e.gg).sqL r) ih
theorem ArgsOk.length {ω : Option Addr} {K : PySem.W.Frag} {G : Hp} {vs : List V} {cs : List Ct} (h : ArgsOk ω K G vs cs) : vs.length = cs.length := by
  induction h with
  | nil => rfl
  | val r _ ih => exact congrArg (· + 1) ih
  | drw r _ ih => exact congrArg (· + 1) ih
  | scr r _ ih => exact congrArg (· + 1) ih
theorem ArgsOk.at_ {ω : Option Addr} {K : PySem.W.Frag} {G H0 H : Hp} {vs : List V} {cs : List Ct} (h : ArgsOk ω K G vs cs) : ∀ (i : Nat) c, cs[i]? = some c → ∃ v, vs[i]? = some v ∧ CtOk ω K H0 G H c v ∧ ∀ d, c ≠ .own d := by
  induction h with
  | nil => intro i c h; simp at h
  | val r _ ih =>
    intro i c h
    cases i with
    | zero => simp at h; subst h; exact ⟨_, rfl, r, fun _ e => nomatch e⟩
    | succ i => simpa using ih i c (by simpa using h)
  | scr r _ ih =>
    intro i c h
    cases i with
    | zero => simp at h; subst h; exact ⟨_, rfl, ⟨_, rfl, r⟩, fun _ e => nomatch e⟩
    | succ i => simpa using ih i c (by simpa using h)
  | drw r _ ih =>
    intro i c h
    cases i with
    | zero => simp at h; subst h; exact ⟨_, rfl, ⟨_, rfl, r⟩, fun _ e => nomatch e⟩
    | succ i => simpa using ih i c (by simpa using h)
def spD (K : PySem.W.Frag) (n : Nat) (mf : List Ct → M D) : Sp := fun vs H Q _ => vs.length = n ∧ ∃ (ω : Option Addr) (cs : List Ct) (G : Hp) (P : D → Prop), mf cs P ∧ ArgsOk ω K G vs cs ∧ Ext ω K G H G H ∧
  ∀ d v G' H', P d → Ext ω K G H G' H' → Rp K G' v d → Q v H'
structure FnD (P : Program) (w : World) (K : PySem.W.Frag) (mg : Str → Option Value) (base : Heap) (x : Str) (j n : Nat) (mf : List Ct → M D) : Prop where
  ex : ∃ (f : Addr) (fd : FuncData) (ps : List Str), FnOk P w K mg base CX0 j f fd ps (spD K n mf) ∧ mg x = some (.ref f) ∧ PySem.W.keepIn K (.ref f) = true ∧ Binds K fd ps []
theorem start_get {N : List Str} {vs : List V} {i : Nat} {v : V} (h : vs[i]? = some v) : (L2.start N vs)[i]? = some (some v) := by
  obtain ⟨hi, e⟩ := List.getElem?_eq_some_iff.mp h
  unfold L2.start
  rw [List.getElem?_append_left (by simpa using hi), List.getElem?_map, h]
  rfl
/-- a def keeps its promise by its body -/
theorem fn_ok {P : Program} {w : World} {K : PySem.W.Frag} {mg : Str → Option Value} {base : Heap} {x qual : Str} {st : Stmt} {f : Addr} {fd : FuncData} {N ps : List Str} {k n : Nat} {mf : List Ct → M D} (F : Fun K x qual st f fd) (Sc : FnScope N ps (defScope st)) (hn : ps.length = n) (hN : n ≤ N.length)
    (hb : ∀ cs : List Ct, cs.length = n → W ⟨P, w, K, mg, base, N, defScope st, k, fun _ => true⟩ (cs.map some ++ List.replicate (N.length - n) none) (defBody st) (mf cs) Out.rt) : FnOk P w K mg base CX0 (k + 1) f fd ps (spD K n mf) := by
  refine F.ok Sc (fun vs H Q E h => by rw [hn]; exact h.1) (fun cdv A outer s H vs Q E hr h => ?_)
  obtain ⟨hl, ω, cs, G, P', hm, ha, hx, q⟩ := h
  have hcl : cs.length = n := by rw [← ha.length]; exact hl
  refine ⟨RS ⟨P, w, K, mg, base, N, defScope st, k, fun _ => true⟩ (defBody st), RS.ps ⟨rfl, rfl, rfl, rfl, rfl, rfl, rfl, rfl, hr, rfl, rfl, Sc.nd⟩ _, ?_⟩
  refine hb cs hcl ω G H (L2.start N vs) G H P' _ ⟨hx, ?_, fun i c h => ?_, fun i j d e v hi _ _ _ => ?_⟩ hm fun r hP v G' H' e rr => q r v G' H' hP e rr
  · unfold L2.start
    simp only [List.length_append, List.length_map, List.length_replicate]
    omega
  · by_cases hi : i < cs.length
    · rw [List.getElem?_append_left (by simpa using hi), List.getElem?_map] at h
      obtain ⟨c', e1, e2⟩ := Option.map_eq_some_iff.mp h
      cases e2
      obtain ⟨v, h1, h2, _⟩ := ha.at_ (H0 := H) (H := H) i c e1
      exact ⟨v, start_get h1, h2⟩
    · rw [List.getElem?_append_right (by simpa using hi)] at h
      have := List.mem_of_getElem? h
      rw [List.mem_replicate] at this
      cases this.2
  · exfalso
    by_cases hi' : i < cs.length
    · rw [List.getElem?_append_left (by simpa using hi'), List.getElem?_map] at hi
      obtain ⟨c', e1, e2⟩ := Option.map_eq_some_iff.mp hi
      cases e2
      obtain ⟨v, h1, h2, h3⟩ := ha.at_ (H0 := H) (H := H) i _ e1
      exact h3 d rfl
    · rw [List.getElem?_append_right (by simpa using hi')] at hi
      have := List.mem_of_getElem? hi
      rw [List.mem_replicate] at this
      cases this.2
section
variable {S : Sg} {Γ : En} {e a b c : Expr} {m ma mb mc : M D} {ta tb tc : M Bool} {pos : Pos} {es rest : List Expr}
def WC (S : Sg) (Γ : En) (es : List Expr) (m : M (List Ct)) : Prop := ∀ (ω : Option Addr) (G0 H0 : Hp) (σ : L2.St) (G H : Hp) (P : List Ct → Prop) (Q : List V → Hp → Prop), EnvOk ω S.K G0 H0 Γ σ G H → m P →
  (∀ cs vs G' H', P cs → Ext ω S.K G H G' H' → ArgsOk ω S.K G' vs cs → cs.length = es.length → Q vs H') → RA S es σ H Q
theorem wc_nil : WC S Γ [] (M.pure []) := fun ω G0 H0 σ G H P Q E hm q => ⟨_, fun X hX => pa_nil, q [] [] G H hm E.self .nil rfl⟩
theorem wc_val {ms : M (List Ct)} (ha : WE S Γ a ma) (hs : WC S Γ es ms) (he : ∀ env, starEach (a :: es) env = (false, eval a env) :: starEach es env := by intro _; rfl) :
    WC S Γ (a :: es) (ma.bind fun x => ms.bind fun xs => M.pure (.val x :: xs)) := by
  intro ω G0 H0 σ G H P Q E hm q
  refine ⟨_, fun X hX => pa_cons (RE.pe hX a) (RA.pa hX es) (he _), ?_⟩
  refine ha ω G0 H0 σ G H _ _ E hm fun x v G1 H1 hx e1 r1 => ?_
  refine hs ω G0 H0 σ G1 H1 _ _ (E.step e1) hx fun xs vs G2 H2 hy e2 r2 l2 => ?_
  exact q (.val x :: xs) (v :: vs) G2 H2 hy (e1.trans e2) (.val (r1.ext e2) r2) (congrArg (· + 1) l2)
theorem wc_drw {ms : M (List Ct)} {i : Nat} {x : Str} (h : VarAt S i x) (hi : Γ[i]? = some (some .drw)) (hs : WC S Γ es ms) (he : ∀ env, starEach (.Name x pos :: es) env = (false, eval (.Name x pos) env) :: starEach es env := by intro _; rfl) :
    WC S Γ (.Name x pos :: es) (ms.bind fun xs => M.pure (.drw :: xs)) := by
  intro ω G0 H0 σ G H P Q E hm q
  obtain ⟨v, h1, o, rfl, ho⟩ := E.sl i _ hi
  refine ⟨_, fun X hX => pa_cons (pe_var (i := i) (by rw [hX.N]; exact h.n) (by rw [hX.sc]; exact h.v) h.d h.c) (RA.pa hX es) (he _), .ref o, h1, ?_⟩
  refine hs ω G0 H0 σ G H _ _ E hm fun xs vs G2 H2 hy e2 r2 l2 => ?_
  exact q (.drw :: xs) (.ref o :: vs) G2 H2 hy e2 (.drw ho r2) (congrArg (· + 1) l2)
theorem wc_scr {ms : M (List Ct)} {i : Nat} {x : Str} {ns : List Int} (h : VarAt S i x) (hi : Γ[i]? = some (some (.scr ns))) (hs : WC S Γ es ms) (he : ∀ env, starEach (.Name x pos :: es) env = (false, eval (.Name x pos) env) :: starEach es env := by intro _; rfl) :
    WC S Γ (.Name x pos :: es) (ms.bind fun xs => M.pure (.scr ns :: xs)) := by
  intro ω G0 H0 σ G H P Q E hm q
  obtain ⟨v, h1, o, rfl, ho⟩ := E.sl i _ hi
  refine ⟨_, fun X hX => pa_cons (pe_var (i := i) (by rw [hX.N]; exact h.n) (by rw [hX.sc]; exact h.v) h.d h.c) (RA.pa hX es) (he _), .ref o, h1, ?_⟩
  refine hs ω G0 H0 σ G H _ _ E hm fun xs vs G2 H2 hy e2 r2 l2 => ?_
  exact q (.scr ns :: xs) (.ref o :: vs) G2 H2 hy e2 (.scr ((Le.of_same e2.gg).sqL ho) r2) (congrArg (· + 1) l2)
theorem we_call {x : Str} {j n : Nat} {mf : List Ct → M D} {p : Pos} {ms : M (List Ct)} (F : FnD S.P S.w S.K S.mg S.base x j n mf) (hg : S.sc.names.lookup x = some .globalImplicit) (hj : j ≤ S.k) (hl : (a :: es).length = n) (hs : WC S Γ (a :: es) ms)
    (hdb : (x == ("__debug__" : Str)) = false) (he : ∀ env, starEach (a :: es) env = (false, eval a env) :: starEach es env := by intro _; rfl) (hpl : ∀ env, (backTo pos (starEach es env)).any (·.1) = false := by intro _; rfl) :
    WE S Γ (.Call (.Name x p) (a :: es) [] pos) (ms.bind fun cs => mf cs) := by
  intro ω G0 H0 σ G H P Q E hm q
  obtain ⟨f, fd, ps, F, hmg, hk, hb⟩ := F.ex
  refine ⟨_, fun X hX => pe_call (X := X) (CX := CX0) (sp := spD S.K n mf) (dvs := []) (ds := []) (E := E0) (by rw [hX.prog, hX.w, hX.K, hX.mg, hX.base]; exact F.mono hj) hX.room (gl_of hX hg) (by rw [hX.mg]; exact hmg) (by rw [hX.K]; exact hk) (by rw [hX.K]; exact hb) .nil pass0 (RA.pa hX (a :: es)) hdb (he _) (hpl _), ?_⟩
  refine hs ω G0 H0 σ G H _ _ E hm fun cs vs G1 H1 hc e1 r1 l1 => ?_
  have l2 := r1.length
  show spD S.K n mf (vs ++ []) H1 Q E0
  rw [List.append_nil]
  exact ⟨by omega, ω, cs, G1, P, hc, r1, e1.self, fun d v G' H' hP e2 r => q d v G' H' hP (e1.trans e2) r⟩
end

/-! ### blocks -/
section
variable {ρ : Type} {S : Sg} {Γ Γ' : En} {e a b c : Expr} {m ma mb mc : M D} {ta tb tc : M Bool} {pos pos' : Pos} {es : List Expr} {rest A B : List Stmt} {ι : ρ → Out}
theorem rs_cons {st : Stmt} {sts : List Stmt} {t : TS} {D : Ends} {σ : L2.St} {H : Hp} (h : ∀ X, S.Of X → PS X st t) (q : t { D with nx := RS S sts D } σ H) : RS S (st :: sts) D σ H :=
  ⟨_, fun X hX => pss_cons (h X hX) (RS.ps hX sts), q⟩
/-- the end of a block; names may be forgotten -/
theorem w_nil (ks : List Bool) {r : ρ} (hr : ι r = .nx (maskE ks Γ) := by rfl) (hl : ks.length = Γ.length := by rfl) : W S Γ [] (M.pure r) ι := by
  intro ω G0 H0 σ G H P Dn E hm q
  refine ⟨_, fun X hX => pss_nil, ?_⟩
  have z := q r hm
  rw [hr] at z
  refine z σ G H (E.weak ?_ fun i c h => maskE_get h)
  have : ∀ (ks : List Bool) (Γ : En), ks.length = Γ.length → (maskE ks Γ).length = Γ.length := by
    intro ks
    induction ks with
    | nil => intro Γ h; cases Γ <;> simp_all [maskE]
    | cons k ks ih => intro Γ h; cases Γ <;> simp_all [maskE]
  exact this ks Γ hl
theorem w_ret (he : WE S Γ e me) : W S Γ (.Return (some e) pos :: rest) me Out.rt := by
  intro ω G0 H0 σ G H P Dn E hm q
  refine rs_cons (fun X hX => ps_ret (RE.pe hX e)) (he ω G0 H0 σ G H P _ E hm fun d v G1 H1 hP e1 r1 => ?_)
  exact q d hP v G1 H1 (E.ext.trans e1) r1
/-- return out of a loop's turn, or where the block's kind of end is another -/
theorem w_retF {f : D → ρ} (he : WE S Γ e me) (hf : ∀ d, ι (f d) = .rt d := by intro _; rfl) : W S Γ (.Return (some e) pos :: rest) (me.bind fun d => M.pure (f d)) ι := by
  intro ω G0 H0 σ G H P Dn E hm q
  refine rs_cons (fun X hX => ps_ret (RE.pe hX e)) (he ω G0 H0 σ G H _ _ E hm fun d v G1 H1 hP e1 r1 => ?_)
  have z := q (f d) hP
  rw [hf d] at z
  exact z v G1 H1 (E.ext.trans e1) r1
/-- a block's outcome told otherwise -/
theorem w_map {ρ' : Type} {ι' : ρ' → Out} {m : M ρ} {f : ρ → ρ'} {sts : List Stmt} (h : W S Γ sts m ι) (hf : ∀ r, ι' (f r) = ι r := by intro _; rfl) : W S Γ sts (m.bind fun r => M.pure (f r)) ι' := by
  intro ω G0 H0 σ G H P Dn E hm q
  refine h ω G0 H0 σ G H _ Dn E hm fun r hr => ?_
  rw [← hf r]
  exact q (f r) hr
theorem w_cont (ks : List Bool) {r : ρ} (hr : ι r = .ct (maskE ks Γ) := by rfl) (hl : ks.length = Γ.length := by rfl) : W S Γ (.Continue pos :: rest) (M.pure r) ι := by
  intro ω G0 H0 σ G H P Dn E hm q
  refine rs_cons (fun X hX => ps_continue) ?_
  have z := q r hm
  rw [hr] at z
  refine z σ G H (E.weak ?_ fun i c h => maskE_get h)
  have : ∀ (ks : List Bool) (Γ : En), ks.length = Γ.length → (maskE ks Γ).length = Γ.length := by
    intro ks
    induction ks with
    | nil => intro Γ h; cases Γ <;> simp_all [maskE]
    | cons k ks ih => intro Γ h; cases Γ <;> simp_all [maskE]
  exact this ks Γ hl
theorem w_brk (ks : List Bool) {r : ρ} (hr : ι r = .bk (maskE ks Γ) := by rfl) (hl : ks.length = Γ.length := by rfl) : W S Γ (.Break pos :: rest) (M.pure r) ι := by
  intro ω G0 H0 σ G H P Dn E hm q
  refine rs_cons (fun X hX => ps_break) ?_
  have z := q r hm
  rw [hr] at z
  refine z σ G H (E.weak ?_ fun i c h => maskE_get h)
  have : ∀ (ks : List Bool) (Γ : En), ks.length = Γ.length → (maskE ks Γ).length = Γ.length := by
    intro ks
    induction ks with
    | nil => intro Γ h; cases Γ <;> simp_all [maskE]
    | cons k ks ih => intro Γ h; cases Γ <;> simp_all [maskE]
  exact this ks Γ hl
structure SetAt (S : Sg) (i : Nat) (x : Str) : Prop where
  n : S.N[i]? = some x
  l : Loc S.sc x
  f : S.fn x = true ∨ S.sc.names.lookup x = some .local
theorem SetAt.fx {X : Cx} {i : Nat} {x : Str} (h : SetAt S i x) (hX : S.Of X) : X.fn x = true ∨ X.env.scope.names.lookup x = some .local := by
  rw [hX.fn, hX.sc]; exact h.f
/-- x = e -/
theorem w_set {i : Nat} {x : Str} {k : D → M ρ} (hx : SetAt S i x) (he : WE S Γ e me) (hk : ∀ d, W S (Γ.set i (some (.val d))) rest (k d) ι) (hs : ∀ env, swapsWith e (some (.Name x pos')) pos.line env = pure false := by intro _; rfl) :
    W S Γ (.Assign [.Name x pos'] e pos :: rest) (me.bind k) ι := by
  intro ω G0 H0 σ G H P Dn E hm q
  refine rs_cons (fun X hX => ps_set (i := i) (by rw [hX.N]; exact hX.nd) (by rw [hX.N]; exact hx.n) (by rw [hX.sc]; exact hx.l) (RE.pe hX e) (hs _) (hx.fx hX)) ?_
  refine he ω G0 H0 σ G H _ _ E hm fun d v G1 H1 hP e1 r1 => ?_
  exact hk d ω G0 H0 _ G1 H1 P Dn ((E.step e1).putV r1) hP q
/-- x = e, another's own thing at last -/
theorem w_expr {k : D → M ρ} (he : WE S Γ e me) (hk : ∀ d, W S Γ rest (k d) ι) (hs : ∀ env, swapsWith e none pos.line env = pure false := by intro _; rfl) : W S Γ (.Expr e pos :: rest) (me.bind k) ι := by
  intro ω G0 H0 σ G H P Dn E hm q
  refine rs_cons (fun X hX => ps_expr (RE.pe hX e) (hs _)) ?_
  refine he ω G0 H0 σ G H _ _ E hm fun d v G1 H1 hP e1 r1 => ?_
  exact hk d ω G0 H0 _ G1 H1 P Dn (E.step e1) hP q
theorem w_pass {m : M ρ} (hk : W S Γ rest m ι) : W S Γ (.Pass pos :: rest) m ι := fun ω G0 H0 σ G H P Dn E hm q =>
  rs_cons (fun X hX => ps_pass) (hk ω G0 H0 σ G H P Dn E hm q)
theorem w_frz (i : Nat) {d : D} {sts : List Stmt} {m : M ρ} (hi : Γ[i]? = some (some (.own d))) (h : W S (Γ.set i (some (.val d))) sts m ι) : W S Γ sts m ι := by
  intro ω G0 H0 σ G H P Dn E hm q
  obtain ⟨G', _, E'⟩ := E.freeze hi
  exact h ω G0 H0 σ G' H P Dn E' hm q
/-- what follows a way's end -/
def Goes (S : Sg) (rest : List Stmt) (ι : ρ → Out) (m : M ρ) : Out → Prop
  | .nx Γ' => W S Γ' rest m ι
  | o => ∃ r', m = M.pure r' ∧ ι r' = o
theorem goes_post {ρA : Type} {ιA : ρA → Out} {kA : ρA → M ρ} {sts : List Stmt} {mA : M ρA} (ha : W S Γ sts mA ιA) (hk : ∀ r, Goes S rest ι (kA r) (ιA r)) {ω : Option Addr} {G0 H0 G H : Hp} {σ : L2.St} {P : ρ → Prop} {Dn : Ends} (E : EnvOk ω S.K G0 H0 Γ σ G H) (hm : (mA.bind kA) P)
    (q : ∀ r, P r → Post ω S.K G0 H0 Dn (ι r)) : RS S sts { Dn with nx := RS S rest Dn } σ H := by
  refine ha ω G0 H0 σ G H _ _ E hm fun r hr => ?_
  have g := hk r
  generalize ιA r = o at g
  cases o with
  | nx Γ' => exact fun σ' G' H' E' => g ω G0 H0 σ' G' H' P Dn E' hr q
  | rt d =>
    obtain ⟨r', e1, e2⟩ := g
    rw [e1] at hr
    have z := q r' hr
    rw [e2] at z
    exact z
  | bk Γ' =>
    obtain ⟨r', e1, e2⟩ := g
    rw [e1] at hr
    have z := q r' hr
    rw [e2] at z
    exact z
  | ct Γ' =>
    obtain ⟨r', e1, e2⟩ := g
    rw [e1] at hr
    have z := q r' hr
    rw [e2] at z
    exact z
theorem w_if {ρA ρB : Type} {ιA : ρA → Out} {ιB : ρB → Out} {mA : M ρA} {mB : M ρB} {kA : ρA → M ρ} {kB : ρB → M ρ} (hc : WT S Γ c tc) (ha : W S Γ A mA ιA) (hb : W S Γ B mB ιB) (hA : ∀ r, Goes S rest ι (kA r) (ιA r)) (hB : ∀ r, Goes S rest ι (kB r) (ιB r)) :
    W S Γ (.If c A B pos :: rest) (tc.bind fun k => bif k then mA.bind kA else mB.bind kB) ι := by
  intro ω G0 H0 σ G H P Dn E hm q
  refine rs_cons (fun X hX => ps_if (RT.pt hX c) (RS.ps hX A) (RS.ps hX B)) ?_
  refine hc ω G0 H0 σ G H _ _ E hm fun k G1 H1 hk e1 => ?_
  cases k with
  | true => rw [if_pos rfl]; exact goes_post ha hA (E.step e1) hk q
  | false => rw [if_neg Bool.false_ne_true]; exact goes_post hb hB (E.step e1) hk q
/-- a block of nothing -/
theorem w_none : W S Γ [] (M.pure ()) (fun _ => Out.nx Γ) := fun ω G0 H0 σ G H P Dn E hm q => ⟨_, fun X hX => pss_nil, q () hm σ G H E⟩
/-- if c: (returns) -/
theorem w_ifR {m1 m2 : M D} (hc : WT S Γ c tc) (ha : W S Γ A m1 Out.rt) (hr : W S Γ rest m2 Out.rt) : W S Γ (.If c A [] pos :: rest) (tc.bind fun k => bif k then m1 else m2) Out.rt :=
  w_if (mA := m1) (mB := M.pure ()) (kA := M.pure) (kB := fun _ => m2) hc ha w_none (fun r => ⟨r, rfl, rfl⟩) fun _ => hr
/-- if c: (leaves), its end told otherwise -/
theorem w_ifE {ρA : Type} {ιA : ρA → Out} {m1 : M ρA} {m2 : M ρ} {f : ρA → ρ} (hc : WT S Γ c tc) (ha : W S Γ A m1 ιA) (hr : W S Γ rest m2 ι) (hf : ∀ r, ι (f r) = ιA r := by intro _; rfl) (hn : ∀ r Γ', ιA r ≠ .nx Γ' := by intro _ _ e; cases e) :
    W S Γ (.If c A [] pos :: rest) (tc.bind fun k => bif k then m1.bind fun r => M.pure (f r) else m2) ι :=
  w_if (mA := m1) (mB := M.pure ()) (kA := fun r => M.pure (f r)) (kB := fun _ => m2) hc ha w_none (fun r => by
    have h := hn r
    have e := hf r
    generalize ιA r = o at h e
    cases o with
    | nx Γ' => exact absurd rfl (h Γ')
    | _ => exact ⟨_, rfl, e⟩) fun _ => hr
/-- both ways meet -/
theorem w_ifJ {α : Type} {m1 m2 : M α} {g : α → En} {k : α → M ρ} (hc : WT S Γ c tc) (ha : W S Γ A m1 (fun x => .nx (g x))) (hb : W S Γ B m2 (fun x => .nx (g x))) (hr : ∀ x, W S (g x) rest (k x) ι) :
    W S Γ (.If c A B pos :: rest) ((tc.bind fun b => bif b then m1 else m2).bind k) ι := by
  intro ω G0 H0 σ G H P Dn E hm q
  refine w_if (mA := m1) (mB := m2) (kA := k) (kB := k) hc ha hb hr hr ω G0 H0 σ G H P Dn E ?_ q
  refine (show tc _ from ?_)
  have hm' : tc (fun b => (bif b then m1 else m2) fun x => k x P) := hm
  have : (fun b => (bif b then m1 else m2) fun x => k x P) = fun b => (bif b then m1.bind k else m2.bind k) P := by funext b; cases b <;> rfl
  rw [this] at hm'
  exact hm'
/-- the last statement: nothing follows -/
theorem w_ifL {m1 m2 : M ρ} (hc : WT S Γ c tc) (ha : W S Γ A m1 ι) (hb : W S Γ B m2 ι) : W S Γ [.If c A B pos] (tc.bind fun k => bif k then m1 else m2) ι := by
  intro ω G0 H0 σ G H P Dn E hm q
  refine ⟨_, fun X hX => pss_one (ps_if (RT.pt hX c) (RS.ps hX A) (RS.ps hX B)), ?_⟩
  refine hc ω G0 H0 σ G H _ _ E hm fun k G1 H1 hk e1 => ?_
  cases k with
  | true => rw [if_pos rfl]; exact ha ω G0 H0 σ G1 H1 P Dn (E.step e1) hk q
  | false => rw [if_neg Bool.false_ne_true]; exact hb ω G0 H0 σ G1 H1 P Dn (E.step e1) hk q
/-- if c: A else: B, then rest; A leaves (as told by f), B goes on -/
theorem w_ifER {ρA ρB : Type} {ιA : ρA → Out} {ιB : ρB → Out} {m1 : M ρA} {m2 : M ρB} {k : ρB → M ρ} {f : ρA → ρ} (hc : WT S Γ c tc) (ha : W S Γ A m1 ιA) (hb : W S Γ B m2 ιB) (hr : ∀ r, Goes S rest ι (k r) (ιB r)) (hf : ∀ r, ι (f r) = ιA r := by intro _; rfl) (hn : ∀ r Γ', ιA r ≠ .nx Γ' := by intro _ _ e; cases e) :
    W S Γ (.If c A B pos :: rest) (tc.bind fun k' => bif k' then m1.bind fun r => M.pure (f r) else m2.bind k) ι :=
  w_if (mA := m1) (mB := m2) (kA := fun r => M.pure (f r)) (kB := k) hc ha hb (fun r => by
    have h := hn r
    have e := hf r
    generalize ιA r = o at h e
    cases o with
    | nx Γ' => exact absurd rfl (h Γ')
    | _ => exact ⟨_, rfl, e⟩) hr
end
end Wp
namespace Wp
open PySem PySem.Spec PyProof.Rows L2

/-! ### what a loop walks -/
/-- wherever the known heap has grown from G1 (and, where the walked thing may be one's own, the heap from H1), the iterator gives the items of ds -/
def aOf (ω : Option Addr) (own : Bool) : Addr → Prop := fun b => own = true ∧ some b ≠ ω
structure ItOk (ω : Option Addr) (K : PySem.W.Frag) (A : Addr → Prop) (J : It) (ds : List D) (G1 H1 : Hp) : Prop where
  ln : ds.length ≤ sizeLine
  go : ∀ i Gc Hc, Same G1 Gc → Ext ω K Gc Hc Gc Hc → (∀ a u, A a → H1 a = some u → Hc a = some u) → i < ds.length → J.go i Hc
  stop : ∀ Gc Hc, Same G1 Gc → Ext ω K Gc Hc Gc Hc → (∀ a u, A a → H1 a = some u → Hc a = some u) → J.stop ds.length Hc
  yld : ∀ i Gc Hc v H' (hi : i < ds.length), Same G1 Gc → Ext ω K Gc Hc Gc Hc → (∀ a u, A a → H1 a = some u → Hc a = some u) → J.yld i Hc v H' → ∃ G', Ext ω K Gc Hc G' H' ∧ Rp K G' v ds[i]
def WI (S : Sg) (Γ : En) (own : Bool) (tg it : Expr) (m : M (List D)) : Prop := ∀ (ω : Option Addr) (G0 H0 : Hp) (σ : L2.St) (G H : Hp) (P : List D → Prop) (R : It → Hp → Prop), EnvOk ω S.K G0 H0 Γ σ G H → m P →
  (∀ ds J G' H', P ds → Ext ω S.K G H G' H' → ItOk ω S.K (aOf ω own) J ds G' H' → R J H') → RI S tg it σ H R
theorem ItOk.own {ω : Option Addr} {K : PySem.W.Frag} {A B : Addr → Prop} {J : It} {ds : List D} {G1 H1 : Hp} (h : ItOk ω K A J ds G1 H1) (hA : ∀ b, A b → B b) : ItOk ω K B J ds G1 H1 :=
  ⟨h.ln, fun i Gc Hc a b z => h.go i Gc Hc a b (fun c u q => z c u (hA c q)), fun Gc Hc a b z => h.stop Gc Hc a b (fun c u q => z c u (hA c q)), fun i Gc Hc v H' hi a b z => h.yld i Gc Hc v H' hi a b (fun c u q => z c u (hA c q))⟩
section
variable {S : Sg} {Γ : En} {ow : Bool} {tg it e a b c : Expr} {m ma mb mc : M D} {ms : M (List D)} {pos : Pos}
theorem WI.own (h : WI S Γ false tg it ms) : WI S Γ true tg it ms := fun ω G0 H0 σ G H P R E hm q => h ω G0 H0 σ G H P R E hm fun ds J G' H' hP e i => q ds J G' H' hP e (i.own fun b h => ⟨rfl, h.2⟩)
def asL : D → M (List D)
  | .list ds => M.pure ds
  | _ => M.fail
def asT : D → M (List D)
  | .tuple ds => M.pure ds
  | _ => M.fail
theorem it_list {ω : Option Addr} {K : PySem.W.Frag} {G1 H1 : Hp} {p : Addr} {xs : List V} {ds : List D} {A : Addr → Prop} (r : RpA K G1 xs ds) (z : ds.length ≤ sizeLine) (s : ∀ Gc Hc, Same G1 Gc → Ext ω K Gc Hc Gc Hc → (∀ a u, A a → H1 a = some u → Hc a = some u) → SqL K Hc p xs) : ItOk ω K A (Itl K p) ds G1 H1 where
  ln := z
  go := fun i Gc Hc h1 h2 h3 hi => by
    have hl := r.length
    exact ⟨xs, xs[i], s Gc Hc h1 h2 h3, List.getElem?_eq_getElem (by omega)⟩
  stop := fun Gc Hc h1 h2 h3 => ⟨xs, s Gc Hc h1 h2 h3, by rw [r.length]; exact Nat.le_refl _⟩
  yld := fun i Gc Hc v H' hi h1 h2 h3 y => by
    obtain ⟨rfl, y⟩ := y
    obtain ⟨d, e1, e2⟩ := r.get (y xs (s Gc _ h1 h2 h3))
    rw [List.getElem?_eq_getElem hi] at e1
    cases e1
    exact ⟨Gc, h2, Rp.le (h1) _ e2⟩
theorem it_tup {ω : Option Addr} {K : PySem.W.Frag} {G1 H1 : Hp} {p : Addr} {xs : List V} {ds : List D} {A : Addr → Prop} (r : RpA K G1 xs ds) (z : ds.length ≤ sizeLine) (s : ∀ Gc Hc, Same G1 Gc → Ext ω K Gc Hc Gc Hc → (∀ a u, A a → H1 a = some u → Hc a = some u) → SqT K Hc p xs) : ItOk ω K A (Itt K p) ds G1 H1 where
  ln := z
  go := fun i Gc Hc h1 h2 h3 hi => by
    have hl := r.length
    exact ⟨xs, xs[i], s Gc Hc h1 h2 h3, List.getElem?_eq_getElem (by omega)⟩
  stop := fun Gc Hc h1 h2 h3 => ⟨xs, s Gc Hc h1 h2 h3, by rw [r.length]; exact Nat.le_refl _⟩
  yld := fun i Gc Hc v H' hi h1 h2 h3 y => by
    obtain ⟨rfl, y⟩ := y
    obtain ⟨d, e1, e2⟩ := r.get (y xs (s Gc _ h1 h2 h3))
    rw [List.getElem?_eq_getElem hi] at e1
    cases e1
    exact ⟨Gc, h2, Rp.le (h1) _ e2⟩
theorem sq_frz {K : PySem.W.Frag} {ω : Option Addr} {G1 Gc Hc : Hp} {p : Addr} {xs : List V} (s : SqL K G1 p xs) (h1 : Same G1 Gc) (h2 : Ext ω K Gc Hc Gc Hc) : SqL K Hc p xs := h2.le.sqL ((Le.of_same h1).sqL s)
theorem sqt_frz {K : PySem.W.Frag} {ω : Option Addr} {G1 Gc Hc : Hp} {p : Addr} {xs : List V} (s : SqT K G1 p xs) (h1 : Same G1 Gc) (h2 : Ext ω K Gc Hc Gc Hc) : SqT K Hc p xs := h2.le.sqT ((Le.of_same h1).sqT s)
/-- over a list -/
theorem wi_list (he : WE S Γ e m) : WI S Γ ow tg e (m.bind fun x => asL x) := by
  intro ω G0 H0 σ G H P R E hm q
  refine ⟨_, fun X hX => hX.K ▸ pi_list (RE.pe hX e), he ω G0 H0 σ G H _ _ E hm fun d v G' H' hP e1 r => ?_⟩
  cases r with
  | lst s r z => exact ⟨_, rfl, ⟨_, .inl (e1.le _ _ s)⟩, q _ _ G' H' hP e1 (it_list r z fun Gc Hc h1 h2 _ => sq_frz (.inl s) h1 h2)⟩
  | _ => exact False.elim hP
theorem wi_tup (he : WE S Γ e m) : WI S Γ ow tg e (m.bind fun x => asT x) := by
  intro ω G0 H0 σ G H P R E hm q
  refine ⟨_, fun X hX => hX.K ▸ pi_tup (RE.pe hX e), he ω G0 H0 σ G H _ _ E hm fun d v G' H' hP e1 r => ?_⟩
  cases r with
  | tup s r z => exact ⟨_, rfl, ⟨_, e1.le.sqT s⟩, q _ _ G' H' hP e1 (it_tup r z fun Gc Hc h1 h2 _ => sqt_frz s h1 h2)⟩
  | _ => exact False.elim hP
/-- over a list of one's own -/
theorem wi_own (he : WB S Γ e m) : WI S Γ true tg e (m.bind fun x => asL x) := by
  intro ω G0 H0 σ G H P R E hm q
  refine ⟨_, fun X hX => hX.K ▸ pi_list (RE.pe hX e), he ω G0 H0 σ G H _ _ E hm fun d v G' H' hP e1 r => ?_⟩
  cases d with
  | list ds =>
    rcases r with r | ⟨o, u, h1, h2, h3, h4⟩
    · cases r with
      | lst s r z => exact ⟨_, rfl, ⟨_, .inl (e1.le _ _ s)⟩, q _ _ G' H' hP e1 (it_list r z fun Gc Hc h1 h2 _ => sq_frz (.inl s) h1 h2)⟩
    · cases h4 with
      | lst a z => exact ⟨o, h1, ⟨_, .inl (.inl h3)⟩, q _ _ G' H' hP e1 (it_list a z fun Gc Hc g1 g2 g3 => .inl (.inl (g3 o _ ⟨rfl, h2⟩ h3)))⟩
  | _ => exact False.elim hP
def rangeD (lo hi : Int) : List D := (List.range (hi - lo).toNat).map fun (i : Nat) => .int (lo + (i : Nat))
theorem it_range {ω : Option Addr} {K : PySem.W.Frag} {G1 H1 : Hp} {lo hi : Int} {A : Addr → Prop} (h : (hi - lo).toNat ≤ sizeLine) : ItOk ω K A (Itr lo (hi - lo).toNat) (rangeD lo hi) G1 H1 where
  ln := by simpa [rangeD] using h
  go := fun i Gc Hc h1 h2 h3 hi' => by
    simp [rangeD] at hi'
    show i < (hi - lo).toNat
    omega
  stop := fun Gc Hc h1 h2 h3 => by show _ ≤ _; simp [rangeD]
  yld := fun i Gc Hc v H' hi h1 h2 h3 y => by
    obtain ⟨rfl, y⟩ := y
    refine ⟨Gc, h2, ?_⟩
    have : (rangeD lo _)[i] = .int (lo + (i : Nat)) := by simp [rangeD]
    rw [this, y]
    exact .int _
def rngD (lo hi : Int) : M (List D) := M.need (-4611686018427387904 ≤ lo ∧ lo < 4611686018427387904 ∧ -4611686018427387904 ≤ hi ∧ hi < 4611686018427387904 ∧ hi - lo ≤ 16777216) (M.pure (rangeD lo hi))
theorem wi_range1 {p : Pos} (hb : BltAt S "range" (.type "range")) (ha : WB S Γ a ma) (hs : ∀ env, starEach [a] env = [(false, eval a env)] := by intro _; rfl) : WI S Γ ow tg (.Call (.Name "range" p) [a] [] pos) (ma.bind fun x => (asI x).bind fun i => rngD 0 i) := by
  intro ω G0 H0 σ G H P R E hm q
  refine ⟨_, fun X hX => pi_range1 (gl_of hX hb.g) (by rw [hX.mg]; exact hb.m) (pa_cons (RE.pe hX a) pa_nil (hs _)) (hs _), ?_⟩
  refine ha ω G0 H0 σ G H _ _ E hm fun x v G1 H1 hx e1 r1 => ?_
  cases x with
  | int i =>
    cases r1.int
    obtain ⟨⟨h1, h2, h3, h4, h5⟩, hx⟩ := hx
    refine ⟨i, rfl, by omega, by omega, ?_⟩
    have e : i.toNat = (i - 0).toNat := by simp
    rw [e]
    exact q _ _ G1 H1 hx e1 (it_range (by rw [sizeLine_eq]; omega))
  | _ => exact False.elim hx
theorem wi_range2 {p : Pos} (hb : BltAt S "range" (.type "range")) (ha : WB S Γ a ma) (hb2 : WB S Γ b mb) (hs : ∀ env, starEach [a, b] env = [(false, eval a env), (false, eval b env)] := by intro _; rfl) (hs2 : ∀ env, starEach [b] env = [(false, eval b env)] := by intro _; rfl) :
    WI S Γ ow tg (.Call (.Name "range" p) [a, b] [] pos) (ma.bind fun x => mb.bind fun y => (asI x).bind fun i => (asI y).bind fun j => rngD i j) := by
  intro ω G0 H0 σ G H P R E hm q
  refine ⟨_, fun X hX => pi_range2 (gl_of hX hb.g) (by rw [hX.mg]; exact hb.m) (pa_cons (RE.pe hX a) (pa_cons (RE.pe hX b) pa_nil (hs2 _)) (by rw [hs, hs2])) (hs _) (hs2 _), ?_⟩
  show RE S a σ H fun v H1 => RE S b σ H1 fun u H2 => _
  refine two (f := fun x y => fun P' => ((asI x).bind fun i => (asI y).bind fun j => rngD i j) P) (P := fun _ => True) ha hb2 E hm fun x y v u G1 H1 e1 r1 r2 hx => ?_
  cases x with
  | int i =>
    cases y with
    | int j =>
      cases r1.int
      cases r2.int
      obtain ⟨⟨h1, h2, h3, h4, h5⟩, hx⟩ := hx
      exact ⟨i, j, rfl, ⟨by omega, by omega, by omega, by omega⟩, q _ _ G1 H1 hx e1 (it_range (by rw [sizeLine_eq]; omega))⟩
    | _ => exact False.elim hx
  | _ => exact False.elim hx

/-! ### targets -/
theorem wipe_set_in {i : Nat} {x : Option V} : ∀ {vs : List Nat} {σ : L2.St}, i ∈ vs → L2.wipe (σ.set i x) vs = L2.wipe σ vs
  | [], _, h => by cases h
  | v :: vs, σ, h => by
    show (L2.wipe (σ.set i x) vs).set v none = (L2.wipe σ vs).set v none
    by_cases hv : i ∈ vs
    · rw [wipe_set_in hv]
    · have e : v = i := by
        rcases List.mem_cons.mp h with h | h
        · exact h.symm
        · exact absurd h hv
      subst e
      have out : ∀ {vs : List Nat} {σ : L2.St}, v ∉ vs → L2.wipe (σ.set v x) vs = (L2.wipe σ vs).set v x := by
        intro vs
        induction vs with
        | nil => intro σ _; rfl
        | cons w ws ih =>
          intro σ hn
          simp only [List.mem_cons, not_or] at hn
          show (L2.wipe (σ.set v x) ws).set w none = ((L2.wipe σ ws).set w none).set v x
          rw [ih hn.2, List.set_comm _ _ hn.1]
      rw [out hv, List.set_set]
theorem wipe_wipe : ∀ {vs : List Nat} {σ : L2.St}, L2.wipe (L2.wipe σ vs) vs = L2.wipe σ vs
  | [], _ => rfl
  | v :: vs, σ => by
    show (L2.wipe ((L2.wipe σ vs).set v none) vs).set v none = (L2.wipe σ vs).set v none
    by_cases hv : v ∈ vs
    · rw [wipe_set_in hv, wipe_wipe]
    · have out : ∀ {vs : List Nat} {σ : L2.St}, v ∉ vs → L2.wipe (σ.set v none) vs = (L2.wipe σ vs).set v none := by
        intro vs
        induction vs with
        | nil => intro σ _; rfl
        | cons w ws ih =>
          intro σ hn
          simp only [List.mem_cons, not_or] at hn
          show (L2.wipe (σ.set v none) ws).set w none = ((L2.wipe σ ws).set w none).set v none
          rw [ih hn.2, List.set_comm _ _ hn.1]
      rw [out hv, wipe_wipe, List.set_set]
/-- a target: what it takes a datum apart into, what it stores, where -/
def WG {α : Type} (S : Sg) (tg : Expr) (dec : D → M α) (g : α → En → En) (ts : List Nat) : Prop := ∀ (ω : Option Addr) (G0 H0 : Hp) (Γ : En) (σ : L2.St) (G H : Hp) (v : V) (d : D) (P : α → Prop) (Q : L2.St → Hp → Prop), EnvOk ω S.K G0 H0 Γ σ G H → Rp S.K G v d → dec d P →
  (∀ a σ', P a → EnvOk ω S.K G0 H0 (g a Γ) σ' G H → (∀ vs, (∀ i ∈ ts, i ∈ vs) → L2.wipe σ' vs = L2.wipe σ vs) → Q σ' H) → RG S tg v σ H Q
theorem wg_name {i : Nat} {x : Str} (hx : SetAt S i x) : WG S (.Name x pos) M.pure (fun d Γ => Γ.set i (some (.val d))) [i] := by
  intro ω G0 H0 Γ σ G H v d P Q E r hm q
  exact ⟨_, fun X hX => pg_name (i := i) (by rw [hX.N]; exact hX.nd) (by rw [hX.N]; exact hx.n) (by rw [hX.sc]; exact hx.l) (hx.fx hX), q d _ hm (E.putV r) fun vs h => wipe_set_in (h i (by simp))⟩
def un2 : D → M (D × D)
  | .tuple [a, b] => M.pure (a, b)
  | _ => M.fail
def un3 : D → M (D × D × D)
  | .tuple [a, b, c] => M.pure (a, b, c)
  | _ => M.fail
def un4 : D → M (D × D × D × D)
  | .tuple [a, b, c, d] => M.pure (a, b, c, d)
  | _ => M.fail
variable {p1 p2 p3 p4 : Pos} {kk : Nat}
theorem wg_tup2 {i j : Nat} {x y : Str} (hx : SetAt S i x) (hy : SetAt S j y) : WG S (.Tuple [.Name x p1, .Name y p2] kk pos) un2 (fun d Γ => (Γ.set i (some (.val d.1))).set j (some (.val d.2))) [i, j] := by
  intro ω G0 H0 Γ σ G H v d P Q E r hm q
  match d, hm with
  | .tuple [a, b], hm =>
    refine ⟨gTup S.K 2 (gCons (gName i) (gCons (gName j) gNil)), fun X hX => by
      have hnd : X.N.Nodup := by rw [hX.N]; exact hX.nd
      have h := pg_tup (X := X) (k := kk) (pos := pos) hX.calm (pgs_cons (pg_name (X := X) (i := i) (pos := p1) hnd (by rw [hX.N]; exact hx.n) (by rw [hX.sc]; exact hx.l) (hx.fx hX)) (pgs_cons (pg_name (X := X) (i := j) (pos := p2) hnd (by rw [hX.N]; exact hy.n) (by rw [hX.sc]; exact hy.l) (hy.fx hX)) pgs_nil))
      rw [hX.K] at h; exact h, ?_⟩
    cases r with
    | tup s a z =>
      cases a with
      | cons r1 a => cases a with
        | cons r2 a => cases a; exact ⟨_, _, rfl, E.ext.le.sqT s, rfl, _, _, rfl, _, _, rfl, rfl, q (_, _) _ hm ((E.putV r1).putV r2) fun vs h => by rw [wipe_set_in (h j (by simp)), wipe_set_in (h i (by simp))]⟩
theorem wg_tup3 {i j k : Nat} {x y z : Str} (hx : SetAt S i x) (hy : SetAt S j y) (hz : SetAt S k z) : WG S (.Tuple [.Name x p1, .Name y p2, .Name z p3] kk pos) un3 (fun d Γ => ((Γ.set i (some (.val d.1))).set j (some (.val d.2.1))).set k (some (.val d.2.2))) [i, j, k] := by
  intro ω G0 H0 Γ σ G H v d P Q E r hm q
  match d, hm with
  | .tuple [a, b, c], hm =>
    refine ⟨gTup S.K 3 (gCons (gName i) (gCons (gName j) (gCons (gName k) gNil))), fun X hX => by
      have hnd : X.N.Nodup := by rw [hX.N]; exact hX.nd
      have h := pg_tup (X := X) (k := kk) (pos := pos) hX.calm (pgs_cons (pg_name (X := X) (i := i) (pos := p1) hnd (by rw [hX.N]; exact hx.n) (by rw [hX.sc]; exact hx.l) (hx.fx hX)) (pgs_cons (pg_name (X := X) (i := j) (pos := p2) hnd (by rw [hX.N]; exact hy.n) (by rw [hX.sc]; exact hy.l) (hy.fx hX)) (pgs_cons (pg_name (X := X) (i := k) (pos := p3) hnd (by rw [hX.N]; exact hz.n) (by rw [hX.sc]; exact hz.l) (hz.fx hX)) pgs_nil)))
      rw [hX.K] at h; exact h, ?_⟩
    cases r with
    | tup s a z =>
      cases a with
      | cons r1 a => cases a with
        | cons r2 a => cases a with
          | cons r3 a => cases a; exact ⟨_, _, rfl, E.ext.le.sqT s, rfl, _, _, rfl, _, _, rfl, _, _, rfl, rfl, q (_, _, _) _ hm (((E.putV r1).putV r2).putV r3) fun vs h => by rw [wipe_set_in (h k (by simp)), wipe_set_in (h j (by simp)), wipe_set_in (h i (by simp))]⟩
theorem wg_tup4 {i j k l : Nat} {x y z w : Str} (hx : SetAt S i x) (hy : SetAt S j y) (hz : SetAt S k z) (hw : SetAt S l w) : WG S (.Tuple [.Name x p1, .Name y p2, .Name z p3, .Name w p4] kk pos) un4 (fun d Γ => (((Γ.set i (some (.val d.1))).set j (some (.val d.2.1))).set k (some (.val d.2.2.1))).set l (some (.val d.2.2.2))) [i, j, k, l] := by
  intro ω G0 H0 Γ σ G H v d P Q E r hm q
  match d, hm with
  | .tuple [a, b, c, d], hm =>
    refine ⟨gTup S.K 4 (gCons (gName i) (gCons (gName j) (gCons (gName k) (gCons (gName l) gNil)))), fun X hX => by
      have hnd : X.N.Nodup := by rw [hX.N]; exact hX.nd
      have h := pg_tup (X := X) (k := kk) (pos := pos) hX.calm (pgs_cons (pg_name (X := X) (i := i) (pos := p1) hnd (by rw [hX.N]; exact hx.n) (by rw [hX.sc]; exact hx.l) (hx.fx hX)) (pgs_cons (pg_name (X := X) (i := j) (pos := p2) hnd (by rw [hX.N]; exact hy.n) (by rw [hX.sc]; exact hy.l) (hy.fx hX)) (pgs_cons (pg_name (X := X) (i := k) (pos := p3) hnd (by rw [hX.N]; exact hz.n) (by rw [hX.sc]; exact hz.l) (hz.fx hX)) (pgs_cons (pg_name (X := X) (i := l) (pos := p4) hnd (by rw [hX.N]; exact hw.n) (by rw [hX.sc]; exact hw.l) (hw.fx hX)) pgs_nil))))
      rw [hX.K] at h; exact h, ?_⟩
    cases r with
    | tup s a z =>
      cases a with
      | cons r1 a => cases a with
        | cons r2 a => cases a with
          | cons r3 a => cases a with
            | cons r4 a => cases a; exact ⟨_, _, rfl, E.ext.le.sqT s, rfl, _, _, rfl, _, _, rfl, _, _, rfl, _, _, rfl, rfl, q (_, _, _, _) _ hm ((((E.putV r1).putV r2).putV r3).putV r4) fun vs h => by rw [wipe_set_in (h l (by simp)), wipe_set_in (h k (by simp)), wipe_set_in (h j (by simp)), wipe_set_in (h i (by simp))]⟩
end
end Wp
namespace Wp
open PySem PySem.Spec PyProof.Rows L2

section
variable {ω : Option Addr} {K : PySem.W.Frag} {G H G' H' : Hp} {d : Addr} {o : HO}
theorem Ext.poke (x : Ext ω K G H G' H') (nD : H d = none) (gD : G' d = none) (hω : some d ≠ ω) : Ext ω K G H G' (upd H' d o) where
  gg := x.gg
  hh := fun a u n e => by rw [upd_ne (ne_of_none e nD)]; exact x.hh a u n e
  le := fun a u e => by
    have ha : a ≠ d := fun z => by
      subst z
      rcases e with e | ⟨q, e⟩ <;> (rw [gD] at e; cases e)
    rcases x.le a u e with r | ⟨q, r⟩
    · exact .inl (by rw [upd_ne ha]; exact r)
    · exact .inr ⟨q, by rw [upd_ne ha]; exact r⟩
  fr := x.fr
  dr := fun b e => by
    obtain ⟨g, vd, ds, at_, h1, h2, h3⟩ := x.dr b e
    have hb : b ≠ d := fun z => hω (by rw [← z, e])
    exact ⟨g, vd, ds, at_, by rw [upd_ne hb]; exact h1, h2, h3⟩
theorem Ext.frz (x : Ext ω K G H G' H') (nD : H d = none) (hD : H' d = some o) (hm : ∀ q u, o ≠ .frz q u) (gD : G' d = none) (hω : some d ≠ ω) : Ext ω K G H (upd G' d o) H' where
  gg := fun a u e => by
    have ha : a ≠ d := fun z => by subst z; have := x.gg a u e; rw [gD] at this; cases this
    rw [upd_ne ha]; exact x.gg a u e
  hh := x.hh
  le := fun a u e => by
    by_cases ha : a = d
    · subst ha
      rcases e with e | ⟨q, e⟩
      · rw [upd_same] at e; cases e; exact .inl hD
      · rw [upd_same] at e; cases e; exact absurd rfl (hm q u)
    · refine x.le a u ?_
      rcases e with e | ⟨q, e⟩
      · rw [upd_ne ha] at e; exact .inl e
      · rw [upd_ne ha] at e; exact .inr ⟨q, e⟩
  fr := fun a u e n => by rw [upd_ne (ne_of_none e nD)]; exact x.fr a u e n
  dr := fun b e => by
    obtain ⟨g, vd, ds, at_, h1, h2, h3⟩ := x.dr b e
    have hb : b ≠ d := fun z => hω (by rw [← z, e])
    refine ⟨by rw [upd_ne hb]; exact g, vd, ds, at_, h1, h2.le (fun c u e => ?_), h3⟩
    rw [upd_ne (ne_of_none e gD)]; exact e
end

/-! ### list comprehensions -/
section
variable {S : Sg} {Γ : En} {e a b c elt tg iter : Expr} {ifs : List Expr} {m ma mb mc : M D} {ms : M (List D)} {pos : Pos} {scope : Scope} {own : List (Str × Nat)} {α : Type} {dec : D → M α} {g : α → En → En} {ts : List Nat} {tc : α → M Bool} {f : α → M D}
def WTs (S : Sg) (Γ : En) (es : List Expr) (m : M Bool) : Prop := ∀ (ω : Option Addr) (G0 H0 : Hp) (σ : L2.St) (G H : Hp) (P : Bool → Prop) (Q : Bool → Hp → Prop), EnvOk ω S.K G0 H0 Γ σ G H → m P →
  (∀ b G' H', P b → Ext ω S.K G H G' H' → Q b H') → RTs S es σ H Q
theorem wts_nil : WTs S Γ [] (M.pure true) := fun ω G0 H0 σ G H P Q E hm q => ⟨_, fun X hX => pts_nil, q _ _ _ hm E.self⟩
theorem wts_one {t : M Bool} (h : WT S Γ a t) : WTs S Γ [a] t := fun ω G0 H0 σ G H P Q E hm q => ⟨_, fun X hX => pts_one (RT.pt hX a), h ω G0 H0 σ G H P Q E hm q⟩
abbrev turnM {α : Type} (dec : D → M α) (tc : α → M Bool) (f : α → M D) : D → M (Option D) := fun x => (dec x).bind fun a => (tc a).bind fun b => bif b then (f a).bind fun y => M.pure (some y) else M.pure none
theorem lc_go {wi : TI} (hg : WG (S.blk scope) tg dec g ts) (hts : ∀ i ∈ ts, i ∈ own.map (·.2)) (ht : ∀ a, WTs (S.blk scope) (g a (wipeE Γ (own.map (·.2)))) ifs (tc a)) (he : ∀ a, WE (S.blk scope) (g a (wipeE Γ (own.map (·.2)))) elt (f a))
    {ω : Option Addr} {G0 H0 : Hp} {σ : L2.St} {G H : Hp} {P : D → Prop} {Q : VK} (E : EnvOk ω S.K G0 H0 Γ σ G H)
    (hi : ∀ (P' : List D → Prop) (R : It → Hp → Prop), ms P' → (∀ ds J G' H', P' ds → Ext ω S.K G H G' H' → ItOk ω S.K (aOf ω true) J ds G' H' → R J H') → wi σ H R) (hm : (ms.bind fun xs => (M.filM (turnM dec tc f) xs).bind fun ys => M.pure (.list ys)) P)
    (q : ∀ d v G' H', P d → Ext ω S.K G H G' H' → Rp S.K G' v d → Q v H') : tLc wi (RG (S.blk scope) tg) (RTs (S.blk scope) ifs) (RE (S.blk scope) elt) (own.map (·.2)) σ H Q := by
  generalize hvs : own.map (·.2) = vs at *
  refine hi _ _ hm fun ds J G1 H1 hP e1 it => ?_
  intro Dd nD
  have hω : some Dd ≠ ω := fun z => by
    obtain ⟨_, _, _, _, h, _⟩ := e1.dr Dd z.symm
    rw [nD] at h; cases h
  refine ⟨fun i m H => m = ds.length - i ∧ i ≤ ds.length ∧ ∃ Gc acc ads, Ext ω S.K G1 H1 Gc H ∧ H Dd = some (.lst acc) ∧ Gc Dd = none ∧ RpA S.K Gc acc ads ∧ ads.length ≤ i ∧ M.filM (turnM dec tc f) (ds.drop i) (fun ys => P (.list (ads ++ ys))),
    ⟨ds.length, by simp, Nat.zero_le _, G1, [], [], e1.self.lay nD, upd_same, e1.le.none nD, .nil, Nat.le_refl _, hP⟩, ?_⟩
  rintro i m H ⟨rfl, hi', Gc, acc, ads, x1, hD, gD, ra, la, wp⟩
  have ge : ∀ a u, aOf ω true a → H1 a = some u → H a = some u := fun a u h => x1.hh a u h.2
  by_cases hlt : i < ds.length
  · refine .inr ⟨it.go i Gc H x1.gg x1.self ge hlt, fun H => ∃ Gc acc ads, Ext ω S.K G1 H1 Gc H ∧ H Dd = some (.lst acc) ∧ Gc Dd = none ∧ RpA S.K Gc acc ads ∧ ads.length ≤ i + 1 ∧ M.filM (turnM dec tc f) (ds.drop (i + 1)) (fun ys => P (.list (ads ++ ys))), fun H' hN => ⟨ds.length - (i + 1), by omega, rfl, hlt, hN⟩, fun v H' y => ?_⟩
    obtain ⟨G2, e2, r2⟩ := it.yld i Gc H v H' hlt x1.gg x1.self ge y
    have E2 : EnvOk ω S.K G0 H0 (wipeE Γ vs) (L2.wipe σ vs) G2 H' := (E.step (e1.trans (x1.trans e2))).wipe vs
    rw [List.drop_eq_getElem_cons hlt] at wp
    refine hg ω G0 H0 (wipeE Γ vs) (L2.wipe σ vs) G2 H' v ds[i] _ _ E2 r2 wp fun a σ2 ha E3 hw => ⟨(hw vs hts).trans wipe_wipe, ?_⟩
    refine ht a ω G0 H0 σ2 G2 H' _ _ E3 ha fun b G4 H4 hb e4 => ?_
    have x4 : Ext ω S.K G1 H1 G4 H4 := (x1.trans e2).trans e4
    have hD4 : H4 Dd = some (.lst acc) := e4.hh _ _ hω (e2.hh _ _ hω hD)
    have gD4 : G4 Dd = none := e4.fr _ _ (e2.hh _ _ hω hD) (e2.fr _ _ hD gD)
    have ra4 : RpA S.K G4 acc ads := (ra.ext e2).ext e4
    cases b with
    | false =>
      rw [if_neg Bool.false_ne_true]
      exact ⟨G4, acc, ads, x4, hD4, gD4, ra4, by omega, hb⟩
    | true =>
      rw [if_pos rfl]
      refine he a ω G0 H0 σ2 G4 H4 _ _ (E3.step e4) hb fun y v5 G5 H5 hy e5 r5 => ?_
      have hD5 := e5.hh _ _ hω hD4
      have gD5 := e5.fr _ _ hD4 gD4
      refine ⟨acc, hD5, ?_, G5, acc ++ [v5], ads ++ [y], (x4.trans e5).poke nD gD5 hω, upd_same, gD5, (ra4.ext e5).append (.cons r5 .nil), by simp; omega, ?_⟩
      · have := ra.length
        have := it.ln
        omega
      · have z : (fun ys => P (.list ((ads ++ [y]) ++ ys))) = fun ys => P (.list (ads ++ y :: ys)) := by funext ys; simp
        rw [z]; exact hy
  · have ei : i = ds.length := by omega
    subst ei
    rw [List.drop_length] at wp
    have wp' : P (.list (ads ++ [])) := wp
    rw [List.append_nil] at wp'
    refine .inl ⟨it.stop Gc H x1.gg x1.self ge, q _ _ (upd Gc Dd (.lst acc)) H wp' (e1.trans (x1.frz nD hD (fun _ _ z => nomatch z) gD hω)) ?_⟩
    refine .lst (.inl upd_same) (RpA.le (fun c u e => ?_) _ ra) (Nat.le_trans la it.ln)
    rw [upd_ne (ne_of_none e gD)]; exact e
theorem filM_some {f : D → M D} : ∀ xs : List D, M.filM (fun x => (f x).bind fun y => M.pure (some y)) xs = M.mapM f xs
  | [] => rfl
  | x :: xs => by
    show (M.bind ((f x).bind fun y => M.pure (some y)) fun o => M.bind (M.filM _ xs) fun ys => M.pure (match o with | some y => y :: ys | none => ys)) = M.bind (f x) fun y => M.bind (M.mapM f xs) fun ys => M.pure (y :: ys)
    rw [filM_some xs]
    rfl
/-- [elt for tg in iter if c] -/
theorem we_lcif (hi : WI S Γ true tg iter ms) (ok : blkC S.N S.sc scope own = true) (hg : WG (S.blk scope) tg dec g ts) (hts : ∀ i ∈ ts, i ∈ own.map (·.2)) (ht : ∀ a, WT (S.blk scope) (g a (wipeE Γ (own.map (·.2)))) c (tc a)) (he : ∀ a, WE (S.blk scope) (g a (wipeE Γ (own.map (·.2)))) elt (f a))
    (hs : ∀ env x, foldedSetIterable iter env x = pure x := by intro _ _; rfl) :
    WE S Γ (.ListComp elt [⟨tg, iter, [c], 0⟩] scope pos) (ms.bind fun xs => (M.filM (fun x => (dec x).bind fun a => (tc a).bind fun b => bif b then (f a).bind fun y => M.pure (some y) else M.pure none) xs).bind fun ys => M.pure (.list ys)) := by
  intro ω G0 H0 σ G H P Q E hm q
  exact ⟨_, fun X hX => pe_lc hX.calm (by rw [hX.N]; exact hX.nd) (RI.pi hX tg iter) (blkOk_by (own := own) (by rw [hX.N, hX.sc]; exact ok)) (fun s H C cl fp => RG.pg (hX.blk s H scope C cl fp) tg) (fun s H C cl fp => RTs.pts (hX.blk s H scope C cl fp) [c]) (fun s H C cl fp => RE.pe (hX.blk s H scope C cl fp) elt) (hs _),
    lc_go hg hts (fun a => wts_one (ht a)) he E (fun P' R h1 h2 => hi ω G0 H0 σ G H P' R E h1 h2) hm q⟩
theorem mapM_eq {α : Type} {dec : D → M α} {f : α → M D} (xs : List D) : M.filM (turnM dec (fun _ => M.pure true) f) xs = M.mapM (fun x => (dec x).bind fun a => f a) xs := by
  rw [← filM_some]
  rfl
/-- [elt for tg in iter] -/
theorem we_lc (hi : WI S Γ true tg iter ms) (ok : blkC S.N S.sc scope own = true) (hg : WG (S.blk scope) tg dec g ts) (hts : ∀ i ∈ ts, i ∈ own.map (·.2)) (he : ∀ a, WE (S.blk scope) (g a (wipeE Γ (own.map (·.2)))) elt (f a))
    (hs : ∀ env x, foldedSetIterable iter env x = pure x := by intro _ _; rfl) :
    WE S Γ (.ListComp elt [⟨tg, iter, [], 0⟩] scope pos) (ms.bind fun xs => (M.mapM (fun x => (dec x).bind fun a => f a) xs).bind fun ys => M.pure (.list ys)) := by
  intro ω G0 H0 σ G H P Q E hm q
  refine ⟨_, fun X hX => pe_lc hX.calm (by rw [hX.N]; exact hX.nd) (RI.pi hX tg iter) (blkOk_by (own := own) (by rw [hX.N, hX.sc]; exact ok)) (fun s H C cl fp => RG.pg (hX.blk s H scope C cl fp) tg) (fun s H C cl fp => RTs.pts (hX.blk s H scope C cl fp) []) (fun s H C cl fp => RE.pe (hX.blk s H scope C cl fp) elt) (hs _),
    lc_go hg hts (tc := fun _ => M.pure true) (fun a => wts_nil) he E (fun P' R h1 h2 => hi ω G0 H0 σ G H P' R E h1 h2) ?_ q⟩
  have z : (fun xs => (M.filM (turnM dec (fun _ => M.pure true) f) xs).bind fun ys => M.pure (PyData.list ys)) = fun xs => (M.mapM (fun x => (dec x).bind fun a => f a) xs).bind fun ys => M.pure (PyData.list ys) := by
    funext xs; rw [mapM_eq]
  rw [z]; exact hm
/-- y = [..] on one line, y a plain local -/
structure SwapAt (S : Sg) (y : Str) (scope : Scope) : Prop where
  k : S.sc.kind = .function
  l : S.sc.names.lookup y = some .local
  s : (scope.names.any fun (n, k) => n == y && (k == .local || k == .cell)) = false
theorem w_setLc {ρ : Type} {ι : ρ → Out} {k : D → M ρ} {i : Nat} {y : Str} {rest : List Stmt} {py spos : Pos} (hy : SetAt S i y) (sw : SwapAt S y scope) (hi : WI S Γ true tg iter ms) (ok : blkC S.N S.sc scope own = true) (hg : WG (S.blk scope) tg dec g ts) (hts : ∀ i ∈ ts, i ∈ own.map (·.2)) (he : ∀ a, WE (S.blk scope) (g a (wipeE Γ (own.map (·.2)))) elt (f a))
    (hk : ∀ d, W S (Γ.set i (some (.val d))) rest (k d) ι) (hs : ∀ env x, foldedSetIterable iter env x = pure x := by intro _ _; rfl) (hl : (py.line == pos.line) = true := by rfl) :
    W S Γ (.Assign [.Name y py] (.ListComp elt [⟨tg, iter, [], 0⟩] scope pos) spos :: rest) ((ms.bind fun xs => (M.mapM (fun x => (dec x).bind fun a => f a) xs).bind fun ys => M.pure (.list ys)).bind k) ι := by
  intro ω G0 H0 σ G H P Dn E hm q
  refine rs_cons (fun X hX => ps_setLc (i := i) hX.calm (by rw [hX.N]; exact hX.nd) (by rw [hX.N]; exact hy.n) (by rw [hX.sc]; exact sw.l) (sw_true (by rw [hX.sc]; exact sw.k) (by rw [hX.sc]; exact sw.l) hl sw.s) (RI.pi hX tg iter) (blkOk_by (own := own) (by rw [hX.N, hX.sc]; exact ok)) (fun s H C cl fp => RG.pg (hX.blk s H scope C cl fp) tg) (fun s H C cl fp => RTs.pts (hX.blk s H scope C cl fp) []) (fun s H C cl fp => RE.pe (hX.blk s H scope C cl fp) elt) (hs _)) ?_
  refine lc_go hg hts (tc := fun _ => M.pure true) (P := fun d => k d P) (fun a => wts_nil) he E (fun P' R h1 h2 => hi ω G0 H0 σ G H P' R E h1 h2) ?_ fun d v G1 H1 hP e1 r1 => hk d ω G0 H0 _ G1 H1 P Dn ((E.step e1).putV r1) hP q
  have z : (fun xs => (M.filM (turnM dec (fun _ => M.pure true) f) xs).bind fun ys => M.pure (PyData.list ys)) = fun xs => (M.mapM (fun x => (dec x).bind fun a => f a) xs).bind fun ys => M.pure (PyData.list ys) := by
    funext xs; rw [mapM_eq]
  rw [z]; exact hm
theorem w_setLcif {ρ : Type} {ι : ρ → Out} {k : D → M ρ} {i : Nat} {y : Str} {rest : List Stmt} {py spos : Pos} (hy : SetAt S i y) (sw : SwapAt S y scope) (hi : WI S Γ true tg iter ms) (ok : blkC S.N S.sc scope own = true) (hg : WG (S.blk scope) tg dec g ts) (hts : ∀ i ∈ ts, i ∈ own.map (·.2)) (ht : ∀ a, WT (S.blk scope) (g a (wipeE Γ (own.map (·.2)))) c (tc a)) (he : ∀ a, WE (S.blk scope) (g a (wipeE Γ (own.map (·.2)))) elt (f a))
    (hk : ∀ d, W S (Γ.set i (some (.val d))) rest (k d) ι) (hs : ∀ env x, foldedSetIterable iter env x = pure x := by intro _ _; rfl) (hl : (py.line == pos.line) = true := by rfl) :
    W S Γ (.Assign [.Name y py] (.ListComp elt [⟨tg, iter, [c], 0⟩] scope pos) spos :: rest) ((ms.bind fun xs => (M.filM (fun x => (dec x).bind fun a => (tc a).bind fun b => bif b then (f a).bind fun y => M.pure (some y) else M.pure none) xs).bind fun ys => M.pure (.list ys)).bind k) ι := by
  intro ω G0 H0 σ G H P Dn E hm q
  refine rs_cons (fun X hX => ps_setLc (i := i) hX.calm (by rw [hX.N]; exact hX.nd) (by rw [hX.N]; exact hy.n) (by rw [hX.sc]; exact sw.l) (sw_true (by rw [hX.sc]; exact sw.k) (by rw [hX.sc]; exact sw.l) hl sw.s) (RI.pi hX tg iter) (blkOk_by (own := own) (by rw [hX.N, hX.sc]; exact ok)) (fun s H C cl fp => RG.pg (hX.blk s H scope C cl fp) tg) (fun s H C cl fp => RTs.pts (hX.blk s H scope C cl fp) [c]) (fun s H C cl fp => RE.pe (hX.blk s H scope C cl fp) elt) (hs _)) ?_
  exact lc_go hg hts (P := fun d => k d P) (fun a => wts_one (ht a)) he E (fun P' R h1 h2 => hi ω G0 H0 σ G H P' R E h1 h2) hm fun d v G1 H1 hP e1 r1 => hk d ω G0 H0 _ G1 H1 P Dn ((E.step e1).putV r1) hP q
end

/-! ### for -/
section
variable {S : Sg} {Γ : En} {e a b c tg iter : Expr} {m ma mb mc : M D} {ms : M (List D)} {pos : Pos} {α σt ρ : Type} {dec : D → M α} {g : α → En → En} {ts : List Nat} {body rest : List Stmt} {ι : ρ → Out}
def flO {σt : Type} (gs : σt → En) : Fl σt σt → Out
  | .nx s => .nx (gs s)
  | .rt d => .rt d
  | .bk s => .bk (gs s)
  | .ct s => .ct (gs s)
def Fl.go {σt ρ : Type} (k : σt → M ρ) (kr : D → M ρ) : Fl σt Empty → M ρ
  | .nx s => k s
  | .rt d => kr d
  | .bk e => nomatch e
  | .ct e => nomatch e
theorem maskE_length : ∀ (ks : List Bool) (Γ : En), ks.length = Γ.length → (maskE ks Γ).length = Γ.length
  | [], Γ, h => by cases Γ <;> simp_all [maskE]
  | k :: ks, [], h => by simp at h
  | k :: ks, c :: Γ, h => by
    show (maskE ks Γ).length + 1 = Γ.length + 1
    rw [maskE_length ks Γ (by simpa using h)]
theorem EnvOk.mask {ω : Option Addr} {K : PySem.W.Frag} {G0 H0 G H : Hp} {Γ : En} {σ : L2.St} (E : EnvOk ω K G0 H0 Γ σ G H) (ks : List Bool) (hl : ks.length = Γ.length) : EnvOk ω K G0 H0 (maskE ks Γ) σ G H := E.weak (maskE_length ks Γ hl) fun i c h => maskE_get h
theorem EnvOk.rebase {ω : Option Addr} {K : PySem.W.Frag} {G0 H0 G H : Hp} {Γ : En} {σ : L2.St} (E : EnvOk ω K G0 H0 Γ σ G H) : EnvOk ω K G H0 Γ σ G H := ⟨⟨Same.refl _, E.ext.hh, E.ext.le, fun _ _ _ h => h, E.ext.dr⟩, E.ln, E.sl, E.ds⟩
theorem Ext.unbase {ω : Option Addr} {K : PySem.W.Frag} {G0 H0 G1 H1 G H : Hp} (a : Ext ω K G0 H0 G1 H1) (x : Ext ω K G1 H0 G H) : Ext ω K G0 H0 G H := ⟨a.gg.trans x.gg, x.hh, x.le, fun b u e n => x.fr b u e (a.fr b u e n), x.dr⟩
theorem EnvOk.unbase {ω : Option Addr} {K : PySem.W.Frag} {G0 H0 G1 H1 G H : Hp} {Γ : En} {σ : L2.St} (a : Ext ω K G0 H0 G1 H1) (E : EnvOk ω K G1 H0 Γ σ G H) : EnvOk ω K G0 H0 Γ σ G H := ⟨a.unbase E.ext, E.ln, E.sl, E.ds⟩
/-- how a return out of a loop goes on -/
def RtOk (ι : ρ → Out) (kr : D → M ρ) : Prop := ∀ d P, kr d P → ∃ r, P r ∧ ι r = .rt d
theorem rt_ok {f : D → ρ} (h : ∀ d, ι (f d) = .rt d := by intro _; rfl) : RtOk ι (fun d => M.pure (f d)) := fun d P hp => ⟨f d, hp, h d⟩
theorem rt_none : RtOk ι (fun _ => M.fail) := fun d P hp => hp.elim
/-- the loop, behind what it walks -/
theorem for_core {fb : σt → α → M (Fl σt σt)} {k : σt → M ρ} {kr : D → M ρ} (gs : σt → En) {s0 : σt} (hg : WG S tg dec g ts) (hb : ∀ s a, W S (g a (gs s)) body (fb s a) (flO gs)) {A : Addr → Prop} {J : It} {ds : List D} {ω : Option Addr} {G1 H1 H0b : Hp} {σ : L2.St} {P : ρ → Prop} {Dn : Ends}
    (it : ItOk ω S.K A J ds G1 H1) (E1 : EnvOk ω S.K G1 H0b (gs s0) σ G1 H1) (per : ∀ (Γ' : En) σ' Gc Hc, EnvOk ω S.K G1 H0b Γ' σ' Gc Hc → ∀ b u, A b → H1 b = some u → Hc b = some u)
    (hP : (M.foldF (fun s x => (dec x).bind fun a => fb s a) s0 ds) (fun r => Fl.go k kr r P))
    (hnx : ∀ s σ' G' H', EnvOk ω S.K G1 H0b (gs s) σ' G' H' → k s P → Dn.nx σ' H') (hrt : ∀ d v G' H', kr d P → Ext ω S.K G1 H0b G' H' → Rp S.K G' v d → Dn.rt v H') :
    ∃ W : Nat → Nat → L2.St → Hp → Prop, (∃ m, W 0 m σ H1) ∧ ∀ i m σ H, W i m σ H →
      (J.stop i H ∧ Dn.nx σ H) ∨ (J.go i H ∧ ∃ N : L2.St → Hp → Prop, (∀ σ' H', N σ' H' → ∃ m', m' < m ∧ W (i + 1) m' σ' H') ∧ ∀ x H', J.yld i H x H' → RG S tg x σ H' fun σ2 H2 => RS S body { Dn with nx := N, ct := N, bk := Dn.nx } σ2 H2) := by
  refine ⟨fun i m σ H => m = ds.length - i ∧ i ≤ ds.length ∧ ∃ s G, EnvOk ω S.K G1 H0b (gs s) σ G H ∧ M.foldF (fun s x => (dec x).bind fun a => fb s a) s (ds.drop i) (fun r => Fl.go k kr r P), ⟨ds.length, by simp, Nat.zero_le _, s0, G1, E1, hP⟩, ?_⟩
  rintro i m σ H ⟨rfl, hi', s, Gc, Ec, wp⟩
  by_cases hlt : i < ds.length
  · refine .inr ⟨it.go i Gc H Ec.ext.gg Ec.self (per _ _ _ _ Ec) hlt, fun σ H => ∃ s G, EnvOk ω S.K G1 H0b (gs s) σ G H ∧ M.foldF (fun s x => (dec x).bind fun a => fb s a) s (ds.drop (i + 1)) (fun r => Fl.go k kr r P), fun σ' H' hN => ⟨ds.length - (i + 1), by omega, rfl, hlt, hN⟩, fun v H' y => ?_⟩
    obtain ⟨G2, e2, r2⟩ := it.yld i Gc H v H' hlt Ec.ext.gg Ec.self (per _ _ _ _ Ec) y
    rw [List.drop_eq_getElem_cons hlt] at wp
    refine hg ω G1 H0b (gs s) σ G2 H' v ds[i] _ _ (Ec.step e2) r2 wp fun a σ2 ha E3 _ => ?_
    refine hb s a ω G1 H0b σ2 G2 H' _ _ E3 ha fun r hr' => ?_
    cases r with
    | nx s' => exact fun σ' G' H' E' => ⟨s', G', E', hr'⟩
    | ct s' => exact fun σ' G' H' E' => ⟨s', G', E', hr'⟩
    | bk s' => exact fun σ' G' H' E' => hnx s' σ' G' H' E' hr'
    | rt d => exact fun v' G' H' e' r' => hrt d v' G' H' hr' e' r'
  · have ei : i = ds.length := by omega
    subst ei
    rw [List.drop_length] at wp
    exact .inl ⟨it.stop Gc H Ec.ext.gg Ec.self (per _ _ _ _ Ec), hnx s σ Gc H Ec wp⟩
theorem w_forF {fb : σt → α → M (Fl σt σt)} {k : σt → M ρ} {kr : D → M ρ} (gs : σt → En) (s0 : σt) (ks : List Bool) (hi : WI S Γ false tg iter ms) (hg : WG S tg dec g ts) (h0 : gs s0 = maskE ks Γ) (hl : ks.length = Γ.length) (hb : ∀ s a, W S (g a (gs s)) body (fb s a) (flO gs)) (hr : ∀ s, W S (gs s) rest (k s) ι)
    (hf : RtOk ι kr) (hs : ∀ env x, foldedSetIterable iter env x = pure x := by intro _ _; rfl) :
    W S Γ (.For tg iter body [] pos :: rest) (ms.bind fun xs => (M.foldF (fun s x => (dec x).bind fun a => fb s a) s0 xs).bind (Fl.go k kr)) ι := by
  intro ω G0 H0 σ G H P Dn E hm q
  refine rs_cons (fun X hX => ps_for (by rw [hX.xe]; exact PassesOwn.never) hX.calm (RI.pi hX tg iter) (RG.pg hX tg) (RS.ps hX body) (hs _)) ?_
  refine hi ω G0 H0 σ G H _ _ E hm fun ds J G1 H1 hP e1 it => ?_
  have E1 := E.step e1
  have x1 := E1.ext
  refine for_core gs (s0 := s0) hg hb (Dn := { Dn with nx := RS S rest Dn }) it (by rw [h0]; exact E1.rebase.mask ks hl) (fun Γ' σ' Gc Hc _ b u hA => absurd hA.1 Bool.false_ne_true) hP (fun s σ' G' H' E' hk => hr s ω G0 H0 σ' G' H' P Dn (E'.unbase x1) hk q) fun d v G' H' hk e' r' => ?_
  obtain ⟨r, h1, h2⟩ := hf d P hk
  have z := q r h1
  rw [h2] at z
  exact z v G' H' (x1.unbase e') r'
theorem foldF_nx {α σt ρ : Type} {f : σt → α → M σt} {k : σt → M ρ} {kr : D → M ρ} : ∀ (xs : List α) (s : σt), (M.foldF (fun s x => (f s x).bind fun s' => M.pure (.nx s')) s xs).bind (Fl.go k kr) = (M.fold f s xs).bind k
  | [], s => rfl
  | x :: xs, s => by
    funext P
    show (f s x) (fun s' => M.foldF (fun s x => (f s x).bind fun s' => M.pure (.nx s')) s' xs (fun r => Fl.go k kr r P)) = (f s x) (fun s' => M.fold f s' xs (fun s => k s P))
    have : (fun s' => M.foldF (fun s x => (f s x).bind fun s' => M.pure (.nx s')) s' xs (fun r => Fl.go k kr r P)) = fun s' => M.fold f s' xs (fun s => k s P) := by
      funext s'
      exact congrFun (foldF_nx xs s') P
    rw [this]
/-- a for whose turns all go to their ends -/
theorem w_for {fb : σt → α → M σt} {k : σt → M ρ} (gs : σt → En) (s0 : σt) (ks : List Bool) (hi : WI S Γ false tg iter ms) (hg : WG S tg dec g ts) (h0 : gs s0 = maskE ks Γ) (hl : ks.length = Γ.length) (hb : ∀ s a, W S (g a (gs s)) body (fb s a) (fun s' => .nx (gs s'))) (hr : ∀ s, W S (gs s) rest (k s) ι)
    (hs : ∀ env x, foldedSetIterable iter env x = pure x := by intro _ _; rfl) :
    W S Γ (.For tg iter body [] pos :: rest) (ms.bind fun xs => (M.fold (fun s x => (dec x).bind fun a => fb s a) s0 xs).bind k) ι := by
  have h := w_forF (ι := ι) (pos := pos) (fb := fun s a => (fb s a).bind fun s' => M.pure (.nx s')) (k := k) (kr := fun _ => M.fail) gs s0 ks hi hg h0 hl (fun s a => w_map (hb s a)) hr rt_none hs
  have z : (ms.bind fun xs => (M.fold (fun s x => (dec x).bind fun a => fb s a) s0 xs).bind k) = ms.bind fun xs => (M.foldF (fun s x => (dec x).bind fun a => (fb s a).bind fun s' => M.pure (.nx s')) s0 xs).bind (Fl.go k fun _ => M.fail) := by
    have : (fun xs => (M.fold (fun s x => (dec x).bind fun a => fb s a) s0 xs).bind k) = fun xs => (M.foldF (fun s x => (dec x).bind fun a => (fb s a).bind fun s' => M.pure (.nx s')) s0 xs).bind (Fl.go k fun _ => M.fail) := by
      funext xs
      exact (foldF_nx (f := fun s x => (dec x).bind fun a => fb s a) xs s0).symm
    rw [this]
  rw [z]
  exact h

/-! ### while -/
theorem w_while {tc : σt → M Bool} {fb : σt → M σt} {k : σt → M ρ} (gs : σt → En) (s0 : σt) (ks : List Bool) (h0 : gs s0 = maskE ks Γ) (hl : ks.length = Γ.length) (hc : ∀ s, WT S (gs s) c (tc s)) (hb : ∀ s, W S (gs s) body (fb s) (fun s' => .nx (gs s'))) (hr : ∀ s, W S (gs s) rest (k s) ι) :
    W S Γ (.While c body [] pos :: rest) ((M.while_ tc fb s0).bind k) ι := by
  intro ω G0 H0 σ G H P Dn E hm q
  refine rs_cons (fun X hX => ps_while (by rw [hX.xe]; exact PassesOwn.never) (RT.pt hX c) (RS.ps hX body)) ?_
  obtain ⟨n, hn⟩ := hm
  refine ⟨fun n σ H => ∃ s G, EnvOk ω S.K G0 H0 (gs s) σ G H ∧ M.iter tc fb n s (fun r => k r P), ⟨n, s0, G, by rw [h0]; exact E.mask ks hl, hn⟩, ?_⟩
  rintro m σ H ⟨s, Gc, Ec, wp⟩
  cases m with
  | zero => exact False.elim wp
  | succ m =>
    refine hc s ω G0 H0 σ Gc H _ _ Ec wp fun b G1 H1 hb1 e1 => ?_
    cases b with
    | true =>
      rw [if_pos rfl]
      refine ⟨fun σ H => ∃ s G, EnvOk ω S.K G0 H0 (gs s) σ G H ∧ M.iter tc fb m s (fun r => k r P), fun σ' H' hN => ⟨m, Nat.lt_succ_self m, hN⟩, ?_⟩
      exact hb s ω G0 H0 σ G1 H1 _ _ (Ec.step e1) hb1 fun r hr' σ' G' H' E' => ⟨r, G', E', hr'⟩
    | false =>
      rw [if_neg Bool.false_ne_true]
      exact hr s ω G0 H0 σ G1 H1 P Dn (Ec.step e1) hb1 q
end
end Wp
namespace Wp
open PySem PySem.Spec PyProof.Rows L2

section
variable {S : Sg}
/-! ### ints -/
def addD : D → D → M D
  | .int i, .int j => M.pure (.int (i + j))
  | .str x, .str y => M.need (x.length + y.length ≤ 16777216) (M.pure (.str (x ++ y)))
  | .list xs, .list ys => M.need (xs.length + ys.length ≤ 16777216) (M.pure (.list (xs ++ ys)))
  | .tuple xs, .tuple ys => M.need (xs.length + ys.length ≤ 16777216) (M.pure (.tuple (xs ++ ys)))
  | _, _ => M.fail
def subD : D → D → M D
  | .int i, .int j => M.pure (.int (i - j))
  | _, _ => M.fail
/-- a number that is not too great -/
def small (i : Int) : Prop := -1606938044258990275541962092341162602522202993782792835301376 < i ∧ i < 1606938044258990275541962092341162602522202993782792835301376
theorem small_pow {i : Int} (h : small i) : i.natAbs < 2 ^ 200 := by
  have e : (2 : Nat) ^ 200 = 1606938044258990275541962092341162602522202993782792835301376 := by decide
  rw [e]
  unfold small at h
  omega
def mulD : D → D → M D
  | .int i, .int j => M.need (small i ∧ small j) (M.pure (.int (i * j)))
  | .list xs, .int k => M.need (-1000000 ≤ k ∧ k ≤ 1000000 ∧ xs.length * k.toNat ≤ 16777216) (M.pure (.list (List.replicate k.toNat xs).flatten))
  | _, _ => M.fail
def fdivD : D → D → M D
  | .int i, .int j => M.need ((0 < j ∧ small j) ∨ (j < 0 ∧ -1073741824 < j)) (M.pure (.int (i.fdiv j)))
  | _, _ => M.fail
def modD : D → D → M D
  | .int i, .int j => M.need (j ≠ 0) (M.pure (.int (i.fmod j)))
  | _, _ => M.fail
def powD : D → D → M D
  | .int i, .int j => M.need (0 ≤ j ∧ j ≤ 1000 ∧ i.natAbs < 2 ^ 64) (M.pure (.int (i ^ j.toNat)))
  | _, _ => M.fail
def negD : D → M D
  | .int i => M.pure (.int (-i))
  | _ => M.fail
theorem RpA.nil_iff {K : PySem.W.Frag} {G : Hp} {xs : List V} {ds : List D} (r : RpA K G xs ds) : xs = [] ↔ ds = [] := by
  cases r <;> simp
theorem rd_list {X : Cx} {pins : List (Addr × Obj)} {σ : L2.St} {H : Hp} {s : Shared} {l : Addr} {xs : List V} (I : L2.Inv X pins σ H s) (h : Rd H l (.lst xs)) : xs.length ≤ sizeLine ∧ ∃ (its : List Value) (n : Nat), Vals xs its ∧ s.heap.get? l = some { cls := .type "list", data := .seq its.toArray n } := h.ok I.hok
theorem op_catL {X : Cx} : OpR X (binaryOp .Add) (fun x y H Q => ∃ l b xs zs, x = .ref l ∧ y = .ref b ∧ Rd H l (.lst xs) ∧ Rd H b (.lst zs) ∧ xs.length + zs.length ≤ sizeLine ∧ ∀ p, H p = none → Q (.ref p) (upd H p (.lst (xs ++ zs)))) := by
  intro pins s σ H x y v u Q I rx ry h
  obtain ⟨l, b, xs, zs, rfl, rfl, hH, hB, hz, q⟩ := h
  cases rx
  cases ry
  obtain ⟨z, its, n, r, e⟩ := rd_list I hH
  obtain ⟨z2, its2, n2, r2, e2⟩ := rd_list I hB
  have hl := r.length
  have hl2 := r2.length
  refine PySem.P.add_list e e2 ?_ (by rw [List.size_toArray, List.size_toArray]; omega)
  have ea : its.toArray ++ its2.toArray = (its ++ its2).toArray := by simp
  rw [ea]
  exact ⟨.ref _, _, I.lnew (t' := s.toks) (r.append r2) (by rw [List.length_append]; omega), rfl, q _ I.fresh⟩
/-- a list times an int -/
theorem op_repL {X : Cx} : OpR X (binaryOp .Mult) (fun x y H Q => ∃ l k xs, x = .ref l ∧ y = .int k ∧ Rd H l (.lst xs) ∧ -(2 ^ 63) ≤ k ∧ k < 2 ^ 63 ∧ xs.length * k.toNat ≤ sizeLine ∧
    ∀ p, H p = none → Q (.ref p) (upd H p (.lst (List.replicate k.toNat xs).flatten))) := by
  intro pins s σ H x y v u Q I rx ry h
  obtain ⟨l, k, xs, rfl, rfl, hH, h1, h2, hz, q⟩ := h
  rcases hH with hH | ⟨o, hH⟩
  · exact op_rep pins s σ H _ _ v u Q I rx ry ⟨l, k, xs, rfl, rfl, hH, h1, h2, hz, q⟩
  · cases rx
    obtain ⟨t, rfl⟩ := ry
    obtain ⟨z, its, n, r, e⟩ := rd_list I (.inr ⟨o, hH⟩)
    have hl := r.length
    have hlen : its.toArray.size * k.toNat ≤ sizeLine := by rw [List.size_toArray, ← hl]; exact hz
    have hcap : ¬ its.toArray.size * k.toNat > (2 ^ 63 - 1) / 8 := by
      have : (sizeLine : Nat) ≤ (2 ^ 63 - 1) / 8 := by decide
      omega
    have hfit : ¬ (!Builtin.List.listFitsIndex k) = true := by
      rw [fitsIndex_both h1 h2]
      exact Bool.false_ne_true
    have hlong : ¬ Builtin.List.listTooLong (its.toArray.size * k.toNat) = true := by
      rw [notLongL hlen]
      exact Bool.false_ne_true
    have hnew : List.foldl (fun x1 x2 => x1 ++ x2) #[] (List.replicate (if its.toArray.isEmpty = true then 0 else k.toNat) its.toArray) = (List.replicate k.toNat its).flatten.toArray := by
      have f0 : ∀ m : Nat, List.foldl (fun x1 x2 => x1 ++ x2) #[] (List.replicate m its.toArray) = (List.replicate m its).flatten.toArray := fun m => by
        have := foldl_rep its m []
        rw [List.nil_append] at this
        exact this
      rw [f0]
      cases its with
      | nil => simp
      | cons a r' => rw [if_neg (by simp)]
    refine wpAny_binaryOp_repeat_ref (T := "list") (U := "int") (by decide) ⟨_, e, rfl⟩ (fun s' => typeIs_int s' k t) noFill_list_mul PySem.F.fills_int_mul PySem.F.slot_int_rmul repeat_list PySem.F.slot_int_index.lookup
      (call_meets PySem.F.slot_int_rmul (typeIs_int s k t) PySem.F.entry_int_rmul (PySem.F.args_int_rmul_2 _ _) (int___rmul___int_list k t l its.toArray n)
        ⟨e, rfl, ⟨_, e, rfl⟩, call_meets PySem.F.slot_list_mul ⟨_, e, rfl⟩ PySem.F.entry_list_mul (PySem.F.args_list_mul_2 _ _) (AutoListH.list___mul___list_int_3 l its.toArray n k t hfit hcap hlong) ⟨e, ?_⟩⟩)
    rw [hnew]
    exact ⟨.ref _, _, I.lnew (t' := s.toks) (r.rep k.toNat) (by rw [PyProof.Rows.lm_len_rep_flat, Nat.mul_comm]; exact hz), rfl, q _ I.fresh⟩
theorem RpA.rep {K : PySem.W.Frag} {G : Hp} {xs : List V} {ds : List D} (r : RpA K G xs ds) : ∀ k : Nat, RpA K G (List.replicate k xs).flatten (List.replicate k ds).flatten
  | 0 => .nil
  | k + 1 => by
    rw [List.replicate_succ, List.replicate_succ, List.flatten_cons, List.flatten_cons]
    exact r.append (r.rep k)
theorem line_le {n : Nat} (h : n ≤ 16777216) : n ≤ sizeLine := by rw [sizeLine_eq]; exact h
theorem new_lst {ω : Option Addr} {K : PySem.W.Frag} {G H : Hp} {p : Addr} {xs : List V} {ds : List D} (e : Ext ω K G H G H) (np : H p = none) (r : RpA K G xs ds) (z : ds.length ≤ sizeLine) : Ext ω K G H (upd G p (.lst xs)) (upd H p (.lst xs)) ∧ Rp K (upd G p (.lst xs)) (.ref p) (.list ds) :=
  ⟨e.new np, .lst (.inl upd_same) (r.ext (e.new (o := .lst xs) np)) z⟩
theorem new_tup {ω : Option Addr} {K : PySem.W.Frag} {G H : Hp} {p : Addr} {xs : List V} {ds : List D} (e : Ext ω K G H G H) (np : H p = none) (r : RpA K G xs ds) (z : ds.length ≤ sizeLine) : Ext ω K G H (upd G p (.tup xs)) (upd H p (.tup xs)) ∧ Rp K (upd G p (.tup xs)) (.ref p) (.tuple ds) :=
  ⟨e.new np, .tup (.inl (.inl upd_same)) (r.ext (e.new (o := .tup xs) np)) z⟩
theorem rb_tup {ω : Option Addr} {K : PySem.W.Frag} {G H : Hp} {v : V} {ds : List D} (h : Rb ω K G H v (.tuple ds)) : Rp K G v (.tuple ds) := by
  rcases h with h | ⟨o, u, h1, h2, h3, h4⟩
  · exact h
  · cases h4
theorem add_ok : OpOk S (binaryOp .Add) addD := by
  intro ω G H x y v u P Q e rx ry hf q
  cases x with
  | int i => cases y with
    | int j => cases rx.int; cases ry.int; exact ⟨_, fun X hX => op_add, i, j, rfl, rfl, q _ _ _ _ hf e (.int _)⟩
    | _ => exact hf.elim
  | str i => cases y with
    | str j => cases rx.str; cases ry.str; exact ⟨_, fun X hX => op_add_str, i, j, rfl, rfl, line_le hf.1, q _ _ _ _ hf.2 e (.str _)⟩
    | _ => exact hf.elim
  | list xs => cases y with
    | list ys =>
      obtain ⟨a, as, rfl, s1, r1, _⟩ := rx.list e.le
      obtain ⟨b, bs, rfl, s2, r2, _⟩ := ry.list e.le
      have h1 := r1.length
      have h2 := r2.length
      have z := line_le hf.1
      refine ⟨_, fun X hX => op_catL, a, b, as, bs, rfl, rfl, s1, s2, by omega, fun p np => ?_⟩
      obtain ⟨e2, r⟩ := new_lst e np (r1.append r2) (by rw [List.length_append]; exact z)
      exact q _ _ _ _ hf.2 e2 r
    | _ => exact hf.elim
  | tuple xs => cases y with
    | tuple ys =>
      obtain ⟨a, as, rfl, s1, r1, _⟩ := rx.tup e.le
      obtain ⟨b, bs, rfl, s2, r2, _⟩ := ry.tup e.le
      have h1 := r1.length
      have h2 := r2.length
      have z := line_le hf.1
      refine ⟨rCatA S.K, fun X hX => hX.K ▸ op_catA, a, b, as, bs, rfl, rfl, s1, s2, by omega, fun h => ?_, fun h h' => ?_, fun _ _ p np => ?_⟩
      · have h' := r1.nil_iff.mp h
        subst h'
        exact q _ _ _ _ hf.2 e (rb_tup ry)
      · have h' := r2.nil_iff.mp h'
        subst h'
        have hf2 := hf.2
        rw [List.append_nil] at hf2
        exact q _ _ _ _ hf2 e (rb_tup rx)
      · obtain ⟨e2, r⟩ := new_tup e np (r1.append r2) (by rw [List.length_append]; exact z)
        exact q _ _ _ _ hf.2 e2 r
    | _ => exact hf.elim
  | _ => exact hf.elim
theorem sub_ok : OpOk S (binaryOp .Sub) subD := by
  intro ω G H x y v u P Q e rx ry hf q
  cases x with
  | int i => cases y with
    | int j => cases rx.int; cases ry.int; exact ⟨_, fun X hX => op_sub, i, j, rfl, rfl, q _ _ _ _ hf e (.int _)⟩
    | _ => exact hf.elim
  | _ => exact hf.elim
theorem mul_ok : OpOk S (binaryOp .Mult) mulD := by
  intro ω G H x y v u P Q e rx ry hf q
  cases x with
  | int i => cases y with
    | int j => cases rx.int; cases ry.int; exact ⟨_, fun X hX => op_mulW, i, j, rfl, rfl, wide_mul (small_pow hf.1.1) (small_pow hf.1.2) (by decide) (by decide) (by decide), q _ _ _ _ hf.2 e (.int _)⟩
    | _ => exact hf.elim
  | list xs => cases y with
    | int k =>
      cases ry.int
      obtain ⟨a, as, rfl, s1, r1, _⟩ := rx.list e.le
      obtain ⟨⟨h1, h2, h3⟩, hf⟩ := hf
      have hl := r1.length
      have z := line_le h3
      refine ⟨_, fun X hX => op_repL, a, k, as, rfl, rfl, s1, by omega, by omega, by rw [hl]; exact z, fun p np => ?_⟩
      obtain ⟨e2, r⟩ := new_lst e np (r1.rep k.toNat) (by rw [PyProof.Rows.lm_len_rep_flat, Nat.mul_comm]; exact z)
      exact q _ _ _ _ hf e2 r
    | _ => exact hf.elim
  | _ => exact hf.elim
theorem fdiv_ok : OpOk S (binaryOp .FloorDiv) fdivD := by
  intro ω G H x y v u P Q e rx ry hf q
  cases x with
  | int i => cases y with
    | int j =>
      cases rx.int; cases ry.int
      obtain ⟨h, hf⟩ := hf
      rcases h with ⟨h1, h2⟩ | ⟨h1, h2⟩
      · refine ⟨_, fun X hX => op_fdivW, i, j, rfl, rfl, wide_div h1 (small_pow h2) (by decide) (by decide), ?_⟩
        show Q (.int (i / j)) H
        rw [← Int.fdiv_eq_ediv_of_nonneg i (by omega : 0 ≤ j)]
        exact q _ _ _ _ hf e (.int _)
      · exact ⟨_, fun X hX => op_fdivN, i, j, rfl, rfl, ⟨by omega, by omega⟩, q _ _ _ _ hf e (.int _)⟩
    | _ => exact hf.elim
  | _ => exact hf.elim
theorem mod_ok : OpOk S (binaryOp .Mod) modD := by
  intro ω G H x y v u P Q e rx ry hf q
  cases x with
  | int i => cases y with
    | int j => cases rx.int; cases ry.int; exact ⟨_, fun X hX => op_modN, i, j, rfl, rfl, hf.1, q _ _ _ _ hf.2 e (.int _)⟩
    | _ => exact hf.elim
  | _ => exact hf.elim
theorem pow_ok : OpOk S (binaryOp .Pow) powD := by
  intro ω G H x y v u P Q e rx ry hf q
  cases x with
  | int i => cases y with
    | int j => cases rx.int; cases ry.int; exact ⟨_, fun X hX => op_pow, i, j, rfl, rfl, ⟨hf.1.1, by have := hf.1.2.1; omega, hf.1.2.2⟩, q _ _ _ _ hf.2 e (.int _)⟩
    | _ => exact hf.elim
  | _ => exact hf.elim
theorem neg_ok : UnOk S (unaryOp .USub) negD := by
  intro ω G H x v P Q e rx hf q
  cases x with
  | int i => cases rx.int; exact ⟨_, fun X hX => un_neg, i, rfl, q _ _ _ _ hf e (.int _)⟩
  | _ => exact hf.elim

/-! ### comparisons -/
def ltD : D → D → M D
  | .int i, .int j => M.pure (.bool (decide (i < j)))
  | _, _ => M.fail
def leD : D → D → M D
  | .int i, .int j => M.pure (.bool (decide (i ≤ j)))
  | _, _ => M.fail
def gtD : D → D → M D
  | .int i, .int j => M.pure (.bool (decide (j < i)))
  | _, _ => M.fail
def geD : D → D → M D
  | .int i, .int j => M.pure (.bool (decide (j ≤ i)))
  | _, _ => M.fail
/-! data without dicts, nested at most n deep -/
mutual
def sh : Nat → D → Bool
  | _, .none => true
  | _, .bool _ => true
  | _, .int _ => true
  | _, .str x => PyData.strOk x
  | 0, .list _ => false
  | n + 1, .list xs => shA n xs
  | 0, .tuple _ => false
  | n + 1, .tuple xs => shA n xs
  | _, .dict _ => false
def shA : Nat → List D → Bool
  | _, [] => true
  | n, x :: xs => sh n x && shA n xs
end
mutual
theorem sh_lay : ∀ (d : D) (n : Nat), sh n d = true → d.canLay0 = true ∧ d.depth ≤ n
  | .none, n, _ => by simp [PyData.canLay0, PyData.depth]
  | .bool _, n, _ => by simp [PyData.canLay0, PyData.depth]
  | .int _, n, _ => by simp [PyData.canLay0, PyData.depth]
  | .str x, n, h => by
    cases n <;> (simp [sh] at h; simp [PyData.canLay0, PyData.depth, h])
  | .list xs, 0, h => by simp [sh] at h
  | .list xs, n + 1, h => by
    have h' : shA n xs = true := by simpa [sh] using h
    have := shA_lay xs n h'
    simp [PyData.canLay0, PyData.depth, this]
  | .tuple xs, 0, h => by simp [sh] at h
  | .tuple xs, n + 1, h => by
    have h' : shA n xs = true := by simpa [sh] using h
    have := shA_lay xs n h'
    simp [PyData.canLay0, PyData.depth, this]
  | .dict _, n, h => by cases n <;> simp [sh] at h
theorem shA_lay : ∀ (xs : List D) (n : Nat), shA n xs = true → PyData.canLayAll0 xs = true ∧ PyData.depthAll xs ≤ n
  | [], n, _ => by simp [PyData.canLayAll0, PyData.depthAll]
  | x :: xs, n, h => by
    have h' : sh n x = true ∧ shA n xs = true := by simpa [shA] using h
    have h1 := sh_lay x n h'.1
    have h2 := shA_lay xs n h'.2
    simp [PyData.canLayAll0, PyData.depthAll, h1, h2]
    omega
end
theorem sh_shaped {d : D} (h : sh 16 d = true) : SeqAt.shaped d = true := by
  have := sh_lay d 16 h
  unfold SeqAt.shaped
  rw [this.1, decide_eq_true (by omega)]
  rfl
mutual
theorem Rp.dp {K : PySem.W.Frag} {G H : Hp} (l : Le G H) : ∀ (d : D) {v : V}, PyData.canLay0 d = true → Rp K G v d → Dp K H v d
  | .none, _, _, .non => .non
  | .bool _, _, _, .bl b => .bl b
  | .int _, _, _, .int i => .int i
  | .str _, _, _, .str x => .str x
  | .list ds, _, h, .lst s a z => .lst (.inl (l _ _ s)) (RpA.dp l ds (by simpa [PyData.canLay0] using h) a)
  | .tuple ds, _, h, .tup s a z => .tup (l.sqT s) (RpA.dp l ds (by simpa [PyData.canLay0] using h) a)
  | .dict es, _, h, _ => by simp [PyData.canLay0] at h
theorem RpA.dp {K : PySem.W.Frag} {G H : Hp} (l : Le G H) : ∀ (ds : List D) {vs : List V}, PyData.canLayAll0 ds = true → RpA K G vs ds → DpAll K H vs ds
  | [], _, _, .nil => .nil
  | d :: ds, _, h, .cons r t => .cons (Rp.dp l d (by have := h; simp [PyData.canLayAll0] at this; exact this.1) r) (RpA.dp l ds (by have := h; simp [PyData.canLayAll0] at this; exact this.2) t)
end
theorem Rb.dp {ω : Option Addr} {K : PySem.W.Frag} {G H : Hp} (l : Le G H) {d : D} {v : V} (h : PyData.canLay0 d = true) (r : Rb ω K G H v d) : Dp K H v d := by
  rcases r with r | ⟨o, u, rfl, h2, h3, h4⟩
  · exact r.dp l d h
  · cases h4 with
    | lst a z => exact .lst (.inl (.inl h3)) (a.dp l _ (by simpa [PyData.canLay0] using h))
    | dK a z => simp [PyData.canLay0] at h
    | dT a z => simp [PyData.canLay0] at h
def eqD (x y : D) : M D := M.need ((sh 16 x && sh 16 y) = true) (M.pure (.bool (PyData.eqv x y)))
def neD (x y : D) : M D := M.need ((sh 16 x && sh 16 y) = true) (M.pure (.bool (!PyData.eqv x y)))
theorem eq_ok : OpOk S (compareOp .Eq) eqD := by
  intro ω G H x y v u P Q e rx ry hf q
  obtain ⟨h, hf⟩ := hf
  rw [Bool.and_eq_true] at h
  have s1 := sh_shaped h.1
  have s2 := sh_shaped h.2
  exact ⟨rEqD S.K, fun X hX => hX.K ▸ op_eqD hX.room.units, x, y, rx.dp e.le (SeqAt.canLay_of_shaped s1), ry.dp e.le (SeqAt.canLay_of_shaped s2), s1, s2, q _ _ _ _ hf e (.bl _)⟩
theorem ne_ok : OpOk S (compareOp .NotEq) neD := by
  intro ω G H x y v u P Q e rx ry hf q
  obtain ⟨h, hf⟩ := hf
  rw [Bool.and_eq_true] at h
  have s1 := sh_shaped h.1
  have s2 := sh_shaped h.2
  exact ⟨rNeD S.K, fun X hX => hX.K ▸ op_neD hX.room.units, x, y, rx.dp e.le (SeqAt.canLay_of_shaped s1), ry.dp e.le (SeqAt.canLay_of_shaped s2), s1, s2, q _ _ _ _ hf e (.bl _)⟩
theorem lt_ok : OpOk S (compareOp .Lt) ltD := by
  intro ω G H x y v u P Q e rx ry hf q
  cases x with
  | int i => cases y with
    | int j => cases rx.int; cases ry.int; exact ⟨_, fun X hX => op_lt, i, j, rfl, rfl, q _ _ _ _ hf e (.bl _)⟩
    | _ => exact hf.elim
  | _ => exact hf.elim
theorem le_ok : OpOk S (compareOp .LtE) leD := by
  intro ω G H x y v u P Q e rx ry hf q
  cases x with
  | int i => cases y with
    | int j => cases rx.int; cases ry.int; exact ⟨_, fun X hX => op_le, i, j, rfl, rfl, q _ _ _ _ hf e (.bl _)⟩
    | _ => exact hf.elim
  | _ => exact hf.elim
theorem gt_ok : OpOk S (compareOp .Gt) gtD := by
  intro ω G H x y v u P Q e rx ry hf q
  cases x with
  | int i => cases y with
    | int j => cases rx.int; cases ry.int; exact ⟨_, fun X hX => op_gt, i, j, rfl, rfl, q _ _ _ _ hf e (.bl _)⟩
    | _ => exact hf.elim
  | _ => exact hf.elim
theorem ge_ok : OpOk S (compareOp .GtE) geD := by
  intro ω G H x y v u P Q e rx ry hf q
  cases x with
  | int i => cases y with
    | int j => cases rx.int; cases ry.int; exact ⟨_, fun X hX => op_ge, i, j, rfl, rfl, q _ _ _ _ hf e (.bl _)⟩
    | _ => exact hf.elim
  | _ => exact hf.elim
/-- is None, is True -/
def isD : D → D → M D
  | .none, .none => M.pure (.bool true)
  | _, .none => M.pure (.bool false)
  | .bool a, .bool b => M.pure (.bool (decide (a = b)))
  | _, _ => M.fail
def isnD (x y : D) : M D := (isD x y).bind fun z => match z with
  | .bool b => M.pure (.bool (!b))
  | _ => M.fail
def isNoneD : D → Bool
  | .none => true
  | _ => false
theorem rb_non {ω : Option Addr} {K : PySem.W.Frag} {G H : Hp} {v : V} {d : D} (r : Rb ω K G H v d) : decide (v = .non) = isNoneD d := by
  rcases r with r | ⟨o, u, rfl, h2, h3, h4⟩
  · cases r <;> rfl
  · cases h4 <;> rfl
theorem isD_cases {x y : D} {P : D → Prop} (h : isD x y P) : (y = .none ∧ P (.bool (isNoneD x))) ∨ ∃ a b, x = .bool a ∧ y = .bool b ∧ P (.bool (decide (a = b))) := by
  cases y with
  | none => cases x <;> exact .inl ⟨rfl, h⟩
  | bool b => cases x with
    | bool a => exact .inr ⟨a, b, rfl, rfl, h⟩
    | _ => exact h.elim
  | _ => cases x <;> exact h.elim
theorem is_ok : OpOk S (compareOp .Is) isD := by
  intro ω G H x y v u P Q e rx ry hf q
  rcases isD_cases hf with ⟨rfl, hf'⟩ | ⟨a, b, rfl, rfl, hf'⟩
  · refine ⟨_, fun X hX => op_isN, ry.non, ?_⟩
    rw [rb_non rx]
    exact q _ _ _ _ hf' e (.bl _)
  · cases rx.bl; cases ry.bl
    exact ⟨_, fun X hX => op_is_bl, a, b, rfl, rfl, q _ _ _ _ hf' e (.bl _)⟩
theorem isn_ok : OpOk S (compareOp .IsNot) isnD := by
  intro ω G H x y v u P Q e rx ry hf q
  rcases isD_cases hf with ⟨rfl, hf'⟩ | ⟨a, b, rfl, rfl, hf'⟩
  · refine ⟨_, fun X hX => op_notN, ry.non, ?_⟩
    rw [rb_non rx]
    exact q _ _ _ _ hf' e (.bl _)
  · cases rx.bl; cases ry.bl
    exact ⟨_, fun X hX => op_isnot_bl, a, b, rfl, rfl, q _ _ _ _ hf' e (.bl _)⟩
end
end Wp
namespace Wp
open PySem PySem.Spec PyProof.Rows L2

section
variable {S : Sg}
/-! ### subscripts -/
def kD : D → Bool
  | .int _ => true
  | .str _ => true
  | _ => false
def lookD (es : List (D × D)) (k : D) : Option D := (es.find? fun p => PyData.eqv p.1 k).map (·.2)
def ixD : D → D → M D
  | .list xs, .int i => M.opt (atI xs i)
  | .tuple xs, .int i => M.opt (atI xs i)
  | .str x, .int i => M.need (x.length ≤ 16777216) (M.opt ((atI x.cps.toList i).map fun c => .str ⟨#[c]⟩))
  | .dict es, k => M.need (kD k = true) (M.opt (lookD es k))
  | _, _ => M.fail
theorem keyD_kD {k : D} (h : kD k = true) : ∃ c : Key, k = keyD c := by
  cases k with
  | int i => exact ⟨.inl i, rfl⟩
  | str x => exact ⟨.inr x, rfl⟩
  | _ => simp [kD] at h
theorem eqv_keyD (a b : Key) : PyData.eqv (keyD a) (keyD b) = decide (a = b) := by
  cases a with
  | inl i => cases b with
    | inl j => by_cases h : i = j <;> simp [keyD, PyData.eqv, h]
    | inr y => simp [keyD, PyData.eqv]
  | inr x => cases b with
    | inl j => simp [keyD, PyData.eqv]
    | inr y => by_cases h : x = y <;> simp [keyD, PyData.eqv, h]
theorem look_rel {K : PySem.W.Frag} {G : Hp} {kvs : List (Key × V)} {es : List (D × D)} (r : RpK K G kvs es) (k : Key) : (∀ d, lookD es (keyD k) = some d → ∃ v, valV kvs k = some v ∧ Rp K G v d) ∧ (lookD es (keyD k) = none → valV kvs k = none) := by
  match r with
  | .nil => exact ⟨fun d h => by simp [lookD] at h, fun _ => rfl⟩
  | .cons (k := c) (v := v) (d := d) (ds := ds) (vs := vs) r t =>
    have ih := look_rel t k
    unfold lookD at *
    by_cases e : c = k
    · subst e
      have h1 : PyData.eqv (keyD c) (keyD c) = true := by rw [eqv_keyD]; simp
      simp only [List.find?_cons, h1]
      refine ⟨fun d' h => ?_, fun h => by simp at h⟩
      simp at h; subst h
      exact ⟨v, valV_pos rfl, r⟩
    · have h1 : PyData.eqv (keyD c) (keyD k) = false := by rw [eqv_keyD]; simp [e]
      simp only [List.find?_cons, h1]
      rw [valV_neg (p := (c, v)) e]
      exact ih
theorem kV_rel {ω : Option Addr} {K : PySem.W.Frag} {G H : Hp} {v : V} {k : Key} (r : Rb ω K G H v (keyD k)) : v = kV k := by
  cases k with
  | inl i => exact r.int
  | inr x => exact r.str
theorem ix_dict {X : Cx} (hu : X.A.units + 1 < cLine) : IxR X (fun x y H Q => ∃ a v, x = .ref a ∧ DGet H a y (some v) ∧ Q v H) := by
  intro value slice pins s σ H x y v u Q I rx ry h hs
  obtain ⟨a, z, rfl, g, q⟩ := h
  cases rx
  exact tail_any (dict_typeIs I g) PySem.F.slot_dict_getitem.lookup (d_getItem hu I g ry fun w' s3 I3 rw' => ⟨z, H, I3, rw', q⟩) hs
theorem atI_rel {K : PySem.W.Frag} {G : Hp} {xs : List V} {ds : List D} (r : RpA K G xs ds) {i : Int} {d : D} (h : atI ds i = some d) : ∃ v, atI xs i = some v ∧ Rp K G v d := by
  unfold atI at *
  rw [r.length]
  cases e : ixN ds.length i with
  | none => rw [e] at h; cases h
  | some j => rw [e] at h; exact r.getD h
theorem noT {ω : Option Addr} {K : PySem.W.Frag} {G H : Hp} {v : V} {es : List (D × D)} (r : Rb ω K G H v (.dict es)) (l : Le G H) : ∃ a, v = .ref a ∧ es.length ≤ sizeLine ∧ ((∃ kvs, Rd H a (.dK kvs) ∧ RpK K G kvs es) ∨ ∃ kvs es', es = (.none, .none) :: es' ∧ Rd H a (.dT kvs) ∧ RpT K G kvs es') := by
  rcases r with h | ⟨o, u, h1, h2, h3, h4⟩
  · cases h with
    | dK s a z => exact ⟨_, rfl, z, .inl ⟨_, l _ _ (.inl s), a⟩⟩
    | dT s a z => exact ⟨_, rfl, z, .inr ⟨_, _, rfl, l _ _ (.inl s), a⟩⟩
  · cases h4 with
    | dK a z => exact ⟨o, h1, z, .inl ⟨_, .inl h3, a⟩⟩
    | dT a z => exact ⟨o, h1, z, .inr ⟨_, _, rfl, .inl h3, a⟩⟩
def marked : List (D × D) → Bool
  | (.none, _) :: _ => true
  | _ => false
theorem look_T {K : PySem.W.Frag} {G : Hp} (c : Key) : ∀ {kvs : List (List Key × V)} {es : List (D × D)}, RpT K G kvs es → lookD es (keyD c) = none
  | _, _, .nil => rfl
  | _, _, .cons r t => by
    have ih := look_T c t
    unfold lookD at *
    have h1 : ∀ k : List Key, PyData.eqv (keyT k) (keyD c) = false := fun k => by cases c <;> simp [keyT, keyD, PyData.eqv]
    rw [List.find?_cons, h1]
    exact ih
theorem ix_ok : IxOk S ixD := by
  intro ω G H x y v u P Q e rx ry hf q
  cases x with
  | list xs => cases y with
    | int i =>
      cases ry.int
      obtain ⟨d, h1, h2⟩ := hf
      obtain ⟨a, as, rfl, s1, r1, _⟩ := rx.list e.le
      obtain ⟨v, h3, r⟩ := atI_rel r1 h1
      exact ⟨rIxL S.K, fun X hX => hX.K ▸ ix_list, a, as, i, v, rfl, rfl, .inl s1, h3, q _ _ _ _ h2 e r⟩
    | _ => exact hf.elim
  | tuple xs => cases y with
    | int i =>
      cases ry.int
      obtain ⟨d, h1, h2⟩ := hf
      obtain ⟨a, as, rfl, s1, r1, _⟩ := rx.tup e.le
      obtain ⟨v, h3, r⟩ := atI_rel r1 h1
      exact ⟨rIxT S.K, fun X hX => hX.K ▸ ix_tup, a, as, i, v, rfl, rfl, s1, h3, q _ _ _ _ h2 e r⟩
    | _ => exact hf.elim
  | str x => cases y with
    | int i =>
      cases ry.int; cases rx.str
      obtain ⟨hl, d, h1, h2⟩ := hf
      obtain ⟨c, h3, h4⟩ := Option.map_eq_some_iff.mp h1
      subst h4
      exact ⟨rIxS, fun X hX => ix_str, x, i, c, rfl, rfl, line_le hl, h3, q _ _ _ _ h2 e (.str _)⟩
    | _ => exact hf.elim
  | dict es =>
    obtain ⟨hk, d, h1, h2⟩ := hf
    obtain ⟨c, rfl⟩ := keyD_kD hk
    obtain ⟨a, rfl, _, ⟨kvs, s1, r1⟩ | ⟨kvs, es', rfl, _, _⟩⟩ := noT rx e.le
    · obtain ⟨v, h3, r⟩ := (look_rel r1 c).1 d h1
      exact ⟨_, fun X hX => ix_dict (hu_of hX.room), a, v, rfl, .inl ⟨kvs, c, s1, kV_rel ry, h3.symm⟩, q _ _ _ _ h2 e r⟩
    · have : lookD ((PyData.none, PyData.none) :: es') (keyD c) = lookD es' (keyD c) := by
        unfold lookD
        rw [List.find?_cons, show PyData.eqv .none (keyD c) = false by cases c <;> simp [keyD, PyData.eqv]]
      rw [this, look_T c (by assumption)] at h1
      cases h1
  | _ => exact hf.elim

/-! ### in -/
def inD : D → D → M D
  | x, .list ys => M.need ((sh 16 x && shA 16 ys) = true) (M.pure (.bool (ys.any fun z => PyData.eqv z x)))
  | x, .tuple ys => M.need ((sh 16 x && shA 16 ys) = true) (M.pure (.bool (ys.any fun z => PyData.eqv z x)))
  | k, .dict es => M.need ((kD k && !marked es) = true) (M.pure (.bool (lookD es k).isSome))
  | _, _ => M.fail
def ninD (x y : D) : M D := (inD x y).bind fun z => match z with
  | .bool b => M.pure (.bool (!b))
  | _ => M.fail
theorem room_in {X : Cx} {ds : List D} {d : D} (hr : Room k X.A) (h1 : sh 16 d = true) (h2 : shA 16 ds = true) : X.A.units + 1 + min (PyData.depthAll ds) d.depth < cLine := by
  have := (sh_lay d 16 h1).2
  have := hr.un
  omega
theorem in_seqD {X : Cx} (hr : Room k X.A) : OpR X (compareOp .In) (fun x y H Q => ∃ d ds, Dp X.K H x d ∧ (Dp X.K H y (.list ds) ∨ Dp X.K H y (.tuple ds)) ∧ sh 16 d = true ∧ shA 16 ds = true ∧ Q (.bl (ds.any fun z => PyData.eqv z d)) H) := by
  intro pins s σ H x y v u Q I rx ry h
  obtain ⟨d, ds, hd, he, sd, se, q⟩ := h
  obtain ⟨as, r1⟩ := Dp.reads I d x v hd rx
  rcases he with he | he
  · obtain ⟨bs, r2⟩ := Dp.reads I (.list ds) y u he ry
    exact SeqAt.in_list_reads r2 r1 (shA_lay ds 16 se).1 (sh_lay d 16 sd).1 (room_in hr sd se) ⟨.bl _, H, I, rfl, q⟩
  · obtain ⟨bs, r2⟩ := Dp.reads I (.tuple ds) y u he ry
    exact SeqAt.in_tuple_reads r2 r1 (shA_lay ds 16 se).1 (sh_lay d 16 sd).1 (room_in hr sd se) ⟨.bl _, H, I, rfl, q⟩
theorem nin_seqD {X : Cx} (hr : Room k X.A) : OpR X (compareOp .NotIn) (fun x y H Q => ∃ d ds, Dp X.K H x d ∧ (Dp X.K H y (.list ds) ∨ Dp X.K H y (.tuple ds)) ∧ sh 16 d = true ∧ shA 16 ds = true ∧ Q (.bl (!ds.any fun z => PyData.eqv z d)) H) := by
  intro pins s σ H x y v u Q I rx ry h
  obtain ⟨d, ds, hd, he, sd, se, q⟩ := h
  obtain ⟨as, r1⟩ := Dp.reads I d x v hd rx
  rcases he with he | he
  · obtain ⟨bs, r2⟩ := Dp.reads I (.list ds) y u he ry
    exact SeqAt.notIn_list_reads r2 r1 (shA_lay ds 16 se).1 (sh_lay d 16 sd).1 (room_in hr sd se) ⟨.bl _, H, I, rfl, q⟩
  · obtain ⟨bs, r2⟩ := Dp.reads I (.tuple ds) y u he ry
    exact SeqAt.notIn_tuple_reads r2 r1 (shA_lay ds 16 se).1 (sh_lay d 16 sd).1 (room_in hr sd se) ⟨.bl _, H, I, rfl, q⟩
theorem in_dictD {X : Cx} (hu : X.A.units + 1 < cLine) : OpR X (compareOp .In) (fun x y H Q => ∃ a o, y = .ref a ∧ DGet H a x o ∧ Q (.bl o.isSome) H) := by
  intro pins s σ H x y v u Q I rx ry h
  obtain ⟨a, o, rfl, g, q⟩ := h
  cases ry
  exact d_in hu I g rx fun s3 I3 => ⟨.bl o.isSome, H, I3, rfl, q⟩
theorem nin_dictD {X : Cx} (hu : X.A.units + 1 < cLine) : OpR X (compareOp .NotIn) (fun x y H Q => ∃ a o, y = .ref a ∧ DGet H a x o ∧ Q (.bl (!o.isSome)) H) := by
  intro pins s σ H x y v u Q I rx ry h
  obtain ⟨a, o, rfl, g, q⟩ := h
  cases ry
  exact d_notIn hu I g rx fun s3 I3 => ⟨.bl (!o.isSome), H, I3, rfl, q⟩
theorem in_cases {ω : Option Addr} {G H : Hp} {x y : D} {v u : V} {P : D → Prop} (e : Ext ω S.K G H G H) (rx : Rb ω S.K G H v x) (ry : Rb ω S.K G H u y) (hf : inD x y P) :
    (∃ ds, (y = .list ds ∨ y = .tuple ds) ∧ Dp S.K H v x ∧ (Dp S.K H u (.list ds) ∨ Dp S.K H u (.tuple ds)) ∧ sh 16 x = true ∧ shA 16 ds = true ∧ P (.bool (ds.any fun z => PyData.eqv z x))) ∨
    ∃ a o, u = .ref a ∧ DGet H a v o ∧ P (.bool o.isSome) := by
  cases y with
  | list ds =>
    obtain ⟨h, hf⟩ := hf
    rw [Bool.and_eq_true] at h
    exact .inl ⟨ds, .inl rfl, rx.dp e.le (sh_lay x 16 h.1).1, .inl (ry.dp e.le (by simp [PyData.canLay0, (shA_lay ds 16 h.2).1])), h.1, h.2, hf⟩
  | tuple ds =>
    obtain ⟨h, hf⟩ := hf
    rw [Bool.and_eq_true] at h
    exact .inl ⟨ds, .inr rfl, rx.dp e.le (sh_lay x 16 h.1).1, .inr (ry.dp e.le (by simp [PyData.canLay0, (shA_lay ds 16 h.2).1])), h.1, h.2, hf⟩
  | dict es =>
    obtain ⟨h, hf⟩ := hf
    rw [Bool.and_eq_true] at h
    obtain ⟨c, rfl⟩ := keyD_kD h.1
    obtain ⟨a, rfl, _, ⟨kvs, s1, r1⟩ | ⟨kvs, es', rfl, _, _⟩⟩ := noT ry e.le
    · refine .inr ⟨a, valV kvs c, rfl, .inl ⟨kvs, c, s1, kV_rel rx, rfl⟩, ?_⟩
      have hl := look_rel r1 c
      cases q : lookD es (keyD c) with
      | none => rw [hl.2 q]; rw [q] at hf; exact hf
      | some d => obtain ⟨v, h3, _⟩ := hl.1 d q; rw [h3]; rw [q] at hf; exact hf
    · simp [marked] at h
  | _ => exact hf.elim
theorem in_ok : OpOk S (compareOp .In) inD := by
  intro ω G H x y v u P Q e rx ry hf q
  rcases in_cases e rx ry hf with ⟨ds, _, h1, h2, h3, h4, h5⟩ | ⟨a, o, rfl, g, h5⟩
  · exact ⟨fun x y H Q => ∃ d ds, Dp S.K H x d ∧ (Dp S.K H y (.list ds) ∨ Dp S.K H y (.tuple ds)) ∧ sh 16 d = true ∧ shA 16 ds = true ∧ Q (.bl (ds.any fun z => PyData.eqv z d)) H, fun X hX => hX.K ▸ in_seqD hX.room, x, ds, h1, h2, h3, h4, q _ _ _ _ h5 e (.bl _)⟩
  · exact ⟨_, fun X hX => in_dictD (hu_of hX.room), a, o, rfl, g, q _ _ _ _ h5 e (.bl _)⟩
theorem nin_ok : OpOk S (compareOp .NotIn) ninD := by
  intro ω G H x y v u P Q e rx ry hf q
  rcases in_cases e rx ry hf with ⟨ds, _, h1, h2, h3, h4, h5⟩ | ⟨a, o, rfl, g, h5⟩
  · exact ⟨fun x y H Q => ∃ d ds, Dp S.K H x d ∧ (Dp S.K H y (.list ds) ∨ Dp S.K H y (.tuple ds)) ∧ sh 16 d = true ∧ shA 16 ds = true ∧ Q (.bl (!ds.any fun z => PyData.eqv z d)) H, fun X hX => hX.K ▸ nin_seqD hX.room, x, ds, h1, h2, h3, h4, q _ _ _ _ h5 e (.bl _)⟩
  · exact ⟨_, fun X hX => nin_dictD (hu_of hX.room), a, o, rfl, g, q _ _ _ _ h5 e (.bl _)⟩

/-! ### slices -/
/-- the items of xs[lo:hi] -/
def cutD (xs : List D) (lo hi : Option Int) : List D := (xs.drop (HT.sIx xs.length 0 lo)).take (HT.sIx xs.length xs.length hi - HT.sIx xs.length 0 lo)
def slD : D → Option Int → Option Int → M D
  | .list xs, lo, hi => M.pure (.list (cutD xs lo hi))
  | .tuple xs, lo, hi => M.pure (.tuple (cutD xs lo hi))
  | _, _, _ => M.fail
theorem cut_rel {K : PySem.W.Frag} {G : Hp} {xs : List V} {ds : List D} (r : RpA K G xs ds) (lo hi : Option Int) : RpA K G (cutV xs lo hi) (cutD ds lo hi) := by
  unfold cutV cutD
  rw [r.length]
  exact (r.drop _).take _
theorem cut_len (ds : List D) (lo hi : Option Int) : (cutD ds lo hi).length ≤ ds.length := by
  unfold cutD
  simp only [List.length_take, List.length_drop]
  omega
theorem cut_whole {ds : List D} {lo hi : Option Int} (h : HT.sIx ds.length 0 lo = 0 ∧ HT.sIx ds.length ds.length hi = ds.length) : cutD ds lo hi = ds := by
  unfold cutD
  rw [h.1, h.2]
  simp
theorem sl_ok : SlOk S slD := by
  intro ω G H x v lo hi P Q e rx hf q
  cases x with
  | list ds =>
    obtain ⟨a, as, rfl, s1, r1, z⟩ := rx.list e.le
    refine ⟨rSlL S.K, fun X hX => hX.K ▸ sl_list, a, as, rfl, .inl s1, fun p np => ?_⟩
    obtain ⟨e2, r⟩ := new_lst e np (cut_rel r1 lo hi) (Nat.le_trans (cut_len ds lo hi) z)
    exact q _ _ _ _ hf e2 r
  | tuple ds =>
    obtain ⟨a, as, rfl, s1, r1, z⟩ := rx.tup e.le
    refine ⟨rSlA S.K, fun X hX => hX.K ▸ sl_tupA, a, as, rfl, s1, fun h => ?_, fun _ p np => ?_⟩
    · rw [r1.length] at h
      have hf2 : P (.tuple (cutD ds lo hi)) := hf
      rw [cut_whole h] at hf2
      exact q _ _ _ _ hf2 e (rb_tup rx)
    · obtain ⟨e2, r⟩ := new_tup e np (cut_rel r1 lo hi) (Nat.le_trans (cut_len ds lo hi) z)
      exact q _ _ _ _ hf e2 r
  | _ => exact hf.elim
/-- xs[::-1] -/
def revD : D → M D
  | .list xs => M.pure (.list xs.reverse)
  | _ => M.fail
theorem RpA.reverse {K : PySem.W.Frag} {G : Hp} : ∀ {xs : List V} {ds : List D}, RpA K G xs ds → RpA K G xs.reverse ds.reverse
  | _, _, .nil => .nil
  | _, _, .cons r t => by rw [List.reverse_cons, List.reverse_cons]; exact t.reverse.append (.cons r .nil)
theorem we_rev {Γ : En} {a : Expr} {ma : M D} {k : Nat} {p1 p2 p3 pos : Pos} (ha : WB S Γ a ma) : WE S Γ (.Subscript a (.Slice none none (some (.UnaryOp .USub (.Constant (.int 1) k p1) p2)) p3) pos) (ma.bind fun x => revD x) := by
  intro ω G0 H0 σ G H P Q E hm q
  refine ⟨tRevL S.K (RE S a), fun X hX => hX.K ▸ pe_revL (RE.pe hX a), ha ω G0 H0 σ G H _ _ E hm fun x v G1 H1 hx e1 r1 => ?_⟩
  cases x with
  | list ds =>
    obtain ⟨a, as, rfl, s1, r1, z⟩ := r1.list e1.le
    refine ⟨a, as, rfl, .inl s1, fun p np => ?_⟩
    obtain ⟨e2, r⟩ := new_lst e1.self np r1.reverse (by rw [List.length_reverse]; exact z)
    exact q _ _ _ _ hx (e1.trans e2) r
  | _ => exact hx.elim

/-! ### built-ins of one argument -/
def lenD : D → M D
  | .list xs => M.pure (.int xs.length)
  | .tuple xs => M.pure (.int xs.length)
  | .str x => M.need (x.length ≤ 16777216) (M.pure (.int x.length))
  | .dict es => M.need (marked es = false) (M.pure (.int es.length))
  | _ => M.fail
theorem RpK.length {K : PySem.W.Frag} {G : Hp} : ∀ {kvs : List (Key × V)} {es : List (D × D)}, RpK K G kvs es → kvs.length = es.length
  | _, _, .nil => rfl
  | _, _, .cons _ t => congrArg (· + 1) t.length
theorem call_lenD' {X : Cx} : CallR X (.builtin "len") (fun xs H Q => ∃ d kvs, xs = [.ref d] ∧ Rd H d (.dK kvs) ∧ Q (.int kvs.length) H) := by
  intro pins s σ H xs us Q I r h
  obtain ⟨d, kvs, rfl, hd, q⟩ := h
  obtain ⟨u, rfl, rx⟩ := vals1 r
  cases rx
  exact d_len I hd fun t s' I' => ⟨.int _, H, I', ⟨t, rfl⟩, q⟩
theorem len_ok : C1Ok S (.builtin "len") lenD := by
  intro ω G H x v P Q e rx hf q
  cases x with
  | list ds =>
    obtain ⟨a, as, rfl, s1, r1, z⟩ := rx.list e.le
    have hf2 : P (.int as.length) := by rw [r1.length]; exact hf
    exact ⟨_, fun X hX => hX.K ▸ call_len_seq, a, as, rfl, .inl (.inl s1), q _ _ _ _ hf2 e (.int _)⟩
  | tuple ds =>
    obtain ⟨a, as, rfl, s1, r1, z⟩ := rx.tup e.le
    have hf2 : P (.int as.length) := by rw [r1.length]; exact hf
    exact ⟨fun xs H Q => ∃ p ys, xs = [.ref p] ∧ (SqL S.K H p ys ∨ SqT S.K H p ys) ∧ Q (.int ys.length) H, fun X hX => hX.K ▸ call_len_seq, a, as, rfl, .inr s1, q _ _ _ _ hf2 e (.int _)⟩
  | str x => cases rx.str; exact ⟨_, fun X hX => call_len_str, x, rfl, line_le hf.1, q _ _ _ _ hf.2 e (.int _)⟩
  | dict es =>
    obtain ⟨a, rfl, _, ⟨kvs, s1, r1⟩ | ⟨kvs, es', rfl, _, _⟩⟩ := noT rx e.le
    · have hf2 : P (.int kvs.length) := by rw [r1.length]; exact hf.2
      exact ⟨_, fun X hX => call_lenD', a, kvs, rfl, s1, q _ _ _ _ hf2 e (.int _)⟩
    · have := hf.1; simp [marked] at this
  | _ => exact hf.elim
def intD : D → M D
  | .int i => M.pure (.int i)
  | .bool b => M.pure (.int (if b then 1 else 0))
  | _ => M.fail
theorem int_ok : C1Ok S (.type "int") intD := by
  intro ω G H x v P Q e rx hf q
  cases x with
  | int i => cases rx.int; exact ⟨_, fun X hX => call_int1, .inl ⟨i, rfl, q _ _ _ _ hf e (.int _)⟩⟩
  | bool b => cases rx.bl; exact ⟨_, fun X hX => call_int1, .inr ⟨b, rfl, q _ _ _ _ hf e (.int _)⟩⟩
  | _ => exact hf.elim
def absD : D → M D
  | .int i => M.pure (.int (if i < 0 then -i else i))
  | _ => M.fail
theorem abs_ok : C1Ok S (.builtin "abs") absD := by
  intro ω G H x v P Q e rx hf q
  cases x with
  | int i => cases rx.int; exact ⟨_, fun X hX => call_abs, i, rfl, q _ _ _ _ hf e (.int _)⟩
  | _ => exact hf.elim
def max2D : D → D → M D
  | .int i, .int j => M.pure (.int (max i j))
  | _, _ => M.fail
def min2D : D → D → M D
  | .int i, .int j => M.pure (.int (min i j))
  | _, _ => M.fail
theorem max2_ok : C2Ok S (.builtin "max") max2D := by
  intro ω G H x y v u P Q e rx ry hf q
  cases x with
  | int i => cases y with
    | int j =>
      cases rx.int; cases ry.int
      refine ⟨_, fun X hX => call_max2 hX.calm, i, j, rfl, ?_⟩
      have h : (if j > i then j else i) = max i j := by by_cases h : j > i <;> simp [h] <;> omega
      rw [h]; exact q _ _ _ _ hf e (.int _)
    | _ => exact hf.elim
  | _ => exact hf.elim
theorem min2_ok : C2Ok S (.builtin "min") min2D := by
  intro ω G H x y v u P Q e rx ry hf q
  cases x with
  | int i => cases y with
    | int j =>
      cases rx.int; cases ry.int
      refine ⟨_, fun X hX => call_min2 hX.calm, i, j, rfl, ?_⟩
      have h : (if j < i then j else i) = min i j := by by_cases h : j < i <;> simp [h] <;> omega
      rw [h]; exact q _ _ _ _ hf e (.int _)
    | _ => exact hf.elim
  | _ => exact hf.elim
/-- the ints of a list of ints -/
def asInts : List D → Option (List Int)
  | [] => some []
  | .int i :: ds => (asInts ds).map (i :: ·)
  | _ :: _ => none
theorem asInts_map : ∀ ns : List Int, asInts (ns.map .int) = some ns
  | [] => rfl
  | n :: ns => by simp [asInts, asInts_map ns]
theorem asInts_some : ∀ {ds : List D} {ns : List Int}, asInts ds = some ns → ds = ns.map .int
  | [], ns, h => by simp [asInts] at h; subst h; rfl
  | d :: ds, ns, h => by
    cases d with
    | int i =>
      obtain ⟨ms, h1, h2⟩ := Option.map_eq_some_iff.mp (show (asInts ds).map (i :: ·) = some ns from h)
      subst h2
      rw [asInts_some h1]; rfl
    | _ => simp [asInts] at h
theorem RpA.ints {K : PySem.W.Frag} {G : Hp} : ∀ {ns : List Int} {xs : List V}, RpA K G xs (ns.map .int) → xs = ns.map V.int
  | [], _, .nil => rfl
  | n :: ns, _, .cons r t => by cases r; rw [t.ints]; rfl
def sumD : D → M D
  | .list ds => (M.opt (asInts ds)).bind fun ns => M.pure (.int ns.sum)
  | _ => M.fail
theorem sum_ok : C1Ok S (.builtin "sum") sumD := by
  intro ω G H x v P Q e rx hf q
  cases x with
  | list ds =>
    obtain ⟨ns, h1, hf⟩ := hf
    obtain ⟨a, as, rfl, s1, r1, z⟩ := rx.list e.le
    have e2 := asInts_some h1
    subst e2
    have e3 := r1.ints
    subst e3
    exact ⟨rSum S.K, fun X hX => hX.K ▸ cr_sum hX.calm, a, ns, rfl, .inl s1, q _ _ _ _ hf e (.int _)⟩
  | _ => exact hf.elim
def tupleD : D → M D
  | .list ds => M.pure (.tuple ds)
  | .tuple ds => M.pure (.tuple ds)
  | _ => M.fail
theorem tuple_ok : C1Ok S (.type "tuple") tupleD := by
  intro ω G H x v P Q e rx hf q
  cases x with
  | list ds =>
    obtain ⟨a, as, rfl, s1, r1, z⟩ := rx.list e.le
    refine ⟨_, fun X hX => hX.K ▸ call_tuple_of, a, as, rfl, .inl ⟨.inl s1, fun p np => ?_⟩⟩
    obtain ⟨e2, r⟩ := new_tup e np r1 z
    exact q _ _ _ _ hf e2 r
  | tuple ds =>
    obtain ⟨a, as, rfl, s1, r1, z⟩ := rx.tup e.le
    exact ⟨fun xs H Q => ∃ p ys, xs = [.ref p] ∧ ((SqL S.K H p ys ∧ ∀ l, H l = none → Q (.ref l) (upd H l (.tup ys))) ∨ (SqT S.K H p ys ∧ Q (.ref p) H)), fun X hX => hX.K ▸ call_tuple_of, a, as, rfl, .inr ⟨s1, q _ _ _ _ hf e (rb_tup rx)⟩⟩
  | _ => exact hf.elim
def listD : D → M D
  | .list ds => M.pure (.list ds)
  | .tuple ds => M.pure (.list ds)
  | _ => M.fail
theorem list_ok : C1Ok S (.type "list") listD := by
  intro ω G H x v P Q e rx hf q
  cases x with
  | list ds =>
    obtain ⟨a, as, rfl, s1, r1, z⟩ := rx.list e.le
    refine ⟨_, fun X hX => hX.K ▸ call_list_of, a, as, rfl, .inl (.inl s1), fun p np => ?_⟩
    obtain ⟨e2, r⟩ := new_lst e np r1 z
    exact q _ _ _ _ hf e2 r
  | tuple ds =>
    obtain ⟨a, as, rfl, s1, r1, z⟩ := rx.tup e.le
    refine ⟨fun xs H Q => ∃ p ys, xs = [.ref p] ∧ (SqL S.K H p ys ∨ SqT S.K H p ys) ∧ ∀ l, H l = none → Q (.ref l) (upd H l (.lst ys)), fun X hX => hX.K ▸ call_list_of, a, as, rfl, .inr s1, fun p np => ?_⟩
    obtain ⟨e2, r⟩ := new_lst e np r1 z
    exact q _ _ _ _ hf e2 r
  | _ => exact hf.elim
/-- isinstance(x, T), T a built-in type -/
def tyD : D → String
  | .none => "NoneType"
  | .bool _ => "bool"
  | .int _ => "int"
  | .str _ => "str"
  | .list _ => "list"
  | .tuple _ => "tuple"
  | .dict _ => "dict"
def plainD : D → Bool
  | .dict es => !marked es
  | _ => true
def isiD (T : String) (x : D) : M D := M.need (plainD x = true) ((M.opt (kitB (tyD x) T)).bind fun b => M.pure (.bool b))
theorem tyX_of {ω : Option Addr} {K : PySem.W.Frag} {G H : Hp} {v : V} {d : D} (l : Le G H) (r : Rb ω K G H v d) (h : plainD d = true) : TyX K H v (.type (tyD d)) := by
  cases d with
  | none => cases r.non; exact .base .non
  | bool b => cases r.bl; exact .base (.bl b)
  | int b => cases r.int; exact .base (.int b)
  | str b => cases r.str; exact .base (.str b)
  | list ds =>
    obtain ⟨a, as, rfl, s1, r1, z⟩ := r.list l
    rcases s1 with s1 | ⟨o, s1⟩
    · exact .base (.lst s1)
    · exact .base (.frz s1)
  | tuple ds =>
    obtain ⟨a, as, rfl, s1, r1, z⟩ := r.tup l
    rcases s1 with (s1 | ⟨o, s1⟩) | ⟨o, its, n, h1, h2, _⟩
    · exact .base (.tup s1)
    · exact .fTuple s1
    · exact .kTuple h1 h2
  | dict es =>
    obtain ⟨a, rfl, _, ⟨kvs, s1, r1⟩ | ⟨kvs, es', rfl, s1, _⟩⟩ := noT r l
    · rcases s1 with s1 | ⟨o, s1⟩
      · exact .base (.dK s1)
      · exact .fDict s1
    · simp [plainD, marked] at h
theorem we_isi {Γ : En} {a : Expr} {ma : M D} {x t : Str} {T : String} {p p2 pos : Pos} (hb : BltAt S x (.builtin "isinstance")) (ht : BltAt S t (.type T)) (ha : WB S Γ a ma) (he : ∀ env, starEach [a, .Name t p2] env = (false, eval a env) :: starEach [.Name t p2] env := by intro _; rfl) :
    WE S Γ (.Call (.Name x p) [a, .Name t p2] [] pos) (ma.bind fun x => isiD T x) := by
  intro ω G0 H0 σ G H P Q E hm q
  refine ⟨_, fun X hX => hX.K ▸ pe_callB call_isi (gl_of hX hb.g) (by rw [hX.mg]; exact hb.m) hb.v (pa_cons (RE.pe hX a) (pa_cons (pe_bltn (v := .ty T) (gl_of hX ht.g) (by rw [hX.mg]; exact ht.m) ht.v rfl ht.n ht.d) pa_nil) (he _)) hb.n hb.d (he _) rfl, ?_⟩
  refine ha ω G0 H0 σ G H _ _ E hm fun d v G1 H1 hx e1 r1 => ?_
  obtain ⟨h1, b, h2, h3⟩ := hx
  exact ⟨v, .ty T, _, _, b, rfl, .ty T, tyX_of e1.le r1 h1, kit_ty h2, q _ _ _ _ h3 e1 (.bl b)⟩
end
end Wp
namespace Wp
open PySem PySem.Spec PyProof.Rows L2

section
variable {ω : Option Addr} {K : PySem.W.Frag} {G0 H0 G H G' H' : Hp} {Γ Γ' : En} {σ σ' : L2.St}
theorem EnvOk.fresh0 (E : EnvOk ω K G0 H0 Γ σ G H) {p : Addr} (hp : H p = none) : some p ≠ ω ∧ H0 p = none := by
  have h1 : some p ≠ ω := fun z => by
    obtain ⟨_, _, _, _, h, _⟩ := E.ext.dr p z.symm
    rw [hp] at h; cases h
  refine ⟨h1, ?_⟩
  cases q : H0 p with
  | none => rfl
  | some u => have := E.ext.hh p u h1 q; rw [hp] at this; cases this
/-- something new of one's own is stored -/
theorem EnvOk.putO (E : EnvOk ω K G0 H0 Γ σ G H) (e : Ext ω K G H G' H') {i : Nat} {p : Addr} {u : HO} {d : D} (hp : H p = none) (hG : G' p = none) (hH : H' p = some u) (r : RpO K G' u d) : EnvOk ω K G0 H0 (Γ.set i (some (.own d))) (σ.set i (some (.ref p))) G' H' := by
  obtain ⟨h1, h2⟩ := E.fresh0 hp
  refine (E.step e).put (c := .own d) ⟨p, u, rfl, h1, hH, hG, h2, r⟩ fun _ _ j e' hj hΓ hs => ?_
  obtain ⟨v, hv, o, u', rfl, _, ho, _⟩ := E.sl j _ hΓ
  rw [hv] at hs
  cases hs
  rw [hp] at ho; cases ho
/-- one's own is changed -/
theorem EnvOk.updO (E : EnvOk ω K G0 H0 Γ σ G H) {i : Nat} {o : Addr} {u' : HO} {d d' : D} (hi : Γ[i]? = some (some (.own d))) (hs : σ[i]? = some (some (.ref o))) (r : RpO K G u' d') : EnvOk ω K G0 H0 (Γ.set i (some (.own d'))) σ G (upd H o u') := by
  obtain ⟨v, hv, o', u, rfl, h1, h2, h3, h4, h5⟩ := E.sl i _ hi
  rw [hs] at hv
  cases hv
  refine ⟨⟨E.ext.gg, fun a w n e => ?_, fun a w e => ?_, E.ext.fr, fun b e => ?_⟩, by simpa using E.ln, fun j c h => ?_, fun a b da db w ha hb sa sb => ?_⟩
  · rw [upd_ne (fun z => by subst z; rw [h4] at e; cases e)]; exact E.ext.hh a w n e
  · have ha : a ≠ o := fun z => by
      subst z
      rcases e with e | ⟨q, e⟩ <;> (rw [h3] at e; cases e)
    rcases E.ext.le a w e with r | ⟨q, r⟩
    · exact .inl (by rw [upd_ne ha]; exact r)
    · exact .inr ⟨q, by rw [upd_ne ha]; exact r⟩
  · obtain ⟨g, vd, ds, at_, q1, q2, q3⟩ := E.ext.dr b e
    have hb : b ≠ o := fun z => h1 (by rw [← z, e])
    exact ⟨g, vd, ds, at_, by rw [upd_ne hb]; exact q1, q2, q3⟩
  · rcases getElem?_set_some h with ⟨rfl, e, hl⟩ | ⟨ne, h⟩
    · cases e
      exact ⟨.ref o, hs, o, u', rfl, h1, upd_same, h3, h4, r⟩
    · obtain ⟨v', g1, g2⟩ := E.sl j c h
      refine ⟨v', g1, ?_⟩
      cases c with
      | val e => exact g2
      | drw => exact g2
      | scr ns => exact g2
      | own e =>
        obtain ⟨o2, u2, rfl, q2, q3, q4, q5, q6⟩ := g2
        refine ⟨o2, u2, rfl, q2, ?_, q4, q5, q6⟩
        rw [upd_ne (fun z => ne (E.ds j i e d (.ref o) h hi (by rw [← z]; exact g1) hs))]
        exact q3
  · rcases getElem?_set_some ha with ⟨rfl, ea, _⟩ | ⟨na, ha'⟩
    · rcases getElem?_set_some hb with ⟨rfl, eb, _⟩ | ⟨nb, hb'⟩
      · rfl
      · exact E.ds _ _ d db w hi hb' sa sb
    · rcases getElem?_set_some hb with ⟨rfl, eb, _⟩ | ⟨nb, hb'⟩
      · exact E.ds _ _ da d w ha' hi sa sb
      · exact E.ds _ _ da db w ha' hb' sa sb
end

/-! ### something new of one's own -/
def WF (S : Sg) (Γ : En) (e : Expr) (m : M D) : Prop := ∀ (ω : Option Addr) (G0 H0 : Hp) (σ : L2.St) (G H : Hp) (P : D → Prop) (Q : VK), EnvOk ω S.K G0 H0 Γ σ G H → m P →
  (∀ d p u G' H', P d → Ext ω S.K G H G' H' → H p = none → G' p = none → H' p = some u → RpO S.K G' u d → Q (.ref p) H') → RE S e σ H Q
section
variable {S : Sg} {Γ Γ' : En} {e a b c e1 e2 e3 : Expr} {m ma mb mc me : M D} {pos pos' : Pos} {es : List Expr} {rest : List Stmt} {ρ : Type} {ι : ρ → Out}
theorem wf_lst {ms : M (List D)} (hs : WA S Γ es ms) (hl : es.length ≤ 1000 := by decide) : WF S Γ (.List es pos) (ms.bind fun ds => M.pure (.list ds)) := by
  intro ω G0 H0 σ G H P Q E hm q
  refine ⟨_, fun X hX => pe_lst (RA.pa hX es), ?_⟩
  refine hs ω G0 H0 σ G H _ _ E hm fun ds vs G1 H1 hx e1 r1 hd => ?_
  have z : ds.length ≤ sizeLine := by rw [hd]; exact Nat.le_of_lt (small1000 hl)
  refine ⟨by rw [r1.length]; exact z, fun p np => ?_⟩
  have hp : H p = none := by
    cases q : H p with
    | none => rfl
    | some u =>
      by_cases hω : some p = ω
      · obtain ⟨_, _, _, _, h, _⟩ := e1.dr p hω.symm
        rw [np] at h; cases h
      · have := e1.hh p u hω q; rw [np] at this; cases this
  exact q _ p _ G1 _ hx (e1.trans (e1.self.lay np)) hp (e1.le.none np) upd_same (.lst r1 z)
theorem wf_nil : WF S Γ (.List [] pos) (M.pure (.list [])) := fun ω G0 H0 σ G H P Q E hm q => wf_lst (pos := pos) wa_nil (by decide) ω G0 H0 σ G H P Q E hm q
theorem wf_dict0 : WF S Γ (.Dict [] [] pos) (M.pure (.dict [])) := by
  intro ω G0 H0 σ G H P Q E hm q
  exact ⟨_, fun X hX => pe_dnewK, fun p np => q _ p _ G _ hm (E.self.lay np) np (E.ext.le.none np) upd_same (.dK .nil (Nat.zero_le _))⟩
/-- x = something new, of one's own -/
theorem w_setF {i : Nat} {x : Str} {k : D → M ρ} (hx : SetAt S i x) (he : WF S Γ e me) (hk : ∀ d, W S (Γ.set i (some (.own d))) rest (k d) ι) (hs : ∀ env, swapsWith e (some (.Name x pos')) pos.line env = pure false := by intro _; rfl) :
    W S Γ (.Assign [.Name x pos'] e pos :: rest) (me.bind k) ι := by
  intro ω G0 H0 σ G H P Dn E hm q
  refine rs_cons (fun X hX => ps_set (i := i) (by rw [hX.N]; exact hX.nd) (by rw [hX.N]; exact hx.n) (by rw [hX.sc]; exact hx.l) (RE.pe hX e) (hs _) (hx.fx hX)) ?_
  refine he ω G0 H0 σ G H _ _ E hm fun d p u G1 H1 hP e1 h1 h2 h3 r1 => ?_
  exact hk d ω G0 H0 _ G1 H1 P Dn (E.putO e1 h1 h2 h3 r1) hP q

end

/-! ### several at once -/
/-- data, and new things of one's own (unlike one another) -/
inductive CtsOk (ω : Option Addr) (K : PySem.W.Frag) (H G' H' : Hp) : List V → List Ct → Prop
  | nil : CtsOk ω K H G' H' [] []
  | val {v : V} {vs : List V} {d : D} {cs : List Ct} : Rp K G' v d → CtsOk ω K H G' H' vs cs → CtsOk ω K H G' H' (v :: vs) (.val d :: cs)
  | own {p : Addr} {u : HO} {vs : List V} {d : D} {cs : List Ct} : H p = none → G' p = none → H' p = some u → RpO K G' u d → (∀ (j : Nat) e, cs[j]? = some (.own e) → vs[j]? ≠ some (.ref p)) → CtsOk ω K H G' H' vs cs → CtsOk ω K H G' H' (.ref p :: vs) (.own d :: cs)
theorem CtsOk.length {ω : Option Addr} {K : PySem.W.Frag} {H G' H' : Hp} {vs : List V} {cs : List Ct} (h : CtsOk ω K H G' H' vs cs) : vs.length = cs.length := by
  induction h with
  | nil => rfl
  | val _ _ ih => exact congrArg (· + 1) ih
  | own _ _ _ _ _ _ ih => exact congrArg (· + 1) ih
theorem CtsOk.fresh {ω : Option Addr} {K : PySem.W.Frag} {H G' H' : Hp} {vs : List V} {cs : List Ct} (h : CtsOk ω K H G' H' vs cs) : ∀ (j : Nat) e, cs[j]? = some (.own e) → ∃ p, vs[j]? = some (.ref p) ∧ H p = none := by
  induction h with
  | nil => intro j e h; simp at h
  | val _ _ ih => intro j e h; cases j with
    | zero => simp at h
    | succ j => simpa using ih j e (by simpa using h)
  | own h1 _ _ _ _ _ ih => intro j e h; cases j with
    | zero => exact ⟨_, rfl, h1⟩
    | succ j => simpa using ih j e (by simpa using h)
/-- the heap has grown further, ahead of it -/
theorem CtsOk.later {ω : Option Addr} {K : PySem.W.Frag} {H H1 G1 G' H' : Hp} {vs : List V} {cs : List Ct} (e : Ext ω K G1 H G1 H1) (h : CtsOk ω K H1 G' H' vs cs) : CtsOk ω K H G' H' vs cs := by
  induction h with
  | nil => exact .nil
  | val r _ ih => exact .val r ih
  | own h1 h2 h3 h4 h5 _ ih =>
    refine .own ?_ h2 h3 h4 h5 ih
    rename_i p _ _ _ _ _
    cases q : H p with
    | none => rfl
    | some u =>
      by_cases hω : some p = ω
      · obtain ⟨_, _, _, _, h, _⟩ := e.dr p hω.symm
        rw [h1] at h; cases h
      · have := e.hh p u hω q; rw [h1] at this; cases this
def setAll : L2.St → List Nat → List V → L2.St
  | σ, i :: is, v :: vs => setAll (σ.set i (some v)) is vs
  | σ, _, _ => σ
def setAllE : En → List Nat → List Ct → En
  | Γ, i :: is, c :: cs => setAllE (Γ.set i (some c)) is cs
  | Γ, _, _ => Γ
theorem EnvOk.puts {ω : Option Addr} {K : PySem.W.Frag} {G0 H0 H G' H' : Hp} {vs : List V} {cs : List Ct} (h : CtsOk ω K H G' H' vs cs) : ∀ {Γ : En} {σ : L2.St} (is : List Nat), EnvOk ω K G0 H0 Γ σ G' H' → (∀ p, H p = none → some p ≠ ω ∧ H0 p = none) → is.length = vs.length →
    (∀ (j : Nat) d v, Γ[j]? = some (some (.own d)) → σ[j]? = some (some v) → ∀ (k : Nat) e, cs[k]? = some (.own e) → vs[k]? ≠ some v) → EnvOk ω K G0 H0 (setAllE Γ is cs) (setAll σ is vs) G' H' := by
  induction h with
  | nil => intro Γ σ is E _ hl _; cases is <;> exact E
  | val r t ih =>
    intro Γ σ is E hf hl hd
    cases is with
    | nil => simp at hl
    | cons i is =>
      refine ih is (E.putV r) hf (by simpa using hl) fun j d w h1 h2 k e h3 => ?_
      rcases getElem?_set_some h1 with ⟨rfl, z, _⟩ | ⟨ne, h1⟩
      · cases z
      · rw [List.getElem?_set_ne (Ne.symm ne)] at h2
        have := hd j d w h1 h2 (k + 1) e (by simpa using h3)
        simpa using this
  | own h1 h2 h3 h4 h5 t ih =>
    intro Γ σ is E hf hl hd
    cases is with
    | nil => simp at hl
    | cons i is =>
      obtain ⟨f1, f2⟩ := hf _ h1
      refine ih is (E.put (c := .own _) ⟨_, _, rfl, f1, h3, h2, f2, h4⟩ fun d _ j e ne hΓ hs => ?_) hf (by simpa using hl) fun j d w g1 g2 k e g3 => ?_
      · exact hd j e _ hΓ hs 0 _ rfl rfl
      · rcases getElem?_set_some g1 with ⟨rfl, z, hi⟩ | ⟨ne, g1⟩
        · rw [List.getElem?_set_self (by rw [E.ln]; exact hi)] at g2
          cases g2
          exact h5 k e g3
        · rw [List.getElem?_set_ne (Ne.symm ne)] at g2
          have := hd j d w g1 g2 (k + 1) e (by simpa using g3)
          simpa using this
theorem EnvOk.putsN {ω : Option Addr} {K : PySem.W.Frag} {G0 H0 G H G' H' : Hp} {Γ : En} {σ : L2.St} {vs : List V} {cs : List Ct} (E : EnvOk ω K G0 H0 Γ σ G H) (e : Ext ω K G H G' H') (h : CtsOk ω K H G' H' vs cs) (is : List Nat) (hl : is.length = vs.length) : EnvOk ω K G0 H0 (setAllE Γ is cs) (setAll σ is vs) G' H' :=
  EnvOk.puts h is (E.step e) (fun p hp => E.fresh0 hp) hl fun j d v h1 h2 k e' h3 h4 => by
    obtain ⟨p, g1, g2⟩ := h.fresh k e' h3
    rw [g1] at h4
    obtain ⟨w, hw, o, u', rfl, _, ho, _⟩ := E.sl j _ h1
    rw [h2] at hw
    cases hw
    cases h4
    rw [g2] at ho; cases ho
theorem CtsOk.lay {ω : Option Addr} {K : PySem.W.Frag} {H G' H' : Hp} {vs : List V} {cs : List Ct} {p : Addr} {o : HO} (h : CtsOk ω K H G' H' vs cs) (np : H' p = none) : CtsOk ω K H G' (upd H' p o) vs cs := by
  induction h with
  | nil => exact .nil
  | val r _ ih => exact .val r ih
  | own h1 h2 h3 h4 h5 _ ih => exact .own h1 h2 (by rw [upd_ne (ne_of_none h3 np)]; exact h3) h4 h5 ih
def WX (S : Sg) (Γ : En) (es : List Expr) (m : M (List Ct)) : Prop := ∀ (ω : Option Addr) (G0 H0 : Hp) (σ : L2.St) (G H : Hp) (P : List Ct → Prop) (Q : List V → Hp → Prop), EnvOk ω S.K G0 H0 Γ σ G H → m P →
  (∀ cs vs G' H', P cs → Ext ω S.K G H G' H' → CtsOk ω S.K H G' H' vs cs → cs.length = es.length → Q vs H') → RA S es σ H Q
def ctB : Bool → D → Ct
  | true, d => .own d
  | false, d => .val d
/-- an expression whose value is a datum (false), or something new of one's own (true) -/
def WL (S : Sg) (Γ : En) : Bool → Expr → M D → Prop
  | true, e, m => WF S Γ e m
  | false, e, m => WE S Γ e m
/-- names at their slots -/
inductive TgsAt (S : Sg) : List Expr → List Nat → Prop
  | nil : TgsAt S [] []
  | cons {x : Str} {p : Pos} {i : Nat} {es : List Expr} {is : List Nat} : SetAt S i x → TgsAt S es is → TgsAt S (.Name x p :: es) (i :: is)
def env0 (sc : Scope) : Env := { scope := sc, locals := 0, globals := 0, cells := [] }
theorem swapped_congr {env env' : Env} (ts : List Expr) (v : Expr) (h : env.scope = env'.scope) : swappedStores ts v env = swappedStores ts v env' := by
  unfold swappedStores Env.kindOf Env.blockKind
  rw [h]
section
variable {S : Sg} {Γ Γ' : En} {e a b c e1 e2 e3 : Expr} {m ma mb mc md me : M D} {pos pos' : Pos} {es : List Expr} {rest : List Stmt} {ρ : Type} {ι : ρ → Out}
theorem wx_nil : WX S Γ [] (M.pure []) := fun ω G0 H0 σ G H P Q E hm q => ⟨_, fun X hX => pa_nil, q [] [] G H hm E.self .nil rfl⟩
theorem CtsOk.ext {ω : Option Addr} {K : PySem.W.Frag} {H G' H' G2 H2 : Hp} {vs : List V} {cs : List Ct} (h : CtsOk ω K H G' H' vs cs) (e : Ext ω K G' H' G2 H2) (hω : ∀ p, H p = none → some p ≠ ω) : CtsOk ω K H G2 H2 vs cs := by
  induction h with
  | nil => exact .nil
  | val r _ ih => exact .val (r.ext e) ih
  | own h1 h2 h3 h4 h5 _ ih => exact .own h1 (e.fr _ _ h3 h2) (e.hh _ _ (hω _ h1) h3) (h4.le (e.gg)) h5 ih
theorem wx_cons {o : Bool} {ms : M (List Ct)} (ha : WL S Γ o a ma) (hs : WX S Γ es ms) (he : ∀ env, starEach (a :: es) env = (false, eval a env) :: starEach es env := by intro _; rfl) :
    WX S Γ (a :: es) (ma.bind fun x => ms.bind fun xs => M.pure (ctB o x :: xs)) := by
  intro ω G0 H0 σ G H P Q E hm q
  refine ⟨_, fun X hX => pa_cons (RE.pe hX a) (RA.pa hX es) (he _), ?_⟩
  cases o with
  | false =>
    refine ha ω G0 H0 σ G H _ _ E hm fun x v G1 H1 hx e1 r1 => ?_
    refine hs ω G0 H0 σ G1 H1 _ _ (E.step e1) hx fun xs vs G2 H2 hy e2 r2 l2 => ?_
    refine q (.val x :: xs) (v :: vs) G2 H2 hy (e1.trans e2) (.val (r1.ext e2) (r2.later (G1 := G1) ⟨Same.refl _, e1.hh, e1.le, fun _ _ _ h => h, e1.dr⟩)) (congrArg (· + 1) l2)
  | true =>
    refine ha ω G0 H0 σ G H _ _ E hm fun x p u G1 H1 hx e1 g1 g2 g3 r1 => ?_
    refine hs ω G0 H0 σ G1 H1 _ _ (E.step e1) hx fun xs vs G2 H2 hy e2 r2 l2 => ?_
    have hω := (E.fresh0 g1).1
    refine q (.own x :: xs) (.ref p :: vs) G2 H2 hy (e1.trans e2) (.own g1 (e2.fr _ _ g3 g2) (e2.hh _ _ hω g3) (r1.le (e2.gg)) (fun j e h1 h2 => ?_) (r2.later (G1 := G1) ⟨Same.refl _, e1.hh, e1.le, fun _ _ _ h => h, e1.dr⟩)) (congrArg (· + 1) l2)
    obtain ⟨p', k1, k2⟩ := r2.fresh j e h1
    rw [h2] at k1
    cases k1
    rw [g3] at k2; cases k2
def RGs (S : Sg) (es : List Expr) : TGs := fun vs σ H Q => ∃ t, (∀ X, S.Of X → PGs X es t) ∧ t vs σ H Q
theorem RGs.pgs {X : Cx} (hX : S.Of X) (es : List Expr) : PGs X es (RGs S es) := ⟨fun pins s σ H vs us Q I r ⟨t, h, q⟩ => (h X hX).run pins s σ H vs us Q I r q⟩
theorem tgs_ok {es : List Expr} {is : List Nat} (h : TgsAt S es is) : ∀ (vs : List V) (σ : L2.St) (H : Hp) (Q : L2.St → Hp → Prop), vs.length = es.length → Q (setAll σ is vs) H → RGs S es vs σ H Q := by
  induction h with
  | nil => intro vs σ H Q hl q; cases vs with
    | nil => exact ⟨_, fun X hX => pgs_nil, rfl, q⟩
    | cons _ _ => simp at hl
  | cons hx t ih =>
    intro vs σ H Q hl q
    cases vs with
    | nil => simp at hl
    | cons v vs =>
      exact ⟨_, fun X hX => pgs_cons (pg_name (by rw [hX.N]; exact hX.nd) (by rw [hX.N]; exact hx.n) (by rw [hX.sc]; exact hx.l) (hx.fx hX)) (RGs.pgs hX _) (by rfl), v, vs, rfl, ih vs _ H Q (by simpa using hl) q⟩
theorem TgsAt.length {es : List Expr} {is : List Nat} (h : TgsAt S es is) : is.length = es.length := by
  induction h with
  | nil => rfl
  | cons _ _ ih => exact congrArg (· + 1) ih
/-- a, b, .. = x, y, .. through a tuple -/
theorem w_parN {ts : List Expr} {is : List Nat} {ms : M (List Ct)} {k : List Ct → M ρ} {kt k2 : Nat} {pt pt2 : Pos} (ht : TgsAt S ts is) (hs : WX S Γ es ms) (hl : ts.length = es.length) (hl2 : es.length ≤ 1000)
    (hw : swappedStores [.Tuple ts kt pt] (.Tuple es k2 pt2) (env0 S.sc) = pure none) (hk : ∀ cs, W S (setAllE Γ is cs) rest (k cs) ι)
    (hn : ∀ env, (assignEach ts env).length = ts.length := by intro _; rfl) (hst : ∀ env, (assignEach ts env).findIdx? (·.1) = none := by intro _; rfl) :
    W S Γ (.Assign [.Tuple ts kt pt] (.Tuple es k2 pt2) pos :: rest) (ms.bind k) ι := by
  intro ω G0 H0 σ G H P Dn E hm q
  refine rs_cons (t := tAsg (tTup (RA S es)) (gTup S.K ts.length (RGs S ts))) (fun X hX => by
    have h := ps_asg (X := X) (pos := pos) (pe_tup (x1 := k2) (pos := pt2) (RA.pa hX es)) (pg_tup (X := X) (k := kt) (pos := pt) hX.calm (RGs.pgs hX ts) (hn _) (hst _)) rfl (by rw [swapped_congr _ _ (show X.env.scope = (env0 S.sc).scope from hX.sc)]; exact hw)
    rw [hX.K] at h; exact h) ?_
  refine hs ω G0 H0 σ G H _ _ E hm fun cs vs G1 H1 hx e1 r1 l1 => ?_
  have lv := r1.length
  refine ⟨by rw [lv, l1]; exact Nat.le_of_lt (small1000 hl2), fun p np => ⟨p, vs, rfl, .inl (.inl upd_same), by omega, ?_⟩⟩
  refine tgs_ok ht vs σ _ _ (by omega) ?_
  have hp : H p = none := by
    cases q : H p with
    | none => rfl
    | some u =>
      by_cases hω : some p = ω
      · obtain ⟨_, _, _, _, h, _⟩ := e1.dr p hω.symm
        rw [np] at h; cases h
      · have := e1.hh p u hω q; rw [np] at this; cases this
  refine hk cs ω G0 H0 _ G1 _ P Dn (E.putsN (e1.trans (e1.self.lay (o := .tup vs) np)) (r1.lay np) is (by rw [ht.length]; omega)) hx q
/-- a, b = x, y: plain locals, swapped on the stack -/
theorem w_sw2 {i j : Nat} {x y : Str} {ms : M (List Ct)} {k : List Ct → M ρ} {px py pt pt2 : Pos} {kt k2 : Nat} (hx : SetAt S i x) (hy : SetAt S j y) (hij : i ≠ j) (lx : S.sc.names.lookup x = some .local) (ly : S.sc.names.lookup y = some .local) (hs : WX S Γ [a, b] ms)
    (hw : swappedStores [.Tuple [.Name x px, .Name y py] kt pt] (.Tuple [a, b] k2 pt2) (env0 S.sc) = pure (some [x, y])) (hk : ∀ cs, W S (setAllE Γ [i, j] cs) rest (k cs) ι) :
    W S Γ (.Assign [.Tuple [.Name x px, .Name y py] kt pt] (.Tuple [a, b] k2 pt2) pos :: rest) (ms.bind k) ι := by
  intro ω G0 H0 σ G H P Dn E hm q
  refine rs_cons (fun X hX => ps_par (i := i) (j := j) hX.calm (by rw [hX.N]; exact hX.nd) (by rw [hX.N]; exact hx.n) (by rw [hX.N]; exact hy.n) hij (by rw [hX.sc]; exact lx) (by rw [hX.sc]; exact ly) (RA.pa hX [a, b]) (by rw [swapped_congr _ _ (show X.env.scope = (env0 S.sc).scope from hX.sc)]; exact hw)) ?_
  refine hs ω G0 H0 σ G H _ _ E hm fun cs vs G1 H1 hx' e1 r1 l1 => ?_
  have lv := r1.length
  match vs, lv.trans l1 with
  | [v, w], _ =>
    refine ⟨v, w, rfl, ?_⟩
    exact hk cs ω G0 H0 _ G1 H1 P Dn (E.putsN e1 r1 [i, j] rfl) hx' q
theorem w_sw3 {i j l : Nat} {x y z : Str} {ms : M (List Ct)} {k : List Ct → M ρ} {px py pz pt pt2 : Pos} {kt k2 : Nat} (hx : SetAt S i x) (hy : SetAt S j y) (hz : SetAt S l z) (hij : i ≠ j) (hil : i ≠ l) (hjl : j ≠ l) (lx : S.sc.names.lookup x = some .local) (ly : S.sc.names.lookup y = some .local) (lz : S.sc.names.lookup z = some .local) (hs : WX S Γ [a, b, c] ms)
    (hw : swappedStores [.Tuple [.Name x px, .Name y py, .Name z pz] kt pt] (.Tuple [a, b, c] k2 pt2) (env0 S.sc) = pure (some [x, y, z])) (hk : ∀ cs, W S (setAllE Γ [i, j, l] cs) rest (k cs) ι) :
    W S Γ (.Assign [.Tuple [.Name x px, .Name y py, .Name z pz] kt pt] (.Tuple [a, b, c] k2 pt2) pos :: rest) (ms.bind k) ι := by
  intro ω G0 H0 σ G H P Dn E hm q
  refine rs_cons (fun X hX => ps_par3 (i := i) (j := j) (l := l) hX.calm (by rw [hX.N]; exact hX.nd) (by rw [hX.N]; exact hx.n) (by rw [hX.N]; exact hy.n) (by rw [hX.N]; exact hz.n) hij hil hjl (by rw [hX.sc]; exact lx) (by rw [hX.sc]; exact ly) (by rw [hX.sc]; exact lz) (RA.pa hX [a, b, c]) (by rw [swapped_congr _ _ (show X.env.scope = (env0 S.sc).scope from hX.sc)]; exact hw)) ?_
  refine hs ω G0 H0 σ G H _ _ E hm fun cs vs G1 H1 hx' e1 r1 l1 => ?_
  have lv := r1.length
  match vs, lv.trans l1 with
  | [v, w, u], _ =>
    refine ⟨v, w, u, rfl, ?_⟩
    exact hk cs ω G0 H0 _ G1 H1 P Dn (E.putsN e1 r1 [i, j, l] rfl) hx' q

/-! the same, told datum by datum -/
def Ct.dat : Ct → D
  | .val d => d
  | .own d => d
  | .drw => .none
  | .scr _ => .none
theorem dat_ctB (o : Bool) (x : D) : (ctB o x).dat = x := by cases o <;> rfl
def k2D (oa ob : Bool) (k : D → D → M ρ) : List Ct → M ρ
  | [c1, c2] => M.need (c1 = ctB oa c1.dat ∧ c2 = ctB ob c2.dat) (k c1.dat c2.dat)
  | _ => M.fail
def k3D (oa ob oc : Bool) (k : D → D → D → M ρ) : List Ct → M ρ
  | [c1, c2, c3] => M.need (c1 = ctB oa c1.dat ∧ c2 = ctB ob c2.dat ∧ c3 = ctB oc c3.dat) (k c1.dat c2.dat c3.dat)
  | _ => M.fail
def k4D (oa ob oc od : Bool) (k : D → D → D → D → M ρ) : List Ct → M ρ
  | [c1, c2, c3, c4] => M.need (c1 = ctB oa c1.dat ∧ c2 = ctB ob c2.dat ∧ c3 = ctB oc c3.dat ∧ c4 = ctB od c4.dat) (k c1.dat c2.dat c3.dat c4.dat)
  | _ => M.fail
def k5D (oa ob oc od oe : Bool) (k : D → D → D → D → D → M ρ) : List Ct → M ρ
  | [c1, c2, c3, c4, c5] => M.need (c1 = ctB oa c1.dat ∧ c2 = ctB ob c2.dat ∧ c3 = ctB oc c3.dat ∧ c4 = ctB od c4.dat ∧ c5 = ctB oe c5.dat) (k c1.dat c2.dat c3.dat c4.dat c5.dat)
  | _ => M.fail
theorem k2D_eq {oa ob : Bool} {k : D → D → M ρ} (x y : D) : k2D oa ob k [ctB oa x, ctB ob y] = k x y := by
  funext P; simp [k2D, M.need, dat_ctB]
theorem k3D_eq {oa ob oc : Bool} {k : D → D → D → M ρ} (x y z : D) : k3D oa ob oc k [ctB oa x, ctB ob y, ctB oc z] = k x y z := by
  funext P; simp [k3D, M.need, dat_ctB]
theorem k4D_eq {oa ob oc od : Bool} {k : D → D → D → D → M ρ} (x y z u : D) : k4D oa ob oc od k [ctB oa x, ctB ob y, ctB oc z, ctB od u] = k x y z u := by
  funext P; simp [k4D, M.need, dat_ctB]
theorem k5D_eq {oa ob oc od oe : Bool} {k : D → D → D → D → D → M ρ} (x y z u v : D) : k5D oa ob oc od oe k [ctB oa x, ctB ob y, ctB oc z, ctB od u, ctB oe v] = k x y z u v := by
  funext P; simp [k5D, M.need, dat_ctB]
theorem w_need {c : Prop} {sts : List Stmt} {m : M ρ} (h : c → W S Γ sts m ι) : W S Γ sts (M.need c m) ι := fun ω G0 H0 σ G H P Dn E hm q => h hm.1 ω G0 H0 σ G H P Dn E hm.2 q
theorem w_fail {sts : List Stmt} : W S Γ sts M.fail ι := fun ω G0 H0 σ G H P Dn E hm q => hm.elim
theorem k2D_w {oa ob : Bool} {k : D → D → M ρ} {is : List Nat} (hk : ∀ x y, W S (setAllE Γ is [ctB oa x, ctB ob y]) rest (k x y) ι) (cs : List Ct) : W S (setAllE Γ is cs) rest (k2D oa ob k cs) ι := by
  match cs with
  | [c1, c2] =>
    refine w_need fun h => ?_
    have := hk c1.dat c2.dat
    rw [← h.1, ← h.2] at this
    exact this
  | [] => exact w_fail
  | [_] => exact w_fail
  | _ :: _ :: _ :: _ => exact w_fail
theorem k3D_w {oa ob oc : Bool} {k : D → D → D → M ρ} {is : List Nat} (hk : ∀ x y z, W S (setAllE Γ is [ctB oa x, ctB ob y, ctB oc z]) rest (k x y z) ι) (cs : List Ct) : W S (setAllE Γ is cs) rest (k3D oa ob oc k cs) ι := by
  match cs with
  | [c1, c2, c3] =>
    refine w_need fun h => ?_
    have := hk c1.dat c2.dat c3.dat
    rw [← h.1, ← h.2.1, ← h.2.2] at this
    exact this
  | [] => exact w_fail
  | [_] => exact w_fail
  | [_, _] => exact w_fail
  | _ :: _ :: _ :: _ :: _ => exact w_fail
theorem k4D_w {oa ob oc od : Bool} {k : D → D → D → D → M ρ} {is : List Nat} (hk : ∀ x y z u, W S (setAllE Γ is [ctB oa x, ctB ob y, ctB oc z, ctB od u]) rest (k x y z u) ι) (cs : List Ct) : W S (setAllE Γ is cs) rest (k4D oa ob oc od k cs) ι := by
  match cs with
  | [c1, c2, c3, c4] =>
    refine w_need fun h => ?_
    have := hk c1.dat c2.dat c3.dat c4.dat
    rw [← h.1, ← h.2.1, ← h.2.2.1, ← h.2.2.2] at this
    exact this
  | [] => exact w_fail
  | [_] => exact w_fail
  | [_, _] => exact w_fail
  | [_, _, _] => exact w_fail
  | _ :: _ :: _ :: _ :: _ :: _ => exact w_fail
theorem k5D_w {oa ob oc od oe : Bool} {k : D → D → D → D → D → M ρ} {is : List Nat} (hk : ∀ x y z u v, W S (setAllE Γ is [ctB oa x, ctB ob y, ctB oc z, ctB od u, ctB oe v]) rest (k x y z u v) ι) (cs : List Ct) : W S (setAllE Γ is cs) rest (k5D oa ob oc od oe k cs) ι := by
  match cs with
  | [c1, c2, c3, c4, c5] =>
    refine w_need fun h => ?_
    have := hk c1.dat c2.dat c3.dat c4.dat c5.dat
    rw [← h.1, ← h.2.1, ← h.2.2.1, ← h.2.2.2.1, ← h.2.2.2.2] at this
    exact this
  | [] => exact w_fail
  | [_] => exact w_fail
  | [_, _] => exact w_fail
  | [_, _, _] => exact w_fail
  | [_, _, _, _] => exact w_fail
  | _ :: _ :: _ :: _ :: _ :: _ :: _ => exact w_fail
/-- the same block by an equal mirror -/
theorem w_eq {sts : List Stmt} {m m' : M ρ} (e : m' = m) (h : W S Γ sts m ι) : W S Γ sts m' ι := by rw [e]; exact h
variable {ts : List Expr} {is : List Nat} {kt kk : Nat} {pt pt2 px py pz : Pos} {oa ob oc od oe : Bool} {a1 a2 a3 a4 a5 : Expr} {m1 m2 m3 m4 m5 : M D}
theorem w_par2 {k : D → D → M ρ} (ht : TgsAt S ts is) (h1 : WL S Γ oa a1 m1) (h2 : WL S Γ ob a2 m2) (hl : ts.length = 2) (hw : swappedStores [.Tuple ts kt pt] (.Tuple [a1, a2] kk pt2) (env0 S.sc) = pure none)
    (hk : ∀ x y, W S (setAllE Γ is [ctB oa x, ctB ob y]) rest (k x y) ι)
    (e1 : ∀ env, starEach [a1, a2] env = (false, eval a1 env) :: starEach [a2] env := by intro _; rfl) (e2 : ∀ env, starEach [a2] env = (false, eval a2 env) :: starEach [] env := by intro _; rfl)
    (hn : ∀ env, (assignEach ts env).length = ts.length := by intro _; rfl) (hst : ∀ env, (assignEach ts env).findIdx? (·.1) = none := by intro _; rfl) :
    W S Γ (.Assign [.Tuple ts kt pt] (.Tuple [a1, a2] kk pt2) pos :: rest) (m1.bind fun x => m2.bind fun y => k x y) ι := by
  refine w_eq ?_ (w_parN ht (wx_cons h1 (wx_cons h2 wx_nil e2) e1) hl (by show 2 ≤ 1000; decide) hw (k2D_w hk) hn hst)
  simp only [← k2D_eq (oa := oa) (ob := ob) (k := k)]
  rfl
theorem w_par3 {k : D → D → D → M ρ} (ht : TgsAt S ts is) (h1 : WL S Γ oa a1 m1) (h2 : WL S Γ ob a2 m2) (h3 : WL S Γ oc a3 m3) (hl : ts.length = 3) (hw : swappedStores [.Tuple ts kt pt] (.Tuple [a1, a2, a3] kk pt2) (env0 S.sc) = pure none)
    (hk : ∀ x y z, W S (setAllE Γ is [ctB oa x, ctB ob y, ctB oc z]) rest (k x y z) ι)
    (e1 : ∀ env, starEach [a1, a2, a3] env = (false, eval a1 env) :: starEach [a2, a3] env := by intro _; rfl) (e2 : ∀ env, starEach [a2, a3] env = (false, eval a2 env) :: starEach [a3] env := by intro _; rfl) (e3 : ∀ env, starEach [a3] env = (false, eval a3 env) :: starEach [] env := by intro _; rfl)
    (hn : ∀ env, (assignEach ts env).length = ts.length := by intro _; rfl) (hst : ∀ env, (assignEach ts env).findIdx? (·.1) = none := by intro _; rfl) :
    W S Γ (.Assign [.Tuple ts kt pt] (.Tuple [a1, a2, a3] kk pt2) pos :: rest) (m1.bind fun x => m2.bind fun y => m3.bind fun z => k x y z) ι := by
  refine w_eq ?_ (w_parN ht (wx_cons h1 (wx_cons h2 (wx_cons h3 wx_nil e3) e2) e1) hl (by show 3 ≤ 1000; decide) hw (k3D_w hk) hn hst)
  simp only [← k3D_eq (oa := oa) (ob := ob) (oc := oc) (k := k)]
  rfl
theorem w_par4 {k : D → D → D → D → M ρ} (ht : TgsAt S ts is) (h1 : WL S Γ oa a1 m1) (h2 : WL S Γ ob a2 m2) (h3 : WL S Γ oc a3 m3) (h4 : WL S Γ od a4 m4) (hl : ts.length = 4) (hw : swappedStores [.Tuple ts kt pt] (.Tuple [a1, a2, a3, a4] kk pt2) (env0 S.sc) = pure none)
    (hk : ∀ x y z u, W S (setAllE Γ is [ctB oa x, ctB ob y, ctB oc z, ctB od u]) rest (k x y z u) ι)
    (e1 : ∀ env, starEach [a1, a2, a3, a4] env = (false, eval a1 env) :: starEach [a2, a3, a4] env := by intro _; rfl) (e2 : ∀ env, starEach [a2, a3, a4] env = (false, eval a2 env) :: starEach [a3, a4] env := by intro _; rfl) (e3 : ∀ env, starEach [a3, a4] env = (false, eval a3 env) :: starEach [a4] env := by intro _; rfl) (e4 : ∀ env, starEach [a4] env = (false, eval a4 env) :: starEach [] env := by intro _; rfl)
    (hn : ∀ env, (assignEach ts env).length = ts.length := by intro _; rfl) (hst : ∀ env, (assignEach ts env).findIdx? (·.1) = none := by intro _; rfl) :
    W S Γ (.Assign [.Tuple ts kt pt] (.Tuple [a1, a2, a3, a4] kk pt2) pos :: rest) (m1.bind fun x => m2.bind fun y => m3.bind fun z => m4.bind fun u => k x y z u) ι := by
  refine w_eq ?_ (w_parN ht (wx_cons h1 (wx_cons h2 (wx_cons h3 (wx_cons h4 wx_nil e4) e3) e2) e1) hl (by show 4 ≤ 1000; decide) hw (k4D_w hk) hn hst)
  simp only [← k4D_eq (oa := oa) (ob := ob) (oc := oc) (od := od) (k := k)]
  rfl
theorem w_par5 {k : D → D → D → D → D → M ρ} (ht : TgsAt S ts is) (h1 : WL S Γ oa a1 m1) (h2 : WL S Γ ob a2 m2) (h3 : WL S Γ oc a3 m3) (h4 : WL S Γ od a4 m4) (h5 : WL S Γ oe a5 m5) (hl : ts.length = 5) (hw : swappedStores [.Tuple ts kt pt] (.Tuple [a1, a2, a3, a4, a5] kk pt2) (env0 S.sc) = pure none)
    (hk : ∀ x y z u v, W S (setAllE Γ is [ctB oa x, ctB ob y, ctB oc z, ctB od u, ctB oe v]) rest (k x y z u v) ι)
    (e1 : ∀ env, starEach [a1, a2, a3, a4, a5] env = (false, eval a1 env) :: starEach [a2, a3, a4, a5] env := by intro _; rfl) (e2 : ∀ env, starEach [a2, a3, a4, a5] env = (false, eval a2 env) :: starEach [a3, a4, a5] env := by intro _; rfl) (e3 : ∀ env, starEach [a3, a4, a5] env = (false, eval a3 env) :: starEach [a4, a5] env := by intro _; rfl) (e4 : ∀ env, starEach [a4, a5] env = (false, eval a4 env) :: starEach [a5] env := by intro _; rfl) (e5 : ∀ env, starEach [a5] env = (false, eval a5 env) :: starEach [] env := by intro _; rfl)
    (hn : ∀ env, (assignEach ts env).length = ts.length := by intro _; rfl) (hst : ∀ env, (assignEach ts env).findIdx? (·.1) = none := by intro _; rfl) :
    W S Γ (.Assign [.Tuple ts kt pt] (.Tuple [a1, a2, a3, a4, a5] kk pt2) pos :: rest) (m1.bind fun x => m2.bind fun y => m3.bind fun z => m4.bind fun u => m5.bind fun v => k x y z u v) ι := by
  refine w_eq ?_ (w_parN ht (wx_cons h1 (wx_cons h2 (wx_cons h3 (wx_cons h4 (wx_cons h5 wx_nil e5) e4) e3) e2) e1) hl (by show 5 ≤ 1000; decide) hw (k5D_w hk) hn hst)
  simp only [← k5D_eq (oa := oa) (ob := ob) (oc := oc) (od := od) (oe := oe) (k := k)]
  rfl
theorem w_swp2 {i j : Nat} {x y : Str} {k : D → D → M ρ} (hx : SetAt S i x) (hy : SetAt S j y) (hij : i ≠ j) (lx : S.sc.names.lookup x = some .local) (ly : S.sc.names.lookup y = some .local) (h1 : WL S Γ oa a1 m1) (h2 : WL S Γ ob a2 m2)
    (hw : swappedStores [.Tuple [.Name x px, .Name y py] kt pt] (.Tuple [a1, a2] kk pt2) (env0 S.sc) = pure (some [x, y])) (hk : ∀ x y, W S (setAllE Γ [i, j] [ctB oa x, ctB ob y]) rest (k x y) ι)
    (e1 : ∀ env, starEach [a1, a2] env = (false, eval a1 env) :: starEach [a2] env := by intro _; rfl) (e2 : ∀ env, starEach [a2] env = (false, eval a2 env) :: starEach [] env := by intro _; rfl) :
    W S Γ (.Assign [.Tuple [.Name x px, .Name y py] kt pt] (.Tuple [a1, a2] kk pt2) pos :: rest) (m1.bind fun x => m2.bind fun y => k x y) ι := by
  refine w_eq ?_ (w_sw2 hx hy hij lx ly (wx_cons h1 (wx_cons h2 wx_nil e2) e1) hw (k2D_w hk))
  simp only [← k2D_eq (oa := oa) (ob := ob) (k := k)]
  rfl
theorem w_swp3 {i j l : Nat} {x y z : Str} {k : D → D → D → M ρ} (hx : SetAt S i x) (hy : SetAt S j y) (hz : SetAt S l z) (hij : i ≠ j) (hil : i ≠ l) (hjl : j ≠ l) (lx : S.sc.names.lookup x = some .local) (ly : S.sc.names.lookup y = some .local) (lz : S.sc.names.lookup z = some .local) (h1 : WL S Γ oa a1 m1) (h2 : WL S Γ ob a2 m2) (h3 : WL S Γ oc a3 m3)
    (hw : swappedStores [.Tuple [.Name x px, .Name y py, .Name z pz] kt pt] (.Tuple [a1, a2, a3] kk pt2) (env0 S.sc) = pure (some [x, y, z])) (hk : ∀ x y z, W S (setAllE Γ [i, j, l] [ctB oa x, ctB ob y, ctB oc z]) rest (k x y z) ι)
    (e1 : ∀ env, starEach [a1, a2, a3] env = (false, eval a1 env) :: starEach [a2, a3] env := by intro _; rfl) (e2 : ∀ env, starEach [a2, a3] env = (false, eval a2 env) :: starEach [a3] env := by intro _; rfl) (e3 : ∀ env, starEach [a3] env = (false, eval a3 env) :: starEach [] env := by intro _; rfl) :
    W S Γ (.Assign [.Tuple [.Name x px, .Name y py, .Name z pz] kt pt] (.Tuple [a1, a2, a3] kk pt2) pos :: rest) (m1.bind fun x => m2.bind fun y => m3.bind fun z => k x y z) ι := by
  refine w_eq ?_ (w_sw3 hx hy hz hij hil hjl lx ly lz (wx_cons h1 (wx_cons h2 (wx_cons h3 wx_nil e3) e2) e1) hw (k3D_w hk))
  simp only [← k3D_eq (oa := oa) (ob := ob) (oc := oc) (k := k)]
  rfl
/-- a, b = e: e a tuple -/
theorem w_asg {α : Type} {tg : Expr} {dec : D → M α} {g : α → En → En} {us : List Nat} {k : α → M ρ} (he : WE S Γ e me) (hg : WG S tg dec g us) (hk : ∀ a, W S (g a Γ) rest (k a) ι)
    (hs : ∀ env, swapsWithSole [tg] e pos.line env = pure false := by intro _; rfl) (hw : ∀ env, swappedStores [tg] e env = pure none := by intro _; rfl)
    (h1 : ∀ env, (assignEach [tg] env).map (·.2) = [assign tg env] := by intro _; rfl) : W S Γ (.Assign [tg] e pos :: rest) (me.bind fun d => (dec d).bind fun a => k a) ι := by
  intro ω G0 H0 σ G H P Dn E hm q
  refine rs_cons (fun X hX => ps_asg (RE.pe hX e) (RG.pg hX tg) (hs _) (hw _) (h1 _)) ?_
  refine he ω G0 H0 σ G H _ _ E hm fun d v G1 H1 hP e1 r1 => ?_
  exact hg ω G0 H0 Γ σ G1 H1 v d _ _ (E.step e1) r1 hP fun a σ' ha E' _ => hk a ω G0 H0 σ' G1 H1 P Dn E' ha q
end
end Wp
namespace Wp
open PySem PySem.Spec PyProof.Rows L2

section
variable {S : Sg} {Γ Γ' : En} {e a b c e1 e2 e3 : Expr} {m ma mb mc md me : M D} {pos pos' apos cpos npos : Pos} {es : List Expr} {rest : List Stmt} {ρ : Type} {ι : ρ → Out}
/-! ### x op= e -/
def IpOk (S : Sg) (op : Operator) (f : D → D → M D) : Prop := OpOk S (inplaceOp op) f
def iaddD : D → D → M D
  | .int i, .int j => M.pure (.int (i + j))
  | .str x, .str y => M.need (x.length + y.length ≤ 16777216) (M.pure (.str (x ++ y)))
  | _, _ => M.fail
theorem iadd_ok : IpOk S .Add iaddD := by
  intro ω G H x y v u P Q e rx ry hf q
  cases x with
  | int i => cases y with
    | int j => cases rx.int; cases ry.int; exact ⟨_, fun X hX => iop_add, i, j, rfl, rfl, q _ _ _ _ hf e (.int _)⟩
    | _ => exact hf.elim
  | str i => cases y with
    | str j => cases rx.str; cases ry.str; exact ⟨_, fun X hX => iop_add_str, i, j, rfl, rfl, line_le hf.1, q _ _ _ _ hf.2 e (.str _)⟩
    | _ => exact hf.elim
  | _ => exact hf.elim
theorem isub_ok : IpOk S .Sub subD := by
  intro ω G H x y v u P Q e rx ry hf q
  cases x with
  | int i => cases y with
    | int j => cases rx.int; cases ry.int; exact ⟨_, fun X hX => iop_sub, i, j, rfl, rfl, q _ _ _ _ hf e (.int _)⟩
    | _ => exact hf.elim
  | _ => exact hf.elim
theorem w_aug {i : Nat} {x : Str} {op : Operator} {f : D → D → M D} {d : D} {k : D → M ρ} (hx : SetAt S i x) (hi : Γ[i]? = some (some (.val d))) (ho : IpOk S op f) (he : WE S Γ e me) (hk : ∀ z, W S (Γ.set i (some (.val z))) rest (k z) ι) :
    W S Γ (.AugAssign (.Name x pos') op e pos :: rest) (me.bind fun y => (f d y).bind k) ι := by
  intro ω G0 H0 σ G H P Dn E hm q
  refine rs_cons (fun X hX => ps_aug (i := i) (ti := ROp S (inplaceOp op)) (by rw [hX.N]; exact hX.nd) (by rw [hX.N]; exact hx.n) (by rw [hX.sc]; exact hx.l) (RE.pe hX e) (fun pins s σ H x y v u Q I r1 r2 h => ROp.op hX _ pins s σ H x y v u Q I r1 r2 h) (hx.fx hX)) ?_
  obtain ⟨v, h1, h2⟩ := E.sl i _ hi
  refine ⟨v, h1, he ω G0 H0 σ G H _ _ E hm fun y u G1 H1 hP e1 r1 => ?_⟩
  refine ho ω G1 H1 d y v u _ _ e1.self (.inl (Rp.ext h2 e1)) (.inl r1) hP fun z w G2 H2 hz e2 r2 => ?_
  exact hk z ω G0 H0 _ G2 H2 P Dn ((E.step (e1.trans e2)).putV r2) hz q

/-! ### what changes one's own -/
def appD : D → D → M D
  | .list ds, y => M.need (ds.length < 16777216) (M.pure (.list (ds ++ [y])))
  | _, _ => M.fail
def isL : D → Bool
  | .list _ => true
  | _ => false
def isDi : D → Bool
  | .dict _ => true
  | _ => false
theorem own_list {ω : Option Addr} {K : PySem.W.Frag} {G0 H0 G H : Hp} {σ : L2.St} {i : Nat} {d : D} (E : EnvOk ω K G0 H0 Γ σ G H) (hi : Γ[i]? = some (some (.own d))) (hd : isL d = true) : ∃ o xs ds, σ[i]? = some (some (.ref o)) ∧ d = .list ds ∧ H o = some (.lst xs) ∧ RpA K G xs ds ∧ ds.length ≤ sizeLine := by
  obtain ⟨v, hv, o, u, rfl, g1, g2, g3, g4, g5⟩ := E.sl i _ hi
  cases g5 with
  | lst r z => exact ⟨o, _, _, hv, rfl, g2, r, z⟩
  | _ => simp [isL] at hd
structure Meth1 (o : Expr) (nm : Str) (apos : Pos) (e : Expr) (cpos : Pos) : Prop where
  base : ∀ env, attributeBase o nm env (eval o env) = eval o env
  few : ∀ env, ((backTo cpos (starEach [e] env)).all (fun x => !x.1) && (backToKw cpos (keywordEach [] env)).all (fun x => x.1.isSome)
      && decide ([e].length + ([] : List Keyword).length + (if ([] : List Keyword).isEmpty then 0 else 1) < 30)) = true
  line : (apos.endLine == cpos.line) = true
  star : ∀ env, starEach [e] env = (false, eval e env) :: starEach [] env
  plain : ∀ env, (backTo cpos (starEach [] env)).any (·.1) = false
  trees : ∀ env, backTo cpos (starEach [e] env) = [(false, eval e env)]
theorem w_append {i : Nat} {x : Str} {d : D} {k : D → M ρ} (hx : VarAt S i x) (hi : Γ[i]? = some (some (.own d))) (he : WE S Γ e me) (hk : ∀ z, W S (Γ.set i (some (.own z))) rest (k z) ι)
    (hm1 : Meth1 (.Name x npos) "append" apos e cpos) (hs : ∀ env, swapsWith (.Call (.Attribute (.Name x npos) "append" apos) [e] [] cpos) none pos.line env = pure false := by intro _; rfl) :
    W S Γ (.Expr (.Call (.Attribute (.Name x npos) "append" apos) [e] [] cpos) pos :: rest) (M.need (isL d = true) (me.bind fun y => (appD d y).bind k)) ι := by
  intro ω G0 H0 σ G H P Dn E hm q
  obtain ⟨hd, hm⟩ := hm
  refine rs_cons (t := tDrop (tBM S.K "list" rAppend (tVar i) (tCons (RE S e) tNil))) (fun X hX => by
    have h := ps_expr (X := X) (pos := pos) (pe_bm PySem.F.plainAttrs_list PySem.F.slot_list_append PySem.F.type_list_append (mt_append) (pe_var (i := i) (pos := npos) (by rw [hX.N]; exact hx.n) (by rw [hX.sc]; exact hx.v) hx.d hx.c) (pa_cons (RE.pe hX e) pa_nil (hm1.star _)) (hm1.base _) (hm1.few _) hm1.line (hm1.star _) (hm1.plain _)) (hs _)
    rw [hX.K] at h; exact h) ?_
  obtain ⟨o, xs, ds, hv, rfl, g2, _, _⟩ := own_list E hi hd
  refine ⟨.ref o, hv, .inl ⟨rfl, _, .inl (.inl g2)⟩, ?_⟩
  refine he ω G0 H0 σ G H _ _ E hm fun y u' G1 H1 hP e1 r1 => ?_
  have E1 := E.step e1
  obtain ⟨o', xs', ds', hv', hq, g2', r, z⟩ := own_list E1 hi hd
  rw [hv] at hv'
  cases hv'
  cases hq
  obtain ⟨hl, hP⟩ := hP
  have hl' := r.length
  refine ⟨o, xs', u', rfl, rfl, g2', by rw [sizeLine_eq]; omega, ?_⟩
  exact hk _ ω G0 H0 σ G1 _ P Dn (E1.updO hi hv (.lst (r.append (.cons r1 .nil)) (by rw [sizeLine_eq]; simp; omega))) hP q
/-- x.extend(e), e a list -/
def extD : D → D → M D
  | .list ds, .list ys => M.need (ds.length + ys.length ≤ 16777216) (M.pure (.list (ds ++ ys)))
  | _, _ => M.fail
theorem mt_extendL {X : Cx} : MtM X "list.extend" (fun x vs H Q => ∃ l b xs zs, x = .ref l ∧ vs = [.ref b] ∧ H l = some (.lst xs) ∧ Rd H b (.lst zs) ∧ xs.length + zs.length ≤ sizeLine ∧ Q .non (upd H l (.lst (xs ++ zs)))) := by
  intro pins s σ H x vs v us Q I rx rv h
  obtain ⟨l, b, xs, zs, rfl, rfl, hH, hB, hz, q⟩ := h
  cases rx
  obtain ⟨u, rfl, ru⟩ := rv.one
  cases ru
  obtain ⟨z, its, n, r, hl, e⟩ := I.lstM hH
  obtain ⟨z2, its2, n2, r2, e2⟩ := rd_list I hB
  have hl2 := r2.length
  have hsz : its.toArray.size + its2.toArray.size ≤ sizeLine := by rw [List.size_toArray, List.size_toArray]; omega
  have hlong : ¬ (!its.toArray.isEmpty && Builtin.List.listTooLong (its.toArray.size + its2.toArray.size)) = true := by
    rw [notLongL hsz, Bool.and_false]
    exact Bool.false_ne_true
  refine call_meets PySem.F.slot_list_extend ⟨_, e, rfl⟩ PySem.F.entry_list_extend (PySem.F.args_list_extend_2 _ _)
    (AutoSeq1.list_extend_list_list_0 l its.toArray n b its2.toArray n2 hlong (by rw [List.size_toArray]; omega) (by omega)) ⟨e, e2, ?_⟩
  refine ⟨.non, _, I.lset (its' := its ++ its2) hH e (by simp) (r.append r2) ?_, rfl, q⟩
  rw [List.length_append]
  omega
theorem w_extend {i : Nat} {x : Str} {d : D} {k : D → M ρ} (hx : VarAt S i x) (hi : Γ[i]? = some (some (.own d))) (he : WE S Γ e me) (hk : ∀ z, W S (Γ.set i (some (.own z))) rest (k z) ι)
    (hm1 : Meth1 (.Name x npos) "extend" apos e cpos) (hs : ∀ env, swapsWith (.Call (.Attribute (.Name x npos) "extend" apos) [e] [] cpos) none pos.line env = pure false := by intro _; rfl) :
    W S Γ (.Expr (.Call (.Attribute (.Name x npos) "extend" apos) [e] [] cpos) pos :: rest) (M.need (isL d = true) (me.bind fun y => (extD d y).bind k)) ι := by
  intro ω G0 H0 σ G H P Dn E hm q
  obtain ⟨hd, hm⟩ := hm
  refine rs_cons (t := tDrop (tBM S.K "list" (fun x vs H Q => ∃ l b xs zs, x = .ref l ∧ vs = [.ref b] ∧ H l = some (.lst xs) ∧ Rd H b (.lst zs) ∧ xs.length + zs.length ≤ sizeLine ∧ Q .non (upd H l (.lst (xs ++ zs)))) (tVar i) (tCons (RE S e) tNil))) (fun X hX => by
    have h := ps_expr (X := X) (pos := pos) (pe_bm PySem.F.plainAttrs_list PySem.F.slot_list_extend PySem.F.type_list_extend (mt_extendL) (pe_var (i := i) (pos := npos) (by rw [hX.N]; exact hx.n) (by rw [hX.sc]; exact hx.v) hx.d hx.c) (pa_cons (RE.pe hX e) pa_nil (hm1.star _)) (hm1.base _) (hm1.few _) hm1.line (hm1.star _) (hm1.plain _)) (hs _)
    rw [hX.K] at h; exact h) ?_
  obtain ⟨o, xs, ds, hv, rfl, g2, _, _⟩ := own_list E hi hd
  refine ⟨.ref o, hv, .inl ⟨rfl, _, .inl (.inl g2)⟩, ?_⟩
  refine he ω G0 H0 σ G H _ _ E hm fun y u' G1 H1 hP e1 r1 => ?_
  have E1 := E.step e1
  obtain ⟨o', xs', ds', hv', hq, g2', r, z⟩ := own_list E1 hi hd
  rw [hv] at hv'
  cases hv'
  cases hq
  cases y with
  | list ys =>
    obtain ⟨hl, hP⟩ := hP
    cases r1 with
    | lst s1 ra za =>
      have hl' := r.length
      have hl2 := ra.length
      refine ⟨o, _, xs', _, rfl, rfl, g2', e1.le _ _ s1, by rw [sizeLine_eq]; omega, ?_⟩
      exact hk _ ω G0 H0 σ G1 _ P Dn (E1.updO hi hv (.lst (r.append ra) (by rw [sizeLine_eq]; simp; omega))) hP q
  | _ => exact hP.elim

/-- x[k] = v, x a list of one's own -/
def lputD : D → D → D → M D
  | .list ds, .int i, v => (M.opt (ixN ds.length i)).bind fun j => M.pure (.list (ds.set j v))
  | _, _, _ => M.fail
theorem w_lput {i : Nat} {x : Str} {d : D} {k : D → M ρ} {spos : Pos} (hx : VarAt S i x) (hi : Γ[i]? = some (some (.own d))) (hv : WE S Γ e me) (ha : WE S Γ a ma) (hk : ∀ z, W S (Γ.set i (some (.own z))) rest (k z) ι)
    (hs : ∀ env, swapsWithSole [.Subscript (.Name x npos) a spos] e pos.line env = pure false := by intro _; rfl) (hw : ∀ env, swappedStores [.Subscript (.Name x npos) a spos] e env = pure none := by intro _; rfl)
    (h1 : ∀ env, (assignEach [.Subscript (.Name x npos) a spos] env).map (·.2) = [assign (.Subscript (.Name x npos) a spos) env] := by intro _; rfl)
    (hsub : ∀ env v, assign (.Subscript (.Name x npos) a spos) env v = (do
      let ov ← holding [v] (eval (.Name x npos) env)
      let iv ← holding [v, ov] (eval a env)
      standAt spos
      holding [v, ov, iv] (setItem ov iv v)
      release [v, ov, iv] []) := by intro _ _; rfl) :
    W S Γ (.Assign [.Subscript (.Name x npos) a spos] e pos :: rest) (M.need (isL d = true) (me.bind fun v => ma.bind fun j => (lputD d j v).bind k)) ι := by
  intro ω G0 H0 σ G H P Dn E hm q
  obtain ⟨hd, hm⟩ := hm
  refine rs_cons (fun X hX => ps_asg (RE.pe hX e) (pg_sub (pe_var (i := i) (by rw [hX.N]; exact hx.n) (by rw [hX.sc]; exact hx.v) hx.d hx.c) (RE.pe hX a) set_list (hsub _)) (hs _) (hw _) (h1 _)) ?_
  refine hv ω G0 H0 σ G H _ _ E hm fun y u' G1 H1 hP e1 r1 => ?_
  have E1 := E.step e1
  obtain ⟨o, xs, ds, hv, rfl, g2, _, _⟩ := own_list E1 hi hd
  refine ⟨.ref o, hv, ha ω G0 H0 σ G1 H1 _ _ E1 hP fun j w G2 H2 hj e2 r2 => ?_⟩
  have E2 := E1.step e2
  obtain ⟨o', xs', ds', hv', hq, g2', r, z⟩ := own_list E2 hi hd
  rw [hv] at hv'
  cases hv'
  cases hq
  cases r2 with
  | int jj =>
    obtain ⟨n, hn, hP⟩ := hj
    refine ⟨o, xs', jj, n, rfl, rfl, g2', by rw [r.length]; exact hn, ?_⟩
    exact hk _ ω G0 H0 σ G2 _ P Dn (E2.updO hi hv (.lst (RpA.set (r1.ext e2) n r) (by simpa using z))) hP q
  | _ => exact hj.elim

/-! ### dicts -/
def putD (es : List (D × D)) (k v : D) : List (D × D) := if (es.any fun p => PyData.eqv p.1 k) = true then es.map (fun p => if PyData.eqv p.1 k = true then (p.1, v) else p) else es ++ [(k, v)]
theorem any_rel {K : PySem.W.Frag} {G : Hp} (k : Key) : ∀ {kvs : List (Key × V)} {es : List (D × D)}, RpK K G kvs es → (es.any fun p => PyData.eqv p.1 (keyD k)) = kvs.any fun kv => decide (kv.1 = k)
  | _, _, .nil => rfl
  | _, _, .cons (k := c) r t => by rw [List.any_cons, List.any_cons, any_rel k t, eqv_keyD]
theorem map_rel {K : PySem.W.Frag} {G : Hp} (k : Key) {v : V} {d : D} (rv : Rp K G v d) : ∀ {kvs : List (Key × V)} {es : List (D × D)}, RpK K G kvs es → RpK K G (kvs.map fun kv => if kv.1 = k then (kv.1, v) else kv) (es.map fun p => if PyData.eqv p.1 (keyD k) = true then (p.1, d) else p)
  | _, _, .nil => .nil
  | _, _, .cons (k := c) r t => by
    rw [List.map_cons, List.map_cons]
    simp only [eqv_keyD]
    by_cases h : c = k
    · subst h
      simp only [decide_true, if_true]
      exact .cons rv (map_rel c rv t)
    · simp only [h, decide_false, if_false, Bool.false_eq_true]
      exact .cons r (map_rel k rv t)
theorem app_rel {K : PySem.W.Frag} {G : Hp} (k : Key) {v : V} {d : D} (rv : Rp K G v d) : ∀ {kvs : List (Key × V)} {es : List (D × D)}, RpK K G kvs es → RpK K G (kvs ++ [(k, v)]) (es ++ [(keyD k, d)])
  | _, _, .nil => .cons rv .nil
  | _, _, .cons r t => .cons r (app_rel k rv t)
theorem put_rel {K : PySem.W.Frag} {G : Hp} {kvs : List (Key × V)} {es : List (D × D)} (r : RpK K G kvs es) (k : Key) {v : V} {d : D} (rv : Rp K G v d) : RpK K G (putK kvs k v) (putD es (keyD k) d) := by
  unfold putK putD
  rw [any_rel k r]
  by_cases h : (kvs.any fun kv => decide (kv.1 = k)) = true
  · rw [if_pos h, if_pos h]; exact map_rel k rv r
  · rw [if_neg h, if_neg h]; exact app_rel k rv r
theorem putD_len (es : List (D × D)) (k v : D) : (putD es k v).length ≤ es.length + 1 := by
  unfold putD
  split
  · simp
  · simp
def dputD : D → D → D → M D
  | .dict es, k, v => M.need (kD k = true ∧ marked es = false ∧ es.length < 16777216) (M.pure (.dict (putD es k v)))
  | _, _, _ => M.fail
theorem own_dict {ω : Option Addr} {K : PySem.W.Frag} {G0 H0 G H : Hp} {σ : L2.St} {i : Nat} {es : List (D × D)} (E : EnvOk ω K G0 H0 Γ σ G H) (hi : Γ[i]? = some (some (.own (.dict es)))) (hd : marked es = false) : ∃ o kvs, σ[i]? = some (some (.ref o)) ∧ H o = some (.dK kvs) ∧ RpK K G kvs es ∧ es.length ≤ sizeLine := by
  obtain ⟨v, hv, o, u, rfl, g1, g2, g3, g4, g5⟩ := E.sl i _ hi
  cases g5 with
  | dK r z => exact ⟨o, _, hv, g2, r, z⟩
  | dT r z => simp [marked] at hd
/-- d[k] = v, d a dict of one's own -/
theorem w_dput {i : Nat} {x : Str} {d : D} {k : D → M ρ} {spos : Pos} (hx : VarAt S i x) (hi : Γ[i]? = some (some (.own d))) (hv : WE S Γ e me) (ha : WE S Γ a ma) (hk : ∀ z, W S (Γ.set i (some (.own z))) rest (k z) ι)
    (hs : ∀ env, swapsWith e (some (.Subscript (.Name x npos) a spos)) pos.line env = pure false := by intro _; rfl) :
    W S Γ (.Assign [.Subscript (.Name x npos) a spos] e pos :: rest) (me.bind fun v => ma.bind fun j => (dputD d j v).bind k) ι := by
  intro ω G0 H0 σ G H P Dn E hm q
  refine rs_cons (fun X hX => ps_dput (hu_of hX.room) (pe_var (i := i) (by rw [hX.N]; exact hx.n) (by rw [hX.sc]; exact hx.v) hx.d hx.c) (RE.pe hX a) (RE.pe hX e) (hs _)) ?_
  refine hv ω G0 H0 σ G H _ _ E hm fun y u' G1 H1 hP e1 r1 => ?_
  have E1 := E.step e1
  obtain ⟨v0, hv0, _⟩ := E1.sl i _ hi
  refine ⟨v0, hv0, ha ω G0 H0 σ G1 H1 _ _ E1 hP fun j w G2 H2 hj e2 r2 => ?_⟩
  have E2 := E1.step e2
  cases d with
  | dict es =>
    obtain ⟨⟨h1, h2, h3⟩, hP⟩ := hj
    obtain ⟨c, rfl⟩ := keyD_kD h1
    obtain ⟨o, kvs, hv, g2, r, z⟩ := own_dict E2 hi h2
    rw [hv] at hv0
    cases hv0
    have hw := kV_rel (ω := ω) (H := H2) (.inl r2)
    subst hw
    refine ⟨o, _, rfl, DPut.k g2 (by rw [r.length, sizeLine_eq]; exact h3), ?_⟩
    refine hk _ ω G0 H0 σ G2 _ P Dn (E2.updO hi hv (.dK (put_rel r c (r1.ext e2)) ?_)) hP q
    have := putD_len es (keyD c) y
    rw [sizeLine_eq]
    omega
  | _ => exact hj.elim
/-- d.get(k, x), d.get(k) -/
def get2D : D → D → D → M D
  | .dict es, k, x => M.need (kD k = true ∧ marked es = false) (M.pure ((lookD es k).getD x))
  | _, _, _ => M.fail
theorem dict_get {ω : Option Addr} {K : PySem.W.Frag} {G H : Hp} {v u : V} {es : List (D × D)} {k : D} (l : Le G H) (r : Rb ω K G H v (.dict es)) (h1 : kD k = true) (h2 : marked es = false) (rk : Rb ω K G H u k) : ∃ a kvs, v = .ref a ∧ Rd H a (.dK kvs) ∧ ∃ o, DGet H a u o ∧ (∀ d, lookD es k = some d → ∃ w, o = some w ∧ Rp K G w d) ∧ (lookD es k = none → o = none) := by
  obtain ⟨c, rfl⟩ := keyD_kD h1
  obtain ⟨a, rfl, _, ⟨kvs, s1, r1⟩ | ⟨kvs, es', rfl, _, _⟩⟩ := noT r l
  · have hl := look_rel r1 c
    exact ⟨a, kvs, rfl, s1, valV kvs c, .inl ⟨kvs, c, s1, kV_rel rk, rfl⟩, hl.1, hl.2⟩
  · simp [marked] at h2
theorem we_get2 {o : Expr} {mo mk mx : M D} {apos cpos : Pos} (ho : WE S Γ o mo) (hk : WE S Γ a mk) (hx : WE S Γ b mx) (hm2 : ∀ X : Cx, M2 X o "get" apos a b cpos) : WE S Γ (.Call (.Attribute o "get" apos) [a, b] [] cpos) (mo.bind fun d => M.need ((isDi d && plainD d) = true) (mk.bind fun k => mx.bind fun x => get2D d k x)) := by
  intro ω G0 H0 σ G H P Q E hm q
  refine ⟨_, fun X hX => pe_dget2 (hu_of hX.room) (RE.pe hX o) (RE.pe hX a) (RE.pe hX b) (hm2 X), ?_⟩
  refine ho ω G0 H0 σ G H _ _ E hm fun d v G1 H1 ⟨hd, hP⟩ e1 r1 => ?_
  cases d with
  | dict es =>
    have hmk : marked es = false := by simpa [isDi, plainD] using hd
    obtain ⟨a', rfl, _, hcase⟩ := noT (ω := ω) (.inl r1) e1.le
    refine ⟨a', rfl, ?_, ?_⟩
    · rcases hcase with ⟨kvs, s1, _⟩ | ⟨kvs, es', _, s1, _⟩
      · exact .inl ⟨_, s1⟩
      · exact .inr ⟨_, s1⟩
    refine hk ω G0 H0 σ G1 H1 _ _ (E.step e1) hP fun k u G2 H2 hP2 e2 r2 => ?_
    refine hx ω G0 H0 σ G2 H2 _ _ ((E.step e1).step e2) hP2 fun x w G3 H3 hP3 e3 r3 => ?_
    obtain ⟨⟨h1, h2⟩, hP3⟩ := hP3
    obtain ⟨a2, kvs, hq, s1, oo, g, g1, g2⟩ := dict_get (ω := ω) e3.le (.inl ((r1.ext e2).ext e3)) h1 h2 (.inl (r2.ext e3))
    cases hq
    refine ⟨oo, g, ?_⟩
    cases hlk : lookD es k with
    | none => rw [g2 hlk]; rw [hlk] at hP3; exact q _ _ _ _ hP3 ((e1.trans e2).trans e3) r3
    | some d => obtain ⟨w', rfl, rw'⟩ := g1 d hlk; rw [hlk] at hP3; exact q _ _ _ _ hP3 ((e1.trans e2).trans e3) rw'
  | _ => simp [isDi] at hd
theorem we_get1 {o : Expr} {mo mk : M D} {apos cpos : Pos} (ho : WE S Γ o mo) (hk : WE S Γ a mk) (hm2 : ∀ X : Cx, M1 X o "get" apos a cpos) : WE S Γ (.Call (.Attribute o "get" apos) [a] [] cpos) (mo.bind fun d => M.need ((isDi d && plainD d) = true) (mk.bind fun k => get2D d k .none)) := by
  intro ω G0 H0 σ G H P Q E hm q
  refine ⟨_, fun X hX => pe_dget1 (hu_of hX.room) (RE.pe hX o) (RE.pe hX a) (hm2 X), ?_⟩
  refine ho ω G0 H0 σ G H _ _ E hm fun d v G1 H1 ⟨hd, hP⟩ e1 r1 => ?_
  cases d with
  | dict es =>
    have hmk : marked es = false := by simpa [isDi, plainD] using hd
    obtain ⟨a', rfl, _, hcase⟩ := noT (ω := ω) (.inl r1) e1.le
    refine ⟨a', rfl, ?_, ?_⟩
    · rcases hcase with ⟨kvs, s1, _⟩ | ⟨kvs, es', _, s1, _⟩
      · exact .inl ⟨_, s1⟩
      · exact .inr ⟨_, s1⟩
    refine hk ω G0 H0 σ G1 H1 _ _ (E.step e1) hP fun k u G2 H2 hP3 e2 r2 => ?_
    obtain ⟨⟨h1, h2⟩, hP3⟩ := hP3
    obtain ⟨a2, kvs, hq, s1, oo, g, g1, g2⟩ := dict_get (ω := ω) e2.le (.inl (r1.ext e2)) h1 h2 (.inl r2)
    cases hq
    refine ⟨oo, g, ?_⟩
    cases hlk : lookD es k with
    | none => rw [g2 hlk]; rw [hlk] at hP3; exact q _ _ _ _ hP3 (e1.trans e2) .non
    | some d => obtain ⟨w', rfl, rw'⟩ := g1 d hlk; rw [hlk] at hP3; exact q _ _ _ _ hP3 (e1.trans e2) rw'
  | _ => simp [isDi] at hd
/-- dict(xs), xs a list of pairs -/
def pairsD : List D → Option (List (D × D))
  | [] => some []
  | .tuple [k, v] :: ds => if kD k = true then (pairsD ds).map ((k, v) :: ·) else none
  | _ :: _ => none
def mergeD (es more : List (D × D)) : List (D × D) := more.foldl (fun acc p => putD acc p.1 p.2) es
def dictD : D → M D
  | .list ds => (M.opt (pairsD ds)).bind fun ps => M.pure (.dict (mergeD [] ps))
  | _ => M.fail
theorem pairs_rel {ω : Option Addr} {K : PySem.W.Frag} {G H : Hp} (l : Le G H) : ∀ {ds : List D} {xs : List V} {ps : List (D × D)}, RpA K G xs ds → pairsD ds = some ps → ∃ as kvs, xs = as.map V.ref ∧ Paired (fun p kv => SqT K H p [kV kv.1, kv.2]) as kvs ∧ RpK K G kvs ps
  | [], _, ps, .nil, h => by
    simp [pairsD] at h; subst h
    exact ⟨[], [], rfl, .nil, .nil⟩
  | d :: ds, _, ps, .cons r t, h => by
    match d, r, h with
    | .tuple [k, v], .tup (a := a) s ra z, h =>
      by_cases hk : kD k = true
      · simp only [pairsD, hk, if_true] at h
        obtain ⟨ps', h1, h2⟩ := Option.map_eq_some_iff.mp h
        subst h2
        obtain ⟨as, kvs, rfl, h3, h4⟩ := pairs_rel (ω := ω) l t h1
        obtain ⟨c, rfl⟩ := keyD_kD hk
        cases ra with
        | cons r1 ra => cases ra with
          | cons r2 ra =>
            cases ra
            have := kV_rel (ω := ω) (H := H) (.inl r1)
            subst this
            exact ⟨a :: as, (c, _) :: kvs, rfl, .cons (l.sqT s) h3, .cons r2 h4⟩
      · simp [pairsD, hk] at h
theorem merge_rel {K : PySem.W.Frag} {G : Hp} : ∀ {more : List (Key × V)} {ps : List (D × D)} {kvs : List (Key × V)} {es : List (D × D)}, RpK K G more ps → RpK K G kvs es → RpK K G (mergeK kvs more) (mergeD es ps)
  | _, _, _, _, .nil, r => r
  | _, _, kvs, es, .cons (k := c) (v := v) (vs := vs) (d := d) (ds := ds) rv t, r => (merge_rel t (put_rel r c rv) : RpK K G (mergeK (putK kvs c v) vs) (mergeD (putD es (keyD c) d) ds))
theorem mergeD_len : ∀ (more es : List (D × D)), (mergeD es more).length ≤ es.length + more.length
  | [], es => Nat.le_refl _
  | p :: ps, es => by
    have h1 := mergeD_len ps (putD es p.1 p.2)
    have h2 := putD_len es p.1 p.2
    show (mergeD (putD es p.1 p.2) ps).length ≤ es.length + (ps.length + 1)
    omega
theorem dict_ok : C1Ok S (.type "dict") dictD := by
  intro ω G H x v P Q e rx hf q
  cases x with
  | list ds =>
    obtain ⟨ps, h1, hf⟩ := hf
    obtain ⟨a, as, rfl, s1, r1, z⟩ := rx.list e.le
    obtain ⟨bs, kvs, rfl, h2, h3⟩ := pairs_rel (ω := ω) e.le r1 h1
    refine ⟨fun xs H Q => ∃ (a : Addr) (ps : List Addr) (kvs : List (Key × V)), xs = [.ref a] ∧ SqL S.K H a (ps.map V.ref) ∧ Paired (fun p kv => SqT S.K H p [kV kv.1, kv.2]) ps kvs ∧
      ∀ p, H p = none → Q (.ref p) (upd H p (.dK (mergeK [] kvs))), fun X hX => hX.K ▸ call_dictP hX.calm, a, bs, kvs, rfl, .inl s1, h2, fun p np => ?_⟩
    have e2 := e.new (o := .dK (mergeK [] kvs)) np
    have hl := h3.length
    have hl2 := Paired.length h2
    have hl3 := r1.length
    refine q _ _ _ _ hf e2 (.dK upd_same (RpK.le (e2.gg) _ (merge_rel h3 .nil)) ?_)
    have := mergeD_len ps []
    rw [List.length_map] at hl3
    simp at this
    omega
  | _ => exact hf.elim
end
end Wp
namespace Wp
open PySem PySem.Spec PyProof.Rows L2

/-! ### loops over a dict's keys -/
section
variable {ω : Option Addr} {K : PySem.W.Frag} {G0 H0 G H G' H' : Hp} {Γ Γ' : En} {σ σ' : L2.St} {a : Addr} {u : HO} {od : Obj}
theorem notfrz {u : HO} (mu : Mut (some u)) : ∀ q w, u ≠ .frz q w := fun q w e => by subst e; exact mu
theorem Ext.notω (x : Ext ω K G0 H0 G H) (hG : G a = some u) : some a ≠ ω := fun z => by
  have := (x.dr a z.symm).g
  rw [hG] at this; cases this
theorem Ext.locked (x : Ext ω K G0 H0 G H) (hH : H a = some u) (hG : G a = some u) (mu : Mut (some u)) : Ext ω K G (upd H0 a (.frz od u)) G (upd H a (.frz od u)) where
  gg := Same.refl _
  hh := fun b w n e => by
    by_cases hb : b = a
    · subst hb; rw [upd_same] at e ⊢; exact e
    · rw [upd_ne hb] at e ⊢; exact x.hh b w n e
  le := fun b w e => by
    by_cases hb : b = a
    · subst hb
      rcases x.le b w e with r | ⟨q, r⟩
      · rw [hH] at r; cases r; exact .inr ⟨od, upd_same⟩
      · rw [hH] at r; cases r; exact absurd rfl (notfrz mu q w)
    · rcases x.le b w e with r | ⟨q, r⟩
      · exact .inl (by rw [upd_ne hb]; exact r)
      · exact .inr ⟨q, by rw [upd_ne hb]; exact r⟩
  fr := fun b w e n => n
  dr := fun b e => by
    obtain ⟨g, vd, ds, at_, h1, h2, h3⟩ := x.dr b e
    have hb : b ≠ a := fun z => x.notω hG (by rw [← z, e])
    exact ⟨g, vd, ds, at_, by rw [upd_ne hb]; exact h1, h2, h3⟩
theorem EnvOk.locked (E : EnvOk ω K G0 H0 Γ σ G H) (hH : H a = some u) (hG : G a = some u) (mu : Mut (some u)) : EnvOk ω K G (upd H0 a (.frz od u)) Γ σ G (upd H a (.frz od u)) :=
  ⟨E.ext.locked hH hG mu, E.ln, fun i c h => by
    obtain ⟨v, h1, h2⟩ := E.sl i c h
    refine ⟨v, h1, ?_⟩
    cases c with
    | val d => exact h2
    | drw => exact h2
    | scr ns => exact h2
    | own d =>
      obtain ⟨o, w, rfl, g1, g2, g3, g4, g5⟩ := h2
      have ho : o ≠ a := fun z => by subst z; rw [hG] at g3; cases g3
      exact ⟨o, w, rfl, g1, by rw [upd_ne ho]; exact g2, g3, by rw [upd_ne ho]; exact g4, g5⟩, E.ds⟩
theorem EnvOk.islocked (E : EnvOk ω K G0 H0 Γ σ G H) (hH : H a = some (.frz od u)) (hG : ∃ w, G a = some w) : EnvOk ω K G (upd H0 a (.frz od u)) Γ σ G H :=
  ⟨⟨Same.refl _, fun b w n e => by
    by_cases hb : b = a
    · subst hb; rw [upd_same] at e; rw [hH]; exact e
    · rw [upd_ne hb] at e; exact E.ext.hh b w n e, E.ext.le, fun _ _ _ n => n, E.ext.dr⟩, E.ln, fun i c h => by
    obtain ⟨v, h1, h2⟩ := E.sl i c h
    refine ⟨v, h1, ?_⟩
    cases c with
    | val d => exact h2
    | drw => exact h2
    | scr ns => exact h2
    | own d =>
      obtain ⟨o, w, rfl, g1, g2, g3, g4, g5⟩ := h2
      have ho : o ≠ a := fun z => by subst z; obtain ⟨w', hG⟩ := hG; rw [hG] at g3; cases g3
      exact ⟨o, w, rfl, g1, g2, g3, by rw [upd_ne ho]; exact g4, g5⟩, E.ds⟩
theorem rd_only {G : Hp} {a : Addr} {u w : HO} (mu : Mut (some u)) (h : G a = some u) (r : Rd G a w) : w = u := by
  rcases r with r | ⟨q, r⟩
  · rw [h] at r; cases r; rfl
  · rw [h] at r; cases r; exact absurd rfl (notfrz mu q w)
/-- unlocked again: an expression's growth -/
theorem Ext.unlockE (x : Ext ω K G (upd H a (.frz od u)) G' H') (hH : H a = some u) (hG : G a = some u) (mu : Mut (some u)) (hω : some a ≠ ω) : Ext ω K G H G' (upd H' a u) where
  gg := x.gg
  hh := fun b w n e => by
    by_cases hb : b = a
    · subst hb; rw [hH] at e; rw [upd_same]; exact e
    · rw [upd_ne hb]; exact x.hh b w n (by rw [upd_ne hb]; exact e)
  le := fun b w e => by
    by_cases hb : b = a
    · subst hb
      rw [rd_only mu (x.gg _ _ hG) e]
      exact .inl upd_same
    · rcases x.le b w e with r | ⟨q, r⟩
      · exact .inl (by rw [upd_ne hb]; exact r)
      · exact .inr ⟨q, by rw [upd_ne hb]; exact r⟩
  fr := fun b w e n => by
    by_cases hb : b = a
    · subst hb; rw [hG] at n; cases n
    · exact x.fr b w (by rw [upd_ne hb]; exact e) n
  dr := fun b e => by
    obtain ⟨g, vd, ds, at_, h1, h2, h3⟩ := x.dr b e
    have hb : b ≠ a := fun z => hω (by rw [← z, e])
    exact ⟨g, vd, ds, at_, by rw [upd_ne hb]; exact h1, h2, h3⟩
/-- .. behind a loop -/
theorem Ext.unlockS (x0 : Ext ω K G0 H0 G H) (x : Ext ω K G (upd H0 a (.frz od u)) G' H') (hH : H a = some u) (hG : G a = some u) (mu : Mut (some u)) : Ext ω K G0 H0 G' (upd H' a u) where
  gg := x0.gg.trans x.gg
  hh := fun b w n e => by
    by_cases hb : b = a
    · subst hb
      have := x0.hh _ _ n e
      rw [hH] at this; rw [upd_same]; exact this
    · rw [upd_ne hb]; exact x.hh b w n (by rw [upd_ne hb]; exact e)
  le := fun b w e => by
    by_cases hb : b = a
    · subst hb
      rw [rd_only mu (x.gg _ _ hG) e]
      exact .inl upd_same
    · rcases x.le b w e with r | ⟨q, r⟩
      · exact .inl (by rw [upd_ne hb]; exact r)
      · exact .inr ⟨q, by rw [upd_ne hb]; exact r⟩
  fr := fun b w e n => by
    have n' := x0.fr b w e n
    by_cases hb : b = a
    · subst hb; rw [hG] at n'; cases n'
    · exact x.fr b w (by rw [upd_ne hb]; exact e) n'
  dr := fun b e => by
    obtain ⟨g, vd, ds, at_, h1, h2, h3⟩ := x.dr b e
    have hb : b ≠ a := fun z => x0.notω hG (by rw [← z, e])
    exact ⟨g, vd, ds, at_, by rw [upd_ne hb]; exact h1, h2, h3⟩
theorem EnvOk.unlockS (x0 : Ext ω K G0 H0 G H) (E : EnvOk ω K G (upd H0 a (.frz od u)) Γ σ G' H') (hH : H a = some u) (hG : G a = some u) (mu : Mut (some u)) : H' a = some (.frz od u) ∧ EnvOk ω K G0 H0 Γ σ G' (upd H' a u) :=
  ⟨E.ext.hh a _ (x0.notω hG) upd_same, x0.unlockS E.ext hH hG mu, E.ln, fun i c h => by
    obtain ⟨v, h1, h2⟩ := E.sl i c h
    refine ⟨v, h1, ?_⟩
    cases c with
    | val d => exact h2
    | drw => exact h2
    | scr ns => exact h2
    | own d =>
      obtain ⟨o, w, rfl, g1, g2, g3, g4, g5⟩ := h2
      have ho : o ≠ a := fun z => by subst z; have := E.ext.gg _ _ hG; rw [this] at g3; cases g3
      exact ⟨o, w, rfl, g1, by rw [upd_ne ho]; exact g2, g3, by rw [upd_ne ho] at g4; exact g4, g5⟩, E.ds⟩
theorem EnvOk.islockedS (x0 : Ext ω K G0 H0 G H) (E : EnvOk ω K G (upd H0 a (.frz od u)) Γ σ G' H') (hH : H a = some (.frz od u)) (hG : ∃ w, G a = some w) : EnvOk ω K G0 H0 Γ σ G' H' :=
  ⟨⟨x0.gg.trans E.ext.gg, fun b w n e => by
    by_cases hb : b = a
    · subst hb
      have := x0.hh _ _ n e
      rw [hH] at this; cases this
      exact E.ext.hh _ _ n upd_same
    · exact E.ext.hh b w n (by rw [upd_ne hb]; exact e), E.ext.le, fun b w e n => by
    have n' := x0.fr b w e n
    by_cases hb : b = a
    · subst hb; obtain ⟨w', hG⟩ := hG; rw [hG] at n'; cases n'
    · exact E.ext.fr b w (by rw [upd_ne hb]; exact e) n', E.ext.dr⟩, E.ln, fun i c h => by
    obtain ⟨v, h1, h2⟩ := E.sl i c h
    refine ⟨v, h1, ?_⟩
    cases c with
    | val d => exact h2
    | drw => exact h2
    | scr ns => exact h2
    | own d =>
      obtain ⟨o, w, rfl, g1, g2, g3, g4, g5⟩ := h2
      have ho : o ≠ a := fun z => by subst z; obtain ⟨w', hG⟩ := hG; have := E.ext.gg _ _ hG; rw [this] at g3; cases g3
      exact ⟨o, w, rfl, g1, g2, g3, by rw [upd_ne ho] at g4; exact g4, g5⟩, E.ds⟩
end
section
variable {S : Sg} {Γ : En} {e a b c elt tg iter : Expr} {ifs : List Expr} {m ma mb mc : M D} {ms : M (List D)} {pos ipos : Pos} {scope : Scope} {own : List (Str × Nat)} {α : Type} {dec : D → M α} {g : α → En → En} {ts : List Nat} {tc : α → M Bool} {f : α → M D}
def keysD : D → M (List D)
  | .dict es => M.need (marked es = false) (M.pure (es.map (·.1)))
  | _ => M.fail
theorem RpK.key {K : PySem.W.Frag} {G : Hp} : ∀ {kvs : List (Key × V)} {es : List (D × D)} {i : Nat} {k : Key} {v : V}, RpK K G kvs es → kvs[i]? = some (k, v) → (es.map (·.1))[i]? = some (keyD k)
  | _, _, _, _, _, .nil, e => by simp at e
  | _, _, 0, _, _, .cons _ _, e => by simp at e; simp [e.1]
  | _, _, i + 1, k, v, .cons _ t, e => by simpa using t.key (i := i) (k := k) (v := v) (by simpa using e)
theorem keyD_rp {K : PySem.W.Frag} {G : Hp} (k : Key) : Rp K G (kV k) (keyD k) := by cases k <;> constructor
theorem it_keys {ω : Option Addr} {K : PySem.W.Frag} {A : Addr → Prop} {G1 H1 : Hp} {p : Addr} {od : Obj} {kvs : List (Key × V)} {es : List (D × D)} (r : RpK K G1 kvs es) (z : es.length ≤ sizeLine) (hA : A p) (h1 : H1 p = some (.frz od (.dK kvs))) : ItOk ω K A (Itk p od kvs) (es.map (·.1)) G1 H1 where
  ln := by simpa using z
  go := fun i Gc Hc _ _ h3 hi => ⟨h3 p _ hA h1, by rw [r.length]; simpa using hi⟩
  stop := fun Gc Hc _ _ h3 => ⟨h3 p _ hA h1, by rw [r.length]; simp⟩
  yld := fun i Gc Hc v H' hi _ h2 h3 y => by
    obtain ⟨rfl, k, w, h4, rfl⟩ := y
    have e1 := r.key h4
    rw [List.getElem?_eq_getElem hi] at e1
    have e2 := Option.some.inj e1
    rw [e2]
    exact ⟨Gc, h2, keyD_rp k⟩
theorem var_dict {i : Nat} {d : D} {ω : Option Addr} {G0 H0 G H : Hp} {σ : L2.St} (E : EnvOk ω S.K G0 H0 Γ σ G H) (hi : Γ[i]? = some (some (.val d))) {P : List D → Prop} (h : keysD d P) : ∃ a kvs es, d = .dict es ∧ σ[i]? = some (some (.ref a)) ∧ G a = some (.dK kvs) ∧ RpK S.K G kvs es ∧ es.length ≤ sizeLine ∧ P (es.map (·.1)) := by
  obtain ⟨v, h1, h2⟩ := E.sl i _ hi
  cases d with
  | dict es =>
    obtain ⟨hm, h⟩ := h
    cases h2 with
    | dK s r z => exact ⟨_, _, es, rfl, h1, s, r, z, h⟩
    | dT s r z => simp [marked] at hm
  | _ => exact h.elim
/-- [elt for tg in d (if c)], d a dict by its name -/
theorem lcK_go {i : Nat} {x : Str} {d : D} (hx : VarAt S i x) (hi : Γ[i]? = some (some (.val d))) (hg : WG (S.blk scope) tg dec g ts) (hts : ∀ i ∈ ts, i ∈ own.map (·.2)) (ok : blkC S.N S.sc scope own = true) (ht : ∀ a, WTs (S.blk scope) (g a (wipeE Γ (own.map (·.2)))) ifs (tc a)) (he : ∀ a, WE (S.blk scope) (g a (wipeE Γ (own.map (·.2)))) elt (f a))
    {ω : Option Addr} {G0 H0 : Hp} {σ : L2.St} {G H : Hp} {P : D → Prop} {Q : VK} (E : EnvOk ω S.K G0 H0 Γ σ G H) (hm : ((keysD d).bind fun xs => (M.filM (turnM dec tc f) xs).bind fun ys => M.pure (.list ys)) P)
    (q : ∀ d v G' H', P d → Ext ω S.K G H G' H' → Rp S.K G' v d → Q v H') (hs : ∀ env x', foldedSetIterable (.Name x ipos) env x' = pure x' := by intro _ _; rfl) : RE S (.ListComp elt [⟨tg, .Name x ipos, ifs, 0⟩] scope pos) σ H Q := by
  have pl : ∀ X, S.Of X → PE X (.ListComp elt [⟨tg, .Name x ipos, ifs, 0⟩] scope pos) (tLc (iKeys (tVar i)) (RG (S.blk scope) tg) (RTs (S.blk scope) ifs) (RE (S.blk scope) elt) (own.map (·.2))) := fun X hX =>
    pe_lc hX.calm (by rw [hX.N]; exact hX.nd) (pi_keys (pe_var (i := i) (by rw [hX.N]; exact hx.n) (by rw [hX.sc]; exact hx.v) hx.d hx.c)) (blkOk_by (own := own) (by rw [hX.N, hX.sc]; exact ok)) (fun s H C cl fp => RG.pg (hX.blk s H scope C cl fp) tg) (fun s H C cl fp => RTs.pts (hX.blk s H scope C cl fp) ifs) (fun s H C cl fp => RE.pe (hX.blk s H scope C cl fp) elt) (hs _)
  obtain ⟨a, kvs, es, rfl, hv, hG, r, z, _⟩ := var_dict E hi (P := fun _ => True) (by cases d <;> first | exact hm.elim | exact ⟨hm.1, trivial⟩)
  have hR := E.ext.le a _ (.inl hG)
  have hω := E.ext.notω hG
  rcases hR with hH | ⟨o, hH⟩
  · -- not locked yet
    refine ⟨_, fun X hX => pe_lock (pl X hX), a, .dK kvs, hH, trivial, fun od => ?_⟩
    have El := E.locked (od := od) hH hG trivial
    refine lc_go hg hts ht he El (fun P' R h1 h2 => ?_) hm fun d v G' H' hP e1 r1 => ?_
    · obtain ⟨hmk, h1⟩ := h1
      exact ⟨.ref a, hv, a, od, rfl, .inl ⟨kvs, upd_same, h2 _ _ G _ h1 El.self (it_keys r z ⟨rfl, hω⟩ upd_same)⟩⟩
    · refine ⟨e1.hh a _ hω upd_same, q d v G' _ hP (e1.unlockE hH hG trivial hω) r1⟩
  · have El := E.islocked hH ⟨_, hG⟩
    refine ⟨_, pl, ?_⟩
    refine lc_go hg hts ht he El (fun P' R h1 h2 => ?_) hm q
    obtain ⟨hmk, h1⟩ := h1
    exact ⟨.ref a, hv, a, o, rfl, .inl ⟨kvs, hH, h2 _ _ G _ h1 El.self (it_keys r z ⟨rfl, hω⟩ hH)⟩⟩
theorem keysD_ok {d : D} {P : List D → Prop} (h : keysD d P) : keysD d fun _ => True := by cases d <;> first | exact h.elim | exact ⟨h.1, trivial⟩
theorem we_lcKif {i : Nat} {x : Str} {d : D} (hx : VarAt S i x) (hi : Γ[i]? = some (some (.val d))) (ok : blkC S.N S.sc scope own = true) (hg : WG (S.blk scope) tg dec g ts) (hts : ∀ i ∈ ts, i ∈ own.map (·.2)) (ht : ∀ a, WT (S.blk scope) (g a (wipeE Γ (own.map (·.2)))) c (tc a)) (he : ∀ a, WE (S.blk scope) (g a (wipeE Γ (own.map (·.2)))) elt (f a)) :
    WE S Γ (.ListComp elt [⟨tg, .Name x ipos, [c], 0⟩] scope pos) ((keysD d).bind fun xs => (M.filM (fun x => (dec x).bind fun a => (tc a).bind fun b => bif b then (f a).bind fun y => M.pure (some y) else M.pure none) xs).bind fun ys => M.pure (.list ys)) :=
  fun ω G0 H0 σ G H P Q E hm q => lcK_go hx hi hg hts ok (fun a => wts_one (ht a)) he E hm q
theorem we_lcK {i : Nat} {x : Str} {d : D} (hx : VarAt S i x) (hi : Γ[i]? = some (some (.val d))) (ok : blkC S.N S.sc scope own = true) (hg : WG (S.blk scope) tg dec g ts) (hts : ∀ i ∈ ts, i ∈ own.map (·.2)) (he : ∀ a, WE (S.blk scope) (g a (wipeE Γ (own.map (·.2)))) elt (f a)) :
    WE S Γ (.ListComp elt [⟨tg, .Name x ipos, [], 0⟩] scope pos) ((keysD d).bind fun xs => (M.mapM (fun x => (dec x).bind fun a => f a) xs).bind fun ys => M.pure (.list ys)) := by
  intro ω G0 H0 σ G H P Q E hm q
  refine lcK_go hx hi hg hts ok (tc := fun _ => M.pure true) (fun a => wts_nil) he E ?_ q
  have z : (fun xs => (M.filM (turnM dec (fun _ => M.pure true) f) xs).bind fun ys => M.pure (PyData.list ys)) = fun xs => (M.mapM (fun x => (dec x).bind fun a => f a) xs).bind fun ys => M.pure (PyData.list ys) := by
    funext xs; rw [mapM_eq]
  rw [z]; exact hm
variable {ρ σt : Type} {ι : ρ → Out} {rest body : List Stmt}
/-- y = [.. for tg in d ..] on one line -/
theorem setLcK_go {k : D → M ρ} {i j : Nat} {x y : Str} {d : D} {py spos : Pos} (hy : SetAt S j y) (sw : SwapAt S y scope) (hx : VarAt S i x) (hi : Γ[i]? = some (some (.val d))) (hg : WG (S.blk scope) tg dec g ts) (hts : ∀ i ∈ ts, i ∈ own.map (·.2)) (ok : blkC S.N S.sc scope own = true) (ht : ∀ a, WTs (S.blk scope) (g a (wipeE Γ (own.map (·.2)))) ifs (tc a)) (he : ∀ a, WE (S.blk scope) (g a (wipeE Γ (own.map (·.2)))) elt (f a))
    (hk : ∀ d, W S (Γ.set j (some (.val d))) rest (k d) ι) (hs : ∀ env x', foldedSetIterable (.Name x ipos) env x' = pure x' := by intro _ _; rfl) (hl : (py.line == pos.line) = true := by rfl) :
    W S Γ (.Assign [.Name y py] (.ListComp elt [⟨tg, .Name x ipos, ifs, 0⟩] scope pos) spos :: rest) (((keysD d).bind fun xs => (M.filM (turnM dec tc f) xs).bind fun ys => M.pure (.list ys)).bind k) ι := by
  intro ω G0 H0 σ G H P Dn E hm q
  have pl : ∀ X, S.Of X → PS X (.Assign [.Name y py] (.ListComp elt [⟨tg, .Name x ipos, ifs, 0⟩] scope pos) spos) (tAsg (tLc (iKeys (tVar i)) (RG (S.blk scope) tg) (RTs (S.blk scope) ifs) (RE (S.blk scope) elt) (own.map (·.2))) (gName j)) := fun X hX =>
    ps_setLc (i := j) hX.calm (by rw [hX.N]; exact hX.nd) (by rw [hX.N]; exact hy.n) (by rw [hX.sc]; exact sw.l) (sw_true (by rw [hX.sc]; exact sw.k) (by rw [hX.sc]; exact sw.l) hl sw.s) (pi_keys (pe_var (i := i) (by rw [hX.N]; exact hx.n) (by rw [hX.sc]; exact hx.v) hx.d hx.c)) (blkOk_by (own := own) (by rw [hX.N, hX.sc]; exact ok)) (fun s H C cl fp => RG.pg (hX.blk s H scope C cl fp) tg) (fun s H C cl fp => RTs.pts (hX.blk s H scope C cl fp) ifs) (fun s H C cl fp => RE.pe (hX.blk s H scope C cl fp) elt) (hs _)
  obtain ⟨a, kvs, es, rfl, hv, hG, r, z, _⟩ := var_dict E hi (P := fun _ => True) (by cases d <;> first | exact hm.elim | exact ⟨hm.1, trivial⟩)
  have hR := E.ext.le a _ (.inl hG)
  have hω := E.ext.notω hG
  rcases hR with hH | ⟨o, hH⟩
  · refine rs_cons (fun X hX => ps_lock (pl X hX)) ⟨a, .dK kvs, hH, trivial, fun od => ?_⟩
    have El := E.locked (od := od) hH hG trivial
    refine lc_go hg hts ht he El (P := fun d => k d P) (fun P' R h1 h2 => ?_) hm fun d v G' H' hP e1 r1 => ?_
    · obtain ⟨hmk, h1⟩ := h1
      exact ⟨.ref a, hv, a, od, rfl, .inl ⟨kvs, upd_same, h2 _ _ G _ h1 El.self (it_keys r z ⟨rfl, hω⟩ upd_same)⟩⟩
    · exact ⟨e1.hh a _ hω upd_same, hk d ω G0 H0 _ G' _ P Dn ((E.step (e1.unlockE hH hG trivial hω)).putV r1) hP q⟩
  · have El := E.islocked hH ⟨_, hG⟩
    refine rs_cons pl ?_
    refine lc_go hg hts ht he El (P := fun d => k d P) (fun P' R h1 h2 => ?_) hm fun d v G' H' hP e1 r1 => ?_
    · obtain ⟨hmk, h1⟩ := h1
      exact ⟨.ref a, hv, a, o, rfl, .inl ⟨kvs, hH, h2 _ _ G _ h1 El.self (it_keys r z ⟨rfl, hω⟩ hH)⟩⟩
    · exact hk d ω G0 H0 _ G' _ P Dn ((E.step e1).putV r1) hP q
theorem w_setLcKif {k : D → M ρ} {i j : Nat} {x y : Str} {d : D} {py spos : Pos} (hy : SetAt S j y) (sw : SwapAt S y scope) (hx : VarAt S i x) (hi : Γ[i]? = some (some (.val d))) (ok : blkC S.N S.sc scope own = true) (hg : WG (S.blk scope) tg dec g ts) (hts : ∀ i ∈ ts, i ∈ own.map (·.2)) (ht : ∀ a, WT (S.blk scope) (g a (wipeE Γ (own.map (·.2)))) c (tc a)) (he : ∀ a, WE (S.blk scope) (g a (wipeE Γ (own.map (·.2)))) elt (f a))
    (hk : ∀ d, W S (Γ.set j (some (.val d))) rest (k d) ι) (hl : (py.line == pos.line) = true := by rfl) :
    W S Γ (.Assign [.Name y py] (.ListComp elt [⟨tg, .Name x ipos, [c], 0⟩] scope pos) spos :: rest) (((keysD d).bind fun xs => (M.filM (fun x => (dec x).bind fun a => (tc a).bind fun b => bif b then (f a).bind fun y => M.pure (some y) else M.pure none) xs).bind fun ys => M.pure (.list ys)).bind k) ι :=
  setLcK_go hy sw hx hi hg hts ok (fun a => wts_one (ht a)) he hk (hl := hl)
theorem w_setLcK {k : D → M ρ} {i j : Nat} {x y : Str} {d : D} {py spos : Pos} (hy : SetAt S j y) (sw : SwapAt S y scope) (hx : VarAt S i x) (hi : Γ[i]? = some (some (.val d))) (ok : blkC S.N S.sc scope own = true) (hg : WG (S.blk scope) tg dec g ts) (hts : ∀ i ∈ ts, i ∈ own.map (·.2)) (he : ∀ a, WE (S.blk scope) (g a (wipeE Γ (own.map (·.2)))) elt (f a))
    (hk : ∀ d, W S (Γ.set j (some (.val d))) rest (k d) ι) (hl : (py.line == pos.line) = true := by rfl) :
    W S Γ (.Assign [.Name y py] (.ListComp elt [⟨tg, .Name x ipos, [], 0⟩] scope pos) spos :: rest) (((keysD d).bind fun xs => (M.mapM (fun x => (dec x).bind fun a => f a) xs).bind fun ys => M.pure (.list ys)).bind k) ι := by
  refine w_eq ?_ (setLcK_go (tc := fun _ => M.pure true) hy sw hx hi hg hts ok (fun a => wts_nil) he hk (hl := hl))
  have z : (fun xs => (M.filM (turnM dec (fun _ => M.pure true) f) xs).bind fun ys => M.pure (PyData.list ys)) = fun xs => (M.mapM (fun x => (dec x).bind fun a => f a) xs).bind fun ys => M.pure (PyData.list ys) := by
    funext xs; rw [mapM_eq]
  rw [z]
/-- for tg in d: .. -/
theorem w_forFK {fb : σt → α → M (Fl σt σt)} {k : σt → M ρ} {kr : D → M ρ} {i : Nat} {x : Str} {d : D} (gs : σt → En) (s0 : σt) (ks : List Bool) (hx : VarAt S i x) (hi : Γ[i]? = some (some (.val d))) (hg : WG S tg dec g ts) (h0 : gs s0 = maskE ks Γ) (hl : ks.length = Γ.length) (hb : ∀ s a, W S (g a (gs s)) body (fb s a) (flO gs)) (hr : ∀ s, W S (gs s) rest (k s) ι)
    (hf : RtOk ι kr) (hs : ∀ env x', foldedSetIterable (.Name x ipos) env x' = pure x' := by intro _ _; rfl) :
    W S Γ (.For tg (.Name x ipos) body [] pos :: rest) ((keysD d).bind fun xs => (M.foldF (fun s x => (dec x).bind fun a => fb s a) s0 xs).bind (Fl.go k kr)) ι := by
  intro ω G0 H0 σ G H P Dn E hm q
  have pl : ∀ X, S.Of X → PS X (.For tg (.Name x ipos) body [] pos) (tFor (iKeys (tVar i)) (RG S tg) (RS S body)) := fun X hX =>
    ps_for (by rw [hX.xe]; exact PassesOwn.never) hX.calm (pi_keys (pe_var (i := i) (by rw [hX.N]; exact hx.n) (by rw [hX.sc]; exact hx.v) hx.d hx.c)) (RG.pg hX tg) (RS.ps hX body) (hs _)
  obtain ⟨a, kvs, es, rfl, hv, hG, r, z, hm⟩ := var_dict E hi hm
  have hR := E.ext.le a _ (.inl hG)
  have hω := E.ext.notω hG
  have per : ∀ {od : Obj} {H1 : Hp}, H1 a = some (.frz od (.dK kvs)) → ∀ (Γ' : En) σ' Gc Hc, EnvOk ω S.K G (upd H0 a (.frz od (.dK kvs))) Γ' σ' Gc Hc → ∀ b u, b = a → H1 b = some u → Hc b = some u := fun h1 Γ' σ' Gc Hc E' b u hb hu => by
    subst hb
    rw [h1] at hu; cases hu
    exact E'.ext.hh b _ hω upd_same
  rcases hR with hH | ⟨o, hH⟩
  · refine rs_cons (fun X hX => ps_lock (pl X hX)) ⟨a, .dK kvs, hH, trivial, fun od => ?_⟩
    have El := E.locked (od := od) hH hG trivial
    refine ⟨.ref a, hv, a, od, rfl, .inl ⟨kvs, upd_same, ?_⟩⟩
    refine for_core (S := S) gs (s0 := s0) (A := fun b => b = a) hg hb (it_keys r z rfl upd_same) (by rw [h0]; exact El.mask ks hl) (per upd_same) hm (fun s σ' G' H' E' hk => ?_) fun d v G' H' hk e' r' => ?_
    · obtain ⟨h1, E2⟩ := E'.unlockS E.ext hH hG trivial
      exact ⟨h1, hr s ω G0 H0 σ' G' _ P Dn E2 hk q⟩
    · obtain ⟨r0, h1, h2⟩ := hf d P hk
      have zz := q r0 h1
      rw [h2] at zz
      exact ⟨e'.hh a _ hω upd_same, zz v G' _ (Ext.unlockS E.ext e' hH hG trivial) r'⟩
  · have El := E.islocked hH ⟨_, hG⟩
    refine rs_cons pl ⟨.ref a, hv, a, o, rfl, .inl ⟨kvs, hH, ?_⟩⟩
    refine for_core (S := S) gs (s0 := s0) (A := fun b => b = a) hg hb (it_keys r z rfl hH) (by rw [h0]; exact El.mask ks hl) (per hH) hm (fun s σ' G' H' E' hk => ?_) fun d v G' H' hk e' r' => ?_
    · exact hr s ω G0 H0 σ' G' _ P Dn (E'.islockedS E.ext hH ⟨_, hG⟩) hk q
    · obtain ⟨r0, h1, h2⟩ := hf d P hk
      have zz := q r0 h1
      rw [h2] at zz
      refine zz v G' _ ?_ r'
      exact (EnvOk.islockedS (Γ := []) (σ := []) E.ext ⟨e', rfl, fun i c h => by simp at h, fun i j d e v h => by simp at h⟩ hH ⟨_, hG⟩).ext
theorem w_forK {fb : σt → α → M σt} {k : σt → M ρ} {i : Nat} {x : Str} {d : D} (gs : σt → En) (s0 : σt) (ks : List Bool) (hx : VarAt S i x) (hi : Γ[i]? = some (some (.val d))) (hg : WG S tg dec g ts) (h0 : gs s0 = maskE ks Γ) (hl : ks.length = Γ.length) (hb : ∀ s a, W S (g a (gs s)) body (fb s a) (fun s' => .nx (gs s'))) (hr : ∀ s, W S (gs s) rest (k s) ι) :
    W S Γ (.For tg (.Name x ipos) body [] pos :: rest) ((keysD d).bind fun xs => (M.fold (fun s x => (dec x).bind fun a => fb s a) s0 xs).bind k) ι := by
  have h := w_forFK (ι := ι) (pos := pos) (ipos := ipos) (fb := fun s a => (fb s a).bind fun s' => M.pure (.nx s')) (k := k) (kr := fun _ => M.fail) gs s0 ks hx hi hg h0 hl (fun s a => w_map (hb s a)) hr rt_none
  have z : ((keysD d).bind fun xs => (M.fold (fun s x => (dec x).bind fun a => fb s a) s0 xs).bind k) = (keysD d).bind fun xs => (M.foldF (fun s x => (dec x).bind fun a => (fb s a).bind fun s' => M.pure (.nx s')) s0 xs).bind (Fl.go k fun _ => M.fail) := by
    have : (fun xs => (M.fold (fun s x => (dec x).bind fun a => fb s a) s0 xs).bind k) = fun xs => (M.foldF (fun s x => (dec x).bind fun a => (fb s a).bind fun s' => M.pure (.nx s')) s0 xs).bind (Fl.go k fun _ => M.fail) := by
      funext xs
      exact (foldF_nx (f := fun s x => (dec x).bind fun a => fb s a) xs s0).symm
    rw [this]
  rw [z]
  exact h

/-! ### sorted, min, max, all, any -/
open PySem.W in
/-- alike, none of them None, nested at most 16 deep, all tuples with something in them or no tuples -/
def sortable (ds : List D) : Bool := (ds.all fun x => ds.all fun y => alike x y) && shA 16 ds && (ds.all (fun d => match d with | .tuple (_ :: _) => true | _ => false) || ds.all fun d => match d with | .tuple _ => false | .none => false | _ => true)
open PySem.W in
def sortL (ds : List D) : List D := ds.mergeSort (dataLe false id)
def sortedD : D → M D
  | .list ds => M.need (sortable ds = true) (M.pure (.list (sortL ds)))
  | .dict es => M.need (marked es = false ∧ sortable (es.map (·.1)) = true) (M.pure (.list (sortL (es.map (·.1)))))
  | _ => M.fail
open PySem.W in
theorem sortable_ok {ds : List D} (h : sortable ds = true) : AllAlike (ds.map id) ∧ Sortable (ds.map id) ∧ PyData.canLayAll0 ds = true ∧ PyData.depthAll ds ≤ 16 := by
  unfold sortable at h
  simp only [Bool.and_eq_true, Bool.or_eq_true, List.all_eq_true] at h
  obtain ⟨⟨h1, h2⟩, h3⟩ := h
  have h4 := shA_lay ds 16 h2
  refine ⟨fun d hd d' hd' => ?_, ?_, h4.1, h4.2⟩
  · rw [List.map_id] at hd hd'
    exact h1 d hd d' hd'
  · rw [List.map_id]
    rcases h3 with h3 | h3
    · refine .inl fun d hd => ?_
      have := h3 d hd
      cases d with
      | tuple xs => cases xs with
        | nil => simp at this
        | cons x r => exact ⟨x, r, rfl⟩
      | _ => simp at this
    · refine .inr fun d hd => ?_
      have := h3 d hd
      cases d <;> simp_all
theorem dp_mem : ∀ {ds : List D} {d : D}, d ∈ ds → d.depth ≤ PyData.depthAll ds
  | [], _, h => by cases h
  | x :: xs, d, h => by
    rcases List.mem_cons.mp h with rfl | h
    · simp [PyData.depthAll]; omega
    · have := dp_mem h; simp [PyData.depthAll]; omega
open PySem.W in
theorem each_of {X : Cx} {pins : List (Addr × Obj)} {σ : L2.St} {G H : Hp} {s : Shared} (I : L2.Inv X pins σ H s) (l : Le G H) : ∀ {ds : List D} {xs : List V} {us : List Value}, RpA X.K G xs ds → Vals xs us → PyData.canLayAll0 ds = true →
    EachIs (fun v d => ∃ x, RelV x v ∧ Rp X.K G x d) us ds ∧ EachIs (fun v d => ∃ as, Reads s.heap v (id d) as) us ds
  | _, _, _, .nil, .nil, _ => ⟨.nil, .nil⟩
  | d :: ds, _, _, .cons r t, .cons rv tv, h => by
    have h' : d.canLay0 = true ∧ PyData.canLayAll0 ds = true := by simpa [PyData.canLayAll0] using h
    obtain ⟨e1, e2⟩ := each_of I l t tv h'.2
    exact ⟨.cons ⟨_, rv, r⟩ e1, .cons (Dp.reads I d _ _ (r.dp l d h'.1) rv) e2⟩
open PySem.W in
theorem each_back {K : PySem.W.Frag} {G : Hp} : ∀ {us : List Value} {ds : List D}, EachIs (fun v d => ∃ x, RelV x v ∧ Rp K G x d) us ds → ∃ xs, Vals xs us ∧ RpA K G xs ds
  | _, _, .nil => ⟨[], .nil, .nil⟩
  | _, _, .cons ⟨x, h1, h2⟩ t => by
    obtain ⟨xs, h3, h4⟩ := each_back t
    exact ⟨x :: xs, .cons h1 h3, .cons h2 h4⟩
open PySem.W in
theorem call_sortedL {X : Cx} {k : Nat} (hr : Room k X.A) : CallR X (.builtin "sorted") (fun xs H Q => ∃ a G ds ys, xs = [.ref a] ∧ Rd H a (.lst ys) ∧ Le G H ∧ RpA X.K G ys ds ∧ sortable ds = true ∧ ∀ p zs, H p = none → RpA X.K G zs (sortL ds) → Q (.ref p) (upd H p (.lst zs))) := by
  intro pins s σ H vs us Q I r h
  obtain ⟨a, G, ds, ys, rfl, hs, l, ra, hd, q⟩ := h
  obtain ⟨its, rv, hl, hlen⟩ := I.list (.inl hs)
  rw [Vals.ref1 r]
  obtain ⟨h1, h2, h3, h4⟩ := sortable_ok hd
  obtain ⟨e1, e2⟩ := each_of I l ra rv h3
  have hn := ra.length
  refine sorted_data (bs := ds) (enc := id) (R := fun v d => ∃ x, RelV x v ∧ Rp X.K G x d) hl.isList e1 e2 h1 h2 (by omega) (fun d hd' => ?_) fun out ho eo => ?_
  · have := dp_mem hd'
    have := hr.un
    show X.A.units + 2 + d.depth < cLine
    omega
  · obtain ⟨zs, v1, r1⟩ := each_back eo
    obtain ⟨ep, he'⟩ := PyProof.Rows.sortedAll_at s.heap its out.toArray
    have hz := v1.length
    exact ⟨.ref _, upd H (s.heap.objs.size + 1) (.lst zs), I.laid (t' := s.toks) (fun _ _ => PyProof.Rows.sortedAll_old) (Nat.le_succ _) ⟨by omega, out, ep, v1, he'⟩, rfl, q _ zs (I.hok.fresh (Nat.le_succ _)) r1⟩
theorem sortL_len (ds : List D) : (sortL ds).length = ds.length := by unfold sortL; simp
open PySem.W in
theorem call_sortedK {X : Cx} {k : Nat} (hcalm : X.calm = true) (hr : Room k X.A) : CallR X (.builtin "sorted") (fun xs H Q => ∃ a G es kvs, xs = [.ref a] ∧ Rd H a (.dK kvs) ∧ Le G H ∧ RpK X.K G kvs es ∧ sortable (es.map (·.1)) = true ∧ ∀ p zs, H p = none → RpA X.K G zs (sortL (es.map (·.1))) → Q (.ref p) (upd H p (.lst zs))) := by
  intro pins s σ H xs us Q I r h
  obtain ⟨a, G, es, kvs, rfl, hd, l, ra, hso, q⟩ := h
  obtain ⟨u, rfl, rx⟩ := vals1 r
  cases rx
  obtain ⟨z, lo, vs, rel, dd⟩ := dk_rd I.hok hd
  obtain ⟨ep, hat⟩ := dd.dictAt
  have hl : vs.length = kvs.length := rel.length.symm
  have h16 : vs.length ≤ sizeLine := by rw [hl]; exact z
  obtain ⟨h1, h2, h3, h4⟩ := sortable_ok hso
  have hn := ra.length
  refine Calls.call_function_entry PyProof.Rows.kind_sorted PyProof.Rows.plain_sorted PyProof.Rows.entry_sorted (PyProof.Rows.args_sorted1 _) ?_
  unfold Builtin.«sorted»
  refine wpAny_bind (m := checkCount "sorted" 1 1 _) (wpAny_pure ?_)
  refine wpAny_bind (PySem.W.kdu_collect (A := X.A.in1) (PySem.W.kdl_dict (knd := mixKind X.prog X.w) (kvs := vs) (ep := ep) lo) (I.ok.hd hcalm) hat h16 fun h' tk acc hk hacc => ?_)
  have hal : acc.toList.length = kvs.length := by rw [Array.length_toList, hacc.1, hl]
  have I1 : L2.Inv X pins σ H { s with heap := h', toks := tk } := I.kept hk
  have hv : Vals (kvs.map fun kv => kV kv.1) acc.toList := vals_of_at (by rw [List.length_map, hal]) fun j x u hx hu => by
    obtain ⟨k, y, e1, e2⟩ := hacc.2 j u (by rw [← Array.getElem?_toList]; exact hu)
    have e3 : (vs.map (·.1))[j]? = some k := by rw [List.getElem?_map, e1]; all_goals rfl
    rw [← rel.keys, List.getElem?_map] at e3
    rw [List.getElem?_map] at hx
    cases e4 : kvs[j]? with
    | none => rw [e4] at e3; cases e3
    | some p =>
      rw [e4] at e3 hx
      have e5 : p.1 = k := Option.some.inj e3
      have e6 : kV p.1 = x := Option.some.inj hx
      rw [← e6, e5]
      exact keyIs_rel e2
  have hrp : RpA X.K G (kvs.map fun kv => kV kv.1) (es.map (·.1)) := by
    have : ∀ {kvs : List (Key × V)} {es : List (D × D)}, RpK X.K G kvs es → RpA X.K G (kvs.map fun kv => kV kv.1) (es.map (·.1)) := by
      intro kvs
      induction kvs with
      | nil => intro es r; cases r; exact .nil
      | cons p ps ih => intro es r; cases r with
        | cons rv t => exact .cons (keyD_rp _) (ih t)
    exact this ra
  obtain ⟨e1, e2⟩ := each_of I1 l hrp hv h3
  refine wpAny_bind (wpAny_newList ?_ (by rw [hal]; exact z))
  have hoL : (h'.push (seqObj "list" acc.toList.toArray 0)).get? h'.objs.size = some (seqObj "list" acc.toList.toArray 0) := Heap.get?_push_size _ rfl
  show wpAny _ _ _ _ _ { s with heap := h'.push (seqObj "list" acc.toList.toArray 0), toks := tk }
  have e2' : EachIs (fun v d => ∃ as, Reads (h'.push (seqObj "list" acc.toList.toArray 0)) v (id d) as ∧ h'.objs.size ∉ as) acc.toList (es.map (·.1)) := by
    have hflat : ∀ {us : List Value} {ds : List D}, (∀ d ∈ ds, kD d = true) → EachIs (fun v d => ∃ as, Reads h' v (id d) as) us ds → EachIs (fun v d => ∃ as, Reads (h'.push (seqObj "list" acc.toList.toArray 0)) v (id d) as ∧ h'.objs.size ∉ as) us ds := by
      intro us ds hk' e
      induction e with
      | nil => exact .nil
      | cons h t ih =>
        rename_i a b as bs
        refine .cons ?_ (ih fun d hd => hk' d (List.mem_cons_of_mem _ hd))
        obtain ⟨as', h⟩ := h
        have := hk' b List.mem_cons_self
        cases b with
        | int i => cases h; exact ⟨_, .int _ _, by simp⟩
        | str x => cases h; exact ⟨_, .str _ _, by simp⟩
        | _ => simp [kD] at this
    refine hflat (fun d hd' => ?_) e2
    obtain ⟨p, hp, rfl⟩ := List.mem_map.mp hd'
    have : ∀ {kvs : List (Key × V)} {es : List (D × D)}, RpK X.K G kvs es → ∀ p ∈ es, kD p.1 = true := by
      intro kvs
      induction kvs with
      | nil => intro es r; cases r; intro p hp; cases hp
      | cons q qs ih => intro es r; cases r with
        | cons rv t =>
          intro p hp
          rcases List.mem_cons.mp hp with rfl | hp
          · rename_i k _ _ _; cases k <;> rfl
          · exact ih t p hp
    exact this ra p hp
  refine wpAny_bind (wpAny_holding (list_sort_data (s := { s with heap := h'.push (seqObj "list" acc.toList.toArray 0), toks := tk }) (bs := es.map (·.1)) (enc := id) (R := fun v d => ∃ x, RelV x v ∧ Rp X.K G x d) hoL e1 e2' h1 h2 (by rw [List.length_map, ← hn]; exact z) (fun d hd' => ?_) fun out ho eo => ?_))
  · have := dp_mem hd'
    have := hr.un
    show X.A.units + 1 + 1 + d.depth < cLine
    omega
  · obtain ⟨zs, v1, r1⟩ := each_back eo
    obtain ⟨e', he'⟩ := PyProof.Rows.sortedHeap_at (vs := acc.toList) (out := out.toArray) hoL
    have hz := v1.length
    rw [List.length_map] at ho
    refine wpAny_pure ⟨_, rfl, .ref h'.objs.size, upd H h'.objs.size (.lst zs), I1.laid (t' := tk) (fun b u e => ?_) (Nat.le_refl _)
      (show ObjOk X.prog X.w _ _ _ (.lst zs) from ⟨by omega, out, e', v1, he'⟩), rfl, q _ zs (I1.hok.fresh (Nat.le_refl _)) r1⟩
    have hb : b < h'.objs.size := Heap.lt_size e
    rw [PyProof.Rows.sortedHeap_old (Nat.ne_of_lt hb) (by rw [size_push']; exact Nat.lt_succ_of_lt hb)]
    exact Heap.get?_push_of_some _ e
theorem sorted_ok : C1Ok S (.builtin "sorted") sortedD := by
  intro ω G H x v P Q e rx hf q
  cases x with
  | list ds =>
    obtain ⟨hs, hf⟩ := hf
    obtain ⟨a, as, rfl, s1, r1, z⟩ := rx.list e.le
    refine ⟨fun xs H Q => ∃ a G ds ys, xs = [.ref a] ∧ Rd H a (.lst ys) ∧ Le G H ∧ RpA S.K G ys ds ∧ sortable ds = true ∧ ∀ p zs, H p = none → RpA S.K G zs (sortL ds) → Q (.ref p) (upd H p (.lst zs)), fun X hX => hX.K ▸ call_sortedL hX.room, a, G, ds, as, rfl, s1, e.le, r1, hs, fun p zs np rz => ?_⟩
    obtain ⟨e2, r⟩ := new_lst e np rz (by rw [sortL_len]; exact z)
    exact q _ _ _ _ hf e2 r
  | dict es =>
    obtain ⟨⟨hm, hs⟩, hf⟩ := hf
    obtain ⟨a, rfl, z, ⟨kvs, s1, r1⟩ | ⟨kvs, es', rfl, _, _⟩⟩ := noT rx e.le
    · refine ⟨fun xs H Q => ∃ a G es kvs, xs = [.ref a] ∧ Rd H a (.dK kvs) ∧ Le G H ∧ RpK S.K G kvs es ∧ sortable (es.map (·.1)) = true ∧ ∀ p zs, H p = none → RpA S.K G zs (sortL (es.map (·.1))) → Q (.ref p) (upd H p (.lst zs)), fun X hX => hX.K ▸ call_sortedK hX.calm hX.room, a, G, es, kvs, rfl, s1, e.le, r1, hs, fun p zs np rz => ?_⟩
      obtain ⟨e2, r⟩ := new_lst e np rz (by rw [sortL_len, List.length_map]; exact z)
      exact q _ _ _ _ hf e2 r
    · simp [marked] at hm
  | _ => exact hf.elim
def maxD : D → M D
  | .list ds => (M.opt (asInts ds)).bind fun ns => (M.opt ns.max?).bind fun m => M.pure (.int m)
  | _ => M.fail
def minD : D → M D
  | .list ds => (M.opt (asInts ds)).bind fun ns => (M.opt ns.min?).bind fun m => M.pure (.int m)
  | _ => M.fail
theorem max_ok : C1Ok S (.builtin "max") maxD := by
  intro ω G H x v P Q e rx hf q
  cases x with
  | list ds =>
    obtain ⟨ns, h1, m, h2, hf⟩ := hf
    obtain ⟨a, as, rfl, s1, r1, z⟩ := rx.list e.le
    have e2 := asInts_some h1
    subst e2
    have e3 := r1.ints
    subst e3
    have hne : 0 < ns.length := by cases ns <;> simp_all
    refine ⟨rMax S.K, fun X hX => hX.K ▸ cr_max hX.calm, a, ns, rfl, .inl s1, hne, fun m' hm hle => ?_⟩
    have h3 := List.max?_eq_some_iff.mp h2
    have : m' = m := Int.le_antisymm (h3.2 m' hm) (hle m h3.1)
    rw [this]
    exact q _ _ _ _ hf e (.int _)
  | _ => exact hf.elim
theorem min_ok : C1Ok S (.builtin "min") minD := by
  intro ω G H x v P Q e rx hf q
  cases x with
  | list ds =>
    obtain ⟨ns, h1, m, h2, hf⟩ := hf
    obtain ⟨a, as, rfl, s1, r1, z⟩ := rx.list e.le
    have e2 := asInts_some h1
    subst e2
    have e3 := r1.ints
    subst e3
    have hne : 0 < ns.length := by cases ns <;> simp_all
    refine ⟨rMin S.K, fun X hX => hX.K ▸ cr_min hX.calm, a, ns, rfl, .inl s1, hne, fun m' hm hle => ?_⟩
    have h3 := List.min?_eq_some_iff.mp h2
    have : m' = m := Int.le_antisymm (hle m h3.1) (h3.2 m' hm)
    rw [this]
    exact q _ _ _ _ hf e (.int _)
  | _ => exact hf.elim
def asBls : List D → Option (List Bool)
  | [] => some []
  | .bool i :: ds => (asBls ds).map (i :: ·)
  | _ :: _ => none
theorem asBls_map : ∀ ns : List Bool, asBls (ns.map .bool) = some ns
  | [] => rfl
  | n :: ns => by simp [asBls, asBls_map ns]
theorem asBls_some : ∀ {ds : List D} {ns : List Bool}, asBls ds = some ns → ds = ns.map .bool
  | [], ns, h => by simp [asBls] at h; subst h; rfl
  | d :: ds, ns, h => by
    cases d with
    | bool i =>
      obtain ⟨ms, h1, h2⟩ := Option.map_eq_some_iff.mp (show (asBls ds).map (i :: ·) = some ns from h)
      subst h2
      rw [asBls_some h1]; rfl
    | _ => simp [asBls] at h
theorem RpA.bls {K : PySem.W.Frag} {G : Hp} : ∀ {ns : List Bool} {xs : List V}, RpA K G xs (ns.map .bool) → xs = ns.map V.bl
  | [], _, .nil => rfl
  | n :: ns, _, .cons r t => by cases r; rw [t.bls]; rfl
def allD : D → M D
  | .list ds => (M.opt (asBls ds)).bind fun bs => M.pure (.bool (bs.all id))
  | _ => M.fail
def anyD : D → M D
  | .list ds => (M.opt (asBls ds)).bind fun bs => M.pure (.bool (bs.any id))
  | _ => M.fail
theorem all_ok : C1Ok S (.builtin "all") allD := by
  intro ω G H x v P Q e rx hf q
  cases x with
  | list ds =>
    obtain ⟨ns, h1, hf⟩ := hf
    obtain ⟨a, as, rfl, s1, r1, z⟩ := rx.list e.le
    have e2 := asBls_some h1
    subst e2
    have e3 := r1.bls
    subst e3
    exact ⟨rAll S.K, fun X hX => hX.K ▸ cr_all hX.calm, a, ns, rfl, .inl s1, q _ _ _ _ hf e (.bl _)⟩
  | _ => exact hf.elim
theorem any_ok : C1Ok S (.builtin "any") anyD := by
  intro ω G H x v P Q e rx hf q
  cases x with
  | list ds =>
    obtain ⟨ns, h1, hf⟩ := hf
    obtain ⟨a, as, rfl, s1, r1, z⟩ := rx.list e.le
    have e2 := asBls_some h1
    subst e2
    have e3 := r1.bls
    subst e3
    exact ⟨rAny S.K, fun X hX => hX.K ▸ cr_any hX.calm, a, ns, rfl, .inl s1, q _ _ _ _ hf e (.bl _)⟩
  | _ => exact hf.elim
/-- a module's constant: a tuple of ints, texts .. that stands in the written part -/
structure GlobAt (S : Sg) (x : Str) (u : Value) : Prop where
  g : S.sc.names.lookup x = some .globalImplicit
  m : S.mg x = some u
  d : (x == ("__debug__" : Str)) = false
theorem we_glob {x : Str} {u : Value} {v : V} {d : D} (h : GlobAt S x u) (r : RelV v u) (rp : ∀ G, Rp S.K G v d) : WE S Γ (.Name x pos) (M.pure d) := fun ω G0 H0 σ G H P Q E hm q =>
  ⟨_, fun X hX => pe_glob (gl_of hX h.g) (by rw [hX.mg]; exact h.m) r h.d, q _ _ G H hm E.self (rp G)⟩
end
end Wp
namespace Wp
open PySem PySem.Spec PyProof.Rows L2

/-! ### the script, as it is -/
section
variable {S : Sg} {Γ : En} {a b : Expr} {ma mb : M D} {pos p p2 : Pos}
theorem we_lenScr {i : Nat} {x : Str} {ns : List Int} (h : VarAt S i x) (hi : Γ[i]? = some (some (.scr ns))) (hb : BltAt S "len" (.builtin "len")) (he : ∀ env, starEach [.Name x p2] env = (false, eval (.Name x p2) env) :: starEach [] env := by intro _; rfl) :
    WE S Γ (.Call (.Name "len" p) [.Name x p2] [] pos) (M.pure (.int ns.length)) := by
  intro ω G0 H0 σ G H P Q E hm q
  obtain ⟨v, h1, o, rfl, ho⟩ := E.sl i _ hi
  refine ⟨_, fun X hX => pe_callB (RCall.call hX _) (gl_of hX hb.g) (by rw [hX.mg]; exact hb.m) hb.v (pa_cons (pe_var (i := i) (by rw [hX.N]; exact h.n) (by rw [hX.sc]; exact h.v) h.d h.c) pa_nil (he _)) hb.n hb.d (he _) rfl, .ref o, h1, ?_⟩
  refine ⟨fun xs H Q => ∃ p ys, xs = [.ref p] ∧ (SqL S.K H p ys ∨ SqT S.K H p ys) ∧ Q (.int ys.length) H, fun X hX => hX.K ▸ call_len_seq, o, ns.map V.int, rfl, .inl (E.ext.le.sqL ho), ?_⟩
  rw [List.length_map]
  exact q _ _ _ _ hm E.self (.int _)
theorem we_ixScr {i : Nat} {x : Str} {ns : List Int} (h : VarAt S i x) (hi : Γ[i]? = some (some (.scr ns))) (hb : WB S Γ b mb) (hs : PlainIx b) :
    WE S Γ (.Subscript (.Name x p) b pos) (mb.bind fun y => (asI y).bind fun k => (M.opt (atI ns k)).bind fun z => M.pure (.int z)) := by
  intro ω G0 H0 σ G H P Q E hm q
  obtain ⟨v, h1, o, rfl, ho⟩ := E.sl i _ hi
  refine ⟨_, fun X hX => pe_ix (RIx.ix hX) (pe_var (i := i) (by rw [hX.N]; exact h.n) (by rw [hX.sc]; exact h.v) h.d h.c) (RE.pe hX b) hs, .ref o, h1, ?_⟩
  refine hb ω G0 H0 σ G H _ _ E hm fun y u G1 H1 hy e1 r1 => ?_
  cases y with
  | int k =>
    cases r1.int
    obtain ⟨z, hz, hP⟩ := hy
    refine ⟨rIxL S.K, fun X hX => hX.K ▸ ix_list, o, ns.map V.int, k, .int z, rfl, rfl, e1.le.sqL ((Le.of_same e1.gg).sqL ho), ?_, q _ _ _ _ hP e1 (.int _)⟩
    unfold atI at hz ⊢
    simp only [List.length_map, List.getElem?_map] at hz ⊢
    cases hq : ixN ns.length k with
    | none => rw [hq] at hz; cases hz
    | some j =>
      rw [hq] at hz
      show Option.map V.int ns[j]? = _
      rw [show ns[j]? = some z from hz]
      rfl
  | _ => exact hy.elim
end

/-! ### the law's own call -/
def spLaw (K : PySem.W.Frag) : Sp := fun vs H Q _ => ∃ (a : Addr) (ns : List Int), vs = [.ref a] ∧ SqL K H a (ns.map V.int) ∧ ns.length ≤ 63 ∧ ∀ H', Q (.bl true) H'
def wDict (callE : Expr) (p2 p3 p4 p5 : Pos) (j1 j2 j3 : Nat) : Expr := .Dict [some (.Constant (.str ("draws" : Str)) j1 p2), some (.Constant (.str ("at" : Str)) j2 p3)] [callE, .Constant (.int 0) j3 p4] p5
theorem law_fn {P : Program} {w : World} {K : PySem.W.Frag} {mg : Str → Option Value} {base : Heap} {x qual : Str} {st : Stmt} {f : Addr} {fd : FuncData} {N : List Str} {k i : Nat} {callE : Expr} {rest : List Stmt} {mcall : List Int → M D} {m : M D} {wn : Str} {p1 p2 p3 p4 p5 p6 : Pos} {j1 j2 j3 : Nat}
    (F : Fun K x qual st f fd) (Sc : FnScope N ["script"] (defScope st)) (hN : 1 ≤ N.length) (hi0 : i ≠ 0) (hi : i < N.length) (hb : defBody st = .Assign [.Name wn p1] (wDict callE p2 p3 p4 p5 j1 j2 j3) p6 :: rest)
    (hw : SetAt ⟨P, w, K, mg, base, N, defScope st, k, fun _ => true⟩ i wn) (hcall : ∀ ns, WE ⟨P, w, K, mg, base, N, defScope st, k, fun _ => true⟩ (some (.scr ns) :: List.replicate (N.length - 1) none) callE (mcall ns))
    (hdr : ∀ ns : List Int, ns.length ≤ 63 → mcall ns fun d => ∃ ds : List Int, d = .list (ds.map .int))
    (hrest : W ⟨P, w, K, mg, base, N, defScope st, k, fun _ => true⟩ ((List.replicate N.length none).set i (some .drw)) rest m Out.rt) (hm : m fun d => d = .bool true)
    (hs : ∀ env, swapsWith (wDict callE p2 p3 p4 p5 j1 j2 j3) (some (.Name wn p1)) p6.line env = pure false := by intro _; rfl) :
    FnOk P w K mg base CX0 (k + 1) f fd ["script"] (spLaw K) := by
  refine F.ok Sc (fun vs H Q E h => by obtain ⟨a, ns, rfl, _⟩ := h; rfl) (fun cdv A outer s H vs Q E hr h => ?_)
  obtain ⟨a, ns, rfl, hS, hlen, q⟩ := h
  generalize hSg : (⟨P, w, K, mg, base, N, defScope st, k, fun _ => true⟩ : Sg) = S at *
  have hOf : S.Of (cxOf CX0 P w K mg base N qual (defScope st) f cdv A outer s H E).nox := by
    subst hSg; exact ⟨rfl, rfl, rfl, rfl, rfl, rfl, rfl, rfl, hr, rfl, rfl, Sc.nd⟩
  have hK : S.K = K := by subst hSg; rfl
  have hSN : S.N = N := by subst hSg; rfl
  refine ⟨RS S (defBody st), RS.ps hOf _, ?_⟩
  rw [hb]
  refine rs_cons (fun X hX => ps_set (i := i) (by rw [hX.N]; exact hX.nd) (by rw [hX.N]; exact hw.n) (by rw [hX.sc]; exact hw.l) (pe_disp (pps_cons pe_str (RE.pe hX callE) (pps_cons pe_str pe_int pps_nil)) rfl rfl (by simp) (by show 2 ≤ 15; decide)) (hs _) (hw.fx hX)) ?_
  intro p np
  have E0 : Ext none S.K H H H H := ⟨Same.refl _, fun _ _ _ h => h, Le.refl _, fun _ _ _ h => h, fun _ h => nomatch h⟩
  have E1 := E0.lay (o := .dK []) np
  have lnσ : (L2.start N [V.ref a]).length = N.length := by
    unfold L2.start
    simp only [List.length_append, List.length_map, List.length_replicate, List.length_cons, List.length_nil]
    omega
  have Ev : EnvOk none S.K H (upd H p (.dK [])) (some (.scr ns) :: List.replicate (N.length - 1) none) (L2.start N [V.ref a]) H (upd H p (.dK [])) := by
    refine ⟨E1.self, ?_, fun j c hj => ?_, fun j j' d e v h1 _ _ _ => ?_⟩
    · rw [lnσ]; simp only [List.length_cons, List.length_replicate]; omega
    · cases j with
      | zero => simp at hj; subst hj; exact ⟨.ref a, start_get rfl, a, rfl, hK ▸ hS⟩
      | succ j =>
        have := List.mem_of_getElem? (by simpa using hj : (List.replicate (N.length - 1) (none : Option Ct))[j]? = some (some c))
        rw [List.mem_replicate] at this
        cases this.2
    · cases j with
      | zero => simp at h1
      | succ j =>
        have := List.mem_of_getElem? (by simpa using h1 : (List.replicate (N.length - 1) (none : Option Ct))[j]? = some (some (.own d)))
        rw [List.mem_replicate] at this
        cases this.2
  show RE S callE _ _ _
  refine hcall ns none H _ _ H _ _ _ Ev (hdr ns hlen) fun d vd G2 H2 hd e2 r2 => ?_
  obtain ⟨ds, rfl⟩ := hd
  have hp2 : H2 p = some (.dK []) := e2.hh p _ (by intro h; cases h) upd_same
  have gp2 : G2 p = none := e2.fr p _ upd_same np
  refine ⟨hp2, [(.inr ("draws" : Str), vd), (.inr ("at" : Str), .int 0)], rfl, by simp, ?_⟩
  show RS S rest _ _ _
  have em : mergeK [] [(.inr ("draws" : Str), vd), (.inr ("at" : Str), V.int 0)] = [(.inr ("draws" : Str), vd), (.inr ("at" : Str), .int 0)] := rfl
  rw [em]
  have eX : Ext (some p) S.K G2 (upd H2 p (drwO vd 0)) G2 (upd H2 p (drwO vd 0)) := by
    refine ⟨Same.refl _, fun _ _ _ h => h, fun b u e => ?_, fun _ _ _ h => h, fun o ho => ?_⟩
    · have hb : b ≠ p := fun z => by
        subst z
        rcases e with e | ⟨q, e⟩ <;> (rw [gp2] at e; cases e)
      rcases e2.le b u e with r | ⟨q, r⟩
      · exact .inl (by rw [upd_ne hb]; exact r)
      · exact .inr ⟨q, by rw [upd_ne hb]; exact r⟩
    · cases ho
      exact ⟨gp2, vd, ds, 0, upd_same, r2, Int.le_refl _⟩
  refine hrest (some p) G2 _ _ G2 _ _ _ ⟨eX, ?_, fun j c hj => ?_, fun j j' d e v h1 _ _ _ => ?_⟩ hm fun d hd v G' H' e' r' => ?_
  · simp only [List.length_set, List.length_replicate]; exact lnσ
  · rcases getElem?_set_some hj with ⟨rfl, e, hl⟩ | ⟨_, hj⟩
    · cases e
      exact ⟨.ref p, by rw [List.getElem?_set_self (by rw [lnσ]; exact hi)], p, rfl, rfl⟩
    · have := List.mem_of_getElem? hj
      rw [List.mem_replicate] at this
      cases this.2
  · rcases getElem?_set_some h1 with ⟨rfl, e, hl⟩ | ⟨_, hj⟩
    · cases e
    · have := List.mem_of_getElem? hj
      rw [List.mem_replicate] at this
      cases this.2
  · subst hd
    cases r'
    exact q H'
end Wp
namespace Wp
open PySem PySem.Spec PyProof.Rows L2

/-! ### built-ins at their names -/
section
variable {S : Sg}

theorem blt_len (g : S.sc.names.lookup ("len" : Str) = some .globalImplicit) (m : S.mg ("len" : Str) = none) : BltAt S ("len" : Str) (.builtin "len") := ⟨g, m, rfl, by decide, rfl⟩
theorem blt_abs (g : S.sc.names.lookup ("abs" : Str) = some .globalImplicit) (m : S.mg ("abs" : Str) = none) : BltAt S ("abs" : Str) (.builtin "abs") := ⟨g, m, rfl, by decide, rfl⟩
theorem blt_max (g : S.sc.names.lookup ("max" : Str) = some .globalImplicit) (m : S.mg ("max" : Str) = none) : BltAt S ("max" : Str) (.builtin "max") := ⟨g, m, rfl, by decide, rfl⟩
theorem blt_min (g : S.sc.names.lookup ("min" : Str) = some .globalImplicit) (m : S.mg ("min" : Str) = none) : BltAt S ("min" : Str) (.builtin "min") := ⟨g, m, rfl, by decide, rfl⟩
theorem blt_sum (g : S.sc.names.lookup ("sum" : Str) = some .globalImplicit) (m : S.mg ("sum" : Str) = none) : BltAt S ("sum" : Str) (.builtin "sum") := ⟨g, m, rfl, by decide, rfl⟩
theorem blt_sorted (g : S.sc.names.lookup ("sorted" : Str) = some .globalImplicit) (m : S.mg ("sorted" : Str) = none) : BltAt S ("sorted" : Str) (.builtin "sorted") := ⟨g, m, rfl, by decide, rfl⟩
theorem blt_all (g : S.sc.names.lookup ("all" : Str) = some .globalImplicit) (m : S.mg ("all" : Str) = none) : BltAt S ("all" : Str) (.builtin "all") := ⟨g, m, rfl, by decide, rfl⟩
theorem blt_any (g : S.sc.names.lookup ("any" : Str) = some .globalImplicit) (m : S.mg ("any" : Str) = none) : BltAt S ("any" : Str) (.builtin "any") := ⟨g, m, rfl, by decide, rfl⟩
theorem blt_isinstance (g : S.sc.names.lookup ("isinstance" : Str) = some .globalImplicit) (m : S.mg ("isinstance" : Str) = none) : BltAt S ("isinstance" : Str) (.builtin "isinstance") := ⟨g, m, rfl, by decide, rfl⟩
theorem blt_int (g : S.sc.names.lookup ("int" : Str) = some .globalImplicit) (m : S.mg ("int" : Str) = none) : BltAt S ("int" : Str) (.type "int") := ⟨g, m, rfl, by decide, rfl⟩
theorem blt_tuple (g : S.sc.names.lookup ("tuple" : Str) = some .globalImplicit) (m : S.mg ("tuple" : Str) = none) : BltAt S ("tuple" : Str) (.type "tuple") := ⟨g, m, rfl, by decide, rfl⟩
theorem blt_list (g : S.sc.names.lookup ("list" : Str) = some .globalImplicit) (m : S.mg ("list" : Str) = none) : BltAt S ("list" : Str) (.type "list") := ⟨g, m, rfl, by decide, rfl⟩
theorem blt_dict (g : S.sc.names.lookup ("dict" : Str) = some .globalImplicit) (m : S.mg ("dict" : Str) = none) : BltAt S ("dict" : Str) (.type "dict") := ⟨g, m, rfl, by decide, rfl⟩
theorem blt_range (g : S.sc.names.lookup ("range" : Str) = some .globalImplicit) (m : S.mg ("range" : Str) = none) : BltAt S ("range" : Str) (.type "range") := ⟨g, m, rfl, by decide, rfl⟩
theorem blt_bool (g : S.sc.names.lookup ("bool" : Str) = some .globalImplicit) (m : S.mg ("bool" : Str) = none) : BltAt S ("bool" : Str) (.type "bool") := ⟨g, m, rfl, by decide, rfl⟩
theorem blt_str (g : S.sc.names.lookup ("str" : Str) = some .globalImplicit) (m : S.mg ("str" : Str) = none) : BltAt S ("str" : Str) (.type "str") := ⟨g, m, rfl, by decide, rfl⟩
theorem blt_set (g : S.sc.names.lookup ("set" : Str) = some .globalImplicit) (m : S.mg ("set" : Str) = none) : BltAt S ("set" : Str) (.type "set") := ⟨g, m, rfl, by decide, rfl⟩
theorem blt_zip (g : S.sc.names.lookup ("zip" : Str) = some .globalImplicit) (m : S.mg ("zip" : Str) = none) : BltAt S ("zip" : Str) (.type "zip") := ⟨g, m, rfl, by decide, rfl⟩
theorem blt_enumerate (g : S.sc.names.lookup ("enumerate" : Str) = some .globalImplicit) (m : S.mg ("enumerate" : Str) = none) : BltAt S ("enumerate" : Str) (.type "enumerate") := ⟨g, m, rfl, by decide, rfl⟩
theorem blt_reversed (g : S.sc.names.lookup ("reversed" : Str) = some .globalImplicit) (m : S.mg ("reversed" : Str) = none) : BltAt S ("reversed" : Str) (.type "reversed") := ⟨g, m, rfl, by decide, rfl⟩
end

/-! ### calls, by the number of arguments -/
def mf_v (m : D → M D) : List Ct → M D
  | [.val a] => m a
  | _ => M.fail
def mf_vv (m : D → D → M D) : List Ct → M D
  | [.val a, .val b] => m a b
  | _ => M.fail
def mf_vvv (m : D → D → D → M D) : List Ct → M D
  | [.val a, .val b, .val c] => m a b c
  | _ => M.fail
def mf_vvvv (m : D → D → D → D → M D) : List Ct → M D
  | [.val a, .val b, .val c, .val d] => m a b c d
  | _ => M.fail
def mf_vvvvv (m : D → D → D → D → D → M D) : List Ct → M D
  | [.val a, .val b, .val c, .val d, .val e] => m a b c d e
  | _ => M.fail
def mf_vvvvvv (m : D → D → D → D → D → D → M D) : List Ct → M D
  | [.val a, .val b, .val c, .val d, .val e, .val f] => m a b c d e f
  | _ => M.fail
def mf_w (m : M D) : List Ct → M D
  | [.drw] => m 
  | _ => M.fail
def mf_wv (m : D → M D) : List Ct → M D
  | [.drw, .val b] => m b
  | _ => M.fail
def mf_wvv (m : D → D → M D) : List Ct → M D
  | [.drw, .val b, .val c] => m b c
  | _ => M.fail
def mf_wvvv (m : D → D → D → M D) : List Ct → M D
  | [.drw, .val b, .val c, .val d] => m b c d
  | _ => M.fail
def mf_wvvvv (m : D → D → D → D → M D) : List Ct → M D
  | [.drw, .val b, .val c, .val d, .val e] => m b c d e
  | _ => M.fail
def mf_wvvvvv (m : D → D → D → D → D → M D) : List Ct → M D
  | [.drw, .val b, .val c, .val d, .val e, .val f] => m b c d e f
  | _ => M.fail
def mf_sv (m : List Int → D → M D) : List Ct → M D
  | [.scr ns, .val b] => m ns b
  | _ => M.fail
section
variable {S : Sg} {Γ : En} {pos p p2 : Pos} {x : Str} {j : Nat}

theorem we_call_v {m : D → M D} {ea : Expr} {ma : M D} (F : FnD S.P S.w S.K S.mg S.base x j 1 (mf_v m)) (hg : S.sc.names.lookup x = some .globalImplicit) (hj : j ≤ S.k) (ha : WE S Γ ea ma) (hdb : (x == ("__debug__" : Str)) = false := by rfl) (s0 : ∀ env, starEach [ea] env = (false, eval (ea) env) :: starEach [] env := by intro _; rfl) (hpl : ∀ env, (backTo pos (starEach [] env)).any (·.1) = false := by intro _; rfl) :
    WE S Γ (.Call (.Name x p) [ea] [] pos) (ma.bind fun a => m a) := we_call F hg hj rfl (wc_val ha wc_nil s0) hdb s0 hpl
theorem we_call_vv {m : D → D → M D} {ea eb : Expr} {ma mb : M D} (F : FnD S.P S.w S.K S.mg S.base x j 2 (mf_vv m)) (hg : S.sc.names.lookup x = some .globalImplicit) (hj : j ≤ S.k) (ha : WE S Γ ea ma) (hb : WE S Γ eb mb) (hdb : (x == ("__debug__" : Str)) = false := by rfl) (s0 : ∀ env, starEach [ea, eb] env = (false, eval (ea) env) :: starEach [eb] env := by intro _; rfl) (s1 : ∀ env, starEach [eb] env = (false, eval (eb) env) :: starEach [] env := by intro _; rfl) (hpl : ∀ env, (backTo pos (starEach [eb] env)).any (·.1) = false := by intro _; rfl) :
    WE S Γ (.Call (.Name x p) [ea, eb] [] pos) (ma.bind fun a => mb.bind fun b => m a b) := we_call F hg hj rfl (wc_val ha (wc_val hb wc_nil s1) s0) hdb s0 hpl
theorem we_call_vvv {m : D → D → D → M D} {ea eb ec : Expr} {ma mb mc : M D} (F : FnD S.P S.w S.K S.mg S.base x j 3 (mf_vvv m)) (hg : S.sc.names.lookup x = some .globalImplicit) (hj : j ≤ S.k) (ha : WE S Γ ea ma) (hb : WE S Γ eb mb) (hc : WE S Γ ec mc) (hdb : (x == ("__debug__" : Str)) = false := by rfl) (s0 : ∀ env, starEach [ea, eb, ec] env = (false, eval (ea) env) :: starEach [eb, ec] env := by intro _; rfl) (s1 : ∀ env, starEach [eb, ec] env = (false, eval (eb) env) :: starEach [ec] env := by intro _; rfl) (s2 : ∀ env, starEach [ec] env = (false, eval (ec) env) :: starEach [] env := by intro _; rfl) (hpl : ∀ env, (backTo pos (starEach [eb, ec] env)).any (·.1) = false := by intro _; rfl) :
    WE S Γ (.Call (.Name x p) [ea, eb, ec] [] pos) (ma.bind fun a => mb.bind fun b => mc.bind fun c => m a b c) := we_call F hg hj rfl (wc_val ha (wc_val hb (wc_val hc wc_nil s2) s1) s0) hdb s0 hpl
theorem we_call_vvvv {m : D → D → D → D → M D} {ea eb ec ed : Expr} {ma mb mc md : M D} (F : FnD S.P S.w S.K S.mg S.base x j 4 (mf_vvvv m)) (hg : S.sc.names.lookup x = some .globalImplicit) (hj : j ≤ S.k) (ha : WE S Γ ea ma) (hb : WE S Γ eb mb) (hc : WE S Γ ec mc) (hd : WE S Γ ed md) (hdb : (x == ("__debug__" : Str)) = false := by rfl) (s0 : ∀ env, starEach [ea, eb, ec, ed] env = (false, eval (ea) env) :: starEach [eb, ec, ed] env := by intro _; rfl) (s1 : ∀ env, starEach [eb, ec, ed] env = (false, eval (eb) env) :: starEach [ec, ed] env := by intro _; rfl) (s2 : ∀ env, starEach [ec, ed] env = (false, eval (ec) env) :: starEach [ed] env := by intro _; rfl) (s3 : ∀ env, starEach [ed] env = (false, eval (ed) env) :: starEach [] env := by intro _; rfl) (hpl : ∀ env, (backTo pos (starEach [eb, ec, ed] env)).any (·.1) = false := by intro _; rfl) :
    WE S Γ (.Call (.Name x p) [ea, eb, ec, ed] [] pos) (ma.bind fun a => mb.bind fun b => mc.bind fun c => md.bind fun d => m a b c d) := we_call F hg hj rfl (wc_val ha (wc_val hb (wc_val hc (wc_val hd wc_nil s3) s2) s1) s0) hdb s0 hpl
theorem we_call_vvvvv {m : D → D → D → D → D → M D} {ea eb ec ed ee : Expr} {ma mb mc md me : M D} (F : FnD S.P S.w S.K S.mg S.base x j 5 (mf_vvvvv m)) (hg : S.sc.names.lookup x = some .globalImplicit) (hj : j ≤ S.k) (ha : WE S Γ ea ma) (hb : WE S Γ eb mb) (hc : WE S Γ ec mc) (hd : WE S Γ ed md) (he : WE S Γ ee me) (hdb : (x == ("__debug__" : Str)) = false := by rfl) (s0 : ∀ env, starEach [ea, eb, ec, ed, ee] env = (false, eval (ea) env) :: starEach [eb, ec, ed, ee] env := by intro _; rfl) (s1 : ∀ env, starEach [eb, ec, ed, ee] env = (false, eval (eb) env) :: starEach [ec, ed, ee] env := by intro _; rfl) (s2 : ∀ env, starEach [ec, ed, ee] env = (false, eval (ec) env) :: starEach [ed, ee] env := by intro _; rfl) (s3 : ∀ env, starEach [ed, ee] env = (false, eval (ed) env) :: starEach [ee] env := by intro _; rfl) (s4 : ∀ env, starEach [ee] env = (false, eval (ee) env) :: starEach [] env := by intro _; rfl) (hpl : ∀ env, (backTo pos (starEach [eb, ec, ed, ee] env)).any (·.1) = false := by intro _; rfl) :
    WE S Γ (.Call (.Name x p) [ea, eb, ec, ed, ee] [] pos) (ma.bind fun a => mb.bind fun b => mc.bind fun c => md.bind fun d => me.bind fun e => m a b c d e) := we_call F hg hj rfl (wc_val ha (wc_val hb (wc_val hc (wc_val hd (wc_val he wc_nil s4) s3) s2) s1) s0) hdb s0 hpl
theorem we_call_vvvvvv {m : D → D → D → D → D → D → M D} {ea eb ec ed ee ef : Expr} {ma mb mc md me mf : M D} (F : FnD S.P S.w S.K S.mg S.base x j 6 (mf_vvvvvv m)) (hg : S.sc.names.lookup x = some .globalImplicit) (hj : j ≤ S.k) (ha : WE S Γ ea ma) (hb : WE S Γ eb mb) (hc : WE S Γ ec mc) (hd : WE S Γ ed md) (he : WE S Γ ee me) (hf : WE S Γ ef mf) (hdb : (x == ("__debug__" : Str)) = false := by rfl) (s0 : ∀ env, starEach [ea, eb, ec, ed, ee, ef] env = (false, eval (ea) env) :: starEach [eb, ec, ed, ee, ef] env := by intro _; rfl) (s1 : ∀ env, starEach [eb, ec, ed, ee, ef] env = (false, eval (eb) env) :: starEach [ec, ed, ee, ef] env := by intro _; rfl) (s2 : ∀ env, starEach [ec, ed, ee, ef] env = (false, eval (ec) env) :: starEach [ed, ee, ef] env := by intro _; rfl) (s3 : ∀ env, starEach [ed, ee, ef] env = (false, eval (ed) env) :: starEach [ee, ef] env := by intro _; rfl) (s4 : ∀ env, starEach [ee, ef] env = (false, eval (ee) env) :: starEach [ef] env := by intro _; rfl) (s5 : ∀ env, starEach [ef] env = (false, eval (ef) env) :: starEach [] env := by intro _; rfl) (hpl : ∀ env, (backTo pos (starEach [eb, ec, ed, ee, ef] env)).any (·.1) = false := by intro _; rfl) :
    WE S Γ (.Call (.Name x p) [ea, eb, ec, ed, ee, ef] [] pos) (ma.bind fun a => mb.bind fun b => mc.bind fun c => md.bind fun d => me.bind fun e => mf.bind fun f => m a b c d e f) := we_call F hg hj rfl (wc_val ha (wc_val hb (wc_val hc (wc_val hd (wc_val he (wc_val hf wc_nil s5) s4) s3) s2) s1) s0) hdb s0 hpl
theorem we_call_w {m : M D} {wi : Nat} {wx : Str} (F : FnD S.P S.w S.K S.mg S.base x j 1 (mf_w m)) (hg : S.sc.names.lookup x = some .globalImplicit) (hj : j ≤ S.k) (hw : VarAt S wi wx) (hwi : Γ[wi]? = some (some .drw)) (hdb : (x == ("__debug__" : Str)) = false := by rfl) (s0 : ∀ env, starEach [.Name wx p2] env = (false, eval (.Name wx p2) env) :: starEach [] env := by intro _; rfl) (hpl : ∀ env, (backTo pos (starEach [] env)).any (·.1) = false := by intro _; rfl) :
    WE S Γ (.Call (.Name x p) [.Name wx p2] [] pos) (m) := we_call F hg hj rfl (wc_drw hw hwi wc_nil s0) hdb s0 hpl
theorem we_call_wv {m : D → M D} {eb : Expr} {mb : M D} {wi : Nat} {wx : Str} (F : FnD S.P S.w S.K S.mg S.base x j 2 (mf_wv m)) (hg : S.sc.names.lookup x = some .globalImplicit) (hj : j ≤ S.k) (hw : VarAt S wi wx) (hwi : Γ[wi]? = some (some .drw)) (hb : WE S Γ eb mb) (hdb : (x == ("__debug__" : Str)) = false := by rfl) (s0 : ∀ env, starEach [.Name wx p2, eb] env = (false, eval (.Name wx p2) env) :: starEach [eb] env := by intro _; rfl) (s1 : ∀ env, starEach [eb] env = (false, eval (eb) env) :: starEach [] env := by intro _; rfl) (hpl : ∀ env, (backTo pos (starEach [eb] env)).any (·.1) = false := by intro _; rfl) :
    WE S Γ (.Call (.Name x p) [.Name wx p2, eb] [] pos) (mb.bind fun b => m b) := we_call F hg hj rfl (wc_drw hw hwi (wc_val hb wc_nil s1) s0) hdb s0 hpl
theorem we_call_wvv {m : D → D → M D} {eb ec : Expr} {mb mc : M D} {wi : Nat} {wx : Str} (F : FnD S.P S.w S.K S.mg S.base x j 3 (mf_wvv m)) (hg : S.sc.names.lookup x = some .globalImplicit) (hj : j ≤ S.k) (hw : VarAt S wi wx) (hwi : Γ[wi]? = some (some .drw)) (hb : WE S Γ eb mb) (hc : WE S Γ ec mc) (hdb : (x == ("__debug__" : Str)) = false := by rfl) (s0 : ∀ env, starEach [.Name wx p2, eb, ec] env = (false, eval (.Name wx p2) env) :: starEach [eb, ec] env := by intro _; rfl) (s1 : ∀ env, starEach [eb, ec] env = (false, eval (eb) env) :: starEach [ec] env := by intro _; rfl) (s2 : ∀ env, starEach [ec] env = (false, eval (ec) env) :: starEach [] env := by intro _; rfl) (hpl : ∀ env, (backTo pos (starEach [eb, ec] env)).any (·.1) = false := by intro _; rfl) :
    WE S Γ (.Call (.Name x p) [.Name wx p2, eb, ec] [] pos) (mb.bind fun b => mc.bind fun c => m b c) := we_call F hg hj rfl (wc_drw hw hwi (wc_val hb (wc_val hc wc_nil s2) s1) s0) hdb s0 hpl
theorem we_call_wvvv {m : D → D → D → M D} {eb ec ed : Expr} {mb mc md : M D} {wi : Nat} {wx : Str} (F : FnD S.P S.w S.K S.mg S.base x j 4 (mf_wvvv m)) (hg : S.sc.names.lookup x = some .globalImplicit) (hj : j ≤ S.k) (hw : VarAt S wi wx) (hwi : Γ[wi]? = some (some .drw)) (hb : WE S Γ eb mb) (hc : WE S Γ ec mc) (hd : WE S Γ ed md) (hdb : (x == ("__debug__" : Str)) = false := by rfl) (s0 : ∀ env, starEach [.Name wx p2, eb, ec, ed] env = (false, eval (.Name wx p2) env) :: starEach [eb, ec, ed] env := by intro _; rfl) (s1 : ∀ env, starEach [eb, ec, ed] env = (false, eval (eb) env) :: starEach [ec, ed] env := by intro _; rfl) (s2 : ∀ env, starEach [ec, ed] env = (false, eval (ec) env) :: starEach [ed] env := by intro _; rfl) (s3 : ∀ env, starEach [ed] env = (false, eval (ed) env) :: starEach [] env := by intro _; rfl) (hpl : ∀ env, (backTo pos (starEach [eb, ec, ed] env)).any (·.1) = false := by intro _; rfl) :
    WE S Γ (.Call (.Name x p) [.Name wx p2, eb, ec, ed] [] pos) (mb.bind fun b => mc.bind fun c => md.bind fun d => m b c d) := we_call F hg hj rfl (wc_drw hw hwi (wc_val hb (wc_val hc (wc_val hd wc_nil s3) s2) s1) s0) hdb s0 hpl
theorem we_call_wvvvv {m : D → D → D → D → M D} {eb ec ed ee : Expr} {mb mc md me : M D} {wi : Nat} {wx : Str} (F : FnD S.P S.w S.K S.mg S.base x j 5 (mf_wvvvv m)) (hg : S.sc.names.lookup x = some .globalImplicit) (hj : j ≤ S.k) (hw : VarAt S wi wx) (hwi : Γ[wi]? = some (some .drw)) (hb : WE S Γ eb mb) (hc : WE S Γ ec mc) (hd : WE S Γ ed md) (he : WE S Γ ee me) (hdb : (x == ("__debug__" : Str)) = false := by rfl) (s0 : ∀ env, starEach [.Name wx p2, eb, ec, ed, ee] env = (false, eval (.Name wx p2) env) :: starEach [eb, ec, ed, ee] env := by intro _; rfl) (s1 : ∀ env, starEach [eb, ec, ed, ee] env = (false, eval (eb) env) :: starEach [ec, ed, ee] env := by intro _; rfl) (s2 : ∀ env, starEach [ec, ed, ee] env = (false, eval (ec) env) :: starEach [ed, ee] env := by intro _; rfl) (s3 : ∀ env, starEach [ed, ee] env = (false, eval (ed) env) :: starEach [ee] env := by intro _; rfl) (s4 : ∀ env, starEach [ee] env = (false, eval (ee) env) :: starEach [] env := by intro _; rfl) (hpl : ∀ env, (backTo pos (starEach [eb, ec, ed, ee] env)).any (·.1) = false := by intro _; rfl) :
    WE S Γ (.Call (.Name x p) [.Name wx p2, eb, ec, ed, ee] [] pos) (mb.bind fun b => mc.bind fun c => md.bind fun d => me.bind fun e => m b c d e) := we_call F hg hj rfl (wc_drw hw hwi (wc_val hb (wc_val hc (wc_val hd (wc_val he wc_nil s4) s3) s2) s1) s0) hdb s0 hpl
theorem we_call_wvvvvv {m : D → D → D → D → D → M D} {eb ec ed ee ef : Expr} {mb mc md me mf : M D} {wi : Nat} {wx : Str} (F : FnD S.P S.w S.K S.mg S.base x j 6 (mf_wvvvvv m)) (hg : S.sc.names.lookup x = some .globalImplicit) (hj : j ≤ S.k) (hw : VarAt S wi wx) (hwi : Γ[wi]? = some (some .drw)) (hb : WE S Γ eb mb) (hc : WE S Γ ec mc) (hd : WE S Γ ed md) (he : WE S Γ ee me) (hf : WE S Γ ef mf) (hdb : (x == ("__debug__" : Str)) = false := by rfl) (s0 : ∀ env, starEach [.Name wx p2, eb, ec, ed, ee, ef] env = (false, eval (.Name wx p2) env) :: starEach [eb, ec, ed, ee, ef] env := by intro _; rfl) (s1 : ∀ env, starEach [eb, ec, ed, ee, ef] env = (false, eval (eb) env) :: starEach [ec, ed, ee, ef] env := by intro _; rfl) (s2 : ∀ env, starEach [ec, ed, ee, ef] env = (false, eval (ec) env) :: starEach [ed, ee, ef] env := by intro _; rfl) (s3 : ∀ env, starEach [ed, ee, ef] env = (false, eval (ed) env) :: starEach [ee, ef] env := by intro _; rfl) (s4 : ∀ env, starEach [ee, ef] env = (false, eval (ee) env) :: starEach [ef] env := by intro _; rfl) (s5 : ∀ env, starEach [ef] env = (false, eval (ef) env) :: starEach [] env := by intro _; rfl) (hpl : ∀ env, (backTo pos (starEach [eb, ec, ed, ee, ef] env)).any (·.1) = false := by intro _; rfl) :
    WE S Γ (.Call (.Name x p) [.Name wx p2, eb, ec, ed, ee, ef] [] pos) (mb.bind fun b => mc.bind fun c => md.bind fun d => me.bind fun e => mf.bind fun f => m b c d e f) := we_call F hg hj rfl (wc_drw hw hwi (wc_val hb (wc_val hc (wc_val hd (wc_val he (wc_val hf wc_nil s5) s4) s3) s2) s1) s0) hdb s0 hpl
theorem we_call_sv {m : List Int → D → M D} {eb : Expr} {mb : M D} {wi : Nat} {wx : Str} {ns : List Int} (F : FnD S.P S.w S.K S.mg S.base x j 2 (mf_sv m)) (hg : S.sc.names.lookup x = some .globalImplicit) (hj : j ≤ S.k) (hw : VarAt S wi wx) (hwi : Γ[wi]? = some (some (.scr ns))) (hb : WE S Γ eb mb) (hdb : (x == ("__debug__" : Str)) = false := by rfl) (s0 : ∀ env, starEach [.Name wx p2, eb] env = (false, eval (.Name wx p2) env) :: starEach [eb] env := by intro _; rfl) (s1 : ∀ env, starEach [eb] env = (false, eval (eb) env) :: starEach [] env := by intro _; rfl) (hpl : ∀ env, (backTo pos (starEach [eb] env)).any (·.1) = false := by intro _; rfl) :
    WE S Γ (.Call (.Name x p) [.Name wx p2, eb] [] pos) (mb.bind fun b => m ns b) := we_call F hg hj rfl (wc_scr hw hwi (wc_val hb wc_nil s1) s0) hdb s0 hpl
end

/-! ### defs, by the number of arguments -/
section
variable {P : Program} {w : World} {K : PySem.W.Frag} {mg : Str → Option Value} {base : Heap} {x qual : Str} {st : Stmt} {f : Addr} {fd : FuncData} {N ps : List Str} {k : Nat}
/-- a def of the text as it stands behind the top -/
def Has (K : PySem.W.Frag) (mg : Str → Option Value) (x : Str) (st : Stmt) : Prop := ∃ f fd, Fun K x x st f fd ∧ mg x = some (.ref f)
theorem fnd {n : Nat} {mf : List Ct → M D} (h : Has K mg x st) (Sc : FnScope N ps (defScope st)) (hn : ps.length = n) (hN : n ≤ N.length)
    (hbind : ∀ (kV doc pm : Value) (an : Option Addr) (cdv ct : Value) (us : List Value), us.length = ps.length → bindArgs (PySem.W.fnOf x x (defArgs st) (defBody st) (defScope st) .none kV doc pm an cdv ct) ⟨us, []⟩ = pure (ps.zip us))
    (hb : ∀ cs : List Ct, cs.length = n → W ⟨P, w, K, mg, base, N, defScope st, k, fun _ => true⟩ (cs.map some ++ List.replicate (N.length - n) none) (defBody st) (mf cs) Out.rt) : FnD P w K mg base x (k + 1) n mf := by
  obtain ⟨f, fd, F, hm⟩ := h
  exact ⟨⟨f, fd, ps, fn_ok F Sc hn hN hb, hm, F.kp, F.binds hbind⟩⟩
theorem wfail {S : Sg} {Γ : En} {sts : List Stmt} {ρ : Type} {ι : ρ → Out} {m : M ρ} (h : m = M.fail) : W S Γ sts m ι := by rw [h]; exact w_fail

theorem fnd_v {m : D → M D} (h : Has K mg x st) (Sc : FnScope N ps (defScope st)) (hn : ps.length = 1) (hN : 1 ≤ N.length)
    (hbind : ∀ (kV doc pm : Value) (an : Option Addr) (cdv ct : Value) (us : List Value), us.length = ps.length → bindArgs (PySem.W.fnOf x x (defArgs st) (defBody st) (defScope st) .none kV doc pm an cdv ct) ⟨us, []⟩ = pure (ps.zip us))
    (hb : ∀ a, W ⟨P, w, K, mg, base, N, defScope st, k, fun _ => true⟩ ([some (.val a)] ++ List.replicate (N.length - 1) none) (defBody st) (m a) Out.rt) : FnD P w K mg base x (k + 1) 1 (mf_v m) := by
  refine fnd h Sc hn hN hbind fun cs hl => ?_
  unfold mf_v
  split
  · exact hb _
  · exact w_fail
theorem fnd_vv {m : D → D → M D} (h : Has K mg x st) (Sc : FnScope N ps (defScope st)) (hn : ps.length = 2) (hN : 2 ≤ N.length)
    (hbind : ∀ (kV doc pm : Value) (an : Option Addr) (cdv ct : Value) (us : List Value), us.length = ps.length → bindArgs (PySem.W.fnOf x x (defArgs st) (defBody st) (defScope st) .none kV doc pm an cdv ct) ⟨us, []⟩ = pure (ps.zip us))
    (hb : ∀ a b, W ⟨P, w, K, mg, base, N, defScope st, k, fun _ => true⟩ ([some (.val a), some (.val b)] ++ List.replicate (N.length - 2) none) (defBody st) (m a b) Out.rt) : FnD P w K mg base x (k + 1) 2 (mf_vv m) := by
  refine fnd h Sc hn hN hbind fun cs hl => ?_
  unfold mf_vv
  split
  · exact hb _ _
  · exact w_fail
theorem fnd_vvv {m : D → D → D → M D} (h : Has K mg x st) (Sc : FnScope N ps (defScope st)) (hn : ps.length = 3) (hN : 3 ≤ N.length)
    (hbind : ∀ (kV doc pm : Value) (an : Option Addr) (cdv ct : Value) (us : List Value), us.length = ps.length → bindArgs (PySem.W.fnOf x x (defArgs st) (defBody st) (defScope st) .none kV doc pm an cdv ct) ⟨us, []⟩ = pure (ps.zip us))
    (hb : ∀ a b c, W ⟨P, w, K, mg, base, N, defScope st, k, fun _ => true⟩ ([some (.val a), some (.val b), some (.val c)] ++ List.replicate (N.length - 3) none) (defBody st) (m a b c) Out.rt) : FnD P w K mg base x (k + 1) 3 (mf_vvv m) := by
  refine fnd h Sc hn hN hbind fun cs hl => ?_
  unfold mf_vvv
  split
  · exact hb _ _ _
  · exact w_fail
theorem fnd_vvvv {m : D → D → D → D → M D} (h : Has K mg x st) (Sc : FnScope N ps (defScope st)) (hn : ps.length = 4) (hN : 4 ≤ N.length)
    (hbind : ∀ (kV doc pm : Value) (an : Option Addr) (cdv ct : Value) (us : List Value), us.length = ps.length → bindArgs (PySem.W.fnOf x x (defArgs st) (defBody st) (defScope st) .none kV doc pm an cdv ct) ⟨us, []⟩ = pure (ps.zip us))
    (hb : ∀ a b c d, W ⟨P, w, K, mg, base, N, defScope st, k, fun _ => true⟩ ([some (.val a), some (.val b), some (.val c), some (.val d)] ++ List.replicate (N.length - 4) none) (defBody st) (m a b c d) Out.rt) : FnD P w K mg base x (k + 1) 4 (mf_vvvv m) := by
  refine fnd h Sc hn hN hbind fun cs hl => ?_
  unfold mf_vvvv
  split
  · exact hb _ _ _ _
  · exact w_fail
theorem fnd_vvvvv {m : D → D → D → D → D → M D} (h : Has K mg x st) (Sc : FnScope N ps (defScope st)) (hn : ps.length = 5) (hN : 5 ≤ N.length)
    (hbind : ∀ (kV doc pm : Value) (an : Option Addr) (cdv ct : Value) (us : List Value), us.length = ps.length → bindArgs (PySem.W.fnOf x x (defArgs st) (defBody st) (defScope st) .none kV doc pm an cdv ct) ⟨us, []⟩ = pure (ps.zip us))
    (hb : ∀ a b c d e, W ⟨P, w, K, mg, base, N, defScope st, k, fun _ => true⟩ ([some (.val a), some (.val b), some (.val c), some (.val d), some (.val e)] ++ List.replicate (N.length - 5) none) (defBody st) (m a b c d e) Out.rt) : FnD P w K mg base x (k + 1) 5 (mf_vvvvv m) := by
  refine fnd h Sc hn hN hbind fun cs hl => ?_
  unfold mf_vvvvv
  split
  · exact hb _ _ _ _ _
  · exact w_fail
theorem fnd_vvvvvv {m : D → D → D → D → D → D → M D} (h : Has K mg x st) (Sc : FnScope N ps (defScope st)) (hn : ps.length = 6) (hN : 6 ≤ N.length)
    (hbind : ∀ (kV doc pm : Value) (an : Option Addr) (cdv ct : Value) (us : List Value), us.length = ps.length → bindArgs (PySem.W.fnOf x x (defArgs st) (defBody st) (defScope st) .none kV doc pm an cdv ct) ⟨us, []⟩ = pure (ps.zip us))
    (hb : ∀ a b c d e f, W ⟨P, w, K, mg, base, N, defScope st, k, fun _ => true⟩ ([some (.val a), some (.val b), some (.val c), some (.val d), some (.val e), some (.val f)] ++ List.replicate (N.length - 6) none) (defBody st) (m a b c d e f) Out.rt) : FnD P w K mg base x (k + 1) 6 (mf_vvvvvv m) := by
  refine fnd h Sc hn hN hbind fun cs hl => ?_
  unfold mf_vvvvvv
  split
  · exact hb _ _ _ _ _ _
  · exact w_fail
theorem fnd_w {m : M D} (h : Has K mg x st) (Sc : FnScope N ps (defScope st)) (hn : ps.length = 1) (hN : 1 ≤ N.length)
    (hbind : ∀ (kV doc pm : Value) (an : Option Addr) (cdv ct : Value) (us : List Value), us.length = ps.length → bindArgs (PySem.W.fnOf x x (defArgs st) (defBody st) (defScope st) .none kV doc pm an cdv ct) ⟨us, []⟩ = pure (ps.zip us))
    (hb : W ⟨P, w, K, mg, base, N, defScope st, k, fun _ => true⟩ ([some .drw] ++ List.replicate (N.length - 1) none) (defBody st) (m ) Out.rt) : FnD P w K mg base x (k + 1) 1 (mf_w m) := by
  refine fnd h Sc hn hN hbind fun cs hl => ?_
  unfold mf_w
  split
  · exact hb 
  · exact w_fail
theorem fnd_wv {m : D → M D} (h : Has K mg x st) (Sc : FnScope N ps (defScope st)) (hn : ps.length = 2) (hN : 2 ≤ N.length)
    (hbind : ∀ (kV doc pm : Value) (an : Option Addr) (cdv ct : Value) (us : List Value), us.length = ps.length → bindArgs (PySem.W.fnOf x x (defArgs st) (defBody st) (defScope st) .none kV doc pm an cdv ct) ⟨us, []⟩ = pure (ps.zip us))
    (hb : ∀ b, W ⟨P, w, K, mg, base, N, defScope st, k, fun _ => true⟩ ([some .drw, some (.val b)] ++ List.replicate (N.length - 2) none) (defBody st) (m b) Out.rt) : FnD P w K mg base x (k + 1) 2 (mf_wv m) := by
  refine fnd h Sc hn hN hbind fun cs hl => ?_
  unfold mf_wv
  split
  · exact hb _
  · exact w_fail
theorem fnd_wvv {m : D → D → M D} (h : Has K mg x st) (Sc : FnScope N ps (defScope st)) (hn : ps.length = 3) (hN : 3 ≤ N.length)
    (hbind : ∀ (kV doc pm : Value) (an : Option Addr) (cdv ct : Value) (us : List Value), us.length = ps.length → bindArgs (PySem.W.fnOf x x (defArgs st) (defBody st) (defScope st) .none kV doc pm an cdv ct) ⟨us, []⟩ = pure (ps.zip us))
    (hb : ∀ b c, W ⟨P, w, K, mg, base, N, defScope st, k, fun _ => true⟩ ([some .drw, some (.val b), some (.val c)] ++ List.replicate (N.length - 3) none) (defBody st) (m b c) Out.rt) : FnD P w K mg base x (k + 1) 3 (mf_wvv m) := by
  refine fnd h Sc hn hN hbind fun cs hl => ?_
  unfold mf_wvv
  split
  · exact hb _ _
  · exact w_fail
theorem fnd_wvvv {m : D → D → D → M D} (h : Has K mg x st) (Sc : FnScope N ps (defScope st)) (hn : ps.length = 4) (hN : 4 ≤ N.length)
    (hbind : ∀ (kV doc pm : Value) (an : Option Addr) (cdv ct : Value) (us : List Value), us.length = ps.length → bindArgs (PySem.W.fnOf x x (defArgs st) (defBody st) (defScope st) .none kV doc pm an cdv ct) ⟨us, []⟩ = pure (ps.zip us))
    (hb : ∀ b c d, W ⟨P, w, K, mg, base, N, defScope st, k, fun _ => true⟩ ([some .drw, some (.val b), some (.val c), some (.val d)] ++ List.replicate (N.length - 4) none) (defBody st) (m b c d) Out.rt) : FnD P w K mg base x (k + 1) 4 (mf_wvvv m) := by
  refine fnd h Sc hn hN hbind fun cs hl => ?_
  unfold mf_wvvv
  split
  · exact hb _ _ _
  · exact w_fail
theorem fnd_wvvvv {m : D → D → D → D → M D} (h : Has K mg x st) (Sc : FnScope N ps (defScope st)) (hn : ps.length = 5) (hN : 5 ≤ N.length)
    (hbind : ∀ (kV doc pm : Value) (an : Option Addr) (cdv ct : Value) (us : List Value), us.length = ps.length → bindArgs (PySem.W.fnOf x x (defArgs st) (defBody st) (defScope st) .none kV doc pm an cdv ct) ⟨us, []⟩ = pure (ps.zip us))
    (hb : ∀ b c d e, W ⟨P, w, K, mg, base, N, defScope st, k, fun _ => true⟩ ([some .drw, some (.val b), some (.val c), some (.val d), some (.val e)] ++ List.replicate (N.length - 5) none) (defBody st) (m b c d e) Out.rt) : FnD P w K mg base x (k + 1) 5 (mf_wvvvv m) := by
  refine fnd h Sc hn hN hbind fun cs hl => ?_
  unfold mf_wvvvv
  split
  · exact hb _ _ _ _
  · exact w_fail
theorem fnd_wvvvvv {m : D → D → D → D → D → M D} (h : Has K mg x st) (Sc : FnScope N ps (defScope st)) (hn : ps.length = 6) (hN : 6 ≤ N.length)
    (hbind : ∀ (kV doc pm : Value) (an : Option Addr) (cdv ct : Value) (us : List Value), us.length = ps.length → bindArgs (PySem.W.fnOf x x (defArgs st) (defBody st) (defScope st) .none kV doc pm an cdv ct) ⟨us, []⟩ = pure (ps.zip us))
    (hb : ∀ b c d e f, W ⟨P, w, K, mg, base, N, defScope st, k, fun _ => true⟩ ([some .drw, some (.val b), some (.val c), some (.val d), some (.val e), some (.val f)] ++ List.replicate (N.length - 6) none) (defBody st) (m b c d e f) Out.rt) : FnD P w K mg base x (k + 1) 6 (mf_wvvvvv m) := by
  refine fnd h Sc hn hN hbind fun cs hl => ?_
  unfold mf_wvvvvv
  split
  · exact hb _ _ _ _ _
  · exact w_fail
theorem fnd_sv {m : List Int → D → M D} (h : Has K mg x st) (Sc : FnScope N ps (defScope st)) (hn : ps.length = 2) (hN : 2 ≤ N.length)
    (hbind : ∀ (kV doc pm : Value) (an : Option Addr) (cdv ct : Value) (us : List Value), us.length = ps.length → bindArgs (PySem.W.fnOf x x (defArgs st) (defBody st) (defScope st) .none kV doc pm an cdv ct) ⟨us, []⟩ = pure (ps.zip us))
    (hb : ∀ ns b, W ⟨P, w, K, mg, base, N, defScope st, k, fun _ => true⟩ ([some (.scr ns), some (.val b)] ++ List.replicate (N.length - 2) none) (defBody st) (m ns b) Out.rt) : FnD P w K mg base x (k + 1) 2 (mf_sv m) := by
  refine fnd h Sc hn hN hbind fun cs hl => ?_
  unfold mf_sv
  split
  · exact hb _ _
  · exact w_fail
end

/-! ### an if whose ways leave or go on -/
section
variable {ρ : Type} {S : Sg} {Γ : En} {c tg e : Expr} {tc : M Bool} {m : M D} {pos : Pos} {rest A B : List Stmt} {ι : ρ → Out} {ow : Bool}
def flO2 {α β : Type} (g : α → En) (gs : β → En) : Fl α β → Out
  | .nx s => .nx (g s)
  | .rt d => .rt d
  | .bk s => .bk (gs s)
  | .ct s => .ct (gs s)
def Fl.goB {α β ρ : Type} (k : α → M ρ) (kr : D → ρ) (kb kc : β → ρ) : Fl α β → M ρ
  | .nx s => k s
  | .rt d => M.pure (kr d)
  | .bk s => M.pure (kb s)
  | .ct s => M.pure (kc s)
theorem w_ifG {α β : Type} {m1 m2 : M (Fl α β)} {k : α → M ρ} {kr : D → ρ} {kb kc : β → ρ} (g : α → En) (gs : β → En) (hc : WT S Γ c tc) (ha : W S Γ A m1 (flO2 g gs)) (hb : W S Γ B m2 (flO2 g gs)) (hr : ∀ x, W S (g x) rest (k x) ι)
    (h1 : ∀ d, ι (kr d) = .rt d) (h2 : ∀ s, ι (kb s) = .bk (gs s)) (h3 : ∀ s, ι (kc s) = .ct (gs s)) :
    W S Γ (.If c A B pos :: rest) ((tc.bind fun b => bif b then m1 else m2).bind (Fl.goB k kr kb kc)) ι := by
  have go : ∀ r : Fl α β, Goes S rest ι (Fl.goB k kr kb kc r) (flO2 g gs r) := fun r => by
    cases r with
    | nx s => exact hr s
    | rt d => exact ⟨kr d, rfl, h1 d⟩
    | bk s => exact ⟨kb s, rfl, h2 s⟩
    | ct s => exact ⟨kc s, rfl, h3 s⟩
  intro ω G0 H0 σ G H P Dn E hm q
  refine w_if (mA := m1) (mB := m2) (kA := Fl.goB k kr kb kc) (kB := Fl.goB k kr kb kc) hc ha hb go go ω G0 H0 σ G H P Dn E ?_ q
  have hm' : tc (fun b => (bif b then m1 else m2) fun x => Fl.goB k kr kb kc x P) := hm
  have : (fun b => (bif b then m1 else m2) fun x => Fl.goB k kr kb kc x P) = fun b => (bif b then m1.bind (Fl.goB k kr kb kc) else m2.bind (Fl.goB k kr kb kc)) P := by funext b; cases b <;> rfl
  rw [this] at hm'
  exact hm'
/-! ### lookups -/
def Nm (x : Str) : Prop := (x == ("__debug__" : Str)) = false ∧ (x == ("__classdict__" : Str)) = false
theorem vaL {i : Nat} {x : Str} (n : S.N[i]? = some x) (l : S.sc.names.lookup x = some .local) (m : Nm x) : VarAt S i x := ⟨n, .inl l, m.1, m.2⟩
theorem vaC {i : Nat} {x : Str} (n : S.N[i]? = some x) (l : S.sc.names.lookup x = some .cell) (m : Nm x) : VarAt S i x := ⟨n, .inr (.inl l), m.1, m.2⟩
theorem saL {i : Nat} {x : Str} (n : S.N[i]? = some x) (l : S.sc.names.lookup x = some .local) : SetAt S i x := ⟨n, .inl l, .inr l⟩
theorem saC {i : Nat} {x : Str} (n : S.N[i]? = some x) (l : S.sc.names.lookup x = some .cell) (f : S.fn x = true) : SetAt S i x := ⟨n, .inr l, .inl f⟩
theorem look_map {f : Str → NameKind → NameKind} (x : Str) : ∀ (ns : List (Str × NameKind)), (ns.map fun (n, k) => (n, f n k)).lookup x = (ns.lookup x).map (f x)
  | [] => rfl
  | (n, k) :: ns => by
    simp only [List.map_cons, List.lookup_cons]
    by_cases h : (x == n) = true
    · have e : x = n := by simpa using h
      subst e; simp
    · simp only [h, look_map x ns]
theorem rel_look {scope sc : Scope} {x : Str} : (relS scope sc).names.lookup x = (scope.names.lookup x).map fun k => if (k == .free && sc.kind == .function && sc.names.lookup x == some .cell) then .cell else k := by
  rw [← look_map (f := fun n k => if (k == .free && sc.kind == .function && sc.names.lookup n == some .cell) then .cell else k)]
  show List.lookup x (scope.names.map _) = _
  congr 1
  refine List.map_congr_left fun ⟨n, k⟩ _ => ?_
  show (if _ then _ else _) = _
  split <;> simp_all
theorem rel_free {scope sc : Scope} {x : Str} (l : scope.names.lookup x = some .free) (k : sc.kind = .function) (c : sc.names.lookup x = some .cell) : (relS scope sc).names.lookup x = some .cell := by
  rw [rel_look, l, k, c]; rfl
theorem rel_loc {scope sc : Scope} {x : Str} (l : scope.names.lookup x = some .local) : (relS scope sc).names.lookup x = some .local := by rw [rel_look, l]; rfl
theorem rel_cell {scope sc : Scope} {x : Str} (l : scope.names.lookup x = some .cell) : (relS scope sc).names.lookup x = some .cell := by rw [rel_look, l]; rfl
theorem rel_glob {scope sc : Scope} {x : Str} (l : scope.names.lookup x = some .globalImplicit) : (relS scope sc).names.lookup x = some .globalImplicit := by rw [rel_look, l]; rfl
theorem w_nf {ρ : Type} {S : Sg} {Γ Γ' : En} {sts : List Stmt} {m : M ρ} {ι : ρ → Out} (h : Γ = Γ') (k : W S Γ' sts m ι) : W S Γ sts m ι := h ▸ k
theorem we_nf {S : Sg} {Γ Γ' : En} {e : Expr} {m : M D} (h : Γ = Γ') (k : WE S Γ' e m) : WE S Γ e m := h ▸ k
theorem wt_nf {S : Sg} {Γ Γ' : En} {e : Expr} {m : M Bool} (h : Γ = Γ') (k : WT S Γ' e m) : WT S Γ e m := h ▸ k
/-! ### a module's constants -/
def GlC (K : PySem.W.Frag) (mg : Str → Option Value) (x : Str) (d : D) : Prop := ∃ u v, mg x = some u ∧ RelV v u ∧ ∀ G, Rp K G v d
theorem we_glc {Γ : En} {x : Str} {d : D} {pos : Pos} (h : GlC S.K S.mg x d) (g : S.sc.names.lookup x = some .globalImplicit) (hd : (x == ("__debug__" : Str)) = false := by rfl) : WE S Γ (.Name x pos) (M.pure d) := by
  obtain ⟨u, v, h1, h2, h3⟩ := h
  exact we_glob ⟨g, h1, hd⟩ h2 h3
/-! ### lists and tuples walked alike -/
def asS : D → M (List D)
  | .list ds => M.pure ds
  | .tuple ds => M.pure ds
  | _ => M.fail
theorem pi_seqA {X : Cx} {l : Expr} {tl : TE} (hl : PE X l tl) : PI X tg l (fun σ H R => tl σ H fun x H1 => (∃ a, x = .ref a ∧ (∃ xs, SqL X.K H1 a xs) ∧ R (Itl X.K a) H1) ∨ ∃ a, x = .ref a ∧ (∃ xs, SqT X.K H1 a xs) ∧ R (Itt X.K a) H1) := by
  refine ⟨fun pins s σ H R I h => ?_⟩
  refine thn (hl.run pins s σ H _ I h) fun v s1 ⟨x, H1, I1, r1, q1⟩ => ?_
  rcases q1 with ⟨a, e, ⟨xs, hq⟩, q⟩ | ⟨a, e, ⟨xs, hq⟩, q⟩
  · subst e
    cases r1
    obtain ⟨its, rv, p, hz⟩ := I1.list hq
    refine wpAny_pyIter_list p.isList ?_
    refine ⟨s1.heap.objs.size, [s1.heap.objs.size], _, _, H1, rfl, I1.kept (t' := s1.toks) fun b o e => Heap.get?_push_of_some _ e, turn_list a _, ⟨_, Heap.get?_push_size _ rfl, rfl, rfl⟩, fun b hb => ?_, q⟩
    have e : b = s1.heap.objs.size := by simpa using hb
    subst e
    exact I1.fpOk (Nat.le_refl _) (I1.hok.fresh (Nat.le_refl _))
  · subst e
    cases r1
    obtain ⟨its, rv, p, hz⟩ := I1.tuple hq
    refine wpAny_pyIter_tuple (show s1.heap.IsTuple a its.toArray from p) ?_
    refine ⟨s1.heap.objs.size, [s1.heap.objs.size], _, _, H1, rfl, I1.kept (t' := s1.toks) fun b o e => Heap.get?_push_of_some _ e, turn_tuple a _, ⟨_, Heap.get?_push_size _ rfl, rfl, rfl⟩, fun b hb => ?_, q⟩
    have e : b = s1.heap.objs.size := by simpa using hb
    subst e
    exact I1.fpOk (Nat.le_refl _) (I1.hok.fresh (Nat.le_refl _))
theorem wi_seq (he : WE S Γ e m) : WI S Γ ow tg e (m.bind fun x => asS x) := by
  intro ω G0 H0 σ G H P R E hm q
  refine ⟨_, fun X hX => hX.K ▸ pi_seqA (RE.pe hX e), he ω G0 H0 σ G H _ _ E hm fun d v G' H' hP e1 r => ?_⟩
  cases r with
  | lst s r z => exact .inl ⟨_, rfl, ⟨_, .inl (e1.le _ _ s)⟩, q _ _ G' H' hP e1 (it_list r z fun Gc Hc h1 h2 _ => sq_frz (.inl s) h1 h2)⟩
  | tup s r z => exact .inr ⟨_, rfl, ⟨_, e1.le.sqT s⟩, q _ _ G' H' hP e1 (it_tup r z fun Gc Hc h1 h2 _ => sqt_frz s h1 h2)⟩
  | _ => exact False.elim hP
theorem wi_seqO (he : WB S Γ e m) : WI S Γ true tg e (m.bind fun x => asS x) := by
  intro ω G0 H0 σ G H P R E hm q
  refine ⟨_, fun X hX => hX.K ▸ pi_seqA (RE.pe hX e), he ω G0 H0 σ G H _ _ E hm fun d v G' H' hP e1 r => ?_⟩
  rcases r with r | ⟨o, u, h1, h2, h3, h4⟩
  · cases r with
    | lst s r z => exact .inl ⟨_, rfl, ⟨_, .inl (e1.le _ _ s)⟩, q _ _ G' H' hP e1 (it_list r z fun Gc Hc h1 h2 _ => sq_frz (.inl s) h1 h2)⟩
    | tup s r z => exact .inr ⟨_, rfl, ⟨_, e1.le.sqT s⟩, q _ _ G' H' hP e1 (it_tup r z fun Gc Hc h1 h2 _ => sqt_frz s h1 h2)⟩
    | _ => exact False.elim hP
  · cases h4 with
    | lst a z => exact .inl ⟨o, h1, ⟨_, .inl (.inl h3)⟩, q _ _ G' H' hP e1 (it_list a z fun Gc Hc g1 g2 g3 => .inl (.inl (g3 o _ ⟨rfl, h2⟩ h3)))⟩
    | _ => exact False.elim hP
end
end Wp
namespace Wp
open PySem PySem.Spec PyProof.Rows L2

/-! ### a draw -/
/-- what a draw gives is any of the many -/
def m__law_next (many : D) : M D := match many with
  | .int n => M.draw n
  | _ => M.fail
theorem getD_ints {K : PySem.W.Frag} {G : Hp} {vs : List V} {ds : List Int} (r : RpA K G vs (ds.map .int)) {i : Nat} (h : i < ds.length) : vs[i]? = some (.int ds[i]) := by
  rw [r.ints, List.getElem?_map, List.getElem?_eq_getElem h]; rfl
theorem next_fn {P : Program} {w : World} {K : PySem.W.Frag} {mg : Str → Option Value} {base : Heap} {st : Stmt} {p1 p2 p3 p4 p5 p6 p7 p8 p9 p10 p11 p12 p13 p14 p15 p16 p17 p18 p19 p20 p21 p22 p23 p24 p25 p26 p27 p28 pm1 pm2 pm3 : Pos} {k1 k2 k3 k4 k5 k6 k7 k8 : Nat}
    (h : Has K mg "_law_next" st) (Sc : FnScope ["w", "many"] ["w", "many"] (defScope st))
    (hbind : ∀ (kV doc pm : Value) (an : Option Addr) (cdv ct : Value) (us : List Value), us.length = 2 → bindArgs (PySem.W.fnOf "_law_next" "_law_next" (defArgs st) (defBody st) (defScope st) .none kV doc pm an cdv ct) ⟨us, []⟩ = pure ((["w", "many"] : List Str).zip us))
    (ml : mg "len" = none) (mi : mg "int" = none) (lw : (defScope st).names.lookup ("w" : Str) = some .local) (lm : (defScope st).names.lookup ("many" : Str) = some .local) (gl : (defScope st).names.lookup ("len" : Str) = some .globalImplicit) (gi : (defScope st).names.lookup ("int" : Str) = some .globalImplicit)
    (hb : defBody st = [.AugAssign (.Subscript (.Name "w" p1) (.Constant (.str "at") k1 p2) p3) .Add (.Constant (.int 1) k2 p4) p5,
      .If (.Compare (.Subscript (.Name "w" p6) (.Constant (.str "at") k3 p7) p8) [.Gt] [.Call (.Name "len" p9) [.Subscript (.Name "w" p10) (.Constant (.str "draws") k4 p11) p12] [] p13] p14) [.Return (some (.Constant (.int 0) k5 p15)) p16] [] p17,
      .Return (some (.BinOp (.Call (.Name "int" p18) [.Subscript (.Subscript (.Name "w" p19) (.Constant (.str "draws") k6 p20) p21) (.BinOp (.Subscript (.Name "w" p22) (.Constant (.str "at") k7 p23) p24) .Sub (.Constant (.int 1) k8 p25) p26) p27] [] p28) .Mod (.Name "many" pm1) pm2)) pm3]) :
    FnD P w K mg base "_law_next" 1 2 (mf_wv m__law_next) := by
  obtain ⟨f, fd, F, hm⟩ := h
  refine ⟨⟨f, fd, ["w", "many"], F.ok (k := 0) Sc (fun vs H Q E h => h.1) (fun cdv A outer s H vs Q E hr h => ?_), hm, F.kp, F.binds hbind⟩⟩
  obtain ⟨hl, ω, cs, G, P', hm', ha, hx, q⟩ := h
  rw [hb]
  have hu := hu_of hr
  have Lw : Vis (defScope st) "w" := .inl lw
  have Lm : Vis (defScope st) "many" := .inl lm
  unfold mf_wv at hm'
  split at hm'
  case h_2 => exact hm'.elim
  rename_i many
  cases ha with
  | drw ho ha =>
    rename_i o _
    cases ha with
    | val rm ha =>
      cases ha
      subst ho
      rename_i vm
      cases many with
      | int n =>
        cases rm
        obtain ⟨n0, hP⟩ := hm'
        obtain ⟨hG, vd, ds, at_, hH, rd, h0⟩ := hx.dr o rfl
        have hmod : ∀ z, 0 ≤ Int.fmod z n ∧ Int.fmod z n < n := fun z => ⟨Int.fmod_nonneg_of_pos z n0, Int.fmod_lt_of_pos z n0⟩
        refine ⟨_, pss_cons (ps_daug hu (pe_var (i := 0) rfl Lw) pe_str pe_int iop_add (fun _ _ _ => rfl)) (pss_cons (ps_if (pt_cmpR op_gt (pe_dget hu (pe_var (i := 0) rfl Lw) pe_str fun _ _ => rfl) (pe_callB call_len_seq gl ml rfl (pa_cons (pe_dget hu (pe_var (i := 0) rfl Lw) pe_str fun _ _ => rfl) pa_nil)) rfl) (pss_one (ps_ret pe_int)) pss_nil)
          (pss_one (ps_ret (pe_op op_modN (pe_callTy call_int1 gi mi rfl (pa_cons (pe_ix ix_list (pe_dget hu (pe_var (i := 0) rfl Lw) pe_str fun _ _ => rfl) (pe_op op_sub (pe_dget hu (pe_var (i := 0) rfl Lw) pe_str fun _ _ => rfl) pe_int) fun _ _ => rfl) pa_nil)) (pe_var (i := 1) rfl Lm))))), ?_⟩
        have hz : (2 : Nat) < sizeLine := by rw [sizeLine_eq]; decide
        refine ⟨.ref o, rfl, o, .int at_, rfl, .inl ⟨_, .inr ("at" : Str), .inl hH, rfl, rfl⟩, at_, 1, rfl, rfl, upd H o (drwO vd (at_ + 1)), .inl ⟨_, .inr ("at" : Str), hH, rfl, hz, rfl⟩, ?_⟩
        have hH2 : upd H o (drwO vd (at_ + 1)) o = some (drwO vd (at_ + 1)) := upd_same
        generalize hHd : upd H o (drwO vd (at_ + 1)) = H2 at hH2 ⊢
        have ex : Ext (some o) K G H G H2 := by
          subst hHd
          refine ⟨Same.refl _, fun b u hb e => by rw [upd_ne (fun z => hb (by rw [z]))]; exact e, fun b u e => ?_, fun _ _ _ h => h, fun b e => ?_⟩
          · have hb : b ≠ o := fun z => by
              subst z
              rcases e with e | ⟨q, e⟩ <;> (rw [hG] at e; cases e)
            rcases hx.le b u e with r | ⟨q, r⟩
            · exact .inl (by rw [upd_ne hb]; exact r)
            · exact .inr ⟨q, by rw [upd_ne hb]; exact r⟩
          · cases e
            exact ⟨hG, vd, ds, at_ + 1, upd_same, rd, by omega⟩
        cases rd with
        | lst s1 ra za =>
          rename_i a xs
          have hlen : xs.length = ds.length := by rw [ra.length]; simp
          have s2 : SqL K H2 a xs := .inl (ex.le _ _ s1)
          have g1 : DGet H2 o (.str ("at" : Str)) (some (.int (at_ + 1))) := .inl ⟨_, .inr ("at" : Str), .inl hH2, rfl, rfl⟩
          have g2 : DGet H2 o (.str ("draws" : Str)) (some (.ref a)) := .inl ⟨_, .inr ("draws" : Str), .inl hH2, rfl, rfl⟩
          refine ⟨.ref o, rfl, o, _, rfl, g1, .ref o, rfl, o, _, rfl, g2, a, xs, rfl, .inl s2, _, _, rfl, rfl, _, rfl, ?_⟩
          by_cases hlt : (xs.length : Int) < at_ + 1
          · rw [decide_eq_true hlt]
            refine iteT ?_
            exact q (.int 0) _ G _ (hP 0 (Int.le_refl _) n0) ex (.int 0)
          · rw [decide_eq_false hlt]
            refine iteF ?_
            have hi : at_.toNat < ds.length := by omega
            have ei : atI xs (at_ + 1 - 1) = some (.int ds[at_.toNat]) := by
              rw [Int.add_sub_cancel]
              unfold atI ixN
              rw [if_pos h0, if_pos (by omega)]
              exact getD_ints ra hi
            refine ⟨.ref o, rfl, o, _, rfl, g2, .ref o, rfl, o, _, rfl, g1, at_ + 1, 1, rfl, rfl, a, xs, _, _, rfl, rfl, s2, ei, .inl ⟨_, rfl, .int n, rfl, ds[at_.toNat], n, rfl, rfl, by omega, ?_⟩⟩
            exact q (.int _) _ G _ (hP _ (hmod _).1 (hmod _).2) ex (.int _)
      | _ => exact hm'.elim
/-! ### the draws -/
def m__law_draws (ns : List Int) (many_ : D) : M D :=
  ((M.pure (.list [])).bind fun draws_1 => 
  ((M.pure (.int 7)).bind fun mixed_2 => 
  (((M.pure (.int (ns.length : Nat))).bind fun x3 => ((asI x3).bind fun i4 => rngD 0 i4)).bind fun l96 => (M.fold (fun (s5 : D × D) x95 => ((M.pure x95).bind fun a6 => 
    (((((M.pure a6).bind fun x8 => ((asI x8).bind fun i9 => ((M.opt (atI ns i9)).bind fun z10 => M.pure (.int z10)))).bind fun x11 => intD x11).bind fun x12 => absD x12).bind fun cell_7 => 
    (((((((M.pure s5.2).bind fun x14 => ((M.pure (.int 48271)).bind fun x15 => mulD x14 x15)).bind fun x18 => (((M.pure cell_7).bind fun x16 => ((M.pure (.int 1000003)).bind fun x17 => modD x16 x17)).bind fun x19 => addD x18 x19)).bind fun x20 => ((M.pure a6).bind fun x21 => addD x20 x21)).bind fun x22 => intD x22).bind fun x23 => ((M.pure (.int 65537)).bind fun x24 => modD x23 x24)).bind fun mixed_13 => 
    ((M.pure (.int 0)).bind fun rest_25 => 
    ((((M.pure cell_7).bind fun x28 => (((M.pure (.int 10)).bind fun x26 => ((M.pure (.int 18)).bind fun x27 => powD x26 x27)).bind fun x29 => ((geD x28 x29).bind fun z30 => asB z30))).bind fun b31 => bif b31 then 
      ((M.pure cell_7).bind fun rest_32 => 
      (M.pure (s5.1, rest_32))) else
      (M.need (isL s5.1 = true) ((((M.pure cell_7).bind fun x33 => intD x33).bind fun x34 => ((M.pure (.int 997)).bind fun x35 => modD x34 x35)).bind fun x36 => ((appD s5.1 x36).bind fun draws_37 => 
      (M.need (isL draws_37 = true) (((((((M.pure mixed_13).bind fun x38 => ((M.pure (.int 69621)).bind fun x39 => mulD x38 x39)).bind fun x40 => ((M.pure (.int 5)).bind fun x41 => addD x40 x41)).bind fun x42 => intD x42).bind fun x43 => ((M.pure (.int 65521)).bind fun x44 => modD x43 x44)).bind fun x45 => ((M.pure (.int 997)).bind fun x46 => modD x45 x46)).bind fun x47 => ((appD draws_37 x47).bind fun draws_48 => 
      (M.pure (draws_48, rest_25))))))))).bind fun (s49 : D × D) => 
    (((M.pure (.int 60)).bind fun x50 => ((asI x50).bind fun i51 => rngD 0 i51)).bind fun l68 => (M.fold (fun (s52 : D × D) x67 => ((M.pure x67).bind fun a53 => 
      ((((M.pure s52.2).bind fun x54 => ((M.pure (.int 0)).bind fun x55 => ((gtD x54 x55).bind fun z56 => asB z56))).bind fun b57 => bif b57 then 
        (M.need (isL s52.1 = true) ((((M.pure s52.2).bind fun x58 => intD x58).bind fun x59 => ((M.pure (.int 997)).bind fun x60 => modD x59 x60)).bind fun x61 => ((appD s52.1 x61).bind fun draws_62 => 
        (((M.pure s52.2).bind fun x64 => ((M.pure (.int 997)).bind fun x65 => fdivD x64 x65)).bind fun rest_63 => 
        (M.pure (draws_62, rest_63)))))) else
        (M.pure (s52.1, s52.2))).bind fun (s66 : D × D) => 
      (M.pure (s66.1, s66.2))))) (s49.1, s49.2) l68).bind fun (s52 : D × D) =>
    (M.pure (s52.1, mixed_13))))))))) (draws_1, mixed_2) l96).bind fun (s5 : D × D) =>
  (((M.pure many_).bind fun x69 => ((asI x69).bind fun i70 => rngD 0 i70)).bind fun l94 => (M.fold (fun (s71 : D × D) x93 => ((M.pure x93).bind fun a72 => 
    (((((((M.pure s71.2).bind fun x74 => ((M.pure (.int 16807)).bind fun x75 => mulD x74 x75)).bind fun x76 => ((M.pure a72).bind fun x77 => addD x76 x77)).bind fun x78 => ((M.pure (.int 1)).bind fun x79 => addD x78 x79)).bind fun x80 => intD x80).bind fun x81 => ((M.pure (.int 65537)).bind fun x82 => modD x81 x82)).bind fun mixed_73 => 
    (M.need (isL s71.1 = true) ((((M.pure mixed_73).bind fun x83 => intD x83).bind fun x84 => ((M.pure (.int 997)).bind fun x85 => modD x84 x85)).bind fun x86 => ((appD s71.1 x86).bind fun draws_87 => 
    (M.pure (draws_87, mixed_73)))))))) (s5.1, s5.2) l94).bind fun (s71 : D × D) =>
  ((M.pure s71.1).bind fun x88 => ((M.pure none).bind fun l91 => (((M.pure many_).bind fun x89 => ((asI x89).bind fun i90 => M.pure (some i90))).bind fun h92 => slD x88 l91 h92)))))))
/-! ### running -/
section
variable {α β σ : Type}
@[simp] theorem bind_run {m : M α} {k : α → M β} {P : β → Prop} : M.bind m k P = m (fun x => k x P) := propext Iff.rfl
@[simp] theorem pure_run {a : α} {P : α → Prop} : M.pure a P = P a := propext Iff.rfl
@[simp] theorem need_run {c : Prop} {m : M α} {P : α → Prop} : M.need c m P = (c ∧ m P) := propext Iff.rfl
@[simp] theorem fail_run {P : α → Prop} : M.fail P = False := propext Iff.rfl
@[simp] theorem opt_some {a : α} {P : α → Prop} : M.opt (some a) P = P a := by simp [M.opt]
theorem cond_run {b : Bool} {m n : M α} {P : α → Prop} : (cond b m n) P ↔ ((b = true → m P) ∧ (b = false → n P)) := by cases b <;> simp
@[simp] theorem asI_int {i : Int} {P} : asI (.int i) P = P i := propext Iff.rfl
@[simp] theorem asB_bool {i : Bool} {P} : asB (.bool i) P = P i := propext Iff.rfl
@[simp] theorem asS_list {ds : List D} {P} : asS (.list ds) P = P ds := propext Iff.rfl
@[simp] theorem asS_tup {ds : List D} {P} : asS (.tuple ds) P = P ds := propext Iff.rfl
@[simp] theorem addD_int {a b : Int} {P} : addD (.int a) (.int b) P = P (.int (a + b)) := propext Iff.rfl
@[simp] theorem iaddD_int {a b : Int} {P} : iaddD (.int a) (.int b) P = P (.int (a + b)) := propext Iff.rfl
@[simp] theorem subD_int {a b : Int} {P} : subD (.int a) (.int b) P = P (.int (a - b)) := propext Iff.rfl
@[simp] theorem mulD_int {a b : Int} {P} : mulD (.int a) (.int b) P = ((small a ∧ small b) ∧ P (.int (a * b))) := propext Iff.rfl
@[simp] theorem fdivD_int {a b : Int} {P} : fdivD (.int a) (.int b) P = (((0 < b ∧ small b) ∨ (b < 0 ∧ -1073741824 < b)) ∧ P (.int (a.fdiv b))) := propext Iff.rfl
@[simp] theorem modD_int {a b : Int} {P} : modD (.int a) (.int b) P = (b ≠ 0 ∧ P (.int (a.fmod b))) := propext Iff.rfl
@[simp] theorem powD_int {a b : Int} {P} : powD (.int a) (.int b) P = ((0 ≤ b ∧ b ≤ 1000 ∧ a.natAbs < 2 ^ 64) ∧ P (.int (a ^ b.toNat))) := propext Iff.rfl
@[simp] theorem negD_int {a : Int} {P} : negD (.int a) P = P (.int (-a)) := propext Iff.rfl
@[simp] theorem absD_int {a : Int} {P} : absD (.int a) P = P (.int (if a < 0 then -a else a)) := propext Iff.rfl
@[simp] theorem intD_int {a : Int} {P} : intD (.int a) P = P (.int a) := propext Iff.rfl
@[simp] theorem intD_bool {a : Bool} {P} : intD (.bool a) P = P (.int (if a then 1 else 0)) := propext Iff.rfl
@[simp] theorem max2D_int {a b : Int} {P} : max2D (.int a) (.int b) P = P (.int (max a b)) := propext Iff.rfl
@[simp] theorem min2D_int {a b : Int} {P} : min2D (.int a) (.int b) P = P (.int (min a b)) := propext Iff.rfl
@[simp] theorem ltD_int {a b : Int} {P} : ltD (.int a) (.int b) P = P (.bool (decide (a < b))) := propext Iff.rfl
@[simp] theorem leD_int {a b : Int} {P} : leD (.int a) (.int b) P = P (.bool (decide (a ≤ b))) := propext Iff.rfl
@[simp] theorem gtD_int {a b : Int} {P} : gtD (.int a) (.int b) P = P (.bool (decide (b < a))) := propext Iff.rfl
@[simp] theorem geD_int {a b : Int} {P} : geD (.int a) (.int b) P = P (.bool (decide (b ≤ a))) := propext Iff.rfl
@[simp] theorem eqD_int {a b : Int} {P} : eqD (.int a) (.int b) P = P (.bool (decide (a = b))) := by
  show ((sh 16 (.int a) && sh 16 (.int b)) = true ∧ P (.bool (PyData.eqv (.int a) (.int b)))) = _
  simp [sh, PyData.eqv]; rfl
@[simp] theorem neD_int {a b : Int} {P} : neD (.int a) (.int b) P = P (.bool (!decide (a = b))) := by
  show ((sh 16 (.int a) && sh 16 (.int b)) = true ∧ P (.bool (!PyData.eqv (.int a) (.int b)))) = _
  simp [sh, PyData.eqv]; rfl
@[simp] theorem appD_list {ds : List D} {y : D} {P} : appD (.list ds) y P = (ds.length < 16777216 ∧ P (.list (ds ++ [y]))) := propext Iff.rfl
@[simp] theorem lenD_list {ds : List D} {P} : lenD (.list ds) P = P (.int ds.length) := propext Iff.rfl
@[simp] theorem lenD_tup {ds : List D} {P} : lenD (.tuple ds) P = P (.int ds.length) := propext Iff.rfl
@[simp] theorem tupleD_list {ds : List D} {P} : tupleD (.list ds) P = P (.tuple ds) := propext Iff.rfl
@[simp] theorem tupleD_tup {ds : List D} {P} : tupleD (.tuple ds) P = P (.tuple ds) := propext Iff.rfl
@[simp] theorem listD_list {ds : List D} {P} : listD (.list ds) P = P (.list ds) := propext Iff.rfl
@[simp] theorem listD_tup {ds : List D} {P} : listD (.tuple ds) P = P (.list ds) := propext Iff.rfl
@[simp] theorem slD_list {ds : List D} {l h : Option Int} {P} : slD (.list ds) l h P = P (.list (cutD ds l h)) := propext Iff.rfl
@[simp] theorem slD_tup {ds : List D} {l h : Option Int} {P} : slD (.tuple ds) l h P = P (.tuple (cutD ds l h)) := propext Iff.rfl
@[simp] theorem revD_list {ds : List D} {P} : revD (.list ds) P = P (.list ds.reverse) := propext Iff.rfl
@[simp] theorem truth_bool {b : Bool} {P} : truthD (.bool b) P = P b := propext Iff.rfl
@[simp] theorem truth_none {P} : truthD .none P = P false := propext Iff.rfl
@[simp] theorem truth_int {b : Int} {P} : truthD (.int b) P = P (b != 0) := propext Iff.rfl
@[simp] theorem truth_list {b : List D} {P} : truthD (.list b) P = P (!b.isEmpty) := propext Iff.rfl
@[simp] theorem truth_tup {b : List D} {P} : truthD (.tuple b) P = P (!b.isEmpty) := propext Iff.rfl
@[simp] theorem ixD_list {ds : List D} {i : Int} {P} : ixD (.list ds) (.int i) P = M.opt (atI ds i) P := propext Iff.rfl
@[simp] theorem ixD_tup {ds : List D} {i : Int} {P} : ixD (.tuple ds) (.int i) P = M.opt (atI ds i) P := propext Iff.rfl
@[simp] theorem isL_list {ds : List D} : isL (.list ds) = true := rfl
@[simp] theorem un2_run {a b : D} {P} : un2 (.tuple [a, b]) P = P (a, b) := propext Iff.rfl
@[simp] theorem un3_run {a b c : D} {P} : un3 (.tuple [a, b, c]) P = P (a, b, c) := propext Iff.rfl
@[simp] theorem un4_run {a b c d : D} {P} : un4 (.tuple [a, b, c, d]) P = P (a, b, c, d) := propext Iff.rfl
theorem atI_nat {xs : List α} {i : Nat} : atI xs (i : Int) = xs[i]? := by
  unfold atI ixN
  by_cases h : i < xs.length
  · simp [h]
  · simp [h]
@[simp] theorem atI_0 {x : α} {xs : List α} : atI (x :: xs) 0 = some x := atI_nat (i := 0)
@[simp] theorem atI_1 {x y : α} {xs : List α} : atI (x :: y :: xs) 1 = some y := atI_nat (i := 1)
@[simp] theorem atI_2 {x y z : α} {xs : List α} : atI (x :: y :: z :: xs) 2 = some z := atI_nat (i := 2)
@[simp] theorem atI_3 {x y z u : α} {xs : List α} : atI (x :: y :: z :: u :: xs) 3 = some u := atI_nat (i := 3)
theorem rngD_run {a b : Int} {P} (h1 : -4611686018427387904 ≤ a) (h2 : a < 4611686018427387904) (h3 : -4611686018427387904 ≤ b) (h4 : b < 4611686018427387904) (h5 : b - a ≤ 16777216) (h : P (rangeD a b)) : rngD a b P := ⟨⟨h1, h2, h3, h4, h5⟩, h⟩
theorem rangeD_len {a b : Int} : (rangeD a b).length = (b - a).toNat := by simp [rangeD]
theorem rangeD_get {a b : Int} {i : Nat} (h : i < (rangeD a b).length) : (rangeD a b)[i] = .int (a + i) := by simp [rangeD]
/-- a fold, by what holds behind i turns -/
theorem fold_run {f : σ → α → M σ} (I : Nat → σ → Prop) {P : σ → Prop} : ∀ (xs : List α) {s0 : σ} (_ : I 0 s0) (_ : ∀ (i : Nat) (hi : i < xs.length) (s : σ), I i s → ∀ Q : σ → Prop, (∀ s', I (i + 1) s' → Q s') → f s xs[i] Q) (_ : ∀ s, I xs.length s → P s), M.fold f s0 xs P := by
  intro xs s0 h0 hs hP
  have go : ∀ (ys : List α) (k : Nat) (s : σ), k + ys.length = xs.length → xs.drop k = ys → I k s → M.fold f s ys P := by
    intro ys
    induction ys with
    | nil => intro k s hk _ hI; rw [List.length_nil, Nat.add_zero] at hk; exact hP s (hk ▸ hI)
    | cons y ys ih =>
      intro k s hk hd hI
      have hk' : k < xs.length := by rw [List.length_cons] at hk; omega
      have e : xs[k] = y := by
        have := List.drop_eq_getElem_cons hk'
        rw [hd] at this
        exact (List.cons.inj this).1.symm
      refine (?_ : f s y _)
      rw [← e]
      refine hs k hk' s hI _ fun s' h' => ih (k + 1) s' (by rw [List.length_cons] at hk; omega) ?_ h'
      rw [← List.drop_drop, hd]; rfl
  exact go xs 0 s0 (by simp) rfl h0
end
theorem small_of {i : Int} (h1 : -1000000000000000000000000000000 < i) (h2 : i < 1000000000000000000000000000000) : small i := by unfold small; omega
def DI (n : Nat) (d : D) : Prop := ∃ ds : List Int, d = .list (ds.map .int) ∧ ds.length ≤ n
theorem DI.mono {a b : Nat} {d : D} (h : DI a d) (l : a ≤ b) : DI b d := let ⟨ds, e, z⟩ := h; ⟨ds, e, Nat.le_trans z l⟩
theorem DI.app {n : Nat} {d : D} (h : DI n d) (l : n < 16777215) {i : Int} {Q : D → Prop} (q : ∀ d', DI (n + 1) d' → Q d') : isL d = true ∧ appD d (.int i) Q := by
  obtain ⟨ds, rfl, z⟩ := h
  refine ⟨rfl, ?_, q _ ⟨ds ++ [i], by simp, by simp; omega⟩⟩
  simp; omega
theorem cut_ints (ds : List Int) (l h : Option Int) : ∃ es : List Int, cutD (ds.map .int) l h = es.map .int := ⟨(ds.drop (HT.sIx ds.length 0 l)).take (HT.sIx ds.length ds.length h - HT.sIx ds.length 0 l), by unfold cutD; simp [List.map_take, List.map_drop]⟩
theorem inner60 {f : D × D → D → M (D × D)} {d0 r0 : D} {n : Nat} {Q : D × D → Prop} (hn : n ≤ 100000) (h1 : DI n d0) (h2 : ∃ r : Int, r0 = .int r ∧ 0 ≤ r)
    (hf : ∀ (d x : D) (m : Nat) (r : Int), m ≤ 200000 → DI m d → 0 ≤ r → ∀ Q : D × D → Prop, (∀ d', DI (m + 1) d' → ∀ r' : Int, 0 ≤ r' → Q (d', .int r')) → f (d, .int r) x Q) (hQ : ∀ s', DI (n + 60) s'.1 → Q s') : M.fold f (d0, r0) (rangeD 0 60) Q := by
  refine fold_run (fun j s => DI (n + j) s.1 ∧ ∃ r : Int, s.2 = .int r ∧ 0 ≤ r) _ ⟨h1, h2⟩ (fun j hj s hI Q2 hQ2 => ?_) fun s hI => hQ s ?_
  · obtain ⟨hd, r, hr, r0⟩ := hI
    have hj' : j < 60 := by rw [rangeD_len] at hj; omega
    obtain ⟨d, r'⟩ := s
    cases hr
    exact hf d _ (n + j) r (by omega) hd r0 Q2 fun d' hd' r' hr' => hQ2 _ ⟨hd', r', rfl, hr'⟩
  · exact hI.1.mono (by rw [rangeD_len]; omega)
theorem turn60 {d : D} {m : Nat} {r : Int} (hm : m ≤ 200000) (hd : DI m d) (r0 : 0 ≤ r) {Q : D × D → Prop} (hQ : ∀ d', DI (m + 1) d' → ∀ r' : Int, 0 ≤ r' → Q (d', .int r')) :
    (decide (0 < r) = true → isL d = true ∧ (997 : Int) ≠ 0 ∧ appD d (.int (r.fmod 997)) fun z => ((0 < (997 : Int) ∧ small 997) ∨ ((997 : Int) < 0 ∧ -1073741824 < (997 : Int))) ∧ Q (z, .int (r.fdiv 997))) ∧ (decide (0 < r) = false → Q (d, .int r)) := by
  refine ⟨fun _ => ?_, fun _ => hQ d (hd.mono (by omega)) r r0⟩
  have := hd.app (i := r.fmod 997) (Q := fun z => ((0 < (997 : Int) ∧ small 997) ∨ ((997 : Int) < 0 ∧ -1073741824 < (997 : Int))) ∧ Q (z, .int (r.fdiv 997))) (by omega) fun d' hd' => ⟨.inl ⟨by omega, small_of (by omega) (by omega)⟩, hQ d' hd' _ (Int.fdiv_nonneg r0 (by omega))⟩
  exact ⟨this.1, by omega, this.2⟩
theorem draws_ok (many : Int) (hm0 : 0 ≤ many := by decide) (hm : many ≤ 1000 := by decide) (ns : List Int) (hn : ns.length ≤ 63) : ((M.pure (.int many)).bind fun x => m__law_draws ns x) fun d => ∃ ds : List Int, d = .list (ds.map .int) := by
  simp only [m__law_draws, bind_run, pure_run, asI_int]
  refine rngD_run (by omega) (by omega) (by omega) (by omega) (by omega) ?_
  have hlen : (rangeD 0 (ns.length : Int)).length = ns.length := by rw [rangeD_len]; omega
  refine fold_run (fun i s => DI (62 * i) s.1 ∧ ∃ m : Int, s.2 = .int m ∧ 0 ≤ m ∧ m < 65537) _ ⟨⟨[], rfl, by simp⟩, 7, rfl, by omega, by omega⟩ (fun i hi s hI Q hQ => ?_) fun s hI => ?_
  · obtain ⟨hd, m, hm, m0, m1⟩ := hI
    rw [rangeD_get hi]
    have hi' : i < ns.length := by omega
    obtain ⟨d, r'⟩ := s
    cases hm
    simp only [bind_run, pure_run, asI_int, Int.zero_add, atI_nat, List.getElem?_eq_getElem hi', opt_some, intD_int, absD_int, mulD_int, modD_int, addD_int, powD_int, geD_int, asB_bool]
    refine ⟨⟨small_of (by omega) (by omega), small_of (by omega) (by omega)⟩, by omega, by omega, ⟨by omega, by omega, by decide⟩, ?_⟩
    generalize hc : (if ns[i] < 0 then -ns[i] else ns[i]) = c
    have c0 : 0 ≤ c := by rw [← hc]; split <;> omega
    generalize hm2 : (m * 48271 + c.fmod 1000003 + ↑i).fmod 65537 = m2
    have m20 : 0 ≤ m2 := by rw [← hm2]; exact Int.fmod_nonneg_of_pos _ (by omega)
    have m21 : m2 < 65537 := by rw [← hm2]; exact Int.fmod_lt_of_pos _ (by omega)
    rw [cond_run]
    constructor
    · intro hb
      simp only [bind_run, pure_run, asI_int]
      refine rngD_run (by omega) (by omega) (by omega) (by omega) (by omega) ?_
      refine inner60 (n := 62 * i + 2) (by omega) (hd.mono (by omega)) ⟨c, rfl, c0⟩ (fun d x m r hm hd r0 Q2 hQ2 => ?_) fun s' h' => hQ _ ⟨h', m2, rfl, m20, m21⟩
      simp only [bind_run, pure_run, gtD_int, asB_bool, cond_run, need_run, intD_int, modD_int, fdivD_int]
      exact turn60 hm hd r0 hQ2
    · intro hb
      obtain ⟨ds, rfl, z⟩ := hd
      simp only [bind_run, pure_run, need_run, intD_int, modD_int, mulD_int, addD_int, asI_int, appD_list, isL_list, true_and]
      refine ⟨by omega, by simp; omega, ⟨small_of (by omega) (by omega), small_of (by omega) (by omega)⟩, by omega, by omega, by simp; omega, ?_⟩
      refine rngD_run (by omega) (by omega) (by omega) (by omega) (by omega) ?_
      refine inner60 (n := 62 * i + 2) (by omega) ⟨ds ++ [c.fmod 997] ++ [((m2 * 69621 + 5).fmod 65521).fmod 997], by simp, by simp; omega⟩ ⟨0, rfl, by omega⟩ (fun d x m r hm hd r0 Q2 hQ2 => ?_) fun s' h' => hQ _ ⟨h', m2, rfl, m20, m21⟩
      simp only [bind_run, pure_run, gtD_int, asB_bool, cond_run, need_run, intD_int, modD_int, fdivD_int]
      exact turn60 hm hd r0 hQ2
  · rw [hlen] at hI
    obtain ⟨hd, m, hm2, m0, m1⟩ := hI
    obtain ⟨d, r'⟩ := s
    cases hm2
    refine rngD_run (by omega) (by omega) (by omega) (by omega) (by omega) ?_
    refine fold_run (fun i s => DI (62 * ns.length + i) s.1 ∧ ∃ m : Int, s.2 = .int m ∧ 0 ≤ m ∧ m < 65537) _ ⟨hd, m, rfl, m0, m1⟩ (fun i hi s hI Q hQ => ?_) fun s hI => ?_
    · obtain ⟨hd, m, hm, m0, m1⟩ := hI
      rw [rangeD_get hi]
      have hi' : (i : Int) < many := by rw [rangeD_len] at hi; omega
      obtain ⟨d, r'⟩ := s
      cases hm
      simp only [bind_run, pure_run, mulD_int, addD_int, intD_int, modD_int, need_run]
      have a1 := hd.app (i := ((m * 16807 + (0 + ↑i) + 1).fmod 65537).fmod 997) (Q := fun d => Q (d, .int ((m * 16807 + (0 + ↑i) + 1).fmod 65537))) (by omega) fun d' hd' => hQ _ ⟨hd', _, rfl, Int.fmod_nonneg_of_pos _ (by omega), Int.fmod_lt_of_pos _ (by omega)⟩
      exact ⟨⟨small_of (by omega) (by omega), small_of (by omega) (by omega)⟩, by omega, a1.1, by omega, a1.2⟩
    · obtain ⟨⟨ds, e, z⟩, _⟩ := hI
      simp only [bind_run, pure_run, asI_int, e, slD_list]
      obtain ⟨es, he⟩ := cut_ints ds none (some many)
      exact ⟨es, by rw [he]⟩
/-! ### the end -/
section
variable {l : PySem.W.OpenLaw} {w : World} {K : PySem.W.Frag} {h : Heap} {mg : Str → Option Value}
theorem has_mk {x : Str} {st : Stmt} {f : Addr} (X : K.In h) (G : h.Ns mainGlobals mg) {od an : Option Addr} {sl : Array (Option Value)} {oc kV dc pm cd ct : Value}
    (a : PySem.W.nsIn K mainGlobals x = some (some (.ref f))) (l : K.lookup f = some ⟨oc, od, .func (PySem.W.fnOf x x (defArgs st) (defBody st) (defScope st) .none kV dc pm an cd ct), sl⟩) (c : PySem.W.codeIn K cd x = true) (k : PySem.W.keepIn K (.ref f) = true) : Has K mg x st :=
  ⟨f, _, fun_mk l c k, PySem.W.mg_of X G a⟩
/-- the law's own def -/
def HasL (K : PySem.W.Frag) (st : Stmt) (fa : Addr) : Prop := ∃ fd, (∀ (s : Shared) (v : Value), BindsTo s fd ⟨[v], []⟩ [("script", v)]) ∧ Fun K "law" "law" st fa fd
theorem hasL_mk {st : Stmt} {f fa : Addr} (X : K.In h) (G : h.Ns mainGlobals mg) (hfa : mg "law" = some (.ref fa)) {od an : Option Addr} {sl : Array (Option Value)} {oc kV dc pm cd ct : Value}
    (a : PySem.W.nsIn K mainGlobals "law" = some (some (.ref f))) (lk : K.lookup f = some ⟨oc, od, .func (PySem.W.fnOf "law" "law" (defArgs st) (defBody st) (defScope st) .none kV dc pm an cd ct), sl⟩) (c : PySem.W.codeIn K cd "law" = true) (k : PySem.W.keepIn K (.ref f) = true)
    (hb : ∀ (s : Shared) (v : Value), BindsTo s (PySem.W.fnOf "law" "law" (defArgs st) (defBody st) (defScope st) .none kV dc pm an cd ct) ⟨[v], []⟩ [("script", v)]) : HasL K st fa := by
  have e := hfa.symm.trans (PySem.W.mg_of X G a)
  cases e
  exact ⟨_, hb, fun_mk lk c k⟩
theorem glc_tup {x : Str} {p : Addr} {od : Option Addr} {its : Array Value} {n : Nat} {sl : Array (Option Value)} {ds : List D} (X : K.In h) (G : h.Ns mainGlobals mg) (a : PySem.W.nsIn K mainGlobals x = some (some (.ref p))) (lk : K.lookup p = some ⟨.type "tuple", od, .seq its n, sl⟩)
    (hz : its.size ≤ 1000) (hl : ds.length ≤ 1000) (hv : ∀ G, ∃ xs, Vals xs its.toList ∧ RpA K G xs ds) : GlC K mg x (.tuple ds) := by
  refine ⟨.ref p, .ref p, PySem.W.mg_of X G a, rfl, fun G => ?_⟩
  obtain ⟨xs, h1, h2⟩ := hv G
  exact .tup (.inr ⟨_, its, n, lk, rfl, rfl, Nat.le_of_lt (small1000 hz), h1⟩) h2 (Nat.le_of_lt (small1000 hl))
end
end Wp
namespace Wp
open PySem PySem.Spec PyProof.Rows L2

def m_divisor (a_ : D) (b_ : D) : M D :=
  ((M.while_ (fun (s1 : D × D) => ((M.pure s1.2).bind fun x2 => ((M.pure (.int 0)).bind fun x3 => ((neD x2 x3).bind fun z4 => asB z4)))) (fun (s1 : D × D) =>
    ((M.pure s1.2).bind fun a_7 => (((M.pure s1.1).bind fun x5 => ((M.pure s1.2).bind fun x6 => modD x5 x6)).bind fun b_8 => 
    (M.pure (a_7, b_8))))) (a_, b_)).bind fun (s1 : D × D) =>
  (((M.pure s1.1).bind fun x9 => ((M.pure (.int 0)).bind fun x10 => ((neD x9 x10).bind fun z11 => asB z11))).bind fun b12 => bif b12 then (M.pure s1.1) else (M.pure (.int 1))))
def m_fraction (a_ : D) (b_ : D) : M D :=
  (((((M.pure a_).bind fun x2 => absD x2).bind fun x3 => (((M.pure b_).bind fun x4 => absD x4).bind fun x5 => m_divisor x3 x5)).bind fun x11 => ((((M.pure b_).bind fun x6 => ((M.pure (.int 0)).bind fun x7 => ((gtD x6 x7).bind fun z8 => asB z8))).bind fun b10 => bif b10 then (M.pure (.int 1)) else ((M.pure (.int 1)).bind fun x9 => negD x9)).bind fun x12 => mulD x11 x12)).bind fun common_1 => 
  ((((M.pure a_).bind fun x13 => ((M.pure common_1).bind fun x14 => fdivD x13 x14)).bind fun x19 => ((((M.pure b_).bind fun x15 => ((M.pure common_1).bind fun x16 => fdivD x15 x16)).bind fun x17 => ((M.pure []).bind fun l18 => M.pure (x17 :: l18))).bind fun l20 => M.pure (x19 :: l20))).bind fun x21 => M.pure (.tuple x21)))
def m_plus (one_ : D) (other_ : D) : M D :=
  (((((M.pure one_).bind fun x1 => ((M.pure (.int 0)).bind fun x2 => ixD x1 x2)).bind fun x5 => (((M.pure other_).bind fun x3 => ((M.pure (.int 1)).bind fun x4 => ixD x3 x4)).bind fun x6 => mulD x5 x6)).bind fun x13 => ((((M.pure other_).bind fun x7 => ((M.pure (.int 0)).bind fun x8 => ixD x7 x8)).bind fun x11 => (((M.pure one_).bind fun x9 => ((M.pure (.int 1)).bind fun x10 => ixD x9 x10)).bind fun x12 => mulD x11 x12)).bind fun x14 => addD x13 x14)).bind fun x15 => ((((M.pure one_).bind fun x16 => ((M.pure (.int 1)).bind fun x17 => ixD x16 x17)).bind fun x20 => (((M.pure other_).bind fun x18 => ((M.pure (.int 1)).bind fun x19 => ixD x18 x19)).bind fun x21 => mulD x20 x21)).bind fun x22 => m_fraction x15 x22))
def m_times (one_ : D) (other_ : D) : M D :=
  ((((M.pure one_).bind fun x1 => ((M.pure (.int 0)).bind fun x2 => ixD x1 x2)).bind fun x5 => (((M.pure other_).bind fun x3 => ((M.pure (.int 0)).bind fun x4 => ixD x3 x4)).bind fun x6 => mulD x5 x6)).bind fun x7 => ((((M.pure one_).bind fun x8 => ((M.pure (.int 1)).bind fun x9 => ixD x8 x9)).bind fun x12 => (((M.pure other_).bind fun x10 => ((M.pure (.int 1)).bind fun x11 => ixD x10 x11)).bind fun x13 => mulD x12 x13)).bind fun x14 => m_fraction x7 x14))
def m_minus (one_ : D) (other_ : D) : M D :=
  ((M.pure one_).bind fun x1 => ((((((M.pure other_).bind fun x2 => ((M.pure (.int 0)).bind fun x3 => ixD x2 x3)).bind fun x4 => negD x4).bind fun x9 => ((((M.pure other_).bind fun x5 => ((M.pure (.int 1)).bind fun x6 => ixD x5 x6)).bind fun x7 => ((M.pure []).bind fun l8 => M.pure (x7 :: l8))).bind fun l10 => M.pure (x9 :: l10))).bind fun x11 => M.pure (.tuple x11)).bind fun x12 => m_plus x1 x12))
def m_over (one_ : D) (other_ : D) : M D :=
  ((((M.pure one_).bind fun x1 => ((M.pure (.int 0)).bind fun x2 => ixD x1 x2)).bind fun x5 => (((M.pure other_).bind fun x3 => ((M.pure (.int 1)).bind fun x4 => ixD x3 x4)).bind fun x6 => mulD x5 x6)).bind fun x7 => ((((M.pure one_).bind fun x8 => ((M.pure (.int 1)).bind fun x9 => ixD x8 x9)).bind fun x12 => (((M.pure other_).bind fun x10 => ((M.pure (.int 0)).bind fun x11 => ixD x10 x11)).bind fun x13 => mulD x12 x13)).bind fun x14 => m_fraction x7 x14))
def m_is_less (one_ : D) (other_ : D) : M D :=
  ((((M.pure one_).bind fun x1 => ((M.pure (.int 0)).bind fun x2 => ixD x1 x2)).bind fun x5 => (((M.pure other_).bind fun x3 => ((M.pure (.int 1)).bind fun x4 => ixD x3 x4)).bind fun x6 => mulD x5 x6)).bind fun x13 => ((((M.pure other_).bind fun x7 => ((M.pure (.int 0)).bind fun x8 => ixD x7 x8)).bind fun x11 => (((M.pure one_).bind fun x9 => ((M.pure (.int 1)).bind fun x10 => ixD x9 x10)).bind fun x12 => mulD x11 x12)).bind fun x14 => ltD x13 x14))
def m_sum_of (fractions_ : D) : M D :=
  ((((M.pure (.int 0)).bind fun x4 => (((M.pure (.int 1)).bind fun x2 => ((M.pure []).bind fun l3 => M.pure (x2 :: l3))).bind fun l5 => M.pure (x4 :: l5))).bind fun x6 => M.pure (.tuple x6)).bind fun found_1 => 
  (((M.pure fractions_).bind fun x7 => asS x7).bind fun l14 => (M.fold (fun (s8 : D) x13 => ((M.pure x13).bind fun a9 => 
    (((M.pure s8).bind fun x11 => ((M.pure a9).bind fun x12 => m_plus x11 x12)).bind fun found_10 => 
    (M.pure found_10)))) found_1 l14).bind fun (s8 : D) =>
  (M.pure s8)))
def m__law_part (upper_ : D) (lower_ : D) : M D :=
  (((M.pure upper_).bind fun x1 => absD x1).bind fun a_2 => ((M.pure lower_).bind fun b_3 => 
  ((M.while_ (fun (s4 : D × D) => ((M.pure s4.2).bind fun x5 => ((M.pure (.int 0)).bind fun x6 => ((neD x5 x6).bind fun z7 => asB z7)))) (fun (s4 : D × D) =>
    ((M.pure s4.2).bind fun a_11 => ((((M.pure s4.1).bind fun x8 => intD x8).bind fun x9 => ((M.pure s4.2).bind fun x10 => modD x9 x10)).bind fun b_12 => 
    (M.pure (a_11, b_12))))) (a_2, b_3)).bind fun (s4 : D × D) =>
  (((M.pure s4.1).bind fun x13 => ((M.pure (.int 0)).bind fun x14 => ((neD x13 x14).bind fun z15 => asB z15))).bind fun b30 => bif b30 then ((((M.pure upper_).bind fun x16 => ((M.pure s4.1).bind fun x17 => fdivD x16 x17)).bind fun x22 => ((((M.pure lower_).bind fun x18 => ((M.pure s4.1).bind fun x19 => fdivD x18 x19)).bind fun x20 => ((M.pure []).bind fun l21 => M.pure (x20 :: l21))).bind fun l23 => M.pure (x22 :: l23))).bind fun x24 => M.pure (.tuple x24)) else (((M.pure (.int 0)).bind fun x27 => (((M.pure (.int 1)).bind fun x25 => ((M.pure []).bind fun l26 => M.pure (x25 :: l26))).bind fun l28 => M.pure (x27 :: l28))).bind fun x29 => M.pure (.tuple x29))))))
/-! ### greatest common divisors, fractions -/
/-- m gives v -/
def Ret {α : Type} (m : M α) (v : α) : Prop := ∀ P : α → Prop, P v → m P
section
variable {α β σ : Type}
theorem while_run {c : σ → M Bool} {f : σ → M σ} (I : σ → Prop) (μ : σ → Nat) {P : σ → Prop} (hs : ∀ s, I s → ∀ Q : σ → Prop, (∀ s', I s' → μ s' < μ s → Q s') → c s (fun b => (b = true → f s Q) ∧ (b = false → P s))) {s0 : σ} (h0 : I s0) : M.while_ c f s0 P := by
  have go : ∀ (n : Nat) (s : σ), μ s < n → I s → M.iter c f n s P := by
    intro n
    induction n with
    | zero => intro s h; omega
    | succ n ih =>
      intro s hn hI
      have h := hs s hI (fun s' => M.iter c f n s' P) fun s' h1 h2 => ih s' (by omega) h1
      show c s _
      have e : (fun b => (bif b then M.bind (f s) fun s' => M.iter c f n s' else M.pure s) P) = fun b => (b = true → f s fun s' => M.iter c f n s' P) ∧ (b = false → P s) := by
        funext b; cases b <;> simp
      exact e ▸ h
  exact ⟨μ s0 + 1, go _ _ (Nat.lt_succ_self _) h0⟩
/-- a map, each turn giving g -/
theorem mapM_run {γ : Type} {f : α → M β} {e : γ → α} (g : γ → β) {ys : List γ} {P : List β → Prop} (hf : ∀ y ∈ ys, Ret (f (e y)) (g y)) (hP : P (ys.map g)) : M.mapM f (ys.map e) P := by
  induction ys generalizing P with
  | nil => exact hP
  | cons y ys ih => exact hf y (by simp) _ (ih (fun z hz => hf z (by simp [hz])) hP)
theorem mapM_run' {f : α → M β} (g : α → β) {ys : List α} {P : List β → Prop} (hf : ∀ y ∈ ys, Ret (f y) (g y)) (hP : P (ys.map g)) : M.mapM f ys P := by
  have := mapM_run (e := id) g (ys := ys) (f := f) (P := P) hf hP
  simpa using this
theorem filM_run {γ : Type} {f : α → M (Option β)} {e : γ → α} (g : γ → Option β) {ys : List γ} {P : List β → Prop} (hf : ∀ y ∈ ys, Ret (f (e y)) (g y)) (hP : P (ys.filterMap g)) : M.filM f (ys.map e) P := by
  induction ys generalizing P with
  | nil => exact hP
  | cons y ys ih =>
    refine hf y (by simp) _ (ih (fun z hz => hf z (by simp [hz])) ?_)
    cases h : g y <;> simpa [List.filterMap_cons, h] using hP
theorem fold_ret {γ : Type} {f : σ → α → M σ} {e : γ → α} (g : σ → γ → σ) {ys : List γ} {s0 : σ} {P : σ → Prop} (hf : ∀ s, ∀ y ∈ ys, Ret (f s (e y)) (g s y)) (hP : P (ys.foldl g s0)) : M.fold f s0 (ys.map e) P := by
  induction ys generalizing s0 with
  | nil => exact hP
  | cons y ys ih => exact hf s0 y (by simp) _ (ih (fun s z hz => hf s z (by simp [hz])) hP)
end
theorem natAbs_if (a : Int) : (if a < 0 then -a else a) = (a.natAbs : Int) := by split <;> omega
theorem r_divisor (a b : Nat) : Ret (m_divisor (.int a) (.int b)) (.int (if a.gcd b = 0 then 1 else a.gcd b : Nat)) := by
  intro P hP
  simp only [m_divisor, bind_run, pure_run]
  refine while_run (fun s => ∃ x y : Nat, s = (.int x, .int y) ∧ x.gcd y = a.gcd b) (fun s => match s.2 with | .int y => y.toNat | _ => 0) (fun s hI Q hQ => ?_) ⟨a, b, rfl, rfl⟩
  obtain ⟨x, y, rfl, hg⟩ := hI
  simp only [bind_run, pure_run, neD_int, asB_bool, modD_int]
  constructor
  · intro hy
    have hy' : (y : Int) ≠ 0 := by simpa using hy
    have hy2 : 0 < y := by omega
    refine ⟨hy', hQ _ ⟨y, x % y, ?_, ?_⟩ ?_⟩
    · rw [Int.fmod_eq_emod_of_nonneg _ (by omega)]; rfl
    · rw [← hg, Nat.gcd_comm y, ← Nat.gcd_rec, Nat.gcd_comm]
    · show ((x : Int).fmod (y : Int)).toNat < y
      rw [Int.fmod_eq_emod_of_nonneg _ (by omega)]
      have := Nat.mod_lt x hy2
      omega
  · intro hy
    have hy' : (y : Int) = 0 := by simpa using hy
    have hy2 : y = 0 := by omega
    subst hy2
    rw [Nat.gcd_zero_right] at hg
    rw [cond_run]
    rw [← hg] at hP
    constructor
    · intro hx
      have : x ≠ 0 := by intro e; subst e; simp at hx
      rw [if_neg this] at hP
      exact hP
    · intro hx
      have : x = 0 := by
        have : (x : Int) = 0 := by simpa using hx
        omega
      subst this
      exact hP
/-- a fraction, as the program writes it -/
def qD (r : Rat) : D := .tuple [.int r.num, .int r.den]
theorem exact_fdiv {a g : Int} (h : g ∣ a) : a.fdiv g = a / g := Int.fdiv_eq_ediv_of_dvd h
theorem r_fraction {a b : Int} (hb : 0 < b) (sb : small b) : Ret (m_fraction (.int a) (.int b)) (qD (Rat.divInt a b)) := by
  intro P hP
  simp only [m_fraction, bind_run, pure_run, absD_int, natAbs_if]
  refine r_divisor _ _ _ ?_
  have hg : a.natAbs.gcd b.natAbs ≠ 0 := by
    have := Nat.gcd_pos_of_pos_right a.natAbs (n := b.natAbs) (by omega)
    omega
  rw [if_neg hg]
  simp only [bind_run, pure_run, gtD_int, asB_bool, cond_run, hb, decide_true, true_implies, reduceCtorEq, false_implies, and_true, mulD_int, Int.mul_one, fdivD_int]
  have hle : a.natAbs.gcd b.natAbs ≤ b.natAbs := Nat.gcd_le_right _ (by omega)
  have hs : small (a.natAbs.gcd b.natAbs : Nat) := by unfold small at sb ⊢; omega
  refine ⟨⟨hs, small_of (by omega) (by omega)⟩, .inl ⟨by omega, hs⟩, .inl ⟨by omega, hs⟩, ?_⟩
  have e : qD (Rat.divInt a b) = .tuple [.int (a.fdiv (a.natAbs.gcd b.natAbs : Nat)), .int (b.fdiv (a.natAbs.gcd b.natAbs : Nat))] := by
    unfold qD
    have d1 : ((a.natAbs.gcd b.natAbs : Nat) : Int) ∣ a := Int.gcd_dvd_left a b
    have d2 : ((a.natAbs.gcd b.natAbs : Nat) : Int) ∣ b := Int.gcd_dvd_right a b
    rw [exact_fdiv d1, exact_fdiv d2, Rat.num_divInt, Rat.den_divInt, if_neg (by omega), Int.sign_eq_one_of_pos hb, Int.one_mul]
    have c1 : b.gcd a = a.natAbs.gcd b.natAbs := by rw [Int.gcd_comm]; rfl
    rw [c1]
    congr 3
    have : (b.natAbs : Int) = b := by omega
    rw [Int.natCast_ediv, this]
  rw [e] at hP
  exact hP
theorem r_fraction_neg {a b : Int} (hb : b < 0) (hb2 : -1073741824 < b) : Ret (m_fraction (.int a) (.int b)) (qD (Rat.divInt a b)) := by
  intro P hP
  simp only [m_fraction, bind_run, pure_run, absD_int, natAbs_if]
  refine r_divisor _ _ _ ?_
  have hg : a.natAbs.gcd b.natAbs ≠ 0 := by
    have := Nat.gcd_pos_of_pos_right a.natAbs (n := b.natAbs) (by omega)
    omega
  rw [if_neg hg]
  have hn : ¬ (0 : Int) < b := by omega
  simp only [bind_run, pure_run, gtD_int, asB_bool, cond_run, hn, decide_false, true_implies, reduceCtorEq, false_implies, true_and, mulD_int, negD_int, fdivD_int]
  have hle : a.natAbs.gcd b.natAbs ≤ b.natAbs := Nat.gcd_le_right _ (by omega)
  have hs : small (a.natAbs.gcd b.natAbs : Nat) := small_of (by omega) (by omega)
  rw [Int.mul_neg, Int.mul_one]
  refine ⟨⟨hs, small_of (by omega) (by omega)⟩, .inr ⟨by omega, by omega⟩, .inr ⟨by omega, by omega⟩, ?_⟩
  have e : qD (Rat.divInt a b) = .tuple [.int (a.fdiv (-(a.natAbs.gcd b.natAbs : Nat))), .int (b.fdiv (-(a.natAbs.gcd b.natAbs : Nat)))] := by
    unfold qD
    have d1 : ((a.natAbs.gcd b.natAbs : Nat) : Int) ∣ a := Int.gcd_dvd_left a b
    have d2 : ((a.natAbs.gcd b.natAbs : Nat) : Int) ∣ b := Int.gcd_dvd_right a b
    rw [exact_fdiv (Int.neg_dvd.mpr d1), exact_fdiv (Int.neg_dvd.mpr d2), Rat.num_divInt, Rat.den_divInt, if_neg (by omega), Int.sign_eq_neg_one_of_neg hb]
    have c1 : b.gcd a = a.natAbs.gcd b.natAbs := by rw [Int.gcd_comm]; rfl
    rw [c1, Int.ediv_neg, Int.ediv_neg]
    congr 3
    · rw [Int.neg_one_mul, Int.neg_ediv_of_dvd d1]
    · have : (b.natAbs : Int) = -b := by omega
      rw [Int.natCast_ediv, this, Int.neg_ediv_of_dvd d2]
  rw [e] at hP
  exact hP
/-- both parts below n -/
def Bq (n : Int) (r : Rat) : Prop := -n ≤ r.num ∧ r.num ≤ n ∧ (r.den : Int) ≤ n
theorem Bq.mono {a b : Int} {r : Rat} (h : Bq a r) (l : a ≤ b) : Bq b r := ⟨by have := h.1; omega, by have := h.2.1; omega, by have := h.2.2; omega⟩
theorem Bq.pos {a : Int} {r : Rat} (h : Bq a r) : 1 ≤ a := by
  have := h.2.2
  have := r.den_pos
  omega
theorem bq_divInt {a b n : Int} (hb : 0 < b) (h1 : -n ≤ a) (h2 : a ≤ n) (h3 : b ≤ n) : Bq n (Rat.divInt a b) := by
  have e1 := Rat.num_divInt a b
  have e2 := Rat.den_divInt a b
  rw [Int.sign_eq_one_of_pos hb, Int.one_mul] at e1
  rw [if_neg (by omega)] at e2
  have gp : 0 < b.gcd a := Int.gcd_pos_of_ne_zero_left _ (by omega)
  have k1 : (a / (b.gcd a : Int)).natAbs ≤ a.natAbs := Int.natAbs_ediv_le_natAbs a _
  have k2 : b.natAbs / b.gcd a ≤ b.natAbs := Nat.div_le_self _ _
  refine ⟨?_, ?_, ?_⟩ <;> (try rw [e1]) <;> (try rw [e2]) <;> omega
theorem bq_neg {n : Int} {r : Rat} (h : Bq n r) : Bq n (-r) := ⟨by have := h.2.1; rw [Rat.neg_num]; omega, by have := h.1; rw [Rat.neg_num]; omega, h.2.2⟩
theorem mul_bd {a b n m : Int} (h1 : -n ≤ a) (h2 : a ≤ n) (h3 : -m ≤ b) (h4 : b ≤ m) : -(n * m) ≤ a * b ∧ a * b ≤ n * m := by
  have ha : a.natAbs ≤ n.natAbs := by omega
  have hb : b.natAbs ≤ m.natAbs := by omega
  have h := Nat.mul_le_mul ha hb
  rw [← Int.natAbs_mul] at h
  have hn : ((n.natAbs * m.natAbs : Nat) : Int) = n * m := by
    rw [Int.natCast_mul]
    have e1 : (n.natAbs : Int) = n := by omega
    have e2 : (m.natAbs : Int) = m := by omega
    rw [e1, e2]
  omega
theorem bq_mul {n m : Int} {r s : Rat} (hr : Bq n r) (hs : Bq m s) : Bq (n * m) (r * s) := by
  rw [← Rat.num_divInt_den r, ← Rat.num_divInt_den s, Rat.divInt_mul_divInt]
  have p1 := r.den_pos
  have p2 := s.den_pos
  have d : 0 < (r.den : Int) * (s.den : Int) := Int.mul_pos (by omega) (by omega)
  have b1 := mul_bd hr.1 hr.2.1 hs.1 hs.2.1
  have b2 := mul_bd (a := (r.den : Int)) (b := (s.den : Int)) (n := n) (m := m) (by have := hr.2.2; omega) hr.2.2 (by have := hs.2.2; omega) hs.2.2
  exact bq_divInt d b1.1 b1.2 b2.2
theorem bq_add {n m : Int} {r s : Rat} (hr : Bq n r) (hs : Bq m s) : Bq (2 * (n * m)) (r + s) := by
  rw [← Rat.num_divInt_den r, ← Rat.num_divInt_den s]
  have p1 := r.den_pos
  have p2 := s.den_pos
  rw [Rat.divInt_add_divInt _ _ (by omega) (by omega)]
  have d : 0 < (r.den : Int) * (s.den : Int) := Int.mul_pos (by omega) (by omega)
  have hrd := hr.2.2
  have hsd := hs.2.2
  have b1 := mul_bd hr.1 hr.2.1 (b := (s.den : Int)) (m := m) (by omega) hsd
  have b3 := mul_bd hs.1 hs.2.1 (b := (r.den : Int)) (m := n) (by omega) hrd
  rw [Int.mul_comm m n] at b3
  have b2 := mul_bd (a := (r.den : Int)) (b := (s.den : Int)) (n := n) (m := m) (by omega) hrd (by omega) hsd
  exact bq_divInt d (by omega) (by omega) (by omega)
def big : Int := 100000000000000000000000000000
theorem Bq.small1 {r : Rat} (h : Bq big r) : small r.num ∧ small r.den := by
  have p := r.den_pos
  have h1 := h.1; have h2 := h.2.1; have h3 := h.2.2
  unfold big at h1 h2 h3
  exact ⟨by unfold small; omega, by unfold small; omega⟩
theorem Bq.smallm {r s : Rat} (h : Bq big r) (k : Bq big s) : small ((r.den : Int) * s.den) ∧ 0 < (r.den : Int) * s.den := by
  have p := r.den_pos
  have q := s.den_pos
  have b := mul_bd (a := (r.den : Int)) (b := (s.den : Int)) (n := big) (m := big) (by have := h.2.2; omega) h.2.2 (by have := k.2.2; omega) k.2.2
  unfold big at b
  exact ⟨by unfold small; omega, Int.mul_pos (by omega) (by omega)⟩
theorem r_plus {x y : Rat} (hx : Bq big x) (hy : Bq big y) : Ret (m_plus (qD x) (qD y)) (qD (x + y)) := by
  intro P hP
  have sx := hx.small1
  have sy := hy.small1
  have sd := hx.smallm hy
  simp only [m_plus, qD, bind_run, pure_run, ixD_tup, atI_0, atI_1, opt_some, mulD_int, addD_int, sx, sy, and_self, true_and]
  refine r_fraction sd.2 sd.1 _ ?_
  have e : Rat.divInt (x.num * y.den + y.num * x.den) (x.den * y.den) = x + y := by
    have p := x.den_pos
    have q := y.den_pos
    rw [← Rat.divInt_add_divInt _ _ (by omega) (by omega), Rat.num_divInt_den, Rat.num_divInt_den]
  rw [e]
  exact hP
theorem r_times {x y : Rat} (hx : Bq big x) (hy : Bq big y) : Ret (m_times (qD x) (qD y)) (qD (x * y)) := by
  intro P hP
  have sx := hx.small1
  have sy := hy.small1
  have sd := hx.smallm hy
  simp only [m_times, qD, bind_run, pure_run, ixD_tup, atI_0, atI_1, opt_some, mulD_int, addD_int, sx, sy, and_self, true_and]
  refine r_fraction sd.2 sd.1 _ ?_
  have e : Rat.divInt (x.num * y.num) (x.den * y.den) = x * y := by
    rw [← Rat.divInt_mul_divInt, Rat.num_divInt_den, Rat.num_divInt_den]
  rw [e]
  exact hP
theorem r_minus {x y : Rat} (hx : Bq big x) (hy : Bq big y) : Ret (m_minus (qD x) (qD y)) (qD (x - y)) := by
  intro P hP
  have e : x - y = x + -y := Rat.sub_eq_add_neg x y
  have := r_plus hx (bq_neg hy) P (e ▸ hP)
  simp only [m_minus, bind_run, pure_run]
  unfold qD at this ⊢
  simp only [bind_run, pure_run, ixD_tup, atI_0, atI_1, opt_some, negD_int]
  exact this
theorem r_over {x y : Rat} (hx : Bq big x) (hy : Bq big y) (y0 : 0 < y) : Ret (m_over (qD x) (qD y)) (qD (x / y)) := by
  intro P hP
  have sx := hx.small1
  have sy := hy.small1
  have yn : 0 < y.num := by
    have := Rat.num_nonneg (q := y)
    have h0 : y.num ≠ 0 := fun e => by rw [Rat.num_eq_zero] at e; subst e; exact absurd y0 (by decide)
    have h1 : 0 ≤ y.num := this.mpr (Rat.le_of_lt y0)
    omega
  have b := mul_bd (a := (x.den : Int)) (b := y.num) (n := big) (m := big) (by have := x.den_pos; unfold big; omega) hx.2.2 hy.1 hy.2.1
  have sd : small ((x.den : Int) * y.num) := by unfold big at b; unfold small; omega
  have pd : 0 < (x.den : Int) * y.num := Int.mul_pos (by have := x.den_pos; omega) yn
  simp only [m_over, qD, bind_run, pure_run, ixD_tup, atI_0, atI_1, opt_some, mulD_int, addD_int, sx, sy, and_self, true_and]
  refine r_fraction pd sd _ ?_
  have e : Rat.divInt (x.num * y.den) (x.den * y.num) = x / y := by
    rw [← Rat.divInt_mul_divInt, Rat.num_divInt_den, Rat.div_def, Rat.inv_def]
  rw [e]
  exact hP
theorem r_over_neg {x y : Rat} (hx : Bq big x) (hy : Bq big y) (y0 : y < 0) (hb : (x.den : Int) * -y.num < 1073741824) : Ret (m_over (qD x) (qD y)) (qD (x / y)) := by
  intro P hP
  have sx := hx.small1
  have sy := hy.small1
  have yn : y.num < 0 := by
    have := Rat.num_nonneg (q := y)
    have h1 : ¬ 0 ≤ y.num := fun h => absurd (this.mp h) (by rw [Rat.not_le]; exact y0)
    omega
  have pd : (x.den : Int) * y.num < 0 := Int.mul_neg_of_pos_of_neg (by have := x.den_pos; omega) yn
  simp only [m_over, qD, bind_run, pure_run, ixD_tup, atI_0, atI_1, opt_some, mulD_int, addD_int, sx, sy, and_self, true_and]
  refine r_fraction_neg pd (by rw [Int.mul_neg] at hb; omega) _ ?_
  have e : Rat.divInt (x.num * y.den) (x.den * y.num) = x / y := by
    rw [← Rat.divInt_mul_divInt, Rat.num_divInt_den, Rat.div_def, Rat.inv_def]
  rw [e]
  exact hP
theorem r_is_less {x y : Rat} (hx : Bq big x) (hy : Bq big y) : Ret (m_is_less (qD x) (qD y)) (.bool (decide (x < y))) := by
  intro P hP
  have sx := hx.small1
  have sy := hy.small1
  simp only [m_is_less, qD, bind_run, pure_run, ixD_tup, atI_0, atI_1, opt_some, mulD_int, ltD_int, sx, sy, and_self, true_and]
  rw [decide_eq_decide.mpr (Rat.lt_iff x y)] at hP
  exact hP
theorem qD_int (i : Int) : qD (i : Rat) = .tuple [.int i, .int 1] := rfl
theorem qD_zero : qD 0 = .tuple [.int 0, .int 1] := rfl
theorem sh_qD (r : Rat) (n : Nat) : sh (n + 1) (qD r) = true := by simp [qD, sh, shA]
theorem eqv_qD (r s : Rat) : PyData.eqv (qD r) (qD s) = decide (r = s) := by
  simp only [qD, PyData.eqv, PyData.eqvAll, Bool.and_true]
  by_cases h : r = s
  · subst h; simp
  · have : ¬ (r.num = s.num ∧ r.den = s.den) := fun ⟨a, b⟩ => h (Rat.ext a b)
    rw [decide_eq_false h]
    by_cases h1 : r.num = s.num
    · have h2 : ¬ r.den = s.den := fun e => this ⟨h1, e⟩
      have h3 : ¬ ((r.den : Int) = s.den) := by omega
      simp [h3]
    · simp [h1]
theorem _root_.List.sum_append_rat (xs : List Rat) (x : Rat) : (xs ++ [x]).sum = xs.sum + x := by
  induction xs with
  | nil => simp [List.sum_cons, Rat.add_comm]
  | cons y ys ih => simp only [List.cons_append, List.sum_cons, ih, Rat.add_assoc]
/-- a sum from the left -/
theorem r_sum_of {xs : List Rat} (hb : ∀ (i : Nat), i ≤ xs.length → Bq big (xs.take i).sum) (hx : ∀ x ∈ xs, Bq big x) : Ret (m_sum_of (.list (xs.map qD))) (qD xs.sum) := by
  intro P hP
  simp only [m_sum_of, bind_run, pure_run, asS_list]
  refine fold_run (fun i s => s = qD (xs.take i).sum) _ (by rw [List.take_zero, List.sum_nil, qD_zero]) (fun i hi s hs Q hQ => ?_) fun s hs => ?_
  · subst hs
    have hi' : i < xs.length := by simpa using hi
    have e : (xs.map qD)[i] = qD xs[i] := by simp
    rw [e]
    simp only [bind_run, pure_run]
    refine r_plus (hb i (by omega)) (hx _ (List.getElem_mem hi')) _ (hQ _ ?_)
    rw [List.take_succ_eq_append_getElem hi', List.sum_append_rat]
  · subst hs
    simpa using hP
/-- the law's own fractions -/
theorem r_part {a b : Int} (hb : 0 < b) (sb : small b) : Ret (m__law_part (.int a) (.int b)) (qD (Rat.divInt a b)) := by
  intro P hP
  simp only [m__law_part, bind_run, pure_run, absD_int, natAbs_if]
  refine while_run (fun s => ∃ x y : Nat, s = (.int x, .int y) ∧ x.gcd y = a.natAbs.gcd b.natAbs) (fun s => match s.2 with | .int y => y.toNat | _ => 0) (fun s hI Q hQ => ?_) ⟨a.natAbs, b.natAbs, by simp; omega, rfl⟩
  obtain ⟨x, y, rfl, hg⟩ := hI
  simp only [bind_run, pure_run, neD_int, asB_bool, modD_int, intD_int]
  constructor
  · intro hy
    have hy' : (y : Int) ≠ 0 := by simpa using hy
    have hy2 : 0 < y := by omega
    refine ⟨hy', hQ _ ⟨y, x % y, ?_, ?_⟩ ?_⟩
    · rw [Int.fmod_eq_emod_of_nonneg _ (by omega)]; rfl
    · rw [← hg, Nat.gcd_comm y, ← Nat.gcd_rec, Nat.gcd_comm]
    · show ((x : Int).fmod (y : Int)).toNat < y
      rw [Int.fmod_eq_emod_of_nonneg _ (by omega)]
      have := Nat.mod_lt x hy2
      omega
  · intro hy
    have hy' : (y : Int) = 0 := by simpa using hy
    have hy2 : y = 0 := by omega
    subst hy2
    rw [Nat.gcd_zero_right] at hg
    subst hg
    have hgp := Nat.gcd_pos_of_pos_right a.natAbs (n := b.natAbs) (by omega)
    have hle : a.natAbs.gcd b.natAbs ≤ b.natAbs := Nat.gcd_le_right _ (by omega)
    have hs : small (a.natAbs.gcd b.natAbs : Nat) := by unfold small at sb ⊢; omega
    have hne : ¬ ((a.natAbs.gcd b.natAbs : Nat) : Int) = 0 := by omega
    simp only [cond_run, hne, decide_false, Bool.not_false, true_implies, reduceCtorEq, Bool.true_eq_false, false_implies, and_true, bind_run, pure_run, fdivD_int]
    refine ⟨.inl ⟨by omega, hs⟩, .inl ⟨by omega, hs⟩, ?_⟩
    have e : qD (Rat.divInt a b) = .tuple [.int (a.fdiv (a.natAbs.gcd b.natAbs : Nat)), .int (b.fdiv (a.natAbs.gcd b.natAbs : Nat))] := by
      unfold qD
      have d1 : ((a.natAbs.gcd b.natAbs : Nat) : Int) ∣ a := Int.gcd_dvd_left a b
      have d2 : ((a.natAbs.gcd b.natAbs : Nat) : Int) ∣ b := Int.gcd_dvd_right a b
      rw [exact_fdiv d1, exact_fdiv d2, Rat.num_divInt, Rat.den_divInt, if_neg (by omega), Int.sign_eq_one_of_pos hb, Int.one_mul]
      have c1 : b.gcd a = a.natAbs.gcd b.natAbs := by rw [Int.gcd_comm]; rfl
      rw [c1]
      congr 3
      have : (b.natAbs : Int) = b := by omega
      rw [Int.natCast_ediv, this]
    rw [e] at hP
    exact hP
end Wp
namespace Wp
open PySem PySem.Spec PyProof.Rows L2

/-! ### dicts by texts -/
/-- a dict whose keys are texts -/
def dS (es : List (Str × D)) : D := .dict (es.map fun p => (.str p.1, p.2))
theorem marked_dS (es : List (Str × D)) : marked (es.map fun p => ((.str p.1 : D), p.2)) = false := by cases es <;> rfl
@[simp] theorem keysD_dS {es : List (Str × D)} {P} : keysD (dS es) P = P (es.map fun p => .str p.1) := by
  show (marked _ = false ∧ P ((es.map fun p => ((.str p.1 : D), p.2)).map (·.1))) = _
  rw [List.map_map]
  exact propext ⟨fun h => h.2, fun h => ⟨marked_dS es, h⟩⟩
theorem lookD_dS (es : List (Str × D)) (k : Str) : lookD (es.map fun p => ((.str p.1 : D), p.2)) (.str k) = es.lookup k := by
  unfold lookD
  induction es with
  | nil => rfl
  | cons p es ih =>
    rw [List.map_cons, List.find?_cons, List.lookup_cons]
    have e : PyData.eqv (.str p.1) (.str k) = (p.1 == k) := by simp [PyData.eqv]
    rw [e]
    by_cases h : p.1 = k
    · subst h; simp
    · have h1 : (p.1 == k) = false := by simpa using h
      have h2 : (k == p.1) = false := by simpa using fun e => h e.symm
      rw [h1, h2]
      exact ih
@[simp] theorem ixD_dS {es : List (Str × D)} {k : Str} {P} : ixD (dS es) (.str k) P = M.opt (es.lookup k) P := by
  show (kD (.str k) = true ∧ M.opt (lookD _ _) P) = _
  rw [lookD_dS]
  exact propext ⟨fun h => h.2, fun h => ⟨rfl, h⟩⟩
@[simp] theorem get2D_dS {es : List (Str × D)} {k : Str} {x : D} {P} : get2D (dS es) (.str k) x P = P ((es.lookup k).getD x) := by
  show ((kD (.str k) = true ∧ marked _ = false) ∧ P ((lookD _ _).getD x)) = _
  rw [lookD_dS]
  exact propext ⟨fun h => h.2, fun h => ⟨⟨rfl, marked_dS es⟩, h⟩⟩
@[simp] theorem isDi_dS {es : List (Str × D)} : isDi (dS es) = true := rfl
@[simp] theorem plain_dS {es : List (Str × D)} : plainD (dS es) = true := by
  show (!marked _) = true
  rw [marked_dS]; rfl
@[simp] theorem inD_dS {es : List (Str × D)} {k : Str} {P} : inD (.str k) (dS es) P = P (.bool (es.lookup k).isSome) := by
  show ((kD (.str k) && !marked _) = true ∧ P (.bool (lookD _ _).isSome)) = _
  rw [lookD_dS, marked_dS]
  exact propext ⟨fun h => h.2, fun h => ⟨rfl, h⟩⟩
theorem putD_dS {es : List (Str × D)} {k : Str} {v : D} (h : k ∉ es.map (·.1)) : putD (es.map fun p => ((.str p.1 : D), p.2)) (.str k) v = (es ++ [(k, v)]).map fun p => ((.str p.1 : D), p.2) := by
  unfold putD
  have : (es.map fun p => ((.str p.1 : D), p.2)).any (fun p => PyData.eqv p.1 (.str k)) = false := by
    rw [List.any_eq_false]
    intro p hp
    rw [List.mem_map] at hp
    obtain ⟨q, hq, rfl⟩ := hp
    have : q.1 ≠ k := fun e => h (List.mem_map.mpr ⟨q, hq, e⟩)
    simpa [PyData.eqv] using this
  rw [this, if_neg Bool.false_ne_true, List.map_append]
  rfl
theorem dputD_dS {es : List (Str × D)} {k : Str} {v : D} {P : D → Prop} (h : k ∉ es.map (·.1)) (hl : es.length < 16777216) (hP : P (dS (es ++ [(k, v)]))) : dputD (dS es) (.str k) v P := by
  refine ⟨⟨rfl, marked_dS es, by simpa using hl⟩, ?_⟩
  rw [putD_dS h]
  exact hP
theorem lookup_mem {es : List (Str × D)} (nd : (es.map (·.1)).Nodup) {p : Str × D} (h : p ∈ es) : es.lookup p.1 = some p.2 := by
  induction es with
  | nil => cases h
  | cons q es ih =>
    rw [List.map_cons, List.nodup_cons] at nd
    rw [List.lookup_cons]
    rcases List.mem_cons.mp h with rfl | h
    · simp
    · have : p.1 ≠ q.1 := fun e => nd.1 (e ▸ List.mem_map.mpr ⟨p, h, rfl⟩)
      have h1 : (p.1 == q.1) = false := by simpa using this
      rw [h1]
      exact ih nd.2 h
theorem lookup_none {es : List (Str × D)} {k : Str} (h : k ∉ es.map (·.1)) : es.lookup k = none := by
  induction es with
  | nil => rfl
  | cons q es ih =>
    rw [List.map_cons, List.mem_cons, not_or] at h
    rw [List.lookup_cons]
    have h1 : (k == q.1) = false := by simpa using h.1
    rw [h1]
    exact ih h.2
/-- some of the rows, by their names -/
theorem lookup_fm {ρ : Type} {rows : List (Str × ρ)} {f : ρ → Option D} (nd : (rows.map (·.1)).Nodup) {p : Str × ρ} (h : p ∈ rows) : (rows.filterMap fun q => (f q.2).map fun d => (q.1, d)).lookup p.1 = f p.2 := by
  induction rows with
  | nil => cases h
  | cons q rows ih =>
    rw [List.map_cons, List.nodup_cons] at nd
    rcases List.mem_cons.mp h with rfl | h
    · rw [List.filterMap_cons]
      cases e : f p.2 with
      | some d => simp
      | none =>
        simp only [Option.map_none]
        refine lookup_none fun hm => nd.1 ?_
        rw [List.mem_map] at hm ⊢
        obtain ⟨z, hz, e2⟩ := hm
        rw [List.mem_filterMap] at hz
        obtain ⟨y, hy, e3⟩ := hz
        obtain ⟨d, _, rfl⟩ := Option.map_eq_some_iff.mp e3
        exact ⟨y, hy, e2⟩
    · have : p.1 ≠ q.1 := fun e => nd.1 (e ▸ List.mem_map.mpr ⟨p, h, rfl⟩)
      rw [List.filterMap_cons]
      cases e : f q.2 with
      | none => exact ih nd.2 h
      | some d =>
        simp only [Option.map_some]
        rw [List.lookup_cons]
        have h1 : (p.1 == q.1) = false := by simpa using this
        rw [h1]
        exact ih nd.2 h
theorem fm_nodup {ρ : Type} {rows : List (Str × ρ)} {f : ρ → Option D} (nd : (rows.map (·.1)).Nodup) : ((rows.filterMap fun q => (f q.2).map fun d => (q.1, d)).map (·.1)).Nodup := by
  have : ((rows.filterMap fun q => (f q.2).map fun d => (q.1, d)).map (·.1)).Sublist (rows.map (·.1)) := by
    clear nd
    induction rows with
    | nil => exact .slnil
    | cons q rows ih =>
      rw [List.filterMap_cons]
      cases f q.2 with
      | none => exact .cons _ ih
      | some d => exact .cons₂ _ ih
  exact this.nodup nd
/-! ### eqv, shapes -/
theorem neD_self {d : D} {P : D → Prop} (h : sh 16 d = true) (hP : P (.bool false)) : neD d d P := by
  refine ⟨by rw [h]; rfl, ?_⟩
  rw [SeqAt.eqv_refl d (sh_lay d 16 h).1]
  exact hP
theorem eqD_self {d : D} {P : D → Prop} (h : sh 16 d = true) (hP : P (.bool true)) : eqD d d P := by
  refine ⟨by rw [h]; rfl, ?_⟩
  rw [SeqAt.eqv_refl d (sh_lay d 16 h).1]
  exact hP
theorem eqD_run {x y : D} {P : D → Prop} (hx : sh 16 x = true) (hy : sh 16 y = true) (hP : P (.bool (PyData.eqv x y))) : eqD x y P := ⟨by rw [hx, hy]; rfl, hP⟩
theorem neD_run {x y : D} {P : D → Prop} (hx : sh 16 x = true) (hy : sh 16 y = true) (hP : P (.bool (!PyData.eqv x y))) : neD x y P := ⟨by rw [hx, hy]; rfl, hP⟩
@[simp] theorem sh_int {n : Nat} {i : Int} : sh n (.int i) = true := by cases n <;> simp [sh]
@[simp] theorem sh_bool {n : Nat} {i : Bool} : sh n (.bool i) = true := by cases n <;> simp [sh]
@[simp] theorem sh_none {n : Nat} : sh n .none = true := by cases n <;> simp [sh]
@[simp] theorem sh_list {n : Nat} {xs : List D} : sh (n + 1) (.list xs) = shA n xs := by simp [sh]
@[simp] theorem sh_tup {n : Nat} {xs : List D} : sh (n + 1) (.tuple xs) = shA n xs := by simp [sh]
@[simp] theorem shA_nil {n : Nat} : shA n [] = true := by simp [shA]
@[simp] theorem shA_cons {n : Nat} {x : D} {xs : List D} : shA n (x :: xs) = (sh n x && shA n xs) := by simp [shA]
theorem shA_all {n : Nat} {xs : List D} : shA n xs = xs.all (sh n) := by
  induction xs with
  | nil => simp
  | cons x xs ih => simp [ih]
theorem shA_map {α : Type} {n : Nat} {f : α → D} {xs : List α} (h : ∀ x ∈ xs, sh n (f x) = true) : shA n (xs.map f) = true := by
  rw [shA_all, List.all_eq_true]
  intro y hy
  obtain ⟨x, hx, rfl⟩ := List.mem_map.mp hy
  exact h x hx
@[simp] theorem isD_none {P} : isD .none .none P = P (.bool true) := propext Iff.rfl
@[simp] theorem isD_tup_none {xs : List D} {P} : isD (.tuple xs) .none P = P (.bool false) := propext Iff.rfl
@[simp] theorem isD_list_none {xs : List D} {P} : isD (.list xs) .none P = P (.bool false) := propext Iff.rfl
@[simp] theorem isD_int_none {i : Int} {P} : isD (.int i) .none P = P (.bool false) := propext Iff.rfl
@[simp] theorem isD_bool {a b : Bool} {P} : isD (.bool a) (.bool b) P = P (.bool (decide (a = b))) := propext Iff.rfl
@[simp] theorem isnD_none {P} : isnD .none .none P = P (.bool false) := propext Iff.rfl
@[simp] theorem isnD_tup_none {xs : List D} {P} : isnD (.tuple xs) .none P = P (.bool true) := propext Iff.rfl
@[simp] theorem isnD_list_none {xs : List D} {P} : isnD (.list xs) .none P = P (.bool true) := propext Iff.rfl
@[simp] theorem isnD_int_none {i : Int} {P} : isnD (.int i) .none P = P (.bool true) := propext Iff.rfl
@[simp] theorem isnD_bool {a b : Bool} {P} : isnD (.bool a) (.bool b) P = P (.bool (!decide (a = b))) := propext Iff.rfl
theorem sumD_ints {ns : List Int} {P : D → Prop} (h : P (.int ns.sum)) : sumD (.list (ns.map .int)) P := ⟨ns, asInts_map ns, h⟩
theorem draw_run {n : Int} {P : D → Prop} (hn : 0 < n) (h : ∀ r : Int, 0 ≤ r → r < n → P (.int r)) : m__law_next (.int n) P := ⟨hn, h⟩
theorem sortedD_run {ds : List D} {P : D → Prop} (h : sortable ds = true) (hP : P (.list (sortL ds))) : sortedD (.list ds) P := ⟨h, hP⟩
theorem sortedD_dS {es : List (Str × D)} {P : D → Prop} (h : sortable (es.map fun p => (.str p.1 : D)) = true) (hP : P (.list (sortL (es.map fun p => .str p.1)))) : sortedD (dS es) P := by
  refine ⟨⟨marked_dS es, ?_⟩, ?_⟩
  · rw [List.map_map]; exact h
  · rw [List.map_map]; exact hP
theorem sortL_mem {ds : List D} {d : D} : d ∈ sortL ds ↔ d ∈ ds := by unfold sortL; rw [List.mem_mergeSort]
theorem sortL_perm (ds : List D) : (sortL ds).Perm ds := List.mergeSort_perm _ _
open PySem.W in
theorem sortable_strs {ks : List Str} (h : ∀ k ∈ ks, PyData.strOk k = true) : sortable (ks.map fun k => (.str k : D)) = true := by
  unfold sortable
  rw [Bool.and_eq_true, Bool.and_eq_true]
  refine ⟨⟨?_, ?_⟩, ?_⟩
  · simp [List.all_eq_true, alike]
  · rw [shA_map]
    intro k hk
    simpa [sh] using h k hk
  · simp [List.all_eq_true]
@[simp] theorem isD_q {r : Rat} {P} : isD (qD r) .none P = P (.bool false) := propext Iff.rfl
@[simp] theorem isnD_q {r : Rat} {P} : isnD (qD r) .none P = P (.bool true) := propext Iff.rfl
@[simp] theorem ixD_q0 {r : Rat} {P} : ixD (qD r) (.int 0) P = P (.int r.num) := by unfold qD; simp
@[simp] theorem ixD_q1 {r : Rat} {P} : ixD (qD r) (.int 1) P = P (.int r.den) := by unfold qD; simp
theorem sh16_q (r : Rat) : sh 16 (qD r) = true := sh_qD r 15
@[simp] theorem eqD_q {r s : Rat} {P} : eqD (qD r) (qD s) P = P (.bool (decide (r = s))) := by
  rw [← eqv_qD]
  exact propext ⟨fun h => h.2, fun h => ⟨by rw [sh16_q, sh16_q]; rfl, h⟩⟩
@[simp] theorem neD_q {r s : Rat} {P} : neD (qD r) (qD s) P = P (.bool (!decide (r = s))) := by
  rw [← eqv_qD]
  exact propext ⟨fun h => h.2, fun h => ⟨by rw [sh16_q, sh16_q]; rfl, h⟩⟩
theorem eqD_str {a b : Str} {P : D → Prop} (ha : PyData.strOk a = true) (hb : PyData.strOk b = true) (hP : P (.bool (a == b))) : eqD (.str a) (.str b) P :=
  ⟨by simp [sh, ha, hb], by simpa [PyData.eqv] using hP⟩
theorem neD_str {a b : Str} {P : D → Prop} (ha : PyData.strOk a = true) (hb : PyData.strOk b = true) (hP : P (.bool (!(a == b)))) : neD (.str a) (.str b) P :=
  ⟨by simp [sh, ha, hb], by simpa [PyData.eqv] using hP⟩
theorem bq_inv {n : Int} {r : Rat} (h : Bq n r) (h0 : 0 < r) : Bq n r⁻¹ := by
  have p := r.den_pos
  have h1 : 0 ≤ r.num := Rat.num_nonneg.mpr (Rat.le_of_lt h0)
  have h2 : r.num ≠ 0 := fun e => by rw [Rat.num_eq_zero] at e; subst e; exact absurd h0 (by decide)
  have b1 := h.1; have b2 := h.2.1; have b3 := h.2.2
  refine ⟨?_, ?_, ?_⟩
  · rw [Rat.num_inv, Int.sign_eq_one_of_pos (by omega)]; omega
  · rw [Rat.num_inv, Int.sign_eq_one_of_pos (by omega)]; omega
  · rw [Rat.den_inv, if_neg h2]; omega
theorem bq_div {n m : Int} {r s : Rat} (hr : Bq n r) (hs : Bq m s) (h0 : 0 < s) : Bq (n * m) (r / s) := by
  rw [Rat.div_def]
  exact bq_mul hr (bq_inv hs h0)
theorem bq_sub {n m : Int} {r s : Rat} (hr : Bq n r) (hs : Bq m s) : Bq (2 * (n * m)) (r - s) := by
  rw [Rat.sub_eq_add_neg]
  exact bq_add hr (bq_neg hs)
theorem rat_pos {y : Rat} (h : 0 ≤ y) (h0 : y ≠ 0) : 0 < y := Rat.lt_of_le_of_ne h (Ne.symm h0)
theorem div_nonneg' {x y : Rat} (hx : 0 ≤ x) (hy : 0 < y) : 0 ≤ x / y := by
  rw [Rat.div_def]
  exact Rat.mul_nonneg hx (Rat.le_of_lt (Rat.inv_pos.mpr hy))
theorem cond_t {α : Type} {m n : M α} {P : α → Prop} : (cond true m n) P = m P := propext Iff.rfl
theorem cond_f {α : Type} {m n : M α} {P : α → Prop} : (cond false m n) P = n P := propext Iff.rfl
end Wp

namespace L18
open PySem PySem.Spec PyProof.Rows L2 Wp
/-! ### the text -/
def topS (i : Nat) : Stmt := PySem.Challenge.pw_worksplanned_k18_worth_earned.main.body.getD i (.Pass ⟨0, 0, 0, 0⟩)
def c_NOTHING : D := (.tuple [(.int 0), (.int 1)])
abbrev st_divisor : Stmt := topS 1
abbrev N_divisor : List Str := ["a", "b"]
theorem sc_divisor : FnScope N_divisor ["a", "b"] (defScope st_divisor) := ⟨rfl, rfl, rfl, by decide +kernel, rfl, by decide +kernel, by decide +kernel⟩
abbrev st_fraction : Stmt := topS 2
abbrev N_fraction : List Str := ["a", "b", "common"]
theorem sc_fraction : FnScope N_fraction ["a", "b"] (defScope st_fraction) := ⟨rfl, rfl, rfl, by decide +kernel, rfl, by decide +kernel, by decide +kernel⟩
abbrev st_plus : Stmt := topS 3
abbrev N_plus : List Str := ["one", "other"]
theorem sc_plus : FnScope N_plus ["one", "other"] (defScope st_plus) := ⟨rfl, rfl, rfl, by decide +kernel, rfl, by decide +kernel, by decide +kernel⟩
abbrev st_times : Stmt := topS 4
abbrev N_times : List Str := ["one", "other"]
theorem sc_times : FnScope N_times ["one", "other"] (defScope st_times) := ⟨rfl, rfl, rfl, by decide +kernel, rfl, by decide +kernel, by decide +kernel⟩
abbrev st_minus : Stmt := topS 5
abbrev N_minus : List Str := ["one", "other"]
theorem sc_minus : FnScope N_minus ["one", "other"] (defScope st_minus) := ⟨rfl, rfl, rfl, by decide +kernel, rfl, by decide +kernel, by decide +kernel⟩
abbrev st_over : Stmt := topS 6
abbrev N_over : List Str := ["one", "other"]
theorem sc_over : FnScope N_over ["one", "other"] (defScope st_over) := ⟨rfl, rfl, rfl, by decide +kernel, rfl, by decide +kernel, by decide +kernel⟩
abbrev st_is_less : Stmt := topS 7
abbrev N_is_less : List Str := ["one", "other"]
theorem sc_is_less : FnScope N_is_less ["one", "other"] (defScope st_is_less) := ⟨rfl, rfl, rfl, by decide +kernel, rfl, by decide +kernel, by decide +kernel⟩
abbrev st_sum_of : Stmt := topS 8
abbrev N_sum_of : List Str := ["fractions", "found", "one"]
theorem sc_sum_of : FnScope N_sum_of ["fractions"] (defScope st_sum_of) := ⟨rfl, rfl, rfl, by decide +kernel, rfl, by decide +kernel, by decide +kernel⟩
abbrev st_planned_of : Stmt := topS 11
abbrev N_planned_of : List Str := ["line", "day", "begin", "days", "budget"]
theorem sc_planned_of : FnScope N_planned_of ["line", "day"] (defScope st_planned_of) := ⟨rfl, rfl, rfl, by decide +kernel, rfl, by decide +kernel, by decide +kernel⟩
abbrev st_planned_at : Stmt := topS 12
abbrev N_planned_at : List Str := ["lines", "day", "name"]
theorem sc_planned_at : FnScope N_planned_at ["lines", "day"] (defScope st_planned_at) := ⟨rfl, rfl, rfl, by decide +kernel, rfl, by decide +kernel, by decide +kernel⟩
abbrev st_earned_of : Stmt := topS 13
abbrev N_earned_of : List Str := ["lines", "done", "name"]
theorem sc_earned_of : FnScope N_earned_of ["lines", "done", "name"] (defScope st_earned_of) := ⟨rfl, rfl, rfl, by decide +kernel, rfl, by decide +kernel, by decide +kernel⟩
abbrev st_earned : Stmt := topS 14
abbrev N_earned : List Str := ["lines", "done", "name"]
theorem sc_earned : FnScope N_earned ["lines", "done"] (defScope st_earned) := ⟨rfl, rfl, rfl, by decide +kernel, rfl, by decide +kernel, by decide +kernel⟩
abbrev st_cost_so_far : Stmt := topS 15
abbrev N_cost_so_far : List Str := ["spent", "name"]
theorem sc_cost_so_far : FnScope N_cost_so_far ["spent"] (defScope st_cost_so_far) := ⟨rfl, rfl, rfl, by decide +kernel, rfl, by decide +kernel, by decide +kernel⟩
abbrev st_budget_of : Stmt := topS 16
abbrev N_budget_of : List Str := ["lines", "name"]
theorem sc_budget_of : FnScope N_budget_of ["lines"] (defScope st_budget_of) := ⟨rfl, rfl, rfl, by decide +kernel, rfl, by decide +kernel, by decide +kernel⟩
abbrev st_cost_index : Stmt := topS 17
abbrev N_cost_index : List Str := ["lines", "done", "spent", "cost"]
theorem sc_cost_index : FnScope N_cost_index ["lines", "done", "spent"] (defScope st_cost_index) := ⟨rfl, rfl, rfl, by decide +kernel, rfl, by decide +kernel, by decide +kernel⟩
abbrev st_time_index : Stmt := topS 18
abbrev N_time_index : List Str := ["lines", "done", "day", "planned"]
theorem sc_time_index : FnScope N_time_index ["lines", "done", "day"] (defScope st_time_index) := ⟨rfl, rfl, rfl, by decide +kernel, rfl, by decide +kernel, by decide +kernel⟩
abbrev st_left_of : Stmt := topS 19
abbrev N_left_of : List Str := ["lines", "done"]
theorem sc_left_of : FnScope N_left_of ["lines", "done"] (defScope st_left_of) := ⟨rfl, rfl, rfl, by decide +kernel, rfl, by decide +kernel, by decide +kernel⟩
abbrev st_forecast : Stmt := topS 20
abbrev N_forecast : List Str := ["lines", "done", "spent", "day", "way", "cost", "index", "pace"]
theorem sc_forecast : FnScope N_forecast ["lines", "done", "spent", "day", "way"] (defScope st_forecast) := ⟨rfl, rfl, rfl, by decide +kernel, rfl, by decide +kernel, by decide +kernel⟩
abbrev st_needed_index : Stmt := topS 21
abbrev N_needed_index : List Str := ["lines", "done", "spent", "limit", "left"]
theorem sc_needed_index : FnScope N_needed_index ["lines", "done", "spent", "limit"] (defScope st_needed_index) := ⟨rfl, rfl, rfl, by decide +kernel, rfl, by decide +kernel, by decide +kernel⟩
abbrev st_last_end : Stmt := topS 22
abbrev N_last_end : List Str := ["lines", "name"]
theorem sc_last_end : FnScope N_last_end ["lines"] (defScope st_last_end) := ⟨rfl, rfl, rfl, by decide +kernel, rfl, by decide +kernel, by decide +kernel⟩
abbrev st_curve : Stmt := topS 23
abbrev N_curve : List Str := ["lines", "day"]
theorem sc_curve : FnScope N_curve ["lines"] (defScope st_curve) := ⟨rfl, rfl, rfl, by decide +kernel, rfl, by decide +kernel, by decide +kernel⟩
abbrev st_earned_day : Stmt := topS 24
abbrev N_earned_day : List Str := ["lines", "done", "day", "worth"]
theorem sc_earned_day : FnScope N_earned_day ["lines", "done"] (defScope st_earned_day) := ⟨rfl, rfl, rfl, by decide +kernel, rfl, by decide +kernel, by decide +kernel⟩
abbrev st_is_behind : Stmt := topS 25
abbrev N_is_behind : List Str := ["lines", "done", "day"]
theorem sc_is_behind : FnScope N_is_behind ["lines", "done", "day"] (defScope st_is_behind) := ⟨rfl, rfl, rfl, by decide +kernel, rfl, by decide +kernel, by decide +kernel⟩
abbrev st_is_over : Stmt := topS 26
abbrev N_is_over : List Str := ["lines", "done", "spent"]
theorem sc_is_over : FnScope N_is_over ["lines", "done", "spent"] (defScope st_is_over) := ⟨rfl, rfl, rfl, by decide +kernel, rfl, by decide +kernel, by decide +kernel⟩
abbrev st_worst_lines : Stmt := topS 27
abbrev N_worst_lines : List Str := ["lines", "done", "spent", "found", "name"]
theorem sc_worst_lines : FnScope N_worst_lines ["lines", "done", "spent"] (defScope st_worst_lines) := ⟨rfl, rfl, rfl, by decide +kernel, rfl, by decide +kernel, by decide +kernel⟩
abbrev st__law_draws : Stmt := topS 29
abbrev N__law_draws : List Str := ["script", "many", "draws", "mixed", "k", "cell", "rest", "turn"]
theorem sc__law_draws : FnScope N__law_draws ["script", "many"] (defScope st__law_draws) := ⟨rfl, rfl, rfl, by decide +kernel, rfl, by decide +kernel, by decide +kernel⟩
abbrev st__law_next : Stmt := topS 30
abbrev N__law_next : List Str := ["w", "many"]
theorem sc__law_next : FnScope N__law_next ["w", "many"] (defScope st__law_next) := ⟨rfl, rfl, rfl, by decide +kernel, rfl, by decide +kernel, by decide +kernel⟩
abbrev st__law_part : Stmt := topS 31
abbrev N__law_part : List Str := ["upper", "lower", "a", "b"]
theorem sc__law_part : FnScope N__law_part ["upper", "lower"] (defScope st__law_part) := ⟨rfl, rfl, rfl, by decide +kernel, rfl, by decide +kernel, by decide +kernel⟩
abbrev st__law_add : Stmt := topS 32
abbrev N__law_add : List Str := ["rows", "upper", "lower", "one"]
theorem sc__law_add : FnScope N__law_add ["rows"] (defScope st__law_add) := ⟨rfl, rfl, rfl, by decide +kernel, rfl, by decide +kernel, by decide +kernel⟩
abbrev st__law_planned : Stmt := topS 33
abbrev N__law_planned : List Str := ["lines", "day", "rows", "name", "begin", "days", "budget", "own"]
theorem sc__law_planned : FnScope N__law_planned ["lines", "day"] (defScope st__law_planned) := ⟨rfl, rfl, rfl, by decide +kernel, rfl, by decide +kernel, by decide +kernel⟩
abbrev st__law_by : Stmt := topS 34
abbrev N__law_by : List Str := ["one", "other"]
theorem sc__law_by : FnScope N__law_by ["one", "other"] (defScope st__law_by) := ⟨rfl, rfl, rfl, by decide +kernel, rfl, by decide +kernel, by decide +kernel⟩
abbrev st_law : Stmt := topS 35
abbrev N_law : List Str := ["script", "w", "turn", "lines", "done", "spent", "name", "lower", "day", "limit", "worths", "worth", "plan", "cost", "whole", "left", "index", "pace", "due", "both", "last", "able", "own"]
theorem sc_law : FnScope N_law ["script"] (defScope st_law) := ⟨rfl, rfl, rfl, by decide +kernel, rfl, by decide +kernel, by decide +kernel⟩
theorem nm_a : Nm "a" := ⟨rfl, rfl⟩
theorem nm_able : Nm "able" := ⟨rfl, rfl⟩
theorem nm_b : Nm "b" := ⟨rfl, rfl⟩
theorem nm_begin : Nm "begin" := ⟨rfl, rfl⟩
theorem nm_both : Nm "both" := ⟨rfl, rfl⟩
theorem nm_budget : Nm "budget" := ⟨rfl, rfl⟩
theorem nm_cell : Nm "cell" := ⟨rfl, rfl⟩
theorem nm_common : Nm "common" := ⟨rfl, rfl⟩
theorem nm_cost : Nm "cost" := ⟨rfl, rfl⟩
theorem nm_day : Nm "day" := ⟨rfl, rfl⟩
theorem nm_days : Nm "days" := ⟨rfl, rfl⟩
theorem nm_done : Nm "done" := ⟨rfl, rfl⟩
theorem nm_draws : Nm "draws" := ⟨rfl, rfl⟩
theorem nm_due : Nm "due" := ⟨rfl, rfl⟩
theorem nm_found : Nm "found" := ⟨rfl, rfl⟩
theorem nm_fractions : Nm "fractions" := ⟨rfl, rfl⟩
theorem nm_index : Nm "index" := ⟨rfl, rfl⟩
theorem nm_k : Nm "k" := ⟨rfl, rfl⟩
theorem nm_last : Nm "last" := ⟨rfl, rfl⟩
theorem nm_left : Nm "left" := ⟨rfl, rfl⟩
theorem nm_limit : Nm "limit" := ⟨rfl, rfl⟩
theorem nm_line : Nm "line" := ⟨rfl, rfl⟩
theorem nm_lines : Nm "lines" := ⟨rfl, rfl⟩
theorem nm_lower : Nm "lower" := ⟨rfl, rfl⟩
theorem nm_many : Nm "many" := ⟨rfl, rfl⟩
theorem nm_mixed : Nm "mixed" := ⟨rfl, rfl⟩
theorem nm_name : Nm "name" := ⟨rfl, rfl⟩
theorem nm_one : Nm "one" := ⟨rfl, rfl⟩
theorem nm_other : Nm "other" := ⟨rfl, rfl⟩
theorem nm_own : Nm "own" := ⟨rfl, rfl⟩
theorem nm_pace : Nm "pace" := ⟨rfl, rfl⟩
theorem nm_plan : Nm "plan" := ⟨rfl, rfl⟩
theorem nm_planned : Nm "planned" := ⟨rfl, rfl⟩
theorem nm_rest : Nm "rest" := ⟨rfl, rfl⟩
theorem nm_rows : Nm "rows" := ⟨rfl, rfl⟩
theorem nm_script : Nm "script" := ⟨rfl, rfl⟩
theorem nm_spent : Nm "spent" := ⟨rfl, rfl⟩
theorem nm_upper : Nm "upper" := ⟨rfl, rfl⟩
theorem nm_w : Nm "w" := ⟨rfl, rfl⟩
theorem nm_way : Nm "way" := ⟨rfl, rfl⟩
theorem nm_whole : Nm "whole" := ⟨rfl, rfl⟩
theorem nm_worth : Nm "worth" := ⟨rfl, rfl⟩
theorem nm_worths : Nm "worths" := ⟨rfl, rfl⟩
theorem lk_divisor_a : (defScope st_divisor).names.lookup ("a" : Str) = some .local := by decide +kernel
theorem lk_divisor_b : (defScope st_divisor).names.lookup ("b" : Str) = some .local := by decide +kernel
theorem va_divisor_a {P : Program} {w : World} {K : PySem.W.Frag} {mg : Str → Option Value} {base : Heap} {k : Nat} {fn : Str → Bool} : VarAt ⟨P, w, K, mg, base, N_divisor, defScope st_divisor, k, fn⟩ 0 "a" := vaL rfl lk_divisor_a nm_a
theorem va_divisor_b {P : Program} {w : World} {K : PySem.W.Frag} {mg : Str → Option Value} {base : Heap} {k : Nat} {fn : Str → Bool} : VarAt ⟨P, w, K, mg, base, N_divisor, defScope st_divisor, k, fn⟩ 1 "b" := vaL rfl lk_divisor_b nm_b
theorem sa_divisor_a {P : Program} {w : World} {K : PySem.W.Frag} {mg : Str → Option Value} {base : Heap} {k : Nat} : SetAt ⟨P, w, K, mg, base, N_divisor, defScope st_divisor, k, fun _ => true⟩ 0 "a" := saL rfl lk_divisor_a
theorem sa_divisor_b {P : Program} {w : World} {K : PySem.W.Frag} {mg : Str → Option Value} {base : Heap} {k : Nat} : SetAt ⟨P, w, K, mg, base, N_divisor, defScope st_divisor, k, fun _ => true⟩ 1 "b" := saL rfl lk_divisor_b
theorem lk_fraction_a : (defScope st_fraction).names.lookup ("a" : Str) = some .local := by decide +kernel
theorem lk_fraction_abs : (defScope st_fraction).names.lookup ("abs" : Str) = some .globalImplicit := by decide +kernel
theorem lk_fraction_b : (defScope st_fraction).names.lookup ("b" : Str) = some .local := by decide +kernel
theorem lk_fraction_common : (defScope st_fraction).names.lookup ("common" : Str) = some .local := by decide +kernel
theorem lk_fraction_divisor : (defScope st_fraction).names.lookup ("divisor" : Str) = some .globalImplicit := by decide +kernel
theorem va_fraction_a {P : Program} {w : World} {K : PySem.W.Frag} {mg : Str → Option Value} {base : Heap} {k : Nat} {fn : Str → Bool} : VarAt ⟨P, w, K, mg, base, N_fraction, defScope st_fraction, k, fn⟩ 0 "a" := vaL rfl lk_fraction_a nm_a
theorem va_fraction_b {P : Program} {w : World} {K : PySem.W.Frag} {mg : Str → Option Value} {base : Heap} {k : Nat} {fn : Str → Bool} : VarAt ⟨P, w, K, mg, base, N_fraction, defScope st_fraction, k, fn⟩ 1 "b" := vaL rfl lk_fraction_b nm_b
theorem va_fraction_common {P : Program} {w : World} {K : PySem.W.Frag} {mg : Str → Option Value} {base : Heap} {k : Nat} {fn : Str → Bool} : VarAt ⟨P, w, K, mg, base, N_fraction, defScope st_fraction, k, fn⟩ 2 "common" := vaL rfl lk_fraction_common nm_common
theorem sa_fraction_common {P : Program} {w : World} {K : PySem.W.Frag} {mg : Str → Option Value} {base : Heap} {k : Nat} : SetAt ⟨P, w, K, mg, base, N_fraction, defScope st_fraction, k, fun _ => true⟩ 2 "common" := saL rfl lk_fraction_common
theorem lk_plus_fraction : (defScope st_plus).names.lookup ("fraction" : Str) = some .globalImplicit := by decide +kernel
theorem lk_plus_one : (defScope st_plus).names.lookup ("one" : Str) = some .local := by decide +kernel
theorem lk_plus_other : (defScope st_plus).names.lookup ("other" : Str) = some .local := by decide +kernel
theorem va_plus_one {P : Program} {w : World} {K : PySem.W.Frag} {mg : Str → Option Value} {base : Heap} {k : Nat} {fn : Str → Bool} : VarAt ⟨P, w, K, mg, base, N_plus, defScope st_plus, k, fn⟩ 0 "one" := vaL rfl lk_plus_one nm_one
theorem va_plus_other {P : Program} {w : World} {K : PySem.W.Frag} {mg : Str → Option Value} {base : Heap} {k : Nat} {fn : Str → Bool} : VarAt ⟨P, w, K, mg, base, N_plus, defScope st_plus, k, fn⟩ 1 "other" := vaL rfl lk_plus_other nm_other
theorem lk_times_fraction : (defScope st_times).names.lookup ("fraction" : Str) = some .globalImplicit := by decide +kernel
theorem lk_times_one : (defScope st_times).names.lookup ("one" : Str) = some .local := by decide +kernel
theorem lk_times_other : (defScope st_times).names.lookup ("other" : Str) = some .local := by decide +kernel
theorem va_times_one {P : Program} {w : World} {K : PySem.W.Frag} {mg : Str → Option Value} {base : Heap} {k : Nat} {fn : Str → Bool} : VarAt ⟨P, w, K, mg, base, N_times, defScope st_times, k, fn⟩ 0 "one" := vaL rfl lk_times_one nm_one
theorem va_times_other {P : Program} {w : World} {K : PySem.W.Frag} {mg : Str → Option Value} {base : Heap} {k : Nat} {fn : Str → Bool} : VarAt ⟨P, w, K, mg, base, N_times, defScope st_times, k, fn⟩ 1 "other" := vaL rfl lk_times_other nm_other
theorem lk_minus_one : (defScope st_minus).names.lookup ("one" : Str) = some .local := by decide +kernel
theorem lk_minus_other : (defScope st_minus).names.lookup ("other" : Str) = some .local := by decide +kernel
theorem lk_minus_plus : (defScope st_minus).names.lookup ("plus" : Str) = some .globalImplicit := by decide +kernel
theorem va_minus_one {P : Program} {w : World} {K : PySem.W.Frag} {mg : Str → Option Value} {base : Heap} {k : Nat} {fn : Str → Bool} : VarAt ⟨P, w, K, mg, base, N_minus, defScope st_minus, k, fn⟩ 0 "one" := vaL rfl lk_minus_one nm_one
theorem va_minus_other {P : Program} {w : World} {K : PySem.W.Frag} {mg : Str → Option Value} {base : Heap} {k : Nat} {fn : Str → Bool} : VarAt ⟨P, w, K, mg, base, N_minus, defScope st_minus, k, fn⟩ 1 "other" := vaL rfl lk_minus_other nm_other
theorem lk_over_fraction : (defScope st_over).names.lookup ("fraction" : Str) = some .globalImplicit := by decide +kernel
theorem lk_over_one : (defScope st_over).names.lookup ("one" : Str) = some .local := by decide +kernel
theorem lk_over_other : (defScope st_over).names.lookup ("other" : Str) = some .local := by decide +kernel
theorem va_over_one {P : Program} {w : World} {K : PySem.W.Frag} {mg : Str → Option Value} {base : Heap} {k : Nat} {fn : Str → Bool} : VarAt ⟨P, w, K, mg, base, N_over, defScope st_over, k, fn⟩ 0 "one" := vaL rfl lk_over_one nm_one
theorem va_over_other {P : Program} {w : World} {K : PySem.W.Frag} {mg : Str → Option Value} {base : Heap} {k : Nat} {fn : Str → Bool} : VarAt ⟨P, w, K, mg, base, N_over, defScope st_over, k, fn⟩ 1 "other" := vaL rfl lk_over_other nm_other
theorem lk_is_less_one : (defScope st_is_less).names.lookup ("one" : Str) = some .local := by decide +kernel
theorem lk_is_less_other : (defScope st_is_less).names.lookup ("other" : Str) = some .local := by decide +kernel
theorem va_is_less_one {P : Program} {w : World} {K : PySem.W.Frag} {mg : Str → Option Value} {base : Heap} {k : Nat} {fn : Str → Bool} : VarAt ⟨P, w, K, mg, base, N_is_less, defScope st_is_less, k, fn⟩ 0 "one" := vaL rfl lk_is_less_one nm_one
theorem va_is_less_other {P : Program} {w : World} {K : PySem.W.Frag} {mg : Str → Option Value} {base : Heap} {k : Nat} {fn : Str → Bool} : VarAt ⟨P, w, K, mg, base, N_is_less, defScope st_is_less, k, fn⟩ 1 "other" := vaL rfl lk_is_less_other nm_other
theorem lk_sum_of_found : (defScope st_sum_of).names.lookup ("found" : Str) = some .local := by decide +kernel
theorem lk_sum_of_fractions : (defScope st_sum_of).names.lookup ("fractions" : Str) = some .local := by decide +kernel
theorem lk_sum_of_one : (defScope st_sum_of).names.lookup ("one" : Str) = some .local := by decide +kernel
theorem lk_sum_of_plus : (defScope st_sum_of).names.lookup ("plus" : Str) = some .globalImplicit := by decide +kernel
theorem va_sum_of_found {P : Program} {w : World} {K : PySem.W.Frag} {mg : Str → Option Value} {base : Heap} {k : Nat} {fn : Str → Bool} : VarAt ⟨P, w, K, mg, base, N_sum_of, defScope st_sum_of, k, fn⟩ 1 "found" := vaL rfl lk_sum_of_found nm_found
theorem va_sum_of_fractions {P : Program} {w : World} {K : PySem.W.Frag} {mg : Str → Option Value} {base : Heap} {k : Nat} {fn : Str → Bool} : VarAt ⟨P, w, K, mg, base, N_sum_of, defScope st_sum_of, k, fn⟩ 0 "fractions" := vaL rfl lk_sum_of_fractions nm_fractions
theorem va_sum_of_one {P : Program} {w : World} {K : PySem.W.Frag} {mg : Str → Option Value} {base : Heap} {k : Nat} {fn : Str → Bool} : VarAt ⟨P, w, K, mg, base, N_sum_of, defScope st_sum_of, k, fn⟩ 2 "one" := vaL rfl lk_sum_of_one nm_one
theorem sa_sum_of_found {P : Program} {w : World} {K : PySem.W.Frag} {mg : Str → Option Value} {base : Heap} {k : Nat} : SetAt ⟨P, w, K, mg, base, N_sum_of, defScope st_sum_of, k, fun _ => true⟩ 1 "found" := saL rfl lk_sum_of_found
theorem sa_sum_of_one {P : Program} {w : World} {K : PySem.W.Frag} {mg : Str → Option Value} {base : Heap} {k : Nat} : SetAt ⟨P, w, K, mg, base, N_sum_of, defScope st_sum_of, k, fun _ => true⟩ 2 "one" := saL rfl lk_sum_of_one
theorem lk_planned_of_begin : (defScope st_planned_of).names.lookup ("begin" : Str) = some .local := by decide +kernel
theorem lk_planned_of_budget : (defScope st_planned_of).names.lookup ("budget" : Str) = some .local := by decide +kernel
theorem lk_planned_of_day : (defScope st_planned_of).names.lookup ("day" : Str) = some .local := by decide +kernel
theorem lk_planned_of_days : (defScope st_planned_of).names.lookup ("days" : Str) = some .local := by decide +kernel
theorem lk_planned_of_fraction : (defScope st_planned_of).names.lookup ("fraction" : Str) = some .globalImplicit := by decide +kernel
theorem lk_planned_of_line : (defScope st_planned_of).names.lookup ("line" : Str) = some .local := by decide +kernel
theorem lk_planned_of_max : (defScope st_planned_of).names.lookup ("max" : Str) = some .globalImplicit := by decide +kernel
theorem lk_planned_of_min : (defScope st_planned_of).names.lookup ("min" : Str) = some .globalImplicit := by decide +kernel
theorem va_planned_of_begin {P : Program} {w : World} {K : PySem.W.Frag} {mg : Str → Option Value} {base : Heap} {k : Nat} {fn : Str → Bool} : VarAt ⟨P, w, K, mg, base, N_planned_of, defScope st_planned_of, k, fn⟩ 2 "begin" := vaL rfl lk_planned_of_begin nm_begin
theorem va_planned_of_budget {P : Program} {w : World} {K : PySem.W.Frag} {mg : Str → Option Value} {base : Heap} {k : Nat} {fn : Str → Bool} : VarAt ⟨P, w, K, mg, base, N_planned_of, defScope st_planned_of, k, fn⟩ 4 "budget" := vaL rfl lk_planned_of_budget nm_budget
theorem va_planned_of_day {P : Program} {w : World} {K : PySem.W.Frag} {mg : Str → Option Value} {base : Heap} {k : Nat} {fn : Str → Bool} : VarAt ⟨P, w, K, mg, base, N_planned_of, defScope st_planned_of, k, fn⟩ 1 "day" := vaL rfl lk_planned_of_day nm_day
theorem va_planned_of_days {P : Program} {w : World} {K : PySem.W.Frag} {mg : Str → Option Value} {base : Heap} {k : Nat} {fn : Str → Bool} : VarAt ⟨P, w, K, mg, base, N_planned_of, defScope st_planned_of, k, fn⟩ 3 "days" := vaL rfl lk_planned_of_days nm_days
theorem va_planned_of_line {P : Program} {w : World} {K : PySem.W.Frag} {mg : Str → Option Value} {base : Heap} {k : Nat} {fn : Str → Bool} : VarAt ⟨P, w, K, mg, base, N_planned_of, defScope st_planned_of, k, fn⟩ 0 "line" := vaL rfl lk_planned_of_line nm_line
theorem sa_planned_of_begin {P : Program} {w : World} {K : PySem.W.Frag} {mg : Str → Option Value} {base : Heap} {k : Nat} : SetAt ⟨P, w, K, mg, base, N_planned_of, defScope st_planned_of, k, fun _ => true⟩ 2 "begin" := saL rfl lk_planned_of_begin
theorem sa_planned_of_budget {P : Program} {w : World} {K : PySem.W.Frag} {mg : Str → Option Value} {base : Heap} {k : Nat} : SetAt ⟨P, w, K, mg, base, N_planned_of, defScope st_planned_of, k, fun _ => true⟩ 4 "budget" := saL rfl lk_planned_of_budget
theorem sa_planned_of_days {P : Program} {w : World} {K : PySem.W.Frag} {mg : Str → Option Value} {base : Heap} {k : Nat} : SetAt ⟨P, w, K, mg, base, N_planned_of, defScope st_planned_of, k, fun _ => true⟩ 3 "days" := saL rfl lk_planned_of_days
theorem lk_planned_at_day : (defScope st_planned_at).names.lookup ("day" : Str) = some .cell := by decide +kernel
theorem lk_planned_at_lines : (defScope st_planned_at).names.lookup ("lines" : Str) = some .cell := by decide +kernel
theorem lk_planned_at_sum_of : (defScope st_planned_at).names.lookup ("sum_of" : Str) = some .globalImplicit := by decide +kernel
theorem va_planned_at_lines {P : Program} {w : World} {K : PySem.W.Frag} {mg : Str → Option Value} {base : Heap} {k : Nat} {fn : Str → Bool} : VarAt ⟨P, w, K, mg, base, N_planned_at, defScope st_planned_at, k, fn⟩ 0 "lines" := vaC rfl lk_planned_at_lines nm_lines
theorem lk_earned_of_NOTHING : (defScope st_earned_of).names.lookup ("NOTHING" : Str) = some .globalImplicit := by decide +kernel
theorem lk_earned_of_done : (defScope st_earned_of).names.lookup ("done" : Str) = some .local := by decide +kernel
theorem lk_earned_of_lines : (defScope st_earned_of).names.lookup ("lines" : Str) = some .local := by decide +kernel
theorem lk_earned_of_name : (defScope st_earned_of).names.lookup ("name" : Str) = some .local := by decide +kernel
theorem lk_earned_of_times : (defScope st_earned_of).names.lookup ("times" : Str) = some .globalImplicit := by decide +kernel
theorem va_earned_of_done {P : Program} {w : World} {K : PySem.W.Frag} {mg : Str → Option Value} {base : Heap} {k : Nat} {fn : Str → Bool} : VarAt ⟨P, w, K, mg, base, N_earned_of, defScope st_earned_of, k, fn⟩ 1 "done" := vaL rfl lk_earned_of_done nm_done
theorem va_earned_of_lines {P : Program} {w : World} {K : PySem.W.Frag} {mg : Str → Option Value} {base : Heap} {k : Nat} {fn : Str → Bool} : VarAt ⟨P, w, K, mg, base, N_earned_of, defScope st_earned_of, k, fn⟩ 0 "lines" := vaL rfl lk_earned_of_lines nm_lines
theorem va_earned_of_name {P : Program} {w : World} {K : PySem.W.Frag} {mg : Str → Option Value} {base : Heap} {k : Nat} {fn : Str → Bool} : VarAt ⟨P, w, K, mg, base, N_earned_of, defScope st_earned_of, k, fn⟩ 2 "name" := vaL rfl lk_earned_of_name nm_name
theorem lk_earned_done : (defScope st_earned).names.lookup ("done" : Str) = some .cell := by decide +kernel
theorem lk_earned_lines : (defScope st_earned).names.lookup ("lines" : Str) = some .cell := by decide +kernel
theorem lk_earned_sum_of : (defScope st_earned).names.lookup ("sum_of" : Str) = some .globalImplicit := by decide +kernel
theorem va_earned_lines {P : Program} {w : World} {K : PySem.W.Frag} {mg : Str → Option Value} {base : Heap} {k : Nat} {fn : Str → Bool} : VarAt ⟨P, w, K, mg, base, N_earned, defScope st_earned, k, fn⟩ 0 "lines" := vaC rfl lk_earned_lines nm_lines
theorem lk_cost_so_far_spent : (defScope st_cost_so_far).names.lookup ("spent" : Str) = some .cell := by decide +kernel
theorem lk_cost_so_far_sum : (defScope st_cost_so_far).names.lookup ("sum" : Str) = some .globalImplicit := by decide +kernel
theorem va_cost_so_far_spent {P : Program} {w : World} {K : PySem.W.Frag} {mg : Str → Option Value} {base : Heap} {k : Nat} {fn : Str → Bool} : VarAt ⟨P, w, K, mg, base, N_cost_so_far, defScope st_cost_so_far, k, fn⟩ 0 "spent" := vaC rfl lk_cost_so_far_spent nm_spent
theorem lk_budget_of_lines : (defScope st_budget_of).names.lookup ("lines" : Str) = some .cell := by decide +kernel
theorem lk_budget_of_sum : (defScope st_budget_of).names.lookup ("sum" : Str) = some .globalImplicit := by decide +kernel
theorem va_budget_of_lines {P : Program} {w : World} {K : PySem.W.Frag} {mg : Str → Option Value} {base : Heap} {k : Nat} {fn : Str → Bool} : VarAt ⟨P, w, K, mg, base, N_budget_of, defScope st_budget_of, k, fn⟩ 0 "lines" := vaC rfl lk_budget_of_lines nm_lines
theorem lk_cost_index_cost : (defScope st_cost_index).names.lookup ("cost" : Str) = some .local := by decide +kernel
theorem lk_cost_index_cost_so_far : (defScope st_cost_index).names.lookup ("cost_so_far" : Str) = some .globalImplicit := by decide +kernel
theorem lk_cost_index_done : (defScope st_cost_index).names.lookup ("done" : Str) = some .local := by decide +kernel
theorem lk_cost_index_earned : (defScope st_cost_index).names.lookup ("earned" : Str) = some .globalImplicit := by decide +kernel
theorem lk_cost_index_lines : (defScope st_cost_index).names.lookup ("lines" : Str) = some .local := by decide +kernel
theorem lk_cost_index_over : (defScope st_cost_index).names.lookup ("over" : Str) = some .globalImplicit := by decide +kernel
theorem lk_cost_index_spent : (defScope st_cost_index).names.lookup ("spent" : Str) = some .local := by decide +kernel
theorem va_cost_index_cost {P : Program} {w : World} {K : PySem.W.Frag} {mg : Str → Option Value} {base : Heap} {k : Nat} {fn : Str → Bool} : VarAt ⟨P, w, K, mg, base, N_cost_index, defScope st_cost_index, k, fn⟩ 3 "cost" := vaL rfl lk_cost_index_cost nm_cost
theorem va_cost_index_done {P : Program} {w : World} {K : PySem.W.Frag} {mg : Str → Option Value} {base : Heap} {k : Nat} {fn : Str → Bool} : VarAt ⟨P, w, K, mg, base, N_cost_index, defScope st_cost_index, k, fn⟩ 1 "done" := vaL rfl lk_cost_index_done nm_done
theorem va_cost_index_lines {P : Program} {w : World} {K : PySem.W.Frag} {mg : Str → Option Value} {base : Heap} {k : Nat} {fn : Str → Bool} : VarAt ⟨P, w, K, mg, base, N_cost_index, defScope st_cost_index, k, fn⟩ 0 "lines" := vaL rfl lk_cost_index_lines nm_lines
theorem va_cost_index_spent {P : Program} {w : World} {K : PySem.W.Frag} {mg : Str → Option Value} {base : Heap} {k : Nat} {fn : Str → Bool} : VarAt ⟨P, w, K, mg, base, N_cost_index, defScope st_cost_index, k, fn⟩ 2 "spent" := vaL rfl lk_cost_index_spent nm_spent
theorem sa_cost_index_cost {P : Program} {w : World} {K : PySem.W.Frag} {mg : Str → Option Value} {base : Heap} {k : Nat} : SetAt ⟨P, w, K, mg, base, N_cost_index, defScope st_cost_index, k, fun _ => true⟩ 3 "cost" := saL rfl lk_cost_index_cost
theorem lk_time_index_NOTHING : (defScope st_time_index).names.lookup ("NOTHING" : Str) = some .globalImplicit := by decide +kernel
theorem lk_time_index_day : (defScope st_time_index).names.lookup ("day" : Str) = some .local := by decide +kernel
theorem lk_time_index_done : (defScope st_time_index).names.lookup ("done" : Str) = some .local := by decide +kernel
theorem lk_time_index_earned : (defScope st_time_index).names.lookup ("earned" : Str) = some .globalImplicit := by decide +kernel
theorem lk_time_index_lines : (defScope st_time_index).names.lookup ("lines" : Str) = some .local := by decide +kernel
theorem lk_time_index_over : (defScope st_time_index).names.lookup ("over" : Str) = some .globalImplicit := by decide +kernel
theorem lk_time_index_planned : (defScope st_time_index).names.lookup ("planned" : Str) = some .local := by decide +kernel
theorem lk_time_index_planned_at : (defScope st_time_index).names.lookup ("planned_at" : Str) = some .globalImplicit := by decide +kernel
theorem va_time_index_day {P : Program} {w : World} {K : PySem.W.Frag} {mg : Str → Option Value} {base : Heap} {k : Nat} {fn : Str → Bool} : VarAt ⟨P, w, K, mg, base, N_time_index, defScope st_time_index, k, fn⟩ 2 "day" := vaL rfl lk_time_index_day nm_day
theorem va_time_index_done {P : Program} {w : World} {K : PySem.W.Frag} {mg : Str → Option Value} {base : Heap} {k : Nat} {fn : Str → Bool} : VarAt ⟨P, w, K, mg, base, N_time_index, defScope st_time_index, k, fn⟩ 1 "done" := vaL rfl lk_time_index_done nm_done
theorem va_time_index_lines {P : Program} {w : World} {K : PySem.W.Frag} {mg : Str → Option Value} {base : Heap} {k : Nat} {fn : Str → Bool} : VarAt ⟨P, w, K, mg, base, N_time_index, defScope st_time_index, k, fn⟩ 0 "lines" := vaL rfl lk_time_index_lines nm_lines
theorem va_time_index_planned {P : Program} {w : World} {K : PySem.W.Frag} {mg : Str → Option Value} {base : Heap} {k : Nat} {fn : Str → Bool} : VarAt ⟨P, w, K, mg, base, N_time_index, defScope st_time_index, k, fn⟩ 3 "planned" := vaL rfl lk_time_index_planned nm_planned
theorem sa_time_index_planned {P : Program} {w : World} {K : PySem.W.Frag} {mg : Str → Option Value} {base : Heap} {k : Nat} : SetAt ⟨P, w, K, mg, base, N_time_index, defScope st_time_index, k, fun _ => true⟩ 3 "planned" := saL rfl lk_time_index_planned
theorem lk_left_of_budget_of : (defScope st_left_of).names.lookup ("budget_of" : Str) = some .globalImplicit := by decide +kernel
theorem lk_left_of_done : (defScope st_left_of).names.lookup ("done" : Str) = some .local := by decide +kernel
theorem lk_left_of_earned : (defScope st_left_of).names.lookup ("earned" : Str) = some .globalImplicit := by decide +kernel
theorem lk_left_of_lines : (defScope st_left_of).names.lookup ("lines" : Str) = some .local := by decide +kernel
theorem lk_left_of_minus : (defScope st_left_of).names.lookup ("minus" : Str) = some .globalImplicit := by decide +kernel
theorem va_left_of_done {P : Program} {w : World} {K : PySem.W.Frag} {mg : Str → Option Value} {base : Heap} {k : Nat} {fn : Str → Bool} : VarAt ⟨P, w, K, mg, base, N_left_of, defScope st_left_of, k, fn⟩ 1 "done" := vaL rfl lk_left_of_done nm_done
theorem va_left_of_lines {P : Program} {w : World} {K : PySem.W.Frag} {mg : Str → Option Value} {base : Heap} {k : Nat} {fn : Str → Bool} : VarAt ⟨P, w, K, mg, base, N_left_of, defScope st_left_of, k, fn⟩ 0 "lines" := vaL rfl lk_left_of_lines nm_lines
theorem lk_forecast_NOTHING : (defScope st_forecast).names.lookup ("NOTHING" : Str) = some .globalImplicit := by decide +kernel
theorem lk_forecast_budget_of : (defScope st_forecast).names.lookup ("budget_of" : Str) = some .globalImplicit := by decide +kernel
theorem lk_forecast_cost : (defScope st_forecast).names.lookup ("cost" : Str) = some .local := by decide +kernel
theorem lk_forecast_cost_index : (defScope st_forecast).names.lookup ("cost_index" : Str) = some .globalImplicit := by decide +kernel
theorem lk_forecast_cost_so_far : (defScope st_forecast).names.lookup ("cost_so_far" : Str) = some .globalImplicit := by decide +kernel
theorem lk_forecast_day : (defScope st_forecast).names.lookup ("day" : Str) = some .local := by decide +kernel
theorem lk_forecast_done : (defScope st_forecast).names.lookup ("done" : Str) = some .local := by decide +kernel
theorem lk_forecast_index : (defScope st_forecast).names.lookup ("index" : Str) = some .local := by decide +kernel
theorem lk_forecast_left_of : (defScope st_forecast).names.lookup ("left_of" : Str) = some .globalImplicit := by decide +kernel
theorem lk_forecast_lines : (defScope st_forecast).names.lookup ("lines" : Str) = some .local := by decide +kernel
theorem lk_forecast_over : (defScope st_forecast).names.lookup ("over" : Str) = some .globalImplicit := by decide +kernel
theorem lk_forecast_pace : (defScope st_forecast).names.lookup ("pace" : Str) = some .local := by decide +kernel
theorem lk_forecast_plus : (defScope st_forecast).names.lookup ("plus" : Str) = some .globalImplicit := by decide +kernel
theorem lk_forecast_spent : (defScope st_forecast).names.lookup ("spent" : Str) = some .local := by decide +kernel
theorem lk_forecast_time_index : (defScope st_forecast).names.lookup ("time_index" : Str) = some .globalImplicit := by decide +kernel
theorem lk_forecast_times : (defScope st_forecast).names.lookup ("times" : Str) = some .globalImplicit := by decide +kernel
theorem lk_forecast_way : (defScope st_forecast).names.lookup ("way" : Str) = some .local := by decide +kernel
theorem va_forecast_cost {P : Program} {w : World} {K : PySem.W.Frag} {mg : Str → Option Value} {base : Heap} {k : Nat} {fn : Str → Bool} : VarAt ⟨P, w, K, mg, base, N_forecast, defScope st_forecast, k, fn⟩ 5 "cost" := vaL rfl lk_forecast_cost nm_cost
theorem va_forecast_day {P : Program} {w : World} {K : PySem.W.Frag} {mg : Str → Option Value} {base : Heap} {k : Nat} {fn : Str → Bool} : VarAt ⟨P, w, K, mg, base, N_forecast, defScope st_forecast, k, fn⟩ 3 "day" := vaL rfl lk_forecast_day nm_day
theorem va_forecast_done {P : Program} {w : World} {K : PySem.W.Frag} {mg : Str → Option Value} {base : Heap} {k : Nat} {fn : Str → Bool} : VarAt ⟨P, w, K, mg, base, N_forecast, defScope st_forecast, k, fn⟩ 1 "done" := vaL rfl lk_forecast_done nm_done
theorem va_forecast_index {P : Program} {w : World} {K : PySem.W.Frag} {mg : Str → Option Value} {base : Heap} {k : Nat} {fn : Str → Bool} : VarAt ⟨P, w, K, mg, base, N_forecast, defScope st_forecast, k, fn⟩ 6 "index" := vaL rfl lk_forecast_index nm_index
theorem va_forecast_lines {P : Program} {w : World} {K : PySem.W.Frag} {mg : Str → Option Value} {base : Heap} {k : Nat} {fn : Str → Bool} : VarAt ⟨P, w, K, mg, base, N_forecast, defScope st_forecast, k, fn⟩ 0 "lines" := vaL rfl lk_forecast_lines nm_lines
theorem va_forecast_pace {P : Program} {w : World} {K : PySem.W.Frag} {mg : Str → Option Value} {base : Heap} {k : Nat} {fn : Str → Bool} : VarAt ⟨P, w, K, mg, base, N_forecast, defScope st_forecast, k, fn⟩ 7 "pace" := vaL rfl lk_forecast_pace nm_pace
theorem va_forecast_spent {P : Program} {w : World} {K : PySem.W.Frag} {mg : Str → Option Value} {base : Heap} {k : Nat} {fn : Str → Bool} : VarAt ⟨P, w, K, mg, base, N_forecast, defScope st_forecast, k, fn⟩ 2 "spent" := vaL rfl lk_forecast_spent nm_spent
theorem va_forecast_way {P : Program} {w : World} {K : PySem.W.Frag} {mg : Str → Option Value} {base : Heap} {k : Nat} {fn : Str → Bool} : VarAt ⟨P, w, K, mg, base, N_forecast, defScope st_forecast, k, fn⟩ 4 "way" := vaL rfl lk_forecast_way nm_way
theorem sa_forecast_cost {P : Program} {w : World} {K : PySem.W.Frag} {mg : Str → Option Value} {base : Heap} {k : Nat} : SetAt ⟨P, w, K, mg, base, N_forecast, defScope st_forecast, k, fun _ => true⟩ 5 "cost" := saL rfl lk_forecast_cost
theorem sa_forecast_index {P : Program} {w : World} {K : PySem.W.Frag} {mg : Str → Option Value} {base : Heap} {k : Nat} : SetAt ⟨P, w, K, mg, base, N_forecast, defScope st_forecast, k, fun _ => true⟩ 6 "index" := saL rfl lk_forecast_index
theorem sa_forecast_pace {P : Program} {w : World} {K : PySem.W.Frag} {mg : Str → Option Value} {base : Heap} {k : Nat} : SetAt ⟨P, w, K, mg, base, N_forecast, defScope st_forecast, k, fun _ => true⟩ 7 "pace" := saL rfl lk_forecast_pace
theorem lk_needed_index_cost_so_far : (defScope st_needed_index).names.lookup ("cost_so_far" : Str) = some .globalImplicit := by decide +kernel
theorem lk_needed_index_done : (defScope st_needed_index).names.lookup ("done" : Str) = some .local := by decide +kernel
theorem lk_needed_index_left : (defScope st_needed_index).names.lookup ("left" : Str) = some .local := by decide +kernel
theorem lk_needed_index_left_of : (defScope st_needed_index).names.lookup ("left_of" : Str) = some .globalImplicit := by decide +kernel
theorem lk_needed_index_limit : (defScope st_needed_index).names.lookup ("limit" : Str) = some .local := by decide +kernel
theorem lk_needed_index_lines : (defScope st_needed_index).names.lookup ("lines" : Str) = some .local := by decide +kernel
theorem lk_needed_index_over : (defScope st_needed_index).names.lookup ("over" : Str) = some .globalImplicit := by decide +kernel
theorem lk_needed_index_spent : (defScope st_needed_index).names.lookup ("spent" : Str) = some .local := by decide +kernel
theorem va_needed_index_done {P : Program} {w : World} {K : PySem.W.Frag} {mg : Str → Option Value} {base : Heap} {k : Nat} {fn : Str → Bool} : VarAt ⟨P, w, K, mg, base, N_needed_index, defScope st_needed_index, k, fn⟩ 1 "done" := vaL rfl lk_needed_index_done nm_done
theorem va_needed_index_left {P : Program} {w : World} {K : PySem.W.Frag} {mg : Str → Option Value} {base : Heap} {k : Nat} {fn : Str → Bool} : VarAt ⟨P, w, K, mg, base, N_needed_index, defScope st_needed_index, k, fn⟩ 4 "left" := vaL rfl lk_needed_index_left nm_left
theorem va_needed_index_limit {P : Program} {w : World} {K : PySem.W.Frag} {mg : Str → Option Value} {base : Heap} {k : Nat} {fn : Str → Bool} : VarAt ⟨P, w, K, mg, base, N_needed_index, defScope st_needed_index, k, fn⟩ 3 "limit" := vaL rfl lk_needed_index_limit nm_limit
theorem va_needed_index_lines {P : Program} {w : World} {K : PySem.W.Frag} {mg : Str → Option Value} {base : Heap} {k : Nat} {fn : Str → Bool} : VarAt ⟨P, w, K, mg, base, N_needed_index, defScope st_needed_index, k, fn⟩ 0 "lines" := vaL rfl lk_needed_index_lines nm_lines
theorem va_needed_index_spent {P : Program} {w : World} {K : PySem.W.Frag} {mg : Str → Option Value} {base : Heap} {k : Nat} {fn : Str → Bool} : VarAt ⟨P, w, K, mg, base, N_needed_index, defScope st_needed_index, k, fn⟩ 2 "spent" := vaL rfl lk_needed_index_spent nm_spent
theorem sa_needed_index_left {P : Program} {w : World} {K : PySem.W.Frag} {mg : Str → Option Value} {base : Heap} {k : Nat} : SetAt ⟨P, w, K, mg, base, N_needed_index, defScope st_needed_index, k, fun _ => true⟩ 4 "left" := saL rfl lk_needed_index_left
theorem lk_last_end_lines : (defScope st_last_end).names.lookup ("lines" : Str) = some .cell := by decide +kernel
theorem lk_last_end_max : (defScope st_last_end).names.lookup ("max" : Str) = some .globalImplicit := by decide +kernel
theorem va_last_end_lines {P : Program} {w : World} {K : PySem.W.Frag} {mg : Str → Option Value} {base : Heap} {k : Nat} {fn : Str → Bool} : VarAt ⟨P, w, K, mg, base, N_last_end, defScope st_last_end, k, fn⟩ 0 "lines" := vaC rfl lk_last_end_lines nm_lines
theorem lk_curve_last_end : (defScope st_curve).names.lookup ("last_end" : Str) = some .globalImplicit := by decide +kernel
theorem lk_curve_lines : (defScope st_curve).names.lookup ("lines" : Str) = some .cell := by decide +kernel
theorem lk_curve_range : (defScope st_curve).names.lookup ("range" : Str) = some .globalImplicit := by decide +kernel
theorem lk_curve_tuple : (defScope st_curve).names.lookup ("tuple" : Str) = some .globalImplicit := by decide +kernel
theorem va_curve_lines {P : Program} {w : World} {K : PySem.W.Frag} {mg : Str → Option Value} {base : Heap} {k : Nat} {fn : Str → Bool} : VarAt ⟨P, w, K, mg, base, N_curve, defScope st_curve, k, fn⟩ 0 "lines" := vaC rfl lk_curve_lines nm_lines
theorem lk_earned_day_day : (defScope st_earned_day).names.lookup ("day" : Str) = some .local := by decide +kernel
theorem lk_earned_day_done : (defScope st_earned_day).names.lookup ("done" : Str) = some .local := by decide +kernel
theorem lk_earned_day_earned : (defScope st_earned_day).names.lookup ("earned" : Str) = some .globalImplicit := by decide +kernel
theorem lk_earned_day_is_less : (defScope st_earned_day).names.lookup ("is_less" : Str) = some .globalImplicit := by decide +kernel
theorem lk_earned_day_lines : (defScope st_earned_day).names.lookup ("lines" : Str) = some .local := by decide +kernel
theorem lk_earned_day_planned_at : (defScope st_earned_day).names.lookup ("planned_at" : Str) = some .globalImplicit := by decide +kernel
theorem lk_earned_day_worth : (defScope st_earned_day).names.lookup ("worth" : Str) = some .local := by decide +kernel
theorem va_earned_day_day {P : Program} {w : World} {K : PySem.W.Frag} {mg : Str → Option Value} {base : Heap} {k : Nat} {fn : Str → Bool} : VarAt ⟨P, w, K, mg, base, N_earned_day, defScope st_earned_day, k, fn⟩ 2 "day" := vaL rfl lk_earned_day_day nm_day
theorem va_earned_day_done {P : Program} {w : World} {K : PySem.W.Frag} {mg : Str → Option Value} {base : Heap} {k : Nat} {fn : Str → Bool} : VarAt ⟨P, w, K, mg, base, N_earned_day, defScope st_earned_day, k, fn⟩ 1 "done" := vaL rfl lk_earned_day_done nm_done
theorem va_earned_day_lines {P : Program} {w : World} {K : PySem.W.Frag} {mg : Str → Option Value} {base : Heap} {k : Nat} {fn : Str → Bool} : VarAt ⟨P, w, K, mg, base, N_earned_day, defScope st_earned_day, k, fn⟩ 0 "lines" := vaL rfl lk_earned_day_lines nm_lines
theorem va_earned_day_worth {P : Program} {w : World} {K : PySem.W.Frag} {mg : Str → Option Value} {base : Heap} {k : Nat} {fn : Str → Bool} : VarAt ⟨P, w, K, mg, base, N_earned_day, defScope st_earned_day, k, fn⟩ 3 "worth" := vaL rfl lk_earned_day_worth nm_worth
theorem sa_earned_day_day {P : Program} {w : World} {K : PySem.W.Frag} {mg : Str → Option Value} {base : Heap} {k : Nat} : SetAt ⟨P, w, K, mg, base, N_earned_day, defScope st_earned_day, k, fun _ => true⟩ 2 "day" := saL rfl lk_earned_day_day
theorem sa_earned_day_worth {P : Program} {w : World} {K : PySem.W.Frag} {mg : Str → Option Value} {base : Heap} {k : Nat} : SetAt ⟨P, w, K, mg, base, N_earned_day, defScope st_earned_day, k, fun _ => true⟩ 3 "worth" := saL rfl lk_earned_day_worth
theorem lk_is_behind_day : (defScope st_is_behind).names.lookup ("day" : Str) = some .local := by decide +kernel
theorem lk_is_behind_done : (defScope st_is_behind).names.lookup ("done" : Str) = some .local := by decide +kernel
theorem lk_is_behind_earned : (defScope st_is_behind).names.lookup ("earned" : Str) = some .globalImplicit := by decide +kernel
theorem lk_is_behind_is_less : (defScope st_is_behind).names.lookup ("is_less" : Str) = some .globalImplicit := by decide +kernel
theorem lk_is_behind_lines : (defScope st_is_behind).names.lookup ("lines" : Str) = some .local := by decide +kernel
theorem lk_is_behind_planned_at : (defScope st_is_behind).names.lookup ("planned_at" : Str) = some .globalImplicit := by decide +kernel
theorem va_is_behind_day {P : Program} {w : World} {K : PySem.W.Frag} {mg : Str → Option Value} {base : Heap} {k : Nat} {fn : Str → Bool} : VarAt ⟨P, w, K, mg, base, N_is_behind, defScope st_is_behind, k, fn⟩ 2 "day" := vaL rfl lk_is_behind_day nm_day
theorem va_is_behind_done {P : Program} {w : World} {K : PySem.W.Frag} {mg : Str → Option Value} {base : Heap} {k : Nat} {fn : Str → Bool} : VarAt ⟨P, w, K, mg, base, N_is_behind, defScope st_is_behind, k, fn⟩ 1 "done" := vaL rfl lk_is_behind_done nm_done
theorem va_is_behind_lines {P : Program} {w : World} {K : PySem.W.Frag} {mg : Str → Option Value} {base : Heap} {k : Nat} {fn : Str → Bool} : VarAt ⟨P, w, K, mg, base, N_is_behind, defScope st_is_behind, k, fn⟩ 0 "lines" := vaL rfl lk_is_behind_lines nm_lines
theorem lk_is_over_cost_so_far : (defScope st_is_over).names.lookup ("cost_so_far" : Str) = some .globalImplicit := by decide +kernel
theorem lk_is_over_done : (defScope st_is_over).names.lookup ("done" : Str) = some .local := by decide +kernel
theorem lk_is_over_earned : (defScope st_is_over).names.lookup ("earned" : Str) = some .globalImplicit := by decide +kernel
theorem lk_is_over_is_less : (defScope st_is_over).names.lookup ("is_less" : Str) = some .globalImplicit := by decide +kernel
theorem lk_is_over_lines : (defScope st_is_over).names.lookup ("lines" : Str) = some .local := by decide +kernel
theorem lk_is_over_spent : (defScope st_is_over).names.lookup ("spent" : Str) = some .local := by decide +kernel
theorem va_is_over_done {P : Program} {w : World} {K : PySem.W.Frag} {mg : Str → Option Value} {base : Heap} {k : Nat} {fn : Str → Bool} : VarAt ⟨P, w, K, mg, base, N_is_over, defScope st_is_over, k, fn⟩ 1 "done" := vaL rfl lk_is_over_done nm_done
theorem va_is_over_lines {P : Program} {w : World} {K : PySem.W.Frag} {mg : Str → Option Value} {base : Heap} {k : Nat} {fn : Str → Bool} : VarAt ⟨P, w, K, mg, base, N_is_over, defScope st_is_over, k, fn⟩ 0 "lines" := vaL rfl lk_is_over_lines nm_lines
theorem va_is_over_spent {P : Program} {w : World} {K : PySem.W.Frag} {mg : Str → Option Value} {base : Heap} {k : Nat} {fn : Str → Bool} : VarAt ⟨P, w, K, mg, base, N_is_over, defScope st_is_over, k, fn⟩ 2 "spent" := vaL rfl lk_is_over_spent nm_spent
theorem lk_worst_lines_done : (defScope st_worst_lines).names.lookup ("done" : Str) = some .local := by decide +kernel
theorem lk_worst_lines_earned_of : (defScope st_worst_lines).names.lookup ("earned_of" : Str) = some .globalImplicit := by decide +kernel
theorem lk_worst_lines_found : (defScope st_worst_lines).names.lookup ("found" : Str) = some .local := by decide +kernel
theorem lk_worst_lines_is_less : (defScope st_worst_lines).names.lookup ("is_less" : Str) = some .globalImplicit := by decide +kernel
theorem lk_worst_lines_lines : (defScope st_worst_lines).names.lookup ("lines" : Str) = some .local := by decide +kernel
theorem lk_worst_lines_name : (defScope st_worst_lines).names.lookup ("name" : Str) = some .local := by decide +kernel
theorem lk_worst_lines_sorted : (defScope st_worst_lines).names.lookup ("sorted" : Str) = some .globalImplicit := by decide +kernel
theorem lk_worst_lines_spent : (defScope st_worst_lines).names.lookup ("spent" : Str) = some .local := by decide +kernel
theorem lk_worst_lines_tuple : (defScope st_worst_lines).names.lookup ("tuple" : Str) = some .globalImplicit := by decide +kernel
theorem va_worst_lines_done {P : Program} {w : World} {K : PySem.W.Frag} {mg : Str → Option Value} {base : Heap} {k : Nat} {fn : Str → Bool} : VarAt ⟨P, w, K, mg, base, N_worst_lines, defScope st_worst_lines, k, fn⟩ 1 "done" := vaL rfl lk_worst_lines_done nm_done
theorem va_worst_lines_found {P : Program} {w : World} {K : PySem.W.Frag} {mg : Str → Option Value} {base : Heap} {k : Nat} {fn : Str → Bool} : VarAt ⟨P, w, K, mg, base, N_worst_lines, defScope st_worst_lines, k, fn⟩ 3 "found" := vaL rfl lk_worst_lines_found nm_found
theorem va_worst_lines_lines {P : Program} {w : World} {K : PySem.W.Frag} {mg : Str → Option Value} {base : Heap} {k : Nat} {fn : Str → Bool} : VarAt ⟨P, w, K, mg, base, N_worst_lines, defScope st_worst_lines, k, fn⟩ 0 "lines" := vaL rfl lk_worst_lines_lines nm_lines
theorem va_worst_lines_name {P : Program} {w : World} {K : PySem.W.Frag} {mg : Str → Option Value} {base : Heap} {k : Nat} {fn : Str → Bool} : VarAt ⟨P, w, K, mg, base, N_worst_lines, defScope st_worst_lines, k, fn⟩ 4 "name" := vaL rfl lk_worst_lines_name nm_name
theorem va_worst_lines_spent {P : Program} {w : World} {K : PySem.W.Frag} {mg : Str → Option Value} {base : Heap} {k : Nat} {fn : Str → Bool} : VarAt ⟨P, w, K, mg, base, N_worst_lines, defScope st_worst_lines, k, fn⟩ 2 "spent" := vaL rfl lk_worst_lines_spent nm_spent
theorem sa_worst_lines_found {P : Program} {w : World} {K : PySem.W.Frag} {mg : Str → Option Value} {base : Heap} {k : Nat} : SetAt ⟨P, w, K, mg, base, N_worst_lines, defScope st_worst_lines, k, fun _ => true⟩ 3 "found" := saL rfl lk_worst_lines_found
theorem sa_worst_lines_name {P : Program} {w : World} {K : PySem.W.Frag} {mg : Str → Option Value} {base : Heap} {k : Nat} : SetAt ⟨P, w, K, mg, base, N_worst_lines, defScope st_worst_lines, k, fun _ => true⟩ 4 "name" := saL rfl lk_worst_lines_name
theorem lk__law_draws_abs : (defScope st__law_draws).names.lookup ("abs" : Str) = some .globalImplicit := by decide +kernel
theorem lk__law_draws_cell : (defScope st__law_draws).names.lookup ("cell" : Str) = some .local := by decide +kernel
theorem lk__law_draws_draws : (defScope st__law_draws).names.lookup ("draws" : Str) = some .local := by decide +kernel
theorem lk__law_draws_int : (defScope st__law_draws).names.lookup ("int" : Str) = some .globalImplicit := by decide +kernel
theorem lk__law_draws_k : (defScope st__law_draws).names.lookup ("k" : Str) = some .local := by decide +kernel
theorem lk__law_draws_len : (defScope st__law_draws).names.lookup ("len" : Str) = some .globalImplicit := by decide +kernel
theorem lk__law_draws_many : (defScope st__law_draws).names.lookup ("many" : Str) = some .local := by decide +kernel
theorem lk__law_draws_mixed : (defScope st__law_draws).names.lookup ("mixed" : Str) = some .local := by decide +kernel
theorem lk__law_draws_range : (defScope st__law_draws).names.lookup ("range" : Str) = some .globalImplicit := by decide +kernel
theorem lk__law_draws_rest : (defScope st__law_draws).names.lookup ("rest" : Str) = some .local := by decide +kernel
theorem lk__law_draws_script : (defScope st__law_draws).names.lookup ("script" : Str) = some .local := by decide +kernel
theorem lk__law_draws_turn : (defScope st__law_draws).names.lookup ("turn" : Str) = some .local := by decide +kernel
theorem va__law_draws_cell {P : Program} {w : World} {K : PySem.W.Frag} {mg : Str → Option Value} {base : Heap} {k : Nat} {fn : Str → Bool} : VarAt ⟨P, w, K, mg, base, N__law_draws, defScope st__law_draws, k, fn⟩ 5 "cell" := vaL rfl lk__law_draws_cell nm_cell
theorem va__law_draws_draws {P : Program} {w : World} {K : PySem.W.Frag} {mg : Str → Option Value} {base : Heap} {k : Nat} {fn : Str → Bool} : VarAt ⟨P, w, K, mg, base, N__law_draws, defScope st__law_draws, k, fn⟩ 2 "draws" := vaL rfl lk__law_draws_draws nm_draws
theorem va__law_draws_k {P : Program} {w : World} {K : PySem.W.Frag} {mg : Str → Option Value} {base : Heap} {k : Nat} {fn : Str → Bool} : VarAt ⟨P, w, K, mg, base, N__law_draws, defScope st__law_draws, k, fn⟩ 4 "k" := vaL rfl lk__law_draws_k nm_k
theorem va__law_draws_many {P : Program} {w : World} {K : PySem.W.Frag} {mg : Str → Option Value} {base : Heap} {k : Nat} {fn : Str → Bool} : VarAt ⟨P, w, K, mg, base, N__law_draws, defScope st__law_draws, k, fn⟩ 1 "many" := vaL rfl lk__law_draws_many nm_many
theorem va__law_draws_mixed {P : Program} {w : World} {K : PySem.W.Frag} {mg : Str → Option Value} {base : Heap} {k : Nat} {fn : Str → Bool} : VarAt ⟨P, w, K, mg, base, N__law_draws, defScope st__law_draws, k, fn⟩ 3 "mixed" := vaL rfl lk__law_draws_mixed nm_mixed
theorem va__law_draws_rest {P : Program} {w : World} {K : PySem.W.Frag} {mg : Str → Option Value} {base : Heap} {k : Nat} {fn : Str → Bool} : VarAt ⟨P, w, K, mg, base, N__law_draws, defScope st__law_draws, k, fn⟩ 6 "rest" := vaL rfl lk__law_draws_rest nm_rest
theorem va__law_draws_script {P : Program} {w : World} {K : PySem.W.Frag} {mg : Str → Option Value} {base : Heap} {k : Nat} {fn : Str → Bool} : VarAt ⟨P, w, K, mg, base, N__law_draws, defScope st__law_draws, k, fn⟩ 0 "script" := vaL rfl lk__law_draws_script nm_script
theorem sa__law_draws_cell {P : Program} {w : World} {K : PySem.W.Frag} {mg : Str → Option Value} {base : Heap} {k : Nat} : SetAt ⟨P, w, K, mg, base, N__law_draws, defScope st__law_draws, k, fun _ => true⟩ 5 "cell" := saL rfl lk__law_draws_cell
theorem sa__law_draws_draws {P : Program} {w : World} {K : PySem.W.Frag} {mg : Str → Option Value} {base : Heap} {k : Nat} : SetAt ⟨P, w, K, mg, base, N__law_draws, defScope st__law_draws, k, fun _ => true⟩ 2 "draws" := saL rfl lk__law_draws_draws
theorem sa__law_draws_k {P : Program} {w : World} {K : PySem.W.Frag} {mg : Str → Option Value} {base : Heap} {k : Nat} : SetAt ⟨P, w, K, mg, base, N__law_draws, defScope st__law_draws, k, fun _ => true⟩ 4 "k" := saL rfl lk__law_draws_k
theorem sa__law_draws_mixed {P : Program} {w : World} {K : PySem.W.Frag} {mg : Str → Option Value} {base : Heap} {k : Nat} : SetAt ⟨P, w, K, mg, base, N__law_draws, defScope st__law_draws, k, fun _ => true⟩ 3 "mixed" := saL rfl lk__law_draws_mixed
theorem sa__law_draws_rest {P : Program} {w : World} {K : PySem.W.Frag} {mg : Str → Option Value} {base : Heap} {k : Nat} : SetAt ⟨P, w, K, mg, base, N__law_draws, defScope st__law_draws, k, fun _ => true⟩ 6 "rest" := saL rfl lk__law_draws_rest
theorem sa__law_draws_turn {P : Program} {w : World} {K : PySem.W.Frag} {mg : Str → Option Value} {base : Heap} {k : Nat} : SetAt ⟨P, w, K, mg, base, N__law_draws, defScope st__law_draws, k, fun _ => true⟩ 7 "turn" := saL rfl lk__law_draws_turn
theorem lk__law_part_a : (defScope st__law_part).names.lookup ("a" : Str) = some .local := by decide +kernel
theorem lk__law_part_abs : (defScope st__law_part).names.lookup ("abs" : Str) = some .globalImplicit := by decide +kernel
theorem lk__law_part_b : (defScope st__law_part).names.lookup ("b" : Str) = some .local := by decide +kernel
theorem lk__law_part_int : (defScope st__law_part).names.lookup ("int" : Str) = some .globalImplicit := by decide +kernel
theorem lk__law_part_lower : (defScope st__law_part).names.lookup ("lower" : Str) = some .local := by decide +kernel
theorem lk__law_part_upper : (defScope st__law_part).names.lookup ("upper" : Str) = some .local := by decide +kernel
theorem va__law_part_a {P : Program} {w : World} {K : PySem.W.Frag} {mg : Str → Option Value} {base : Heap} {k : Nat} {fn : Str → Bool} : VarAt ⟨P, w, K, mg, base, N__law_part, defScope st__law_part, k, fn⟩ 2 "a" := vaL rfl lk__law_part_a nm_a
theorem va__law_part_b {P : Program} {w : World} {K : PySem.W.Frag} {mg : Str → Option Value} {base : Heap} {k : Nat} {fn : Str → Bool} : VarAt ⟨P, w, K, mg, base, N__law_part, defScope st__law_part, k, fn⟩ 3 "b" := vaL rfl lk__law_part_b nm_b
theorem va__law_part_lower {P : Program} {w : World} {K : PySem.W.Frag} {mg : Str → Option Value} {base : Heap} {k : Nat} {fn : Str → Bool} : VarAt ⟨P, w, K, mg, base, N__law_part, defScope st__law_part, k, fn⟩ 1 "lower" := vaL rfl lk__law_part_lower nm_lower
theorem va__law_part_upper {P : Program} {w : World} {K : PySem.W.Frag} {mg : Str → Option Value} {base : Heap} {k : Nat} {fn : Str → Bool} : VarAt ⟨P, w, K, mg, base, N__law_part, defScope st__law_part, k, fn⟩ 0 "upper" := vaL rfl lk__law_part_upper nm_upper
theorem sa__law_part_a {P : Program} {w : World} {K : PySem.W.Frag} {mg : Str → Option Value} {base : Heap} {k : Nat} : SetAt ⟨P, w, K, mg, base, N__law_part, defScope st__law_part, k, fun _ => true⟩ 2 "a" := saL rfl lk__law_part_a
theorem sa__law_part_b {P : Program} {w : World} {K : PySem.W.Frag} {mg : Str → Option Value} {base : Heap} {k : Nat} : SetAt ⟨P, w, K, mg, base, N__law_part, defScope st__law_part, k, fun _ => true⟩ 3 "b" := saL rfl lk__law_part_b
theorem lk__law_add__law_part : (defScope st__law_add).names.lookup ("_law_part" : Str) = some .globalImplicit := by decide +kernel
theorem lk__law_add_lower : (defScope st__law_add).names.lookup ("lower" : Str) = some .local := by decide +kernel
theorem lk__law_add_one : (defScope st__law_add).names.lookup ("one" : Str) = some .local := by decide +kernel
theorem lk__law_add_rows : (defScope st__law_add).names.lookup ("rows" : Str) = some .local := by decide +kernel
theorem lk__law_add_upper : (defScope st__law_add).names.lookup ("upper" : Str) = some .local := by decide +kernel
theorem va__law_add_lower {P : Program} {w : World} {K : PySem.W.Frag} {mg : Str → Option Value} {base : Heap} {k : Nat} {fn : Str → Bool} : VarAt ⟨P, w, K, mg, base, N__law_add, defScope st__law_add, k, fn⟩ 2 "lower" := vaL rfl lk__law_add_lower nm_lower
theorem va__law_add_one {P : Program} {w : World} {K : PySem.W.Frag} {mg : Str → Option Value} {base : Heap} {k : Nat} {fn : Str → Bool} : VarAt ⟨P, w, K, mg, base, N__law_add, defScope st__law_add, k, fn⟩ 3 "one" := vaL rfl lk__law_add_one nm_one
theorem va__law_add_rows {P : Program} {w : World} {K : PySem.W.Frag} {mg : Str → Option Value} {base : Heap} {k : Nat} {fn : Str → Bool} : VarAt ⟨P, w, K, mg, base, N__law_add, defScope st__law_add, k, fn⟩ 0 "rows" := vaL rfl lk__law_add_rows nm_rows
theorem va__law_add_upper {P : Program} {w : World} {K : PySem.W.Frag} {mg : Str → Option Value} {base : Heap} {k : Nat} {fn : Str → Bool} : VarAt ⟨P, w, K, mg, base, N__law_add, defScope st__law_add, k, fn⟩ 1 "upper" := vaL rfl lk__law_add_upper nm_upper
theorem sa__law_add_lower {P : Program} {w : World} {K : PySem.W.Frag} {mg : Str → Option Value} {base : Heap} {k : Nat} : SetAt ⟨P, w, K, mg, base, N__law_add, defScope st__law_add, k, fun _ => true⟩ 2 "lower" := saL rfl lk__law_add_lower
theorem sa__law_add_one {P : Program} {w : World} {K : PySem.W.Frag} {mg : Str → Option Value} {base : Heap} {k : Nat} : SetAt ⟨P, w, K, mg, base, N__law_add, defScope st__law_add, k, fun _ => true⟩ 3 "one" := saL rfl lk__law_add_one
theorem sa__law_add_upper {P : Program} {w : World} {K : PySem.W.Frag} {mg : Str → Option Value} {base : Heap} {k : Nat} : SetAt ⟨P, w, K, mg, base, N__law_add, defScope st__law_add, k, fun _ => true⟩ 1 "upper" := saL rfl lk__law_add_upper
theorem lk__law_planned__law_add : (defScope st__law_planned).names.lookup ("_law_add" : Str) = some .globalImplicit := by decide +kernel
theorem lk__law_planned_begin : (defScope st__law_planned).names.lookup ("begin" : Str) = some .local := by decide +kernel
theorem lk__law_planned_budget : (defScope st__law_planned).names.lookup ("budget" : Str) = some .local := by decide +kernel
theorem lk__law_planned_day : (defScope st__law_planned).names.lookup ("day" : Str) = some .cell := by decide +kernel
theorem lk__law_planned_days : (defScope st__law_planned).names.lookup ("days" : Str) = some .local := by decide +kernel
theorem lk__law_planned_len : (defScope st__law_planned).names.lookup ("len" : Str) = some .globalImplicit := by decide +kernel
theorem lk__law_planned_lines : (defScope st__law_planned).names.lookup ("lines" : Str) = some .local := by decide +kernel
theorem lk__law_planned_name : (defScope st__law_planned).names.lookup ("name" : Str) = some .local := by decide +kernel
theorem lk__law_planned_range : (defScope st__law_planned).names.lookup ("range" : Str) = some .globalImplicit := by decide +kernel
theorem lk__law_planned_rows : (defScope st__law_planned).names.lookup ("rows" : Str) = some .local := by decide +kernel
theorem va__law_planned_begin {P : Program} {w : World} {K : PySem.W.Frag} {mg : Str → Option Value} {base : Heap} {k : Nat} {fn : Str → Bool} : VarAt ⟨P, w, K, mg, base, N__law_planned, defScope st__law_planned, k, fn⟩ 4 "begin" := vaL rfl lk__law_planned_begin nm_begin
theorem va__law_planned_budget {P : Program} {w : World} {K : PySem.W.Frag} {mg : Str → Option Value} {base : Heap} {k : Nat} {fn : Str → Bool} : VarAt ⟨P, w, K, mg, base, N__law_planned, defScope st__law_planned, k, fn⟩ 6 "budget" := vaL rfl lk__law_planned_budget nm_budget
theorem va__law_planned_days {P : Program} {w : World} {K : PySem.W.Frag} {mg : Str → Option Value} {base : Heap} {k : Nat} {fn : Str → Bool} : VarAt ⟨P, w, K, mg, base, N__law_planned, defScope st__law_planned, k, fn⟩ 5 "days" := vaL rfl lk__law_planned_days nm_days
theorem va__law_planned_lines {P : Program} {w : World} {K : PySem.W.Frag} {mg : Str → Option Value} {base : Heap} {k : Nat} {fn : Str → Bool} : VarAt ⟨P, w, K, mg, base, N__law_planned, defScope st__law_planned, k, fn⟩ 0 "lines" := vaL rfl lk__law_planned_lines nm_lines
theorem va__law_planned_name {P : Program} {w : World} {K : PySem.W.Frag} {mg : Str → Option Value} {base : Heap} {k : Nat} {fn : Str → Bool} : VarAt ⟨P, w, K, mg, base, N__law_planned, defScope st__law_planned, k, fn⟩ 3 "name" := vaL rfl lk__law_planned_name nm_name
theorem va__law_planned_rows {P : Program} {w : World} {K : PySem.W.Frag} {mg : Str → Option Value} {base : Heap} {k : Nat} {fn : Str → Bool} : VarAt ⟨P, w, K, mg, base, N__law_planned, defScope st__law_planned, k, fn⟩ 2 "rows" := vaL rfl lk__law_planned_rows nm_rows
theorem sa__law_planned_begin {P : Program} {w : World} {K : PySem.W.Frag} {mg : Str → Option Value} {base : Heap} {k : Nat} : SetAt ⟨P, w, K, mg, base, N__law_planned, defScope st__law_planned, k, fun _ => true⟩ 4 "begin" := saL rfl lk__law_planned_begin
theorem sa__law_planned_budget {P : Program} {w : World} {K : PySem.W.Frag} {mg : Str → Option Value} {base : Heap} {k : Nat} : SetAt ⟨P, w, K, mg, base, N__law_planned, defScope st__law_planned, k, fun _ => true⟩ 6 "budget" := saL rfl lk__law_planned_budget
theorem sa__law_planned_days {P : Program} {w : World} {K : PySem.W.Frag} {mg : Str → Option Value} {base : Heap} {k : Nat} : SetAt ⟨P, w, K, mg, base, N__law_planned, defScope st__law_planned, k, fun _ => true⟩ 5 "days" := saL rfl lk__law_planned_days
theorem sa__law_planned_name {P : Program} {w : World} {K : PySem.W.Frag} {mg : Str → Option Value} {base : Heap} {k : Nat} : SetAt ⟨P, w, K, mg, base, N__law_planned, defScope st__law_planned, k, fun _ => true⟩ 3 "name" := saL rfl lk__law_planned_name
theorem sa__law_planned_rows {P : Program} {w : World} {K : PySem.W.Frag} {mg : Str → Option Value} {base : Heap} {k : Nat} : SetAt ⟨P, w, K, mg, base, N__law_planned, defScope st__law_planned, k, fun _ => true⟩ 2 "rows" := saL rfl lk__law_planned_rows
theorem lk__law_by__law_part : (defScope st__law_by).names.lookup ("_law_part" : Str) = some .globalImplicit := by decide +kernel
theorem lk__law_by_one : (defScope st__law_by).names.lookup ("one" : Str) = some .local := by decide +kernel
theorem lk__law_by_other : (defScope st__law_by).names.lookup ("other" : Str) = some .local := by decide +kernel
theorem va__law_by_one {P : Program} {w : World} {K : PySem.W.Frag} {mg : Str → Option Value} {base : Heap} {k : Nat} {fn : Str → Bool} : VarAt ⟨P, w, K, mg, base, N__law_by, defScope st__law_by, k, fn⟩ 0 "one" := vaL rfl lk__law_by_one nm_one
theorem va__law_by_other {P : Program} {w : World} {K : PySem.W.Frag} {mg : Str → Option Value} {base : Heap} {k : Nat} {fn : Str → Bool} : VarAt ⟨P, w, K, mg, base, N__law_by, defScope st__law_by, k, fn⟩ 1 "other" := vaL rfl lk__law_by_other nm_other
theorem lk_law__law_add : (defScope st_law).names.lookup ("_law_add" : Str) = some .globalImplicit := by decide +kernel
theorem lk_law__law_by : (defScope st_law).names.lookup ("_law_by" : Str) = some .globalImplicit := by decide +kernel
theorem lk_law__law_draws : (defScope st_law).names.lookup ("_law_draws" : Str) = some .globalImplicit := by decide +kernel
theorem lk_law__law_next : (defScope st_law).names.lookup ("_law_next" : Str) = some .globalImplicit := by decide +kernel
theorem lk_law__law_part : (defScope st_law).names.lookup ("_law_part" : Str) = some .globalImplicit := by decide +kernel
theorem lk_law__law_planned : (defScope st_law).names.lookup ("_law_planned" : Str) = some .globalImplicit := by decide +kernel
theorem lk_law_able : (defScope st_law).names.lookup ("able" : Str) = some .local := by decide +kernel
theorem lk_law_both : (defScope st_law).names.lookup ("both" : Str) = some .local := by decide +kernel
theorem lk_law_budget_of : (defScope st_law).names.lookup ("budget_of" : Str) = some .globalImplicit := by decide +kernel
theorem lk_law_cost : (defScope st_law).names.lookup ("cost" : Str) = some .local := by decide +kernel
theorem lk_law_cost_index : (defScope st_law).names.lookup ("cost_index" : Str) = some .globalImplicit := by decide +kernel
theorem lk_law_cost_so_far : (defScope st_law).names.lookup ("cost_so_far" : Str) = some .globalImplicit := by decide +kernel
theorem lk_law_curve : (defScope st_law).names.lookup ("curve" : Str) = some .globalImplicit := by decide +kernel
theorem lk_law_day : (defScope st_law).names.lookup ("day" : Str) = some .local := by decide +kernel
theorem lk_law_dict : (defScope st_law).names.lookup ("dict" : Str) = some .globalImplicit := by decide +kernel
theorem lk_law_done : (defScope st_law).names.lookup ("done" : Str) = some .cell := by decide +kernel
theorem lk_law_due : (defScope st_law).names.lookup ("due" : Str) = some .local := by decide +kernel
theorem lk_law_earned : (defScope st_law).names.lookup ("earned" : Str) = some .globalImplicit := by decide +kernel
theorem lk_law_earned_day : (defScope st_law).names.lookup ("earned_day" : Str) = some .globalImplicit := by decide +kernel
theorem lk_law_forecast : (defScope st_law).names.lookup ("forecast" : Str) = some .globalImplicit := by decide +kernel
theorem lk_law_index : (defScope st_law).names.lookup ("index" : Str) = some .local := by decide +kernel
theorem lk_law_is_behind : (defScope st_law).names.lookup ("is_behind" : Str) = some .globalImplicit := by decide +kernel
theorem lk_law_is_over : (defScope st_law).names.lookup ("is_over" : Str) = some .globalImplicit := by decide +kernel
theorem lk_law_last : (defScope st_law).names.lookup ("last" : Str) = some .local := by decide +kernel
theorem lk_law_left : (defScope st_law).names.lookup ("left" : Str) = some .local := by decide +kernel
theorem lk_law_limit : (defScope st_law).names.lookup ("limit" : Str) = some .local := by decide +kernel
theorem lk_law_lines : (defScope st_law).names.lookup ("lines" : Str) = some .cell := by decide +kernel
theorem lk_law_lower : (defScope st_law).names.lookup ("lower" : Str) = some .local := by decide +kernel
theorem lk_law_max : (defScope st_law).names.lookup ("max" : Str) = some .globalImplicit := by decide +kernel
theorem lk_law_name : (defScope st_law).names.lookup ("name" : Str) = some .local := by decide +kernel
theorem lk_law_needed_index : (defScope st_law).names.lookup ("needed_index" : Str) = some .globalImplicit := by decide +kernel
theorem lk_law_pace : (defScope st_law).names.lookup ("pace" : Str) = some .local := by decide +kernel
theorem lk_law_plan : (defScope st_law).names.lookup ("plan" : Str) = some .local := by decide +kernel
theorem lk_law_planned_at : (defScope st_law).names.lookup ("planned_at" : Str) = some .globalImplicit := by decide +kernel
theorem lk_law_range : (defScope st_law).names.lookup ("range" : Str) = some .globalImplicit := by decide +kernel
theorem lk_law_script : (defScope st_law).names.lookup ("script" : Str) = some .local := by decide +kernel
theorem lk_law_sorted : (defScope st_law).names.lookup ("sorted" : Str) = some .globalImplicit := by decide +kernel
theorem lk_law_spent : (defScope st_law).names.lookup ("spent" : Str) = some .cell := by decide +kernel
theorem lk_law_sum : (defScope st_law).names.lookup ("sum" : Str) = some .globalImplicit := by decide +kernel
theorem lk_law_time_index : (defScope st_law).names.lookup ("time_index" : Str) = some .globalImplicit := by decide +kernel
theorem lk_law_tuple : (defScope st_law).names.lookup ("tuple" : Str) = some .globalImplicit := by decide +kernel
theorem lk_law_turn : (defScope st_law).names.lookup ("turn" : Str) = some .local := by decide +kernel
theorem lk_law_w : (defScope st_law).names.lookup ("w" : Str) = some .local := by decide +kernel
theorem lk_law_whole : (defScope st_law).names.lookup ("whole" : Str) = some .local := by decide +kernel
theorem lk_law_worst_lines : (defScope st_law).names.lookup ("worst_lines" : Str) = some .globalImplicit := by decide +kernel
theorem lk_law_worth : (defScope st_law).names.lookup ("worth" : Str) = some .cell := by decide +kernel
theorem lk_law_worths : (defScope st_law).names.lookup ("worths" : Str) = some .cell := by decide +kernel
theorem va_law_able {P : Program} {w : World} {K : PySem.W.Frag} {mg : Str → Option Value} {base : Heap} {k : Nat} {fn : Str → Bool} : VarAt ⟨P, w, K, mg, base, N_law, defScope st_law, k, fn⟩ 21 "able" := vaL rfl lk_law_able nm_able
theorem va_law_both {P : Program} {w : World} {K : PySem.W.Frag} {mg : Str → Option Value} {base : Heap} {k : Nat} {fn : Str → Bool} : VarAt ⟨P, w, K, mg, base, N_law, defScope st_law, k, fn⟩ 19 "both" := vaL rfl lk_law_both nm_both
theorem va_law_cost {P : Program} {w : World} {K : PySem.W.Frag} {mg : Str → Option Value} {base : Heap} {k : Nat} {fn : Str → Bool} : VarAt ⟨P, w, K, mg, base, N_law, defScope st_law, k, fn⟩ 13 "cost" := vaL rfl lk_law_cost nm_cost
theorem va_law_day {P : Program} {w : World} {K : PySem.W.Frag} {mg : Str → Option Value} {base : Heap} {k : Nat} {fn : Str → Bool} : VarAt ⟨P, w, K, mg, base, N_law, defScope st_law, k, fn⟩ 8 "day" := vaL rfl lk_law_day nm_day
theorem va_law_done {P : Program} {w : World} {K : PySem.W.Frag} {mg : Str → Option Value} {base : Heap} {k : Nat} {fn : Str → Bool} : VarAt ⟨P, w, K, mg, base, N_law, defScope st_law, k, fn⟩ 4 "done" := vaC rfl lk_law_done nm_done
theorem va_law_due {P : Program} {w : World} {K : PySem.W.Frag} {mg : Str → Option Value} {base : Heap} {k : Nat} {fn : Str → Bool} : VarAt ⟨P, w, K, mg, base, N_law, defScope st_law, k, fn⟩ 18 "due" := vaL rfl lk_law_due nm_due
theorem va_law_index {P : Program} {w : World} {K : PySem.W.Frag} {mg : Str → Option Value} {base : Heap} {k : Nat} {fn : Str → Bool} : VarAt ⟨P, w, K, mg, base, N_law, defScope st_law, k, fn⟩ 16 "index" := vaL rfl lk_law_index nm_index
theorem va_law_last {P : Program} {w : World} {K : PySem.W.Frag} {mg : Str → Option Value} {base : Heap} {k : Nat} {fn : Str → Bool} : VarAt ⟨P, w, K, mg, base, N_law, defScope st_law, k, fn⟩ 20 "last" := vaL rfl lk_law_last nm_last
theorem va_law_left {P : Program} {w : World} {K : PySem.W.Frag} {mg : Str → Option Value} {base : Heap} {k : Nat} {fn : Str → Bool} : VarAt ⟨P, w, K, mg, base, N_law, defScope st_law, k, fn⟩ 15 "left" := vaL rfl lk_law_left nm_left
theorem va_law_limit {P : Program} {w : World} {K : PySem.W.Frag} {mg : Str → Option Value} {base : Heap} {k : Nat} {fn : Str → Bool} : VarAt ⟨P, w, K, mg, base, N_law, defScope st_law, k, fn⟩ 9 "limit" := vaL rfl lk_law_limit nm_limit
theorem va_law_lines {P : Program} {w : World} {K : PySem.W.Frag} {mg : Str → Option Value} {base : Heap} {k : Nat} {fn : Str → Bool} : VarAt ⟨P, w, K, mg, base, N_law, defScope st_law, k, fn⟩ 3 "lines" := vaC rfl lk_law_lines nm_lines
theorem va_law_lower {P : Program} {w : World} {K : PySem.W.Frag} {mg : Str → Option Value} {base : Heap} {k : Nat} {fn : Str → Bool} : VarAt ⟨P, w, K, mg, base, N_law, defScope st_law, k, fn⟩ 7 "lower" := vaL rfl lk_law_lower nm_lower
theorem va_law_name {P : Program} {w : World} {K : PySem.W.Frag} {mg : Str → Option Value} {base : Heap} {k : Nat} {fn : Str → Bool} : VarAt ⟨P, w, K, mg, base, N_law, defScope st_law, k, fn⟩ 6 "name" := vaL rfl lk_law_name nm_name
theorem va_law_pace {P : Program} {w : World} {K : PySem.W.Frag} {mg : Str → Option Value} {base : Heap} {k : Nat} {fn : Str → Bool} : VarAt ⟨P, w, K, mg, base, N_law, defScope st_law, k, fn⟩ 17 "pace" := vaL rfl lk_law_pace nm_pace
theorem va_law_plan {P : Program} {w : World} {K : PySem.W.Frag} {mg : Str → Option Value} {base : Heap} {k : Nat} {fn : Str → Bool} : VarAt ⟨P, w, K, mg, base, N_law, defScope st_law, k, fn⟩ 12 "plan" := vaL rfl lk_law_plan nm_plan
theorem va_law_script {P : Program} {w : World} {K : PySem.W.Frag} {mg : Str → Option Value} {base : Heap} {k : Nat} {fn : Str → Bool} : VarAt ⟨P, w, K, mg, base, N_law, defScope st_law, k, fn⟩ 0 "script" := vaL rfl lk_law_script nm_script
theorem va_law_spent {P : Program} {w : World} {K : PySem.W.Frag} {mg : Str → Option Value} {base : Heap} {k : Nat} {fn : Str → Bool} : VarAt ⟨P, w, K, mg, base, N_law, defScope st_law, k, fn⟩ 5 "spent" := vaC rfl lk_law_spent nm_spent
theorem va_law_w {P : Program} {w : World} {K : PySem.W.Frag} {mg : Str → Option Value} {base : Heap} {k : Nat} {fn : Str → Bool} : VarAt ⟨P, w, K, mg, base, N_law, defScope st_law, k, fn⟩ 1 "w" := vaL rfl lk_law_w nm_w
theorem va_law_whole {P : Program} {w : World} {K : PySem.W.Frag} {mg : Str → Option Value} {base : Heap} {k : Nat} {fn : Str → Bool} : VarAt ⟨P, w, K, mg, base, N_law, defScope st_law, k, fn⟩ 14 "whole" := vaL rfl lk_law_whole nm_whole
theorem va_law_worth {P : Program} {w : World} {K : PySem.W.Frag} {mg : Str → Option Value} {base : Heap} {k : Nat} {fn : Str → Bool} : VarAt ⟨P, w, K, mg, base, N_law, defScope st_law, k, fn⟩ 11 "worth" := vaC rfl lk_law_worth nm_worth
theorem va_law_worths {P : Program} {w : World} {K : PySem.W.Frag} {mg : Str → Option Value} {base : Heap} {k : Nat} {fn : Str → Bool} : VarAt ⟨P, w, K, mg, base, N_law, defScope st_law, k, fn⟩ 10 "worths" := vaC rfl lk_law_worths nm_worths
theorem sa_law_able {P : Program} {w : World} {K : PySem.W.Frag} {mg : Str → Option Value} {base : Heap} {k : Nat} : SetAt ⟨P, w, K, mg, base, N_law, defScope st_law, k, fun _ => true⟩ 21 "able" := saL rfl lk_law_able
theorem sa_law_both {P : Program} {w : World} {K : PySem.W.Frag} {mg : Str → Option Value} {base : Heap} {k : Nat} : SetAt ⟨P, w, K, mg, base, N_law, defScope st_law, k, fun _ => true⟩ 19 "both" := saL rfl lk_law_both
theorem sa_law_cost {P : Program} {w : World} {K : PySem.W.Frag} {mg : Str → Option Value} {base : Heap} {k : Nat} : SetAt ⟨P, w, K, mg, base, N_law, defScope st_law, k, fun _ => true⟩ 13 "cost" := saL rfl lk_law_cost
theorem sa_law_day {P : Program} {w : World} {K : PySem.W.Frag} {mg : Str → Option Value} {base : Heap} {k : Nat} : SetAt ⟨P, w, K, mg, base, N_law, defScope st_law, k, fun _ => true⟩ 8 "day" := saL rfl lk_law_day
theorem sa_law_done {P : Program} {w : World} {K : PySem.W.Frag} {mg : Str → Option Value} {base : Heap} {k : Nat} : SetAt ⟨P, w, K, mg, base, N_law, defScope st_law, k, fun _ => true⟩ 4 "done" := saC rfl lk_law_done rfl
theorem sa_law_due {P : Program} {w : World} {K : PySem.W.Frag} {mg : Str → Option Value} {base : Heap} {k : Nat} : SetAt ⟨P, w, K, mg, base, N_law, defScope st_law, k, fun _ => true⟩ 18 "due" := saL rfl lk_law_due
theorem sa_law_index {P : Program} {w : World} {K : PySem.W.Frag} {mg : Str → Option Value} {base : Heap} {k : Nat} : SetAt ⟨P, w, K, mg, base, N_law, defScope st_law, k, fun _ => true⟩ 16 "index" := saL rfl lk_law_index
theorem sa_law_last {P : Program} {w : World} {K : PySem.W.Frag} {mg : Str → Option Value} {base : Heap} {k : Nat} : SetAt ⟨P, w, K, mg, base, N_law, defScope st_law, k, fun _ => true⟩ 20 "last" := saL rfl lk_law_last
theorem sa_law_left {P : Program} {w : World} {K : PySem.W.Frag} {mg : Str → Option Value} {base : Heap} {k : Nat} : SetAt ⟨P, w, K, mg, base, N_law, defScope st_law, k, fun _ => true⟩ 15 "left" := saL rfl lk_law_left
theorem sa_law_limit {P : Program} {w : World} {K : PySem.W.Frag} {mg : Str → Option Value} {base : Heap} {k : Nat} : SetAt ⟨P, w, K, mg, base, N_law, defScope st_law, k, fun _ => true⟩ 9 "limit" := saL rfl lk_law_limit
theorem sa_law_lines {P : Program} {w : World} {K : PySem.W.Frag} {mg : Str → Option Value} {base : Heap} {k : Nat} : SetAt ⟨P, w, K, mg, base, N_law, defScope st_law, k, fun _ => true⟩ 3 "lines" := saC rfl lk_law_lines rfl
theorem sa_law_lower {P : Program} {w : World} {K : PySem.W.Frag} {mg : Str → Option Value} {base : Heap} {k : Nat} : SetAt ⟨P, w, K, mg, base, N_law, defScope st_law, k, fun _ => true⟩ 7 "lower" := saL rfl lk_law_lower
theorem sa_law_name {P : Program} {w : World} {K : PySem.W.Frag} {mg : Str → Option Value} {base : Heap} {k : Nat} : SetAt ⟨P, w, K, mg, base, N_law, defScope st_law, k, fun _ => true⟩ 6 "name" := saL rfl lk_law_name
theorem sa_law_pace {P : Program} {w : World} {K : PySem.W.Frag} {mg : Str → Option Value} {base : Heap} {k : Nat} : SetAt ⟨P, w, K, mg, base, N_law, defScope st_law, k, fun _ => true⟩ 17 "pace" := saL rfl lk_law_pace
theorem sa_law_plan {P : Program} {w : World} {K : PySem.W.Frag} {mg : Str → Option Value} {base : Heap} {k : Nat} : SetAt ⟨P, w, K, mg, base, N_law, defScope st_law, k, fun _ => true⟩ 12 "plan" := saL rfl lk_law_plan
theorem sa_law_spent {P : Program} {w : World} {K : PySem.W.Frag} {mg : Str → Option Value} {base : Heap} {k : Nat} : SetAt ⟨P, w, K, mg, base, N_law, defScope st_law, k, fun _ => true⟩ 5 "spent" := saC rfl lk_law_spent rfl
theorem sa_law_turn {P : Program} {w : World} {K : PySem.W.Frag} {mg : Str → Option Value} {base : Heap} {k : Nat} : SetAt ⟨P, w, K, mg, base, N_law, defScope st_law, k, fun _ => true⟩ 2 "turn" := saL rfl lk_law_turn
theorem sa_law_w {P : Program} {w : World} {K : PySem.W.Frag} {mg : Str → Option Value} {base : Heap} {k : Nat} : SetAt ⟨P, w, K, mg, base, N_law, defScope st_law, k, fun _ => true⟩ 1 "w" := saL rfl lk_law_w
theorem sa_law_whole {P : Program} {w : World} {K : PySem.W.Frag} {mg : Str → Option Value} {base : Heap} {k : Nat} : SetAt ⟨P, w, K, mg, base, N_law, defScope st_law, k, fun _ => true⟩ 14 "whole" := saL rfl lk_law_whole
theorem sa_law_worth {P : Program} {w : World} {K : PySem.W.Frag} {mg : Str → Option Value} {base : Heap} {k : Nat} : SetAt ⟨P, w, K, mg, base, N_law, defScope st_law, k, fun _ => true⟩ 11 "worth" := saC rfl lk_law_worth rfl
theorem sa_law_worths {P : Program} {w : World} {K : PySem.W.Frag} {mg : Str → Option Value} {base : Heap} {k : Nat} : SetAt ⟨P, w, K, mg, base, N_law, defScope st_law, k, fun _ => true⟩ 10 "worths" := saC rfl lk_law_worths rfl
/-! ### what the defs do -/
def m_planned_of (line_ : D) (day_ : D) : M D :=
  ((M.pure line_).bind fun x124 => ((un3 x124).bind fun t125 => 
  (((M.pure t125.2.2).bind fun x134 => (((M.pure (.int 0)).bind fun x132 => (((M.pure t125.2.1).bind fun x130 => ((((M.pure day_).bind fun x126 => ((M.pure (.int 1)).bind fun x127 => addD x126 x127)).bind fun x128 => ((M.pure t125.1).bind fun x129 => subD x128 x129)).bind fun x131 => min2D x130 x131)).bind fun x133 => max2D x132 x133)).bind fun x135 => mulD x134 x135)).bind fun x136 => ((M.pure t125.2.1).bind fun x137 => m_fraction x136 x137))))
def m_planned_at (lines_ : D) (day_ : D) : M D :=
  (((keysD lines_).bind fun l140 => ((M.mapM (fun x139 => ((M.pure x139).bind fun a138 => (((M.pure lines_).bind fun x142 => ((M.pure a138).bind fun x143 => ixD x142 x143)).bind fun x144 => ((M.pure day_).bind fun x145 => m_planned_of x144 x145)))) l140).bind fun l141 => M.pure (.list l141))).bind fun x146 => m_sum_of x146)
def m_earned_of (lines_ : D) (done_ : D) (name_ : D) : M D :=
  ((((((M.pure lines_).bind fun x147 => ((M.pure name_).bind fun x148 => ixD x147 x148)).bind fun x149 => ((M.pure (.int 2)).bind fun x150 => ixD x149 x150)).bind fun x153 => (((M.pure (.int 1)).bind fun x151 => ((M.pure []).bind fun l152 => M.pure (x151 :: l152))).bind fun l154 => M.pure (x153 :: l154))).bind fun x155 => M.pure (.tuple x155)).bind fun x156 => (((M.pure done_).bind fun x157 => M.need ((isDi x157 && plainD x157) = true) ((M.pure name_).bind fun x158 => ((M.pure c_NOTHING).bind fun x159 => get2D x157 x158 x159))).bind fun x160 => m_times x156 x160))
def m_earned (lines_ : D) (done_ : D) : M D :=
  (((keysD lines_).bind fun l163 => ((M.mapM (fun x162 => ((M.pure x162).bind fun a161 => ((M.pure lines_).bind fun x165 => ((M.pure done_).bind fun x166 => ((M.pure a161).bind fun x167 => m_earned_of x165 x166 x167))))) l163).bind fun l164 => M.pure (.list l164))).bind fun x168 => m_sum_of x168)
def m_cost_so_far (spent_ : D) : M D :=
  (((keysD spent_).bind fun l171 => ((M.mapM (fun x170 => ((M.pure x170).bind fun a169 => ((M.pure spent_).bind fun x173 => ((M.pure a169).bind fun x174 => ixD x173 x174)))) l171).bind fun l172 => M.pure (.list l172))).bind fun x175 => sumD x175)
def m_budget_of (lines_ : D) : M D :=
  (((keysD lines_).bind fun l178 => ((M.mapM (fun x177 => ((M.pure x177).bind fun a176 => (((M.pure lines_).bind fun x180 => ((M.pure a176).bind fun x181 => ixD x180 x181)).bind fun x182 => ((M.pure (.int 2)).bind fun x183 => ixD x182 x183)))) l178).bind fun l179 => M.pure (.list l179))).bind fun x184 => sumD x184)
def m_cost_index (lines_ : D) (done_ : D) (spent_ : D) : M D :=
  (((M.pure spent_).bind fun x186 => m_cost_so_far x186).bind fun cost_185 => 
  (((M.pure cost_185).bind fun x187 => ((M.pure (.int 0)).bind fun x188 => ((neD x187 x188).bind fun z189 => asB z189))).bind fun b199 => bif b199 then (((M.pure lines_).bind fun x190 => ((M.pure done_).bind fun x191 => m_earned x190 x191)).bind fun x192 => ((((M.pure cost_185).bind fun x195 => (((M.pure (.int 1)).bind fun x193 => ((M.pure []).bind fun l194 => M.pure (x193 :: l194))).bind fun l196 => M.pure (x195 :: l196))).bind fun x197 => M.pure (.tuple x197)).bind fun x198 => m_over x192 x198)) else (M.pure .none)))
def m_time_index (lines_ : D) (done_ : D) (day_ : D) : M D :=
  (((M.pure lines_).bind fun x201 => ((M.pure day_).bind fun x202 => m_planned_at x201 x202)).bind fun planned_200 => 
  (((M.pure planned_200).bind fun x203 => ((M.pure c_NOTHING).bind fun x204 => ((neD x203 x204).bind fun z205 => asB z205))).bind fun b210 => bif b210 then (((M.pure lines_).bind fun x206 => ((M.pure done_).bind fun x207 => m_earned x206 x207)).bind fun x208 => ((M.pure planned_200).bind fun x209 => m_over x208 x209)) else (M.pure .none)))
def m_left_of (lines_ : D) (done_ : D) : M D :=
  (((((M.pure lines_).bind fun x211 => m_budget_of x211).bind fun x214 => (((M.pure (.int 1)).bind fun x212 => ((M.pure []).bind fun l213 => M.pure (x212 :: l213))).bind fun l215 => M.pure (x214 :: l215))).bind fun x216 => M.pure (.tuple x216)).bind fun x217 => (((M.pure lines_).bind fun x218 => ((M.pure done_).bind fun x219 => m_earned x218 x219)).bind fun x220 => m_minus x217 x220))
def m_forecast (lines_ : D) (done_ : D) (spent_ : D) (day_ : D) (way_ : D) : M D :=
  (((((M.pure spent_).bind fun x221 => m_cost_so_far x221).bind fun x224 => (((M.pure (.int 1)).bind fun x222 => ((M.pure []).bind fun l223 => M.pure (x222 :: l223))).bind fun l225 => M.pure (x224 :: l225))).bind fun x226 => M.pure (.tuple x226)).bind fun cost_230 => (((M.pure lines_).bind fun x227 => ((M.pure done_).bind fun x228 => ((M.pure spent_).bind fun x229 => m_cost_index x227 x228 x229))).bind fun index_231 => 
  (((M.pure way_).bind fun x232 => ((M.pure (.str "plan")).bind fun x233 => ((eqD x232 x233).bind fun z234 => asB z234))).bind fun b235 => bif b235 then 
    ((M.pure cost_230).bind fun x236 => (((M.pure lines_).bind fun x237 => ((M.pure done_).bind fun x238 => m_left_of x237 x238)).bind fun x239 => m_plus x236 x239)) else
  ((((M.pure index_231).bind fun x240 => ((M.pure .none).bind fun x241 => ((isD x240 x241).bind fun z242 => asB z242))).bind fun b246 => bif b246 then M.pure true else ((M.pure index_231).bind fun x243 => ((M.pure c_NOTHING).bind fun x244 => ((eqD x243 x244).bind fun z245 => asB z245)))).bind fun b247 => bif b247 then 
    (M.pure .none) else
  (((M.pure way_).bind fun x248 => ((M.pure (.str "index")).bind fun x249 => ((eqD x248 x249).bind fun z250 => asB z250))).bind fun b251 => bif b251 then 
    (((((M.pure lines_).bind fun x252 => m_budget_of x252).bind fun x255 => (((M.pure (.int 1)).bind fun x253 => ((M.pure []).bind fun l254 => M.pure (x253 :: l254))).bind fun l256 => M.pure (x255 :: l256))).bind fun x257 => M.pure (.tuple x257)).bind fun x258 => ((M.pure index_231).bind fun x259 => m_over x258 x259)) else
  (((M.pure lines_).bind fun x261 => ((M.pure done_).bind fun x262 => ((M.pure day_).bind fun x263 => m_time_index x261 x262 x263))).bind fun pace_260 => 
  ((((M.pure pace_260).bind fun x264 => ((M.pure .none).bind fun x265 => ((isD x264 x265).bind fun z266 => asB z266))).bind fun b270 => bif b270 then M.pure true else ((M.pure pace_260).bind fun x267 => ((M.pure c_NOTHING).bind fun x268 => ((eqD x267 x268).bind fun z269 => asB z269)))).bind fun b271 => bif b271 then 
    (M.pure .none) else
  ((M.pure cost_230).bind fun x272 => ((((M.pure lines_).bind fun x273 => ((M.pure done_).bind fun x274 => m_left_of x273 x274)).bind fun x275 => (((M.pure index_231).bind fun x276 => ((M.pure pace_260).bind fun x277 => m_times x276 x277)).bind fun x278 => m_over x275 x278)).bind fun x279 => m_plus x272 x279)))))))))
def m_needed_index (lines_ : D) (done_ : D) (spent_ : D) (limit_ : D) : M D :=
  (((M.pure limit_).bind fun x282 => (((M.pure spent_).bind fun x281 => m_cost_so_far x281).bind fun x283 => subD x282 x283)).bind fun left_280 => 
  (((M.pure left_280).bind fun x284 => ((M.pure (.int 0)).bind fun x285 => ((gtD x284 x285).bind fun z286 => asB z286))).bind fun b296 => bif b296 then (((M.pure lines_).bind fun x287 => ((M.pure done_).bind fun x288 => m_left_of x287 x288)).bind fun x289 => ((((M.pure left_280).bind fun x292 => (((M.pure (.int 1)).bind fun x290 => ((M.pure []).bind fun l291 => M.pure (x290 :: l291))).bind fun l293 => M.pure (x292 :: l293))).bind fun x294 => M.pure (.tuple x294)).bind fun x295 => m_over x289 x295)) else (M.pure .none)))
def m_last_end (lines_ : D) : M D :=
  (((((M.pure (.int 0)).bind fun x297 => ((M.pure []).bind fun l298 => M.pure (x297 :: l298))).bind fun x299 => M.pure (.list x299)).bind fun x314 => (((keysD lines_).bind fun l302 => ((M.mapM (fun x301 => ((M.pure x301).bind fun a300 => ((((M.pure lines_).bind fun x304 => ((M.pure a300).bind fun x305 => ixD x304 x305)).bind fun x306 => ((M.pure (.int 0)).bind fun x307 => ixD x306 x307)).bind fun x312 => ((((M.pure lines_).bind fun x308 => ((M.pure a300).bind fun x309 => ixD x308 x309)).bind fun x310 => ((M.pure (.int 1)).bind fun x311 => ixD x310 x311)).bind fun x313 => addD x312 x313)))) l302).bind fun l303 => M.pure (.list l303))).bind fun x315 => addD x314 x315)).bind fun x316 => maxD x316)
def m_curve (lines_ : D) : M D :=
  (((((M.pure lines_).bind fun x317 => m_last_end x317).bind fun x318 => ((asI x318).bind fun i319 => rngD 0 i319)).bind fun l322 => ((M.mapM (fun x321 => ((M.pure x321).bind fun a320 => ((M.pure lines_).bind fun x324 => ((M.pure a320).bind fun x325 => m_planned_at x324 x325)))) l322).bind fun l323 => M.pure (.list l323))).bind fun x326 => tupleD x326)
def m_earned_day (lines_ : D) (done_ : D) : M D :=
  ((M.pure (.int 0)).bind fun day_329 => (((M.pure lines_).bind fun x327 => ((M.pure done_).bind fun x328 => m_earned x327 x328)).bind fun worth_330 => 
  ((M.while_ (fun (s331 : D) => ((((M.pure lines_).bind fun x332 => ((M.pure s331).bind fun x333 => m_planned_at x332 x333)).bind fun x334 => ((M.pure worth_330).bind fun x335 => m_is_less x334 x335)).bind fun x336 => truthD x336)) (fun (s331 : D) =>
    ((M.pure (.int 1)).bind fun x337 => ((iaddD s331 x337).bind fun day_338 => 
    (M.pure day_338)))) day_329).bind fun (s331 : D) =>
  (M.pure s331))))
def m_is_behind (lines_ : D) (done_ : D) (day_ : D) : M D :=
  (((M.pure lines_).bind fun x339 => ((M.pure done_).bind fun x340 => m_earned x339 x340)).bind fun x341 => (((M.pure lines_).bind fun x342 => ((M.pure day_).bind fun x343 => m_planned_at x342 x343)).bind fun x344 => m_is_less x341 x344))
def m_is_over (lines_ : D) (done_ : D) (spent_ : D) : M D :=
  (((M.pure lines_).bind fun x345 => ((M.pure done_).bind fun x346 => m_earned x345 x346)).bind fun x347 => (((((M.pure spent_).bind fun x348 => m_cost_so_far x348).bind fun x351 => (((M.pure (.int 1)).bind fun x349 => ((M.pure []).bind fun l350 => M.pure (x349 :: l350))).bind fun l352 => M.pure (x351 :: l352))).bind fun x353 => M.pure (.tuple x353)).bind fun x354 => m_is_less x347 x354))
def m_worst_lines (lines_ : D) (done_ : D) (spent_ : D) : M D :=
  ((M.pure (.list [])).bind fun found_355 => 
  ((((M.pure lines_).bind fun x356 => sortedD x356).bind fun x357 => asS x357).bind fun l380 => (M.fold (fun (s358 : D) x379 => ((M.pure x379).bind fun a359 => 
    ((((((M.pure lines_).bind fun x360 => ((M.pure done_).bind fun x361 => ((M.pure a359).bind fun x362 => m_earned_of x360 x361 x362))).bind fun x363 => (((((M.pure spent_).bind fun x364 => M.need ((isDi x364 && plainD x364) = true) ((M.pure a359).bind fun x365 => ((M.pure (.int 0)).bind fun x366 => get2D x364 x365 x366))).bind fun x369 => (((M.pure (.int 1)).bind fun x367 => ((M.pure []).bind fun l368 => M.pure (x367 :: l368))).bind fun l370 => M.pure (x369 :: l370))).bind fun x371 => M.pure (.tuple x371)).bind fun x372 => m_is_less x363 x372)).bind fun x373 => truthD x373).bind fun b374 => bif b374 then 
      (M.need (isL s358 = true) ((M.pure a359).bind fun x375 => ((appD s358 x375).bind fun found_376 => 
      (M.pure found_376)))) else
      (M.pure s358)).bind fun (s377 : D) => 
    (M.pure s377)))) found_355 l380).bind fun (s358 : D) =>
  ((M.pure s358).bind fun x378 => tupleD x378)))
def m__law_add (rows_ : D) : M D :=
  ((M.pure (.int 0)).bind fun upper_507 => ((M.pure (.int 1)).bind fun lower_508 => 
  (((M.pure rows_).bind fun x509 => asS x509).bind fun l531 => (M.fold (fun (s510 : D × D) x530 => ((M.pure x530).bind fun a511 => 
    ((((M.pure s510.1).bind fun x514 => (((M.pure a511).bind fun x512 => ((M.pure (.int 1)).bind fun x513 => ixD x512 x513)).bind fun x515 => mulD x514 x515)).bind fun x520 => ((((M.pure a511).bind fun x516 => ((M.pure (.int 0)).bind fun x517 => ixD x516 x517)).bind fun x518 => ((M.pure s510.2).bind fun x519 => mulD x518 x519)).bind fun x521 => addD x520 x521)).bind fun upper_526 => (((M.pure s510.2).bind fun x524 => (((M.pure a511).bind fun x522 => ((M.pure (.int 1)).bind fun x523 => ixD x522 x523)).bind fun x525 => mulD x524 x525)).bind fun lower_527 => 
    (M.pure (upper_526, lower_527)))))) (upper_507, lower_508) l531).bind fun (s510 : D × D) =>
  ((M.pure s510.1).bind fun x528 => ((M.pure s510.2).bind fun x529 => m__law_part x528 x529)))))
def m__law_planned (lines_ : D) (day_ : D) : M D :=
  (((M.pure []).bind fun x533 => M.pure (.list x533)).bind fun rows_532 => 
  ((keysD lines_).bind fun l571 => (M.fold (fun (s534 : D) x570 => ((M.pure x570).bind fun a535 => 
    (((M.pure lines_).bind fun x536 => ((M.pure a535).bind fun x537 => ixD x536 x537)).bind fun x538 => ((un3 x538).bind fun t539 => 
    (((M.pure s534).bind fun x567 => (((((((M.pure t539.2.2).bind fun x543 => (((M.pure t539.2.1).bind fun x541 => ((M.pure []).bind fun l542 => M.pure (x541 :: l542))).bind fun l544 => M.pure (x543 :: l544))).bind fun x545 => M.pure (.tuple x545)).bind fun x546 => ((M.pure []).bind fun l547 => M.pure (x546 :: l547))).bind fun x548 => M.pure (.list x548)).bind fun x565 => (((((M.pure t539.1).bind fun x551 => (((M.pure t539.1).bind fun x549 => ((M.pure t539.2.1).bind fun x550 => addD x549 x550)).bind fun x552 => ((asI x551).bind fun i553 => ((asI x552).bind fun j554 => rngD i553 j554)))).bind fun l557 => ((M.filM (fun x556 => ((M.pure x556).bind fun a555 => (((M.pure a555).bind fun x559 => ((M.pure day_).bind fun x560 => ((leD x559 x560).bind fun z561 => asB z561))).bind fun b562 => bif b562 then ((M.pure a555).bind fun x563 => M.pure (some x563)) else M.pure none))) l557).bind fun l558 => M.pure (.list l558))).bind fun x564 => lenD x564).bind fun x566 => mulD x565 x566)).bind fun x568 => addD x567 x568)).bind fun rows_540 => 
    (M.pure rows_540)))))) rows_532 l571).bind fun (s534 : D) =>
  ((M.pure s534).bind fun x569 => m__law_add x569)))
def m__law_by (one_ : D) (other_ : D) : M D :=
  ((((M.pure other_).bind fun x572 => ((M.pure (.int 0)).bind fun x573 => ixD x572 x573)).bind fun x574 => ((M.pure (.int 0)).bind fun x575 => ((eqD x574 x575).bind fun z576 => asB z576))).bind fun b577 => bif b577 then 
    (M.pure .none) else
  ((((M.pure one_).bind fun x578 => ((M.pure (.int 0)).bind fun x579 => ixD x578 x579)).bind fun x582 => (((M.pure other_).bind fun x580 => ((M.pure (.int 1)).bind fun x581 => ixD x580 x581)).bind fun x583 => mulD x582 x583)).bind fun x584 => ((((M.pure one_).bind fun x585 => ((M.pure (.int 1)).bind fun x586 => ixD x585 x586)).bind fun x589 => (((M.pure other_).bind fun x587 => ((M.pure (.int 0)).bind fun x588 => ixD x587 x588)).bind fun x590 => mulD x589 x590)).bind fun x591 => m__law_part x584 x591)))
def m_law_b1 (s613 : D × D × D) (a614 : D) : M (D × D × D) :=
  (((((M.pure (.int 4)).bind fun x615 => m__law_next x615).bind fun x624 => ((((M.pure (.int 1)).bind fun x617 => (((M.pure (.int 4)).bind fun x616 => m__law_next x616).bind fun x618 => addD x617 x618)).bind fun x622 => ((((M.pure (.int 9)).bind fun x619 => m__law_next x619).bind fun x620 => ((M.pure []).bind fun l621 => M.pure (x620 :: l621))).bind fun l623 => M.pure (x622 :: l623))).bind fun l625 => M.pure (x624 :: l625))).bind fun x626 => M.pure (.tuple x626)).bind fun x627 => ((M.pure a614).bind fun x628 => ((dputD s613.1 x628 x627).bind fun lines_629 => 
      (((((M.pure (.int 3)).bind fun x630 => m__law_next x630).bind fun x631 => ((M.pure (.int 0)).bind fun x632 => ((gtD x631 x632).bind fun z633 => asB z633))).bind fun b634 => bif b634 then 
        (((M.pure (.int 1)).bind fun x637 => (((M.pure (.int 4)).bind fun x636 => m__law_next x636).bind fun x638 => addD x637 x638)).bind fun lower_635 => 
        (((((M.pure lower_635).bind fun x639 => ((M.pure (.int 1)).bind fun x640 => addD x639 x640)).bind fun x641 => m__law_next x641).bind fun x642 => ((M.pure lower_635).bind fun x643 => m__law_part x642 x643)).bind fun x644 => ((M.pure a614).bind fun x645 => ((dputD s613.2.1 x645 x644).bind fun done_646 => 
        (M.pure done_646))))) else
        (M.pure s613.2.1)).bind fun (s647 : D) => 
      (((((M.pure (.int 3)).bind fun x648 => m__law_next x648).bind fun x649 => ((M.pure (.int 0)).bind fun x650 => ((gtD x649 x650).bind fun z651 => asB z651))).bind fun b652 => bif b652 then 
        (((M.pure (.int 9)).bind fun x653 => m__law_next x653).bind fun x654 => ((M.pure a614).bind fun x655 => ((dputD s613.2.2 x655 x654).bind fun spent_656 => 
        (M.pure spent_656)))) else
        (M.pure s613.2.2)).bind fun (s657 : D) => 
      (M.pure (lines_629, s647, s657)))))))
def m_law_c2  : M (Fl (Unit) (Unit)) :=
  (M.pure (Fl.nx ()))
def m_law_c3 (s613 : D × D × D) (worths_663 : D) : M (Fl (Unit) (Unit)) :=
  ((((M.pure s613.1).bind fun x1049 => ((M.pure s613.2.1).bind fun x1050 => ((M.pure s613.2.2).bind fun x1051 => m_worst_lines x1049 x1050 x1051))).bind fun x1080 => ((((((M.pure s613.1).bind fun x1052 => sortedD x1052).bind fun x1053 => asS x1053).bind fun l1056 => ((M.filM (fun x1055 => ((M.pure x1055).bind fun a1054 => (((((M.pure worths_663).bind fun x1058 => ((M.pure a1054).bind fun x1059 => ixD x1058 x1059)).bind fun x1060 => ((M.pure (.int 0)).bind fun x1061 => ixD x1060 x1061)).bind fun x1074 => (((((M.pure a1054).bind fun x1062 => ((M.pure s613.2.2).bind fun x1063 => ((inD x1062 x1063).bind fun z1064 => asB z1064))).bind fun b1067 => bif b1067 then ((M.pure s613.2.2).bind fun x1065 => ((M.pure a1054).bind fun x1066 => ixD x1065 x1066)) else (M.pure (.int 0))).bind fun x1072 => ((((M.pure worths_663).bind fun x1068 => ((M.pure a1054).bind fun x1069 => ixD x1068 x1069)).bind fun x1070 => ((M.pure (.int 1)).bind fun x1071 => ixD x1070 x1071)).bind fun x1073 => mulD x1072 x1073)).bind fun x1075 => ((ltD x1074 x1075).bind fun z1076 => asB z1076))).bind fun b1077 => bif b1077 then ((M.pure a1054).bind fun x1078 => M.pure (some x1078)) else M.pure none))) l1056).bind fun l1057 => M.pure (.list l1057))).bind fun x1079 => tupleD x1079).bind fun x1081 => ((neD x1080 x1081).bind fun z1082 => asB z1082))).bind fun b1083 => bif b1083 then 
      ((M.pure (.bool false)).bind fun r1084 => M.pure (Fl.rt r1084)) else
    m_law_c2)
def m_law_c4 (s613 : D × D × D) (day_660 : D) (worth_724 : D) (plan_725 : D) (cost_726 : D) (worths_663 : D) : M (Fl (Unit) (Unit)) :=
  (((((M.pure s613.1).bind fun x1013 => ((M.pure s613.2.1).bind fun x1014 => ((M.pure day_660).bind fun x1015 => m_is_behind x1013 x1014 x1015))).bind fun x1030 => (((((M.pure worth_724).bind fun x1016 => ((M.pure (.int 0)).bind fun x1017 => ixD x1016 x1017)).bind fun x1020 => (((M.pure plan_725).bind fun x1018 => ((M.pure (.int 1)).bind fun x1019 => ixD x1018 x1019)).bind fun x1021 => mulD x1020 x1021)).bind fun x1028 => ((((M.pure plan_725).bind fun x1022 => ((M.pure (.int 0)).bind fun x1023 => ixD x1022 x1023)).bind fun x1026 => (((M.pure worth_724).bind fun x1024 => ((M.pure (.int 1)).bind fun x1025 => ixD x1024 x1025)).bind fun x1027 => mulD x1026 x1027)).bind fun x1029 => ltD x1028 x1029)).bind fun x1031 => ((neD x1030 x1031).bind fun z1032 => asB z1032))).bind fun b1047 => bif b1047 then M.pure true else (((M.pure s613.1).bind fun x1033 => ((M.pure s613.2.1).bind fun x1034 => ((M.pure s613.2.2).bind fun x1035 => m_is_over x1033 x1034 x1035))).bind fun x1044 => ((((M.pure worth_724).bind fun x1036 => ((M.pure (.int 0)).bind fun x1037 => ixD x1036 x1037)).bind fun x1042 => (((M.pure cost_726).bind fun x1040 => (((M.pure worth_724).bind fun x1038 => ((M.pure (.int 1)).bind fun x1039 => ixD x1038 x1039)).bind fun x1041 => mulD x1040 x1041)).bind fun x1043 => ltD x1042 x1043)).bind fun x1045 => ((neD x1044 x1045).bind fun z1046 => asB z1046)))).bind fun b1048 => bif b1048 then 
      ((M.pure (.bool false)).bind fun r1085 => M.pure (Fl.rt r1085)) else
    (m_law_c3 s613 worths_663))
def m_law_c5 (last_940 : D) (s613 : D × D × D) (worth_724 : D) (day_660 : D) (plan_725 : D) (cost_726 : D) (worths_663 : D) : M (Fl (Unit) (Unit)) :=
  (((((M.pure last_940).bind fun x976 => ((M.pure (.int 1)).bind fun x977 => addD x976 x977)).bind fun x978 => ((asI x978).bind fun i979 => rngD 0 i979)).bind fun l982 => ((M.filM (fun x981 => ((M.pure x981).bind fun a980 => ((((((M.pure s613.1).bind fun x984 => ((M.pure a980).bind fun x985 => m__law_planned x984 x985)).bind fun x986 => ((M.pure (.int 0)).bind fun x987 => ixD x986 x987)).bind fun x990 => (((M.pure worth_724).bind fun x988 => ((M.pure (.int 1)).bind fun x989 => ixD x988 x989)).bind fun x991 => mulD x990 x991)).bind fun x1000 => ((((M.pure worth_724).bind fun x992 => ((M.pure (.int 0)).bind fun x993 => ixD x992 x993)).bind fun x998 => ((((M.pure s613.1).bind fun x994 => ((M.pure a980).bind fun x995 => m__law_planned x994 x995)).bind fun x996 => ((M.pure (.int 1)).bind fun x997 => ixD x996 x997)).bind fun x999 => mulD x998 x999)).bind fun x1001 => ((geD x1000 x1001).bind fun z1002 => asB z1002))).bind fun b1003 => bif b1003 then ((M.pure a980).bind fun x1004 => M.pure (some x1004)) else M.pure none))) l982).bind fun l983 => M.pure (.list l983))).bind fun able_975 => 
    ((((M.pure s613.1).bind fun x1005 => ((M.pure s613.2.1).bind fun x1006 => m_earned_day x1005 x1006)).bind fun x1009 => (((M.pure able_975).bind fun x1007 => ((M.pure (.int 0)).bind fun x1008 => ixD x1007 x1008)).bind fun x1010 => ((neD x1009 x1010).bind fun z1011 => asB z1011))).bind fun b1012 => bif b1012 then 
      ((M.pure (.bool false)).bind fun r1086 => M.pure (Fl.rt r1086)) else
    (m_law_c4 s613 day_660 worth_724 plan_725 cost_726 worths_663)))
def m_law_c6 (s613 : D × D × D) (worth_724 : D) (day_660 : D) (plan_725 : D) (cost_726 : D) (worths_663 : D) : M (Fl (Unit) (Unit)) :=
  ((((((M.pure (.int 0)).bind fun x941 => ((M.pure []).bind fun l942 => M.pure (x941 :: l942))).bind fun x943 => M.pure (.list x943)).bind fun x958 => (((keysD s613.1).bind fun l946 => ((M.mapM (fun x945 => ((M.pure x945).bind fun a944 => ((((M.pure s613.1).bind fun x948 => ((M.pure a944).bind fun x949 => ixD x948 x949)).bind fun x950 => ((M.pure (.int 0)).bind fun x951 => ixD x950 x951)).bind fun x956 => ((((M.pure s613.1).bind fun x952 => ((M.pure a944).bind fun x953 => ixD x952 x953)).bind fun x954 => ((M.pure (.int 1)).bind fun x955 => ixD x954 x955)).bind fun x957 => addD x956 x957)))) l946).bind fun l947 => M.pure (.list l947))).bind fun x959 => addD x958 x959)).bind fun x960 => maxD x960).bind fun last_940 => 
    ((((M.pure s613.1).bind fun x961 => m_curve x961).bind fun x971 => (((((M.pure last_940).bind fun x962 => ((asI x962).bind fun i963 => rngD 0 i963)).bind fun l966 => ((M.mapM (fun x965 => ((M.pure x965).bind fun a964 => ((M.pure s613.1).bind fun x968 => ((M.pure a964).bind fun x969 => m__law_planned x968 x969)))) l966).bind fun l967 => M.pure (.list l967))).bind fun x970 => tupleD x970).bind fun x972 => ((neD x971 x972).bind fun z973 => asB z973))).bind fun b974 => bif b974 then 
      ((M.pure (.bool false)).bind fun r1087 => M.pure (Fl.rt r1087)) else
    (m_law_c5 last_940 s613 worth_724 day_660 plan_725 cost_726 worths_663)))
def m_law_c7 (s613 : D × D × D) (limit_661 : D) (cost_726 : D) (left_737 : D) (worth_724 : D) (day_660 : D) (plan_725 : D) (worths_663 : D) : M (Fl (Unit) (Unit)) :=
  ((((M.pure s613.1).bind fun x919 => ((M.pure s613.2.1).bind fun x920 => ((M.pure s613.2.2).bind fun x921 => ((M.pure limit_661).bind fun x922 => m_needed_index x919 x920 x921 x922)))).bind fun x936 => ((((M.pure limit_661).bind fun x923 => ((M.pure cost_726).bind fun x924 => ((gtD x923 x924).bind fun z925 => asB z925))).bind fun b935 => bif b935 then ((M.pure left_737).bind fun x926 => (((((M.pure limit_661).bind fun x927 => ((M.pure cost_726).bind fun x928 => subD x927 x928)).bind fun x931 => (((M.pure (.int 1)).bind fun x929 => ((M.pure []).bind fun l930 => M.pure (x929 :: l930))).bind fun l932 => M.pure (x931 :: l932))).bind fun x933 => M.pure (.tuple x933)).bind fun x934 => m__law_by x926 x934)) else (M.pure .none)).bind fun x937 => ((neD x936 x937).bind fun z938 => asB z938))).bind fun b939 => bif b939 then 
      ((M.pure (.bool false)).bind fun r1088 => M.pure (Fl.rt r1088)) else
    (m_law_c6 s613 worth_724 day_660 plan_725 cost_726 worths_663))
def m_law_c8 (index_797 : D) (pace_798 : D) (cost_726 : D) (left_737 : D) (s613 : D × D × D) (day_660 : D) (limit_661 : D) (worth_724 : D) (plan_725 : D) (worths_663 : D) : M (Fl (Unit) (Unit)) :=
  ((M.pure .none).bind fun both_854 => 
    (((((M.pure index_797).bind fun x855 => ((M.pure .none).bind fun x856 => ((isnD x855 x856).bind fun z857 => asB z857))).bind fun b873 => bif b873 then (((M.pure pace_798).bind fun x858 => ((M.pure .none).bind fun x859 => ((isnD x858 x859).bind fun z860 => asB z860))).bind fun b872 => bif b872 then ((((M.pure index_797).bind fun x861 => ((M.pure (.int 0)).bind fun x862 => ixD x861 x862)).bind fun x863 => ((M.pure (.int 0)).bind fun x864 => ((gtD x863 x864).bind fun z865 => asB z865))).bind fun b871 => bif b871 then (((M.pure pace_798).bind fun x866 => ((M.pure (.int 0)).bind fun x867 => ixD x866 x867)).bind fun x868 => ((M.pure (.int 0)).bind fun x869 => ((gtD x868 x869).bind fun z870 => asB z870))) else M.pure false) else M.pure false) else M.pure false).bind fun b874 => bif b874 then 
      (((((((M.pure cost_726).bind fun x878 => (((M.pure (.int 1)).bind fun x876 => ((M.pure []).bind fun l877 => M.pure (x876 :: l877))).bind fun l879 => M.pure (x878 :: l879))).bind fun x880 => M.pure (.tuple x880)).bind fun x905 => (((((((M.pure left_737).bind fun x881 => ((M.pure (.int 0)).bind fun x882 => ixD x881 x882)).bind fun x885 => (((M.pure index_797).bind fun x883 => ((M.pure (.int 1)).bind fun x884 => ixD x883 x884)).bind fun x886 => mulD x885 x886)).bind fun x889 => (((M.pure pace_798).bind fun x887 => ((M.pure (.int 1)).bind fun x888 => ixD x887 x888)).bind fun x890 => mulD x889 x890)).bind fun x891 => (((((M.pure left_737).bind fun x892 => ((M.pure (.int 1)).bind fun x893 => ixD x892 x893)).bind fun x896 => (((M.pure index_797).bind fun x894 => ((M.pure (.int 0)).bind fun x895 => ixD x894 x895)).bind fun x897 => mulD x896 x897)).bind fun x900 => (((M.pure pace_798).bind fun x898 => ((M.pure (.int 0)).bind fun x899 => ixD x898 x899)).bind fun x901 => mulD x900 x901)).bind fun x902 => m__law_part x891 x902)).bind fun x903 => ((M.pure []).bind fun l904 => M.pure (x903 :: l904))).bind fun l906 => M.pure (x905 :: l906))).bind fun x907 => M.pure (.list x907)).bind fun x908 => m__law_add x908).bind fun both_875 => 
      (M.pure both_875)) else
      (M.pure both_854)).bind fun (s909 : D) => 
    ((((M.pure s613.1).bind fun x910 => ((M.pure s613.2.1).bind fun x911 => ((M.pure s613.2.2).bind fun x912 => ((M.pure day_660).bind fun x913 => ((M.pure (.str "both")).bind fun x914 => m_forecast x910 x911 x912 x913 x914))))).bind fun x915 => ((M.pure s909).bind fun x916 => ((neD x915 x916).bind fun z917 => asB z917))).bind fun b918 => bif b918 then 
      ((M.pure (.bool false)).bind fun r1089 => M.pure (Fl.rt r1089)) else
    (m_law_c7 s613 limit_661 cost_726 left_737 worth_724 day_660 plan_725 worths_663))))
def m_law_c9 (index_797 : D) (whole_727 : D) (s613 : D × D × D) (day_660 : D) (pace_798 : D) (cost_726 : D) (left_737 : D) (limit_661 : D) (worth_724 : D) (plan_725 : D) (worths_663 : D) : M (Fl (Unit) (Unit)) :=
  ((((M.pure index_797).bind fun x834 => ((M.pure .none).bind fun x835 => ((isnD x834 x835).bind fun z836 => asB z836))).bind fun b844 => bif b844 then ((((M.pure whole_727).bind fun x839 => (((M.pure (.int 1)).bind fun x837 => ((M.pure []).bind fun l838 => M.pure (x837 :: l838))).bind fun l840 => M.pure (x839 :: l840))).bind fun x841 => M.pure (.tuple x841)).bind fun x842 => ((M.pure index_797).bind fun x843 => m__law_by x842 x843)) else (M.pure .none)).bind fun due_833 => 
    ((((M.pure s613.1).bind fun x845 => ((M.pure s613.2.1).bind fun x846 => ((M.pure s613.2.2).bind fun x847 => ((M.pure day_660).bind fun x848 => ((M.pure (.str "index")).bind fun x849 => m_forecast x845 x846 x847 x848 x849))))).bind fun x850 => ((M.pure due_833).bind fun x851 => ((neD x850 x851).bind fun z852 => asB z852))).bind fun b853 => bif b853 then 
      ((M.pure (.bool false)).bind fun r1090 => M.pure (Fl.rt r1090)) else
    (m_law_c8 index_797 pace_798 cost_726 left_737 s613 day_660 limit_661 worth_724 plan_725 worths_663)))
def m_law_c10 (s613 : D × D × D) (day_660 : D) (cost_726 : D) (left_737 : D) (index_797 : D) (whole_727 : D) (pace_798 : D) (limit_661 : D) (worth_724 : D) (plan_725 : D) (worths_663 : D) : M (Fl (Unit) (Unit)) :=
  ((((M.pure s613.1).bind fun x813 => ((M.pure s613.2.1).bind fun x814 => ((M.pure s613.2.2).bind fun x815 => ((M.pure day_660).bind fun x816 => ((M.pure (.str "plan")).bind fun x817 => m_forecast x813 x814 x815 x816 x817))))).bind fun x829 => (((((((M.pure cost_726).bind fun x820 => (((M.pure (.int 1)).bind fun x818 => ((M.pure []).bind fun l819 => M.pure (x818 :: l819))).bind fun l821 => M.pure (x820 :: l821))).bind fun x822 => M.pure (.tuple x822)).bind fun x825 => (((M.pure left_737).bind fun x823 => ((M.pure []).bind fun l824 => M.pure (x823 :: l824))).bind fun l826 => M.pure (x825 :: l826))).bind fun x827 => M.pure (.list x827)).bind fun x828 => m__law_add x828).bind fun x830 => ((neD x829 x830).bind fun z831 => asB z831))).bind fun b832 => bif b832 then 
      ((M.pure (.bool false)).bind fun r1091 => M.pure (Fl.rt r1091)) else
    (m_law_c9 index_797 whole_727 s613 day_660 pace_798 cost_726 left_737 limit_661 worth_724 plan_725 worths_663))
def m_law_c11 (worth_724 : D) (cost_726 : D) (plan_725 : D) (s613 : D × D × D) (day_660 : D) (left_737 : D) (whole_727 : D) (limit_661 : D) (worths_663 : D) : M (Fl (Unit) (Unit)) :=
  (((M.pure worth_724).bind fun x788 => ((((M.pure cost_726).bind fun x791 => (((M.pure (.int 1)).bind fun x789 => ((M.pure []).bind fun l790 => M.pure (x789 :: l790))).bind fun l792 => M.pure (x791 :: l792))).bind fun x793 => M.pure (.tuple x793)).bind fun x794 => m__law_by x788 x794)).bind fun index_797 => (((M.pure worth_724).bind fun x795 => ((M.pure plan_725).bind fun x796 => m__law_by x795 x796)).bind fun pace_798 => 
    (((((M.pure s613.1).bind fun x799 => ((M.pure s613.2.1).bind fun x800 => ((M.pure s613.2.2).bind fun x801 => m_cost_index x799 x800 x801))).bind fun x802 => ((M.pure index_797).bind fun x803 => ((neD x802 x803).bind fun z804 => asB z804))).bind fun b811 => bif b811 then M.pure true else (((M.pure s613.1).bind fun x805 => ((M.pure s613.2.1).bind fun x806 => ((M.pure day_660).bind fun x807 => m_time_index x805 x806 x807))).bind fun x808 => ((M.pure pace_798).bind fun x809 => ((neD x808 x809).bind fun z810 => asB z810)))).bind fun b812 => bif b812 then 
      ((M.pure (.bool false)).bind fun r1092 => M.pure (Fl.rt r1092)) else
    (m_law_c10 s613 day_660 cost_726 left_737 index_797 whole_727 pace_798 limit_661 worth_724 plan_725 worths_663))))
def m_law_r12 (s613 : D × D × D) : M (Fl (Unit) (Unit)) :=
  (((M.pure (.int 9)).bind fun x658 => m__law_next x658).bind fun day_660 => (((M.pure (.int 30)).bind fun x659 => m__law_next x659).bind fun limit_661 => 
    ((((keysD s613.1).bind fun l666 => ((M.mapM (fun x665 => ((M.pure x665).bind fun a664 => (((M.pure a664).bind fun x695 => (((((M.pure a664).bind fun x668 => ((M.pure s613.2.1).bind fun x669 => ((inD x668 x669).bind fun z670 => asB z670))).bind fun b692 => bif b692 then (((((M.pure s613.1).bind fun x671 => ((M.pure a664).bind fun x672 => ixD x671 x672)).bind fun x673 => ((M.pure (.int 2)).bind fun x674 => ixD x673 x674)).bind fun x679 => ((((M.pure s613.2.1).bind fun x675 => ((M.pure a664).bind fun x676 => ixD x675 x676)).bind fun x677 => ((M.pure (.int 0)).bind fun x678 => ixD x677 x678)).bind fun x680 => mulD x679 x680)).bind fun x681 => ((((M.pure s613.2.1).bind fun x682 => ((M.pure a664).bind fun x683 => ixD x682 x683)).bind fun x684 => ((M.pure (.int 1)).bind fun x685 => ixD x684 x685)).bind fun x686 => m__law_part x681 x686)) else (((M.pure (.int 0)).bind fun x689 => (((M.pure (.int 1)).bind fun x687 => ((M.pure []).bind fun l688 => M.pure (x687 :: l688))).bind fun l690 => M.pure (x689 :: l690))).bind fun x691 => M.pure (.tuple x691))).bind fun x693 => ((M.pure []).bind fun l694 => M.pure (x693 :: l694))).bind fun l696 => M.pure (x695 :: l696))).bind fun x697 => M.pure (.tuple x697)))) l666).bind fun l667 => M.pure (.list l667))).bind fun x698 => dictD x698).bind fun worths_663 => 
    ((((keysD worths_663).bind fun l710 => ((M.mapM (fun x709 => ((M.pure x709).bind fun a708 => ((M.pure worths_663).bind fun x712 => ((M.pure a708).bind fun x713 => ixD x712 x713)))) l710).bind fun l711 => M.pure (.list l711))).bind fun x714 => m__law_add x714).bind fun worth_724 => (((M.pure s613.1).bind fun x715 => ((M.pure day_660).bind fun x716 => m__law_planned x715 x716)).bind fun plan_725 => ((((keysD s613.2.2).bind fun l719 => ((M.mapM (fun x718 => ((M.pure x718).bind fun a717 => ((M.pure s613.2.2).bind fun x721 => ((M.pure a717).bind fun x722 => ixD x721 x722)))) l719).bind fun l720 => M.pure (.list l720))).bind fun x723 => sumD x723).bind fun cost_726 => 
    ((((keysD s613.1).bind fun l730 => ((M.mapM (fun x729 => ((M.pure x729).bind fun a728 => (((M.pure s613.1).bind fun x732 => ((M.pure a728).bind fun x733 => ixD x732 x733)).bind fun x734 => ((M.pure (.int 2)).bind fun x735 => ixD x734 x735)))) l730).bind fun l731 => M.pure (.list l731))).bind fun x736 => sumD x736).bind fun whole_727 => 
    (((((((M.pure whole_727).bind fun x740 => (((M.pure (.int 1)).bind fun x738 => ((M.pure []).bind fun l739 => M.pure (x738 :: l739))).bind fun l741 => M.pure (x740 :: l741))).bind fun x742 => M.pure (.tuple x742)).bind fun x756 => ((((((M.pure (.int 0)).bind fun x745 => (((M.pure worth_724).bind fun x743 => ((M.pure (.int 0)).bind fun x744 => ixD x743 x744)).bind fun x746 => subD x745 x746)).bind fun x751 => ((((M.pure worth_724).bind fun x747 => ((M.pure (.int 1)).bind fun x748 => ixD x747 x748)).bind fun x749 => ((M.pure []).bind fun l750 => M.pure (x749 :: l750))).bind fun l752 => M.pure (x751 :: l752))).bind fun x753 => M.pure (.tuple x753)).bind fun x754 => ((M.pure []).bind fun l755 => M.pure (x754 :: l755))).bind fun l757 => M.pure (x756 :: l757))).bind fun x758 => M.pure (.list x758)).bind fun x759 => m__law_add x759).bind fun left_737 => 
    (((((M.pure s613.1).bind fun x766 => ((M.pure day_660).bind fun x767 => m_planned_at x766 x767)).bind fun x768 => ((M.pure plan_725).bind fun x769 => ((neD x768 x769).bind fun z770 => asB z770))).bind fun b786 => bif b786 then M.pure true else ((((M.pure s613.1).bind fun x771 => ((M.pure s613.2.1).bind fun x772 => m_earned x771 x772)).bind fun x773 => ((M.pure worth_724).bind fun x774 => ((neD x773 x774).bind fun z775 => asB z775))).bind fun b785 => bif b785 then M.pure true else ((((M.pure s613.2.2).bind fun x776 => m_cost_so_far x776).bind fun x777 => ((M.pure cost_726).bind fun x778 => ((neD x777 x778).bind fun z779 => asB z779))).bind fun b784 => bif b784 then M.pure true else (((M.pure s613.1).bind fun x780 => m_budget_of x780).bind fun x781 => ((M.pure whole_727).bind fun x782 => ((neD x781 x782).bind fun z783 => asB z783)))))).bind fun b787 => bif b787 then 
      ((M.pure (.bool false)).bind fun r1093 => M.pure (Fl.rt r1093)) else
    (m_law_c11 worth_724 cost_726 plan_725 s613 day_660 left_737 whole_727 limit_661 worths_663))))))))))
def m_law_b13 (s594 : Unit) (a595 : D) : M (Fl (Unit) (Unit)) :=
  ((M.pure (.dict [])).bind fun lines_596 => ((M.pure (.dict [])).bind fun done_597 => ((M.pure (.dict [])).bind fun spent_598 => 
    ((((((M.pure (.str "dig")).bind fun x603 => (((M.pure (.str "ask")).bind fun x601 => (((M.pure (.str "fix")).bind fun x599 => ((M.pure []).bind fun l600 => M.pure (x599 :: l600))).bind fun l602 => M.pure (x601 :: l602))).bind fun l604 => M.pure (x603 :: l604))).bind fun x605 => M.pure (.list x605)).bind fun x606 => ((M.pure none).bind fun l610 => ((((M.pure (.int 4)).bind fun x607 => m__law_next x607).bind fun x608 => ((asI x608).bind fun i609 => M.pure (some i609))).bind fun h611 => slD x606 l610 h611))).bind fun x612 => asS x612).bind fun l1095 => (M.fold (fun (s613 : D × D × D) x1094 => ((M.pure x1094).bind fun a614 => 
      (m_law_b1 s613 a614))) (lines_596, done_597, spent_598) l1095).bind fun (s613 : D × D × D) =>
    (m_law_r12 s613)))))
def m_law_r14 (s594 : Unit) : M D :=
  (M.pure (.bool true))
def m_law : M D :=
  (((M.pure (.int 4)).bind fun x592 => ((asI x592).bind fun i593 => rngD 0 i593)).bind fun l1097 => (M.foldF (fun (s594 : Unit) x1096 => ((M.pure x1096).bind fun a595 => 
    (m_law_b13 s594 a595))) () l1097).bind (Fl.go (fun (s594 : Unit) =>
  (m_law_r14 s594)) (fun d => M.pure d)))
/-! ### and that they do -/
section
variable {P : Program} {w : World} {K : PySem.W.Frag} {mg : Str → Option Value} {base : Heap}
theorem fd_divisor (h : Has K mg "divisor" st_divisor) : FnD P w K mg base "divisor" 1 2 (mf_vv m_divisor) :=
  fnd_vv (k := 0) h sc_divisor rfl (by decide) (fun _ _ _ _ _ _ us hl => match us, hl with | [_, _], _ => rfl) fun a_ b_ =>
  (w_nf (Γ' := [some (.val a_), some (.val b_)]) rfl (w_while (σt := D × D) (fun (s1 : D × D) => [some (.val s1.1), some (.val s1.2)]) (a_, b_) [true, true] rfl rfl (fun s1 => (wt_cmp ne_ok (we_var (i := 1) va_divisor_b rfl).wb we_int.wb rfl))
    (fun s1 =>
    (w_swp2 (oa := false) (ob := false) (i := 0) (j := 1) sa_divisor_a sa_divisor_b (by decide) lk_divisor_a lk_divisor_b (we_var (i := 1) va_divisor_b rfl) (we_op mod_ok (we_var (i := 0) va_divisor_a rfl).wb (we_var (i := 1) va_divisor_b rfl).wb) rfl fun a_7 b_8 =>
    (w_nf (Γ' := [some (.val a_7), some (.val b_8)]) rfl (w_nil [true, true] (r := (a_7, b_8)) rfl rfl))))
    (fun s1 =>
  (w_ret (we_ife (wt_cmp ne_ok (we_var (i := 0) va_divisor_a rfl).wb we_int.wb rfl) (we_var (i := 0) va_divisor_a rfl) we_int)))))
theorem fd_fraction (h : Has K mg "fraction" st_fraction) (hb_abs : mg "abs" = none) (d_divisor : FnD P w K mg base "divisor" 1 2 (mf_vv m_divisor)) : FnD P w K mg base "fraction" 2 2 (mf_vv m_fraction) :=
  fnd_vv (k := 1) h sc_fraction rfl (by decide) (fun _ _ _ _ _ _ us hl => match us, hl with | [_, _], _ => rfl) fun a_ b_ =>
  (w_nf (Γ' := [some (.val a_), some (.val b_), none]) rfl (w_set (i := 2) sa_fraction_common (we_op mul_ok (we_call_vv d_divisor lk_fraction_divisor (Nat.le_of_ble_eq_true rfl) (we_c1B (blt_abs lk_fraction_abs hb_abs) abs_ok (we_var (i := 0) va_fraction_a rfl).wb) (we_c1B (blt_abs lk_fraction_abs hb_abs) abs_ok (we_var (i := 1) va_fraction_b rfl).wb)).wb (we_ife (wt_cmp gt_ok (we_var (i := 1) va_fraction_b rfl).wb we_int.wb rfl) we_int (we_un neg_ok we_int.wb)).wb) fun common_13 =>
  (w_nf (Γ' := [some (.val a_), some (.val b_), some (.val common_13)]) rfl (w_ret (we_tup (wa_cons (we_op fdiv_ok (we_var (i := 0) va_fraction_a rfl).wb (we_var (i := 2) va_fraction_common rfl).wb) (wa_cons (we_op fdiv_ok (we_var (i := 1) va_fraction_b rfl).wb (we_var (i := 2) va_fraction_common rfl).wb) wa_nil)))))))
theorem fd_plus (h : Has K mg "plus" st_plus) (d_fraction : FnD P w K mg base "fraction" 2 2 (mf_vv m_fraction)) : FnD P w K mg base "plus" 3 2 (mf_vv m_plus) :=
  fnd_vv (k := 2) h sc_plus rfl (by decide) (fun _ _ _ _ _ _ us hl => match us, hl with | [_, _], _ => rfl) fun one_ other_ =>
  (w_nf (Γ' := [some (.val one_), some (.val other_)]) rfl (w_ret (we_call_vv d_fraction lk_plus_fraction (Nat.le_of_ble_eq_true rfl) (we_op add_ok (we_op mul_ok (we_ix ix_ok (we_var (i := 0) va_plus_one rfl).wb we_int.wb fun _ _ => rfl).wb (we_ix ix_ok (we_var (i := 1) va_plus_other rfl).wb we_int.wb fun _ _ => rfl).wb).wb (we_op mul_ok (we_ix ix_ok (we_var (i := 1) va_plus_other rfl).wb we_int.wb fun _ _ => rfl).wb (we_ix ix_ok (we_var (i := 0) va_plus_one rfl).wb we_int.wb fun _ _ => rfl).wb).wb) (we_op mul_ok (we_ix ix_ok (we_var (i := 0) va_plus_one rfl).wb we_int.wb fun _ _ => rfl).wb (we_ix ix_ok (we_var (i := 1) va_plus_other rfl).wb we_int.wb fun _ _ => rfl).wb))))
theorem fd_times (h : Has K mg "times" st_times) (d_fraction : FnD P w K mg base "fraction" 2 2 (mf_vv m_fraction)) : FnD P w K mg base "times" 3 2 (mf_vv m_times) :=
  fnd_vv (k := 2) h sc_times rfl (by decide) (fun _ _ _ _ _ _ us hl => match us, hl with | [_, _], _ => rfl) fun one_ other_ =>
  (w_nf (Γ' := [some (.val one_), some (.val other_)]) rfl (w_ret (we_call_vv d_fraction lk_times_fraction (Nat.le_of_ble_eq_true rfl) (we_op mul_ok (we_ix ix_ok (we_var (i := 0) va_times_one rfl).wb we_int.wb fun _ _ => rfl).wb (we_ix ix_ok (we_var (i := 1) va_times_other rfl).wb we_int.wb fun _ _ => rfl).wb) (we_op mul_ok (we_ix ix_ok (we_var (i := 0) va_times_one rfl).wb we_int.wb fun _ _ => rfl).wb (we_ix ix_ok (we_var (i := 1) va_times_other rfl).wb we_int.wb fun _ _ => rfl).wb))))
theorem fd_minus (h : Has K mg "minus" st_minus) (d_plus : FnD P w K mg base "plus" 3 2 (mf_vv m_plus)) : FnD P w K mg base "minus" 4 2 (mf_vv m_minus) :=
  fnd_vv (k := 3) h sc_minus rfl (by decide) (fun _ _ _ _ _ _ us hl => match us, hl with | [_, _], _ => rfl) fun one_ other_ =>
  (w_nf (Γ' := [some (.val one_), some (.val other_)]) rfl (w_ret (we_call_vv d_plus lk_minus_plus (Nat.le_of_ble_eq_true rfl) (we_var (i := 0) va_minus_one rfl) (we_tup (wa_cons (we_un neg_ok (we_ix ix_ok (we_var (i := 1) va_minus_other rfl).wb we_int.wb fun _ _ => rfl).wb) (wa_cons (we_ix ix_ok (we_var (i := 1) va_minus_other rfl).wb we_int.wb fun _ _ => rfl) wa_nil))))))
theorem fd_over (h : Has K mg "over" st_over) (d_fraction : FnD P w K mg base "fraction" 2 2 (mf_vv m_fraction)) : FnD P w K mg base "over" 3 2 (mf_vv m_over) :=
  fnd_vv (k := 2) h sc_over rfl (by decide) (fun _ _ _ _ _ _ us hl => match us, hl with | [_, _], _ => rfl) fun one_ other_ =>
  (w_nf (Γ' := [some (.val one_), some (.val other_)]) rfl (w_ret (we_call_vv d_fraction lk_over_fraction (Nat.le_of_ble_eq_true rfl) (we_op mul_ok (we_ix ix_ok (we_var (i := 0) va_over_one rfl).wb we_int.wb fun _ _ => rfl).wb (we_ix ix_ok (we_var (i := 1) va_over_other rfl).wb we_int.wb fun _ _ => rfl).wb) (we_op mul_ok (we_ix ix_ok (we_var (i := 0) va_over_one rfl).wb we_int.wb fun _ _ => rfl).wb (we_ix ix_ok (we_var (i := 1) va_over_other rfl).wb we_int.wb fun _ _ => rfl).wb))))
theorem fd_is_less (h : Has K mg "is_less" st_is_less) : FnD P w K mg base "is_less" 1 2 (mf_vv m_is_less) :=
  fnd_vv (k := 0) h sc_is_less rfl (by decide) (fun _ _ _ _ _ _ us hl => match us, hl with | [_, _], _ => rfl) fun one_ other_ =>
  (w_nf (Γ' := [some (.val one_), some (.val other_)]) rfl (w_ret (we_cmp lt_ok (we_op mul_ok (we_ix ix_ok (we_var (i := 0) va_is_less_one rfl).wb we_int.wb fun _ _ => rfl).wb (we_ix ix_ok (we_var (i := 1) va_is_less_other rfl).wb we_int.wb fun _ _ => rfl).wb).wb (we_op mul_ok (we_ix ix_ok (we_var (i := 1) va_is_less_other rfl).wb we_int.wb fun _ _ => rfl).wb (we_ix ix_ok (we_var (i := 0) va_is_less_one rfl).wb we_int.wb fun _ _ => rfl).wb).wb rfl)))
theorem fd_sum_of (h : Has K mg "sum_of" st_sum_of) (d_plus : FnD P w K mg base "plus" 3 2 (mf_vv m_plus)) : FnD P w K mg base "sum_of" 4 1 (mf_v m_sum_of) :=
  fnd_v (k := 3) h sc_sum_of rfl (by decide) (fun _ _ _ _ _ _ us hl => match us, hl with | [_], _ => rfl) fun fractions_ =>
  (w_nf (Γ' := [some (.val fractions_), none, none]) rfl (w_set (i := 1) sa_sum_of_found (we_tup (wa_cons we_int (wa_cons we_int wa_nil))) fun found_110 =>
  (w_nf (Γ' := [some (.val fractions_), some (.val found_110), none]) rfl (w_for (σt := D) (fun (s117 : D) => [some (.val fractions_), some (.val s117), none]) found_110 [true, true, false] (wi_seq (we_var (i := 0) va_sum_of_fractions rfl)) (wg_name (i := 2) sa_sum_of_one) rfl rfl
    (fun s117 a118 =>
    (w_nf (Γ' := [some (.val fractions_), some (.val s117), some (.val a118)]) rfl (w_set (i := 1) sa_sum_of_found (we_call_vv d_plus lk_sum_of_plus (Nat.le_of_ble_eq_true rfl) (we_var (i := 1) va_sum_of_found rfl) (we_var (i := 2) va_sum_of_one rfl)) fun found_119 =>
    (w_nf (Γ' := [some (.val fractions_), some (.val found_119), some (.val a118)]) rfl (w_nil [true, true, false] (r := found_119) rfl rfl)))))
    (fun s117 =>
  (w_ret (we_var (i := 1) va_sum_of_found rfl)))))))
theorem fd_planned_of (h : Has K mg "planned_of" st_planned_of) (hb_max : mg "max" = none) (hb_min : mg "min" = none) (d_fraction : FnD P w K mg base "fraction" 2 2 (mf_vv m_fraction)) : FnD P w K mg base "planned_of" 3 2 (mf_vv m_planned_of) :=
  fnd_vv (k := 2) h sc_planned_of rfl (by decide) (fun _ _ _ _ _ _ us hl => match us, hl with | [_, _], _ => rfl) fun line_ day_ =>
  (w_nf (Γ' := [some (.val line_), some (.val day_), none, none, none]) rfl (w_asg (we_var (i := 0) va_planned_of_line rfl) (wg_tup3 (i := 2) (j := 3) (k := 4) sa_planned_of_begin sa_planned_of_days sa_planned_of_budget) fun t125 =>
  (w_nf (Γ' := [some (.val line_), some (.val day_), some (.val t125.1), some (.val t125.2.1), some (.val t125.2.2)]) rfl (w_ret (we_call_vv d_fraction lk_planned_of_fraction (Nat.le_of_ble_eq_true rfl) (we_op mul_ok (we_var (i := 4) va_planned_of_budget rfl).wb (we_c2B (blt_max lk_planned_of_max hb_max) max2_ok we_int.wb (we_c2B (blt_min lk_planned_of_min hb_min) min2_ok (we_var (i := 3) va_planned_of_days rfl).wb (we_op sub_ok (we_op add_ok (we_var (i := 1) va_planned_of_day rfl).wb we_int.wb).wb (we_var (i := 2) va_planned_of_begin rfl).wb).wb).wb).wb) (we_var (i := 3) va_planned_of_days rfl))))))
theorem fd_planned_at (h : Has K mg "planned_at" st_planned_at) (d_sum_of : FnD P w K mg base "sum_of" 4 1 (mf_v m_sum_of)) (d_planned_of : FnD P w K mg base "planned_of" 3 2 (mf_vv m_planned_of)) : FnD P w K mg base "planned_at" 5 2 (mf_vv m_planned_at) :=
  fnd_vv (k := 4) h sc_planned_at rfl (by decide) (fun _ _ _ _ _ _ us hl => match us, hl with | [_, _], _ => rfl) fun lines_ day_ =>
  (w_nf (Γ' := [some (.val lines_), some (.val day_), none]) rfl (w_ret (we_call_v d_sum_of lk_planned_at_sum_of (Nat.le_of_ble_eq_true rfl) (we_lcK (i := 0) (own := [("name", 2)]) va_planned_at_lines rfl (by dsimp only [Sg.blk]; decide +kernel) (wg_name (i := 2) (saL rfl (rel_loc rfl))) (by decide) (fun a138 => (we_nf (Γ' := [some (.val lines_), some (.val day_), some (.val a138)]) rfl (we_call_vv d_planned_of (rel_glob rfl) (Nat.le_of_ble_eq_true rfl) (we_ix ix_ok (we_var (i := 0) (vaC rfl (rel_free rfl rfl lk_planned_at_lines) nm_lines) rfl).wb (we_var (i := 2) (vaL rfl (rel_loc rfl) nm_name) rfl).wb fun _ _ => rfl) (we_var (i := 1) (vaC rfl (rel_free rfl rfl lk_planned_at_day) nm_day) rfl))))))))
theorem fd_earned_of (h : Has K mg "earned_of" st_earned_of) (gl_NOTHING : GlC K mg "NOTHING" c_NOTHING) (d_times : FnD P w K mg base "times" 3 2 (mf_vv m_times)) : FnD P w K mg base "earned_of" 4 3 (mf_vvv m_earned_of) :=
  fnd_vvv (k := 3) h sc_earned_of rfl (by decide) (fun _ _ _ _ _ _ us hl => match us, hl with | [_, _, _], _ => rfl) fun lines_ done_ name_ =>
  (w_nf (Γ' := [some (.val lines_), some (.val done_), some (.val name_)]) rfl (w_ret (we_call_vv d_times lk_earned_of_times (Nat.le_of_ble_eq_true rfl) (we_tup (wa_cons (we_ix ix_ok (we_ix ix_ok (we_var (i := 0) va_earned_of_lines rfl).wb (we_var (i := 2) va_earned_of_name rfl).wb fun _ _ => rfl).wb we_int.wb fun _ _ => rfl) (wa_cons we_int wa_nil))) (we_get2 (we_var (i := 1) va_earned_of_done rfl) (we_var (i := 2) va_earned_of_name rfl) (we_glc gl_NOTHING lk_earned_of_NOTHING) fun _ => ⟨rfl, rfl, rfl, rfl⟩))))
theorem fd_earned (h : Has K mg "earned" st_earned) (d_sum_of : FnD P w K mg base "sum_of" 4 1 (mf_v m_sum_of)) (d_earned_of : FnD P w K mg base "earned_of" 4 3 (mf_vvv m_earned_of)) : FnD P w K mg base "earned" 5 2 (mf_vv m_earned) :=
  fnd_vv (k := 4) h sc_earned rfl (by decide) (fun _ _ _ _ _ _ us hl => match us, hl with | [_, _], _ => rfl) fun lines_ done_ =>
  (w_nf (Γ' := [some (.val lines_), some (.val done_), none]) rfl (w_ret (we_call_v d_sum_of lk_earned_sum_of (Nat.le_of_ble_eq_true rfl) (we_lcK (i := 0) (own := [("name", 2)]) va_earned_lines rfl (by dsimp only [Sg.blk]; decide +kernel) (wg_name (i := 2) (saL rfl (rel_loc rfl))) (by decide) (fun a161 => (we_nf (Γ' := [some (.val lines_), some (.val done_), some (.val a161)]) rfl (we_call_vvv d_earned_of (rel_glob rfl) (Nat.le_of_ble_eq_true rfl) (we_var (i := 0) (vaC rfl (rel_free rfl rfl lk_earned_lines) nm_lines) rfl) (we_var (i := 1) (vaC rfl (rel_free rfl rfl lk_earned_done) nm_done) rfl) (we_var (i := 2) (vaL rfl (rel_loc rfl) nm_name) rfl))))))))
theorem fd_cost_so_far (h : Has K mg "cost_so_far" st_cost_so_far) (hb_sum : mg "sum" = none) : FnD P w K mg base "cost_so_far" 1 1 (mf_v m_cost_so_far) :=
  fnd_v (k := 0) h sc_cost_so_far rfl (by decide) (fun _ _ _ _ _ _ us hl => match us, hl with | [_], _ => rfl) fun spent_ =>
  (w_nf (Γ' := [some (.val spent_), none]) rfl (w_ret (we_c1B (blt_sum lk_cost_so_far_sum hb_sum) sum_ok (we_lcK (i := 0) (own := [("name", 1)]) va_cost_so_far_spent rfl (by dsimp only [Sg.blk]; decide +kernel) (wg_name (i := 1) (saL rfl (rel_loc rfl))) (by decide) (fun a169 => (we_nf (Γ' := [some (.val spent_), some (.val a169)]) rfl (we_ix ix_ok (we_var (i := 0) (vaC rfl (rel_free rfl rfl lk_cost_so_far_spent) nm_spent) rfl).wb (we_var (i := 1) (vaL rfl (rel_loc rfl) nm_name) rfl).wb fun _ _ => rfl)))).wb)))
theorem fd_budget_of (h : Has K mg "budget_of" st_budget_of) (hb_sum : mg "sum" = none) : FnD P w K mg base "budget_of" 1 1 (mf_v m_budget_of) :=
  fnd_v (k := 0) h sc_budget_of rfl (by decide) (fun _ _ _ _ _ _ us hl => match us, hl with | [_], _ => rfl) fun lines_ =>
  (w_nf (Γ' := [some (.val lines_), none]) rfl (w_ret (we_c1B (blt_sum lk_budget_of_sum hb_sum) sum_ok (we_lcK (i := 0) (own := [("name", 1)]) va_budget_of_lines rfl (by dsimp only [Sg.blk]; decide +kernel) (wg_name (i := 1) (saL rfl (rel_loc rfl))) (by decide) (fun a176 => (we_nf (Γ' := [some (.val lines_), some (.val a176)]) rfl (we_ix ix_ok (we_ix ix_ok (we_var (i := 0) (vaC rfl (rel_free rfl rfl lk_budget_of_lines) nm_lines) rfl).wb (we_var (i := 1) (vaL rfl (rel_loc rfl) nm_name) rfl).wb fun _ _ => rfl).wb we_int.wb fun _ _ => rfl)))).wb)))
theorem fd_cost_index (h : Has K mg "cost_index" st_cost_index) (d_cost_so_far : FnD P w K mg base "cost_so_far" 1 1 (mf_v m_cost_so_far)) (d_over : FnD P w K mg base "over" 3 2 (mf_vv m_over)) (d_earned : FnD P w K mg base "earned" 5 2 (mf_vv m_earned)) : FnD P w K mg base "cost_index" 6 3 (mf_vvv m_cost_index) :=
  fnd_vvv (k := 5) h sc_cost_index rfl (by decide) (fun _ _ _ _ _ _ us hl => match us, hl with | [_, _, _], _ => rfl) fun lines_ done_ spent_ =>
  (w_nf (Γ' := [some (.val lines_), some (.val done_), some (.val spent_), none]) rfl (w_set (i := 3) sa_cost_index_cost (we_call_v d_cost_so_far lk_cost_index_cost_so_far (Nat.le_of_ble_eq_true rfl) (we_var (i := 2) va_cost_index_spent rfl)) fun cost_185 =>
  (w_nf (Γ' := [some (.val lines_), some (.val done_), some (.val spent_), some (.val cost_185)]) rfl (w_ret (we_ife (wt_cmp ne_ok (we_var (i := 3) va_cost_index_cost rfl).wb we_int.wb rfl) (we_call_vv d_over lk_cost_index_over (Nat.le_of_ble_eq_true rfl) (we_call_vv d_earned lk_cost_index_earned (Nat.le_of_ble_eq_true rfl) (we_var (i := 0) va_cost_index_lines rfl) (we_var (i := 1) va_cost_index_done rfl)) (we_tup (wa_cons (we_var (i := 3) va_cost_index_cost rfl) (wa_cons we_int wa_nil)))) we_non)))))
theorem fd_time_index (h : Has K mg "time_index" st_time_index) (gl_NOTHING : GlC K mg "NOTHING" c_NOTHING) (d_planned_at : FnD P w K mg base "planned_at" 5 2 (mf_vv m_planned_at)) (d_over : FnD P w K mg base "over" 3 2 (mf_vv m_over)) (d_earned : FnD P w K mg base "earned" 5 2 (mf_vv m_earned)) : FnD P w K mg base "time_index" 6 3 (mf_vvv m_time_index) :=
  fnd_vvv (k := 5) h sc_time_index rfl (by decide) (fun _ _ _ _ _ _ us hl => match us, hl with | [_, _, _], _ => rfl) fun lines_ done_ day_ =>
  (w_nf (Γ' := [some (.val lines_), some (.val done_), some (.val day_), none]) rfl (w_set (i := 3) sa_time_index_planned (we_call_vv d_planned_at lk_time_index_planned_at (Nat.le_of_ble_eq_true rfl) (we_var (i := 0) va_time_index_lines rfl) (we_var (i := 2) va_time_index_day rfl)) fun planned_200 =>
  (w_nf (Γ' := [some (.val lines_), some (.val done_), some (.val day_), some (.val planned_200)]) rfl (w_ret (we_ife (wt_cmp ne_ok (we_var (i := 3) va_time_index_planned rfl).wb (we_glc gl_NOTHING lk_time_index_NOTHING).wb rfl) (we_call_vv d_over lk_time_index_over (Nat.le_of_ble_eq_true rfl) (we_call_vv d_earned lk_time_index_earned (Nat.le_of_ble_eq_true rfl) (we_var (i := 0) va_time_index_lines rfl) (we_var (i := 1) va_time_index_done rfl)) (we_var (i := 3) va_time_index_planned rfl)) we_non)))))
theorem fd_left_of (h : Has K mg "left_of" st_left_of) (d_minus : FnD P w K mg base "minus" 4 2 (mf_vv m_minus)) (d_earned : FnD P w K mg base "earned" 5 2 (mf_vv m_earned)) (d_budget_of : FnD P w K mg base "budget_of" 1 1 (mf_v m_budget_of)) : FnD P w K mg base "left_of" 6 2 (mf_vv m_left_of) :=
  fnd_vv (k := 5) h sc_left_of rfl (by decide) (fun _ _ _ _ _ _ us hl => match us, hl with | [_, _], _ => rfl) fun lines_ done_ =>
  (w_nf (Γ' := [some (.val lines_), some (.val done_)]) rfl (w_ret (we_call_vv d_minus lk_left_of_minus (Nat.le_of_ble_eq_true rfl) (we_tup (wa_cons (we_call_v d_budget_of lk_left_of_budget_of (Nat.le_of_ble_eq_true rfl) (we_var (i := 0) va_left_of_lines rfl)) (wa_cons we_int wa_nil))) (we_call_vv d_earned lk_left_of_earned (Nat.le_of_ble_eq_true rfl) (we_var (i := 0) va_left_of_lines rfl) (we_var (i := 1) va_left_of_done rfl)))))
theorem fd_forecast (h : Has K mg "forecast" st_forecast) (gl_NOTHING : GlC K mg "NOTHING" c_NOTHING) (d_time_index : FnD P w K mg base "time_index" 6 3 (mf_vvv m_time_index)) (d_plus : FnD P w K mg base "plus" 3 2 (mf_vv m_plus)) (d_cost_index : FnD P w K mg base "cost_index" 6 3 (mf_vvv m_cost_index)) (d_over : FnD P w K mg base "over" 3 2 (mf_vv m_over)) (d_cost_so_far : FnD P w K mg base "cost_so_far" 1 1 (mf_v m_cost_so_far)) (d_left_of : FnD P w K mg base "left_of" 6 2 (mf_vv m_left_of)) (d_times : FnD P w K mg base "times" 3 2 (mf_vv m_times)) (d_budget_of : FnD P w K mg base "budget_of" 1 1 (mf_v m_budget_of)) : FnD P w K mg base "forecast" 7 5 (mf_vvvvv m_forecast) :=
  fnd_vvvvv (k := 6) h sc_forecast rfl (by decide) (fun _ _ _ _ _ _ us hl => match us, hl with | [_, _, _, _, _], _ => rfl) fun lines_ done_ spent_ day_ way_ =>
  (w_nf (Γ' := [some (.val lines_), some (.val done_), some (.val spent_), some (.val day_), some (.val way_), none, none, none]) rfl (w_swp2 (oa := false) (ob := false) (i := 5) (j := 6) sa_forecast_cost sa_forecast_index (by decide) lk_forecast_cost lk_forecast_index (we_tup (wa_cons (we_call_v d_cost_so_far lk_forecast_cost_so_far (Nat.le_of_ble_eq_true rfl) (we_var (i := 2) va_forecast_spent rfl)) (wa_cons we_int wa_nil))) (we_call_vvv d_cost_index lk_forecast_cost_index (Nat.le_of_ble_eq_true rfl) (we_var (i := 0) va_forecast_lines rfl) (we_var (i := 1) va_forecast_done rfl) (we_var (i := 2) va_forecast_spent rfl)) rfl fun cost_230 index_231 =>
  (w_nf (Γ' := [some (.val lines_), some (.val done_), some (.val spent_), some (.val day_), some (.val way_), some (.val cost_230), some (.val index_231), none]) rfl (w_ifR (wt_cmp eq_ok (we_var (i := 4) va_forecast_way rfl).wb we_str.wb rfl)
    (w_ret (we_call_vv d_plus lk_forecast_plus (Nat.le_of_ble_eq_true rfl) (we_var (i := 5) va_forecast_cost rfl) (we_call_vv d_left_of lk_forecast_left_of (Nat.le_of_ble_eq_true rfl) (we_var (i := 0) va_forecast_lines rfl) (we_var (i := 1) va_forecast_done rfl))))
  (w_ifR (wt_ww (ww_or (wt_cmp is_ok (we_var (i := 6) va_forecast_index rfl).wb we_non.wb rfl) (ww_or1 (wt_cmp eq_ok (we_var (i := 6) va_forecast_index rfl).wb (we_glc gl_NOTHING lk_forecast_NOTHING).wb rfl))))
    (w_ret we_non)
  (w_ifR (wt_cmp eq_ok (we_var (i := 4) va_forecast_way rfl).wb we_str.wb rfl)
    (w_ret (we_call_vv d_over lk_forecast_over (Nat.le_of_ble_eq_true rfl) (we_tup (wa_cons (we_call_v d_budget_of lk_forecast_budget_of (Nat.le_of_ble_eq_true rfl) (we_var (i := 0) va_forecast_lines rfl)) (wa_cons we_int wa_nil))) (we_var (i := 6) va_forecast_index rfl)))
  (w_set (i := 7) sa_forecast_pace (we_call_vvv d_time_index lk_forecast_time_index (Nat.le_of_ble_eq_true rfl) (we_var (i := 0) va_forecast_lines rfl) (we_var (i := 1) va_forecast_done rfl) (we_var (i := 3) va_forecast_day rfl)) fun pace_260 =>
  (w_nf (Γ' := [some (.val lines_), some (.val done_), some (.val spent_), some (.val day_), some (.val way_), some (.val cost_230), some (.val index_231), some (.val pace_260)]) rfl (w_ifR (wt_ww (ww_or (wt_cmp is_ok (we_var (i := 7) va_forecast_pace rfl).wb we_non.wb rfl) (ww_or1 (wt_cmp eq_ok (we_var (i := 7) va_forecast_pace rfl).wb (we_glc gl_NOTHING lk_forecast_NOTHING).wb rfl))))
    (w_ret we_non)
  (w_ret (we_call_vv d_plus lk_forecast_plus (Nat.le_of_ble_eq_true rfl) (we_var (i := 5) va_forecast_cost rfl) (we_call_vv d_over lk_forecast_over (Nat.le_of_ble_eq_true rfl) (we_call_vv d_left_of lk_forecast_left_of (Nat.le_of_ble_eq_true rfl) (we_var (i := 0) va_forecast_lines rfl) (we_var (i := 1) va_forecast_done rfl)) (we_call_vv d_times lk_forecast_times (Nat.le_of_ble_eq_true rfl) (we_var (i := 6) va_forecast_index rfl) (we_var (i := 7) va_forecast_pace rfl))))))))))))))
theorem fd_needed_index (h : Has K mg "needed_index" st_needed_index) (d_cost_so_far : FnD P w K mg base "cost_so_far" 1 1 (mf_v m_cost_so_far)) (d_over : FnD P w K mg base "over" 3 2 (mf_vv m_over)) (d_left_of : FnD P w K mg base "left_of" 6 2 (mf_vv m_left_of)) : FnD P w K mg base "needed_index" 7 4 (mf_vvvv m_needed_index) :=
  fnd_vvvv (k := 6) h sc_needed_index rfl (by decide) (fun _ _ _ _ _ _ us hl => match us, hl with | [_, _, _, _], _ => rfl) fun lines_ done_ spent_ limit_ =>
  (w_nf (Γ' := [some (.val lines_), some (.val done_), some (.val spent_), some (.val limit_), none]) rfl (w_set (i := 4) sa_needed_index_left (we_op sub_ok (we_var (i := 3) va_needed_index_limit rfl).wb (we_call_v d_cost_so_far lk_needed_index_cost_so_far (Nat.le_of_ble_eq_true rfl) (we_var (i := 2) va_needed_index_spent rfl)).wb) fun left_280 =>
  (w_nf (Γ' := [some (.val lines_), some (.val done_), some (.val spent_), some (.val limit_), some (.val left_280)]) rfl (w_ret (we_ife (wt_cmp gt_ok (we_var (i := 4) va_needed_index_left rfl).wb we_int.wb rfl) (we_call_vv d_over lk_needed_index_over (Nat.le_of_ble_eq_true rfl) (we_call_vv d_left_of lk_needed_index_left_of (Nat.le_of_ble_eq_true rfl) (we_var (i := 0) va_needed_index_lines rfl) (we_var (i := 1) va_needed_index_done rfl)) (we_tup (wa_cons (we_var (i := 4) va_needed_index_left rfl) (wa_cons we_int wa_nil)))) we_non)))))
theorem fd_last_end (h : Has K mg "last_end" st_last_end) (hb_max : mg "max" = none) : FnD P w K mg base "last_end" 1 1 (mf_v m_last_end) :=
  fnd_v (k := 0) h sc_last_end rfl (by decide) (fun _ _ _ _ _ _ us hl => match us, hl with | [_], _ => rfl) fun lines_ =>
  (w_nf (Γ' := [some (.val lines_), none]) rfl (w_ret (we_c1B (blt_max lk_last_end_max hb_max) max_ok (we_op add_ok (we_lst (wa_cons we_int wa_nil)).wb (we_lcK (i := 0) (own := [("name", 1)]) va_last_end_lines rfl (by dsimp only [Sg.blk]; decide +kernel) (wg_name (i := 1) (saL rfl (rel_loc rfl))) (by decide) (fun a300 => (we_nf (Γ' := [some (.val lines_), some (.val a300)]) rfl (we_op add_ok (we_ix ix_ok (we_ix ix_ok (we_var (i := 0) (vaC rfl (rel_free rfl rfl lk_last_end_lines) nm_lines) rfl).wb (we_var (i := 1) (vaL rfl (rel_loc rfl) nm_name) rfl).wb fun _ _ => rfl).wb we_int.wb fun _ _ => rfl).wb (we_ix ix_ok (we_ix ix_ok (we_var (i := 0) (vaC rfl (rel_free rfl rfl lk_last_end_lines) nm_lines) rfl).wb (we_var (i := 1) (vaL rfl (rel_loc rfl) nm_name) rfl).wb fun _ _ => rfl).wb we_int.wb fun _ _ => rfl).wb)))).wb).wb)))
theorem fd_curve (h : Has K mg "curve" st_curve) (hb_range : mg "range" = none) (hb_tuple : mg "tuple" = none) (d_planned_at : FnD P w K mg base "planned_at" 5 2 (mf_vv m_planned_at)) (d_last_end : FnD P w K mg base "last_end" 1 1 (mf_v m_last_end)) : FnD P w K mg base "curve" 6 1 (mf_v m_curve) :=
  fnd_v (k := 5) h sc_curve rfl (by decide) (fun _ _ _ _ _ _ us hl => match us, hl with | [_], _ => rfl) fun lines_ =>
  (w_nf (Γ' := [some (.val lines_), none]) rfl (w_ret (we_c1T (blt_tuple lk_curve_tuple hb_tuple) tuple_ok (we_lc (own := [("day", 1)]) (wi_range1 (blt_range lk_curve_range hb_range) (we_call_v d_last_end lk_curve_last_end (Nat.le_of_ble_eq_true rfl) (we_var (i := 0) va_curve_lines rfl)).wb) (by dsimp only [Sg.blk]; decide +kernel) (wg_name (i := 1) (saL rfl (rel_loc rfl))) (by decide) (fun a320 => (we_nf (Γ' := [some (.val lines_), some (.val a320)]) rfl (we_call_vv d_planned_at (rel_glob rfl) (Nat.le_of_ble_eq_true rfl) (we_var (i := 0) (vaC rfl (rel_free rfl rfl lk_curve_lines) nm_lines) rfl) (we_var (i := 1) (vaL rfl (rel_loc rfl) nm_day) rfl))))).wb)))
theorem fd_earned_day (h : Has K mg "earned_day" st_earned_day) (d_is_less : FnD P w K mg base "is_less" 1 2 (mf_vv m_is_less)) (d_earned : FnD P w K mg base "earned" 5 2 (mf_vv m_earned)) (d_planned_at : FnD P w K mg base "planned_at" 5 2 (mf_vv m_planned_at)) : FnD P w K mg base "earned_day" 6 2 (mf_vv m_earned_day) :=
  fnd_vv (k := 5) h sc_earned_day rfl (by decide) (fun _ _ _ _ _ _ us hl => match us, hl with | [_, _], _ => rfl) fun lines_ done_ =>
  (w_nf (Γ' := [some (.val lines_), some (.val done_), none, none]) rfl (w_swp2 (oa := false) (ob := false) (i := 2) (j := 3) sa_earned_day_day sa_earned_day_worth (by decide) lk_earned_day_day lk_earned_day_worth we_int (we_call_vv d_earned lk_earned_day_earned (Nat.le_of_ble_eq_true rfl) (we_var (i := 0) va_earned_day_lines rfl) (we_var (i := 1) va_earned_day_done rfl)) rfl fun day_329 worth_330 =>
  (w_nf (Γ' := [some (.val lines_), some (.val done_), some (.val day_329), some (.val worth_330)]) rfl (w_while (σt := D) (fun (s331 : D) => [some (.val lines_), some (.val done_), some (.val s331), some (.val worth_330)]) day_329 [true, true, true, true] rfl rfl (fun s331 => (wt_truth (we_call_vv d_is_less lk_earned_day_is_less (Nat.le_of_ble_eq_true rfl) (we_call_vv d_planned_at lk_earned_day_planned_at (Nat.le_of_ble_eq_true rfl) (we_var (i := 0) va_earned_day_lines rfl) (we_var (i := 2) va_earned_day_day rfl)) (we_var (i := 3) va_earned_day_worth rfl)).wb))
    (fun s331 =>
    (w_aug (i := 2) sa_earned_day_day rfl iadd_ok we_int fun day_338 =>
    (w_nf (Γ' := [some (.val lines_), some (.val done_), some (.val day_338), some (.val worth_330)]) rfl (w_nil [true, true, true, true] (r := day_338) rfl rfl))))
    (fun s331 =>
  (w_ret (we_var (i := 2) va_earned_day_day rfl)))))))
theorem fd_is_behind (h : Has K mg "is_behind" st_is_behind) (d_is_less : FnD P w K mg base "is_less" 1 2 (mf_vv m_is_less)) (d_earned : FnD P w K mg base "earned" 5 2 (mf_vv m_earned)) (d_planned_at : FnD P w K mg base "planned_at" 5 2 (mf_vv m_planned_at)) : FnD P w K mg base "is_behind" 6 3 (mf_vvv m_is_behind) :=
  fnd_vvv (k := 5) h sc_is_behind rfl (by decide) (fun _ _ _ _ _ _ us hl => match us, hl with | [_, _, _], _ => rfl) fun lines_ done_ day_ =>
  (w_nf (Γ' := [some (.val lines_), some (.val done_), some (.val day_)]) rfl (w_ret (we_call_vv d_is_less lk_is_behind_is_less (Nat.le_of_ble_eq_true rfl) (we_call_vv d_earned lk_is_behind_earned (Nat.le_of_ble_eq_true rfl) (we_var (i := 0) va_is_behind_lines rfl) (we_var (i := 1) va_is_behind_done rfl)) (we_call_vv d_planned_at lk_is_behind_planned_at (Nat.le_of_ble_eq_true rfl) (we_var (i := 0) va_is_behind_lines rfl) (we_var (i := 2) va_is_behind_day rfl)))))
theorem fd_is_over (h : Has K mg "is_over" st_is_over) (d_is_less : FnD P w K mg base "is_less" 1 2 (mf_vv m_is_less)) (d_earned : FnD P w K mg base "earned" 5 2 (mf_vv m_earned)) (d_cost_so_far : FnD P w K mg base "cost_so_far" 1 1 (mf_v m_cost_so_far)) : FnD P w K mg base "is_over" 6 3 (mf_vvv m_is_over) :=
  fnd_vvv (k := 5) h sc_is_over rfl (by decide) (fun _ _ _ _ _ _ us hl => match us, hl with | [_, _, _], _ => rfl) fun lines_ done_ spent_ =>
  (w_nf (Γ' := [some (.val lines_), some (.val done_), some (.val spent_)]) rfl (w_ret (we_call_vv d_is_less lk_is_over_is_less (Nat.le_of_ble_eq_true rfl) (we_call_vv d_earned lk_is_over_earned (Nat.le_of_ble_eq_true rfl) (we_var (i := 0) va_is_over_lines rfl) (we_var (i := 1) va_is_over_done rfl)) (we_tup (wa_cons (we_call_v d_cost_so_far lk_is_over_cost_so_far (Nat.le_of_ble_eq_true rfl) (we_var (i := 2) va_is_over_spent rfl)) (wa_cons we_int wa_nil))))))
theorem fd_worst_lines (h : Has K mg "worst_lines" st_worst_lines) (hb_sorted : mg "sorted" = none) (hb_tuple : mg "tuple" = none) (d_is_less : FnD P w K mg base "is_less" 1 2 (mf_vv m_is_less)) (d_earned_of : FnD P w K mg base "earned_of" 4 3 (mf_vvv m_earned_of)) : FnD P w K mg base "worst_lines" 5 3 (mf_vvv m_worst_lines) :=
  fnd_vvv (k := 4) h sc_worst_lines rfl (by decide) (fun _ _ _ _ _ _ us hl => match us, hl with | [_, _, _], _ => rfl) fun lines_ done_ spent_ =>
  (w_nf (Γ' := [some (.val lines_), some (.val done_), some (.val spent_), none, none]) rfl (w_setF (i := 3) sa_worst_lines_found wf_nil fun found_355 =>
  (w_nf (Γ' := [some (.val lines_), some (.val done_), some (.val spent_), some (.own found_355), none]) rfl (w_for (σt := D) (fun (s358 : D) => [some (.val lines_), some (.val done_), some (.val spent_), some (.own s358), none]) found_355 [true, true, true, true, false] (wi_seq (we_c1B (blt_sorted lk_worst_lines_sorted hb_sorted) sorted_ok (we_var (i := 0) va_worst_lines_lines rfl).wb)) (wg_name (i := 4) sa_worst_lines_name) rfl rfl
    (fun s358 a359 =>
    (w_nf (Γ' := [some (.val lines_), some (.val done_), some (.val spent_), some (.own s358), some (.val a359)]) rfl (w_ifJ (g := (fun (s377 : D) => [some (.val lines_), some (.val done_), some (.val spent_), some (.own s377), some (.val a359)])) (wt_truth (we_call_vv d_is_less lk_worst_lines_is_less (Nat.le_of_ble_eq_true rfl) (we_call_vvv d_earned_of lk_worst_lines_earned_of (Nat.le_of_ble_eq_true rfl) (we_var (i := 0) va_worst_lines_lines rfl) (we_var (i := 1) va_worst_lines_done rfl) (we_var (i := 4) va_worst_lines_name rfl)) (we_tup (wa_cons (we_get2 (we_var (i := 2) va_worst_lines_spent rfl) (we_var (i := 4) va_worst_lines_name rfl) we_int fun _ => ⟨rfl, rfl, rfl, rfl⟩) (wa_cons we_int wa_nil)))).wb)
      (w_append (i := 3) va_worst_lines_found rfl (we_var (i := 4) va_worst_lines_name rfl) (fun found_376 =>
      (w_nf (Γ' := [some (.val lines_), some (.val done_), some (.val spent_), some (.own found_376), some (.val a359)]) rfl (w_nil [true, true, true, true, true] (r := found_376) rfl rfl))) ⟨fun _ => rfl, fun _ => rfl, rfl, fun _ => rfl, fun _ => rfl, fun _ => rfl⟩)
      (w_nil [true, true, true, true, true] (r := s358) rfl rfl)
      (fun s377 =>
    (w_nil [true, true, true, true, false] (r := s377) rfl rfl)))))
    (fun s358 =>
  (w_ret (we_c1T (blt_tuple lk_worst_lines_tuple hb_tuple) tuple_ok (wb_own (i := 3) va_worst_lines_found rfl))))))))
theorem fd__law_draws (h : Has K mg "_law_draws" st__law_draws) (hb_abs : mg "abs" = none) (hb_int : mg "int" = none) (hb_len : mg "len" = none) (hb_range : mg "range" = none) : FnD P w K mg base "_law_draws" 1 2 (mf_sv m__law_draws) :=
  fnd_sv (k := 0) h sc__law_draws rfl (by decide) (fun _ _ _ _ _ _ us hl => match us, hl with | [_, _], _ => rfl) fun ns many_ =>
  (w_nf (Γ' := [some (.scr ns), some (.val many_), none, none, none, none, none, none]) rfl (w_setF (i := 2) sa__law_draws_draws wf_nil fun draws_381 =>
  (w_nf (Γ' := [some (.scr ns), some (.val many_), some (.own draws_381), none, none, none, none, none]) rfl (w_set (i := 3) sa__law_draws_mixed we_int fun mixed_382 =>
  (w_nf (Γ' := [some (.scr ns), some (.val many_), some (.own draws_381), some (.val mixed_382), none, none, none, none]) rfl (w_for (σt := D × D) (fun (s385 : D × D) => [some (.scr ns), some (.val many_), some (.own s385.1), some (.val s385.2), none, none, none, none]) (draws_381, mixed_382) [true, true, true, true, false, false, false, false] (wi_range1 (blt_range lk__law_draws_range hb_range) (we_lenScr (i := 0) va__law_draws_script rfl (blt_len lk__law_draws_len hb_len)).wb) (wg_name (i := 4) sa__law_draws_k) rfl rfl
    (fun s385 a386 =>
    (w_nf (Γ' := [some (.scr ns), some (.val many_), some (.own s385.1), some (.val s385.2), some (.val a386), none, none, none]) rfl (w_set (i := 5) sa__law_draws_cell (we_c1B (blt_abs lk__law_draws_abs hb_abs) abs_ok (we_c1T (blt_int lk__law_draws_int hb_int) int_ok (we_ixScr (i := 0) va__law_draws_script rfl (we_var (i := 4) va__law_draws_k rfl).wb fun _ _ => rfl).wb).wb) fun cell_387 =>
    (w_nf (Γ' := [some (.scr ns), some (.val many_), some (.own s385.1), some (.val s385.2), some (.val a386), some (.val cell_387), none, none]) rfl (w_set (i := 3) sa__law_draws_mixed (we_op mod_ok (we_c1T (blt_int lk__law_draws_int hb_int) int_ok (we_op add_ok (we_op add_ok (we_op mul_ok (we_var (i := 3) va__law_draws_mixed rfl).wb we_int.wb).wb (we_op mod_ok (we_var (i := 5) va__law_draws_cell rfl).wb we_int.wb).wb).wb (we_var (i := 4) va__law_draws_k rfl).wb).wb).wb we_int.wb) fun mixed_393 =>
    (w_nf (Γ' := [some (.scr ns), some (.val many_), some (.own s385.1), some (.val mixed_393), some (.val a386), some (.val cell_387), none, none]) rfl (w_set (i := 6) sa__law_draws_rest we_int fun rest_405 =>
    (w_nf (Γ' := [some (.scr ns), some (.val many_), some (.own s385.1), some (.val mixed_393), some (.val a386), some (.val cell_387), some (.val rest_405), none]) rfl (w_ifJ (g := (fun (s429 : D × D) => [some (.scr ns), some (.val many_), some (.own s429.1), some (.val mixed_393), some (.val a386), some (.val cell_387), some (.val s429.2), none])) (wt_cmp ge_ok (we_var (i := 5) va__law_draws_cell rfl).wb (we_op pow_ok we_int.wb we_int.wb).wb rfl)
      (w_set (i := 6) sa__law_draws_rest (we_var (i := 5) va__law_draws_cell rfl) fun rest_412 =>
      (w_nf (Γ' := [some (.scr ns), some (.val many_), some (.own s385.1), some (.val mixed_393), some (.val a386), some (.val cell_387), some (.val rest_412), none]) rfl (w_nil [true, true, true, true, true, true, true, false] (r := (s385.1, rest_412)) rfl rfl)))
      (w_append (i := 2) va__law_draws_draws rfl (we_op mod_ok (we_c1T (blt_int lk__law_draws_int hb_int) int_ok (we_var (i := 5) va__law_draws_cell rfl).wb).wb we_int.wb) (fun draws_417 =>
      (w_nf (Γ' := [some (.scr ns), some (.val many_), some (.own draws_417), some (.val mixed_393), some (.val a386), some (.val cell_387), some (.val rest_405), none]) rfl (w_append (i := 2) va__law_draws_draws rfl (we_op mod_ok (we_op mod_ok (we_c1T (blt_int lk__law_draws_int hb_int) int_ok (we_op add_ok (we_op mul_ok (we_var (i := 3) va__law_draws_mixed rfl).wb we_int.wb).wb we_int.wb).wb).wb we_int.wb).wb we_int.wb) (fun draws_428 =>
      (w_nf (Γ' := [some (.scr ns), some (.val many_), some (.own draws_428), some (.val mixed_393), some (.val a386), some (.val cell_387), some (.val rest_405), none]) rfl (w_nil [true, true, true, true, true, true, true, false] (r := (draws_428, rest_405)) rfl rfl))) ⟨fun _ => rfl, fun _ => rfl, rfl, fun _ => rfl, fun _ => rfl, fun _ => rfl⟩))) ⟨fun _ => rfl, fun _ => rfl, rfl, fun _ => rfl, fun _ => rfl, fun _ => rfl⟩)
      (fun s429 =>
    (w_for (σt := D × D) (fun (s432 : D × D) => [some (.scr ns), some (.val many_), some (.own s432.1), some (.val mixed_393), some (.val a386), some (.val cell_387), some (.val s432.2), none]) (s429.1, s429.2) [true, true, true, true, true, true, true, false] (wi_range1 (blt_range lk__law_draws_range hb_range) we_int.wb) (wg_name (i := 7) sa__law_draws_turn) rfl rfl
      (fun s432 a433 =>
      (w_nf (Γ' := [some (.scr ns), some (.val many_), some (.own s432.1), some (.val mixed_393), some (.val a386), some (.val cell_387), some (.val s432.2), some (.val a433)]) rfl (w_ifJ (g := (fun (s446 : D × D) => [some (.scr ns), some (.val many_), some (.own s446.1), some (.val mixed_393), some (.val a386), some (.val cell_387), some (.val s446.2), some (.val a433)])) (wt_cmp gt_ok (we_var (i := 6) va__law_draws_rest rfl).wb we_int.wb rfl)
        (w_append (i := 2) va__law_draws_draws rfl (we_op mod_ok (we_c1T (blt_int lk__law_draws_int hb_int) int_ok (we_var (i := 6) va__law_draws_rest rfl).wb).wb we_int.wb) (fun draws_442 =>
        (w_nf (Γ' := [some (.scr ns), some (.val many_), some (.own draws_442), some (.val mixed_393), some (.val a386), some (.val cell_387), some (.val s432.2), some (.val a433)]) rfl (w_set (i := 6) sa__law_draws_rest (we_op fdiv_ok (we_var (i := 6) va__law_draws_rest rfl).wb we_int.wb) fun rest_443 =>
        (w_nf (Γ' := [some (.scr ns), some (.val many_), some (.own draws_442), some (.val mixed_393), some (.val a386), some (.val cell_387), some (.val rest_443), some (.val a433)]) rfl (w_nil [true, true, true, true, true, true, true, true] (r := (draws_442, rest_443)) rfl rfl))))) ⟨fun _ => rfl, fun _ => rfl, rfl, fun _ => rfl, fun _ => rfl, fun _ => rfl⟩)
        (w_nil [true, true, true, true, true, true, true, true] (r := (s432.1, s432.2)) rfl rfl)
        (fun s446 =>
      (w_nil [true, true, true, true, true, true, true, false] (r := (s446.1, s446.2)) rfl rfl)))))
      (fun s432 =>
    (w_nil [true, true, true, true, false, false, false, false] (r := (s432.1, mixed_393)) rfl rfl)))))))))))))
    (fun s385 =>
  (w_for (σt := D × D) (fun (s451 : D × D) => [some (.scr ns), some (.val many_), some (.own s451.1), some (.val s451.2), none, none, none, none]) (s385.1, s385.2) [true, true, true, true, false, false, false, false] (wi_range1 (blt_range lk__law_draws_range hb_range) (we_var (i := 1) va__law_draws_many rfl).wb) (wg_name (i := 4) sa__law_draws_k) rfl rfl
    (fun s451 a452 =>
    (w_nf (Γ' := [some (.scr ns), some (.val many_), some (.own s451.1), some (.val s451.2), some (.val a452), none, none, none]) rfl (w_set (i := 3) sa__law_draws_mixed (we_op mod_ok (we_c1T (blt_int lk__law_draws_int hb_int) int_ok (we_op add_ok (we_op add_ok (we_op mul_ok (we_var (i := 3) va__law_draws_mixed rfl).wb we_int.wb).wb (we_var (i := 4) va__law_draws_k rfl).wb).wb we_int.wb).wb).wb we_int.wb) fun mixed_453 =>
    (w_nf (Γ' := [some (.scr ns), some (.val many_), some (.own s451.1), some (.val mixed_453), some (.val a452), none, none, none]) rfl (w_append (i := 2) va__law_draws_draws rfl (we_op mod_ok (we_c1T (blt_int lk__law_draws_int hb_int) int_ok (we_var (i := 3) va__law_draws_mixed rfl).wb).wb we_int.wb) (fun draws_467 =>
    (w_nf (Γ' := [some (.scr ns), some (.val many_), some (.own draws_467), some (.val mixed_453), some (.val a452), none, none, none]) rfl (w_nil [true, true, true, true, false, false, false, false] (r := (draws_467, mixed_453)) rfl rfl))) ⟨fun _ => rfl, fun _ => rfl, rfl, fun _ => rfl, fun _ => rfl, fun _ => rfl⟩)))))
    (fun s451 =>
  (w_ret (we_slice sl_ok (wb_own (i := 2) va__law_draws_draws rfl) wo_none (wo_some (we_var (i := 1) va__law_draws_many rfl)))))))))))))
theorem fd__law_next (h : Has K mg "_law_next" st__law_next) (hb_int : mg "int" = none) (hb_len : mg "len" = none) : FnD P w K mg base "_law_next" 1 2 (mf_wv m__law_next) :=
  next_fn h sc__law_next (fun _ _ _ _ _ _ us hl => match us, hl with | [_, _], _ => rfl) hb_len hb_int rfl rfl rfl rfl rfl
theorem fd__law_part (h : Has K mg "_law_part" st__law_part) (hb_abs : mg "abs" = none) (hb_int : mg "int" = none) : FnD P w K mg base "_law_part" 1 2 (mf_vv m__law_part) :=
  fnd_vv (k := 0) h sc__law_part rfl (by decide) (fun _ _ _ _ _ _ us hl => match us, hl with | [_, _], _ => rfl) fun upper_ lower_ =>
  (w_nf (Γ' := [some (.val upper_), some (.val lower_), none, none]) rfl (w_swp2 (oa := false) (ob := false) (i := 2) (j := 3) sa__law_part_a sa__law_part_b (by decide) lk__law_part_a lk__law_part_b (we_c1B (blt_abs lk__law_part_abs hb_abs) abs_ok (we_var (i := 0) va__law_part_upper rfl).wb) (we_var (i := 1) va__law_part_lower rfl) rfl fun a_478 b_479 =>
  (w_nf (Γ' := [some (.val upper_), some (.val lower_), some (.val a_478), some (.val b_479)]) rfl (w_while (σt := D × D) (fun (s480 : D × D) => [some (.val upper_), some (.val lower_), some (.val s480.1), some (.val s480.2)]) (a_478, b_479) [true, true, true, true] rfl rfl (fun s480 => (wt_cmp ne_ok (we_var (i := 3) va__law_part_b rfl).wb we_int.wb rfl))
    (fun s480 =>
    (w_swp2 (oa := false) (ob := false) (i := 2) (j := 3) sa__law_part_a sa__law_part_b (by decide) lk__law_part_a lk__law_part_b (we_var (i := 3) va__law_part_b rfl) (we_op mod_ok (we_c1T (blt_int lk__law_part_int hb_int) int_ok (we_var (i := 2) va__law_part_a rfl).wb).wb (we_var (i := 3) va__law_part_b rfl).wb) rfl fun a_487 b_488 =>
    (w_nf (Γ' := [some (.val upper_), some (.val lower_), some (.val a_487), some (.val b_488)]) rfl (w_nil [true, true, true, true] (r := (a_487, b_488)) rfl rfl))))
    (fun s480 =>
  (w_ret (we_ife (wt_cmp ne_ok (we_var (i := 2) va__law_part_a rfl).wb we_int.wb rfl) (we_tup (wa_cons (we_op fdiv_ok (we_var (i := 0) va__law_part_upper rfl).wb (we_var (i := 2) va__law_part_a rfl).wb) (wa_cons (we_op fdiv_ok (we_var (i := 1) va__law_part_lower rfl).wb (we_var (i := 2) va__law_part_a rfl).wb) wa_nil))) (we_tup (wa_cons we_int (wa_cons we_int wa_nil))))))))))
theorem fd__law_add (h : Has K mg "_law_add" st__law_add) (d__law_part : FnD P w K mg base "_law_part" 1 2 (mf_vv m__law_part)) : FnD P w K mg base "_law_add" 2 1 (mf_v m__law_add) :=
  fnd_v (k := 1) h sc__law_add rfl (by decide) (fun _ _ _ _ _ _ us hl => match us, hl with | [_], _ => rfl) fun rows_ =>
  (w_nf (Γ' := [some (.val rows_), none, none, none]) rfl (w_par2 (oa := false) (ob := false) (.cons (i := 1) sa__law_add_upper (.cons (i := 2) sa__law_add_lower .nil)) we_int we_int rfl rfl fun upper_507 lower_508 =>
  (w_nf (Γ' := [some (.val rows_), some (.val upper_507), some (.val lower_508), none]) rfl (w_for (σt := D × D) (fun (s510 : D × D) => [some (.val rows_), some (.val s510.1), some (.val s510.2), none]) (upper_507, lower_508) [true, true, true, false] (wi_seq (we_var (i := 0) va__law_add_rows rfl)) (wg_name (i := 3) sa__law_add_one) rfl rfl
    (fun s510 a511 =>
    (w_nf (Γ' := [some (.val rows_), some (.val s510.1), some (.val s510.2), some (.val a511)]) rfl (w_swp2 (oa := false) (ob := false) (i := 1) (j := 2) sa__law_add_upper sa__law_add_lower (by decide) lk__law_add_upper lk__law_add_lower (we_op add_ok (we_op mul_ok (we_var (i := 1) va__law_add_upper rfl).wb (we_ix ix_ok (we_var (i := 3) va__law_add_one rfl).wb we_int.wb fun _ _ => rfl).wb).wb (we_op mul_ok (we_ix ix_ok (we_var (i := 3) va__law_add_one rfl).wb we_int.wb fun _ _ => rfl).wb (we_var (i := 2) va__law_add_lower rfl).wb).wb) (we_op mul_ok (we_var (i := 2) va__law_add_lower rfl).wb (we_ix ix_ok (we_var (i := 3) va__law_add_one rfl).wb we_int.wb fun _ _ => rfl).wb) rfl fun upper_526 lower_527 =>
    (w_nf (Γ' := [some (.val rows_), some (.val upper_526), some (.val lower_527), some (.val a511)]) rfl (w_nil [true, true, true, false] (r := (upper_526, lower_527)) rfl rfl)))))
    (fun s510 =>
  (w_ret (we_call_vv d__law_part lk__law_add__law_part (Nat.le_of_ble_eq_true rfl) (we_var (i := 1) va__law_add_upper rfl) (we_var (i := 2) va__law_add_lower rfl))))))))
theorem fd__law_planned (h : Has K mg "_law_planned" st__law_planned) (hb_len : mg "len" = none) (hb_range : mg "range" = none) (d__law_add : FnD P w K mg base "_law_add" 2 1 (mf_v m__law_add)) : FnD P w K mg base "_law_planned" 3 2 (mf_vv m__law_planned) :=
  fnd_vv (k := 2) h sc__law_planned rfl (by decide) (fun _ _ _ _ _ _ us hl => match us, hl with | [_, _], _ => rfl) fun lines_ day_ =>
  (w_nf (Γ' := [some (.val lines_), some (.val day_), none, none, none, none, none, none]) rfl (w_set (i := 2) sa__law_planned_rows (we_lst wa_nil) fun rows_532 =>
  (w_nf (Γ' := [some (.val lines_), some (.val day_), some (.val rows_532), none, none, none, none, none]) rfl (w_forK (i := 0) (σt := D) (fun (s534 : D) => [some (.val lines_), some (.val day_), some (.val s534), none, none, none, none, none]) rows_532 [true, true, true, false, false, false, false, false] va__law_planned_lines rfl (wg_name (i := 3) sa__law_planned_name) rfl rfl
    (fun s534 a535 =>
    (w_nf (Γ' := [some (.val lines_), some (.val day_), some (.val s534), some (.val a535), none, none, none, none]) rfl (w_asg (we_ix ix_ok (we_var (i := 0) va__law_planned_lines rfl).wb (we_var (i := 3) va__law_planned_name rfl).wb fun _ _ => rfl) (wg_tup3 (i := 4) (j := 5) (k := 6) sa__law_planned_begin sa__law_planned_days sa__law_planned_budget) fun t539 =>
    (w_nf (Γ' := [some (.val lines_), some (.val day_), some (.val s534), some (.val a535), some (.val t539.1), some (.val t539.2.1), some (.val t539.2.2), none]) rfl (w_set (i := 2) sa__law_planned_rows (we_op add_ok (we_var (i := 2) va__law_planned_rows rfl).wb (we_op mul_ok (we_lst (wa_cons (we_tup (wa_cons (we_var (i := 6) va__law_planned_budget rfl) (wa_cons (we_var (i := 5) va__law_planned_days rfl) wa_nil))) wa_nil)).wb (we_c1B (blt_len lk__law_planned_len hb_len) len_ok (we_lcif (own := [("own", 7)]) (wi_range2 (blt_range lk__law_planned_range hb_range) (we_var (i := 4) va__law_planned_begin rfl).wb (we_op add_ok (we_var (i := 4) va__law_planned_begin rfl).wb (we_var (i := 5) va__law_planned_days rfl).wb).wb) (by dsimp only [Sg.blk]; decide +kernel) (wg_name (i := 7) (saL rfl (rel_loc rfl))) (by decide) (fun a555 => (wt_nf (Γ' := [some (.val lines_), some (.val day_), some (.val s534), some (.val a535), some (.val t539.1), some (.val t539.2.1), some (.val t539.2.2), some (.val a555)]) rfl (wt_cmp le_ok (we_var (i := 7) (vaL rfl (rel_loc rfl) nm_own) rfl).wb (we_var (i := 1) (vaC rfl (rel_free rfl rfl lk__law_planned_day) nm_day) rfl).wb rfl))) (fun a555 => (we_nf (Γ' := [some (.val lines_), some (.val day_), some (.val s534), some (.val a535), some (.val t539.1), some (.val t539.2.1), some (.val t539.2.2), some (.val a555)]) rfl (we_var (i := 7) (vaL rfl (rel_loc rfl) nm_own) rfl)))).wb).wb).wb) fun rows_540 =>
    (w_nf (Γ' := [some (.val lines_), some (.val day_), some (.val rows_540), some (.val a535), some (.val t539.1), some (.val t539.2.1), some (.val t539.2.2), none]) rfl (w_nil [true, true, true, false, false, false, false, false] (r := rows_540) rfl rfl)))))))
    (fun s534 =>
  (w_ret (we_call_v d__law_add lk__law_planned__law_add (Nat.le_of_ble_eq_true rfl) (we_var (i := 2) va__law_planned_rows rfl))))))))
theorem fd__law_by (h : Has K mg "_law_by" st__law_by) (d__law_part : FnD P w K mg base "_law_part" 1 2 (mf_vv m__law_part)) : FnD P w K mg base "_law_by" 2 2 (mf_vv m__law_by) :=
  fnd_vv (k := 1) h sc__law_by rfl (by decide) (fun _ _ _ _ _ _ us hl => match us, hl with | [_, _], _ => rfl) fun one_ other_ =>
  (w_nf (Γ' := [some (.val one_), some (.val other_)]) rfl (w_ifR (wt_cmp eq_ok (we_ix ix_ok (we_var (i := 1) va__law_by_other rfl).wb we_int.wb fun _ _ => rfl).wb we_int.wb rfl)
    (w_ret we_non)
  (w_ret (we_call_vv d__law_part lk__law_by__law_part (Nat.le_of_ble_eq_true rfl) (we_op mul_ok (we_ix ix_ok (we_var (i := 0) va__law_by_one rfl).wb we_int.wb fun _ _ => rfl).wb (we_ix ix_ok (we_var (i := 1) va__law_by_other rfl).wb we_int.wb fun _ _ => rfl).wb) (we_op mul_ok (we_ix ix_ok (we_var (i := 0) va__law_by_one rfl).wb we_int.wb fun _ _ => rfl).wb (we_ix ix_ok (we_var (i := 1) va__law_by_other rfl).wb we_int.wb fun _ _ => rfl).wb)))))
theorem fd_law (hm : m_law fun d => d = .bool true) {f : Addr} {fd : FuncData} (F : Fun K "law" "law" st_law f fd) (hb_dict : mg "dict" = none) (hb_max : mg "max" = none) (hb_range : mg "range" = none) (hb_sorted : mg "sorted" = none) (hb_sum : mg "sum" = none) (hb_tuple : mg "tuple" = none) (d__law_draws : FnD P w K mg base "_law_draws" 1 2 (mf_sv m__law_draws)) (d__law_add : FnD P w K mg base "_law_add" 2 1 (mf_v m__law_add)) (d__law_next : FnD P w K mg base "_law_next" 1 2 (mf_wv m__law_next)) (d__law_planned : FnD P w K mg base "_law_planned" 3 2 (mf_vv m__law_planned)) (d__law_by : FnD P w K mg base "_law_by" 2 2 (mf_vv m__law_by)) (d_forecast : FnD P w K mg base "forecast" 7 5 (mf_vvvvv m_forecast)) (d_needed_index : FnD P w K mg base "needed_index" 7 4 (mf_vvvv m_needed_index)) (d_curve : FnD P w K mg base "curve" 6 1 (mf_v m_curve)) (d_earned_day : FnD P w K mg base "earned_day" 6 2 (mf_vv m_earned_day)) (d_worst_lines : FnD P w K mg base "worst_lines" 5 3 (mf_vvv m_worst_lines)) (d__law_part : FnD P w K mg base "_law_part" 1 2 (mf_vv m__law_part)) (d_planned_at : FnD P w K mg base "planned_at" 5 2 (mf_vv m_planned_at)) (d_earned : FnD P w K mg base "earned" 5 2 (mf_vv m_earned)) (d_cost_so_far : FnD P w K mg base "cost_so_far" 1 1 (mf_v m_cost_so_far)) (d_budget_of : FnD P w K mg base "budget_of" 1 1 (mf_v m_budget_of)) (d_cost_index : FnD P w K mg base "cost_index" 6 3 (mf_vvv m_cost_index)) (d_time_index : FnD P w K mg base "time_index" 6 3 (mf_vvv m_time_index)) (d_is_behind : FnD P w K mg base "is_behind" 6 3 (mf_vvv m_is_behind)) (d_is_over : FnD P w K mg base "is_over" 6 3 (mf_vvv m_is_over)) : FnOk P w K mg base CX0 8 f fd ["script"] (spLaw K) :=
  law_fn (k := 7) (i := 1) (mcall := fun ns => (M.pure (.int 100)).bind fun x => m__law_draws ns x) (m := m_law) F sc_law (by decide) (by decide) (by decide) rfl sa_law_w (fun ns => we_call_sv (wi := 0) d__law_draws lk_law__law_draws (Nat.le_of_ble_eq_true rfl) va_law_script rfl we_int) (draws_ok 100)
  (w_nf (Γ' := [none, some .drw, none, none, none, none, none, none, none, none, none, none, none, none, none, none, none, none, none, none, none, none, none]) rfl (w_forF (σt := Unit) (fun (s594 : Unit) => [none, some .drw, none, none, none, none, none, none, none, none, none, none, none, none, none, none, none, none, none, none, none, none, none]) () [false, true, false, false, false, false, false, false, false, false, false, false, false, false, false, false, false, false, false, false, false, false, false] (wi_range1 (blt_range lk_law_range hb_range) we_int.wb) (wg_name (i := 2) sa_law_turn) rfl rfl
    (fun s594 a595 =>
    (w_nf (Γ' := [none, some .drw, some (.val a595), none, none, none, none, none, none, none, none, none, none, none, none, none, none, none, none, none, none, none, none]) rfl (w_par3 (oa := true) (ob := true) (oc := true) (.cons (i := 3) sa_law_lines (.cons (i := 4) sa_law_done (.cons (i := 5) sa_law_spent .nil))) wf_dict0 wf_dict0 wf_dict0 rfl rfl fun lines_596 done_597 spent_598 =>
    (w_nf (Γ' := [none, some .drw, some (.val a595), some (.own lines_596), some (.own done_597), some (.own spent_598), none, none, none, none, none, none, none, none, none, none, none, none, none, none, none, none, none]) rfl (w_for (σt := D × D × D) (fun (s613 : D × D × D) => [none, some .drw, some (.val a595), some (.own s613.1), some (.own s613.2.1), some (.own s613.2.2), none, none, none, none, none, none, none, none, none, none, none, none, none, none, none, none, none]) (lines_596, done_597, spent_598) [false, true, true, true, true, true, false, false, false, false, false, false, false, false, false, false, false, false, false, false, false, false, false] (wi_seq (we_slice sl_ok (we_lst (wa_cons we_str (wa_cons we_str (wa_cons we_str wa_nil)))).wb wo_none (wo_some (we_call_wv d__law_next lk_law__law_next (Nat.le_of_ble_eq_true rfl) (wi := 1) va_law_w rfl we_int)))) (wg_name (i := 6) sa_law_name) rfl rfl
      (fun s613 a614 =>
      (w_nf (Γ' := [none, some .drw, some (.val a595), some (.own s613.1), some (.own s613.2.1), some (.own s613.2.2), some (.val a614), none, none, none, none, none, none, none, none, none, none, none, none, none, none, none, none]) rfl (w_dput (i := 3) va_law_lines rfl (we_tup (wa_cons (we_call_wv d__law_next lk_law__law_next (Nat.le_of_ble_eq_true rfl) (wi := 1) va_law_w rfl we_int) (wa_cons (we_op add_ok we_int.wb (we_call_wv d__law_next lk_law__law_next (Nat.le_of_ble_eq_true rfl) (wi := 1) va_law_w rfl we_int).wb) (wa_cons (we_call_wv d__law_next lk_law__law_next (Nat.le_of_ble_eq_true rfl) (wi := 1) va_law_w rfl we_int) wa_nil)))) (we_var (i := 6) va_law_name rfl) fun lines_629 =>
      (w_nf (Γ' := [none, some .drw, some (.val a595), some (.own lines_629), some (.own s613.2.1), some (.own s613.2.2), some (.val a614), none, none, none, none, none, none, none, none, none, none, none, none, none, none, none, none]) rfl (w_ifJ (g := (fun (s647 : D) => [none, some .drw, some (.val a595), some (.own lines_629), some (.own s647), some (.own s613.2.2), some (.val a614), none, none, none, none, none, none, none, none, none, none, none, none, none, none, none, none])) (wt_cmp gt_ok (we_call_wv d__law_next lk_law__law_next (Nat.le_of_ble_eq_true rfl) (wi := 1) va_law_w rfl we_int).wb we_int.wb rfl)
        (w_set (i := 7) sa_law_lower (we_op add_ok we_int.wb (we_call_wv d__law_next lk_law__law_next (Nat.le_of_ble_eq_true rfl) (wi := 1) va_law_w rfl we_int).wb) fun lower_635 =>
        (w_nf (Γ' := [none, some .drw, some (.val a595), some (.own lines_629), some (.own s613.2.1), some (.own s613.2.2), some (.val a614), some (.val lower_635), none, none, none, none, none, none, none, none, none, none, none, none, none, none, none]) rfl (w_dput (i := 4) va_law_done rfl (we_call_vv d__law_part lk_law__law_part (Nat.le_of_ble_eq_true rfl) (we_call_wv d__law_next lk_law__law_next (Nat.le_of_ble_eq_true rfl) (wi := 1) va_law_w rfl (we_op add_ok (we_var (i := 7) va_law_lower rfl).wb we_int.wb)) (we_var (i := 7) va_law_lower rfl)) (we_var (i := 6) va_law_name rfl) fun done_646 =>
        (w_nf (Γ' := [none, some .drw, some (.val a595), some (.own lines_629), some (.own done_646), some (.own s613.2.2), some (.val a614), some (.val lower_635), none, none, none, none, none, none, none, none, none, none, none, none, none, none, none]) rfl (w_nil [false, true, true, true, true, true, true, false, false, false, false, false, false, false, false, false, false, false, false, false, false, false, false] (r := done_646) rfl rfl)))))
        (w_nil [false, true, true, true, true, true, true, false, false, false, false, false, false, false, false, false, false, false, false, false, false, false, false] (r := s613.2.1) rfl rfl)
        (fun s647 =>
      (w_ifJ (g := (fun (s657 : D) => [none, some .drw, some (.val a595), some (.own lines_629), some (.own s647), some (.own s657), some (.val a614), none, none, none, none, none, none, none, none, none, none, none, none, none, none, none, none])) (wt_cmp gt_ok (we_call_wv d__law_next lk_law__law_next (Nat.le_of_ble_eq_true rfl) (wi := 1) va_law_w rfl we_int).wb we_int.wb rfl)
        (w_dput (i := 5) va_law_spent rfl (we_call_wv d__law_next lk_law__law_next (Nat.le_of_ble_eq_true rfl) (wi := 1) va_law_w rfl we_int) (we_var (i := 6) va_law_name rfl) fun spent_656 =>
        (w_nf (Γ' := [none, some .drw, some (.val a595), some (.own lines_629), some (.own s647), some (.own spent_656), some (.val a614), none, none, none, none, none, none, none, none, none, none, none, none, none, none, none, none]) rfl (w_nil [false, true, true, true, true, true, true, false, false, false, false, false, false, false, false, false, false, false, false, false, false, false, false] (r := spent_656) rfl rfl)))
        (w_nil [false, true, true, true, true, true, true, false, false, false, false, false, false, false, false, false, false, false, false, false, false, false, false] (r := s613.2.2) rfl rfl)
        (fun s657 =>
      (w_nil [false, true, true, true, true, true, false, false, false, false, false, false, false, false, false, false, false, false, false, false, false, false, false] (r := (lines_629, s647, s657)) rfl rfl)))))))))
      (fun s613 =>
    (w_swp2 (oa := false) (ob := false) (i := 8) (j := 9) sa_law_day sa_law_limit (by decide) lk_law_day lk_law_limit (we_call_wv d__law_next lk_law__law_next (Nat.le_of_ble_eq_true rfl) (wi := 1) va_law_w rfl we_int) (we_call_wv d__law_next lk_law__law_next (Nat.le_of_ble_eq_true rfl) (wi := 1) va_law_w rfl we_int) rfl fun day_660 limit_661 =>
    (w_nf (Γ' := [none, some .drw, some (.val a595), some (.own s613.1), some (.own s613.2.1), some (.own s613.2.2), none, none, some (.val day_660), some (.val limit_661), none, none, none, none, none, none, none, none, none, none, none, none, none]) rfl (w_frz 3 rfl (w_set (i := 10) sa_law_worths (we_c1T (blt_dict lk_law_dict hb_dict) dict_ok (we_lcK (i := 3) (own := [("name", 6)]) va_law_lines rfl (by dsimp only [Sg.blk]; decide +kernel) (wg_name (i := 6) (saL rfl (rel_loc rfl))) (by decide) (fun a664 => (we_nf (Γ' := [none, some .drw, some (.val a595), some (.val s613.1), some (.own s613.2.1), some (.own s613.2.2), some (.val a664), none, some (.val day_660), some (.val limit_661), none, none, none, none, none, none, none, none, none, none, none, none, none]) rfl (we_tup (wa_cons (we_var (i := 6) (vaL rfl (rel_loc rfl) nm_name) rfl) (wa_cons (we_ife (wt_cmp in_ok (we_var (i := 6) (vaL rfl (rel_loc rfl) nm_name) rfl).wb (wb_own (i := 4) (vaC rfl (rel_free rfl rfl lk_law_done) nm_done) rfl) rfl) (we_call_vv d__law_part (rel_glob rfl) (Nat.le_of_ble_eq_true rfl) (we_op mul_ok (we_ix ix_ok (we_ix ix_ok (we_var (i := 3) (vaC rfl (rel_free rfl rfl lk_law_lines) nm_lines) rfl).wb (we_var (i := 6) (vaL rfl (rel_loc rfl) nm_name) rfl).wb fun _ _ => rfl).wb we_int.wb fun _ _ => rfl).wb (we_ix ix_ok (we_ix ix_ok (wb_own (i := 4) (vaC rfl (rel_free rfl rfl lk_law_done) nm_done) rfl) (we_var (i := 6) (vaL rfl (rel_loc rfl) nm_name) rfl).wb fun _ _ => rfl).wb we_int.wb fun _ _ => rfl).wb) (we_ix ix_ok (we_ix ix_ok (wb_own (i := 4) (vaC rfl (rel_free rfl rfl lk_law_done) nm_done) rfl) (we_var (i := 6) (vaL rfl (rel_loc rfl) nm_name) rfl).wb fun _ _ => rfl).wb we_int.wb fun _ _ => rfl)) (we_tup (wa_cons we_int (wa_cons we_int wa_nil)))) wa_nil)))))).wb) fun worths_663 =>
    (w_nf (Γ' := [none, some .drw, some (.val a595), some (.val s613.1), some (.own s613.2.1), some (.own s613.2.2), none, none, some (.val day_660), some (.val limit_661), some (.val worths_663), none, none, none, none, none, none, none, none, none, none, none, none]) rfl (w_frz 5 rfl (w_par3 (oa := false) (ob := false) (oc := false) (.cons (i := 11) sa_law_worth (.cons (i := 12) sa_law_plan (.cons (i := 13) sa_law_cost .nil))) (we_call_v d__law_add lk_law__law_add (Nat.le_of_ble_eq_true rfl) (we_lcK (i := 10) (own := [("name", 6)]) va_law_worths rfl (by dsimp only [Sg.blk]; decide +kernel) (wg_name (i := 6) (saL rfl (rel_loc rfl))) (by decide) (fun a708 => (we_nf (Γ' := [none, some .drw, some (.val a595), some (.val s613.1), some (.own s613.2.1), some (.val s613.2.2), some (.val a708), none, some (.val day_660), some (.val limit_661), some (.val worths_663), none, none, none, none, none, none, none, none, none, none, none, none]) rfl (we_ix ix_ok (we_var (i := 10) (vaC rfl (rel_free rfl rfl lk_law_worths) nm_worths) rfl).wb (we_var (i := 6) (vaL rfl (rel_loc rfl) nm_name) rfl).wb fun _ _ => rfl))))) (we_call_vv d__law_planned lk_law__law_planned (Nat.le_of_ble_eq_true rfl) (we_var (i := 3) va_law_lines rfl) (we_var (i := 8) va_law_day rfl)) (we_c1B (blt_sum lk_law_sum hb_sum) sum_ok (we_lcK (i := 5) (own := [("name", 6)]) va_law_spent rfl (by dsimp only [Sg.blk]; decide +kernel) (wg_name (i := 6) (saL rfl (rel_loc rfl))) (by decide) (fun a717 => (we_nf (Γ' := [none, some .drw, some (.val a595), some (.val s613.1), some (.own s613.2.1), some (.val s613.2.2), some (.val a717), none, some (.val day_660), some (.val limit_661), some (.val worths_663), none, none, none, none, none, none, none, none, none, none, none, none]) rfl (we_ix ix_ok (we_var (i := 5) (vaC rfl (rel_free rfl rfl lk_law_spent) nm_spent) rfl).wb (we_var (i := 6) (vaL rfl (rel_loc rfl) nm_name) rfl).wb fun _ _ => rfl)))).wb) rfl rfl fun worth_724 plan_725 cost_726 =>
    (w_nf (Γ' := [none, some .drw, some (.val a595), some (.val s613.1), some (.own s613.2.1), some (.val s613.2.2), none, none, some (.val day_660), some (.val limit_661), some (.val worths_663), some (.val worth_724), some (.val plan_725), some (.val cost_726), none, none, none, none, none, none, none, none, none]) rfl (w_set (i := 14) sa_law_whole (we_c1B (blt_sum lk_law_sum hb_sum) sum_ok (we_lcK (i := 3) (own := [("name", 6)]) va_law_lines rfl (by dsimp only [Sg.blk]; decide +kernel) (wg_name (i := 6) (saL rfl (rel_loc rfl))) (by decide) (fun a728 => (we_nf (Γ' := [none, some .drw, some (.val a595), some (.val s613.1), some (.own s613.2.1), some (.val s613.2.2), some (.val a728), none, some (.val day_660), some (.val limit_661), some (.val worths_663), some (.val worth_724), some (.val plan_725), some (.val cost_726), none, none, none, none, none, none, none, none, none]) rfl (we_ix ix_ok (we_ix ix_ok (we_var (i := 3) (vaC rfl (rel_free rfl rfl lk_law_lines) nm_lines) rfl).wb (we_var (i := 6) (vaL rfl (rel_loc rfl) nm_name) rfl).wb fun _ _ => rfl).wb we_int.wb fun _ _ => rfl)))).wb) fun whole_727 =>
    (w_nf (Γ' := [none, some .drw, some (.val a595), some (.val s613.1), some (.own s613.2.1), some (.val s613.2.2), none, none, some (.val day_660), some (.val limit_661), some (.val worths_663), some (.val worth_724), some (.val plan_725), some (.val cost_726), some (.val whole_727), none, none, none, none, none, none, none, none]) rfl (w_set (i := 15) sa_law_left (we_call_v d__law_add lk_law__law_add (Nat.le_of_ble_eq_true rfl) (we_lst (wa_cons (we_tup (wa_cons (we_var (i := 14) va_law_whole rfl) (wa_cons we_int wa_nil))) (wa_cons (we_tup (wa_cons (we_op sub_ok we_int.wb (we_ix ix_ok (we_var (i := 11) va_law_worth rfl).wb we_int.wb fun _ _ => rfl).wb) (wa_cons (we_ix ix_ok (we_var (i := 11) va_law_worth rfl).wb we_int.wb fun _ _ => rfl) wa_nil))) wa_nil)))) fun left_737 =>
    (w_nf (Γ' := [none, some .drw, some (.val a595), some (.val s613.1), some (.own s613.2.1), some (.val s613.2.2), none, none, some (.val day_660), some (.val limit_661), some (.val worths_663), some (.val worth_724), some (.val plan_725), some (.val cost_726), some (.val whole_727), some (.val left_737), none, none, none, none, none, none, none]) rfl (w_frz 4 rfl (w_ifE (ιA := Out.rt) (f := Fl.rt) (wt_ww (ww_or (wt_cmp ne_ok (we_call_vv d_planned_at lk_law_planned_at (Nat.le_of_ble_eq_true rfl) (we_var (i := 3) va_law_lines rfl) (we_var (i := 8) va_law_day rfl)).wb (we_var (i := 12) va_law_plan rfl).wb rfl) (ww_or (wt_cmp ne_ok (we_call_vv d_earned lk_law_earned (Nat.le_of_ble_eq_true rfl) (we_var (i := 3) va_law_lines rfl) (we_var (i := 4) va_law_done rfl)).wb (we_var (i := 11) va_law_worth rfl).wb rfl) (ww_or (wt_cmp ne_ok (we_call_v d_cost_so_far lk_law_cost_so_far (Nat.le_of_ble_eq_true rfl) (we_var (i := 5) va_law_spent rfl)).wb (we_var (i := 13) va_law_cost rfl).wb rfl) (ww_or1 (wt_cmp ne_ok (we_call_v d_budget_of lk_law_budget_of (Nat.le_of_ble_eq_true rfl) (we_var (i := 3) va_law_lines rfl)).wb (we_var (i := 14) va_law_whole rfl).wb rfl))))))
      (w_ret we_bl)
    (w_swp2 (oa := false) (ob := false) (i := 16) (j := 17) sa_law_index sa_law_pace (by decide) lk_law_index lk_law_pace (we_call_vv d__law_by lk_law__law_by (Nat.le_of_ble_eq_true rfl) (we_var (i := 11) va_law_worth rfl) (we_tup (wa_cons (we_var (i := 13) va_law_cost rfl) (wa_cons we_int wa_nil)))) (we_call_vv d__law_by lk_law__law_by (Nat.le_of_ble_eq_true rfl) (we_var (i := 11) va_law_worth rfl) (we_var (i := 12) va_law_plan rfl)) rfl fun index_797 pace_798 =>
    (w_nf (Γ' := [none, some .drw, some (.val a595), some (.val s613.1), some (.val s613.2.1), some (.val s613.2.2), none, none, some (.val day_660), some (.val limit_661), some (.val worths_663), some (.val worth_724), some (.val plan_725), some (.val cost_726), some (.val whole_727), some (.val left_737), some (.val index_797), some (.val pace_798), none, none, none, none, none]) rfl (w_ifE (ιA := Out.rt) (f := Fl.rt) (wt_ww (ww_or (wt_cmp ne_ok (we_call_vvv d_cost_index lk_law_cost_index (Nat.le_of_ble_eq_true rfl) (we_var (i := 3) va_law_lines rfl) (we_var (i := 4) va_law_done rfl) (we_var (i := 5) va_law_spent rfl)).wb (we_var (i := 16) va_law_index rfl).wb rfl) (ww_or1 (wt_cmp ne_ok (we_call_vvv d_time_index lk_law_time_index (Nat.le_of_ble_eq_true rfl) (we_var (i := 3) va_law_lines rfl) (we_var (i := 4) va_law_done rfl) (we_var (i := 8) va_law_day rfl)).wb (we_var (i := 17) va_law_pace rfl).wb rfl))))
      (w_ret we_bl)
    (w_ifE (ιA := Out.rt) (f := Fl.rt) (wt_cmp ne_ok (we_call_vvvvv d_forecast lk_law_forecast (Nat.le_of_ble_eq_true rfl) (we_var (i := 3) va_law_lines rfl) (we_var (i := 4) va_law_done rfl) (we_var (i := 5) va_law_spent rfl) (we_var (i := 8) va_law_day rfl) we_str).wb (we_call_v d__law_add lk_law__law_add (Nat.le_of_ble_eq_true rfl) (we_lst (wa_cons (we_tup (wa_cons (we_var (i := 13) va_law_cost rfl) (wa_cons we_int wa_nil))) (wa_cons (we_var (i := 15) va_law_left rfl) wa_nil)))).wb rfl)
      (w_ret we_bl)
    (w_set (i := 18) sa_law_due (we_ife (wt_cmp isn_ok (we_var (i := 16) va_law_index rfl).wb we_non.wb rfl) (we_call_vv d__law_by lk_law__law_by (Nat.le_of_ble_eq_true rfl) (we_tup (wa_cons (we_var (i := 14) va_law_whole rfl) (wa_cons we_int wa_nil))) (we_var (i := 16) va_law_index rfl)) we_non) fun due_833 =>
    (w_nf (Γ' := [none, some .drw, some (.val a595), some (.val s613.1), some (.val s613.2.1), some (.val s613.2.2), none, none, some (.val day_660), some (.val limit_661), some (.val worths_663), some (.val worth_724), some (.val plan_725), some (.val cost_726), some (.val whole_727), some (.val left_737), some (.val index_797), some (.val pace_798), some (.val due_833), none, none, none, none]) rfl (w_ifE (ιA := Out.rt) (f := Fl.rt) (wt_cmp ne_ok (we_call_vvvvv d_forecast lk_law_forecast (Nat.le_of_ble_eq_true rfl) (we_var (i := 3) va_law_lines rfl) (we_var (i := 4) va_law_done rfl) (we_var (i := 5) va_law_spent rfl) (we_var (i := 8) va_law_day rfl) we_str).wb (we_var (i := 18) va_law_due rfl).wb rfl)
      (w_ret we_bl)
    (w_set (i := 19) sa_law_both we_non fun both_854 =>
    (w_nf (Γ' := [none, some .drw, some (.val a595), some (.val s613.1), some (.val s613.2.1), some (.val s613.2.2), none, none, some (.val day_660), some (.val limit_661), some (.val worths_663), some (.val worth_724), some (.val plan_725), some (.val cost_726), some (.val whole_727), some (.val left_737), some (.val index_797), some (.val pace_798), some (.val due_833), some (.val both_854), none, none, none]) rfl (w_ifJ (g := (fun (s909 : D) => [none, some .drw, some (.val a595), some (.val s613.1), some (.val s613.2.1), some (.val s613.2.2), none, none, some (.val day_660), some (.val limit_661), some (.val worths_663), some (.val worth_724), some (.val plan_725), some (.val cost_726), some (.val whole_727), some (.val left_737), some (.val index_797), some (.val pace_798), some (.val due_833), some (.val s909), none, none, none])) (wt_ww (ww_and (wt_cmp isn_ok (we_var (i := 16) va_law_index rfl).wb we_non.wb rfl) (ww_and (wt_cmp isn_ok (we_var (i := 17) va_law_pace rfl).wb we_non.wb rfl) (ww_and (wt_cmp gt_ok (we_ix ix_ok (we_var (i := 16) va_law_index rfl).wb we_int.wb fun _ _ => rfl).wb we_int.wb rfl) (ww_and1 (wt_cmp gt_ok (we_ix ix_ok (we_var (i := 17) va_law_pace rfl).wb we_int.wb fun _ _ => rfl).wb we_int.wb rfl))))))
      (w_set (i := 19) sa_law_both (we_call_v d__law_add lk_law__law_add (Nat.le_of_ble_eq_true rfl) (we_lst (wa_cons (we_tup (wa_cons (we_var (i := 13) va_law_cost rfl) (wa_cons we_int wa_nil))) (wa_cons (we_call_vv d__law_part lk_law__law_part (Nat.le_of_ble_eq_true rfl) (we_op mul_ok (we_op mul_ok (we_ix ix_ok (we_var (i := 15) va_law_left rfl).wb we_int.wb fun _ _ => rfl).wb (we_ix ix_ok (we_var (i := 16) va_law_index rfl).wb we_int.wb fun _ _ => rfl).wb).wb (we_ix ix_ok (we_var (i := 17) va_law_pace rfl).wb we_int.wb fun _ _ => rfl).wb) (we_op mul_ok (we_op mul_ok (we_ix ix_ok (we_var (i := 15) va_law_left rfl).wb we_int.wb fun _ _ => rfl).wb (we_ix ix_ok (we_var (i := 16) va_law_index rfl).wb we_int.wb fun _ _ => rfl).wb).wb (we_ix ix_ok (we_var (i := 17) va_law_pace rfl).wb we_int.wb fun _ _ => rfl).wb)) wa_nil)))) fun both_875 =>
      (w_nf (Γ' := [none, some .drw, some (.val a595), some (.val s613.1), some (.val s613.2.1), some (.val s613.2.2), none, none, some (.val day_660), some (.val limit_661), some (.val worths_663), some (.val worth_724), some (.val plan_725), some (.val cost_726), some (.val whole_727), some (.val left_737), some (.val index_797), some (.val pace_798), some (.val due_833), some (.val both_875), none, none, none]) rfl (w_nil [false, true, true, true, true, true, false, false, true, true, true, true, true, true, true, true, true, true, true, true, false, false, false] (r := both_875) rfl rfl)))
      (w_nil [false, true, true, true, true, true, false, false, true, true, true, true, true, true, true, true, true, true, true, true, false, false, false] (r := both_854) rfl rfl)
      (fun s909 =>
    (w_ifE (ιA := Out.rt) (f := Fl.rt) (wt_cmp ne_ok (we_call_vvvvv d_forecast lk_law_forecast (Nat.le_of_ble_eq_true rfl) (we_var (i := 3) va_law_lines rfl) (we_var (i := 4) va_law_done rfl) (we_var (i := 5) va_law_spent rfl) (we_var (i := 8) va_law_day rfl) we_str).wb (we_var (i := 19) va_law_both rfl).wb rfl)
      (w_ret we_bl)
    (w_ifE (ιA := Out.rt) (f := Fl.rt) (wt_cmp ne_ok (we_call_vvvv d_needed_index lk_law_needed_index (Nat.le_of_ble_eq_true rfl) (we_var (i := 3) va_law_lines rfl) (we_var (i := 4) va_law_done rfl) (we_var (i := 5) va_law_spent rfl) (we_var (i := 9) va_law_limit rfl)).wb (we_ife (wt_cmp gt_ok (we_var (i := 9) va_law_limit rfl).wb (we_var (i := 13) va_law_cost rfl).wb rfl) (we_call_vv d__law_by lk_law__law_by (Nat.le_of_ble_eq_true rfl) (we_var (i := 15) va_law_left rfl) (we_tup (wa_cons (we_op sub_ok (we_var (i := 9) va_law_limit rfl).wb (we_var (i := 13) va_law_cost rfl).wb) (wa_cons we_int wa_nil)))) we_non).wb rfl)
      (w_ret we_bl)
    (w_set (i := 20) sa_law_last (we_c1B (blt_max lk_law_max hb_max) max_ok (we_op add_ok (we_lst (wa_cons we_int wa_nil)).wb (we_lcK (i := 3) (own := [("name", 6)]) va_law_lines rfl (by dsimp only [Sg.blk]; decide +kernel) (wg_name (i := 6) (saL rfl (rel_loc rfl))) (by decide) (fun a944 => (we_nf (Γ' := [none, some .drw, some (.val a595), some (.val s613.1), some (.val s613.2.1), some (.val s613.2.2), some (.val a944), none, some (.val day_660), some (.val limit_661), some (.val worths_663), some (.val worth_724), some (.val plan_725), some (.val cost_726), some (.val whole_727), some (.val left_737), some (.val index_797), some (.val pace_798), some (.val due_833), some (.val s909), none, none, none]) rfl (we_op add_ok (we_ix ix_ok (we_ix ix_ok (we_var (i := 3) (vaC rfl (rel_free rfl rfl lk_law_lines) nm_lines) rfl).wb (we_var (i := 6) (vaL rfl (rel_loc rfl) nm_name) rfl).wb fun _ _ => rfl).wb we_int.wb fun _ _ => rfl).wb (we_ix ix_ok (we_ix ix_ok (we_var (i := 3) (vaC rfl (rel_free rfl rfl lk_law_lines) nm_lines) rfl).wb (we_var (i := 6) (vaL rfl (rel_loc rfl) nm_name) rfl).wb fun _ _ => rfl).wb we_int.wb fun _ _ => rfl).wb)))).wb).wb) fun last_940 =>
    (w_nf (Γ' := [none, some .drw, some (.val a595), some (.val s613.1), some (.val s613.2.1), some (.val s613.2.2), none, none, some (.val day_660), some (.val limit_661), some (.val worths_663), some (.val worth_724), some (.val plan_725), some (.val cost_726), some (.val whole_727), some (.val left_737), some (.val index_797), some (.val pace_798), some (.val due_833), some (.val s909), some (.val last_940), none, none]) rfl (w_ifE (ιA := Out.rt) (f := Fl.rt) (wt_cmp ne_ok (we_call_v d_curve lk_law_curve (Nat.le_of_ble_eq_true rfl) (we_var (i := 3) va_law_lines rfl)).wb (we_c1T (blt_tuple lk_law_tuple hb_tuple) tuple_ok (we_lc (own := [("own", 22)]) (wi_range1 (blt_range lk_law_range hb_range) (we_var (i := 20) va_law_last rfl).wb) (by dsimp only [Sg.blk]; decide +kernel) (wg_name (i := 22) (saL rfl (rel_loc rfl))) (by decide) (fun a964 => (we_nf (Γ' := [none, some .drw, some (.val a595), some (.val s613.1), some (.val s613.2.1), some (.val s613.2.2), none, none, some (.val day_660), some (.val limit_661), some (.val worths_663), some (.val worth_724), some (.val plan_725), some (.val cost_726), some (.val whole_727), some (.val left_737), some (.val index_797), some (.val pace_798), some (.val due_833), some (.val s909), some (.val last_940), none, some (.val a964)]) rfl (we_call_vv d__law_planned (rel_glob rfl) (Nat.le_of_ble_eq_true rfl) (we_var (i := 3) (vaC rfl (rel_free rfl rfl lk_law_lines) nm_lines) rfl) (we_var (i := 22) (vaL rfl (rel_loc rfl) nm_own) rfl))))).wb).wb rfl)
      (w_ret we_bl)
    (w_setLcif (i := 21) sa_law_able ⟨rfl, lk_law_able, by decide +kernel⟩ (own := [("own", 22)]) (wi_range1 (blt_range lk_law_range hb_range) (we_op add_ok (we_var (i := 20) va_law_last rfl).wb we_int.wb).wb) (by dsimp only [Sg.blk]; decide +kernel) (wg_name (i := 22) (saL rfl (rel_loc rfl))) (by decide) (fun a980 => (wt_nf (Γ' := [none, some .drw, some (.val a595), some (.val s613.1), some (.val s613.2.1), some (.val s613.2.2), none, none, some (.val day_660), some (.val limit_661), some (.val worths_663), some (.val worth_724), some (.val plan_725), some (.val cost_726), some (.val whole_727), some (.val left_737), some (.val index_797), some (.val pace_798), some (.val due_833), some (.val s909), some (.val last_940), none, some (.val a980)]) rfl (wt_cmp ge_ok (we_op mul_ok (we_ix ix_ok (we_call_vv d__law_planned (rel_glob rfl) (Nat.le_of_ble_eq_true rfl) (we_var (i := 3) (vaC rfl (rel_free rfl rfl lk_law_lines) nm_lines) rfl) (we_var (i := 22) (vaL rfl (rel_loc rfl) nm_own) rfl)).wb we_int.wb fun _ _ => rfl).wb (we_ix ix_ok (we_var (i := 11) (vaC rfl (rel_free rfl rfl lk_law_worth) nm_worth) rfl).wb we_int.wb fun _ _ => rfl).wb).wb (we_op mul_ok (we_ix ix_ok (we_var (i := 11) (vaC rfl (rel_free rfl rfl lk_law_worth) nm_worth) rfl).wb we_int.wb fun _ _ => rfl).wb (we_ix ix_ok (we_call_vv d__law_planned (rel_glob rfl) (Nat.le_of_ble_eq_true rfl) (we_var (i := 3) (vaC rfl (rel_free rfl rfl lk_law_lines) nm_lines) rfl) (we_var (i := 22) (vaL rfl (rel_loc rfl) nm_own) rfl)).wb we_int.wb fun _ _ => rfl).wb).wb rfl))) (fun a980 => (we_nf (Γ' := [none, some .drw, some (.val a595), some (.val s613.1), some (.val s613.2.1), some (.val s613.2.2), none, none, some (.val day_660), some (.val limit_661), some (.val worths_663), some (.val worth_724), some (.val plan_725), some (.val cost_726), some (.val whole_727), some (.val left_737), some (.val index_797), some (.val pace_798), some (.val due_833), some (.val s909), some (.val last_940), none, some (.val a980)]) rfl (we_var (i := 22) (vaL rfl (rel_loc rfl) nm_own) rfl))) fun able_975 =>
    (w_nf (Γ' := [none, some .drw, some (.val a595), some (.val s613.1), some (.val s613.2.1), some (.val s613.2.2), none, none, some (.val day_660), some (.val limit_661), some (.val worths_663), some (.val worth_724), some (.val plan_725), some (.val cost_726), some (.val whole_727), some (.val left_737), some (.val index_797), some (.val pace_798), some (.val due_833), some (.val s909), some (.val last_940), some (.val able_975), none]) rfl (w_ifE (ιA := Out.rt) (f := Fl.rt) (wt_cmp ne_ok (we_call_vv d_earned_day lk_law_earned_day (Nat.le_of_ble_eq_true rfl) (we_var (i := 3) va_law_lines rfl) (we_var (i := 4) va_law_done rfl)).wb (we_ix ix_ok (we_var (i := 21) va_law_able rfl).wb we_int.wb fun _ _ => rfl).wb rfl)
      (w_ret we_bl)
    (w_ifE (ιA := Out.rt) (f := Fl.rt) (wt_ww (ww_or (wt_cmp ne_ok (we_call_vvv d_is_behind lk_law_is_behind (Nat.le_of_ble_eq_true rfl) (we_var (i := 3) va_law_lines rfl) (we_var (i := 4) va_law_done rfl) (we_var (i := 8) va_law_day rfl)).wb (we_cmp lt_ok (we_op mul_ok (we_ix ix_ok (we_var (i := 11) va_law_worth rfl).wb we_int.wb fun _ _ => rfl).wb (we_ix ix_ok (we_var (i := 12) va_law_plan rfl).wb we_int.wb fun _ _ => rfl).wb).wb (we_op mul_ok (we_ix ix_ok (we_var (i := 12) va_law_plan rfl).wb we_int.wb fun _ _ => rfl).wb (we_ix ix_ok (we_var (i := 11) va_law_worth rfl).wb we_int.wb fun _ _ => rfl).wb).wb rfl).wb rfl) (ww_or1 (wt_cmp ne_ok (we_call_vvv d_is_over lk_law_is_over (Nat.le_of_ble_eq_true rfl) (we_var (i := 3) va_law_lines rfl) (we_var (i := 4) va_law_done rfl) (we_var (i := 5) va_law_spent rfl)).wb (we_cmp lt_ok (we_ix ix_ok (we_var (i := 11) va_law_worth rfl).wb we_int.wb fun _ _ => rfl).wb (we_op mul_ok (we_var (i := 13) va_law_cost rfl).wb (we_ix ix_ok (we_var (i := 11) va_law_worth rfl).wb we_int.wb fun _ _ => rfl).wb).wb rfl).wb rfl))))
      (w_ret we_bl)
    (w_ifE (ιA := Out.rt) (f := Fl.rt) (wt_cmp ne_ok (we_call_vvv d_worst_lines lk_law_worst_lines (Nat.le_of_ble_eq_true rfl) (we_var (i := 3) va_law_lines rfl) (we_var (i := 4) va_law_done rfl) (we_var (i := 5) va_law_spent rfl)).wb (we_c1T (blt_tuple lk_law_tuple hb_tuple) tuple_ok (we_lcif (own := [("name", 6)]) (wi_seq (we_c1B (blt_sorted lk_law_sorted hb_sorted) sorted_ok (we_var (i := 3) va_law_lines rfl).wb)) (by dsimp only [Sg.blk]; decide +kernel) (wg_name (i := 6) (saL rfl (rel_loc rfl))) (by decide) (fun a1054 => (wt_nf (Γ' := [none, some .drw, some (.val a595), some (.val s613.1), some (.val s613.2.1), some (.val s613.2.2), some (.val a1054), none, some (.val day_660), some (.val limit_661), some (.val worths_663), some (.val worth_724), some (.val plan_725), some (.val cost_726), some (.val whole_727), some (.val left_737), some (.val index_797), some (.val pace_798), some (.val due_833), some (.val s909), some (.val last_940), some (.val able_975), none]) rfl (wt_cmp lt_ok (we_ix ix_ok (we_ix ix_ok (we_var (i := 10) (vaC rfl (rel_free rfl rfl lk_law_worths) nm_worths) rfl).wb (we_var (i := 6) (vaL rfl (rel_loc rfl) nm_name) rfl).wb fun _ _ => rfl).wb we_int.wb fun _ _ => rfl).wb (we_op mul_ok (we_ife (wt_cmp in_ok (we_var (i := 6) (vaL rfl (rel_loc rfl) nm_name) rfl).wb (we_var (i := 5) (vaC rfl (rel_free rfl rfl lk_law_spent) nm_spent) rfl).wb rfl) (we_ix ix_ok (we_var (i := 5) (vaC rfl (rel_free rfl rfl lk_law_spent) nm_spent) rfl).wb (we_var (i := 6) (vaL rfl (rel_loc rfl) nm_name) rfl).wb fun _ _ => rfl) we_int).wb (we_ix ix_ok (we_ix ix_ok (we_var (i := 10) (vaC rfl (rel_free rfl rfl lk_law_worths) nm_worths) rfl).wb (we_var (i := 6) (vaL rfl (rel_loc rfl) nm_name) rfl).wb fun _ _ => rfl).wb we_int.wb fun _ _ => rfl).wb).wb rfl))) (fun a1054 => (we_nf (Γ' := [none, some .drw, some (.val a595), some (.val s613.1), some (.val s613.2.1), some (.val s613.2.2), some (.val a1054), none, some (.val day_660), some (.val limit_661), some (.val worths_663), some (.val worth_724), some (.val plan_725), some (.val cost_726), some (.val whole_727), some (.val left_737), some (.val index_797), some (.val pace_798), some (.val due_833), some (.val s909), some (.val last_940), some (.val able_975), none]) rfl (we_var (i := 6) (vaL rfl (rel_loc rfl) nm_name) rfl)))).wb).wb rfl)
      (w_ret we_bl)
    (w_nil [false, true, false, false, false, false, false, false, false, false, false, false, false, false, false, false, false, false, false, false, false, false, false] (r := (Fl.nx ())) rfl rfl))))))))))))))))))))))))))))))))))))))))))
    (fun s594 =>
  (w_ret we_bl)) (rt_ok (f := fun d => d)))) hm
end
end L18
namespace L18
open PySem PySem.Spec PyProof.Rows L2 Wp

/-! ### sums of fractions -/
def pR (r : Int × Int) : D := .tuple [.int r.1, .int r.2]
inductive Bd : List (Int × Int) → Int → Prop
  | nil : Bd [] 1
  | cons {u d n : Int} {rs : List (Int × Int)} {X : Int} : 0 < d → d ≤ n → -n ≤ u → u ≤ n → Bd rs X → Bd ((u, d) :: rs) (2 * n * X)
theorem Bd.pos {rs : List (Int × Int)} {X : Int} (h : Bd rs X) : 1 ≤ X := by
  induction h with
  | nil => exact Int.le_refl _
  | cons h1 h2 h3 h4 h5 ih =>
    rename_i u d n rs X
    have : 1 * 1 ≤ (2 * n) * X := Int.mul_le_mul (by omega) ih (by omega) (by omega)
    omega
def sumP (rs : List (Int × Int)) : Rat := (rs.map fun r => Rat.divInt r.1 r.2).sum
theorem add_go {f : D × D → D → M (D × D)} (hf : ∀ (U L u d : Int) (Q : D × D → Prop), small U → small L → small u → small d → Q (.int (U * d + u * L), .int (L * d)) → f (.int U, .int L) (pR (u, d)) Q) {rs : List (Int × Int)} {X : Int} (h : Bd rs X) : ∀ {U L Y : Int} {P : D × D → Prop}, 0 < L → L ≤ Y → -Y ≤ U → U ≤ Y → Y * X ≤ big →
    (∀ U' L' : Int, 0 < L' → L' ≤ big → Rat.divInt U' L' = Rat.divInt U L + sumP rs → P (.int U', .int L')) → M.fold f (.int U, .int L) (rs.map pR) P := by
  induction h with
  | nil =>
    intro U L Y P h0 h1 h2 h3 h4 hP
    exact hP U L h0 (by omega) (by simp [sumP, Rat.add_zero])
  | cons a1 a2 a3 a4 hb ih =>
    rename_i u d n rs X
    intro U L Y P h0 h1 h2 h3 h4 hP
    have X1 := hb.pos
    have Y1 : 1 ≤ Y := by omega
    have n1 : 1 ≤ n := by omega
    have eYX : Y * (2 * n * X) = (2 * (Y * n)) * X := by
      rw [← Int.mul_assoc]
      congr 1
      rw [← Int.mul_assoc, Int.mul_comm Y 2, Int.mul_assoc]
    rw [eYX] at h4
    have yn : 1 * 1 ≤ Y * n := Int.mul_le_mul Y1 n1 (by omega) (by omega)
    have k1 : 2 * (Y * n) * 1 ≤ 2 * (Y * n) * X := Int.mul_le_mul_of_nonneg_left X1 (by omega)
    have k2 : Y * 1 ≤ Y * n := Int.mul_le_mul_of_nonneg_left n1 (by omega)
    have k3 : 1 * n ≤ Y * n := Int.mul_le_mul_of_nonneg_right Y1 (by omega)
    have m1 := mul_bd h2 h3 (b := d) (m := n) (by omega) a2
    have m2 := mul_bd a3 a4 (b := L) (m := Y) (by omega) h1
    have m3 := mul_bd (a := L) (n := Y) (by omega) h1 (b := d) (m := n) (by omega) a2
    rw [Int.mul_comm n Y] at m2
    have ld : 0 < L * d := Int.mul_pos h0 a1
    unfold big at h4
    show f (.int U, .int L) (pR (u, d)) _
    refine hf U L u d _ (by unfold small; omega) (by unfold small; omega) (by unfold small; omega) (by unfold small; omega) ?_
    refine ih (Y := 2 * (Y * n)) ld (by omega) (by omega) (by omega) (by unfold big; omega) fun U' L' g1 g2 g3 => hP U' L' g1 g2 ?_
    rw [g3]
    have e : Rat.divInt (U * d + u * L) (L * d) = Rat.divInt U L + Rat.divInt u d := by
      rw [Rat.divInt_add_divInt _ _ (by omega) (by omega)]
    rw [e, Rat.add_assoc]
    simp [sumP]
theorem r_add {rs : List (Int × Int)} {X : Int} (h : Bd rs X) (hX : X ≤ big) : Ret (m__law_add (.list (rs.map pR))) (qD (sumP rs)) := by
  intro P hP
  simp only [m__law_add, bind_run, pure_run, asS_list]
  refine add_go (fun U L u d Q s1 s2 s3 s4 q => ?_) h (Y := 1) (by omega) (by omega) (by omega) (by omega) (by omega) fun U' L' g1 g2 g3 => ?_
  · simp only [pR, bind_run, pure_run, ixD_tup, atI_0, atI_1, opt_some, mulD_int, addD_int, s1, s2, s3, s4, and_self, true_and]
    exact q
  · refine r_part g1 (by unfold big at g2; unfold small; omega) _ ?_
    have e0 : Rat.divInt 0 1 = 0 := Rat.zero_divInt 1
    rw [g3, e0, Rat.zero_add]
    exact hP
/-- a quotient, or none -/
def byO (x y : Rat) : D := if y = 0 then .none else qD (x / y)
theorem num_pos {y : Rat} (h : 0 ≤ y) (h0 : y ≠ 0) : 0 < y.num := by
  have h1 : 0 ≤ y.num := Rat.num_nonneg.mpr h
  have h2 : y.num ≠ 0 := fun e => h0 (Rat.num_eq_zero.mp e)
  omega
theorem r_by {x y : Rat} (hx : Bq big x) (hy : Bq big y) (h : 0 ≤ y) : Ret (m__law_by (qD x) (qD y)) (byO x y) := by
  intro P hP
  have sx := hx.small1
  have sy := hy.small1
  simp only [m__law_by, qD, bind_run, pure_run, ixD_tup, atI_0, atI_1, opt_some, eqD_int, asB_bool, cond_run, mulD_int, sx, sy, and_self, true_and]
  constructor
  · intro h0
    have : y = 0 := Rat.num_eq_zero.mp (by simpa using h0)
    subst this
    simpa [byO] using hP
  · intro h0
    have hn : y ≠ 0 := fun e => by subst e; simp at h0
    have yn := num_pos h hn
    have b := mul_bd (a := (x.den : Int)) (b := y.num) (n := big) (m := big) (by have := x.den_pos; unfold big; omega) hx.2.2 hy.1 hy.2.1
    refine r_part (Int.mul_pos (by have := x.den_pos; omega) yn) (by unfold big at b; unfold small; omega) _ ?_
    have e : Rat.divInt (x.num * y.den) (x.den * y.num) = x / y := by
      rw [← Rat.divInt_mul_divInt, Rat.num_divInt_den, Rat.div_def, Rat.inv_def]
    rw [e]
    simpa [byO, hn] using hP
/-! ### rows -/
structure Row where
  b : Int
  d : Int
  u : Int
  dn : Option Rat
  sp : Option Int
structure Row.Ok (r : Row) : Prop where
  b0 : 0 ≤ r.b
  b1 : r.b ≤ 3
  d0 : 1 ≤ r.d
  d1 : r.d ≤ 4
  u0 : 0 ≤ r.u
  u1 : r.u ≤ 8
  dn : ∀ q, r.dn = some q → 0 ≤ q ∧ q ≤ 1 ∧ Bq 4 q
  sp : ∀ s, r.sp = some s → 0 ≤ s ∧ s ≤ 8
abbrev Rows := List (Str × Row)
structure Rows.Ok (rs : Rows) : Prop where
  nd : (rs.map (·.1)).Nodup
  ln : rs.length ≤ 3
  so : ∀ p ∈ rs, PyData.strOk p.1 = true
  ok : ∀ p ∈ rs, p.2.Ok
def lnD (r : Row) : D := .tuple [.int r.b, .int r.d, .int r.u]
def Fm (rs : Rows) (f : Row → Option D) : D := dS (rs.filterMap fun p => (f p.2).map fun d => (p.1, d))
def fL (r : Row) : Option D := some (lnD r)
def fD (r : Row) : Option D := r.dn.map qD
def fS (r : Row) : Option D := r.sp.map .int
section
variable {rs : Rows} (ok : rs.Ok) {p : Str × Row}
include ok
theorem ix_L (hp : p ∈ rs) {P : D → Prop} : ixD (Fm rs fL) (.str p.1) P = P (lnD p.2) := by
  unfold Fm
  rw [ixD_dS, lookup_fm ok.nd hp]
  simp [fL]
theorem get_D (hp : p ∈ rs) {x : D} {P : D → Prop} : get2D (Fm rs fD) (.str p.1) x P = P ((fD p.2).getD x) := by
  unfold Fm
  rw [get2D_dS, lookup_fm ok.nd hp]
theorem get_S (hp : p ∈ rs) {x : D} {P : D → Prop} : get2D (Fm rs fS) (.str p.1) x P = P ((fS p.2).getD x) := by
  unfold Fm
  rw [get2D_dS, lookup_fm ok.nd hp]
theorem in_D (hp : p ∈ rs) {P : D → Prop} : inD (.str p.1) (Fm rs fD) P = P (.bool (fD p.2).isSome) := by
  unfold Fm
  rw [inD_dS, lookup_fm ok.nd hp]
theorem in_S (hp : p ∈ rs) {P : D → Prop} : inD (.str p.1) (Fm rs fS) P = P (.bool (fS p.2).isSome) := by
  unfold Fm
  rw [inD_dS, lookup_fm ok.nd hp]
theorem ix_D (hp : p ∈ rs) {d : D} (h : fD p.2 = some d) {P : D → Prop} : ixD (Fm rs fD) (.str p.1) P = P d := by
  unfold Fm
  rw [ixD_dS, lookup_fm ok.nd hp, h, opt_some]
theorem ix_S (hp : p ∈ rs) {d : D} (h : fS p.2 = some d) {P : D → Prop} : ixD (Fm rs fS) (.str p.1) P = P d := by
  unfold Fm
  rw [ixD_dS, lookup_fm ok.nd hp, h, opt_some]
end
theorem keys_L {rs : Rows} {P : List D → Prop} : keysD (Fm rs fL) P = P (rs.map fun p => .str p.1) := by
  unfold Fm
  rw [keysD_dS]
  have : (rs.filterMap fun p => (fL p.2).map fun d => (p.1, d)) = rs.map fun p => (p.1, lnD p.2) := by
    simp only [fL, Option.map_some]
    rw [List.filterMap_eq_map']
  rw [this, List.map_map]
  rfl
/-! ### what the program's defs give -/
theorem rat_mem {rs : Rows} {p : Str × Row} (ok : rs.Ok) (hp : p ∈ rs) : 0 ≤ (p.2.dn.getD 0) ∧ (p.2.dn.getD 0) ≤ 1 ∧ Bq 4 (p.2.dn.getD 0) := by
  cases h : p.2.dn with
  | none => exact ⟨by decide, by decide, by unfold Bq; decide⟩
  | some q => exact (ok.ok p hp).dn q h
def earn (r : Row) : Rat := (r.u : Rat) * r.dn.getD 0
def plan (r : Row) (day : Int) : Rat := Rat.divInt (r.u * max 0 (min r.d (day + 1 - r.b))) r.d
def Wt (rs : Rows) : Rat := (rs.map fun p => earn p.2).sum
def Pl (rs : Rows) (day : Int) : Rat := (rs.map fun p => plan p.2 day).sum
def Ct' (rs : Rows) : Int := (rs.filterMap fun p => p.2.sp).sum
def Bu (rs : Rows) : Int := (rs.map fun p => p.2.u).sum
theorem bq_int {i n : Int} (h1 : -n ≤ i) (h2 : i ≤ n) (h3 : 1 ≤ n) : Bq n (i : Rat) := ⟨h1, h2, h3⟩
theorem bq_zero : Bq 1 (0 : Rat) := by unfold Bq; decide
theorem bq_sum {n : Int} (hn : 1 ≤ n) : ∀ (xs : List Rat), (∀ x ∈ xs, Bq n x) → Bq ((2 * n) ^ xs.length) xs.sum
  | [], _ => by simpa using bq_zero
  | x :: xs, h => by
    rw [List.sum_cons, List.length_cons, Int.pow_succ]
    have := bq_add (h x (by simp)) (bq_sum hn xs fun y hy => h y (by simp [hy]))
    have e : 2 * (n * (2 * n) ^ xs.length) = (2 * n) ^ xs.length * (2 * n) := by
      rw [← Int.mul_assoc, Int.mul_comm]
    rw [← e]
    exact this
theorem bq_sum3 {xs : List Rat} (hl : xs.length ≤ 3) (h : ∀ x ∈ xs, Bq 32 x) : Bq 262144 xs.sum := by
  refine (bq_sum (n := 32) (by omega) xs h).mono ?_
  have : xs.length = 0 ∨ xs.length = 1 ∨ xs.length = 2 ∨ xs.length = 3 := by omega
  rcases this with e | e | e | e <;> rw [e] <;> decide
theorem bq_earn {r : Row} (h : r.Ok) : Bq 32 (earn r) := by
  have h1 : Bq 4 (r.dn.getD 0) := by
    cases e : r.dn with
    | none => unfold Bq; decide
    | some q => exact (h.dn q e).2.2
  exact (bq_mul (bq_int (n := 8) (by have := h.u0; omega) h.u1 (by omega)) h1).mono (by omega)
theorem bq_plan {r : Row} (h : r.Ok) (day : Int) : Bq 32 (plan r day) := by
  have h1 := h.u0; have h2 := h.u1; have h3 := h.d0; have h4 := h.d1
  have m0 : 0 ≤ max 0 (min r.d (day + 1 - r.b)) := by omega
  have m1 : max 0 (min r.d (day + 1 - r.b)) ≤ 4 := by omega
  have b := mul_bd (a := r.u) (n := 8) (by omega) h2 (b := max 0 (min r.d (day + 1 - r.b))) (m := 4) (by omega) m1
  exact bq_divInt (by omega) (by omega) (by omega) (by omega)
theorem take_mem {α : Type} {xs : List α} {n : Nat} {x : α} (h : x ∈ xs.take n) : x ∈ xs := List.mem_of_mem_take h
theorem r_sum3 {xs : List Rat} (hl : xs.length ≤ 3) (h : ∀ x ∈ xs, Bq 32 x) : Ret (m_sum_of (.list (xs.map qD))) (qD xs.sum) := by
  refine r_sum_of (fun i _ => ?_) fun x hx => (h x hx).mono (by unfold big; omega)
  refine (bq_sum3 (xs := xs.take i) (by rw [List.length_take]; omega) fun x hx => h x (take_mem hx)).mono (by unfold big; omega)
theorem r_planned_of {r : Row} (h : r.Ok) (day : Int) : Ret (m_planned_of (lnD r) (.int day)) (qD (plan r day)) := by
  intro P hP
  have h1 := h.u0; have h2 := h.u1; have h3 := h.d0; have h4 := h.d1
  simp only [m_planned_of, lnD, bind_run, pure_run, un3_run, addD_int, subD_int, min2D_int, max2D_int, mulD_int]
  exact ⟨⟨small_of (by omega) (by omega), small_of (by omega) (by omega)⟩, r_fraction (by omega) (small_of (by omega) (by omega)) P hP⟩
section
variable {rs : Rows} (ok : rs.Ok)
include ok
theorem rl : (rs.map fun p => earn p.2).length ≤ 3 := by rw [List.length_map]; exact ok.ln
theorem bq_W : Bq 262144 (Wt rs) := bq_sum3 (by rw [List.length_map]; exact ok.ln) fun x hx => by
  obtain ⟨p, hp, rfl⟩ := List.mem_map.mp hx
  exact bq_earn (ok.ok p hp)
theorem bq_P (day : Int) : Bq 262144 (Pl rs day) := bq_sum3 (by rw [List.length_map]; exact ok.ln) fun x hx => by
  obtain ⟨p, hp, rfl⟩ := List.mem_map.mp hx
  exact bq_plan (ok.ok p hp) day
theorem r_planned_at (day : Int) : Ret (m_planned_at (Fm rs fL) (.int day)) (qD (Pl rs day)) := by
  intro P hP
  simp only [m_planned_at, bind_run, pure_run, keys_L]
  refine mapM_run (fun p => qD (plan p.2 day)) (fun p hp Q hQ => ?_) ?_
  · simp only [bind_run, pure_run]
    rw [ix_L ok hp]
    exact r_planned_of (ok.ok p hp) day Q hQ
  · have e : rs.map (fun p => qD (plan p.2 day)) = (rs.map fun p => plan p.2 day).map qD := by rw [List.map_map]; rfl
    rw [e]
    exact r_sum3 (by rw [List.length_map]; exact ok.ln) (fun x hx => by
      obtain ⟨p, hp, rfl⟩ := List.mem_map.mp hx
      exact bq_plan (ok.ok p hp) day) P hP
theorem r_earned_of {p : Str × Row} (hp : p ∈ rs) : Ret (m_earned_of (Fm rs fL) (Fm rs fD) (.str p.1)) (qD (earn p.2)) := by
  intro P hP
  simp only [m_earned_of, bind_run, pure_run]
  rw [ix_L ok hp]
  simp only [lnD, ixD_tup, atI_2, opt_some]
  refine ⟨by unfold Fm; simp, ?_⟩
  simp only [bind_run, pure_run]
  rw [get_D ok hp]
  have e : (fD p.2).getD c_NOTHING = qD (p.2.dn.getD 0) := by
    unfold fD
    cases p.2.dn <;> rfl
  rw [e, ← qD_int]
  have hr := ok.ok p hp
  have h4 := (rat_mem ok hp).2.2
  exact r_times ((bq_int (n := 8) (by have := hr.u0; omega) hr.u1 (by omega)).mono (by unfold big; omega)) (h4.mono (by unfold big; omega)) P hP
theorem r_earned : Ret (m_earned (Fm rs fL) (Fm rs fD)) (qD (Wt rs)) := by
  intro P hP
  simp only [m_earned, bind_run, pure_run, keys_L]
  refine mapM_run (fun p => qD (earn p.2)) (fun p hp Q hQ => by simp only [bind_run, pure_run]; exact r_earned_of ok hp Q hQ) ?_
  have e : rs.map (fun p => qD (earn p.2)) = (rs.map fun p => earn p.2).map qD := by rw [List.map_map]; rfl
  rw [e]
  exact r_sum3 (rl ok) (fun x hx => by
    obtain ⟨p, hp, rfl⟩ := List.mem_map.mp hx
    exact bq_earn (ok.ok p hp)) P hP
theorem r_sumS {P : D → Prop} (hP : P (.int (Ct' rs))) : keysD (Fm rs fS) fun l => M.mapM (fun x => (M.pure x).bind fun a => (M.pure (Fm rs fS)).bind fun b => (M.pure a).bind fun c => ixD b c) l fun ys => sumD (.list ys) P := by
  unfold Fm
  rw [keysD_dS]
  have key : ∀ es : List (Str × D), (es.map (·.1)).Nodup → ∀ P : List D → Prop, P (es.map (·.2)) → M.mapM (fun x => (M.pure x).bind fun a => (M.pure (dS es)).bind fun b => (M.pure a).bind fun c => ixD b c) (es.map fun p => (.str p.1 : D)) P := by
    intro es nd P hP
    refine mapM_run (fun p => p.2) (fun p hp Q hQ => ?_) hP
    simp only [bind_run, pure_run]
    rw [ixD_dS, lookup_mem nd hp, opt_some]
    exact hQ
  refine key _ (fm_nodup ok.nd) _ ?_
  have e : (rs.filterMap fun p => (fS p.2).map fun d => (p.1, d)).map (·.2) = (rs.filterMap fun p => p.2.sp).map .int := by
    rw [List.map_filterMap, List.map_filterMap]
    congr 1
    funext p
    unfold fS
    cases p.2.sp <;> rfl
  rw [e]
  exact sumD_ints hP
theorem r_cost : Ret (m_cost_so_far (Fm rs fS)) (.int (Ct' rs)) := by
  intro P hP
  simp only [m_cost_so_far, bind_run, pure_run]
  exact r_sumS ok hP
theorem r_budget : Ret (m_budget_of (Fm rs fL)) (.int (Bu rs)) := by
  intro P hP
  simp only [m_budget_of, bind_run, pure_run, keys_L]
  refine mapM_run (fun p => .int p.2.u) (fun p hp Q hQ => ?_) ?_
  · simp only [bind_run, pure_run]
    rw [ix_L ok hp]
    simp only [lnD, ixD_tup, atI_2, opt_some]
    exact hQ
  · have e : rs.map (fun p => (.int p.2.u : D)) = (rs.map fun p => p.2.u).map .int := by rw [List.map_map]; rfl
    rw [e]
    exact sumD_ints hP
end
theorem isum_bd {n : Int} : ∀ (xs : List Int), (∀ x ∈ xs, 0 ≤ x ∧ x ≤ n) → 0 ≤ xs.sum ∧ xs.sum ≤ n * xs.length
  | [], _ => by simp
  | x :: xs, h => by
    have h1 := h x (by simp)
    have h2 := isum_bd xs fun y hy => h y (by simp [hy])
    rw [List.sum_cons, List.length_cons]
    have : n * ((xs.length + 1 : Nat) : Int) = n * xs.length + n := by rw [Int.natCast_add, Int.mul_add]; simp
    omega
theorem Ct_bd {rs : Rows} (ok : rs.Ok) : 0 ≤ Ct' rs ∧ Ct' rs ≤ 24 := by
  have h := isum_bd (n := 8) (rs.filterMap fun p => p.2.sp) fun x hx => by
    obtain ⟨p, hp, e⟩ := List.mem_filterMap.mp hx
    exact (ok.ok p hp).sp x e
  have l : (rs.filterMap fun p => p.2.sp).length ≤ rs.length := List.length_filterMap_le _ _
  have := ok.ln
  unfold Ct'
  omega
theorem Bu_bd {rs : Rows} (ok : rs.Ok) : 0 ≤ Bu rs ∧ Bu rs ≤ 24 := by
  have h := isum_bd (n := 8) (rs.map fun p => p.2.u) fun x hx => by
    obtain ⟨p, hp, rfl⟩ := List.mem_map.mp hx
    exact ⟨(ok.ok p hp).u0, (ok.ok p hp).u1⟩
  have l : (rs.map fun p => p.2.u).length = rs.length := List.length_map _
  have := ok.ln
  unfold Bu
  omega
theorem rsum_nonneg : ∀ (xs : List Rat), (∀ x ∈ xs, 0 ≤ x) → 0 ≤ xs.sum
  | [], _ => by decide
  | x :: xs, h => by
    rw [List.sum_cons]
    exact Rat.add_nonneg (h x (by simp)) (rsum_nonneg xs fun y hy => h y (by simp [hy]))
theorem W0 {rs : Rows} (ok : rs.Ok) : 0 ≤ Wt rs := rsum_nonneg _ fun x hx => by
  obtain ⟨p, hp, rfl⟩ := List.mem_map.mp hx
  exact Rat.mul_nonneg (Rat.intCast_nonneg.mpr (ok.ok p hp).u0) (rat_mem ok hp).1
theorem P0 {rs : Rows} (ok : rs.Ok) (day : Int) : 0 ≤ Pl rs day := rsum_nonneg _ fun x hx => by
  obtain ⟨p, hp, rfl⟩ := List.mem_map.mp hx
  exact Rat.divInt_nonneg (Int.mul_nonneg (ok.ok p hp).u0 (by omega)) (by have := (ok.ok p hp).d0; omega)
theorem byO_neg {x y : Rat} (h : y ≠ 0) : byO x y = qD (x / y) := if_neg h
theorem byO_pos {x y : Rat} (h : y = 0) : byO x y = .none := if_pos h
theorem nothing_q : c_NOTHING = qD 0 := rfl
section
variable {rs : Rows} (ok : rs.Ok)
include ok
theorem bq_C : Bq 24 (Ct' rs : Rat) := bq_int (by have := (Ct_bd ok).1; omega) (Ct_bd ok).2 (by omega)
theorem bq_U : Bq 24 (Bu rs : Rat) := bq_int (by have := (Bu_bd ok).1; omega) (Bu_bd ok).2 (by omega)
theorem C0 : 0 ≤ (Ct' rs : Rat) := Rat.intCast_nonneg.mpr (Ct_bd ok).1
theorem r_cost_index : Ret (m_cost_index (Fm rs fL) (Fm rs fD) (Fm rs fS)) (byO (Wt rs) (Ct' rs)) := by
  intro P hP
  simp only [m_cost_index, bind_run, pure_run]
  refine r_cost ok _ ?_
  simp only [neD_int, asB_bool, cond_run, bind_run, pure_run]
  constructor
  · intro h
    have hC : (Ct' rs : Rat) ≠ 0 := by simpa using h
    refine r_earned ok _ ?_
    rw [← qD_int]
    rw [byO_neg hC] at hP
    exact r_over ((bq_W ok).mono (by unfold big; omega)) ((bq_C ok).mono (by unfold big; omega)) (rat_pos (C0 ok) hC) P hP
  · intro h
    have hC : (Ct' rs : Rat) = 0 := by simpa using h
    rw [byO_pos hC] at hP
    exact hP
theorem r_time_index (day : Int) : Ret (m_time_index (Fm rs fL) (Fm rs fD) (.int day)) (byO (Wt rs) (Pl rs day)) := by
  intro P hP
  simp only [m_time_index, bind_run, pure_run]
  refine r_planned_at ok day _ ?_
  rw [nothing_q]
  simp only [neD_q, asB_bool, cond_run, bind_run, pure_run]
  constructor
  · intro h
    have hC : Pl rs day ≠ 0 := by simpa using h
    refine r_earned ok _ ?_
    rw [byO_neg hC] at hP
    exact r_over ((bq_W ok).mono (by unfold big; omega)) ((bq_P ok day).mono (by unfold big; omega)) (rat_pos (P0 ok day) hC) P hP
  · intro h
    have hC : Pl rs day = 0 := by simpa using h
    rw [byO_pos hC] at hP
    exact hP
theorem r_left : Ret (m_left_of (Fm rs fL) (Fm rs fD)) (qD ((Bu rs : Rat) - Wt rs)) := by
  intro P hP
  simp only [m_left_of, bind_run, pure_run]
  refine r_budget ok _ ?_
  refine r_earned ok _ ?_
  rw [← qD_int]
  exact r_minus ((bq_U ok).mono (by unfold big; omega)) ((bq_W ok).mono (by unfold big; omega)) P hP
theorem bq_left : Bq 12582912 ((Bu rs : Rat) - Wt rs) := (bq_sub (bq_U ok) (bq_W ok)).mono (by omega)
theorem r_fc_plan (day : Int) : Ret (m_forecast (Fm rs fL) (Fm rs fD) (Fm rs fS) (.int day) (.str "plan")) (qD ((Ct' rs : Rat) + ((Bu rs : Rat) - Wt rs))) := by
  intro P hP
  simp only [m_forecast, bind_run, pure_run]
  refine r_cost ok _ ?_
  refine r_cost_index ok _ ?_
  refine eqD_str (by decide +kernel) (by decide +kernel) ?_
  simp only [asB_bool, cond_run]
  refine ⟨fun _ => ?_, fun h => absurd h (by decide +kernel)⟩
  simp only [bind_run, pure_run]
  refine r_left ok _ ?_
  rw [← qD_int]
  exact r_plus ((bq_C ok).mono (by unfold big; omega)) ((bq_left ok).mono (by unfold big; omega)) P hP
def fcI (rs : Rows) : D := if (Ct' rs : Rat) = 0 then .none else byO (Bu rs) (Wt rs / Ct' rs)
def fcB (rs : Rows) (day : Int) : D := if (Ct' rs : Rat) = 0 ∨ Wt rs / Ct' rs = 0 ∨ Pl rs day = 0 ∨ Wt rs / Pl rs day = 0 then .none else qD ((Ct' rs : Rat) + ((Bu rs : Rat) - Wt rs) / ((Wt rs / Ct' rs) * (Wt rs / Pl rs day)))
theorem bq_idx (h : (Ct' rs : Rat) ≠ 0) : Bq 6291456 (Wt rs / Ct' rs) ∧ 0 ≤ Wt rs / Ct' rs := ⟨(bq_div (bq_W ok) (bq_C ok) (rat_pos (C0 ok) h)).mono (by omega), div_nonneg' (W0 ok) (rat_pos (C0 ok) h)⟩
theorem bq_pace {day : Int} (h : Pl rs day ≠ 0) : Bq 68719476736 (Wt rs / Pl rs day) ∧ 0 ≤ Wt rs / Pl rs day := ⟨(bq_div (bq_W ok) (bq_P ok day) (rat_pos (P0 ok day) h)).mono (by omega), div_nonneg' (W0 ok) (rat_pos (P0 ok day) h)⟩
theorem r_fc_index (day : Int) : Ret (m_forecast (Fm rs fL) (Fm rs fD) (Fm rs fS) (.int day) (.str "index")) (fcI rs) := by
  intro P hP
  simp only [m_forecast, bind_run, pure_run]
  refine r_cost ok _ ?_
  refine r_cost_index ok _ ?_
  refine eqD_str (by decide +kernel) (by decide +kernel) ?_
  simp only [asB_bool, cond_run, bind_run, pure_run]
  refine ⟨fun h => absurd h (by decide +kernel), fun _ => ?_⟩
  by_cases hC : (Ct' rs : Rat) = 0
  · rw [byO_pos hC]
    simp only [isD_none, asB_bool, cond_run, pure_run]
    refine ⟨fun _ => ⟨fun _ => ?_, fun h => absurd h (by decide +kernel)⟩, fun h => absurd h (by decide +kernel)⟩
    simpa [fcI, hC] using hP
  · have hb := bq_idx ok hC
    rw [byO_neg hC]
    rw [nothing_q]
    simp only [isD_q, eqD_q, asB_bool, cond_run, pure_run, bind_run]
    refine ⟨fun h => absurd h (by decide +kernel), fun _ => ⟨fun h => ?_, fun h => ?_⟩⟩
    · have : Wt rs / Ct' rs = 0 := by simpa using h
      simpa [fcI, hC, byO, this] using hP
    · have hn : Wt rs / Ct' rs ≠ 0 := by simpa using h
      refine eqD_str (by decide +kernel) (by decide +kernel) ?_
      refine ⟨fun _ => ?_, fun h => absurd h (by decide +kernel)⟩
      refine r_budget ok _ ?_
      rw [← qD_int]
      refine r_over ((bq_U ok).mono (by unfold big; omega)) (hb.1.mono (by unfold big; omega)) (rat_pos hb.2 hn) P ?_
      simpa [fcI, hC, byO, hn] using hP
theorem r_fc_both (day : Int) : Ret (m_forecast (Fm rs fL) (Fm rs fD) (Fm rs fS) (.int day) (.str "both")) (fcB rs day) := by
  intro P hP
  simp only [m_forecast, bind_run, pure_run]
  refine r_cost ok _ ?_
  refine r_cost_index ok _ ?_
  refine eqD_str (by decide +kernel) (by decide +kernel) ?_
  simp only [asB_bool, cond_run, bind_run, pure_run]
  refine ⟨fun h => absurd h (by decide +kernel), fun _ => ?_⟩
  by_cases hC : (Ct' rs : Rat) = 0
  · rw [byO_pos hC]
    simp only [isD_none, asB_bool, cond_run, pure_run]
    refine ⟨fun _ => ⟨fun _ => ?_, fun h => absurd h (by decide +kernel)⟩, fun h => absurd h (by decide +kernel)⟩
    simpa [fcB, hC] using hP
  · have hb := bq_idx ok hC
    rw [byO_neg hC]
    rw [nothing_q]
    simp only [isD_q, eqD_q, asB_bool, cond_run, pure_run, bind_run]
    refine ⟨fun h => absurd h (by decide +kernel), fun _ => ⟨fun h => ?_, fun h => ?_⟩⟩
    · have : Wt rs / Ct' rs = 0 := by simpa using h
      simpa [fcB, hC, this] using hP
    · have hn : Wt rs / Ct' rs ≠ 0 := by simpa using h
      refine eqD_str (by decide +kernel) (by decide +kernel) ?_
      refine ⟨fun h => absurd h (by decide +kernel), fun _ => ?_⟩
      refine r_time_index ok day _ ?_
      by_cases hp : Pl rs day = 0
      · rw [byO_pos hp]
        simp only [isD_none, asB_bool, cond_run, pure_run]
        refine ⟨fun _ => ⟨fun _ => ?_, fun h => absurd h (by decide +kernel)⟩, fun h => absurd h (by decide +kernel)⟩
        simpa [fcB, hC, hp] using hP
      · have hq := bq_pace ok hp
        rw [byO_neg hp]
        simp only [isD_q, eqD_q, asB_bool, cond_run, pure_run, bind_run]
        refine ⟨fun h => absurd h (by decide +kernel), fun _ => ⟨fun h => ?_, fun h => ?_⟩⟩
        · have : Wt rs / Pl rs day = 0 := by simpa using h
          simpa [fcB, hC, this] using hP
        · have hm : Wt rs / Pl rs day ≠ 0 := by simpa using h
          refine r_left ok _ ?_
          refine r_times (hb.1.mono (by unfold big; omega)) (hq.1.mono (by unfold big; omega)) _ ?_
          have hpos := Rat.mul_pos (rat_pos hb.2 hn) (rat_pos hq.2 hm)
          have hbm := bq_mul hb.1 hq.1
          refine r_over ((bq_left ok).mono (by unfold big; omega)) (hbm.mono (by unfold big; omega)) hpos _ ?_
          rw [← qD_int]
          refine r_plus ((bq_C ok).mono (by unfold big; omega)) ((bq_div (bq_left ok) hbm hpos).mono (by unfold big; omega)) P ?_
          simpa [fcB, hC, hn, hp, hm] using hP
theorem r_needed (limit : Int) (h1 : -1000 ≤ limit) (h2 : limit ≤ 1000) : Ret (m_needed_index (Fm rs fL) (Fm rs fD) (Fm rs fS) (.int limit)) (if 0 < limit - Ct' rs then qD (((Bu rs : Rat) - Wt rs) / ((limit - Ct' rs : Int) : Rat)) else .none) := by
  intro P hP
  simp only [m_needed_index, bind_run, pure_run]
  refine r_cost ok _ ?_
  simp only [subD_int, gtD_int, asB_bool, cond_run, bind_run, pure_run]
  have hc := Ct_bd ok
  constructor
  · intro h
    have h' : 0 < limit - Ct' rs := by simpa using h
    rw [if_pos h'] at hP
    refine r_left ok _ ?_
    rw [← qD_int]
    exact r_over ((bq_left ok).mono (by unfold big; omega)) ((bq_int (n := 2000) (by omega) (by omega) (by omega)).mono (by unfold big; omega)) (Rat.intCast_pos.mpr h') P hP
  · intro h
    have h' : ¬ 0 < limit - Ct' rs := by simpa using h
    rw [if_neg h'] at hP
    exact hP
end
theorem maxD_run {ns : List Int} {m : Int} {P : D → Prop} (h : ns.max? = some m) (hP : P (.int m)) : maxD (.list (ns.map .int)) P := ⟨ns, asInts_map ns, m, h, hP⟩
def ends (rs : Rows) : List Int := 0 :: rs.map fun p => p.2.b + p.2.d
def La (rs : Rows) : Int := ((ends rs).max?).getD 0
theorem La_max (rs : Rows) : (ends rs).max? = some (La rs) := by
  unfold La
  cases h : (ends rs).max? with
  | none => rw [List.max?_eq_none_iff] at h; cases h
  | some m => rfl
theorem La_spec (rs : Rows) : La rs ∈ ends rs ∧ ∀ x ∈ ends rs, x ≤ La rs := List.max?_eq_some_iff.mp (La_max rs)
section
variable {rs : Rows} (ok : rs.Ok)
include ok
theorem La_bd : 0 ≤ La rs ∧ La rs ≤ 7 := by
  have h := La_spec rs
  refine ⟨h.2 0 (by simp [ends]), ?_⟩
  have h1 := h.1
  unfold ends at h1
  rcases List.mem_cons.mp h1 with e | e
  · omega
  · obtain ⟨p, hp, e2⟩ := List.mem_map.mp e
    have := (ok.ok p hp).b1
    have := (ok.ok p hp).d1
    omega
theorem r_last : Ret (m_last_end (Fm rs fL)) (.int (La rs)) := by
  intro P hP
  simp only [m_last_end, bind_run, pure_run, keys_L]
  refine mapM_run (fun p => .int (p.2.b + p.2.d)) (fun p hp Q hQ => ?_) ?_
  · simp only [bind_run, pure_run]
    rw [ix_L ok hp]
    simp only [lnD, ixD_tup, atI_0, atI_1, opt_some]
    rw [ix_L ok hp]
    simp only [lnD, ixD_tup, atI_0, atI_1, opt_some, addD_int]
    exact hQ
  · refine ⟨by have := ok.ln; simp; omega, ?_⟩
    have e : [(.int 0 : D)] ++ rs.map (fun p => (.int (p.2.b + p.2.d) : D)) = (ends rs).map .int := by simp [ends, Function.comp_def]
    show maxD (.list ([(.int 0 : D)] ++ rs.map (fun p => (.int (p.2.b + p.2.d) : D)))) P
    rw [e]
    exact maxD_run (La_max rs) hP
theorem r_curve : Ret (m_curve (Fm rs fL)) (.tuple ((List.range (La rs).toNat).map fun (i : Nat) => qD (Pl rs (0 + (i : Int))))) := by
  intro P hP
  have hb := La_bd ok
  simp only [m_curve, bind_run, pure_run]
  refine r_last ok _ ?_
  simp only [asI_int]
  refine rngD_run (by omega) (by omega) (by omega) (by omega) (by omega) ?_
  unfold rangeD
  refine mapM_run (fun (i : Nat) => qD (Pl rs (0 + (i : Int)))) (fun i hi Q hQ => ?_) ?_
  · simp only [bind_run, pure_run]
    exact r_planned_at ok _ Q hQ
  · rw [Int.sub_zero]
    exact hP
/-! ### the law's plan -/
def cnt (r : Row) (day : Int) : Nat := (max 0 (min r.d (day + 1 - r.b))).toNat
def flat (rs : Rows) (day : Int) : List (Int × Int) := rs.flatMap fun p => List.replicate (cnt p.2 day) (p.2.u, p.2.d)
end
theorem count_le (b day : Int) (f : Nat → D) : ∀ n : Nat, ((List.range n).filterMap fun (i : Nat) => if b + (i : Int) ≤ day then some (f i) else none).length = (max 0 (min (n : Int) (day + 1 - b))).toNat
  | 0 => by simp; omega
  | n + 1 => by
    rw [List.range_succ, List.filterMap_append, List.length_append, count_le b day f n]
    simp only [List.filterMap_cons, List.filterMap_nil]
    split <;> rename_i h
    · have : ¬ b + (n : Int) ≤ day := by intro h2; rw [if_pos h2] at h; cases h
      simp; omega
    · have : b + (n : Int) ≤ day := by
        by_cases h2 : b + (n : Int) ≤ day
        · exact h2
        · rw [if_neg h2] at h; cases h
      simp; omega
theorem bd_all {n : Int} (hn : 1 ≤ n) : ∀ (rs : List (Int × Int)), (∀ r ∈ rs, 0 < r.2 ∧ r.2 ≤ n ∧ -n ≤ r.1 ∧ r.1 ≤ n) → Bd rs ((2 * n) ^ rs.length)
  | [], _ => by simpa using Bd.nil
  | (u, d) :: rs, h => by
    have h1 := h (u, d) (by simp)
    rw [List.length_cons, Int.pow_succ, Int.mul_comm]
    exact .cons h1.1 h1.2.1 h1.2.2.1 h1.2.2.2 (bd_all hn rs fun r hr => h r (by simp [hr]))
theorem divInt_same (a b d : Int) : Rat.divInt a d + Rat.divInt b d = Rat.divInt (a + b) d := by
  rw [Rat.divInt_eq_div, Rat.divInt_eq_div, Rat.divInt_eq_div, Rat.div_def, Rat.div_def, Rat.div_def, ← Rat.add_mul, Rat.intCast_add]
theorem sumP_append (xs ys : List (Int × Int)) : sumP (xs ++ ys) = sumP xs + sumP ys := by
  induction xs with
  | nil => simp [sumP, Rat.zero_add]
  | cons x xs ih =>
    show Rat.divInt x.1 x.2 + sumP (xs ++ ys) = Rat.divInt x.1 x.2 + sumP xs + sumP ys
    rw [ih, Rat.add_assoc]
theorem sumP_rep (u d : Int) : ∀ k : Nat, sumP (List.replicate k (u, d)) = Rat.divInt (u * k) d
  | 0 => by simp [sumP]
  | k + 1 => by
    rw [List.replicate_succ]
    show Rat.divInt u d + sumP (List.replicate k (u, d)) = _
    rw [sumP_rep u d k, divInt_same]
    congr 1
    rw [Int.natCast_add, Int.mul_add]
    simp; omega
theorem sumP_flat (rs : Rows) (day : Int) : sumP (flat rs day) = Pl rs day := by
  induction rs with
  | nil => rfl
  | cons p rs ih =>
    show sumP (List.replicate (cnt p.2 day) (p.2.u, p.2.d) ++ flat rs day) = plan p.2 day + Pl rs day
    rw [sumP_append, sumP_rep, ih]
    congr 1
    unfold plan cnt
    congr 2
    omega
theorem flat_len {rs : Rows} (day : Int) (h : ∀ p ∈ rs, p.2.Ok) : (flat rs day).length ≤ 4 * rs.length := by
  induction rs with
  | nil => simp [flat]
  | cons p rs ih =>
    show (List.replicate (cnt p.2 day) (p.2.u, p.2.d) ++ flat rs day).length ≤ _
    rw [List.length_append, List.length_replicate, List.length_cons]
    have := ih fun q hq => h q (by simp [hq])
    have h1 := (h p (by simp)).d1
    have : cnt p.2 day ≤ 4 := by unfold cnt; omega
    omega
theorem flat_take {rs : Rows} {day : Int} {i : Nat} (h : i < rs.length) : flat (rs.take (i + 1)) day = flat (rs.take i) day ++ List.replicate (cnt rs[i].2 day) (rs[i].2.u, rs[i].2.d) := by
  unfold flat
  rw [List.take_succ_eq_append_getElem h, List.flatMap_append]
  simp
theorem pow16 {k : Nat} (h : k ≤ 12) : (2 * 8 : Int) ^ k ≤ big := by
  have : (16 : Nat) ^ k ≤ 16 ^ 12 := Nat.pow_le_pow_right (by omega) h
  have e : ((2 * 8 : Int)) ^ k = ((16 ^ k : Nat) : Int) := by rw [Int.natCast_pow]; rfl
  rw [e]
  unfold big
  have : (16 : Nat) ^ 12 = 281474976710656 := by decide
  omega
theorem r_law_planned {rs : Rows} (ok : rs.Ok) (day : Int) : Ret (m__law_planned (Fm rs fL) (.int day)) (qD (Pl rs day)) := by
  intro P hP
  simp only [m__law_planned, bind_run, pure_run, keys_L]
  refine fold_run (fun i s => s = .list ((flat (rs.take i) day).map pR)) _ (by simp [flat]) (fun i hi s hs Q hQ => ?_) fun s hs => ?_
  · subst hs
    have hi' : i < rs.length := by simpa using hi
    have hp : rs[i] ∈ rs := List.getElem_mem hi'
    have hr := ok.ok _ hp
    have hb0 := hr.b0; have hb1 := hr.b1; have hd0 := hr.d0; have hd1 := hr.d1
    have e : (rs.map fun p => (.str p.1 : D))[i] = .str rs[i].1 := by simp
    rw [e]
    simp only [bind_run, pure_run]
    rw [ix_L ok hp]
    simp only [lnD, un3_run, asI_int, addD_int]
    refine rngD_run (by omega) (by omega) (by omega) (by omega) (by omega) ?_
    unfold rangeD
    refine filM_run (fun (j : Nat) => if rs[i].2.b + (j : Int) ≤ day then some (.int (rs[i].2.b + (j : Int))) else none) (fun j hj Q2 hQ2 => ?_) ?_
    · simp only [bind_run, pure_run, leD_int, asB_bool, cond_run]
      constructor
      · intro h
        have h' : rs[i].2.b + (j : Int) ≤ day := by simpa using h
        rw [if_pos h'] at hQ2; exact hQ2
      · intro h
        have h' : ¬ rs[i].2.b + (j : Int) ≤ day := by simpa using h
        rw [if_neg h'] at hQ2; exact hQ2
    · simp only [lenD_list]
      rw [count_le]
      have en : ((rs[i].2.b + rs[i].2.d - rs[i].2.b).toNat : Int) = rs[i].2.d := by omega
      rw [en]
      have hk : (max 0 (min rs[i].2.d (day + 1 - rs[i].2.b))).toNat = cnt rs[i].2 day := rfl
      rw [hk]
      have ck : cnt rs[i].2 day ≤ 4 := by unfold cnt; omega
      refine ⟨⟨by omega, by omega, by simp; omega⟩, ?_⟩
      have fl := flat_len (rs := rs.take i) day fun p hp => ok.ok p (take_mem hp)
      have tl : (rs.take i).length ≤ 3 := by rw [List.length_take]; have := ok.ln; omega
      refine ⟨by simp; omega, hQ _ ?_⟩
      rw [flat_take hi', List.map_append, List.map_replicate]
      simp [pR]
  · subst hs
    have e1 : rs.take (rs.map fun p => (.str p.1 : D)).length = rs := by simp
    rw [e1]
    rw [← sumP_flat] at hP
    have fl := flat_len (rs := rs) day ok.ok
    refine r_add (bd_all (n := 8) (by omega) _ fun r hr => ?_) (pow16 (by have := ok.ln; omega)) P hP
    unfold flat at hr
    obtain ⟨p, hp, hm⟩ := List.mem_flatMap.mp hr
    have := List.eq_of_mem_replicate hm
    subst this
    have hr := ok.ok p hp
    have := hr.u0; have := hr.u1; have := hr.d0; have := hr.d1
    refine ⟨?_, ?_, ?_, ?_⟩ <;> simp <;> omega
/-! ### the day of what is earned -/
theorem rat_le_sum {f g : Str × Row → Rat} : ∀ (rs : Rows), (∀ p ∈ rs, f p ≤ g p) → (rs.map f).sum ≤ (rs.map g).sum
  | [], _ => Rat.le_refl
  | p :: rs, h => by
    rw [List.map_cons, List.map_cons, List.sum_cons, List.sum_cons]
    have h1 := h p (by simp)
    have h2 := rat_le_sum rs fun q hq => h q (by simp [hq])
    grind
theorem plan_full {r : Row} (h : r.Ok) {day : Int} (hd : r.b + r.d ≤ day) : plan r day = (r.u : Rat) := by
  unfold plan
  have e : max 0 (min r.d (day + 1 - r.b)) = r.d := by have := h.d0; omega
  have h0 := h.d0
  rw [e, Rat.divInt_eq_div, Rat.intCast_mul, Rat.mul_div_cancel]
  intro z
  have : r.d = 0 := by simpa using z
  omega
theorem earn_le {r : Row} (h : r.Ok) : earn r ≤ (r.u : Rat) := by
  unfold earn
  have h1 : r.dn.getD 0 ≤ 1 := by
    cases e : r.dn with
    | none => decide
    | some q => exact (h.dn q e).2.1
  have := Rat.mul_le_mul_of_nonneg_left h1 (Rat.intCast_nonneg.mpr h.u0)
  rw [Rat.mul_one] at this
  exact this
theorem W_le_last {rs : Rows} (ok : rs.Ok) : Wt rs ≤ Pl rs (La rs) := by
  refine rat_le_sum rs fun p hp => ?_
  have h := (La_spec rs).2 (p.2.b + p.2.d) (by unfold ends; exact List.mem_cons_of_mem _ (List.mem_map.mpr ⟨p, hp, rfl⟩))
  rw [plan_full (ok.ok p hp) h]
  exact earn_le (ok.ok p hp)
/-- the first day on which no less is planned than is earned -/
theorem first_day (f : Nat → Prop) [DecidablePred f] : ∀ n : Nat, f n → ∃ k, k ≤ n ∧ f k ∧ ∀ i, i < k → ¬ f i
  | 0, h => ⟨0, Nat.le_refl _, h, fun i hi => by omega⟩
  | n + 1, h => by
    by_cases hn : ∃ m, m ≤ n ∧ f m
    · obtain ⟨m, hm, hf⟩ := hn
      obtain ⟨k, h1, h2, h3⟩ := first_go f n m hm hf
      exact ⟨k, by omega, h2, h3⟩
    · exact ⟨n + 1, Nat.le_refl _, h, fun i hi hf => hn ⟨i, by omega, hf⟩⟩
where
  first_go (f : Nat → Prop) [DecidablePred f] (n : Nat) : ∀ m, m ≤ n → f m → ∃ k, k ≤ n ∧ f k ∧ ∀ i, i < k → ¬ f i := by
    intro m
    induction m using Nat.strongRecOn with
    | _ m ih =>
      intro hm hf
      by_cases h : ∃ i, i < m ∧ f i
      · obtain ⟨i, hi, hfi⟩ := h
        exact ih i hi (by omega) hfi
      · exact ⟨m, hm, hf, fun i hi hfi => h ⟨i, hi, hfi⟩⟩
theorem filter_first {α : Type} (f : Nat → Prop) [DecidablePred f] (g : Nat → α) {k : Nat} (hf : f k) (hk : ∀ i, i < k → ¬ f i) : ∀ n, k < n → ∃ r, ((List.range n).filterMap fun i => if f i then some (g i) else none) = g k :: r
  | 0, h => by omega
  | n + 1, h => by
    rw [List.range_succ, List.filterMap_append]
    by_cases hn : k < n
    · obtain ⟨r, e⟩ := filter_first f g hf hk n hn
      rw [e]
      exact ⟨_, rfl⟩
    · have e : k = n := by omega
      subst e
      have : ((List.range k).filterMap fun i => if f i then some (g i) else none) = [] := by
        rw [List.filterMap_eq_nil_iff]
        intro i hi
        rw [if_neg (hk i (List.mem_range.mp hi))]
      rw [this]
      simp [hf]
def okDay (rs : Rows) (i : Nat) : Prop := ¬ Pl rs (i : Int) < Wt rs
instance (rs : Rows) : DecidablePred (okDay rs) := fun i => inferInstanceAs (Decidable (¬ _))
section
variable {rs : Rows} (ok : rs.Ok)
include ok
theorem r_earned_day {k : Nat} (hk : okDay rs k) (hl : ∀ i, i < k → ¬ okDay rs i) : Ret (m_earned_day (Fm rs fL) (Fm rs fD)) (.int k) := by
  intro P hP
  simp only [m_earned_day, bind_run, pure_run]
  refine r_earned ok _ ?_
  refine while_run (fun s => ∃ j : Nat, s = .int j ∧ j ≤ k) (fun s => match s with | .int j => k - j.toNat | _ => 0) (fun s hI Q hQ => ?_) ⟨0, rfl, Nat.zero_le _⟩
  obtain ⟨j, rfl, hj⟩ := hI
  simp only [bind_run, pure_run]
  refine r_planned_at ok _ _ ?_
  refine r_is_less ((bq_P ok _).mono (by unfold big; omega)) ((bq_W ok).mono (by unfold big; omega)) _ ?_
  simp only [truth_bool]
  constructor
  · intro h
    have h' : Pl rs (j : Int) < Wt rs := by simpa using h
    have hjk : j ≠ k := fun e => by subst e; exact hk h'
    simp only [iaddD_int]
    exact hQ _ ⟨j + 1, by simp, by omega⟩ (by show k - ((j : Int) + 1).toNat < k - (j : Int).toNat; omega)
  · intro h
    have h' : okDay rs j := by unfold okDay; simpa using h
    have : j = k := by
      by_cases hjk : j < k
      · exact absurd h' (hl j hjk)
      · omega
    subst this
    exact hP
theorem r_behind (day : Int) : Ret (m_is_behind (Fm rs fL) (Fm rs fD) (.int day)) (.bool (decide (Wt rs < Pl rs day))) := by
  intro P hP
  simp only [m_is_behind, bind_run, pure_run]
  refine r_earned ok _ ?_
  refine r_planned_at ok _ _ ?_
  exact r_is_less ((bq_W ok).mono (by unfold big; omega)) ((bq_P ok _).mono (by unfold big; omega)) _ hP
theorem r_over_ : Ret (m_is_over (Fm rs fL) (Fm rs fD) (Fm rs fS)) (.bool (decide (Wt rs < (Ct' rs : Rat)))) := by
  intro P hP
  simp only [m_is_over, bind_run, pure_run]
  refine r_earned ok _ ?_
  refine r_cost ok _ ?_
  rw [← qD_int]
  exact r_is_less ((bq_W ok).mono (by unfold big; omega)) ((bq_C ok).mono (by unfold big; omega)) _ hP
end
/-! ### the worst lines -/
def dear (r : Row) : Prop := earn r < ((r.sp.getD 0 : Int) : Rat)
instance : DecidablePred dear := fun r => inferInstanceAs (Decidable (_ < _))
/-- the names of the rows, sorted -/
theorem sort_names (rs : Rows) : ∃ qs : Rows, sortL (rs.map fun p => (.str p.1 : D)) = qs.map (fun p => .str p.1) ∧ (∀ p ∈ qs, p ∈ rs) ∧ qs.length = rs.length := by
  have hp := sortL_perm (rs.map fun p => (.str p.1 : D))
  have go : ∀ (ds : List D), (∀ d ∈ ds, d ∈ rs.map fun p => (.str p.1 : D)) → ∃ qs : Rows, ds = qs.map (fun p => .str p.1) ∧ ∀ p ∈ qs, p ∈ rs := by
    intro ds
    induction ds with
    | nil => intro _; exact ⟨[], rfl, fun p h => by cases h⟩
    | cons d ds ih =>
      intro h
      obtain ⟨qs, e, hq⟩ := ih fun x hx => h x (by simp [hx])
      obtain ⟨p, hp, rfl⟩ := List.mem_map.mp (h d (by simp))
      exact ⟨p :: qs, by rw [e]; rfl, fun z hz => by
        rcases List.mem_cons.mp hz with rfl | hz
        · exact hp
        · exact hq z hz⟩
  obtain ⟨qs, e, hq⟩ := go _ fun d hd => hp.mem_iff.mp hd
  exact ⟨qs, e, hq, by have := hp.length_eq; rw [e] at this; simpa using this⟩
theorem sorted_L {rs : Rows} (ok : rs.Ok) {P : D → Prop} (hP : ∀ qs : Rows, (∀ p ∈ qs, p ∈ rs) → qs.length = rs.length → sortL (rs.map fun p => (.str p.1 : D)) = qs.map (fun p => .str p.1) → P (.list (qs.map fun p => .str p.1))) : sortedD (Fm rs fL) P := by
  obtain ⟨qs, e, hq, hl⟩ := sort_names rs
  unfold Fm
  have em : ((rs.filterMap fun p => (fL p.2).map fun d => (p.1, d)).map fun p => (.str p.1 : D)) = rs.map fun p => .str p.1 := by
    have : (rs.filterMap fun p => (fL p.2).map fun d => (p.1, d)) = rs.map fun p => (p.1, lnD p.2) := by
      simp only [fL, Option.map_some]
      rw [List.filterMap_eq_map']
    rw [this, List.map_map]; rfl
  refine sortedD_dS ?_ ?_
  · rw [em]
    have := sortable_strs (ks := rs.map (·.1)) fun k hk => by
      obtain ⟨p, hp, rfl⟩ := List.mem_map.mp hk
      exact ok.so p hp
    rw [List.map_map] at this
    exact this
  · rw [em, e]
    exact hP qs hq hl e
def worst (qs : Rows) : List D := qs.filterMap fun p => if dear p.2 then some (.str p.1) else none
theorem r_worst {rs qs : Rows} (ok : rs.Ok) (hs : sortL (rs.map fun p => (.str p.1 : D)) = qs.map (fun p => .str p.1)) (hq : ∀ p ∈ qs, p ∈ rs) (hl : qs.length = rs.length) : Ret (m_worst_lines (Fm rs fL) (Fm rs fD) (Fm rs fS)) (.tuple (worst qs)) := by
  intro P hP
  simp only [m_worst_lines, bind_run, pure_run]
  refine sorted_L ok fun qs' _ _ e' => ?_
  have ee : qs'.map (fun p => (.str p.1 : D)) = qs.map (fun p => .str p.1) := by rw [← e', hs]
  rw [ee]
  simp only [asS_list]
  refine fold_run (fun i s => s = .list (worst (qs.take i))) _ (by simp [worst]) (fun i hi s hs' Q hQ => ?_) fun s hs' => ?_
  · subst hs'
    have hi' : i < qs.length := by simpa using hi
    have hp : qs[i] ∈ rs := hq _ (List.getElem_mem hi')
    have hr := ok.ok _ hp
    have e : (qs.map fun p => (.str p.1 : D))[i] = .str qs[i].1 := by simp
    rw [e]
    simp only [bind_run, pure_run]
    refine r_earned_of ok hp _ ?_
    refine ⟨by unfold Fm; simp, ?_⟩
    simp only [bind_run, pure_run]
    rw [get_S ok hp]
    have e2 : (fS qs[i].2).getD (.int 0) = .int (qs[i].2.sp.getD 0) := by
      unfold fS
      cases qs[i].2.sp <;> rfl
    rw [e2, ← qD_int]
    have sb : 0 ≤ qs[i].2.sp.getD 0 ∧ qs[i].2.sp.getD 0 ≤ 8 := by
      cases h : qs[i].2.sp with
      | none => simp
      | some z => simpa using hr.sp z h
    refine r_is_less ((bq_earn hr).mono (by unfold big; omega)) ((bq_int (n := 8) (by omega) sb.2 (by omega)).mono (by unfold big; omega)) _ ?_
    simp only [truth_bool, cond_run]
    have et : worst (qs.take (i + 1)) = worst (qs.take i) ++ (if dear qs[i].2 then [.str qs[i].1] else []) := by
      unfold worst
      rw [List.take_succ_eq_append_getElem hi', List.filterMap_append]
      congr 1
      simp only [List.filterMap_cons, List.filterMap_nil]
      split <;> rename_i h <;> by_cases hd : dear qs[i].2 <;> simp_all
    constructor
    · intro h
      have hd : dear qs[i].2 := by unfold dear; simpa using h
      rw [if_pos hd] at et
      refine ⟨rfl, ?_⟩
      simp only [bind_run, pure_run, appD_list]
      refine ⟨?_, hQ _ (by rw [et])⟩
      have : (worst (qs.take i)).length ≤ (qs.take i).length := List.length_filterMap_le _ _
      have t2 : (qs.take i).length ≤ qs.length := by rw [List.length_take]; omega
      have := ok.ln
      omega
    · intro h
      have hd : ¬ dear qs[i].2 := by unfold dear; simpa using h
      rw [if_neg hd, List.append_nil] at et
      exact hQ _ (by rw [et])
  · subst hs'
    have e1 : qs.take (qs.map fun p => (.str p.1 : D)).length = qs := by simp
    rw [e1]
    exact hP
/-! ### a turn of the law -/
def fW (r : Row) : Option D := some (qD (earn r))
theorem ix_W {rs : Rows} (ok : rs.Ok) {p : Str × Row} (hp : p ∈ rs) {P : D → Prop} : ixD (Fm rs fW) (.str p.1) P = P (qD (earn p.2)) := by
  unfold Fm
  rw [ixD_dS, lookup_fm ok.nd hp]
  simp [fW]
theorem keys_W {rs : Rows} {P : List D → Prop} : keysD (Fm rs fW) P = P (rs.map fun p => .str p.1) := by
  unfold Fm
  rw [keysD_dS]
  have : (rs.filterMap fun p => (fW p.2).map fun d => (p.1, d)) = rs.map fun p => (p.1, qD (earn p.2)) := by
    simp only [fW, Option.map_some]
    rw [List.filterMap_eq_map']
  rw [this, List.map_map]
  rfl
abbrev st (rs : Rows) : D × D × D := (Fm rs fL, Fm rs fD, Fm rs fS)
section
variable {rs : Rows} (ok : rs.Ok)
include ok
theorem t_c3 : Ret (m_law_c3 (st rs) (Fm rs fW)) (Fl.nx ()) := by
  intro P hP
  obtain ⟨qs0, e0, hq0, hl0⟩ := sort_names rs
  simp only [m_law_c3, bind_run, pure_run]
  refine r_worst ok e0 hq0 hl0 _ ?_
  refine sorted_L ok fun qs hq hl e => ?_
  have ee : qs.map (fun p => (.str p.1 : D)) = qs0.map (fun p => .str p.1) := by rw [← e, e0]
  rw [ee]
  simp only [asS_list]
  refine filM_run (fun p => if dear p.2 then some (.str p.1) else none) (fun p hp Q hQ => ?_) ?_
  · have hp' := hq0 p hp
    have hr := ok.ok p hp'
    have he := (bq_earn hr).mono (show (32 : Int) ≤ big by unfold big; omega)
    have se := he.small1
    simp only [bind_run, pure_run]
    rw [ix_W ok hp']
    simp only [ixD_q0]
    rw [in_S ok hp']
    simp only [asB_bool]
    have fin : ∀ z : Int, p.2.sp.getD 0 = z → -8 ≤ z → z ≤ 8 → (ixD (Fm rs fW) (.str p.1) fun x => ixD x (.int 1) fun x => mulD (.int z) x fun x => ltD (.int (earn p.2).num) x fun z1076 => asB z1076 fun b => (bif b = true then ((M.pure (.str p.1 : D)).bind fun x => M.pure (some x)) else M.pure none) Q) := by
      intro z hz h1 h2
      rw [ix_W ok hp']
      simp only [ixD_q1, mulD_int, se, small_of (show -1000000000000000000000000000000 < z by omega) (by omega), and_self, true_and, ltD_int, asB_bool]
      have hd : decide ((earn p.2).num < z * ((earn p.2).den : Int)) = decide (dear p.2) := by
        refine decide_eq_decide.mpr ?_
        unfold dear
        rw [hz, Rat.lt_iff]
        simp
      rw [hd]
      by_cases h : dear p.2
      · simpa [h] using hQ
      · simpa [h] using hQ
    cases hs : p.2.sp with
    | none =>
      simp only [fS, hs, Option.map_none, Option.isSome_none, cond_f, pure_run]
      have := fin 0 (by rw [hs]; rfl) (by omega) (by omega)
      simpa using this
    | some z =>
      have hz := hr.sp z hs
      simp only [fS, hs, Option.map_some, Option.isSome_some, cond_t, bind_run, pure_run]
      rw [ix_S ok hp' (d := .int z) (by simp [fS, hs])]
      have := fin z (by rw [hs]; rfl) (by omega) (by omega)
      simpa using this
  · simp only [tupleD_list]
    refine neD_self ?_ ?_
    · rw [sh_tup, shA_all, List.all_eq_true]
      intro d hd
      obtain ⟨p, hp, e⟩ := List.mem_filterMap.mp hd
      split at e
      · cases e
        simpa [sh] using ok.so p (hq0 p hp)
      · cases e
    · simpa [m_law_c2] using hP
theorem t_c4 (day : Int) : Ret (m_law_c4 (st rs) (.int day) (qD (Wt rs)) (qD (Pl rs day)) (.int (Ct' rs)) (Fm rs fW)) (Fl.nx ()) := by
  intro P hP
  have sW := ((bq_W ok).mono (show (262144 : Int) ≤ big by unfold big; omega)).small1
  have sP := ((bq_P ok day).mono (show (262144 : Int) ≤ big by unfold big; omega)).small1
  have hc := Ct_bd ok
  have sC : small (Ct' rs) := small_of (by omega) (by omega)
  simp only [m_law_c4, bind_run, pure_run]
  refine r_behind ok day _ ?_
  simp only [ixD_q0, ixD_q1, mulD_int, sW, sP, and_self, true_and, ltD_int]
  rw [← decide_eq_decide.mpr (Rat.lt_iff (Wt rs) (Pl rs day))]
  refine neD_self (by simp) ?_
  simp only [asB_bool, cond_f, bind_run, pure_run]
  refine r_over_ ok _ ?_
  simp only [ixD_q0, ixD_q1, mulD_int, sW, sC, and_self, true_and, ltD_int]
  have e : decide ((Wt rs).num < Ct' rs * ((Wt rs).den : Int)) = decide (Wt rs < (Ct' rs : Rat)) := by
    refine decide_eq_decide.mpr ?_
    rw [Rat.lt_iff]
    simp
  rw [e]
  refine neD_self (by simp) ?_
  simp only [asB_bool, cond_f]
  exact t_c3 ok P hP
theorem t_c5 (day : Int) : Ret (m_law_c5 (.int (La rs)) (st rs) (qD (Wt rs)) (.int day) (qD (Pl rs day)) (.int (Ct' rs)) (Fm rs fW)) (Fl.nx ()) := by
  intro P hP
  have hb := La_bd ok
  have sW := ((bq_W ok).mono (show (262144 : Int) ≤ big by unfold big; omega)).small1
  simp only [m_law_c5, bind_run, pure_run, addD_int, asI_int]
  refine rngD_run (by omega) (by omega) (by omega) (by omega) (by omega) ?_
  unfold rangeD
  refine filM_run (fun (i : Nat) => if okDay rs i then some (.int (i : Int)) else none) (fun i hi Q hQ => ?_) ?_
  · simp only [bind_run, pure_run, Int.zero_add]
    refine r_law_planned ok _ _ ?_
    have sP := ((bq_P ok (i : Int)).mono (show (262144 : Int) ≤ big by unfold big; omega)).small1
    simp only [ixD_q0, ixD_q1, mulD_int, sW, sP, and_self, true_and]
    refine r_law_planned ok _ _ ?_
    simp only [ixD_q0, ixD_q1, mulD_int, sW, sP, and_self, true_and, geD_int, asB_bool]
    have e : decide ((Wt rs).num * ((Pl rs (i : Int)).den : Int) ≤ (Pl rs (i : Int)).num * ((Wt rs).den : Int)) = decide (okDay rs i) := by
      refine decide_eq_decide.mpr ?_
      unfold okDay
      rw [Rat.not_lt, Rat.le_iff]
    rw [e]
    by_cases h : okDay rs i
    · simpa [h] using hQ
    · simpa [h] using hQ
  · have hlast : okDay rs (La rs).toNat := by
      unfold okDay
      rw [Rat.not_lt]
      have e : (((La rs).toNat : Nat) : Int) = La rs := by omega
      rw [e]
      exact W_le_last ok
    obtain ⟨k, k1, k2, k3⟩ := first_day (okDay rs) _ hlast
    obtain ⟨r, er⟩ := filter_first (okDay rs) (fun i => (.int (i : Int) : D)) k2 k3 (La rs + 1 - 0).toNat (by omega)
    rw [er]
    refine r_earned_day ok k2 k3 _ ?_
    simp only [ixD_list, atI_0, opt_some]
    refine neD_self (by simp) ?_
    simp only [asB_bool, cond_f]
    exact t_c4 ok day P hP
theorem t_c6 (day : Int) : Ret (m_law_c6 (st rs) (qD (Wt rs)) (.int day) (qD (Pl rs day)) (.int (Ct' rs)) (Fm rs fW)) (Fl.nx ()) := by
  intro P hP
  have hb := La_bd ok
  have hl := r_last ok (fun last => ((M.pure last).bind fun last_ => ((m_curve (Fm rs fL)).bind fun x971 => ((((M.pure last_).bind fun x962 => (asI x962).bind fun i963 => rngD 0 i963).bind fun l966 => (M.mapM (fun x965 => (M.pure x965).bind fun a964 => (M.pure (Fm rs fL)).bind fun x968 => (M.pure a964).bind fun x969 => m__law_planned x968 x969) l966).bind fun l967 => M.pure (.list l967)).bind fun x970 => tupleD x970).bind fun x972 => (neD x971 x972).bind fun z973 => asB z973).bind fun b974 => bif b974 then ((M.pure (.bool false)).bind fun r1087 => M.pure (Fl.rt r1087)) else m_law_c5 last_ (st rs) (qD (Wt rs)) (.int day) (qD (Pl rs day)) (.int (Ct' rs)) (Fm rs fW)) P) ?_
  · simp only [m_last_end, bind_run, pure_run] at hl
    simp only [m_law_c6, bind_run, pure_run]
    exact hl
  · simp only [bind_run, pure_run]
    refine r_curve ok _ ?_
    simp only [asI_int]
    refine rngD_run (by omega) (by omega) (by omega) (by omega) (by omega) ?_
    unfold rangeD
    refine mapM_run (fun (i : Nat) => qD (Pl rs (0 + (i : Int)))) (fun i hi Q hQ => ?_) ?_
    · simp only [bind_run, pure_run]
      exact r_law_planned ok _ Q hQ
    · rw [Int.sub_zero]
      simp only [tupleD_list]
      refine neD_self ?_ ?_
      · rw [sh_tup]
        exact shA_map fun i _ => sh_qD _ 14
      · simp only [asB_bool, cond_f]
        exact t_c5 ok day P hP
end
theorem foldF_unit {α : Type} {f : Unit → α → M (Fl Unit Unit)} {xs : List α} {P : Fl Unit Empty → Prop} (h : ∀ x ∈ xs, Ret (f () x) (Fl.nx ())) (hP : P (.nx ())) : M.foldF f () xs P := by
  induction xs with
  | nil => exact hP
  | cons x xs ih =>
    refine h x (by simp) _ ?_
    exact ih fun y hy => h y (by simp [hy])
section
variable {rs : Rows} (ok : rs.Ok)
include ok
theorem t_c7 (day limit : Int) (h1 : 0 ≤ limit) (h2 : limit ≤ 30) : Ret (m_law_c7 (st rs) (.int limit) (.int (Ct' rs)) (qD ((Bu rs : Rat) - Wt rs)) (qD (Wt rs)) (.int day) (qD (Pl rs day)) (Fm rs fW)) (Fl.nx ()) := by
  intro P hP
  have hc := Ct_bd ok
  simp only [m_law_c7, bind_run, pure_run]
  refine r_needed ok limit (by omega) (by omega) _ ?_
  simp only [gtD_int, asB_bool, cond_run, bind_run, pure_run, subD_int]
  constructor
  · intro h
    have h' : Ct' rs < limit := by simpa using h
    rw [← qD_int]
    have hp : (0 : Rat) < ((limit - Ct' rs : Int) : Rat) := Rat.intCast_pos.mpr (by omega)
    refine r_by ((bq_left ok).mono (by unfold big; omega)) ((bq_int (n := 2000) (by omega) (by omega) (by omega)).mono (by unfold big; omega)) (Rat.le_of_lt hp) _ ?_
    rw [if_pos (by omega), byO_neg (Ne.symm (Rat.ne_of_lt hp))]
    refine neD_self (sh16_q _) ?_
    simp only [asB_bool, Bool.false_eq_true, false_implies, true_implies, true_and]
    exact t_c6 ok day P hP
  · intro h
    have h' : ¬ Ct' rs < limit := by simpa using h
    rw [if_neg (by omega)]
    refine neD_self (by simp) ?_
    simp only [asB_bool, Bool.false_eq_true, false_implies, true_implies, true_and]
    exact t_c6 ok day P hP
theorem both_ok (day limit : Int) (h1 : 0 ≤ limit) (h2 : limit ≤ 30) {P : Fl Unit Unit → Prop} (hP : P (Fl.nx ())) : m_forecast (Fm rs fL) (Fm rs fD) (Fm rs fS) (.int day) (.str "both") fun x => neD x (fcB rs day) fun x => asB x fun x =>
    (x = true → P (Fl.rt (.bool false))) ∧ (x = false → m_law_c7 (st rs) (.int limit) (.int (Ct' rs)) (qD ((Bu rs : Rat) - Wt rs)) (qD (Wt rs)) (.int day) (qD (Pl rs day)) (Fm rs fW) P) := by
  refine r_fc_both ok day _ ?_
  refine neD_self ?_ ?_
  · unfold fcB
    split
    · simp
    · exact sh16_q _
  · simp only [asB_bool, Bool.false_eq_true, false_implies, true_implies, true_and]
    exact t_c7 ok day limit h1 h2 P hP
theorem t_c8 (day limit : Int) (h1 : 0 ≤ limit) (h2 : limit ≤ 30) : Ret (m_law_c8 (byO (Wt rs) (Ct' rs)) (byO (Wt rs) (Pl rs day)) (.int (Ct' rs)) (qD ((Bu rs : Rat) - Wt rs)) (st rs) (.int day) (.int limit) (qD (Wt rs)) (qD (Pl rs day)) (Fm rs fW)) (Fl.nx ()) := by
  intro P hP
  have fin := both_ok ok day limit h1 h2 hP
  simp only [m_law_c8, bind_run, pure_run]
  by_cases hC : (Ct' rs : Rat) = 0
  · rw [byO_pos hC]
    simp only [isnD_none, asB_bool, cond_f, pure_run, cond_run, Bool.false_eq_true, false_implies, true_implies, true_and, bind_run]
    simpa [fcB, hC] using fin
  · have hb := bq_idx ok hC
    rw [byO_neg hC]
    simp only [isnD_q, asB_bool, cond_t, bind_run, pure_run]
    by_cases hp : Pl rs day = 0
    · rw [byO_pos hp]
      simp only [isnD_none, asB_bool, cond_f, pure_run, cond_run, Bool.false_eq_true, false_implies, true_implies, true_and, bind_run]
      simpa [fcB, hC, hp] using fin
    · have hq := bq_pace ok hp
      rw [byO_neg hp]
      simp only [isnD_q, asB_bool, cond_t, bind_run, pure_run, ixD_q0, gtD_int]
      by_cases hn : Wt rs / Ct' rs = 0
      · have e0 : decide (0 < (Wt rs / (Ct' rs : Rat)).num) = false := by rw [hn]; rfl
        rw [e0]
        simp only [cond_f, pure_run, cond_run, Bool.false_eq_true, false_implies, true_implies, true_and, bind_run]
        simpa [fcB, hC, hp, hn] using fin
      · have n1 := num_pos hb.2 hn
        rw [decide_eq_true n1]
        simp only [cond_t, bind_run, pure_run, ixD_q0, gtD_int, asB_bool]
        by_cases hm : Wt rs / Pl rs day = 0
        · have e0 : decide (0 < (Wt rs / Pl rs day).num) = false := by rw [hm]; rfl
          rw [e0]
          simp only [cond_f, pure_run, cond_run, Bool.false_eq_true, false_implies, true_implies, true_and, bind_run]
          simpa [fcB, hC, hp, hn, hm] using fin
        · have n2 := num_pos hq.2 hm
          rw [decide_eq_true n2]
          have bl := bq_left ok
          generalize hx : (Bu rs : Rat) - Wt rs = x at *
          generalize hy : Wt rs / Ct' rs = y at *
          generalize hz : Wt rs / Pl rs day = z at *
          have sx := (bl.mono (show (12582912 : Int) ≤ big by unfold big; omega)).small1
          have sy := (hb.1.mono (show (6291456 : Int) ≤ big by unfold big; omega)).small1
          have sz := (hq.1.mono (show (68719476736 : Int) ≤ big by unfold big; omega)).small1
          have dx := x.den_pos; have dy := y.den_pos; have dz := z.den_pos
          have k1 := mul_bd bl.1 bl.2.1 (b := (y.den : Int)) (m := 6291456) (by omega) hb.1.2.2
          have k2 := mul_bd (a := (x.den : Int)) (n := 12582912) (by omega) bl.2.2 (b := y.num) (m := 6291456) hb.1.1 hb.1.2.1
          have k3 := mul_bd k2.1 k2.2 (b := z.num) (m := 68719476736) hq.1.1 hq.1.2.1
          have p1 : 0 < (x.den : Int) * y.num := Int.mul_pos (by omega) n1
          have p2 : 0 < (x.den : Int) * y.num * z.num := Int.mul_pos p1 n2
          have q1 : small (x.num * (y.den : Int)) := small_of (by omega) (by omega)
          have q2 : small ((x.den : Int) * y.num) := small_of (by omega) (by omega)
          simp only [cond_t, bind_run, pure_run, ixD_q0, ixD_q1, mulD_int]
          refine ⟨⟨sx.1, sy.2⟩, ⟨q1, sz.2⟩, ⟨sx.2, sy.1⟩, ⟨q2, sz.1⟩, ?_⟩
          refine r_part p2 (small_of (by omega) (by omega)) _ ?_
          have e : Rat.divInt (x.num * y.den * z.den) (x.den * y.num * z.num) = x / (y * z) := by
            rw [← Rat.divInt_mul_divInt, ← Rat.divInt_mul_divInt, Rat.num_divInt_den, Rat.div_def, Rat.inv_mul_rev, Rat.inv_def y, Rat.inv_def z, Rat.mul_assoc, Rat.mul_comm (Rat.divInt _ y.num)]
          rw [e]
          have hpos := Rat.mul_pos (rat_pos hb.2 hn) (rat_pos hq.2 hm)
          have hbm := bq_div bl (bq_mul hb.1 hq.1) hpos
          have hc := Ct_bd ok
          have hadd := r_add (rs := [(Ct' rs, 1), ((x / (y * z)).num, ((x / (y * z)).den : Int))]) (.cons (n := 24) (by omega) (by omega) (by omega) (by omega) (.cons (n := 12582912 * (6291456 * 68719476736)) (by have := (x / (y * z)).den_pos; omega) hbm.2.2 hbm.1 hbm.2.1 .nil)) (by unfold big; omega)
          refine hadd _ ?_
          have es : sumP [(Ct' rs, 1), ((x / (y * z)).num, ((x / (y * z)).den : Int))] = (Ct' rs : Rat) + x / (y * z) := by
            simp only [sumP, List.map_cons, List.map_nil, List.sum_cons, List.sum_nil, Rat.num_divInt_den, Rat.add_zero]
            rw [show Rat.divInt (Ct' rs) 1 = (Ct' rs : Rat) from Rat.num_divInt_den (Ct' rs : Rat)]
          rw [es]
          simp only [cond_run]
          have ef : fcB rs day = qD ((Ct' rs : Rat) + x / (y * z)) := by
            unfold fcB
            rw [hx, hy, hz, if_neg (by simp [hC, hn, hp, hm])]
          rw [ef] at fin
          exact fin
end
theorem dI1 (i : Int) : Rat.divInt i 1 = (i : Rat) := Rat.num_divInt_den (i : Rat)
section
variable {rs : Rows} (ok : rs.Ok)
include ok
theorem t_c9 (day limit : Int) (h1 : 0 ≤ limit) (h2 : limit ≤ 30) : Ret (m_law_c9 (byO (Wt rs) (Ct' rs)) (.int (Bu rs)) (st rs) (.int day) (byO (Wt rs) (Pl rs day)) (.int (Ct' rs)) (qD ((Bu rs : Rat) - Wt rs)) (.int limit) (qD (Wt rs)) (qD (Pl rs day)) (Fm rs fW)) (Fl.nx ()) := by
  intro P hP
  have fin : m_forecast (Fm rs fL) (Fm rs fD) (Fm rs fS) (.int day) (.str "index") fun x => neD x (fcI rs) fun x => asB x fun x => (x = true → P (Fl.rt (.bool false))) ∧ (x = false → m_law_c8 (byO (Wt rs) (Ct' rs)) (byO (Wt rs) (Pl rs day)) (.int (Ct' rs)) (qD ((Bu rs : Rat) - Wt rs)) (st rs) (.int day) (.int limit) (qD (Wt rs)) (qD (Pl rs day)) (Fm rs fW) P) := by
    refine r_fc_index ok day _ ?_
    refine neD_self ?_ ?_
    · unfold fcI byO
      split
      · simp
      · split
        · simp
        · exact sh16_q _
    · simp only [asB_bool, Bool.false_eq_true, false_implies, true_implies, true_and]
      exact t_c8 ok day limit h1 h2 P hP
  simp only [m_law_c9, bind_run, pure_run]
  by_cases hC : (Ct' rs : Rat) = 0
  · have e : fcI rs = .none := by simp [fcI, hC]
    rw [e] at fin
    rw [byO_pos hC] at fin ⊢
    simp only [isnD_none, asB_bool, cond_run, pure_run, Bool.false_eq_true, false_implies, true_implies, true_and, bind_run]
    exact fin
  · have hb := bq_idx ok hC
    have e : fcI rs = byO (Bu rs) (Wt rs / Ct' rs) := by simp [fcI, hC]
    rw [e] at fin
    rw [byO_neg hC] at fin ⊢
    simp only [isnD_q, asB_bool, cond_run, pure_run, Bool.true_eq_false, false_implies, true_implies, and_true, bind_run]
    rw [← qD_int]
    exact r_by ((bq_U ok).mono (by unfold big; omega)) (hb.1.mono (by unfold big; omega)) hb.2 _ fin
theorem t_c10 (day limit : Int) (h1 : 0 ≤ limit) (h2 : limit ≤ 30) : Ret (m_law_c10 (st rs) (.int day) (.int (Ct' rs)) (qD ((Bu rs : Rat) - Wt rs)) (byO (Wt rs) (Ct' rs)) (.int (Bu rs)) (byO (Wt rs) (Pl rs day)) (.int limit) (qD (Wt rs)) (qD (Pl rs day)) (Fm rs fW)) (Fl.nx ()) := by
  intro P hP
  have hc := Ct_bd ok
  have bl := bq_left ok
  simp only [m_law_c10, bind_run, pure_run]
  refine r_fc_plan ok day _ ?_
  have hadd := r_add (rs := [(Ct' rs, 1), (((Bu rs : Rat) - Wt rs).num, (((Bu rs : Rat) - Wt rs).den : Int))]) (.cons (n := 24) (by omega) (by omega) (by omega) (by omega) (.cons (n := 12582912) (by have := ((Bu rs : Rat) - Wt rs).den_pos; omega) bl.2.2 bl.1 bl.2.1 .nil)) (by unfold big; omega)
  refine hadd _ ?_
  have es : sumP [(Ct' rs, 1), (((Bu rs : Rat) - Wt rs).num, (((Bu rs : Rat) - Wt rs).den : Int))] = (Ct' rs : Rat) + ((Bu rs : Rat) - Wt rs) := by
    simp only [sumP, List.map_cons, List.map_nil, List.sum_cons, List.sum_nil, Rat.num_divInt_den, Rat.add_zero, dI1]
  rw [es]
  refine neD_self (sh16_q _) ?_
  simp only [asB_bool, cond_f]
  exact t_c9 ok day limit h1 h2 P hP
theorem t_c11 (day limit : Int) (h1 : 0 ≤ limit) (h2 : limit ≤ 30) : Ret (m_law_c11 (qD (Wt rs)) (.int (Ct' rs)) (qD (Pl rs day)) (st rs) (.int day) (qD ((Bu rs : Rat) - Wt rs)) (.int (Bu rs)) (.int limit) (Fm rs fW)) (Fl.nx ()) := by
  intro P hP
  have sh_by : ∀ x y : Rat, sh 16 (byO x y) = true := fun x y => by
    unfold byO
    split
    · simp
    · exact sh16_q _
  simp only [m_law_c11, bind_run, pure_run]
  rw [← qD_int]
  refine r_by ((bq_W ok).mono (by unfold big; omega)) ((bq_C ok).mono (by unfold big; omega)) (C0 ok) _ ?_
  refine r_by ((bq_W ok).mono (by unfold big; omega)) ((bq_P ok day).mono (by unfold big; omega)) (P0 ok day) _ ?_
  refine r_cost_index ok _ ?_
  refine neD_self (sh_by _ _) ?_
  simp only [asB_bool, cond_f, bind_run, pure_run]
  refine r_time_index ok day _ ?_
  refine neD_self (sh_by _ _) ?_
  simp only [asB_bool, cond_f]
  exact t_c10 ok day limit h1 h2 P hP
end
theorem pairsD_strs (es : List (Str × D)) : pairsD (es.map fun p => (.tuple [.str p.1, p.2] : D)) = some (es.map fun p => (.str p.1, p.2)) := by
  induction es with
  | nil => rfl
  | cons p es ih =>
    rw [List.map_cons, List.map_cons]
    show (if kD (.str p.1) = true then (pairsD _).map _ else none) = _
    rw [ih]; rfl
theorem mergeD_new : ∀ (es acc : List (Str × D)), ((acc ++ es).map (·.1)).Nodup → mergeD (acc.map fun p => ((.str p.1 : D), p.2)) (es.map fun p => (.str p.1, p.2)) = (acc ++ es).map fun p => (.str p.1, p.2)
  | [], acc, _ => by simp [mergeD]
  | p :: es, acc, nd => by
    have h : p.1 ∉ acc.map (·.1) := by
      rw [List.map_append, List.nodup_append] at nd
      intro hm
      exact nd.2.2 _ hm _ (by simp) rfl
    show mergeD (putD (acc.map fun p => ((.str p.1 : D), p.2)) (.str p.1) p.2) (es.map fun p => (.str p.1, p.2)) = _
    rw [putD_dS h]
    have := mergeD_new es (acc ++ [(p.1, p.2)]) (by simpa using nd)
    rw [this]
    simp
theorem dictD_dS {es : List (Str × D)} (nd : (es.map (·.1)).Nodup) {P : D → Prop} (h : P (dS es)) : dictD (.list (es.map fun p => .tuple [.str p.1, p.2])) P := by
  refine ⟨_, pairsD_strs es, ?_⟩
  have := mergeD_new es [] (by simpa using nd)
  show P (.dict (mergeD [] _))
  rw [show ([] : List (D × D)) = ([] : List (Str × D)).map fun p => ((.str p.1 : D), p.2) from rfl, this]
  exact h
theorem sub_same {x : Rat} {i : Int} : sumP [(i, 1), (0 - x.num, (x.den : Int))] = (i : Rat) - x := by
  simp only [sumP, List.map_cons, List.map_nil, List.sum_cons, List.sum_nil, Rat.add_zero, dI1]
  rw [Int.zero_sub, ← Rat.neg_divInt, Rat.num_divInt_den, Rat.sub_eq_add_neg]
section
variable {rs : Rows} (ok : rs.Ok)
include ok
theorem t_r12 : Ret (m_law_r12 (st rs)) (Fl.nx ()) := by
  intro P hP
  simp only [m_law_r12, bind_run, pure_run]
  refine draw_run (by omega) fun day d0 d1 => ?_
  refine draw_run (by omega) fun limit l0 l1 => ?_
  rw [keys_L]
  refine mapM_run (fun p => .tuple [.str p.1, qD (earn p.2)]) (fun p hp Q hQ => ?_) ?_
  · have hr := ok.ok p hp
    have u0 := hr.u0; have u1 := hr.u1
    simp only [bind_run, pure_run]
    rw [in_D ok hp]
    simp only [asB_bool, cond_run, bind_run, pure_run]
    cases hd : p.2.dn with
    | none =>
      have e : earn p.2 = 0 := by simp [earn, hd]
      rw [e] at hQ
      simp only [fD, hd, Option.map_none, Option.isSome_none, Bool.false_eq_true, false_implies, true_implies, true_and]
      exact hQ
    | some q =>
      have hq := hr.dn q hd
      simp only [fD, hd, Option.map_some, Option.isSome_some, Bool.true_eq_false, false_implies, true_implies, and_true]
      rw [ix_L ok hp]
      have eD : ∀ P : D → Prop, ixD (Fm rs fD) (.str p.1) P = P (qD q) := fun P => ix_D ok hp (by simp [fD, hd])
      simp only [lnD, ixD_tup, atI_2, opt_some]
      rw [eD]
      simp only [ixD_q0, mulD_int]
      have b := hq.2.2
      have b1 := b.1; have b2 := b.2.1; have b3 := b.2.2
      have dp := q.den_pos
      refine ⟨⟨small_of (by omega) (by omega), small_of (by omega) (by omega)⟩, ?_⟩
      rw [eD]
      simp only [ixD_q1]
      refine r_part (by omega) (small_of (by omega) (by omega)) _ ?_
      have e : Rat.divInt (p.2.u * q.num) q.den = earn p.2 := by
        have : (p.2.u : Rat) * q = Rat.divInt (p.2.u * q.num) (1 * (q.den : Int)) := by
          rw [← Rat.divInt_mul_divInt, dI1, Rat.num_divInt_den]
        simp only [earn, hd, Option.getD_some]
        rw [this, Int.one_mul]
      rw [e]
      exact hQ
  have em : rs.map (fun p => (.tuple [.str p.1, qD (earn p.2)] : D)) = (rs.filterMap fun p => (fW p.2).map fun d => (p.1, d)).map fun p => (.tuple [.str p.1, p.2] : D) := by
    have : (rs.filterMap fun p => (fW p.2).map fun d => (p.1, d)) = rs.map fun p => (p.1, qD (earn p.2)) := by
      simp only [fW, Option.map_some]
      rw [List.filterMap_eq_map']
    rw [this, List.map_map]; rfl
  rw [em]
  refine dictD_dS (fm_nodup ok.nd) ?_
  show keysD (Fm rs fW) _
  rw [keys_W]
  refine mapM_run (fun p => pR ((earn p.2).num, ((earn p.2).den : Int))) (fun p hp Q hQ => ?_) ?_
  · show (M.pure _).bind _ Q
    simp only [bind_run, pure_run]
    have := ix_W ok hp (P := Q)
    unfold Fm at this
    rw [this]
    exact hQ
  have em2 : rs.map (fun p => pR ((earn p.2).num, ((earn p.2).den : Int))) = (rs.map fun p => ((earn p.2).num, ((earn p.2).den : Int))).map pR := by rw [List.map_map]; rfl
  rw [em2]
  have hW : sumP (rs.map fun p => ((earn p.2).num, ((earn p.2).den : Int))) = Wt rs := by
    unfold sumP Wt
    rw [List.map_map]
    congr 1
    refine List.map_congr_left fun p _ => ?_
    exact Rat.num_divInt_den _
  have p64 : (2 * 32 : Int) ^ (rs.map fun p => ((earn p.2).num, ((earn p.2).den : Int))).length ≤ big := by
    rw [List.length_map]
    have := ok.ln
    have h4 : rs.length = 0 ∨ rs.length = 1 ∨ rs.length = 2 ∨ rs.length = 3 := by omega
    rcases h4 with e | e | e | e <;> rw [e] <;> decide
  refine r_add (bd_all (n := 32) (by omega) _ fun r hr => ?_) p64 _ ?_
  · obtain ⟨p, hp, rfl⟩ := List.mem_map.mp hr
    have b := bq_earn (ok.ok p hp)
    have := (earn p.2).den_pos
    exact ⟨by show (0 : Int) < ((earn p.2).den : Int); omega, b.2.2, b.1, b.2.1⟩
  rw [hW]
  refine r_law_planned ok day _ ?_
  refine r_sumS ok ?_
  rw [keys_L]
  refine mapM_run (fun p => .int p.2.u) (fun p hp Q hQ => ?_) ?_
  · simp only [bind_run, pure_run]
    rw [ix_L ok hp]
    simp only [lnD, ixD_tup, atI_2, opt_some]
    exact hQ
  have em3 : rs.map (fun p => (.int p.2.u : D)) = (rs.map fun p => p.2.u).map .int := by rw [List.map_map]; rfl
  rw [em3]
  refine sumD_ints ?_
  simp only [ixD_q0, ixD_q1, subD_int]
  have bW := bq_W ok
  have hu := Bu_bd ok
  have hadd := r_add (rs := [(Bu rs, 1), (0 - (Wt rs).num, ((Wt rs).den : Int))]) (.cons (n := 24) (by omega) (by omega) (by omega) (by omega) (.cons (n := 262144) (by have := (Wt rs).den_pos; omega) bW.2.2 (by have := bW.2.1; omega) (by have := bW.1; omega) .nil)) (by unfold big; omega)
  refine hadd _ ?_
  rw [sub_same]
  refine r_planned_at ok day _ ?_
  refine neD_self (sh16_q _) ?_
  simp only [asB_bool, cond_f, bind_run, pure_run]
  refine r_earned ok _ ?_
  refine neD_self (sh16_q _) ?_
  simp only [asB_bool, cond_f, bind_run, pure_run]
  refine r_cost ok _ ?_
  refine neD_self (by simp) ?_
  simp only [asB_bool, cond_f, bind_run, pure_run]
  refine r_budget ok _ ?_
  refine neD_self (by simp) ?_
  simp only [asB_bool, cond_f]
  exact t_c11 ok day limit l0 (by omega) P hP
end
theorem Fm_snoc (rs : Rows) (n : Str) (r : Row) (f : Row → Option D) : Fm (rs ++ [(n, r)]) f = match f r with | some d => dS ((rs.filterMap fun p => (f p.2).map fun d => (p.1, d)) ++ [(n, d)]) | none => Fm rs f := by
  unfold Fm
  rw [List.filterMap_append]
  cases h : f r with
  | none => simp [h]
  | some d => simp [h]
theorem put_Fm {rs : Rows} {n : Str} {r : Row} {f : Row → Option D} {d : D} {P : D → Prop} (hn : n ∉ rs.map (·.1)) (hl : rs.length ≤ 3) (hf : f r = some d) (hP : P (Fm (rs ++ [(n, r)]) f)) : dputD (Fm rs f) (.str n) d P := by
  rw [Fm_snoc, hf] at hP
  refine dputD_dS (fun hm => hn ?_) ?_ hP
  · rw [List.mem_map] at hm ⊢
    obtain ⟨z, hz, e2⟩ := hm
    obtain ⟨y, hy, e3⟩ := List.mem_filterMap.mp hz
    obtain ⟨d, _, rfl⟩ := Option.map_eq_some_iff.mp e3
    exact ⟨y, hy, e2⟩
  · have := List.length_filterMap_le (fun p : Str × Row => (f p.2).map fun d => (p.1, d)) rs
    omega
theorem keep_Fm {rs : Rows} {n : Str} {r : Row} {f : Row → Option D} (hf : f r = none) : Fm (rs ++ [(n, r)]) f = Fm rs f := by rw [Fm_snoc, hf]
theorem Rows.Ok.snoc {rs : Rows} (ok : rs.Ok) {n : Str} {r : Row} (hn : n ∉ rs.map (·.1)) (hl : rs.length ≤ 2) (hs : PyData.strOk n = true) (hr : r.Ok) : Rows.Ok (rs ++ [(n, r)]) where
  nd := by
    rw [List.map_append, List.nodup_append]
    refine ⟨ok.nd, by simp, fun a ha b hb => ?_⟩
    simp at hb
    subst hb
    intro e
    exact hn (e ▸ ha)
  ln := by simp; omega
  so := fun p hp => by
    rcases List.mem_append.mp hp with h | h
    · exact ok.so p h
    · simp at h; subst h; exact hs
  ok := fun p hp => by
    rcases List.mem_append.mp hp with h | h
    · exact ok.ok p h
    · simp at h; subst h; exact hr
theorem t_b1 {rs : Rows} (ok : rs.Ok) {n : Str} (hn : n ∉ rs.map (·.1)) (hl : rs.length ≤ 2) (hs : PyData.strOk n = true) {Q : D × D × D → Prop} (hQ : ∀ r : Row, r.Ok → Q (st (rs ++ [(n, r)]))) : m_law_b1 (st rs) (.str n) Q := by
  simp only [m_law_b1, bind_run, pure_run]
  refine draw_run (by omega) fun b b0 b1 => ?_
  refine draw_run (by omega) fun d d0 d1 => ?_
  simp only [addD_int]
  refine draw_run (by omega) fun u u0 u1 => ?_
  -- what is told of the money
  have spent : ∀ dn : Option Rat, (∀ q, dn = some q → 0 ≤ q ∧ q ≤ 1 ∧ Bq 4 q) → m__law_next (.int 3) fun x => gtD x (.int 0) fun x => asB x fun x => (x = true → m__law_next (.int 9) fun z => dputD (Fm rs fS) (.str n) z fun z => Q (Fm (rs ++ [(n, ⟨b, 1 + d, u, none, none⟩)]) fL, Fm (rs ++ [(n, ⟨b, 1 + d, u, dn, none⟩)]) fD, z)) ∧ (x = false → Q (Fm (rs ++ [(n, ⟨b, 1 + d, u, none, none⟩)]) fL, Fm (rs ++ [(n, ⟨b, 1 + d, u, dn, none⟩)]) fD, Fm rs fS)) := by
    intro dn hdn
    refine draw_run (by omega) fun c c0 c1 => ?_
    simp only [gtD_int, asB_bool]
    refine ⟨fun _ => ?_, fun _ => ?_⟩
    · refine draw_run (by omega) fun s s0 s1 => ?_
      refine put_Fm (r := ⟨b, 1 + d, u, dn, some s⟩) hn (by omega) rfl ?_
      have h := hQ ⟨b, 1 + d, u, dn, some s⟩ ⟨b0, by show b ≤ 3; omega, by show 1 ≤ 1 + d; omega, by show 1 + d ≤ 4; omega, u0, by show u ≤ 8; omega, hdn, fun z e => by cases e; exact ⟨s0, by omega⟩⟩
      have e1 : Fm (rs ++ [(n, (⟨b, 1 + d, u, dn, some s⟩ : Row))]) fL = Fm (rs ++ [(n, ⟨b, 1 + d, u, none, none⟩)]) fL := by rw [Fm_snoc, Fm_snoc]; rfl
      have e2 : Fm (rs ++ [(n, (⟨b, 1 + d, u, dn, some s⟩ : Row))]) fD = Fm (rs ++ [(n, ⟨b, 1 + d, u, dn, none⟩)]) fD := by rw [Fm_snoc, Fm_snoc]; rfl
      unfold st at h
      rw [e1, e2] at h
      exact h
    · have h := hQ ⟨b, 1 + d, u, dn, none⟩ ⟨b0, by show b ≤ 3; omega, by show 1 ≤ 1 + d; omega, by show 1 + d ≤ 4; omega, u0, by show u ≤ 8; omega, hdn, fun z e => by cases e⟩
      have e1 : Fm (rs ++ [(n, (⟨b, 1 + d, u, dn, none⟩ : Row))]) fL = Fm (rs ++ [(n, ⟨b, 1 + d, u, none, none⟩)]) fL := by rw [Fm_snoc, Fm_snoc]; rfl
      have e3 : Fm (rs ++ [(n, (⟨b, 1 + d, u, dn, none⟩ : Row))]) fS = Fm rs fS := keep_Fm rfl
      unfold st at h
      rw [e1, e3] at h
      exact h
  refine put_Fm (r := ⟨b, 1 + d, u, none, none⟩) hn (by omega) rfl ?_
  refine draw_run (by omega) fun c c0 c1 => ?_
  simp only [gtD_int, asB_bool, cond_run, bind_run, pure_run]
  refine ⟨fun _ => ?_, fun _ => ?_⟩
  · refine draw_run (by omega) fun l l0 l1 => ?_
    simp only [addD_int]
    refine draw_run (by omega) fun q q0 q1 => ?_
    refine r_part (by omega) (small_of (by omega) (by omega)) _ ?_
    have hq : ∀ z, some (Rat.divInt q (1 + l)) = some z → 0 ≤ z ∧ z ≤ 1 ∧ Bq 4 z := by
      intro z e
      cases e
      refine ⟨Rat.divInt_nonneg q0 (by omega), ?_, bq_divInt (by omega) (by omega) (by omega) (by omega)⟩
      have e1 : (1 : Rat) = Rat.divInt (1 + l) (1 + l) := (Rat.divInt_self' (by omega)).symm
      rw [e1, Rat.le_iff_sub_nonneg, Rat.divInt_sub_divInt _ _ (by omega) (by omega)]
      refine Rat.divInt_nonneg ?_ (Int.mul_nonneg (by omega) (by omega))
      rw [← Int.sub_mul]
      exact Int.mul_nonneg (by omega) (by omega)
    refine put_Fm (r := ⟨b, 1 + d, u, some (Rat.divInt q (1 + l)), none⟩) hn (by omega) rfl ?_
    exact spent _ hq
  · have := spent none fun q e => by cases e
    rw [keep_Fm (f := fD) (by rfl)] at this
    exact this
def nms : List Str := ["dig", "ask", "fix"]
theorem cut_take (xs : List D) (k : Nat) : Wp.cutD xs none (some (k : Int)) = xs.take k := by
  unfold Wp.cutD
  rw [HT.sIx_none, HT.sIx_nat]
  simp only [List.drop_zero, Nat.sub_zero]
  by_cases h : k ≤ xs.length
  · rw [Nat.min_eq_left h]
  · rw [Nat.min_eq_right (by omega), List.take_length, List.take_of_length_le (by omega)]
theorem t_b13 (a : D) : Ret (m_law_b13 () a) (Fl.nx ()) := by
  intro P hP
  simp only [m_law_b13, bind_run, pure_run]
  refine draw_run (by omega) fun k k0 k1 => ?_
  obtain ⟨kn, rfl⟩ : ∃ kn : Nat, k = kn := ⟨k.toNat, by omega⟩
  simp only [asI_int, slD_list, asS_list]
  rw [cut_take]
  have en : ([(.str "dig" : D), .str "ask", .str "fix"]).take kn = ((nms.take kn).map .str) := by rw [List.map_take]; rfl
  rw [en]
  have tl : (nms.take kn).length ≤ 3 := by rw [List.length_take]; show min kn 3 ≤ 3; omega
  refine fold_run (fun i s => ∃ rs : Rows, s = st rs ∧ rs.Ok ∧ rs.map (·.1) = (nms.take kn).take i) _ ⟨[], rfl, ⟨List.nodup_nil, by show 0 ≤ 3; omega, (fun p h => nomatch h), (fun p h => nomatch h)⟩, by simp⟩ (fun i hi s hI Q hQ => ?_) fun s hI => ?_
  · obtain ⟨rs, rfl, ok, hn⟩ := hI
    have hi' : i < (nms.take kn).length := by simpa using hi
    have e : ((nms.take kn).map (.str : Str → D))[i] = .str (nms.take kn)[i] := by simp
    rw [e]
    have nd : (nms.take kn).Nodup := ((List.take_sublist kn nms).nodup (by decide +kernel))
    have hnn : (nms.take kn)[i] ∉ rs.map (·.1) := by
      rw [hn]
      intro hm
      obtain ⟨j, hj, ej⟩ := List.mem_iff_getElem.mp hm
      rw [List.length_take] at hj
      rw [List.getElem_take] at ej
      have := (List.getElem_inj nd).mp ej
      omega
    have hlen : rs.length = i := by
      have := congrArg List.length hn
      rw [List.length_map, List.length_take] at this
      omega
    have hso : PyData.strOk (nms.take kn)[i] = true := by
      have : ∀ x ∈ nms, PyData.strOk x = true := by decide +kernel
      exact this _ (List.mem_of_mem_take (List.getElem_mem hi'))
    simp only [bind_run, pure_run]
    refine t_b1 ok hnn (by omega) hso fun r hr => hQ _ ⟨_, rfl, ok.snoc hnn (by omega) hso hr, ?_⟩
    rw [List.map_append, hn, List.take_succ_eq_append_getElem hi']
    rfl
  · obtain ⟨rs, rfl, ok, _⟩ := hI
    exact t_r12 ok P hP
theorem law_ok : m_law fun d => d = .bool true := by
  simp only [m_law, bind_run, pure_run, asI_int]
  refine rngD_run (by omega) (by omega) (by omega) (by omega) (by omega) ?_
  refine foldF_unit (fun x _ Q hQ => ?_) ?_
  · simp only [bind_run, pure_run]
    exact t_b13 x Q hQ
  · show m_law_r14 () _
    simp only [m_law_r14, pure_run]
end L18
namespace L18
open PySem PySem.Spec PyProof.Rows L2 Wp
theorem all_mk {w : World} {K : PySem.W.Frag} {mg : Str → Option Value} {fa : Addr} (hb_abs : mg "abs" = none) (hb_dict : mg "dict" = none) (hb_int : mg "int" = none) (hb_len : mg "len" = none) (hb_max : mg "max" = none) (hb_min : mg "min" = none) (hb_range : mg "range" = none) (hb_sorted : mg "sorted" = none) (hb_sum : mg "sum" = none) (hb_tuple : mg "tuple" = none) (gl_NOTHING : GlC K mg "NOTHING" c_NOTHING) (h_divisor : Has K mg "divisor" st_divisor) (h_fraction : Has K mg "fraction" st_fraction) (h_plus : Has K mg "plus" st_plus) (h_times : Has K mg "times" st_times) (h_minus : Has K mg "minus" st_minus) (h_over : Has K mg "over" st_over) (h_is_less : Has K mg "is_less" st_is_less) (h_sum_of : Has K mg "sum_of" st_sum_of) (h_planned_of : Has K mg "planned_of" st_planned_of) (h_planned_at : Has K mg "planned_at" st_planned_at) (h_earned_of : Has K mg "earned_of" st_earned_of) (h_earned : Has K mg "earned" st_earned) (h_cost_so_far : Has K mg "cost_so_far" st_cost_so_far) (h_budget_of : Has K mg "budget_of" st_budget_of) (h_cost_index : Has K mg "cost_index" st_cost_index) (h_time_index : Has K mg "time_index" st_time_index) (h_left_of : Has K mg "left_of" st_left_of) (h_forecast : Has K mg "forecast" st_forecast) (h_needed_index : Has K mg "needed_index" st_needed_index) (h_last_end : Has K mg "last_end" st_last_end) (h_curve : Has K mg "curve" st_curve) (h_earned_day : Has K mg "earned_day" st_earned_day) (h_is_behind : Has K mg "is_behind" st_is_behind) (h_is_over : Has K mg "is_over" st_is_over) (h_worst_lines : Has K mg "worst_lines" st_worst_lines) (h__law_draws : Has K mg "_law_draws" st__law_draws) (h__law_next : Has K mg "_law_next" st__law_next) (h__law_part : Has K mg "_law_part" st__law_part) (h__law_add : Has K mg "_law_add" st__law_add) (h__law_planned : Has K mg "_law_planned" st__law_planned) (h__law_by : Has K mg "_law_by" st__law_by) (hl : HasL K st_law fa) :
    ∃ fd : FuncData, (∀ (s : Shared) (v : Value), BindsTo s fd ⟨[v], []⟩ [("script", v)]) ∧ ∀ base : Heap, K.In base → base.Ns mainGlobals mg → FnOk PySem.Challenge.rw_worksplanned_k18_worth_earned.prog w K mg base CX0 8 fa fd ["script"] (spLaw K) := by
  obtain ⟨fd, hb, F⟩ := hl
  refine ⟨fd, hb, fun base _ _ => ?_⟩
  have d_divisor := fd_divisor (P := PySem.Challenge.pw_worksplanned_k18_worth_earned) (w := w) (base := base) h_divisor 
  have d_fraction := fd_fraction (P := PySem.Challenge.pw_worksplanned_k18_worth_earned) (w := w) (base := base) h_fraction hb_abs d_divisor
  have d_plus := fd_plus (P := PySem.Challenge.pw_worksplanned_k18_worth_earned) (w := w) (base := base) h_plus d_fraction
  have d_times := fd_times (P := PySem.Challenge.pw_worksplanned_k18_worth_earned) (w := w) (base := base) h_times d_fraction
  have d_minus := fd_minus (P := PySem.Challenge.pw_worksplanned_k18_worth_earned) (w := w) (base := base) h_minus d_plus
  have d_over := fd_over (P := PySem.Challenge.pw_worksplanned_k18_worth_earned) (w := w) (base := base) h_over d_fraction
  have d_is_less := fd_is_less (P := PySem.Challenge.pw_worksplanned_k18_worth_earned) (w := w) (base := base) h_is_less 
  have d_sum_of := fd_sum_of (P := PySem.Challenge.pw_worksplanned_k18_worth_earned) (w := w) (base := base) h_sum_of d_plus
  have d_planned_of := fd_planned_of (P := PySem.Challenge.pw_worksplanned_k18_worth_earned) (w := w) (base := base) h_planned_of hb_max hb_min d_fraction
  have d_planned_at := fd_planned_at (P := PySem.Challenge.pw_worksplanned_k18_worth_earned) (w := w) (base := base) h_planned_at d_sum_of d_planned_of
  have d_earned_of := fd_earned_of (P := PySem.Challenge.pw_worksplanned_k18_worth_earned) (w := w) (base := base) h_earned_of gl_NOTHING d_times
  have d_earned := fd_earned (P := PySem.Challenge.pw_worksplanned_k18_worth_earned) (w := w) (base := base) h_earned d_sum_of d_earned_of
  have d_cost_so_far := fd_cost_so_far (P := PySem.Challenge.pw_worksplanned_k18_worth_earned) (w := w) (base := base) h_cost_so_far hb_sum
  have d_budget_of := fd_budget_of (P := PySem.Challenge.pw_worksplanned_k18_worth_earned) (w := w) (base := base) h_budget_of hb_sum
  have d_cost_index := fd_cost_index (P := PySem.Challenge.pw_worksplanned_k18_worth_earned) (w := w) (base := base) h_cost_index d_cost_so_far d_over d_earned
  have d_time_index := fd_time_index (P := PySem.Challenge.pw_worksplanned_k18_worth_earned) (w := w) (base := base) h_time_index gl_NOTHING d_planned_at d_over d_earned
  have d_left_of := fd_left_of (P := PySem.Challenge.pw_worksplanned_k18_worth_earned) (w := w) (base := base) h_left_of d_minus d_earned d_budget_of
  have d_forecast := fd_forecast (P := PySem.Challenge.pw_worksplanned_k18_worth_earned) (w := w) (base := base) h_forecast gl_NOTHING d_time_index d_plus d_cost_index d_over d_cost_so_far d_left_of d_times d_budget_of
  have d_needed_index := fd_needed_index (P := PySem.Challenge.pw_worksplanned_k18_worth_earned) (w := w) (base := base) h_needed_index d_cost_so_far d_over d_left_of
  have d_last_end := fd_last_end (P := PySem.Challenge.pw_worksplanned_k18_worth_earned) (w := w) (base := base) h_last_end hb_max
  have d_curve := fd_curve (P := PySem.Challenge.pw_worksplanned_k18_worth_earned) (w := w) (base := base) h_curve hb_range hb_tuple d_planned_at d_last_end
  have d_earned_day := fd_earned_day (P := PySem.Challenge.pw_worksplanned_k18_worth_earned) (w := w) (base := base) h_earned_day d_is_less d_earned d_planned_at
  have d_is_behind := fd_is_behind (P := PySem.Challenge.pw_worksplanned_k18_worth_earned) (w := w) (base := base) h_is_behind d_is_less d_earned d_planned_at
  have d_is_over := fd_is_over (P := PySem.Challenge.pw_worksplanned_k18_worth_earned) (w := w) (base := base) h_is_over d_is_less d_earned d_cost_so_far
  have d_worst_lines := fd_worst_lines (P := PySem.Challenge.pw_worksplanned_k18_worth_earned) (w := w) (base := base) h_worst_lines hb_sorted hb_tuple d_is_less d_earned_of
  have d__law_draws := fd__law_draws (P := PySem.Challenge.pw_worksplanned_k18_worth_earned) (w := w) (base := base) h__law_draws hb_abs hb_int hb_len hb_range
  have d__law_next := fd__law_next (P := PySem.Challenge.pw_worksplanned_k18_worth_earned) (w := w) (base := base) h__law_next hb_int hb_len
  have d__law_part := fd__law_part (P := PySem.Challenge.pw_worksplanned_k18_worth_earned) (w := w) (base := base) h__law_part hb_abs hb_int
  have d__law_add := fd__law_add (P := PySem.Challenge.pw_worksplanned_k18_worth_earned) (w := w) (base := base) h__law_add d__law_part
  have d__law_planned := fd__law_planned (P := PySem.Challenge.pw_worksplanned_k18_worth_earned) (w := w) (base := base) h__law_planned hb_len hb_range d__law_add
  have d__law_by := fd__law_by (P := PySem.Challenge.pw_worksplanned_k18_worth_earned) (w := w) (base := base) h__law_by d__law_part
  exact fd_law law_ok F hb_dict hb_max hb_range hb_sorted hb_sum hb_tuple d__law_draws d__law_add d__law_next d__law_planned d__law_by d_forecast d_needed_index d_curve d_earned_day d_worst_lines d__law_part d_planned_at d_earned d_cost_so_far d_budget_of d_cost_index d_time_index d_is_behind d_is_over
end L18
open PySem PySem.W PyProof.Rows
set_option maxHeartbeats 0 in
theorem PySem.Challenge.cw_worksplanned_k18_worth_earned_holds : PySem.Challenge.rw_worksplanned_k18_worth_earned.Holds := by
  w_on; o_law; k_head; (case hw => w_witness2)
  k_fill
  refine L2.walk_of (l := PySem.Challenge.rw_worksplanned_k18_worth_earned) (n := 63) (k := 8) (x := "script") (CX := fun _ => L2.CX0) (sp := fun w => Wp.spLaw _) rfl (by decide) rfl ⟨rfl, by decide, by decide⟩ (fun w h Y => PySem.W.kIn_of Y) ?F (fun _ _ a ns hl _ hS => ⟨a, ns, rfl, hS, hl, fun _ => rfl⟩) (fun _ _ _ _ _ h => h)
  case F =>
    intro w mg fa h KX G hmg
    refine' L18.all_mk ?hb_abs ?hb_dict ?hb_int ?hb_len ?hb_max ?hb_min ?hb_range ?hb_sorted ?hb_sum ?hb_tuple ?gl_NOTHING ?h_divisor ?h_fraction ?h_plus ?h_times ?h_minus ?h_over ?h_is_less ?h_sum_of ?h_planned_of ?h_planned_at ?h_earned_of ?h_earned ?h_cost_so_far ?h_budget_of ?h_cost_index ?h_time_index ?h_left_of ?h_forecast ?h_needed_index ?h_last_end ?h_curve ?h_earned_day ?h_is_behind ?h_is_over ?h_worst_lines ?h__law_draws ?h__law_next ?h__law_part ?h__law_add ?h__law_planned ?h__law_by ?zlaw
    (case hb_abs => exact PySem.W.mg_none_of KX G (by k_is))
    (case hb_dict => exact PySem.W.mg_none_of KX G (by k_is))
    (case hb_int => exact PySem.W.mg_none_of KX G (by k_is))
    (case hb_len => exact PySem.W.mg_none_of KX G (by k_is))
    (case hb_max => exact PySem.W.mg_none_of KX G (by k_is))
    (case hb_min => exact PySem.W.mg_none_of KX G (by k_is))
    (case hb_range => exact PySem.W.mg_none_of KX G (by k_is))
    (case hb_sorted => exact PySem.W.mg_none_of KX G (by k_is))
    (case hb_sum => exact PySem.W.mg_none_of KX G (by k_is))
    (case hb_tuple => exact PySem.W.mg_none_of KX G (by k_is))
    (case gl_NOTHING => (refine' Wp.glc_tup KX G ?a ?l ?z ?zl ?v); (case a => k_is); (case l => k_is); (case z => decide); (case zl => decide); (case v => exact fun _ => ⟨[.int 0, .int 1], .cons (⟨_, rfl⟩) (.cons (⟨_, rfl⟩) (.nil)), .cons (.int _) (.cons (.int _) (.nil))⟩))
    (case h_divisor => (refine' Wp.has_mk KX G ?a ?l ?c ?k); (case a => k_is); (case l => k_is); (case c => k_is); (case k => k_is))
    (case h_fraction => (refine' Wp.has_mk KX G ?a ?l ?c ?k); (case a => k_is); (case l => k_is); (case c => k_is); (case k => k_is))
    (case h_plus => (refine' Wp.has_mk KX G ?a ?l ?c ?k); (case a => k_is); (case l => k_is); (case c => k_is); (case k => k_is))
    (case h_times => (refine' Wp.has_mk KX G ?a ?l ?c ?k); (case a => k_is); (case l => k_is); (case c => k_is); (case k => k_is))
    (case h_minus => (refine' Wp.has_mk KX G ?a ?l ?c ?k); (case a => k_is); (case l => k_is); (case c => k_is); (case k => k_is))
    (case h_over => (refine' Wp.has_mk KX G ?a ?l ?c ?k); (case a => k_is); (case l => k_is); (case c => k_is); (case k => k_is))
    (case h_is_less => (refine' Wp.has_mk KX G ?a ?l ?c ?k); (case a => k_is); (case l => k_is); (case c => k_is); (case k => k_is))
    (case h_sum_of => (refine' Wp.has_mk KX G ?a ?l ?c ?k); (case a => k_is); (case l => k_is); (case c => k_is); (case k => k_is))
    (case h_planned_of => (refine' Wp.has_mk KX G ?a ?l ?c ?k); (case a => k_is); (case l => k_is); (case c => k_is); (case k => k_is))
    (case h_planned_at => (refine' Wp.has_mk KX G ?a ?l ?c ?k); (case a => k_is); (case l => k_is); (case c => k_is); (case k => k_is))
    (case h_earned_of => (refine' Wp.has_mk KX G ?a ?l ?c ?k); (case a => k_is); (case l => k_is); (case c => k_is); (case k => k_is))
    (case h_earned => (refine' Wp.has_mk KX G ?a ?l ?c ?k); (case a => k_is); (case l => k_is); (case c => k_is); (case k => k_is))
    (case h_cost_so_far => (refine' Wp.has_mk KX G ?a ?l ?c ?k); (case a => k_is); (case l => k_is); (case c => k_is); (case k => k_is))
    (case h_budget_of => (refine' Wp.has_mk KX G ?a ?l ?c ?k); (case a => k_is); (case l => k_is); (case c => k_is); (case k => k_is))
    (case h_cost_index => (refine' Wp.has_mk KX G ?a ?l ?c ?k); (case a => k_is); (case l => k_is); (case c => k_is); (case k => k_is))
    (case h_time_index => (refine' Wp.has_mk KX G ?a ?l ?c ?k); (case a => k_is); (case l => k_is); (case c => k_is); (case k => k_is))
    (case h_left_of => (refine' Wp.has_mk KX G ?a ?l ?c ?k); (case a => k_is); (case l => k_is); (case c => k_is); (case k => k_is))
    (case h_forecast => (refine' Wp.has_mk KX G ?a ?l ?c ?k); (case a => k_is); (case l => k_is); (case c => k_is); (case k => k_is))
    (case h_needed_index => (refine' Wp.has_mk KX G ?a ?l ?c ?k); (case a => k_is); (case l => k_is); (case c => k_is); (case k => k_is))
    (case h_last_end => (refine' Wp.has_mk KX G ?a ?l ?c ?k); (case a => k_is); (case l => k_is); (case c => k_is); (case k => k_is))
    (case h_curve => (refine' Wp.has_mk KX G ?a ?l ?c ?k); (case a => k_is); (case l => k_is); (case c => k_is); (case k => k_is))
    (case h_earned_day => (refine' Wp.has_mk KX G ?a ?l ?c ?k); (case a => k_is); (case l => k_is); (case c => k_is); (case k => k_is))
    (case h_is_behind => (refine' Wp.has_mk KX G ?a ?l ?c ?k); (case a => k_is); (case l => k_is); (case c => k_is); (case k => k_is))
    (case h_is_over => (refine' Wp.has_mk KX G ?a ?l ?c ?k); (case a => k_is); (case l => k_is); (case c => k_is); (case k => k_is))
    (case h_worst_lines => (refine' Wp.has_mk KX G ?a ?l ?c ?k); (case a => k_is); (case l => k_is); (case c => k_is); (case k => k_is))
    (case h__law_draws => (refine' Wp.has_mk KX G ?a ?l ?c ?k); (case a => k_is); (case l => k_is); (case c => k_is); (case k => k_is))
    (case h__law_next => (refine' Wp.has_mk KX G ?a ?l ?c ?k); (case a => k_is); (case l => k_is); (case c => k_is); (case k => k_is))
    (case h__law_part => (refine' Wp.has_mk KX G ?a ?l ?c ?k); (case a => k_is); (case l => k_is); (case c => k_is); (case k => k_is))
    (case h__law_add => (refine' Wp.has_mk KX G ?a ?l ?c ?k); (case a => k_is); (case l => k_is); (case c => k_is); (case k => k_is))
    (case h__law_planned => (refine' Wp.has_mk KX G ?a ?l ?c ?k); (case a => k_is); (case l => k_is); (case c => k_is); (case k => k_is))
    (case h__law_by => (refine' Wp.has_mk KX G ?a ?l ?c ?k); (case a => k_is); (case l => k_is); (case c => k_is); (case k => k_is))
    (case zlaw => (refine' Wp.hasL_mk KX G hmg ?a ?l ?c ?k ?b); (case a => k_is); (case l => k_is); (case c => k_is); (case k => k_is); (case b => exact fun s v => .of_eq rfl))
