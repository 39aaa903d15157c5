import PyProof.Rows.All
import Wide.All
import OpenK.AllK
import Wide.FinOn
import HandS.ForMost
import HandS.TupAny
import HandS.TupLe
import HandS.Deep
import HandS.Conv
import KE.SortData
import KE.DataCmp
import HandS.Zip
import HandS.Wide
import HandS.IsInst
import HandS.Style
import HandS.Strs
import HandS.More
import KE.DataMinMax
import HandS.TupMul
import KE.KTupSum
import PySem.Challenge.RW_worksplanned_k37_hired_and_let_go
set_option Elab.async false
set_option linter.all false
set_option maxRecDepth 100000
set_option maxHeartbeats 4000000
/-! The walk over data: values by what they stand for, statements by what they do to names. -/
namespace Wp
open PySem PySem.Spec PyProof.Rows L2

abbrev D := PyData

/-! ### what a run may give: a wish is granted for all outcomes -/
abbrev M (α : Type) := (α → Prop) → Prop
namespace M
variable {α β : Type}
def pure (a : α) : M α := fun P => P a
def bind (m : M α) (k : α → M β) : M β := fun P => m fun x => k x P
def fail : M α := fun _ => False
def opt (o : Option α) : M α := fun P => ∃ x, o = some x ∧ P x
def need (c : Prop) (m : M α) : M α := fun P => c ∧ m P
def draw (n : Int) : M D := fun P => 0 < n ∧ ∀ r : Int, 0 ≤ r → r < n → P (.int r)
def mapM (f : α → M β) : List α → M (List β)
  | [] => pure []
  | x :: xs => bind (f x) fun y => bind (mapM f xs) fun ys => pure (y :: ys)
def filM (f : α → M (Option β)) : List α → M (List β)
  | [] => pure []
  | x :: xs => bind (f x) fun o => bind (filM f xs) fun ys => pure (match o with | some y => y :: ys | none => ys)
def fold {σ : Type} (f : σ → α → M σ) : σ → List α → M σ
  | s, [] => pure s
  | s, x :: xs => bind (f s x) fun s' => fold f s' xs
end M

/-- how a block ends -/
inductive Fl (α β : Type) where
  | nx (a : α) | rt (d : D) | bk (b : β) | ct (b : β)
def M.foldF {α σ : Type} (f : σ → α → M (Fl σ σ)) : σ → List α → M (Fl σ Empty)
  | s, [] => M.pure (.nx s)
  | s, x :: xs => M.bind (f s x) fun r => match r with
    | .nx s' => M.foldF f s' xs
    | .ct s' => M.foldF f s' xs
    | .bk s' => M.pure (.nx s')
    | .rt d => M.pure (.rt d)
/-- n turns of a while at most -/
def M.iter {σ : Type} (c : σ → M Bool) (f : σ → M σ) : Nat → σ → M σ
  | 0, _ => M.fail
  | n + 1, s => M.bind (c s) fun b => bif b then M.bind (f s) fun s' => M.iter c f n s' else M.pure s
def M.while_ {σ : Type} (c : σ → M Bool) (f : σ → M σ) (s : σ) : M σ := fun P => ∃ n, M.iter c f n s P

/-! ### keys -/
def keyD : Key → D
  | .inl i => .int i
  | .inr x => .str x
def keyT (k : List Key) : D := .tuple (k.map keyD)

/-! ### what stands for a datum -/
mutual
inductive Rp (K : PySem.W.Frag) (G : Hp) : V → D → Prop
  | non : Rp K G .non .none
  | bl (b : Bool) : Rp K G (.bl b) (.bool b)
  | int (i : Int) : Rp K G (.int i) (.int i)
  | str (x : Str) : Rp K G (.str x) (.str x)
  | lst {a : Addr} {xs : List V} {ds : List D} : Rd G a (.lst xs) → RpA K G xs ds → ds.length ≤ sizeLine → Rp K G (.ref a) (.list ds)
  | tup {a : Addr} {xs : List V} {ds : List D} : SqT K G a xs → RpA K G xs ds → ds.length ≤ sizeLine → Rp K G (.ref a) (.tuple ds)
  | dK {a : Addr} {kvs : List (Key × V)} {es : List (D × D)} : G a = some (.dK kvs) → RpK K G kvs es → es.length ≤ sizeLine → Rp K G (.ref a) (.dict es)
  | dT {a : Addr} {kvs : List (List Key × V)} {es : List (D × D)} : G a = some (.dT kvs) → RpT K G kvs es → es.length < sizeLine → Rp K G (.ref a) (.dict ((.none, .none) :: es))
inductive RpA (K : PySem.W.Frag) (G : Hp) : List V → List D → Prop
  | nil : RpA K G [] []
  | cons {v : V} {vs : List V} {d : D} {ds : List D} : Rp K G v d → RpA K G vs ds → RpA K G (v :: vs) (d :: ds)
inductive RpK (K : PySem.W.Frag) (G : Hp) : List (Key × V) → List (D × D) → Prop
  | nil : RpK K G [] []
  | cons {k : Key} {v : V} {vs : List (Key × V)} {d : D} {ds : List (D × D)} : Rp K G v d → RpK K G vs ds → RpK K G ((k, v) :: vs) ((keyD k, d) :: ds)
inductive RpT (K : PySem.W.Frag) (G : Hp) : List (List Key × V) → List (D × D) → Prop
  | nil : RpT K G [] []
  | cons {k : List Key} {v : V} {vs : List (List Key × V)} {d : D} {ds : List (D × D)} : Rp K G v d → RpT K G vs ds → RpT K G ((k, v) :: vs) ((keyT k, d) :: ds)
end

/-- what may be read in the one may be read in the other -/
def Le (G H : Hp) : Prop := ∀ a u, Rd G a u → Rd H a u
theorem Le.refl (G : Hp) : Le G G := fun _ _ h => h
theorem Le.trans {A B C : Hp} (h : Le A B) (k : Le B C) : Le A C := fun a u q => k a u (h a u q)
theorem Le.of_same {G H : Hp} (s : Same G H) : Le G H := fun a u h => by
  rcases h with h | ⟨o, h⟩
  · exact .inl (s _ _ h)
  · exact .inr ⟨o, s _ _ h⟩
theorem Le.sqL {K : PySem.W.Frag} {G H : Hp} {a : Addr} {xs : List V} (l : Le G H) (h : SqL K G a xs) : SqL K H a xs := by
  rcases h with h | h
  · exact .inl (l _ _ h)
  · exact .inr h
theorem Le.sqT {K : PySem.W.Frag} {G H : Hp} {a : Addr} {xs : List V} (l : Le G H) (h : SqT K G a xs) : SqT K H a xs := by
  rcases h with h | h
  · exact .inl (l _ _ h)
  · exact .inr h
theorem Le.none {G H : Hp} {a : Addr} (l : Le G H) (h : H a = none) : G a = none := by
  cases q : G a with
  | none => rfl
  | some u =>
    rcases l a u (.inl q) with r | ⟨o, r⟩ <;> (rw [h] at r; cases r)

section
variable {K : PySem.W.Frag} {G H : Hp}
mutual
theorem Rp.le (l : Same G H) : ∀ (d : D) {v : V}, Rp K G v d → Rp K H v d
  | .none, _, .non => .non
  | .bool _, _, .bl b => .bl b
  | .int _, _, .int i => .int i
  | .str _, _, .str x => .str x
  | .list ds, _, .lst s a z => .lst ((Le.of_same l) _ _ s) (RpA.le l ds a) z
  | .tuple ds, _, .tup s a z => .tup ((Le.of_same l).sqT s) (RpA.le l ds a) z
  | .dict es, _, .dK s a z => .dK (l _ _ s) (RpK.le l es a) z
  | .dict (_ :: es), _, .dT s a z => .dT (l _ _ s) (RpT.le l es a) z
theorem RpA.le (l : Same G H) : ∀ (ds : List D) {vs : List V}, RpA K G vs ds → RpA K H vs ds
  | [], _, .nil => .nil
  | d :: ds, _, .cons h t => .cons (Rp.le l d h) (RpA.le l ds t)
theorem RpK.le (l : Same G H) : ∀ (ds : List (D × D)) {vs : List (Key × V)}, RpK K G vs ds → RpK K H vs ds
  | [], _, .nil => .nil
  | (_, d) :: ds, _, .cons h t => .cons (Rp.le l d h) (RpK.le l ds t)
theorem RpT.le (l : Same G H) : ∀ (ds : List (D × D)) {vs : List (List Key × V)}, RpT K G vs ds → RpT K H vs ds
  | [], _, .nil => .nil
  | (_, d) :: ds, _, .cons h t => .cons (Rp.le l d h) (RpT.le l ds t)
end
theorem RpA.length : ∀ {vs : List V} {ds : List D}, RpA K G vs ds → vs.length = ds.length
  | _, _, .nil => rfl
  | _, _, .cons _ t => congrArg (· + 1) t.length
theorem RpA.get : ∀ {vs : List V} {ds : List D} {i : Nat} {v : V}, RpA K G vs ds → vs[i]? = some v → ∃ d, ds[i]? = some d ∧ Rp K G v d
  | _, _, _, _, .nil, e => by simp at e
  | _, _, 0, _, .cons r _, e => by simp at e; subst e; exact ⟨_, rfl, r⟩
  | _, _, i + 1, v, .cons _ t, e => by
    obtain ⟨d, h1, h2⟩ := t.get (i := i) (v := v) (by simpa using e)
    exact ⟨d, by simpa using h1, h2⟩
theorem RpA.getD : ∀ {vs : List V} {ds : List D} {i : Nat} {d : D}, RpA K G vs ds → ds[i]? = some d → ∃ v, vs[i]? = some v ∧ Rp K G v d
  | _, _, _, _, .nil, e => by simp at e
  | _, _, 0, _, .cons r _, e => by simp at e; subst e; exact ⟨_, rfl, r⟩
  | _, _, i + 1, v, .cons _ t, e => by
    obtain ⟨d, h1, h2⟩ := t.getD (i := i) (d := v) (by simpa using e)
    exact ⟨d, by simpa using h1, h2⟩
theorem RpA.append : ∀ {vs ws : List V} {ds es : List D}, RpA K G vs ds → RpA K G ws es → RpA K G (vs ++ ws) (ds ++ es)
  | _, _, _, _, .nil, s => s
  | _, _, _, _, .cons r t, s => .cons r (t.append s)
theorem RpA.take : ∀ {vs : List V} {ds : List D} (n : Nat), RpA K G vs ds → RpA K G (vs.take n) (ds.take n)
  | _, _, 0, _ => by simpa using RpA.nil
  | _, _, _ + 1, .nil => .nil
  | _, _, n + 1, .cons r t => .cons r (t.take n)
theorem RpA.drop : ∀ {vs : List V} {ds : List D} (n : Nat), RpA K G vs ds → RpA K G (vs.drop n) (ds.drop n)
  | _, _, 0, r => r
  | _, _, _ + 1, .nil => .nil
  | _, _, n + 1, .cons _ t => t.drop n
theorem RpA.set {v : V} {d : D} (r : Rp K G v d) : ∀ {vs : List V} {ds : List D} (n : Nat), RpA K G vs ds → RpA K G (vs.set n v) (ds.set n d)
  | _, _, _, .nil => .nil
  | _, _, 0, .cons _ t => .cons r t
  | _, _, n + 1, .cons q t => .cons q (RpA.set r n t)
end

/-- the parts of an object that is one's own -/
inductive RpO (K : PySem.W.Frag) (G : Hp) : HO → D → Prop
  | lst {xs : List V} {ds : List D} : RpA K G xs ds → ds.length ≤ sizeLine → RpO K G (.lst xs) (.list ds)
  | dK {kvs : List (Key × V)} {es : List (D × D)} : RpK K G kvs es → es.length ≤ sizeLine → RpO K G (.dK kvs) (.dict es)
  | dT {kvs : List (List Key × V)} {es : List (D × D)} : RpT K G kvs es → es.length < sizeLine → RpO K G (.dT kvs) (.dict ((.none, .none) :: es))
theorem RpO.le {K : PySem.W.Frag} {G G' : Hp} (l : Same G G') {u : HO} {d : D} (h : RpO K G u d) : RpO K G' u d := by
  cases h with
  | lst a z => exact .lst (a.le l) z
  | dK a z => exact .dK (a.le l) z
  | dT a z => exact .dT (a.le l) z

/-! ### the state -/
/-- the dict that the draws come from -/
def drwO (vd : V) (at_ : Int) : HO := .dK [(.inr ("draws" : Str), vd), (.inr ("at" : Str), .int at_)]
structure DrawOk (K : PySem.W.Frag) (G H : Hp) (o : Addr) : Prop where
  g : G o = none
  h : ∃ (vd : V) (ds : List Int) (at_ : Int), H o = some (drwO vd at_) ∧ Rp K G vd (.list (ds.map .int)) ∧ 0 ≤ at_
/-- how the known and the whole heap may grow -/
structure Ext (ω : Option Addr) (K : PySem.W.Frag) (G H G' H' : Hp) : Prop where
  gg : Same G G'
  hh : ∀ a u, some a ≠ ω → H a = some u → H' a = some u
  le : Le G' H'
  fr : ∀ a u, H a = some u → G a = none → G' a = none
  dr : ∀ o, ω = some o → DrawOk K G' H' o
section
variable {ω : Option Addr} {K : PySem.W.Frag} {G H G' H' G1 H1 G2 H2 : Hp}
theorem Ext.trans (a : Ext ω K G H G1 H1) (b : Ext ω K G1 H1 G2 H2) : Ext ω K G H G2 H2 where
  gg := a.gg.trans b.gg
  hh := fun x u n h => b.hh x u n (a.hh x u n h)
  le := b.le
  fr := fun x u h n => by
    by_cases e : some x = ω
    · obtain ⟨_, _, _, _, h', _⟩ := a.dr x e.symm
      exact b.fr x _ h' (a.fr x u h n)
    · exact b.fr x u (a.hh x u e h) (a.fr x u h n)
  dr := b.dr
theorem Ext.self (a : Ext ω K G H G1 H1) : Ext ω K G1 H1 G1 H1 := ⟨Same.refl _, fun _ _ _ h => h, a.le, fun _ _ _ h => h, a.dr⟩
/-- a new object, frozen at once -/
theorem Ext.new {p : Addr} {o : HO} (a : Ext ω K G H G H) (n : H p = none) : Ext ω K G H (upd G p o) (upd H p o) where
  gg := fun b u e => by rw [upd_ne (ne_of_none e (a.le.none n))]; exact e
  hh := fun b u _ e => by rw [upd_ne (ne_of_none e n)]; exact e
  le := fun b u e => by
    by_cases hb : b = p
    · subst hb
      rcases e with e | ⟨q, e⟩
      · rw [upd_same] at e; exact .inl (by rw [upd_same]; exact e)
      · rw [upd_same] at e; exact .inr ⟨q, by rw [upd_same]; exact e⟩
    · have e' : Rd G b u := by
        rcases e with e | ⟨q, e⟩
        · rw [upd_ne hb] at e; exact .inl e
        · rw [upd_ne hb] at e; exact .inr ⟨q, e⟩
      rcases a.le b u e' with r | ⟨q, r⟩
      · exact .inl (by rw [upd_ne hb]; exact r)
      · exact .inr ⟨q, by rw [upd_ne hb]; exact r⟩
  fr := fun b u e h => by rw [upd_ne (ne_of_none e n)]; exact h
  dr := fun b e => by
    obtain ⟨g, vd, ds, at_, h1, h2, h3⟩ := a.dr b e
    have hb : b ≠ p := ne_of_none h1 n
    refine ⟨by rw [upd_ne hb]; exact g, vd, ds, at_, by rw [upd_ne hb]; exact h1, h2.le ?_, h3⟩
    exact fun c u e => by rw [upd_ne (ne_of_none e (a.le.none n))]; exact e
/-- a new object, not frozen -/
theorem Ext.lay {p : Addr} {o : HO} (a : Ext ω K G H G H) (n : H p = none) : Ext ω K G H G (upd H p o) where
  gg := Same.refl _
  hh := fun b u _ e => by rw [upd_ne (ne_of_none e n)]; exact e
  le := fun b u e => by
    rcases a.le b u e with r | ⟨q, r⟩
    · exact .inl (by rw [upd_ne (ne_of_none r n)]; exact r)
    · exact .inr ⟨q, by rw [upd_ne (ne_of_none r n)]; exact r⟩
  fr := fun b u e h => h
  dr := fun b e => by
    obtain ⟨g, vd, ds, at_, h1, h2, h3⟩ := a.dr b e
    exact ⟨g, vd, ds, at_, by rw [upd_ne (ne_of_none h1 n)]; exact h1, h2, h3⟩
end

/-- what a name holds -/
inductive Ct where
  | val (d : D) | own (d : D) | drw | scr (ns : List Int)
abbrev En := List (Option Ct)
def CtOk (ω : Option Addr) (K : PySem.W.Frag) (H0 G H : Hp) : Ct → V → Prop
  | .val d, v => Rp K G v d
  | .own d, v => ∃ o u, v = .ref o ∧ some o ≠ ω ∧ H o = some u ∧ G o = none ∧ H0 o = none ∧ RpO K G u d
  | .drw, v => ∃ o, v = .ref o ∧ ω = some o
  | .scr ns, v => ∃ a, v = .ref a ∧ SqL K G a (ns.map V.int)
structure EnvOk (ω : Option Addr) (K : PySem.W.Frag) (G0 H0 : Hp) (Γ : En) (σ : L2.St) (G H : Hp) : Prop where
  ext : Ext ω K G0 H0 G H
  ln : σ.length = Γ.length
  sl : ∀ (i : Nat) c, Γ[i]? = some (some c) → ∃ v, σ[i]? = some (some v) ∧ CtOk ω K H0 G H c v
  ds : ∀ (i j : Nat) d e v, Γ[i]? = some (some (.own d)) → Γ[j]? = some (some (.own e)) → σ[i]? = some (some v) → σ[j]? = some (some v) → i = j
section
variable {ω : Option Addr} {K : PySem.W.Frag} {G0 H0 G H G' H' : Hp} {Γ Γ' : En} {σ σ' : L2.St}
theorem CtOk.ext {c : Ct} {v : V} (h : CtOk ω K H0 G H c v) (e : Ext ω K G H G' H') : CtOk ω K H0 G' H' c v := by
  cases c with
  | val d => exact Rp.le (e.gg) d h
  | own d =>
    obtain ⟨o, u, h1, h2, h3, h4, h5, h6⟩ := h
    exact ⟨o, u, h1, h2, e.hh o u h2 h3, e.fr o u h3 h4, h5, h6.le (e.gg)⟩
  | drw => exact h
  | scr ns => obtain ⟨a, h1, h2⟩ := h; exact ⟨a, h1, (Le.of_same e.gg).sqL h2⟩
theorem EnvOk.step (E : EnvOk ω K G0 H0 Γ σ G H) (e : Ext ω K G H G' H') : EnvOk ω K G0 H0 Γ σ G' H' :=
  ⟨E.ext.trans e, E.ln, fun i c h => let ⟨v, h1, h2⟩ := E.sl i c h; ⟨v, h1, h2.ext e⟩, E.ds⟩
theorem EnvOk.self (E : EnvOk ω K G0 H0 Γ σ G H) : Ext ω K G H G H := E.ext.self
theorem getElem?_set_some {α : Type} {l : List (Option α)} {i j : Nat} {x : Option α} {c : α} (h : (l.set i x)[j]? = some (some c)) : (j = i ∧ x = some c ∧ i < l.length) ∨ (j ≠ i ∧ l[j]? = some (some c)) := by
  by_cases e : j = i
  · subst e
    by_cases hi : j < l.length
    · rw [List.getElem?_set_self hi] at h
      exact .inl ⟨rfl, Option.some.inj h, hi⟩
    · rw [List.getElem?_eq_none (by simpa using hi)] at h; cases h
  · rw [List.getElem?_set_ne (Ne.symm e)] at h
    exact .inr ⟨e, h⟩
/-- a name is stored -/
theorem EnvOk.put (E : EnvOk ω K G0 H0 Γ σ G H) {i : Nat} {v : V} {c : Ct} (hc : CtOk ω K H0 G H c v) (hd : ∀ d, c = .own d → ∀ j e, j ≠ i → Γ[j]? = some (some (.own e)) → σ[j]? ≠ some (some v)) :
    EnvOk ω K G0 H0 (Γ.set i (some c)) (σ.set i (some v)) G H where
  ext := E.ext
  ln := by simpa using E.ln
  sl := fun j c' h => by
    rcases getElem?_set_some h with ⟨rfl, e, hi⟩ | ⟨e, h⟩
    · cases e
      exact ⟨v, by rw [List.getElem?_set_self (by rw [E.ln]; exact hi)], hc⟩
    · obtain ⟨v', h1, h2⟩ := E.sl j c' h
      exact ⟨v', by rw [List.getElem?_set_ne (Ne.symm e)]; exact h1, h2⟩
  ds := fun a b d e w ha hb sa sb => by
    rcases getElem?_set_some ha with ⟨rfl, ea, hi⟩ | ⟨na, ha'⟩
    · cases ea
      rcases getElem?_set_some hb with ⟨rfl, _, _⟩ | ⟨nb, hb⟩
      · rfl
      · rw [List.getElem?_set_self (by rw [E.ln]; exact hi)] at sa
        rw [List.getElem?_set_ne (Ne.symm nb)] at sb
        cases sa
        exact absurd sb (hd d rfl b e nb hb)
    · rcases getElem?_set_some hb with ⟨rfl, eb, hi⟩ | ⟨nb, hb'⟩
      · cases eb
        rw [List.getElem?_set_self (by rw [E.ln]; exact hi)] at sb
        rw [List.getElem?_set_ne (Ne.symm na)] at sa
        cases sb
        exact absurd sa (hd e rfl a d na ha')
      · rw [List.getElem?_set_ne (Ne.symm na)] at sa
        rw [List.getElem?_set_ne (Ne.symm nb)] at sb
        exact E.ds a b d e w ha' hb' sa sb
theorem EnvOk.putV (E : EnvOk ω K G0 H0 Γ σ G H) {i : Nat} {v : V} {d : D} (hc : Rp K G v d) : EnvOk ω K G0 H0 (Γ.set i (some (.val d))) (σ.set i (some v)) G H :=
  E.put (c := .val d) hc fun _ e => nomatch e
/-- a name is forgotten -/
theorem EnvOk.wipe1 (E : EnvOk ω K G0 H0 Γ σ G H) (i : Nat) : EnvOk ω K G0 H0 (Γ.set i none) (σ.set i none) G H where
  ext := E.ext
  ln := by simpa using E.ln
  sl := fun j c' h => by
    rcases getElem?_set_some h with ⟨rfl, e, hi⟩ | ⟨e, h⟩
    · cases e
    · obtain ⟨v', h1, h2⟩ := E.sl j c' h
      exact ⟨v', by rw [List.getElem?_set_ne (Ne.symm e)]; exact h1, h2⟩
  ds := fun a b d e w ha hb sa sb => by
    rcases getElem?_set_some ha with ⟨rfl, ea, hi⟩ | ⟨na, ha⟩
    · cases ea
    · rcases getElem?_set_some hb with ⟨rfl, eb, hi⟩ | ⟨nb, hb⟩
      · cases eb
      · rw [List.getElem?_set_ne (Ne.symm na)] at sa
        rw [List.getElem?_set_ne (Ne.symm nb)] at sb
        exact E.ds a b d e w ha hb sa sb
def wipeE (Γ : En) : List Nat → En
  | [] => Γ
  | v :: vs => (wipeE Γ vs).set v none
theorem EnvOk.wipe (E : EnvOk ω K G0 H0 Γ σ G H) : ∀ vs : List Nat, EnvOk ω K G0 H0 (wipeE Γ vs) (L2.wipe σ vs) G H
  | [] => E
  | v :: vs => (E.wipe vs).wipe1 v
/-- weaker: some names are forgotten -/
def maskE : List Bool → En → En
  | b :: bs, c :: cs => (bif b then c else none) :: maskE bs cs
  | _, _ => []
theorem maskE_get : ∀ {bs : List Bool} {Γ : En} {i : Nat} {c : Ct}, (maskE bs Γ)[i]? = some (some c) → Γ[i]? = some (some c)
  | [], _, _, _, h => by simp [maskE] at h
  | _ :: _, [], _, _, h => by simp [maskE] at h
  | b :: bs, x :: cs, 0, c, h => by
    cases b
    · simp [maskE] at h
    · simpa [maskE] using h
  | b :: bs, x :: cs, i + 1, c, h => by
    have h' : (maskE bs cs)[i]? = some (some c) := by simpa [maskE] using h
    simpa using maskE_get h'
theorem EnvOk.weak (E : EnvOk ω K G0 H0 Γ σ G H) (hl : Γ'.length = Γ.length) (w : ∀ (i : Nat) c, Γ'[i]? = some (some c) → Γ[i]? = some (some c)) : EnvOk ω K G0 H0 Γ' σ G H :=
  ⟨E.ext, by rw [E.ln, hl], fun i c h => E.sl i c (w i c h), fun i j d e v hi hj => E.ds i j d e v (w _ _ hi) (w _ _ hj)⟩
/-- what one owns is frozen -/
theorem EnvOk.freeze (E : EnvOk ω K G0 H0 Γ σ G H) {i : Nat} {d : D} (hi : Γ[i]? = some (some (.own d))) : ∃ G', Same G G' ∧ EnvOk ω K G0 H0 (Γ.set i (some (.val d))) σ G' H := by
  obtain ⟨v, hv, o, u, rfl, ho, hu, hg, h0, hr⟩ := E.sl i _ hi
  have sm : Same G (upd G o u) := fun b w e => by rw [upd_ne (ne_of_none e hg)]; exact e
  have le : Le (upd G o u) H := fun b w e => by
    by_cases hb : b = o
    · subst hb
      rcases e with e | ⟨q, e⟩
      · rw [upd_same] at e; cases e; exact .inl hu
      · rw [upd_same] at e; cases e; cases hr
    · refine E.ext.le b w ?_
      rcases e with e | ⟨q, e⟩
      · rw [upd_ne hb] at e; exact .inl e
      · rw [upd_ne hb] at e; exact .inr ⟨q, e⟩
  have hR : Rp K (upd G o u) (.ref o) d := by
    cases hr with
    | lst a z => exact .lst (.inl upd_same) (a.le (sm)) z
    | dK a z => exact .dK upd_same (a.le (sm)) z
    | dT a z => exact .dT upd_same (a.le (sm)) z
  refine ⟨upd G o u, sm, ⟨E.ext.gg.trans sm, E.ext.hh, le, fun a w e n => ?_, fun b e => ?_⟩, by simpa using E.ln, fun j c h => ?_, fun a b da db w ha hb sa sb => ?_⟩
  · rw [upd_ne (fun z => by rw [z, h0] at e; cases e)]
    exact E.ext.fr a w e n
  · obtain ⟨g, vd, ds, at_, h1, h2, h3⟩ := E.ext.dr b e
    have hb : b ≠ o := fun z => ho (by rw [← z, e])
    exact ⟨by rw [upd_ne hb]; exact g, vd, ds, at_, h1, h2.le (sm), h3⟩
  · rcases getElem?_set_some h with ⟨rfl, e, hl⟩ | ⟨ne, h⟩
    · cases e
      exact ⟨.ref o, hv, hR⟩
    · obtain ⟨v', h1, h2⟩ := E.sl j c h
      refine ⟨v', h1, ?_⟩
      cases c with
      | val e => exact Rp.le (sm) e h2
      | own e =>
        obtain ⟨o', u', rfl, q2, q3, q4, q5, q6⟩ := h2
        refine ⟨o', u', rfl, q2, q3, ?_, q5, q6.le (sm)⟩
        rw [upd_ne (fun z => ne (E.ds j i e d (.ref o) h hi (by rw [← z]; exact h1) hv))]
        exact q4
      | drw => exact h2
      | scr ns => obtain ⟨a, g1, g2⟩ := h2; exact ⟨a, g1, (Le.of_same sm).sqL g2⟩
  · rcases getElem?_set_some ha with ⟨rfl, ea, _⟩ | ⟨_, ha⟩
    · cases ea
    · rcases getElem?_set_some hb with ⟨rfl, eb, _⟩ | ⟨_, hb⟩
      · cases eb
      · exact E.ds a b da db w ha hb sa sb
end
end Wp
namespace Wp
open PySem PySem.Spec PyProof.Rows L2

/-! ### where a piece of the text stands -/
structure Sg where
  P : Program
  w : World
  K : PySem.W.Frag
  mg : Str → Option Value
  base : Heap
  N : List Str
  sc : Scope
  k : Nat
  fn : Str → Bool
structure Sg.Of (S : Sg) (X : Cx) : Prop where
  prog : X.prog = S.P
  w : X.w = S.w
  K : X.K = S.K
  mg : X.mg = S.mg
  base : X.base = S.base
  N : X.N = S.N
  sc : X.env.scope = S.sc
  calm : X.calm = true
  room : Room S.k X.A
  xe : X.xe = fun _ _ => False
  fn : X.fn = S.fn
  nd : S.N.Nodup
abbrev Sg.blk (S : Sg) (scope : Scope) : Sg := { S with sc := relS scope S.sc, fn := fun x => scope.names.lookup x == some .cell }
theorem Sg.Of.blk {S : Sg} {X : Cx} (h : S.Of X) (s : Shared) (H : Hp) (scope : Scope) (C : Addr) (cl : List (Str × Addr)) (fp : List Addr) : (S.blk scope).Of (X.blk s H scope (compEnvC scope cl C X.env) fp) where
  prog := h.prog
  w := h.w
  K := h.K
  mg := h.mg
  base := h.base
  N := h.N
  sc := by show relS scope X.env.scope = relS scope S.sc; rw [h.sc]
  calm := h.calm
  room := h.room
  xe := rfl
  fn := rfl
  nd := h.nd

section
variable (S : Sg)
def RE (e : Expr) : TE := fun σ H Q => ∃ t, (∀ X, S.Of X → PE X e t) ∧ t σ H Q
def RT (e : Expr) : TT := fun σ H Q => ∃ t, (∀ X, S.Of X → PT X e t) ∧ t σ H Q
def RA (es : List Expr) : TA := fun σ H Q => ∃ t, (∀ X, S.Of X → PA X es t) ∧ t σ H Q
def RS (st : List Stmt) : TS := fun D σ H => ∃ t, (∀ X, S.Of X → PSs X st t) ∧ t D σ H
def RG (tg : Expr) : TG := fun v σ H Q => ∃ t, (∀ X, S.Of X → PG X tg t) ∧ t v σ H Q
def RI (tg it : Expr) : TI := fun σ H R => ∃ t, (∀ X, S.Of X → PI X tg it t) ∧ t σ H R
def RTs (es : List Expr) : TT := fun σ H Q => ∃ t, (∀ X, S.Of X → PTs X es t) ∧ t σ H Q
def ROp (f : Value → Value → Sem Value) : R2 := fun x y H Q => ∃ r, (∀ X, S.Of X → OpR X f r) ∧ r x y H Q
def RUn (f : Value → Sem Value) : V → Hp → VK → Prop := fun x H Q => ∃ r, (∀ X, S.Of X → UnR X f r) ∧ r x H Q
def RIx : R2 := fun x y H Q => ∃ r, (∀ X, S.Of X → IxR X r) ∧ r x y H Q
def RCall (f : Value) : List V → Hp → VK → Prop := fun xs H Q => ∃ r, (∀ X, S.Of X → CallR X f r) ∧ r xs H Q
def RMt (id : String) : V → List V → Hp → VK → Prop := fun x xs H Q => ∃ r, (∀ X, S.Of X → MtR X id r) ∧ r x xs H Q
def RSl : V → Option Int → Option Int → Hp → VK → Prop := fun x a b H Q => ∃ r, (∀ X, S.Of X → SlR X r) ∧ r x a b H Q
end
section
variable {S : Sg} {X : Cx} (hX : S.Of X)
include hX
theorem RE.pe (e : Expr) : PE X e (RE S e) := ⟨fun pins s σ H Q I ⟨t, h, q⟩ => (h X hX).run pins s σ H Q I q⟩
theorem RT.pt (e : Expr) : PT X e (RT S e) := ⟨fun pins s σ H Q I ⟨t, h, q⟩ => (h X hX).run pins s σ H Q I q⟩
theorem RA.pa (es : List Expr) : PA X es (RA S es) := ⟨fun pos pins s σ H Q I ⟨t, h, q⟩ => (h X hX).run pos pins s σ H Q I q⟩
theorem RS.ps (st : List Stmt) : PSs X st (RS S st) := ⟨fun pins s σ H D I ⟨t, h, q⟩ => (h X hX).run pins s σ H D I q⟩
theorem RG.pg (e : Expr) : PG X e (RG S e) := ⟨fun pins s σ H v u Q I r ⟨t, h, q⟩ => (h X hX).run pins s σ H v u Q I r q⟩
theorem RI.pi (tg it : Expr) : PI X tg it (RI S tg it) := ⟨fun pins s σ H R I ⟨t, h, q⟩ => (h X hX).run pins s σ H R I q⟩
theorem RTs.pts (es : List Expr) : PTs X es (RTs S es) := ⟨fun pins s σ H Q I ⟨t, h, q⟩ => (h X hX).run pins s σ H Q I q⟩
theorem ROp.op (f : Value → Value → Sem Value) : OpR X f (ROp S f) := fun pins s σ H x y v u Q I rx ry ⟨r, h, q⟩ => h X hX pins s σ H x y v u Q I rx ry q
theorem RUn.un (f : Value → Sem Value) : UnR X f (RUn S f) := fun pins s σ H x v Q I rx ⟨r, h, q⟩ => h X hX pins s σ H x v Q I rx q
theorem RIx.ix : IxR X (RIx S) := fun value slice pins s σ H x y v u Q I rx ry ⟨r, h, q⟩ hs => h X hX value slice pins s σ H x y v u Q I rx ry q hs
theorem RCall.call (f : Value) : CallR X f (RCall S f) := fun pins s σ H xs us Q I rx ⟨r, h, q⟩ => h X hX pins s σ H xs us Q I rx q
theorem RMt.mt (id : String) : MtR X id (RMt S id) := fun pins s σ H x xs v us Q I rx rs ⟨r, h, q⟩ => h X hX pins s σ H x xs v us Q I rx rs q
theorem RSl.sl : SlR X (RSl S) := fun pins s σ H x v vl vu lo hi sl Q I rx hs pl pu ⟨r, h, q⟩ => h X hX pins s σ H x v vl vu lo hi sl Q I rx hs pl pu q
end

/-! ### what a value stands for now -/
/-- its top may be one's own -/
def Rb (ω : Option Addr) (K : PySem.W.Frag) (G H : Hp) (v : V) (d : D) : Prop :=
  Rp K G v d ∨ ∃ o u, v = .ref o ∧ some o ≠ ω ∧ H o = some u ∧ RpO K G u d
section
variable {ω : Option Addr} {K : PySem.W.Frag} {G0 H0 G H G' H' : Hp} {Γ Γ' : En} {σ σ' : L2.St} {v : V} {d : D}
theorem Rp.ext (h : Rp K G v d) (e : Ext ω K G H G' H') : Rp K G' v d := Rp.le (e.gg) d h
theorem RpA.ext {vs : List V} {ds : List D} (h : RpA K G vs ds) (e : Ext ω K G H G' H') : RpA K G' vs ds := RpA.le (e.gg) ds h
theorem Rb.ext (h : Rb ω K G H v d) (e : Ext ω K G H G' H') : Rb ω K G' H' v d := by
  rcases h with h | ⟨o, u, h1, h2, h3, h4⟩
  · exact .inl (h.ext e)
  · exact .inr ⟨o, u, h1, h2, e.hh o u h2 h3, h4.le (e.gg)⟩
theorem Rb.list {ds : List D} (h : Rb ω K G H v (.list ds)) (l : Le G H) : ∃ a xs, v = .ref a ∧ Rd H a (.lst xs) ∧ RpA K G xs ds ∧ ds.length ≤ sizeLine := by
  rcases h with h | ⟨o, u, h1, h2, h3, h4⟩
  · cases h with
    | lst s a z => exact ⟨_, _, rfl, l _ _ s, a, z⟩
  · cases h4 with
    | lst a z => exact ⟨o, _, h1, .inl h3, a, z⟩
theorem Rb.tup {ds : List D} (h : Rb ω K G H v (.tuple ds)) (l : Le G H) : ∃ a xs, v = .ref a ∧ SqT K H a xs ∧ RpA K G xs ds ∧ ds.length ≤ sizeLine := by
  rcases h with h | ⟨o, u, h1, h2, h3, h4⟩
  · cases h with
    | tup s a z => exact ⟨_, _, rfl, l.sqT s, a, z⟩
  · cases h4
theorem Rb.non (h : Rb ω K G H v .none) : v = .non := by
  rcases h with h | ⟨o, u, h1, h2, h3, h4⟩
  · cases h; rfl
  · cases h4
theorem Rb.bl {b : Bool} (h : Rb ω K G H v (.bool b)) : v = .bl b := by
  rcases h with h | ⟨o, u, h1, h2, h3, h4⟩
  · cases h; rfl
  · cases h4
theorem Rb.int {i : Int} (h : Rb ω K G H v (.int i)) : v = .int i := by
  rcases h with h | ⟨o, u, h1, h2, h3, h4⟩
  · cases h; rfl
  · cases h4
theorem Rb.str {x : Str} (h : Rb ω K G H v (.str x)) : v = .str x := by
  rcases h with h | ⟨o, u, h1, h2, h3, h4⟩
  · cases h; rfl
  · cases h4
end

/-! ### the judgements -/
section
variable (S : Sg) (Γ : En)
def WE (e : Expr) (m : M D) : Prop := ∀ (ω : Option Addr) (G0 H0 : Hp) (σ : L2.St) (G H : Hp) (P : D → Prop) (Q : VK), EnvOk ω S.K G0 H0 Γ σ G H → m P →
  (∀ d v G' H', P d → Ext ω S.K G H G' H' → Rp S.K G' v d → Q v H') → RE S e σ H Q
/-- its top may be one's own: to be looked at, not kept -/
def WB (e : Expr) (m : M D) : Prop := ∀ (ω : Option Addr) (G0 H0 : Hp) (σ : L2.St) (G H : Hp) (P : D → Prop) (Q : VK), EnvOk ω S.K G0 H0 Γ σ G H → m P →
  (∀ d v G' H', P d → Ext ω S.K G H G' H' → Rb ω S.K G' H' v d → Q v H') → RE S e σ H Q
def WT (e : Expr) (m : M Bool) : Prop := ∀ (ω : Option Addr) (G0 H0 : Hp) (σ : L2.St) (G H : Hp) (P : Bool → Prop) (Q : Bool → Hp → Prop), EnvOk ω S.K G0 H0 Γ σ G H → m P →
  (∀ b G' H', P b → Ext ω S.K G H G' H' → Q b H') → RT S e σ H Q
/-- what an argument stands for -/
def WA (es : List Expr) (m : M (List D)) : Prop := ∀ (ω : Option Addr) (G0 H0 : Hp) (σ : L2.St) (G H : Hp) (P : List D → Prop) (Q : List V → Hp → Prop), EnvOk ω S.K G0 H0 Γ σ G H → m P →
  (∀ ds vs G' H', P ds → Ext ω S.K G H G' H' → RpA S.K G' vs ds → ds.length = es.length → Q vs H') → RA S es σ H Q
end
inductive Out where
  | nx (Γ : En) | rt (d : D) | bk (Γ : En) | ct (Γ : En)
def Post (ω : Option Addr) (K : PySem.W.Frag) (G0 H0 : Hp) (Dn : Ends) : Out → Prop
  | .nx Γ => ∀ σ' G' H', EnvOk ω K G0 H0 Γ σ' G' H' → Dn.nx σ' H'
  | .rt d => ∀ v G' H', Ext ω K G0 H0 G' H' → Rp K G' v d → Dn.rt v H'
  | .bk Γ => ∀ σ' G' H', EnvOk ω K G0 H0 Γ σ' G' H' → Dn.bk σ' H'
  | .ct Γ => ∀ σ' G' H', EnvOk ω K G0 H0 Γ σ' G' H' → Dn.ct σ' H'
/-- a block, by what it comes to -/
def W {ρ : Type} (S : Sg) (Γ : En) (sts : List Stmt) (m : M ρ) (ι : ρ → Out) : Prop := ∀ (ω : Option Addr) (G0 H0 : Hp) (σ : L2.St) (G H : Hp) (P : ρ → Prop) (Dn : Ends), EnvOk ω S.K G0 H0 Γ σ G H → m P →
  (∀ r, P r → Post ω S.K G0 H0 Dn (ι r)) → RS S sts Dn σ H

section
variable {S : Sg} {Γ : En} {e a b : Expr} {m ma mb : M D} {pos : Pos}
theorem WE.wb (h : WE S Γ e m) : WB S Γ e m := fun ω G0 H0 σ G H P Q E hm q => h ω G0 H0 σ G H P Q E hm fun d v G' H' hP x r => q d v G' H' hP x (.inl r)

/-! ### names and constants -/
structure VarAt (S : Sg) (i : Nat) (x : Str) : Prop where
  n : S.N[i]? = some x
  v : Vis S.sc x
  d : (x == ("__debug__" : Str)) = false
  c : (x == ("__classdict__" : Str)) = false
theorem we_var {i : Nat} {x : Str} {d : D} (h : VarAt S i x) (hi : Γ[i]? = some (some (.val d))) : WE S Γ (.Name x pos) (M.pure d) := by
  intro ω G0 H0 σ G H P Q E hm q
  obtain ⟨v, h1, h2⟩ := E.sl i _ hi
  exact ⟨tVar i, fun X hX => pe_var (by rw [hX.N]; exact h.n) (by rw [hX.sc]; exact h.v) h.d h.c, v, h1, q d v G H hm E.self h2⟩
theorem wb_own {i : Nat} {x : Str} {d : D} (h : VarAt S i x) (hi : Γ[i]? = some (some (.own d))) : WB S Γ (.Name x pos) (M.pure d) := by
  intro ω G0 H0 σ G H P Q E hm q
  obtain ⟨v, h1, o, u, rfl, h2, h3, h4, h5, h6⟩ := E.sl i _ hi
  exact ⟨tVar i, fun X hX => pe_var (by rw [hX.N]; exact h.n) (by rw [hX.sc]; exact h.v) h.d h.c, .ref o, h1, q d _ G H hm E.self (.inr ⟨o, u, rfl, h2, h3, h6⟩)⟩
theorem we_int {i : Int} {j} : WE S Γ (.Constant (.int i) j pos) (M.pure (.int i)) := fun ω G0 H0 σ G H P Q E hm q => ⟨_, fun X hX => pe_int, q _ _ G H hm E.self (.int i)⟩
theorem we_bl {i : Bool} {j} : WE S Γ (.Constant (.bool i) j pos) (M.pure (.bool i)) := fun ω G0 H0 σ G H P Q E hm q => ⟨_, fun X hX => pe_bl, q _ _ G H hm E.self (.bl i)⟩
theorem we_non {j} : WE S Γ (.Constant .none j pos) (M.pure .none) := fun ω G0 H0 σ G H P Q E hm q => ⟨_, fun X hX => pe_non, q _ _ G H hm E.self .non⟩
theorem we_str {x : Str} {j} : WE S Γ (.Constant (.str x) j pos) (M.pure (.str x)) := fun ω G0 H0 σ G H P Q E hm q => ⟨_, fun X hX => pe_str, q _ _ G H hm E.self (.str x)⟩

/-! ### operators -/
def OpOk (S : Sg) (g : Value → Value → Sem Value) (f : D → D → M D) : Prop := ∀ (ω : Option Addr) (G H : Hp) (x y : D) (v u : V) (P : D → Prop) (Q : VK), Ext ω S.K G H G H → Rb ω S.K G H v x → Rb ω S.K G H u y → f x y P →
  (∀ d v' G' H', P d → Ext ω S.K G H G' H' → Rp S.K G' v' d → Q v' H') → ROp S g v u H Q
def UnOk (S : Sg) (g : Value → Sem Value) (f : D → M D) : Prop := ∀ (ω : Option Addr) (G H : Hp) (x : D) (v : V) (P : D → Prop) (Q : VK), Ext ω S.K G H G H → Rb ω S.K G H v x → f x P →
  (∀ d v' G' H', P d → Ext ω S.K G H G' H' → Rp S.K G' v' d → Q v' H') → RUn S g v H Q
def IxOk (S : Sg) (f : D → D → M D) : Prop := ∀ (ω : Option Addr) (G H : Hp) (x y : D) (v u : V) (P : D → Prop) (Q : VK), Ext ω S.K G H G H → Rb ω S.K G H v x → Rb ω S.K G H u y → f x y P →
  (∀ d v' G' H', P d → Ext ω S.K G H G' H' → Rp S.K G' v' d → Q v' H') → RIx S v u H Q
def C1Ok (S : Sg) (g : Value) (f : D → M D) : Prop := ∀ (ω : Option Addr) (G H : Hp) (x : D) (v : V) (P : D → Prop) (Q : VK), Ext ω S.K G H G H → Rb ω S.K G H v x → f x P →
  (∀ d v' G' H', P d → Ext ω S.K G H G' H' → Rp S.K G' v' d → Q v' H') → RCall S g [v] H Q
def C2Ok (S : Sg) (g : Value) (f : D → D → M D) : Prop := ∀ (ω : Option Addr) (G H : Hp) (x y : D) (v u : V) (P : D → Prop) (Q : VK), Ext ω S.K G H G H → Rb ω S.K G H v x → Rb ω S.K G H u y → f x y P →
  (∀ d v' G' H', P d → Ext ω S.K G H G' H' → Rp S.K G' v' d → Q v' H') → RCall S g [v, u] H Q
/-- two operands, from the left -/
theorem two {R : V → V → Hp → Prop} (ha : WB S Γ a ma) (hb : WB S Γ b mb) {f : D → D → M D} {ω : Option Addr} {G0 H0 G H : Hp} {σ : L2.St} {P : D → Prop} (E : EnvOk ω S.K G0 H0 Γ σ G H) (hm : ma (fun x => mb (fun y => f x y P)))
    (h : ∀ x y v u G' H', Ext ω S.K G H G' H' → Rb ω S.K G' H' v x → Rb ω S.K G' H' u y → f x y P → R v u H') : RE S a σ H fun v H1 => RE S b σ H1 fun u H2 => R v u H2 := by
  refine ha ω G0 H0 σ G H _ _ E hm fun x v G1 H1 hx e1 r1 => ?_
  refine hb ω G0 H0 σ G1 H1 _ _ (E.step e1) hx fun y u G2 H2 hy e2 r2 => ?_
  exact h x y v u G2 H2 (e1.trans e2) (r1.ext e2) r2 hy
theorem we_op {op : Operator} {f : D → D → M D} (ho : OpOk S (binaryOp op) f) (ha : WB S Γ a ma) (hb : WB S Γ b mb) : WE S Γ (.BinOp a op b pos) (ma.bind fun x => mb.bind fun y => f x y) := by
  intro ω G0 H0 σ G H P Q E hm q
  refine ⟨_, fun X hX => pe_op (ROp.op hX _) (RE.pe hX a) (RE.pe hX b), two ha hb E hm fun x y v u G' H' e r1 r2 hf => ?_⟩
  exact ho ω G' H' x y v u P Q e.self r1 r2 hf fun d v' G2 H2 hP e2 r => q d v' G2 H2 hP (e.trans e2) r
theorem we_un {op : UnaryOp} {f : D → M D} (ho : UnOk S (unaryOp op) f) (ha : WB S Γ a ma) : WE S Γ (.UnaryOp op a pos) (ma.bind fun x => f x) := by
  intro ω G0 H0 σ G H P Q E hm q
  refine ⟨_, fun X hX => pe_un (RUn.un hX _) (RE.pe hX a), ha ω G0 H0 σ G H _ _ E hm fun x v G' H' hf e r1 => ?_⟩
  exact ho ω G' H' x v P Q e.self r1 hf fun d v' G2 H2 hP e2 r => q d v' G2 H2 hP (e.trans e2) r
theorem we_cmp {op : CmpOp} {f : D → D → M D} (ho : OpOk S (compareOp op) f) (ha : WB S Γ a ma) (hb : WB S Γ b mb) (hm : behindInMarks op b = false) : WE S Γ (.Compare a [op] [b] pos) (ma.bind fun x => mb.bind fun y => f x y) := by
  intro ω G0 H0 σ G H P Q E hp q
  refine ⟨_, fun X hX => pe_cmpR (ROp.op hX _) (RE.pe hX a) (RE.pe hX b) hm, two ha hb E hp fun x y v u G' H' e r1 r2 hf => ?_⟩
  exact ho ω G' H' x y v u P Q e.self r1 r2 hf fun d v' G2 H2 hP e2 r => q d v' G2 H2 hP (e.trans e2) r
theorem we_ix {f : D → D → M D} (ho : IxOk S f) (ha : WB S Γ a ma) (hb : WB S Γ b mb) (hs : PlainIx b) : WE S Γ (.Subscript a b pos) (ma.bind fun x => mb.bind fun y => f x y) := by
  intro ω G0 H0 σ G H P Q E hp q
  refine ⟨_, fun X hX => pe_ix (RIx.ix hX) (RE.pe hX a) (RE.pe hX b) hs, two ha hb E hp fun x y v u G' H' e r1 r2 hf => ?_⟩
  exact ho ω G' H' x y v u P Q e.self r1 r2 hf fun d v' G2 H2 hP e2 r => q d v' G2 H2 hP (e.trans e2) r

/-! ### calls of built-ins -/
structure BltAt (S : Sg) (x : Str) (val : Value) : Prop where
  g : S.sc.names.lookup x = some .globalImplicit
  m : S.mg x = none
  v : bootBuiltins x = some val
  n : x ≠ "__name__"
  d : (x == ("__debug__" : Str)) = false
theorem gl_of {X : Cx} {x : Str} (hX : S.Of X) (h : S.sc.names.lookup x = some .globalImplicit) : Gl X x := by
  show X.env.scope.names.lookup x = _
  rw [hX.sc]; exact h
theorem ra_one {σ : L2.St} {H : Hp} {Q : List V → Hp → Prop} (h : RE S a σ H fun v H1 => Q [v] H1) (hs : ∀ env, starEach [a] env = (false, eval a env) :: starEach [] env) : RA S [a] σ H Q :=
  ⟨_, fun X hX => pa_cons (RE.pe hX a) pa_nil (hs _), h⟩
theorem we_c1B {id : String} {x : Str} {p : Pos} {f : D → M D} (hb : BltAt S x (.builtin id)) (ho : C1Ok S (.builtin id) f) (ha : WB S Γ a ma) (he : ∀ env, starEach [a] env = (false, eval a env) :: starEach [] env := by intro _; rfl)
    : WE S Γ (.Call (.Name x p) [a] [] pos) (ma.bind fun x => f x) := by
  intro ω G0 H0 σ G H P Q E hm q
  refine ⟨_, fun X hX => pe_callB (RCall.call hX _) (gl_of hX hb.g) (by rw [hX.mg]; exact hb.m) hb.v (pa_cons (RE.pe hX a) pa_nil (he _)) hb.n hb.d (he _) rfl, ?_⟩
  refine ha ω G0 H0 σ G H _ _ E hm fun x v G' H' hf e r1 => ?_
  exact ho ω G' H' x v P Q e.self r1 hf fun d v' G2 H2 hP e2 r => q d v' G2 H2 hP (e.trans e2) r
theorem we_c1T {T : String} {x : Str} {p : Pos} {f : D → M D} (hb : BltAt S x (.type T)) (ho : C1Ok S (.type T) f) (ha : WB S Γ a ma) (he : ∀ env, starEach [a] env = (false, eval a env) :: starEach [] env := by intro _; rfl)
    : WE S Γ (.Call (.Name x p) [a] [] pos) (ma.bind fun x => f x) := by
  intro ω G0 H0 σ G H P Q E hm q
  refine ⟨_, fun X hX => pe_callTy (RCall.call hX _) (gl_of hX hb.g) (by rw [hX.mg]; exact hb.m) hb.v (pa_cons (RE.pe hX a) pa_nil (he _)) hb.n hb.d (he _) rfl, ?_⟩
  refine ha ω G0 H0 σ G H _ _ E hm fun x v G' H' hf e r1 => ?_
  exact ho ω G' H' x v P Q e.self r1 hf fun d v' G2 H2 hP e2 r => q d v' G2 H2 hP (e.trans e2) r
theorem we_c2B {id : String} {x : Str} {p : Pos} {f : D → D → M D} (hb : BltAt S x (.builtin id)) (ho : C2Ok S (.builtin id) f) (ha : WB S Γ a ma) (hb2 : WB S Γ b mb)
    (he : ∀ env, starEach [a, b] env = (false, eval a env) :: starEach [b] env := by intro _; rfl) (he2 : ∀ env, starEach [b] env = (false, eval b env) :: starEach [] env := by intro _; rfl)
    : WE S Γ (.Call (.Name x p) [a, b] [] pos) (ma.bind fun x => mb.bind fun y => f x y) := by
  intro ω G0 H0 σ G H P Q E hm q
  refine ⟨_, fun X hX => pe_callB (RCall.call hX _) (gl_of hX hb.g) (by rw [hX.mg]; exact hb.m) hb.v (pa_cons (RE.pe hX a) (pa_cons (RE.pe hX b) pa_nil (he2 _)) (he _)) hb.n hb.d (he _) (by rw [he2]; rfl), ?_⟩
  show RE S a σ H fun v H1 => RE S b σ H1 fun u H2 => _
  refine two ha hb2 E hm fun x y v u G' H' e r1 r2 hf => ?_
  exact ho ω G' H' x y v u P Q e.self r1 r2 hf fun d v' G2 H2 hP e2 r => q d v' G2 H2 hP (e.trans e2) r

/-! ### displays -/
theorem wa_nil : WA S Γ [] (M.pure []) := fun ω G0 H0 σ G H P Q E hm q => ⟨_, fun X hX => pa_nil, q [] [] G H hm E.self .nil rfl⟩
theorem wa_cons {es : List Expr} {ms : M (List D)} (ha : WE S Γ a ma) (hs : WA S Γ es ms) (he : ∀ env, starEach (a :: es) env = (false, eval a env) :: starEach es env := by intro _; rfl) :
    WA S Γ (a :: es) (ma.bind fun x => ms.bind fun xs => M.pure (x :: xs)) := by
  intro ω G0 H0 σ G H P Q E hm q
  refine ⟨_, fun X hX => pa_cons (RE.pe hX a) (RA.pa hX es) (he _), ?_⟩
  refine ha ω G0 H0 σ G H _ _ E hm fun x v G1 H1 hx e1 r1 => ?_
  refine hs ω G0 H0 σ G1 H1 _ _ (E.step e1) hx fun xs vs G2 H2 hy e2 r2 l2 => ?_
  exact q (x :: xs) (v :: vs) G2 H2 hy (e1.trans e2) (.cons (r1.ext e2) r2) (congrArg (· + 1) l2)
theorem we_tup {es : List Expr} {ms : M (List D)} {k} (hs : WA S Γ es ms) (hl : es.length ≤ 1000 := by decide) : WE S Γ (.Tuple es k pos) (ms.bind fun ds => M.pure (.tuple ds)) := by
  intro ω G0 H0 σ G H P Q E hm q
  refine ⟨_, fun X hX => pe_tup (RA.pa hX es), ?_⟩
  refine hs ω G0 H0 σ G H _ _ E hm fun ds vs G1 H1 hx e1 r1 hd => ?_
  have z : ds.length ≤ sizeLine := by rw [hd]; exact Nat.le_of_lt (small1000 hl)
  refine ⟨by rw [r1.length]; exact z, fun p np => ?_⟩
  exact q _ _ _ _ hx (e1.trans (e1.self.new np)) (.tup (.inl (.inl upd_same)) (r1.ext (e1.self.new (o := .tup vs) np)) z)
theorem we_lst {es : List Expr} {ms : M (List D)} (hs : WA S Γ es ms) (hl : es.length ≤ 1000 := by decide) : WE S Γ (.List es pos) (ms.bind fun ds => M.pure (.list ds)) := by
  intro ω G0 H0 σ G H P Q E hm q
  refine ⟨_, fun X hX => pe_lst (RA.pa hX es), ?_⟩
  refine hs ω G0 H0 σ G H _ _ E hm fun ds vs G1 H1 hx e1 r1 hd => ?_
  have z : ds.length ≤ sizeLine := by rw [hd]; exact Nat.le_of_lt (small1000 hl)
  refine ⟨by rw [r1.length]; exact z, fun p np => ?_⟩
  exact q _ _ _ _ hx (e1.trans (e1.self.new np)) (.lst (.inl upd_same) (r1.ext (e1.self.new (o := .lst vs) np)) z)
end
end Wp
namespace Wp
open PySem PySem.Spec PyProof.Rows L2

/-! ### tests -/
def asB : D → M Bool
  | .bool b => M.pure b
  | _ => M.fail
def truthD : D → M Bool
  | .none => M.pure false
  | .bool b => M.pure b
  | .int i => M.pure (i != 0)
  | .list xs => M.pure (!xs.isEmpty)
  | .tuple xs => M.pure (!xs.isEmpty)
  | _ => M.fail
section
variable (S : Sg)
def RW (e : Expr) : TT := fun σ H Q => ∃ t, (∀ X, S.Of X → PW X e t) ∧ t σ H Q
theorem RW.pw {S : Sg} {X : Cx} (hX : S.Of X) (e : Expr) : PW X e (RW S e) := ⟨fun wh pins s σ H Q I ⟨t, h, q⟩ => (h X hX).run wh pins s σ H Q I q⟩
def WW (Γ : En) (e : Expr) (m : M Bool) : Prop := ∀ (ω : Option Addr) (G0 H0 : Hp) (σ : L2.St) (G H : Hp) (P : Bool → Prop) (Q : Bool → Hp → Prop), EnvOk ω S.K G0 H0 Γ σ G H → m P →
  (∀ b G' H', P b → Ext ω S.K G H G' H' → Q b H') → RW S e σ H Q
end
section
variable {S : Sg} {Γ : En} {e a b c : Expr} {m ma mb mc : M D} {ta tb tc : M Bool} {pos : Pos} {rest : List Expr}
theorem wt_truth (ha : WB S Γ a ma) (he : ∀ env whole, isTrue a env whole = (do let v ← whole; standAt a.pos; holding [v] (truthy v)) := by intro _ _; rfl) : WT S Γ a (ma.bind fun x => truthD x) := by
  intro ω G0 H0 σ G H P Q E hm q
  refine ⟨_, fun X hX => hX.K ▸ pt_truth (RE.pe hX a) (he _), ?_⟩
  refine ha ω G0 H0 σ G H _ _ E hm fun x v G1 H1 hx e1 r1 => ?_
  cases x with
  | none => cases r1.non; exact ⟨false, rfl, q _ _ _ hx e1⟩
  | bool k => cases r1.bl; exact ⟨k, rfl, q _ _ _ hx e1⟩
  | int k => cases r1.int; exact ⟨_, rfl, q _ _ _ hx e1⟩
  | str _ => exact False.elim hx
  | dict _ => exact False.elim hx
  | list ds =>
    obtain ⟨p, xs, rfl, s, r, z⟩ := r1.list e1.le
    refine ⟨!xs.isEmpty, .inl ⟨xs, .inl s, rfl⟩, q _ _ _ ?_ e1⟩
    have e : xs.isEmpty = ds.isEmpty := by cases r <;> rfl
    rw [e]; exact hx
  | tuple ds =>
    obtain ⟨p, xs, rfl, s, r, z⟩ := r1.tup e1.le
    refine ⟨!xs.isEmpty, .inr (.inl ⟨xs, s, rfl⟩), q _ _ _ ?_ e1⟩
    have e : xs.isEmpty = ds.isEmpty := by cases r <;> rfl
    rw [e]; exact hx
theorem wt_cmp {op : CmpOp} {f : D → D → M D} (ho : OpOk S (compareOp op) f) (ha : WB S Γ a ma) (hb : WB S Γ b mb) (hm : behindInMarks op b = false) : WT S Γ (.Compare a [op] [b] pos) (ma.bind fun x => mb.bind fun y => (f x y).bind fun z => asB z) := by
  intro ω G0 H0 σ G H P Q E hp q
  refine ⟨_, fun X hX => pt_cmpR (ROp.op hX _) (RE.pe hX a) (RE.pe hX b) hm, ?_⟩
  refine two (f := fun x y => (f x y).bind fun z => fun P' => asB z P) (P := fun _ => True) ha hb E hp fun x y v u G' H' e r1 r2 hf => ?_
  refine ho ω G' H' x y v u (fun z => asB z P) _ e.self r1 r2 hf fun d v' G2 H2 hP e2 r => ?_
  cases r <;> first | exact False.elim hP | exact ⟨_, rfl, q _ _ _ hP (e.trans e2)⟩
theorem wt_not (ha : WT S Γ a ta) : WT S Γ (.UnaryOp .Not a pos) (ta.bind fun x => M.pure (!x)) := by
  intro ω G0 H0 σ G H P Q E hp q
  exact ⟨_, fun X hX => pt_not (RT.pt hX a), ha ω G0 H0 σ G H _ _ E hp fun k G1 H1 h e1 => q _ _ _ h e1⟩
theorem wt_ww (h : WW S Γ a ta) : WT S Γ a ta := by
  intro ω G0 H0 σ G H P Q E hp q
  obtain ⟨t, h1, h2⟩ := h ω G0 H0 σ G H P Q E hp q
  exact ⟨t, fun X hX => (h1 X hX).pt, h2⟩
theorem ww_and1 (ha : WT S Γ a ta) : WW S Γ (.BoolOp .And [a] pos) ta := by
  intro ω G0 H0 σ G H P Q E hp q
  exact ⟨_, fun X hX => pw_and1 (RT.pt hX a), ha ω G0 H0 σ G H P Q E hp q⟩
theorem ww_or1 (ha : WT S Γ a ta) : WW S Γ (.BoolOp .Or [a] pos) ta := by
  intro ω G0 H0 σ G H P Q E hp q
  exact ⟨_, fun X hX => pw_or1 (RT.pt hX a), ha ω G0 H0 σ G H P Q E hp q⟩
theorem ww_and (ha : WT S Γ a ta) (hb : WW S Γ (.BoolOp .And (b :: rest) pos) tb) : WW S Γ (.BoolOp .And (a :: b :: rest) pos) (ta.bind fun x => bif x then tb else M.pure false) := by
  intro ω G0 H0 σ G H P Q E hp q
  refine ⟨_, fun X hX => pw_and (RT.pt hX a) (RW.pw hX _), ha ω G0 H0 σ G H _ _ E hp fun k G1 H1 h e1 => ?_⟩
  cases k with
  | true => rw [if_pos rfl]; exact hb ω G0 H0 σ G1 H1 P Q (E.step e1) h fun b G' H' hP e2 => q b G' H' hP (e1.trans e2)
  | false => rw [if_neg Bool.false_ne_true]; exact q _ _ _ h e1
theorem ww_or (ha : WT S Γ a ta) (hb : WW S Γ (.BoolOp .Or (b :: rest) pos) tb) : WW S Γ (.BoolOp .Or (a :: b :: rest) pos) (ta.bind fun x => bif x then M.pure true else tb) := by
  intro ω G0 H0 σ G H P Q E hp q
  refine ⟨_, fun X hX => pw_or (RT.pt hX a) (RW.pw hX _), ha ω G0 H0 σ G H _ _ E hp fun k G1 H1 h e1 => ?_⟩
  cases k with
  | false => rw [if_neg Bool.false_ne_true]; exact hb ω G0 H0 σ G1 H1 P Q (E.step e1) h fun b G' H' hP e2 => q b G' H' hP (e1.trans e2)
  | true => rw [if_pos rfl]; exact q _ _ _ h e1

/-! ### and, or, not as values; a if t else b; chains -/
theorem we_not (ha : WE S Γ a ma) : WE S Γ (.UnaryOp .Not a pos) (ma.bind fun x => (asB x).bind fun k => M.pure (.bool (!k))) := by
  intro ω G0 H0 σ G H P Q E hp q
  refine ⟨_, fun X hX => pe_not (RE.pe hX a), ha ω G0 H0 σ G H _ _ E hp fun x v G1 H1 h e1 r1 => ?_⟩
  cases r1 <;> first | exact False.elim h | exact ⟨_, rfl, q _ _ _ _ h e1 (.bl _)⟩
theorem we_one {op} (ha : WE S Γ a ma) : WE S Γ (.BoolOp op [a] pos) ma := by
  intro ω G0 H0 σ G H P Q E hp q
  exact ⟨_, fun X hX => pe_one (RE.pe hX a), ha ω G0 H0 σ G H P Q E hp q⟩
theorem we_and (ha : WE S Γ a ma) (hb : WE S Γ (.BoolOp .And (b :: rest) pos) mb) : WE S Γ (.BoolOp .And (a :: b :: rest) pos) (ma.bind fun x => (asB x).bind fun k => bif k then mb else M.pure (.bool false)) := by
  intro ω G0 H0 σ G H P Q E hp q
  refine ⟨_, fun X hX => pe_and (RE.pe hX a) (RE.pe hX _), ha ω G0 H0 σ G H _ _ E hp fun x v G1 H1 h e1 r1 => ?_⟩
  cases r1 with
  | bl k =>
    refine ⟨k, rfl, ?_⟩
    cases k with
    | true => rw [if_pos rfl]; exact hb ω G0 H0 σ G1 H1 P Q (E.step e1) h fun d v G' H' hP e2 r => q d v G' H' hP (e1.trans e2) r
    | false => rw [if_neg Bool.false_ne_true]; exact q _ _ _ _ h e1 (.bl _)
  | _ => exact False.elim h
theorem we_or (ha : WE S Γ a ma) (hb : WE S Γ (.BoolOp .Or (b :: rest) pos) mb) : WE S Γ (.BoolOp .Or (a :: b :: rest) pos) (ma.bind fun x => (asB x).bind fun k => bif k then M.pure (.bool true) else mb) := by
  intro ω G0 H0 σ G H P Q E hp q
  refine ⟨_, fun X hX => pe_or (RE.pe hX a) (RE.pe hX _), ha ω G0 H0 σ G H _ _ E hp fun x v G1 H1 h e1 r1 => ?_⟩
  cases r1 with
  | bl k =>
    refine ⟨k, rfl, ?_⟩
    cases k with
    | false => rw [if_neg Bool.false_ne_true]; exact hb ω G0 H0 σ G1 H1 P Q (E.step e1) h fun d v G' H' hP e2 r => q d v G' H' hP (e1.trans e2) r
    | true => rw [if_pos rfl]; exact q _ _ _ _ h e1 (.bl _)
  | _ => exact False.elim h
theorem we_ife (hc : WT S Γ c tc) (ha : WE S Γ a ma) (hb : WE S Γ b mb) : WE S Γ (.IfExp c a b pos) (tc.bind fun k => bif k then ma else mb) := by
  intro ω G0 H0 σ G H P Q E hp q
  refine ⟨_, fun X hX => pe_ifExp (RT.pt hX c) (RE.pe hX a) (RE.pe hX b), hc ω G0 H0 σ G H _ _ E hp fun k G1 H1 h e1 => ?_⟩
  cases k with
  | true => rw [if_pos rfl]; exact ha ω G0 H0 σ G1 H1 P Q (E.step e1) h fun d v G' H' hP e2 r => q d v G' H' hP (e1.trans e2) r
  | false => rw [if_neg Bool.false_ne_true]; exact hb ω G0 H0 σ G1 H1 P Q (E.step e1) h fun d v G' H' hP e2 r => q d v G' H' hP (e1.trans e2) r
theorem chain_go {op op' : CmpOp} {f f' : D → D → M D} (ho : OpOk S (compareOp op) f) (ho' : OpOk S (compareOp op') f') (ha : WB S Γ a ma) (hb : WB S Γ b mb) (hc : WB S Γ c mc) {ω : Option Addr} {G0 H0 : Hp} {σ : L2.St} {G H : Hp} {P : D → Prop} {Q : VK}
    (E : EnvOk ω S.K G0 H0 Γ σ G H) (hp : (ma.bind fun x => mb.bind fun y => (f x y).bind fun z => (asB z).bind fun k => bif k then mc.bind fun w => f' y w else M.pure (.bool false)) P)
    (q : ∀ d v G' H', P d → Ext ω S.K G H G' H' → Rp S.K G' v d → Q v H') : tChain (ROp S (compareOp op)) (ROp S (compareOp op')) (RE S a) (RE S b) (RE S c) σ H Q := by
  refine two (f := fun x y => (f x y).bind fun z => (asB z).bind fun k => bif k then mc.bind fun w => f' y w else M.pure (.bool false)) ha hb E hp fun x y v u G' H' e r1 r2 hf => ?_
  refine ho ω G' H' x y v u (fun z => asB z (fun k => (bif k then mc.bind fun w => f' y w else M.pure (.bool false)) P)) _ e.self r1 r2 hf fun d v' G2 H2 hP e2 r => ?_
  cases r with
  | bl k =>
    refine ⟨k, rfl, ?_⟩
    cases k with
    | false => rw [if_neg Bool.false_ne_true]; exact q _ _ _ _ hP (e.trans e2) (.bl _)
    | true =>
      rw [if_pos rfl]
      refine hc ω G0 H0 σ G2 H2 _ _ (E.step (e.trans e2)) hP fun w v3 G3 H3 h3 e3 r3 => ?_
      exact ho' ω G3 H3 y w u v3 P Q e3.self ((r2.ext e2).ext e3) r3 h3 fun d v4 G4 H4 hP e4 r4 => q d v4 G4 H4 hP (((e.trans e2).trans e3).trans e4) r4
  | _ => exact False.elim hP
theorem we_chain {op op' : CmpOp} {f f' : D → D → M D} (ho : OpOk S (compareOp op) f) (ho' : OpOk S (compareOp op') f') (ha : WB S Γ a ma) (hb : WB S Γ b mb) (hc : WB S Γ c mc) (hm : lastMarks [op, op'] [b, c] = false) :
    WE S Γ (.Compare a [op, op'] [b, c] pos) (ma.bind fun x => mb.bind fun y => (f x y).bind fun z => (asB z).bind fun k => bif k then mc.bind fun w => f' y w else M.pure (.bool false)) :=
  fun ω G0 H0 σ G H P Q E hp q => ⟨_, fun X hX => pe_chain (ROp.op hX _) (ROp.op hX _) (RE.pe hX a) (RE.pe hX b) (RE.pe hX c) hm, chain_go ho ho' ha hb hc E hp q⟩
theorem wt_chain {op op' : CmpOp} {f f' : D → D → M D} (ho : OpOk S (compareOp op) f) (ho' : OpOk S (compareOp op') f') (ha : WB S Γ a ma) (hb : WB S Γ b mb) (hc : WB S Γ c mc) (hm : lastMarks [op, op'] [b, c] = false) :
    WT S Γ (.Compare a [op, op'] [b, c] pos) ((ma.bind fun x => mb.bind fun y => (f x y).bind fun z => (asB z).bind fun k => bif k then mc.bind fun w => f' y w else M.pure (.bool false)).bind fun z => asB z) :=
  fun ω G0 H0 σ G H P Q E hp q => ⟨_, fun X hX => pt_chain (ROp.op hX _) (ROp.op hX _) (RE.pe hX a) (RE.pe hX b) (RE.pe hX c) hm, chain_go ho ho' ha hb hc (P := fun z => asB z P) E hp fun d v G' H' hP e r => by
    cases r <;> first | exact False.elim hP | exact ⟨_, rfl, q _ _ _ hP e⟩⟩

/-! ### slices -/
def asI : D → M Int
  | .int i => M.pure i
  | _ => M.fail
def RO (S : Sg) (e : Option Expr) : TO := fun σ H Q => ∃ t, (∀ X, S.Of X → PO X e t) ∧ t σ H Q
theorem RO.po {X : Cx} (hX : S.Of X) (e : Option Expr) : PO X e (RO S e) := ⟨fun pins s σ H Q I ⟨t, h, q⟩ => (h X hX).run pins s σ H Q I q⟩
def WO (S : Sg) (Γ : En) (e : Option Expr) (m : M (Option Int)) : Prop := ∀ (ω : Option Addr) (G0 H0 : Hp) (σ : L2.St) (G H : Hp) (P : Option Int → Prop) (Q : Option Int → Hp → Prop), EnvOk ω S.K G0 H0 Γ σ G H → m P →
  (∀ b G' H', P b → Ext ω S.K G H G' H' → Q b H') → RO S e σ H Q
theorem wo_none : WO S Γ none (M.pure none) := fun ω G0 H0 σ G H P Q E hp q => ⟨_, fun X hX => po_none, q _ _ _ hp E.self⟩
theorem wo_some (ha : WE S Γ a ma) : WO S Γ (some a) (ma.bind fun x => (asI x).bind fun i => M.pure (some i)) := by
  intro ω G0 H0 σ G H P Q E hp q
  refine ⟨_, fun X hX => po_some (RE.pe hX a), ha ω G0 H0 σ G H _ _ E hp fun x v G1 H1 h e1 r1 => ?_⟩
  cases r1 <;> first | exact False.elim h | exact ⟨_, rfl, q _ _ _ h e1⟩
def SlOk (S : Sg) (f : D → Option Int → Option Int → M D) : Prop := ∀ (ω : Option Addr) (G H : Hp) (x : D) (v : V) (lo hi : Option Int) (P : D → Prop) (Q : VK), Ext ω S.K G H G H → Rb ω S.K G H v x → f x lo hi P →
  (∀ d v' G' H', P d → Ext ω S.K G H G' H' → Rp S.K G' v' d → Q v' H') → RSl S v lo hi H Q
theorem we_slice {f : D → Option Int → Option Int → M D} {lo hi : Option Expr} {ml mh : M (Option Int)} {p2 : Pos} (hs : SlOk S f) (ha : WB S Γ a ma) (hl : WO S Γ lo ml) (hh : WO S Γ hi mh) :
    WE S Γ (.Subscript a (.Slice lo hi none p2) pos) (ma.bind fun x => ml.bind fun l => mh.bind fun h => f x l h) := by
  intro ω G0 H0 σ G H P Q E hp q
  refine ⟨_, fun X hX => pe_slice (RSl.sl hX) (RE.pe hX a) (RO.po hX lo) (RO.po hX hi), ha ω G0 H0 σ G H _ _ E hp fun x v G1 H1 h1 e1 r1 => ?_⟩
  refine hl ω G0 H0 σ G1 H1 _ _ (E.step e1) h1 fun l G2 H2 h2 e2 => ?_
  refine hh ω G0 H0 σ G2 H2 _ _ ((E.step e1).step e2) h2 fun u G3 H3 h3 e3 => ?_
  exact hs ω G3 H3 x v l u P Q e3.self ((r1.ext e2).ext e3) h3 fun d v' G' H' hP e4 r => q d v' G' H' hP (((e1.trans e2).trans e3).trans e4) r
end

/-! ### defs -/
inductive ArgsOk (ω : Option Addr) (K : PySem.W.Frag) (G : Hp) : List V → List Ct → Prop
  | nil : ArgsOk ω K G [] []
  | val {v : V} {vs : List V} {d : D} {cs : List Ct} : Rp K G v d → ArgsOk ω K G vs cs → ArgsOk ω K G (v :: vs) (.val d :: cs)
  | scr {a : Addr} {ns : List Int} {vs : List V} {cs : List Ct} : SqL K G a (ns.map V.int) → ArgsOk ω K G vs cs → ArgsOk ω K G (.ref a :: vs) (.scr ns :: cs)
  | drw {o : Addr} {vs : List V} {cs : List Ct} : ω = some o → ArgsOk ω K G vs cs → ArgsOk ω K G (.ref o :: vs) (.drw :: cs)
theorem ArgsOk.ext {ω : Option Addr} {K : PySem.W.Frag} {G H G' H' : Hp} {vs : List V} {cs : List Ct} (h : ArgsOk ω K G vs cs) (e : Ext ω K G H G' H') : ArgsOk ω K G' vs cs := by
  induction h with
  | nil => exact .nil
  | val r _ ih => exact .val (r.ext e) ih
  | drw r _ ih => exact .drw r ih
  | scr r _ ih => exact .scr ((Le.of_same e.gg).sqL r) ih
theorem ArgsOk.length {ω : Option Addr} {K : PySem.W.Frag} {G : Hp} {vs : List V} {cs : List Ct} (h : ArgsOk ω K G vs cs) : vs.length = cs.length := by
  induction h with
  | nil => rfl
  | val r _ ih => exact congrArg (· + 1) ih
  | drw r _ ih => exact congrArg (· + 1) ih
  | scr r _ ih => exact congrArg (· + 1) ih
theorem ArgsOk.at_ {ω : Option Addr} {K : PySem.W.Frag} {G H0 H : Hp} {vs : List V} {cs : List Ct} (h : ArgsOk ω K G vs cs) : ∀ (i : Nat) c, cs[i]? = some c → ∃ v, vs[i]? = some v ∧ CtOk ω K H0 G H c v ∧ ∀ d, c ≠ .own d := by
  induction h with
  | nil => intro i c h; simp at h
  | val r _ ih =>
    intro i c h
    cases i with
    | zero => simp at h; subst h; exact ⟨_, rfl, r, fun _ e => nomatch e⟩
    | succ i => simpa using ih i c (by simpa using h)
  | scr r _ ih =>
    intro i c h
    cases i with
    | zero => simp at h; subst h; exact ⟨_, rfl, ⟨_, rfl, r⟩, fun _ e => nomatch e⟩
    | succ i => simpa using ih i c (by simpa using h)
  | drw r _ ih =>
    intro i c h
    cases i with
    | zero => simp at h; subst h; exact ⟨_, rfl, ⟨_, rfl, r⟩, fun _ e => nomatch e⟩
    | succ i => simpa using ih i c (by simpa using h)
def spD (K : PySem.W.Frag) (n : Nat) (mf : List Ct → M D) : Sp := fun vs H Q _ => vs.length = n ∧ ∃ (ω : Option Addr) (cs : List Ct) (G : Hp) (P : D → Prop), mf cs P ∧ ArgsOk ω K G vs cs ∧ Ext ω K G H G H ∧
  ∀ d v G' H', P d → Ext ω K G H G' H' → Rp K G' v d → Q v H'
structure FnD (P : Program) (w : World) (K : PySem.W.Frag) (mg : Str → Option Value) (base : Heap) (x : Str) (j n : Nat) (mf : List Ct → M D) : Prop where
  ex : ∃ (f : Addr) (fd : FuncData) (ps : List Str), FnOk P w K mg base CX0 j f fd ps (spD K n mf) ∧ mg x = some (.ref f) ∧ PySem.W.keepIn K (.ref f) = true ∧ Binds K fd ps []
theorem start_get {N : List Str} {vs : List V} {i : Nat} {v : V} (h : vs[i]? = some v) : (L2.start N vs)[i]? = some (some v) := by
  obtain ⟨hi, e⟩ := List.getElem?_eq_some_iff.mp h
  unfold L2.start
  rw [List.getElem?_append_left (by simpa using hi), List.getElem?_map, h]
  rfl
/-- a def keeps its promise by its body -/
theorem fn_ok {P : Program} {w : World} {K : PySem.W.Frag} {mg : Str → Option Value} {base : Heap} {x qual : Str} {st : Stmt} {f : Addr} {fd : FuncData} {N ps : List Str} {k n : Nat} {mf : List Ct → M D} (F : Fun K x qual st f fd) (Sc : FnScope N ps (defScope st)) (hn : ps.length = n) (hN : n ≤ N.length)
    (hb : ∀ cs : List Ct, cs.length = n → W ⟨P, w, K, mg, base, N, defScope st, k, fun _ => true⟩ (cs.map some ++ List.replicate (N.length - n) none) (defBody st) (mf cs) Out.rt) : FnOk P w K mg base CX0 (k + 1) f fd ps (spD K n mf) := by
  refine F.ok Sc (fun vs H Q E h => by rw [hn]; exact h.1) (fun cdv A outer s H vs Q E hr h => ?_)
  obtain ⟨hl, ω, cs, G, P', hm, ha, hx, q⟩ := h
  have hcl : cs.length = n := by rw [← ha.length]; exact hl
  refine ⟨RS ⟨P, w, K, mg, base, N, defScope st, k, fun _ => true⟩ (defBody st), RS.ps ⟨rfl, rfl, rfl, rfl, rfl, rfl, rfl, rfl, hr, rfl, rfl, Sc.nd⟩ _, ?_⟩
  refine hb cs hcl ω G H (L2.start N vs) G H P' _ ⟨hx, ?_, fun i c h => ?_, fun i j d e v hi _ _ _ => ?_⟩ hm fun r hP v G' H' e rr => q r v G' H' hP e rr
  · unfold L2.start
    simp only [List.length_append, List.length_map, List.length_replicate]
    omega
  · by_cases hi : i < cs.length
    · rw [List.getElem?_append_left (by simpa using hi), List.getElem?_map] at h
      obtain ⟨c', e1, e2⟩ := Option.map_eq_some_iff.mp h
      cases e2
      obtain ⟨v, h1, h2, _⟩ := ha.at_ (H0 := H) (H := H) i c e1
      exact ⟨v, start_get h1, h2⟩
    · rw [List.getElem?_append_right (by simpa using hi)] at h
      have := List.mem_of_getElem? h
      rw [List.mem_replicate] at this
      cases this.2
  · exfalso
    by_cases hi' : i < cs.length
    · rw [List.getElem?_append_left (by simpa using hi'), List.getElem?_map] at hi
      obtain ⟨c', e1, e2⟩ := Option.map_eq_some_iff.mp hi
      cases e2
      obtain ⟨v, h1, h2, h3⟩ := ha.at_ (H0 := H) (H := H) i _ e1
      exact h3 d rfl
    · rw [List.getElem?_append_right (by simpa using hi')] at hi
      have := List.mem_of_getElem? hi
      rw [List.mem_replicate] at this
      cases this.2
section
variable {S : Sg} {Γ : En} {e a b c : Expr} {m ma mb mc : M D} {ta tb tc : M Bool} {pos : Pos} {es rest : List Expr}
def WC (S : Sg) (Γ : En) (es : List Expr) (m : M (List Ct)) : Prop := ∀ (ω : Option Addr) (G0 H0 : Hp) (σ : L2.St) (G H : Hp) (P : List Ct → Prop) (Q : List V → Hp → Prop), EnvOk ω S.K G0 H0 Γ σ G H → m P →
  (∀ cs vs G' H', P cs → Ext ω S.K G H G' H' → ArgsOk ω S.K G' vs cs → cs.length = es.length → Q vs H') → RA S es σ H Q
theorem wc_nil : WC S Γ [] (M.pure []) := fun ω G0 H0 σ G H P Q E hm q => ⟨_, fun X hX => pa_nil, q [] [] G H hm E.self .nil rfl⟩
theorem wc_val {ms : M (List Ct)} (ha : WE S Γ a ma) (hs : WC S Γ es ms) (he : ∀ env, starEach (a :: es) env = (false, eval a env) :: starEach es env := by intro _; rfl) :
    WC S Γ (a :: es) (ma.bind fun x => ms.bind fun xs => M.pure (.val x :: xs)) := by
  intro ω G0 H0 σ G H P Q E hm q
  refine ⟨_, fun X hX => pa_cons (RE.pe hX a) (RA.pa hX es) (he _), ?_⟩
  refine ha ω G0 H0 σ G H _ _ E hm fun x v G1 H1 hx e1 r1 => ?_
  refine hs ω G0 H0 σ G1 H1 _ _ (E.step e1) hx fun xs vs G2 H2 hy e2 r2 l2 => ?_
  exact q (.val x :: xs) (v :: vs) G2 H2 hy (e1.trans e2) (.val (r1.ext e2) r2) (congrArg (· + 1) l2)
theorem wc_drw {ms : M (List Ct)} {i : Nat} {x : Str} (h : VarAt S i x) (hi : Γ[i]? = some (some .drw)) (hs : WC S Γ es ms) (he : ∀ env, starEach (.Name x pos :: es) env = (false, eval (.Name x pos) env) :: starEach es env := by intro _; rfl) :
    WC S Γ (.Name x pos :: es) (ms.bind fun xs => M.pure (.drw :: xs)) := by
  intro ω G0 H0 σ G H P Q E hm q
  obtain ⟨v, h1, o, rfl, ho⟩ := E.sl i _ hi
  refine ⟨_, fun X hX => pa_cons (pe_var (i := i) (by rw [hX.N]; exact h.n) (by rw [hX.sc]; exact h.v) h.d h.c) (RA.pa hX es) (he _), .ref o, h1, ?_⟩
  refine hs ω G0 H0 σ G H _ _ E hm fun xs vs G2 H2 hy e2 r2 l2 => ?_
  exact q (.drw :: xs) (.ref o :: vs) G2 H2 hy e2 (.drw ho r2) (congrArg (· + 1) l2)
theorem wc_scr {ms : M (List Ct)} {i : Nat} {x : Str} {ns : List Int} (h : VarAt S i x) (hi : Γ[i]? = some (some (.scr ns))) (hs : WC S Γ es ms) (he : ∀ env, starEach (.Name x pos :: es) env = (false, eval (.Name x pos) env) :: starEach es env := by intro _; rfl) :
    WC S Γ (.Name x pos :: es) (ms.bind fun xs => M.pure (.scr ns :: xs)) := by
  intro ω G0 H0 σ G H P Q E hm q
  obtain ⟨v, h1, o, rfl, ho⟩ := E.sl i _ hi
  refine ⟨_, fun X hX => pa_cons (pe_var (i := i) (by rw [hX.N]; exact h.n) (by rw [hX.sc]; exact h.v) h.d h.c) (RA.pa hX es) (he _), .ref o, h1, ?_⟩
  refine hs ω G0 H0 σ G H _ _ E hm fun xs vs G2 H2 hy e2 r2 l2 => ?_
  exact q (.scr ns :: xs) (.ref o :: vs) G2 H2 hy e2 (.scr ((Le.of_same e2.gg).sqL ho) r2) (congrArg (· + 1) l2)
theorem we_call {x : Str} {j n : Nat} {mf : List Ct → M D} {p : Pos} {ms : M (List Ct)} (F : FnD S.P S.w S.K S.mg S.base x j n mf) (hg : S.sc.names.lookup x = some .globalImplicit) (hj : j ≤ S.k) (hl : (a :: es).length = n) (hs : WC S Γ (a :: es) ms)
    (hdb : (x == ("__debug__" : Str)) = false) (he : ∀ env, starEach (a :: es) env = (false, eval a env) :: starEach es env := by intro _; rfl) (hpl : ∀ env, (backTo pos (starEach es env)).any (·.1) = false := by intro _; rfl) :
    WE S Γ (.Call (.Name x p) (a :: es) [] pos) (ms.bind fun cs => mf cs) := by
  intro ω G0 H0 σ G H P Q E hm q
  obtain ⟨f, fd, ps, F, hmg, hk, hb⟩ := F.ex
  refine ⟨_, fun X hX => pe_call (X := X) (CX := CX0) (sp := spD S.K n mf) (dvs := []) (ds := []) (E := E0) (by rw [hX.prog, hX.w, hX.K, hX.mg, hX.base]; exact F.mono hj) hX.room (gl_of hX hg) (by rw [hX.mg]; exact hmg) (by rw [hX.K]; exact hk) (by rw [hX.K]; exact hb) .nil pass0 (RA.pa hX (a :: es)) hdb (he _) (hpl _), ?_⟩
  refine hs ω G0 H0 σ G H _ _ E hm fun cs vs G1 H1 hc e1 r1 l1 => ?_
  have l2 := r1.length
  show spD S.K n mf (vs ++ []) H1 Q E0
  rw [List.append_nil]
  exact ⟨by omega, ω, cs, G1, P, hc, r1, e1.self, fun d v G' H' hP e2 r => q d v G' H' hP (e1.trans e2) r⟩
end

/-! ### blocks -/
section
variable {ρ : Type} {S : Sg} {Γ Γ' : En} {e a b c : Expr} {m ma mb mc : M D} {ta tb tc : M Bool} {pos pos' : Pos} {es : List Expr} {rest A B : List Stmt} {ι : ρ → Out}
theorem rs_cons {st : Stmt} {sts : List Stmt} {t : TS} {D : Ends} {σ : L2.St} {H : Hp} (h : ∀ X, S.Of X → PS X st t) (q : t { D with nx := RS S sts D } σ H) : RS S (st :: sts) D σ H :=
  ⟨_, fun X hX => pss_cons (h X hX) (RS.ps hX sts), q⟩
/-- the end of a block; names may be forgotten -/
theorem w_nil (ks : List Bool) {r : ρ} (hr : ι r = .nx (maskE ks Γ) := by rfl) (hl : ks.length = Γ.length := by rfl) : W S Γ [] (M.pure r) ι := by
  intro ω G0 H0 σ G H P Dn E hm q
  refine ⟨_, fun X hX => pss_nil, ?_⟩
  have z := q r hm
  rw [hr] at z
  refine z σ G H (E.weak ?_ fun i c h => maskE_get h)
  have : ∀ (ks : List Bool) (Γ : En), ks.length = Γ.length → (maskE ks Γ).length = Γ.length := by
    intro ks
    induction ks with
    | nil => intro Γ h; cases Γ <;> simp_all [maskE]
    | cons k ks ih => intro Γ h; cases Γ <;> simp_all [maskE]
  exact this ks Γ hl
theorem w_ret (he : WE S Γ e me) : W S Γ (.Return (some e) pos :: rest) me Out.rt := by
  intro ω G0 H0 σ G H P Dn E hm q
  refine rs_cons (fun X hX => ps_ret (RE.pe hX e)) (he ω G0 H0 σ G H P _ E hm fun d v G1 H1 hP e1 r1 => ?_)
  exact q d hP v G1 H1 (E.ext.trans e1) r1
/-- return out of a loop's turn, or where the block's kind of end is another -/
theorem w_retF {f : D → ρ} (he : WE S Γ e me) (hf : ∀ d, ι (f d) = .rt d := by intro _; rfl) : W S Γ (.Return (some e) pos :: rest) (me.bind fun d => M.pure (f d)) ι := by
  intro ω G0 H0 σ G H P Dn E hm q
  refine rs_cons (fun X hX => ps_ret (RE.pe hX e)) (he ω G0 H0 σ G H _ _ E hm fun d v G1 H1 hP e1 r1 => ?_)
  have z := q (f d) hP
  rw [hf d] at z
  exact z v G1 H1 (E.ext.trans e1) r1
/-- a block's outcome told otherwise -/
theorem w_map {ρ' : Type} {ι' : ρ' → Out} {m : M ρ} {f : ρ → ρ'} {sts : List Stmt} (h : W S Γ sts m ι) (hf : ∀ r, ι' (f r) = ι r := by intro _; rfl) : W S Γ sts (m.bind fun r => M.pure (f r)) ι' := by
  intro ω G0 H0 σ G H P Dn E hm q
  refine h ω G0 H0 σ G H _ Dn E hm fun r hr => ?_
  rw [← hf r]
  exact q (f r) hr
theorem w_cont (ks : List Bool) {r : ρ} (hr : ι r = .ct (maskE ks Γ) := by rfl) (hl : ks.length = Γ.length := by rfl) : W S Γ (.Continue pos :: rest) (M.pure r) ι := by
  intro ω G0 H0 σ G H P Dn E hm q
  refine rs_cons (fun X hX => ps_continue) ?_
  have z := q r hm
  rw [hr] at z
  refine z σ G H (E.weak ?_ fun i c h => maskE_get h)
  have : ∀ (ks : List Bool) (Γ : En), ks.length = Γ.length → (maskE ks Γ).length = Γ.length := by
    intro ks
    induction ks with
    | nil => intro Γ h; cases Γ <;> simp_all [maskE]
    | cons k ks ih => intro Γ h; cases Γ <;> simp_all [maskE]
  exact this ks Γ hl
theorem w_brk (ks : List Bool) {r : ρ} (hr : ι r = .bk (maskE ks Γ) := by rfl) (hl : ks.length = Γ.length := by rfl) : W S Γ (.Break pos :: rest) (M.pure r) ι := by
  intro ω G0 H0 σ G H P Dn E hm q
  refine rs_cons (fun X hX => ps_break) ?_
  have z := q r hm
  rw [hr] at z
  refine z σ G H (E.weak ?_ fun i c h => maskE_get h)
  have : ∀ (ks : List Bool) (Γ : En), ks.length = Γ.length → (maskE ks Γ).length = Γ.length := by
    intro ks
    induction ks with
    | nil => intro Γ h; cases Γ <;> simp_all [maskE]
    | cons k ks ih => intro Γ h; cases Γ <;> simp_all [maskE]
  exact this ks Γ hl
structure SetAt (S : Sg) (i : Nat) (x : Str) : Prop where
  n : S.N[i]? = some x
  l : Loc S.sc x
  f : S.fn x = true ∨ S.sc.names.lookup x = some .local
theorem SetAt.fx {X : Cx} {i : Nat} {x : Str} (h : SetAt S i x) (hX : S.Of X) : X.fn x = true ∨ X.env.scope.names.lookup x = some .local := by
  rw [hX.fn, hX.sc]; exact h.f
/-- x = e -/
theorem w_set {i : Nat} {x : Str} {k : D → M ρ} (hx : SetAt S i x) (he : WE S Γ e me) (hk : ∀ d, W S (Γ.set i (some (.val d))) rest (k d) ι) (hs : ∀ env, swapsWith e (some (.Name x pos')) pos.line env = pure false := by intro _; rfl) :
    W S Γ (.Assign [.Name x pos'] e pos :: rest) (me.bind k) ι := by
  intro ω G0 H0 σ G H P Dn E hm q
  refine rs_cons (fun X hX => ps_set (i := i) (by rw [hX.N]; exact hX.nd) (by rw [hX.N]; exact hx.n) (by rw [hX.sc]; exact hx.l) (RE.pe hX e) (hs _) (hx.fx hX)) ?_
  refine he ω G0 H0 σ G H _ _ E hm fun d v G1 H1 hP e1 r1 => ?_
  exact hk d ω G0 H0 _ G1 H1 P Dn ((E.step e1).putV r1) hP q
/-- x = e, another's own thing at last -/
theorem w_expr {k : D → M ρ} (he : WE S Γ e me) (hk : ∀ d, W S Γ rest (k d) ι) (hs : ∀ env, swapsWith e none pos.line env = pure false := by intro _; rfl) : W S Γ (.Expr e pos :: rest) (me.bind k) ι := by
  intro ω G0 H0 σ G H P Dn E hm q
  refine rs_cons (fun X hX => ps_expr (RE.pe hX e) (hs _)) ?_
  refine he ω G0 H0 σ G H _ _ E hm fun d v G1 H1 hP e1 r1 => ?_
  exact hk d ω G0 H0 _ G1 H1 P Dn (E.step e1) hP q
theorem w_pass {m : M ρ} (hk : W S Γ rest m ι) : W S Γ (.Pass pos :: rest) m ι := fun ω G0 H0 σ G H P Dn E hm q =>
  rs_cons (fun X hX => ps_pass) (hk ω G0 H0 σ G H P Dn E hm q)
theorem w_frz (i : Nat) {d : D} {sts : List Stmt} {m : M ρ} (hi : Γ[i]? = some (some (.own d))) (h : W S (Γ.set i (some (.val d))) sts m ι) : W S Γ sts m ι := by
  intro ω G0 H0 σ G H P Dn E hm q
  obtain ⟨G', _, E'⟩ := E.freeze hi
  exact h ω G0 H0 σ G' H P Dn E' hm q
/-- what follows a way's end -/
def Goes (S : Sg) (rest : List Stmt) (ι : ρ → Out) (m : M ρ) : Out → Prop
  | .nx Γ' => W S Γ' rest m ι
  | o => ∃ r', m = M.pure r' ∧ ι r' = o
theorem goes_post {ρA : Type} {ιA : ρA → Out} {kA : ρA → M ρ} {sts : List Stmt} {mA : M ρA} (ha : W S Γ sts mA ιA) (hk : ∀ r, Goes S rest ι (kA r) (ιA r)) {ω : Option Addr} {G0 H0 G H : Hp} {σ : L2.St} {P : ρ → Prop} {Dn : Ends} (E : EnvOk ω S.K G0 H0 Γ σ G H) (hm : (mA.bind kA) P)
    (q : ∀ r, P r → Post ω S.K G0 H0 Dn (ι r)) : RS S sts { Dn with nx := RS S rest Dn } σ H := by
  refine ha ω G0 H0 σ G H _ _ E hm fun r hr => ?_
  have g := hk r
  generalize ιA r = o at g
  cases o with
  | nx Γ' => exact fun σ' G' H' E' => g ω G0 H0 σ' G' H' P Dn E' hr q
  | rt d =>
    obtain ⟨r', e1, e2⟩ := g
    rw [e1] at hr
    have z := q r' hr
    rw [e2] at z
    exact z
  | bk Γ' =>
    obtain ⟨r', e1, e2⟩ := g
    rw [e1] at hr
    have z := q r' hr
    rw [e2] at z
    exact z
  | ct Γ' =>
    obtain ⟨r', e1, e2⟩ := g
    rw [e1] at hr
    have z := q r' hr
    rw [e2] at z
    exact z
theorem w_if {ρA ρB : Type} {ιA : ρA → Out} {ιB : ρB → Out} {mA : M ρA} {mB : M ρB} {kA : ρA → M ρ} {kB : ρB → M ρ} (hc : WT S Γ c tc) (ha : W S Γ A mA ιA) (hb : W S Γ B mB ιB) (hA : ∀ r, Goes S rest ι (kA r) (ιA r)) (hB : ∀ r, Goes S rest ι (kB r) (ιB r)) :
    W S Γ (.If c A B pos :: rest) (tc.bind fun k => bif k then mA.bind kA else mB.bind kB) ι := by
  intro ω G0 H0 σ G H P Dn E hm q
  refine rs_cons (fun X hX => ps_if (RT.pt hX c) (RS.ps hX A) (RS.ps hX B)) ?_
  refine hc ω G0 H0 σ G H _ _ E hm fun k G1 H1 hk e1 => ?_
  cases k with
  | true => rw [if_pos rfl]; exact goes_post ha hA (E.step e1) hk q
  | false => rw [if_neg Bool.false_ne_true]; exact goes_post hb hB (E.step e1) hk q
/-- a block of nothing -/
theorem w_none : W S Γ [] (M.pure ()) (fun _ => Out.nx Γ) := fun ω G0 H0 σ G H P Dn E hm q => ⟨_, fun X hX => pss_nil, q () hm σ G H E⟩
/-- if c: (returns) -/
theorem w_ifR {m1 m2 : M D} (hc : WT S Γ c tc) (ha : W S Γ A m1 Out.rt) (hr : W S Γ rest m2 Out.rt) : W S Γ (.If c A [] pos :: rest) (tc.bind fun k => bif k then m1 else m2) Out.rt :=
  w_if (mA := m1) (mB := M.pure ()) (kA := M.pure) (kB := fun _ => m2) hc ha w_none (fun r => ⟨r, rfl, rfl⟩) fun _ => hr
/-- if c: (leaves), its end told otherwise -/
theorem w_ifE {ρA : Type} {ιA : ρA → Out} {m1 : M ρA} {m2 : M ρ} {f : ρA → ρ} (hc : WT S Γ c tc) (ha : W S Γ A m1 ιA) (hr : W S Γ rest m2 ι) (hf : ∀ r, ι (f r) = ιA r := by intro _; rfl) (hn : ∀ r Γ', ιA r ≠ .nx Γ' := by intro _ _ e; cases e) :
    W S Γ (.If c A [] pos :: rest) (tc.bind fun k => bif k then m1.bind fun r => M.pure (f r) else m2) ι :=
  w_if (mA := m1) (mB := M.pure ()) (kA := fun r => M.pure (f r)) (kB := fun _ => m2) hc ha w_none (fun r => by
    have h := hn r
    have e := hf r
    generalize ιA r = o at h e
    cases o with
    | nx Γ' => exact absurd rfl (h Γ')
    | _ => exact ⟨_, rfl, e⟩) fun _ => hr
/-- both ways meet -/
theorem w_ifJ {α : Type} {m1 m2 : M α} {g : α → En} {k : α → M ρ} (hc : WT S Γ c tc) (ha : W S Γ A m1 (fun x => .nx (g x))) (hb : W S Γ B m2 (fun x => .nx (g x))) (hr : ∀ x, W S (g x) rest (k x) ι) :
    W S Γ (.If c A B pos :: rest) ((tc.bind fun b => bif b then m1 else m2).bind k) ι := by
  intro ω G0 H0 σ G H P Dn E hm q
  refine w_if (mA := m1) (mB := m2) (kA := k) (kB := k) hc ha hb hr hr ω G0 H0 σ G H P Dn E ?_ q
  refine (show tc _ from ?_)
  have hm' : tc (fun b => (bif b then m1 else m2) fun x => k x P) := hm
  have : (fun b => (bif b then m1 else m2) fun x => k x P) = fun b => (bif b then m1.bind k else m2.bind k) P := by funext b; cases b <;> rfl
  rw [this] at hm'
  exact hm'
/-- the last statement: nothing follows -/
theorem w_ifL {m1 m2 : M ρ} (hc : WT S Γ c tc) (ha : W S Γ A m1 ι) (hb : W S Γ B m2 ι) : W S Γ [.If c A B pos] (tc.bind fun k => bif k then m1 else m2) ι := by
  intro ω G0 H0 σ G H P Dn E hm q
  refine ⟨_, fun X hX => pss_one (ps_if (RT.pt hX c) (RS.ps hX A) (RS.ps hX B)), ?_⟩
  refine hc ω G0 H0 σ G H _ _ E hm fun k G1 H1 hk e1 => ?_
  cases k with
  | true => rw [if_pos rfl]; exact ha ω G0 H0 σ G1 H1 P Dn (E.step e1) hk q
  | false => rw [if_neg Bool.false_ne_true]; exact hb ω G0 H0 σ G1 H1 P Dn (E.step e1) hk q
/-- if c: A else: B, then rest; A leaves (as told by f), B goes on -/
theorem w_ifER {ρA ρB : Type} {ιA : ρA → Out} {ιB : ρB → Out} {m1 : M ρA} {m2 : M ρB} {k : ρB → M ρ} {f : ρA → ρ} (hc : WT S Γ c tc) (ha : W S Γ A m1 ιA) (hb : W S Γ B m2 ιB) (hr : ∀ r, Goes S rest ι (k r) (ιB r)) (hf : ∀ r, ι (f r) = ιA r := by intro _; rfl) (hn : ∀ r Γ', ιA r ≠ .nx Γ' := by intro _ _ e; cases e) :
    W S Γ (.If c A B pos :: rest) (tc.bind fun k' => bif k' then m1.bind fun r => M.pure (f r) else m2.bind k) ι :=
  w_if (mA := m1) (mB := m2) (kA := fun r => M.pure (f r)) (kB := k) hc ha hb (fun r => by
    have h := hn r
    have e := hf r
    generalize ιA r = o at h e
    cases o with
    | nx Γ' => exact absurd rfl (h Γ')
    | _ => exact ⟨_, rfl, e⟩) hr
end
end Wp
namespace Wp
open PySem PySem.Spec PyProof.Rows L2

/-! ### what a loop walks -/
/-- wherever the known heap has grown from G1 (and, where the walked thing may be one's own, the heap from H1), the iterator gives the items of ds -/
def aOf (ω : Option Addr) (own : Bool) : Addr → Prop := fun b => own = true ∧ some b ≠ ω
structure ItOk (ω : Option Addr) (K : PySem.W.Frag) (A : Addr → Prop) (J : It) (ds : List D) (G1 H1 : Hp) : Prop where
  ln : ds.length ≤ sizeLine
  go : ∀ i Gc Hc, Same G1 Gc → Ext ω K Gc Hc Gc Hc → (∀ a u, A a → H1 a = some u → Hc a = some u) → i < ds.length → J.go i Hc
  stop : ∀ Gc Hc, Same G1 Gc → Ext ω K Gc Hc Gc Hc → (∀ a u, A a → H1 a = some u → Hc a = some u) → J.stop ds.length Hc
  yld : ∀ i Gc Hc v H' (hi : i < ds.length), Same G1 Gc → Ext ω K Gc Hc Gc Hc → (∀ a u, A a → H1 a = some u → Hc a = some u) → J.yld i Hc v H' → ∃ G', Ext ω K Gc Hc G' H' ∧ Rp K G' v ds[i]
def WI (S : Sg) (Γ : En) (own : Bool) (tg it : Expr) (m : M (List D)) : Prop := ∀ (ω : Option Addr) (G0 H0 : Hp) (σ : L2.St) (G H : Hp) (P : List D → Prop) (R : It → Hp → Prop), EnvOk ω S.K G0 H0 Γ σ G H → m P →
  (∀ ds J G' H', P ds → Ext ω S.K G H G' H' → ItOk ω S.K (aOf ω own) J ds G' H' → R J H') → RI S tg it σ H R
theorem ItOk.own {ω : Option Addr} {K : PySem.W.Frag} {A B : Addr → Prop} {J : It} {ds : List D} {G1 H1 : Hp} (h : ItOk ω K A J ds G1 H1) (hA : ∀ b, A b → B b) : ItOk ω K B J ds G1 H1 :=
  ⟨h.ln, fun i Gc Hc a b z => h.go i Gc Hc a b (fun c u q => z c u (hA c q)), fun Gc Hc a b z => h.stop Gc Hc a b (fun c u q => z c u (hA c q)), fun i Gc Hc v H' hi a b z => h.yld i Gc Hc v H' hi a b (fun c u q => z c u (hA c q))⟩
section
variable {S : Sg} {Γ : En} {ow : Bool} {tg it e a b c : Expr} {m ma mb mc : M D} {ms : M (List D)} {pos : Pos}
theorem WI.own (h : WI S Γ false tg it ms) : WI S Γ true tg it ms := fun ω G0 H0 σ G H P R E hm q => h ω G0 H0 σ G H P R E hm fun ds J G' H' hP e i => q ds J G' H' hP e (i.own fun b h => ⟨rfl, h.2⟩)
def asL : D → M (List D)
  | .list ds => M.pure ds
  | _ => M.fail
def asT : D → M (List D)
  | .tuple ds => M.pure ds
  | _ => M.fail
theorem it_list {ω : Option Addr} {K : PySem.W.Frag} {G1 H1 : Hp} {p : Addr} {xs : List V} {ds : List D} {A : Addr → Prop} (r : RpA K G1 xs ds) (z : ds.length ≤ sizeLine) (s : ∀ Gc Hc, Same G1 Gc → Ext ω K Gc Hc Gc Hc → (∀ a u, A a → H1 a = some u → Hc a = some u) → SqL K Hc p xs) : ItOk ω K A (Itl K p) ds G1 H1 where
  ln := z
  go := fun i Gc Hc h1 h2 h3 hi => by
    have hl := r.length
    exact ⟨xs, xs[i], s Gc Hc h1 h2 h3, List.getElem?_eq_getElem (by omega)⟩
  stop := fun Gc Hc h1 h2 h3 => ⟨xs, s Gc Hc h1 h2 h3, by rw [r.length]; exact Nat.le_refl _⟩
  yld := fun i Gc Hc v H' hi h1 h2 h3 y => by
    obtain ⟨rfl, y⟩ := y
    obtain ⟨d, e1, e2⟩ := r.get (y xs (s Gc _ h1 h2 h3))
    rw [List.getElem?_eq_getElem hi] at e1
    cases e1
    exact ⟨Gc, h2, Rp.le (h1) _ e2⟩
theorem it_tup {ω : Option Addr} {K : PySem.W.Frag} {G1 H1 : Hp} {p : Addr} {xs : List V} {ds : List D} {A : Addr → Prop} (r : RpA K G1 xs ds) (z : ds.length ≤ sizeLine) (s : ∀ Gc Hc, Same G1 Gc → Ext ω K Gc Hc Gc Hc → (∀ a u, A a → H1 a = some u → Hc a = some u) → SqT K Hc p xs) : ItOk ω K A (Itt K p) ds G1 H1 where
  ln := z
  go := fun i Gc Hc h1 h2 h3 hi => by
    have hl := r.length
    exact ⟨xs, xs[i], s Gc Hc h1 h2 h3, List.getElem?_eq_getElem (by omega)⟩
  stop := fun Gc Hc h1 h2 h3 => ⟨xs, s Gc Hc h1 h2 h3, by rw [r.length]; exact Nat.le_refl _⟩
  yld := fun i Gc Hc v H' hi h1 h2 h3 y => by
    obtain ⟨rfl, y⟩ := y
    obtain ⟨d, e1, e2⟩ := r.get (y xs (s Gc _ h1 h2 h3))
    rw [List.getElem?_eq_getElem hi] at e1
    cases e1
    exact ⟨Gc, h2, Rp.le (h1) _ e2⟩
theorem sq_frz {K : PySem.W.Frag} {ω : Option Addr} {G1 Gc Hc : Hp} {p : Addr} {xs : List V} (s : SqL K G1 p xs) (h1 : Same G1 Gc) (h2 : Ext ω K Gc Hc Gc Hc) : SqL K Hc p xs := h2.le.sqL ((Le.of_same h1).sqL s)
theorem sqt_frz {K : PySem.W.Frag} {ω : Option Addr} {G1 Gc Hc : Hp} {p : Addr} {xs : List V} (s : SqT K G1 p xs) (h1 : Same G1 Gc) (h2 : Ext ω K Gc Hc Gc Hc) : SqT K Hc p xs := h2.le.sqT ((Le.of_same h1).sqT s)
/-- over a list -/
theorem wi_list (he : WE S Γ e m) : WI S Γ ow tg e (m.bind fun x => asL x) := by
  intro ω G0 H0 σ G H P R E hm q
  refine ⟨_, fun X hX => hX.K ▸ pi_list (RE.pe hX e), he ω G0 H0 σ G H _ _ E hm fun d v G' H' hP e1 r => ?_⟩
  cases r with
  | lst s r z => exact ⟨_, rfl, ⟨_, .inl (e1.le _ _ s)⟩, q _ _ G' H' hP e1 (it_list r z fun Gc Hc h1 h2 _ => sq_frz (.inl s) h1 h2)⟩
  | _ => exact False.elim hP
theorem wi_tup (he : WE S Γ e m) : WI S Γ ow tg e (m.bind fun x => asT x) := by
  intro ω G0 H0 σ G H P R E hm q
  refine ⟨_, fun X hX => hX.K ▸ pi_tup (RE.pe hX e), he ω G0 H0 σ G H _ _ E hm fun d v G' H' hP e1 r => ?_⟩
  cases r with
  | tup s r z => exact ⟨_, rfl, ⟨_, e1.le.sqT s⟩, q _ _ G' H' hP e1 (it_tup r z fun Gc Hc h1 h2 _ => sqt_frz s h1 h2)⟩
  | _ => exact False.elim hP
/-- over a list of one's own -/
theorem wi_own (he : WB S Γ e m) : WI S Γ true tg e (m.bind fun x => asL x) := by
  intro ω G0 H0 σ G H P R E hm q
  refine ⟨_, fun X hX => hX.K ▸ pi_list (RE.pe hX e), he ω G0 H0 σ G H _ _ E hm fun d v G' H' hP e1 r => ?_⟩
  cases d with
  | list ds =>
    rcases r with r | ⟨o, u, h1, h2, h3, h4⟩
    · cases r with
      | lst s r z => exact ⟨_, rfl, ⟨_, .inl (e1.le _ _ s)⟩, q _ _ G' H' hP e1 (it_list r z fun Gc Hc h1 h2 _ => sq_frz (.inl s) h1 h2)⟩
    · cases h4 with
      | lst a z => exact ⟨o, h1, ⟨_, .inl (.inl h3)⟩, q _ _ G' H' hP e1 (it_list a z fun Gc Hc g1 g2 g3 => .inl (.inl (g3 o _ ⟨rfl, h2⟩ h3)))⟩
  | _ => exact False.elim hP
def rangeD (lo hi : Int) : List D := (List.range (hi - lo).toNat).map fun (i : Nat) => .int (lo + (i : Nat))
theorem it_range {ω : Option Addr} {K : PySem.W.Frag} {G1 H1 : Hp} {lo hi : Int} {A : Addr → Prop} (h : (hi - lo).toNat ≤ sizeLine) : ItOk ω K A (Itr lo (hi - lo).toNat) (rangeD lo hi) G1 H1 where
  ln := by simpa [rangeD] using h
  go := fun i Gc Hc h1 h2 h3 hi' => by
    simp [rangeD] at hi'
    show i < (hi - lo).toNat
    omega
  stop := fun Gc Hc h1 h2 h3 => by show _ ≤ _; simp [rangeD]
  yld := fun i Gc Hc v H' hi h1 h2 h3 y => by
    obtain ⟨rfl, y⟩ := y
    refine ⟨Gc, h2, ?_⟩
    have : (rangeD lo _)[i] = .int (lo + (i : Nat)) := by simp [rangeD]
    rw [this, y]
    exact .int _
def rngD (lo hi : Int) : M (List D) := M.need (-4611686018427387904 ≤ lo ∧ lo < 4611686018427387904 ∧ -4611686018427387904 ≤ hi ∧ hi < 4611686018427387904 ∧ hi - lo ≤ 16777216) (M.pure (rangeD lo hi))
theorem wi_range1 {p : Pos} (hb : BltAt S "range" (.type "range")) (ha : WB S Γ a ma) (hs : ∀ env, starEach [a] env = [(false, eval a env)] := by intro _; rfl) : WI S Γ ow tg (.Call (.Name "range" p) [a] [] pos) (ma.bind fun x => (asI x).bind fun i => rngD 0 i) := by
  intro ω G0 H0 σ G H P R E hm q
  refine ⟨_, fun X hX => pi_range1 (gl_of hX hb.g) (by rw [hX.mg]; exact hb.m) (pa_cons (RE.pe hX a) pa_nil (hs _)) (hs _), ?_⟩
  refine ha ω G0 H0 σ G H _ _ E hm fun x v G1 H1 hx e1 r1 => ?_
  cases x with
  | int i =>
    cases r1.int
    obtain ⟨⟨h1, h2, h3, h4, h5⟩, hx⟩ := hx
    refine ⟨i, rfl, by omega, by omega, ?_⟩
    have e : i.toNat = (i - 0).toNat := by simp
    rw [e]
    exact q _ _ G1 H1 hx e1 (it_range (by rw [sizeLine_eq]; omega))
  | _ => exact False.elim hx
theorem wi_range2 {p : Pos} (hb : BltAt S "range" (.type "range")) (ha : WB S Γ a ma) (hb2 : WB S Γ b mb) (hs : ∀ env, starEach [a, b] env = [(false, eval a env), (false, eval b env)] := by intro _; rfl) (hs2 : ∀ env, starEach [b] env = [(false, eval b env)] := by intro _; rfl) :
    WI S Γ ow tg (.Call (.Name "range" p) [a, b] [] pos) (ma.bind fun x => mb.bind fun y => (asI x).bind fun i => (asI y).bind fun j => rngD i j) := by
  intro ω G0 H0 σ G H P R E hm q
  refine ⟨_, fun X hX => pi_range2 (gl_of hX hb.g) (by rw [hX.mg]; exact hb.m) (pa_cons (RE.pe hX a) (pa_cons (RE.pe hX b) pa_nil (hs2 _)) (by rw [hs, hs2])) (hs _) (hs2 _), ?_⟩
  show RE S a σ H fun v H1 => RE S b σ H1 fun u H2 => _
  refine two (f := fun x y => fun P' => ((asI x).bind fun i => (asI y).bind fun j => rngD i j) P) (P := fun _ => True) ha hb2 E hm fun x y v u G1 H1 e1 r1 r2 hx => ?_
  cases x with
  | int i =>
    cases y with
    | int j =>
      cases r1.int
      cases r2.int
      obtain ⟨⟨h1, h2, h3, h4, h5⟩, hx⟩ := hx
      exact ⟨i, j, rfl, ⟨by omega, by omega, by omega, by omega⟩, q _ _ G1 H1 hx e1 (it_range (by rw [sizeLine_eq]; omega))⟩
    | _ => exact False.elim hx
  | _ => exact False.elim hx

/-! ### targets -/
theorem wipe_set_in {i : Nat} {x : Option V} : ∀ {vs : List Nat} {σ : L2.St}, i ∈ vs → L2.wipe (σ.set i x) vs = L2.wipe σ vs
  | [], _, h => by cases h
  | v :: vs, σ, h => by
    show (L2.wipe (σ.set i x) vs).set v none = (L2.wipe σ vs).set v none
    by_cases hv : i ∈ vs
    · rw [wipe_set_in hv]
    · have e : v = i := by
        rcases List.mem_cons.mp h with h | h
        · exact h.symm
        · exact absurd h hv
      subst e
      have out : ∀ {vs : List Nat} {σ : L2.St}, v ∉ vs → L2.wipe (σ.set v x) vs = (L2.wipe σ vs).set v x := by
        intro vs
        induction vs with
        | nil => intro σ _; rfl
        | cons w ws ih =>
          intro σ hn
          simp only [List.mem_cons, not_or] at hn
          show (L2.wipe (σ.set v x) ws).set w none = ((L2.wipe σ ws).set w none).set v x
          rw [ih hn.2, List.set_comm _ _ hn.1]
      rw [out hv, List.set_set]
theorem wipe_wipe : ∀ {vs : List Nat} {σ : L2.St}, L2.wipe (L2.wipe σ vs) vs = L2.wipe σ vs
  | [], _ => rfl
  | v :: vs, σ => by
    show (L2.wipe ((L2.wipe σ vs).set v none) vs).set v none = (L2.wipe σ vs).set v none
    by_cases hv : v ∈ vs
    · rw [wipe_set_in hv, wipe_wipe]
    · have out : ∀ {vs : List Nat} {σ : L2.St}, v ∉ vs → L2.wipe (σ.set v none) vs = (L2.wipe σ vs).set v none := by
        intro vs
        induction vs with
        | nil => intro σ _; rfl
        | cons w ws ih =>
          intro σ hn
          simp only [List.mem_cons, not_or] at hn
          show (L2.wipe (σ.set v none) ws).set w none = ((L2.wipe σ ws).set w none).set v none
          rw [ih hn.2, List.set_comm _ _ hn.1]
      rw [out hv, wipe_wipe, List.set_set]
/-- a target: what it takes a datum apart into, what it stores, where -/
def WG {α : Type} (S : Sg) (tg : Expr) (dec : D → M α) (g : α → En → En) (ts : List Nat) : Prop := ∀ (ω : Option Addr) (G0 H0 : Hp) (Γ : En) (σ : L2.St) (G H : Hp) (v : V) (d : D) (P : α → Prop) (Q : L2.St → Hp → Prop), EnvOk ω S.K G0 H0 Γ σ G H → Rp S.K G v d → dec d P →
  (∀ a σ', P a → EnvOk ω S.K G0 H0 (g a Γ) σ' G H → (∀ vs, (∀ i ∈ ts, i ∈ vs) → L2.wipe σ' vs = L2.wipe σ vs) → Q σ' H) → RG S tg v σ H Q
theorem wg_name {i : Nat} {x : Str} (hx : SetAt S i x) : WG S (.Name x pos) M.pure (fun d Γ => Γ.set i (some (.val d))) [i] := by
  intro ω G0 H0 Γ σ G H v d P Q E r hm q
  exact ⟨_, fun X hX => pg_name (i := i) (by rw [hX.N]; exact hX.nd) (by rw [hX.N]; exact hx.n) (by rw [hX.sc]; exact hx.l) (hx.fx hX), q d _ hm (E.putV r) fun vs h => wipe_set_in (h i (by simp))⟩
def un2 : D → M (D × D)
  | .tuple [a, b] => M.pure (a, b)
  | _ => M.fail
def un3 : D → M (D × D × D)
  | .tuple [a, b, c] => M.pure (a, b, c)
  | _ => M.fail
def un4 : D → M (D × D × D × D)
  | .tuple [a, b, c, d] => M.pure (a, b, c, d)
  | _ => M.fail
variable {p1 p2 p3 p4 : Pos} {kk : Nat}
theorem wg_tup2 {i j : Nat} {x y : Str} (hx : SetAt S i x) (hy : SetAt S j y) : WG S (.Tuple [.Name x p1, .Name y p2] kk pos) un2 (fun d Γ => (Γ.set i (some (.val d.1))).set j (some (.val d.2))) [i, j] := by
  intro ω G0 H0 Γ σ G H v d P Q E r hm q
  match d, hm with
  | .tuple [a, b], hm =>
    refine ⟨gTup S.K 2 (gCons (gName i) (gCons (gName j) gNil)), fun X hX => by
      have hnd : X.N.Nodup := by rw [hX.N]; exact hX.nd
      have h := pg_tup (X := X) (k := kk) (pos := pos) hX.calm (pgs_cons (pg_name (X := X) (i := i) (pos := p1) hnd (by rw [hX.N]; exact hx.n) (by rw [hX.sc]; exact hx.l) (hx.fx hX)) (pgs_cons (pg_name (X := X) (i := j) (pos := p2) hnd (by rw [hX.N]; exact hy.n) (by rw [hX.sc]; exact hy.l) (hy.fx hX)) pgs_nil))
      rw [hX.K] at h; exact h, ?_⟩
    cases r with
    | tup s a z =>
      cases a with
      | cons r1 a => cases a with
        | cons r2 a => cases a; exact ⟨_, _, rfl, E.ext.le.sqT s, rfl, _, _, rfl, _, _, rfl, rfl, q (_, _) _ hm ((E.putV r1).putV r2) fun vs h => by rw [wipe_set_in (h j (by simp)), wipe_set_in (h i (by simp))]⟩
theorem wg_tup3 {i j k : Nat} {x y z : Str} (hx : SetAt S i x) (hy : SetAt S j y) (hz : SetAt S k z) : WG S (.Tuple [.Name x p1, .Name y p2, .Name z p3] kk pos) un3 (fun d Γ => ((Γ.set i (some (.val d.1))).set j (some (.val d.2.1))).set k (some (.val d.2.2))) [i, j, k] := by
  intro ω G0 H0 Γ σ G H v d P Q E r hm q
  match d, hm with
  | .tuple [a, b, c], hm =>
    refine ⟨gTup S.K 3 (gCons (gName i) (gCons (gName j) (gCons (gName k) gNil))), fun X hX => by
      have hnd : X.N.Nodup := by rw [hX.N]; exact hX.nd
      have h := pg_tup (X := X) (k := kk) (pos := pos) hX.calm (pgs_cons (pg_name (X := X) (i := i) (pos := p1) hnd (by rw [hX.N]; exact hx.n) (by rw [hX.sc]; exact hx.l) (hx.fx hX)) (pgs_cons (pg_name (X := X) (i := j) (pos := p2) hnd (by rw [hX.N]; exact hy.n) (by rw [hX.sc]; exact hy.l) (hy.fx hX)) (pgs_cons (pg_name (X := X) (i := k) (pos := p3) hnd (by rw [hX.N]; exact hz.n) (by rw [hX.sc]; exact hz.l) (hz.fx hX)) pgs_nil)))
      rw [hX.K] at h; exact h, ?_⟩
    cases r with
    | tup s a z =>
      cases a with
      | cons r1 a => cases a with
        | cons r2 a => cases a with
          | cons r3 a => cases a; exact ⟨_, _, rfl, E.ext.le.sqT s, rfl, _, _, rfl, _, _, rfl, _, _, rfl, rfl, q (_, _, _) _ hm (((E.putV r1).putV r2).putV r3) fun vs h => by rw [wipe_set_in (h k (by simp)), wipe_set_in (h j (by simp)), wipe_set_in (h i (by simp))]⟩
theorem wg_tup4 {i j k l : Nat} {x y z w : Str} (hx : SetAt S i x) (hy : SetAt S j y) (hz : SetAt S k z) (hw : SetAt S l w) : WG S (.Tuple [.Name x p1, .Name y p2, .Name z p3, .Name w p4] kk pos) un4 (fun d Γ => (((Γ.set i (some (.val d.1))).set j (some (.val d.2.1))).set k (some (.val d.2.2.1))).set l (some (.val d.2.2.2))) [i, j, k, l] := by
  intro ω G0 H0 Γ σ G H v d P Q E r hm q
  match d, hm with
  | .tuple [a, b, c, d], hm =>
    refine ⟨gTup S.K 4 (gCons (gName i) (gCons (gName j) (gCons (gName k) (gCons (gName l) gNil)))), fun X hX => by
      have hnd : X.N.Nodup := by rw [hX.N]; exact hX.nd
      have h := pg_tup (X := X) (k := kk) (pos := pos) hX.calm (pgs_cons (pg_name (X := X) (i := i) (pos := p1) hnd (by rw [hX.N]; exact hx.n) (by rw [hX.sc]; exact hx.l) (hx.fx hX)) (pgs_cons (pg_name (X := X) (i := j) (pos := p2) hnd (by rw [hX.N]; exact hy.n) (by rw [hX.sc]; exact hy.l) (hy.fx hX)) (pgs_cons (pg_name (X := X) (i := k) (pos := p3) hnd (by rw [hX.N]; exact hz.n) (by rw [hX.sc]; exact hz.l) (hz.fx hX)) (pgs_cons (pg_name (X := X) (i := l) (pos := p4) hnd (by rw [hX.N]; exact hw.n) (by rw [hX.sc]; exact hw.l) (hw.fx hX)) pgs_nil))))
      rw [hX.K] at h; exact h, ?_⟩
    cases r with
    | tup s a z =>
      cases a with
      | cons r1 a => cases a with
        | cons r2 a => cases a with
          | cons r3 a => cases a with
            | cons r4 a => cases a; exact ⟨_, _, rfl, E.ext.le.sqT s, rfl, _, _, rfl, _, _, rfl, _, _, rfl, _, _, rfl, rfl, q (_, _, _, _) _ hm ((((E.putV r1).putV r2).putV r3).putV r4) fun vs h => by rw [wipe_set_in (h l (by simp)), wipe_set_in (h k (by simp)), wipe_set_in (h j (by simp)), wipe_set_in (h i (by simp))]⟩
end
end Wp
namespace Wp
open PySem PySem.Spec PyProof.Rows L2

section
variable {ω : Option Addr} {K : PySem.W.Frag} {G H G' H' : Hp} {d : Addr} {o : HO}
theorem Ext.poke (x : Ext ω K G H G' H') (nD : H d = none) (gD : G' d = none) (hω : some d ≠ ω) : Ext ω K G H G' (upd H' d o) where
  gg := x.gg
  hh := fun a u n e => by rw [upd_ne (ne_of_none e nD)]; exact x.hh a u n e
  le := fun a u e => by
    have ha : a ≠ d := fun z => by
      subst z
      rcases e with e | ⟨q, e⟩ <;> (rw [gD] at e; cases e)
    rcases x.le a u e with r | ⟨q, r⟩
    · exact .inl (by rw [upd_ne ha]; exact r)
    · exact .inr ⟨q, by rw [upd_ne ha]; exact r⟩
  fr := x.fr
  dr := fun b e => by
    obtain ⟨g, vd, ds, at_, h1, h2, h3⟩ := x.dr b e
    have hb : b ≠ d := fun z => hω (by rw [← z, e])
    exact ⟨g, vd, ds, at_, by rw [upd_ne hb]; exact h1, h2, h3⟩
theorem Ext.frz (x : Ext ω K G H G' H') (nD : H d = none) (hD : H' d = some o) (hm : ∀ q u, o ≠ .frz q u) (gD : G' d = none) (hω : some d ≠ ω) : Ext ω K G H (upd G' d o) H' where
  gg := fun a u e => by
    have ha : a ≠ d := fun z => by subst z; have := x.gg a u e; rw [gD] at this; cases this
    rw [upd_ne ha]; exact x.gg a u e
  hh := x.hh
  le := fun a u e => by
    by_cases ha : a = d
    · subst ha
      rcases e with e | ⟨q, e⟩
      · rw [upd_same] at e; cases e; exact .inl hD
      · rw [upd_same] at e; cases e; exact absurd rfl (hm q u)
    · refine x.le a u ?_
      rcases e with e | ⟨q, e⟩
      · rw [upd_ne ha] at e; exact .inl e
      · rw [upd_ne ha] at e; exact .inr ⟨q, e⟩
  fr := fun a u e n => by rw [upd_ne (ne_of_none e nD)]; exact x.fr a u e n
  dr := fun b e => by
    obtain ⟨g, vd, ds, at_, h1, h2, h3⟩ := x.dr b e
    have hb : b ≠ d := fun z => hω (by rw [← z, e])
    refine ⟨by rw [upd_ne hb]; exact g, vd, ds, at_, h1, h2.le (fun c u e => ?_), h3⟩
    rw [upd_ne (ne_of_none e gD)]; exact e
end

/-! ### list comprehensions -/
section
variable {S : Sg} {Γ : En} {e a b c elt tg iter : Expr} {ifs : List Expr} {m ma mb mc : M D} {ms : M (List D)} {pos : Pos} {scope : Scope} {own : List (Str × Nat)} {α : Type} {dec : D → M α} {g : α → En → En} {ts : List Nat} {tc : α → M Bool} {f : α → M D}
def WTs (S : Sg) (Γ : En) (es : List Expr) (m : M Bool) : Prop := ∀ (ω : Option Addr) (G0 H0 : Hp) (σ : L2.St) (G H : Hp) (P : Bool → Prop) (Q : Bool → Hp → Prop), EnvOk ω S.K G0 H0 Γ σ G H → m P →
  (∀ b G' H', P b → Ext ω S.K G H G' H' → Q b H') → RTs S es σ H Q
theorem wts_nil : WTs S Γ [] (M.pure true) := fun ω G0 H0 σ G H P Q E hm q => ⟨_, fun X hX => pts_nil, q _ _ _ hm E.self⟩
theorem wts_one {t : M Bool} (h : WT S Γ a t) : WTs S Γ [a] t := fun ω G0 H0 σ G H P Q E hm q => ⟨_, fun X hX => pts_one (RT.pt hX a), h ω G0 H0 σ G H P Q E hm q⟩
abbrev turnM {α : Type} (dec : D → M α) (tc : α → M Bool) (f : α → M D) : D → M (Option D) := fun x => (dec x).bind fun a => (tc a).bind fun b => bif b then (f a).bind fun y => M.pure (some y) else M.pure none
theorem lc_go {wi : TI} (hg : WG (S.blk scope) tg dec g ts) (hts : ∀ i ∈ ts, i ∈ own.map (·.2)) (ht : ∀ a, WTs (S.blk scope) (g a (wipeE Γ (own.map (·.2)))) ifs (tc a)) (he : ∀ a, WE (S.blk scope) (g a (wipeE Γ (own.map (·.2)))) elt (f a))
    {ω : Option Addr} {G0 H0 : Hp} {σ : L2.St} {G H : Hp} {P : D → Prop} {Q : VK} (E : EnvOk ω S.K G0 H0 Γ σ G H)
    (hi : ∀ (P' : List D → Prop) (R : It → Hp → Prop), ms P' → (∀ ds J G' H', P' ds → Ext ω S.K G H G' H' → ItOk ω S.K (aOf ω true) J ds G' H' → R J H') → wi σ H R) (hm : (ms.bind fun xs => (M.filM (turnM dec tc f) xs).bind fun ys => M.pure (.list ys)) P)
    (q : ∀ d v G' H', P d → Ext ω S.K G H G' H' → Rp S.K G' v d → Q v H') : tLc wi (RG (S.blk scope) tg) (RTs (S.blk scope) ifs) (RE (S.blk scope) elt) (own.map (·.2)) σ H Q := by
  generalize hvs : own.map (·.2) = vs at *
  refine hi _ _ hm fun ds J G1 H1 hP e1 it => ?_
  intro Dd nD
  have hω : some Dd ≠ ω := fun z => by
    obtain ⟨_, _, _, _, h, _⟩ := e1.dr Dd z.symm
    rw [nD] at h; cases h
  refine ⟨fun i m H => m = ds.length - i ∧ i ≤ ds.length ∧ ∃ Gc acc ads, Ext ω S.K G1 H1 Gc H ∧ H Dd = some (.lst acc) ∧ Gc Dd = none ∧ RpA S.K Gc acc ads ∧ ads.length ≤ i ∧ M.filM (turnM dec tc f) (ds.drop i) (fun ys => P (.list (ads ++ ys))),
    ⟨ds.length, by simp, Nat.zero_le _, G1, [], [], e1.self.lay nD, upd_same, e1.le.none nD, .nil, Nat.le_refl _, hP⟩, ?_⟩
  rintro i m H ⟨rfl, hi', Gc, acc, ads, x1, hD, gD, ra, la, wp⟩
  have ge : ∀ a u, aOf ω true a → H1 a = some u → H a = some u := fun a u h => x1.hh a u h.2
  by_cases hlt : i < ds.length
  · refine .inr ⟨it.go i Gc H x1.gg x1.self ge hlt, fun H => ∃ Gc acc ads, Ext ω S.K G1 H1 Gc H ∧ H Dd = some (.lst acc) ∧ Gc Dd = none ∧ RpA S.K Gc acc ads ∧ ads.length ≤ i + 1 ∧ M.filM (turnM dec tc f) (ds.drop (i + 1)) (fun ys => P (.list (ads ++ ys))), fun H' hN => ⟨ds.length - (i + 1), by omega, rfl, hlt, hN⟩, fun v H' y => ?_⟩
    obtain ⟨G2, e2, r2⟩ := it.yld i Gc H v H' hlt x1.gg x1.self ge y
    have E2 : EnvOk ω S.K G0 H0 (wipeE Γ vs) (L2.wipe σ vs) G2 H' := (E.step (e1.trans (x1.trans e2))).wipe vs
    rw [List.drop_eq_getElem_cons hlt] at wp
    refine hg ω G0 H0 (wipeE Γ vs) (L2.wipe σ vs) G2 H' v ds[i] _ _ E2 r2 wp fun a σ2 ha E3 hw => ⟨(hw vs hts).trans wipe_wipe, ?_⟩
    refine ht a ω G0 H0 σ2 G2 H' _ _ E3 ha fun b G4 H4 hb e4 => ?_
    have x4 : Ext ω S.K G1 H1 G4 H4 := (x1.trans e2).trans e4
    have hD4 : H4 Dd = some (.lst acc) := e4.hh _ _ hω (e2.hh _ _ hω hD)
    have gD4 : G4 Dd = none := e4.fr _ _ (e2.hh _ _ hω hD) (e2.fr _ _ hD gD)
    have ra4 : RpA S.K G4 acc ads := (ra.ext e2).ext e4
    cases b with
    | false =>
      rw [if_neg Bool.false_ne_true]
      exact ⟨G4, acc, ads, x4, hD4, gD4, ra4, by omega, hb⟩
    | true =>
      rw [if_pos rfl]
      refine he a ω G0 H0 σ2 G4 H4 _ _ (E3.step e4) hb fun y v5 G5 H5 hy e5 r5 => ?_
      have hD5 := e5.hh _ _ hω hD4
      have gD5 := e5.fr _ _ hD4 gD4
      refine ⟨acc, hD5, ?_, G5, acc ++ [v5], ads ++ [y], (x4.trans e5).poke nD gD5 hω, upd_same, gD5, (ra4.ext e5).append (.cons r5 .nil), by simp; omega, ?_⟩
      · have := ra.length
        have := it.ln
        omega
      · have z : (fun ys => P (.list ((ads ++ [y]) ++ ys))) = fun ys => P (.list (ads ++ y :: ys)) := by funext ys; simp
        rw [z]; exact hy
  · have ei : i = ds.length := by omega
    subst ei
    rw [List.drop_length] at wp
    have wp' : P (.list (ads ++ [])) := wp
    rw [List.append_nil] at wp'
    refine .inl ⟨it.stop Gc H x1.gg x1.self ge, q _ _ (upd Gc Dd (.lst acc)) H wp' (e1.trans (x1.frz nD hD (fun _ _ z => nomatch z) gD hω)) ?_⟩
    refine .lst (.inl upd_same) (RpA.le (fun c u e => ?_) _ ra) (Nat.le_trans la it.ln)
    rw [upd_ne (ne_of_none e gD)]; exact e
theorem filM_some {f : D → M D} : ∀ xs : List D, M.filM (fun x => (f x).bind fun y => M.pure (some y)) xs = M.mapM f xs
  | [] => rfl
  | x :: xs => by
    show (M.bind ((f x).bind fun y => M.pure (some y)) fun o => M.bind (M.filM _ xs) fun ys => M.pure (match o with | some y => y :: ys | none => ys)) = M.bind (f x) fun y => M.bind (M.mapM f xs) fun ys => M.pure (y :: ys)
    rw [filM_some xs]
    rfl
/-- [elt for tg in iter if c] -/
theorem we_lcif (hi : WI S Γ true tg iter ms) (ok : blkC S.N S.sc scope own = true) (hg : WG (S.blk scope) tg dec g ts) (hts : ∀ i ∈ ts, i ∈ own.map (·.2)) (ht : ∀ a, WT (S.blk scope) (g a (wipeE Γ (own.map (·.2)))) c (tc a)) (he : ∀ a, WE (S.blk scope) (g a (wipeE Γ (own.map (·.2)))) elt (f a))
    (hs : ∀ env x, foldedSetIterable iter env x = pure x := by intro _ _; rfl) :
    WE S Γ (.ListComp elt [⟨tg, iter, [c], 0⟩] scope pos) (ms.bind fun xs => (M.filM (fun x => (dec x).bind fun a => (tc a).bind fun b => bif b then (f a).bind fun y => M.pure (some y) else M.pure none) xs).bind fun ys => M.pure (.list ys)) := by
  intro ω G0 H0 σ G H P Q E hm q
  exact ⟨_, fun X hX => pe_lc hX.calm (by rw [hX.N]; exact hX.nd) (RI.pi hX tg iter) (blkOk_by (own := own) (by rw [hX.N, hX.sc]; exact ok)) (fun s H C cl fp => RG.pg (hX.blk s H scope C cl fp) tg) (fun s H C cl fp => RTs.pts (hX.blk s H scope C cl fp) [c]) (fun s H C cl fp => RE.pe (hX.blk s H scope C cl fp) elt) (hs _),
    lc_go hg hts (fun a => wts_one (ht a)) he E (fun P' R h1 h2 => hi ω G0 H0 σ G H P' R E h1 h2) hm q⟩
theorem mapM_eq {α : Type} {dec : D → M α} {f : α → M D} (xs : List D) : M.filM (turnM dec (fun _ => M.pure true) f) xs = M.mapM (fun x => (dec x).bind fun a => f a) xs := by
  rw [← filM_some]
  rfl
/-- [elt for tg in iter] -/
theorem we_lc (hi : WI S Γ true tg iter ms) (ok : blkC S.N S.sc scope own = true) (hg : WG (S.blk scope) tg dec g ts) (hts : ∀ i ∈ ts, i ∈ own.map (·.2)) (he : ∀ a, WE (S.blk scope) (g a (wipeE Γ (own.map (·.2)))) elt (f a))
    (hs : ∀ env x, foldedSetIterable iter env x = pure x := by intro _ _; rfl) :
    WE S Γ (.ListComp elt [⟨tg, iter, [], 0⟩] scope pos) (ms.bind fun xs => (M.mapM (fun x => (dec x).bind fun a => f a) xs).bind fun ys => M.pure (.list ys)) := by
  intro ω G0 H0 σ G H P Q E hm q
  refine ⟨_, fun X hX => pe_lc hX.calm (by rw [hX.N]; exact hX.nd) (RI.pi hX tg iter) (blkOk_by (own := own) (by rw [hX.N, hX.sc]; exact ok)) (fun s H C cl fp => RG.pg (hX.blk s H scope C cl fp) tg) (fun s H C cl fp => RTs.pts (hX.blk s H scope C cl fp) []) (fun s H C cl fp => RE.pe (hX.blk s H scope C cl fp) elt) (hs _),
    lc_go hg hts (tc := fun _ => M.pure true) (fun a => wts_nil) he E (fun P' R h1 h2 => hi ω G0 H0 σ G H P' R E h1 h2) ?_ q⟩
  have z : (fun xs => (M.filM (turnM dec (fun _ => M.pure true) f) xs).bind fun ys => M.pure (PyData.list ys)) = fun xs => (M.mapM (fun x => (dec x).bind fun a => f a) xs).bind fun ys => M.pure (PyData.list ys) := by
    funext xs; rw [mapM_eq]
  rw [z]; exact hm
/-- y = [..] on one line, y a plain local -/
structure SwapAt (S : Sg) (y : Str) (scope : Scope) : Prop where
  k : S.sc.kind = .function
  l : S.sc.names.lookup y = some .local
  s : (scope.names.any fun (n, k) => n == y && (k == .local || k == .cell)) = false
theorem w_setLc {ρ : Type} {ι : ρ → Out} {k : D → M ρ} {i : Nat} {y : Str} {rest : List Stmt} {py spos : Pos} (hy : SetAt S i y) (sw : SwapAt S y scope) (hi : WI S Γ true tg iter ms) (ok : blkC S.N S.sc scope own = true) (hg : WG (S.blk scope) tg dec g ts) (hts : ∀ i ∈ ts, i ∈ own.map (·.2)) (he : ∀ a, WE (S.blk scope) (g a (wipeE Γ (own.map (·.2)))) elt (f a))
    (hk : ∀ d, W S (Γ.set i (some (.val d))) rest (k d) ι) (hs : ∀ env x, foldedSetIterable iter env x = pure x := by intro _ _; rfl) (hl : (py.line == pos.line) = true := by rfl) :
    W S Γ (.Assign [.Name y py] (.ListComp elt [⟨tg, iter, [], 0⟩] scope pos) spos :: rest) ((ms.bind fun xs => (M.mapM (fun x => (dec x).bind fun a => f a) xs).bind fun ys => M.pure (.list ys)).bind k) ι := by
  intro ω G0 H0 σ G H P Dn E hm q
  refine rs_cons (fun X hX => ps_setLc (i := i) hX.calm (by rw [hX.N]; exact hX.nd) (by rw [hX.N]; exact hy.n) (by rw [hX.sc]; exact sw.l) (sw_true (by rw [hX.sc]; exact sw.k) (by rw [hX.sc]; exact sw.l) hl sw.s) (RI.pi hX tg iter) (blkOk_by (own := own) (by rw [hX.N, hX.sc]; exact ok)) (fun s H C cl fp => RG.pg (hX.blk s H scope C cl fp) tg) (fun s H C cl fp => RTs.pts (hX.blk s H scope C cl fp) []) (fun s H C cl fp => RE.pe (hX.blk s H scope C cl fp) elt) (hs _)) ?_
  refine lc_go hg hts (tc := fun _ => M.pure true) (P := fun d => k d P) (fun a => wts_nil) he E (fun P' R h1 h2 => hi ω G0 H0 σ G H P' R E h1 h2) ?_ fun d v G1 H1 hP e1 r1 => hk d ω G0 H0 _ G1 H1 P Dn ((E.step e1).putV r1) hP q
  have z : (fun xs => (M.filM (turnM dec (fun _ => M.pure true) f) xs).bind fun ys => M.pure (PyData.list ys)) = fun xs => (M.mapM (fun x => (dec x).bind fun a => f a) xs).bind fun ys => M.pure (PyData.list ys) := by
    funext xs; rw [mapM_eq]
  rw [z]; exact hm
theorem w_setLcif {ρ : Type} {ι : ρ → Out} {k : D → M ρ} {i : Nat} {y : Str} {rest : List Stmt} {py spos : Pos} (hy : SetAt S i y) (sw : SwapAt S y scope) (hi : WI S Γ true tg iter ms) (ok : blkC S.N S.sc scope own = true) (hg : WG (S.blk scope) tg dec g ts) (hts : ∀ i ∈ ts, i ∈ own.map (·.2)) (ht : ∀ a, WT (S.blk scope) (g a (wipeE Γ (own.map (·.2)))) c (tc a)) (he : ∀ a, WE (S.blk scope) (g a (wipeE Γ (own.map (·.2)))) elt (f a))
    (hk : ∀ d, W S (Γ.set i (some (.val d))) rest (k d) ι) (hs : ∀ env x, foldedSetIterable iter env x = pure x := by intro _ _; rfl) (hl : (py.line == pos.line) = true := by rfl) :
    W S Γ (.Assign [.Name y py] (.ListComp elt [⟨tg, iter, [c], 0⟩] scope pos) spos :: rest) ((ms.bind fun xs => (M.filM (fun x => (dec x).bind fun a => (tc a).bind fun b => bif b then (f a).bind fun y => M.pure (some y) else M.pure none) xs).bind fun ys => M.pure (.list ys)).bind k) ι := by
  intro ω G0 H0 σ G H P Dn E hm q
  refine rs_cons (fun X hX => ps_setLc (i := i) hX.calm (by rw [hX.N]; exact hX.nd) (by rw [hX.N]; exact hy.n) (by rw [hX.sc]; exact sw.l) (sw_true (by rw [hX.sc]; exact sw.k) (by rw [hX.sc]; exact sw.l) hl sw.s) (RI.pi hX tg iter) (blkOk_by (own := own) (by rw [hX.N, hX.sc]; exact ok)) (fun s H C cl fp => RG.pg (hX.blk s H scope C cl fp) tg) (fun s H C cl fp => RTs.pts (hX.blk s H scope C cl fp) [c]) (fun s H C cl fp => RE.pe (hX.blk s H scope C cl fp) elt) (hs _)) ?_
  exact lc_go hg hts (P := fun d => k d P) (fun a => wts_one (ht a)) he E (fun P' R h1 h2 => hi ω G0 H0 σ G H P' R E h1 h2) hm fun d v G1 H1 hP e1 r1 => hk d ω G0 H0 _ G1 H1 P Dn ((E.step e1).putV r1) hP q
end

/-! ### for -/
section
variable {S : Sg} {Γ : En} {e a b c tg iter : Expr} {m ma mb mc : M D} {ms : M (List D)} {pos : Pos} {α σt ρ : Type} {dec : D → M α} {g : α → En → En} {ts : List Nat} {body rest : List Stmt} {ι : ρ → Out}
def flO {σt : Type} (gs : σt → En) : Fl σt σt → Out
  | .nx s => .nx (gs s)
  | .rt d => .rt d
  | .bk s => .bk (gs s)
  | .ct s => .ct (gs s)
def Fl.go {σt ρ : Type} (k : σt → M ρ) (kr : D → M ρ) : Fl σt Empty → M ρ
  | .nx s => k s
  | .rt d => kr d
  | .bk e => nomatch e
  | .ct e => nomatch e
theorem maskE_length : ∀ (ks : List Bool) (Γ : En), ks.length = Γ.length → (maskE ks Γ).length = Γ.length
  | [], Γ, h => by cases Γ <;> simp_all [maskE]
  | k :: ks, [], h => by simp at h
  | k :: ks, c :: Γ, h => by
    show (maskE ks Γ).length + 1 = Γ.length + 1
    rw [maskE_length ks Γ (by simpa using h)]
theorem EnvOk.mask {ω : Option Addr} {K : PySem.W.Frag} {G0 H0 G H : Hp} {Γ : En} {σ : L2.St} (E : EnvOk ω K G0 H0 Γ σ G H) (ks : List Bool) (hl : ks.length = Γ.length) : EnvOk ω K G0 H0 (maskE ks Γ) σ G H := E.weak (maskE_length ks Γ hl) fun i c h => maskE_get h
theorem EnvOk.rebase {ω : Option Addr} {K : PySem.W.Frag} {G0 H0 G H : Hp} {Γ : En} {σ : L2.St} (E : EnvOk ω K G0 H0 Γ σ G H) : EnvOk ω K G H0 Γ σ G H := ⟨⟨Same.refl _, E.ext.hh, E.ext.le, fun _ _ _ h => h, E.ext.dr⟩, E.ln, E.sl, E.ds⟩
theorem Ext.unbase {ω : Option Addr} {K : PySem.W.Frag} {G0 H0 G1 H1 G H : Hp} (a : Ext ω K G0 H0 G1 H1) (x : Ext ω K G1 H0 G H) : Ext ω K G0 H0 G H := ⟨a.gg.trans x.gg, x.hh, x.le, fun b u e n => x.fr b u e (a.fr b u e n), x.dr⟩
theorem EnvOk.unbase {ω : Option Addr} {K : PySem.W.Frag} {G0 H0 G1 H1 G H : Hp} {Γ : En} {σ : L2.St} (a : Ext ω K G0 H0 G1 H1) (E : EnvOk ω K G1 H0 Γ σ G H) : EnvOk ω K G0 H0 Γ σ G H := ⟨a.unbase E.ext, E.ln, E.sl, E.ds⟩
/-- how a return out of a loop goes on -/
def RtOk (ι : ρ → Out) (kr : D → M ρ) : Prop := ∀ d P, kr d P → ∃ r, P r ∧ ι r = .rt d
theorem rt_ok {f : D → ρ} (h : ∀ d, ι (f d) = .rt d := by intro _; rfl) : RtOk ι (fun d => M.pure (f d)) := fun d P hp => ⟨f d, hp, h d⟩
theorem rt_none : RtOk ι (fun _ => M.fail) := fun d P hp => hp.elim
/-- the loop, behind what it walks -/
theorem for_core {fb : σt → α → M (Fl σt σt)} {k : σt → M ρ} {kr : D → M ρ} (gs : σt → En) {s0 : σt} (hg : WG S tg dec g ts) (hb : ∀ s a, W S (g a (gs s)) body (fb s a) (flO gs)) {A : Addr → Prop} {J : It} {ds : List D} {ω : Option Addr} {G1 H1 H0b : Hp} {σ : L2.St} {P : ρ → Prop} {Dn : Ends}
    (it : ItOk ω S.K A J ds G1 H1) (E1 : EnvOk ω S.K G1 H0b (gs s0) σ G1 H1) (per : ∀ (Γ' : En) σ' Gc Hc, EnvOk ω S.K G1 H0b Γ' σ' Gc Hc → ∀ b u, A b → H1 b = some u → Hc b = some u)
    (hP : (M.foldF (fun s x => (dec x).bind fun a => fb s a) s0 ds) (fun r => Fl.go k kr r P))
    (hnx : ∀ s σ' G' H', EnvOk ω S.K G1 H0b (gs s) σ' G' H' → k s P → Dn.nx σ' H') (hrt : ∀ d v G' H', kr d P → Ext ω S.K G1 H0b G' H' → Rp S.K G' v d → Dn.rt v H') :
    ∃ W : Nat → Nat → L2.St → Hp → Prop, (∃ m, W 0 m σ H1) ∧ ∀ i m σ H, W i m σ H →
      (J.stop i H ∧ Dn.nx σ H) ∨ (J.go i H ∧ ∃ N : L2.St → Hp → Prop, (∀ σ' H', N σ' H' → ∃ m', m' < m ∧ W (i + 1) m' σ' H') ∧ ∀ x H', J.yld i H x H' → RG S tg x σ H' fun σ2 H2 => RS S body { Dn with nx := N, ct := N, bk := Dn.nx } σ2 H2) := by
  refine ⟨fun i m σ H => m = ds.length - i ∧ i ≤ ds.length ∧ ∃ s G, EnvOk ω S.K G1 H0b (gs s) σ G H ∧ M.foldF (fun s x => (dec x).bind fun a => fb s a) s (ds.drop i) (fun r => Fl.go k kr r P), ⟨ds.length, by simp, Nat.zero_le _, s0, G1, E1, hP⟩, ?_⟩
  rintro i m σ H ⟨rfl, hi', s, Gc, Ec, wp⟩
  by_cases hlt : i < ds.length
  · refine .inr ⟨it.go i Gc H Ec.ext.gg Ec.self (per _ _ _ _ Ec) hlt, fun σ H => ∃ s G, EnvOk ω S.K G1 H0b (gs s) σ G H ∧ M.foldF (fun s x => (dec x).bind fun a => fb s a) s (ds.drop (i + 1)) (fun r => Fl.go k kr r P), fun σ' H' hN => ⟨ds.length - (i + 1), by omega, rfl, hlt, hN⟩, fun v H' y => ?_⟩
    obtain ⟨G2, e2, r2⟩ := it.yld i Gc H v H' hlt Ec.ext.gg Ec.self (per _ _ _ _ Ec) y
    rw [List.drop_eq_getElem_cons hlt] at wp
    refine hg ω G1 H0b (gs s) σ G2 H' v ds[i] _ _ (Ec.step e2) r2 wp fun a σ2 ha E3 _ => ?_
    refine hb s a ω G1 H0b σ2 G2 H' _ _ E3 ha fun r hr' => ?_
    cases r with
    | nx s' => exact fun σ' G' H' E' => ⟨s', G', E', hr'⟩
    | ct s' => exact fun σ' G' H' E' => ⟨s', G', E', hr'⟩
    | bk s' => exact fun σ' G' H' E' => hnx s' σ' G' H' E' hr'
    | rt d => exact fun v' G' H' e' r' => hrt d v' G' H' hr' e' r'
  · have ei : i = ds.length := by omega
    subst ei
    rw [List.drop_length] at wp
    exact .inl ⟨it.stop Gc H Ec.ext.gg Ec.self (per _ _ _ _ Ec), hnx s σ Gc H Ec wp⟩
theorem w_forF {fb : σt → α → M (Fl σt σt)} {k : σt → M ρ} {kr : D → M ρ} (gs : σt → En) (s0 : σt) (ks : List Bool) (hi : WI S Γ false tg iter ms) (hg : WG S tg dec g ts) (h0 : gs s0 = maskE ks Γ) (hl : ks.length = Γ.length) (hb : ∀ s a, W S (g a (gs s)) body (fb s a) (flO gs)) (hr : ∀ s, W S (gs s) rest (k s) ι)
    (hf : RtOk ι kr) (hs : ∀ env x, foldedSetIterable iter env x = pure x := by intro _ _; rfl) :
    W S Γ (.For tg iter body [] pos :: rest) (ms.bind fun xs => (M.foldF (fun s x => (dec x).bind fun a => fb s a) s0 xs).bind (Fl.go k kr)) ι := by
  intro ω G0 H0 σ G H P Dn E hm q
  refine rs_cons (fun X hX => ps_for (by rw [hX.xe]; exact PassesOwn.never) hX.calm (RI.pi hX tg iter) (RG.pg hX tg) (RS.ps hX body) (hs _)) ?_
  refine hi ω G0 H0 σ G H _ _ E hm fun ds J G1 H1 hP e1 it => ?_
  have E1 := E.step e1
  have x1 := E1.ext
  refine for_core gs (s0 := s0) hg hb (Dn := { Dn with nx := RS S rest Dn }) it (by rw [h0]; exact E1.rebase.mask ks hl) (fun Γ' σ' Gc Hc _ b u hA => absurd hA.1 Bool.false_ne_true) hP (fun s σ' G' H' E' hk => hr s ω G0 H0 σ' G' H' P Dn (E'.unbase x1) hk q) fun d v G' H' hk e' r' => ?_
  obtain ⟨r, h1, h2⟩ := hf d P hk
  have z := q r h1
  rw [h2] at z
  exact z v G' H' (x1.unbase e') r'
theorem foldF_nx {α σt ρ : Type} {f : σt → α → M σt} {k : σt → M ρ} {kr : D → M ρ} : ∀ (xs : List α) (s : σt), (M.foldF (fun s x => (f s x).bind fun s' => M.pure (.nx s')) s xs).bind (Fl.go k kr) = (M.fold f s xs).bind k
  | [], s => rfl
  | x :: xs, s => by
    funext P
    show (f s x) (fun s' => M.foldF (fun s x => (f s x).bind fun s' => M.pure (.nx s')) s' xs (fun r => Fl.go k kr r P)) = (f s x) (fun s' => M.fold f s' xs (fun s => k s P))
    have : (fun s' => M.foldF (fun s x => (f s x).bind fun s' => M.pure (.nx s')) s' xs (fun r => Fl.go k kr r P)) = fun s' => M.fold f s' xs (fun s => k s P) := by
      funext s'
      exact congrFun (foldF_nx xs s') P
    rw [this]
/-- a for whose turns all go to their ends -/
theorem w_for {fb : σt → α → M σt} {k : σt → M ρ} (gs : σt → En) (s0 : σt) (ks : List Bool) (hi : WI S Γ false tg iter ms) (hg : WG S tg dec g ts) (h0 : gs s0 = maskE ks Γ) (hl : ks.length = Γ.length) (hb : ∀ s a, W S (g a (gs s)) body (fb s a) (fun s' => .nx (gs s'))) (hr : ∀ s, W S (gs s) rest (k s) ι)
    (hs : ∀ env x, foldedSetIterable iter env x = pure x := by intro _ _; rfl) :
    W S Γ (.For tg iter body [] pos :: rest) (ms.bind fun xs => (M.fold (fun s x => (dec x).bind fun a => fb s a) s0 xs).bind k) ι := by
  have h := w_forF (ι := ι) (pos := pos) (fb := fun s a => (fb s a).bind fun s' => M.pure (.nx s')) (k := k) (kr := fun _ => M.fail) gs s0 ks hi hg h0 hl (fun s a => w_map (hb s a)) hr rt_none hs
  have z : (ms.bind fun xs => (M.fold (fun s x => (dec x).bind fun a => fb s a) s0 xs).bind k) = ms.bind fun xs => (M.foldF (fun s x => (dec x).bind fun a => (fb s a).bind fun s' => M.pure (.nx s')) s0 xs).bind (Fl.go k fun _ => M.fail) := by
    have : (fun xs => (M.fold (fun s x => (dec x).bind fun a => fb s a) s0 xs).bind k) = fun xs => (M.foldF (fun s x => (dec x).bind fun a => (fb s a).bind fun s' => M.pure (.nx s')) s0 xs).bind (Fl.go k fun _ => M.fail) := by
      funext xs
      exact (foldF_nx (f := fun s x => (dec x).bind fun a => fb s a) xs s0).symm
    rw [this]
  rw [z]
  exact h

/-! ### while -/
theorem w_while {tc : σt → M Bool} {fb : σt → M σt} {k : σt → M ρ} (gs : σt → En) (s0 : σt) (ks : List Bool) (h0 : gs s0 = maskE ks Γ) (hl : ks.length = Γ.length) (hc : ∀ s, WT S (gs s) c (tc s)) (hb : ∀ s, W S (gs s) body (fb s) (fun s' => .nx (gs s'))) (hr : ∀ s, W S (gs s) rest (k s) ι) :
    W S Γ (.While c body [] pos :: rest) ((M.while_ tc fb s0).bind k) ι := by
  intro ω G0 H0 σ G H P Dn E hm q
  refine rs_cons (fun X hX => ps_while (by rw [hX.xe]; exact PassesOwn.never) (RT.pt hX c) (RS.ps hX body)) ?_
  obtain ⟨n, hn⟩ := hm
  refine ⟨fun n σ H => ∃ s G, EnvOk ω S.K G0 H0 (gs s) σ G H ∧ M.iter tc fb n s (fun r => k r P), ⟨n, s0, G, by rw [h0]; exact E.mask ks hl, hn⟩, ?_⟩
  rintro m σ H ⟨s, Gc, Ec, wp⟩
  cases m with
  | zero => exact False.elim wp
  | succ m =>
    refine hc s ω G0 H0 σ Gc H _ _ Ec wp fun b G1 H1 hb1 e1 => ?_
    cases b with
    | true =>
      rw [if_pos rfl]
      refine ⟨fun σ H => ∃ s G, EnvOk ω S.K G0 H0 (gs s) σ G H ∧ M.iter tc fb m s (fun r => k r P), fun σ' H' hN => ⟨m, Nat.lt_succ_self m, hN⟩, ?_⟩
      exact hb s ω G0 H0 σ G1 H1 _ _ (Ec.step e1) hb1 fun r hr' σ' G' H' E' => ⟨r, G', E', hr'⟩
    | false =>
      rw [if_neg Bool.false_ne_true]
      exact hr s ω G0 H0 σ G1 H1 P Dn (Ec.step e1) hb1 q
end
end Wp
namespace Wp
open PySem PySem.Spec PyProof.Rows L2

section
variable {S : Sg}
/-! ### ints -/
def addD : D → D → M D
  | .int i, .int j => M.pure (.int (i + j))
  | .str x, .str y => M.need (x.length + y.length ≤ 16777216) (M.pure (.str (x ++ y)))
  | .list xs, .list ys => M.need (xs.length + ys.length ≤ 16777216) (M.pure (.list (xs ++ ys)))
  | .tuple xs, .tuple ys => M.need (xs.length + ys.length ≤ 16777216) (M.pure (.tuple (xs ++ ys)))
  | _, _ => M.fail
def subD : D → D → M D
  | .int i, .int j => M.pure (.int (i - j))
  | _, _ => M.fail
/-- a number that is not too great -/
def small (i : Int) : Prop := -1606938044258990275541962092341162602522202993782792835301376 < i ∧ i < 1606938044258990275541962092341162602522202993782792835301376
theorem small_pow {i : Int} (h : small i) : i.natAbs < 2 ^ 200 := by
  have e : (2 : Nat) ^ 200 = 1606938044258990275541962092341162602522202993782792835301376 := by decide
  rw [e]
  unfold small at h
  omega
def mulD : D → D → M D
  | .int i, .int j => M.need (small i ∧ small j) (M.pure (.int (i * j)))
  | .list xs, .int k => M.need (-1000000 ≤ k ∧ k ≤ 1000000 ∧ xs.length * k.toNat ≤ 16777216) (M.pure (.list (List.replicate k.toNat xs).flatten))
  | _, _ => M.fail
def fdivD : D → D → M D
  | .int i, .int j => M.need ((0 < j ∧ small j) ∨ (j < 0 ∧ -1073741824 < j)) (M.pure (.int (i.fdiv j)))
  | _, _ => M.fail
def modD : D → D → M D
  | .int i, .int j => M.need (j ≠ 0) (M.pure (.int (i.fmod j)))
  | _, _ => M.fail
def powD : D → D → M D
  | .int i, .int j => M.need (0 ≤ j ∧ j ≤ 1000 ∧ i.natAbs < 2 ^ 64) (M.pure (.int (i ^ j.toNat)))
  | _, _ => M.fail
def negD : D → M D
  | .int i => M.pure (.int (-i))
  | _ => M.fail
theorem RpA.nil_iff {K : PySem.W.Frag} {G : Hp} {xs : List V} {ds : List D} (r : RpA K G xs ds) : xs = [] ↔ ds = [] := by
  cases r <;> simp
theorem rd_list {X : Cx} {pins : List (Addr × Obj)} {σ : L2.St} {H : Hp} {s : Shared} {l : Addr} {xs : List V} (I : L2.Inv X pins σ H s) (h : Rd H l (.lst xs)) : xs.length ≤ sizeLine ∧ ∃ (its : List Value) (n : Nat), Vals xs its ∧ s.heap.get? l = some { cls := .type "list", data := .seq its.toArray n } := h.ok I.hok
theorem op_catL {X : Cx} : OpR X (binaryOp .Add) (fun x y H Q => ∃ l b xs zs, x = .ref l ∧ y = .ref b ∧ Rd H l (.lst xs) ∧ Rd H b (.lst zs) ∧ xs.length + zs.length ≤ sizeLine ∧ ∀ p, H p = none → Q (.ref p) (upd H p (.lst (xs ++ zs)))) := by
  intro pins s σ H x y v u Q I rx ry h
  obtain ⟨l, b, xs, zs, rfl, rfl, hH, hB, hz, q⟩ := h
  cases rx
  cases ry
  obtain ⟨z, its, n, r, e⟩ := rd_list I hH
  obtain ⟨z2, its2, n2, r2, e2⟩ := rd_list I hB
  have hl := r.length
  have hl2 := r2.length
  refine PySem.P.add_list e e2 ?_ (by rw [List.size_toArray, List.size_toArray]; omega)
  have ea : its.toArray ++ its2.toArray = (its ++ its2).toArray := by simp
  rw [ea]
  exact ⟨.ref _, _, I.lnew (t' := s.toks) (r.append r2) (by rw [List.length_append]; omega), rfl, q _ I.fresh⟩
/-- a list times an int -/
theorem op_repL {X : Cx} : OpR X (binaryOp .Mult) (fun x y H Q => ∃ l k xs, x = .ref l ∧ y = .int k ∧ Rd H l (.lst xs) ∧ -(2 ^ 63) ≤ k ∧ k < 2 ^ 63 ∧ xs.length * k.toNat ≤ sizeLine ∧
    ∀ p, H p = none → Q (.ref p) (upd H p (.lst (List.replicate k.toNat xs).flatten))) := by
  intro pins s σ H x y v u Q I rx ry h
  obtain ⟨l, k, xs, rfl, rfl, hH, h1, h2, hz, q⟩ := h
  rcases hH with hH | ⟨o, hH⟩
  · exact op_rep pins s σ H _ _ v u Q I rx ry ⟨l, k, xs, rfl, rfl, hH, h1, h2, hz, q⟩
  · cases rx
    obtain ⟨t, rfl⟩ := ry
    obtain ⟨z, its, n, r, e⟩ := rd_list I (.inr ⟨o, hH⟩)
    have hl := r.length
    have hlen : its.toArray.size * k.toNat ≤ sizeLine := by rw [List.size_toArray, ← hl]; exact hz
    have hcap : ¬ its.toArray.size * k.toNat > (2 ^ 63 - 1) / 8 := by
      have : (sizeLine : Nat) ≤ (2 ^ 63 - 1) / 8 := by decide
      omega
    have hfit : ¬ (!Builtin.List.listFitsIndex k) = true := by
      rw [fitsIndex_both h1 h2]
      exact Bool.false_ne_true
    have hlong : ¬ Builtin.List.listTooLong (its.toArray.size * k.toNat) = true := by
      rw [notLongL hlen]
      exact Bool.false_ne_true
    have hnew : List.foldl (fun x1 x2 => x1 ++ x2) #[] (List.replicate (if its.toArray.isEmpty = true then 0 else k.toNat) its.toArray) = (List.replicate k.toNat its).flatten.toArray := by
      have f0 : ∀ m : Nat, List.foldl (fun x1 x2 => x1 ++ x2) #[] (List.replicate m its.toArray) = (List.replicate m its).flatten.toArray := fun m => by
        have := foldl_rep its m []
        rw [List.nil_append] at this
        exact this
      rw [f0]
      cases its with
      | nil => simp
      | cons a r' => rw [if_neg (by simp)]
    refine wpAny_binaryOp_repeat_ref (T := "list") (U := "int") (by decide) ⟨_, e, rfl⟩ (fun s' => typeIs_int s' k t) noFill_list_mul PySem.F.fills_int_mul PySem.F.slot_int_rmul repeat_list PySem.F.slot_int_index.lookup
      (call_meets PySem.F.slot_int_rmul (typeIs_int s k t) PySem.F.entry_int_rmul (PySem.F.args_int_rmul_2 _ _) (int___rmul___int_list k t l its.toArray n)
        ⟨e, rfl, ⟨_, e, rfl⟩, call_meets PySem.F.slot_list_mul ⟨_, e, rfl⟩ PySem.F.entry_list_mul (PySem.F.args_list_mul_2 _ _) (AutoListH.list___mul___list_int_3 l its.toArray n k t hfit hcap hlong) ⟨e, ?_⟩⟩)
    rw [hnew]
    exact ⟨.ref _, _, I.lnew (t' := s.toks) (r.rep k.toNat) (by rw [PyProof.Rows.lm_len_rep_flat, Nat.mul_comm]; exact hz), rfl, q _ I.fresh⟩
theorem RpA.rep {K : PySem.W.Frag} {G : Hp} {xs : List V} {ds : List D} (r : RpA K G xs ds) : ∀ k : Nat, RpA K G (List.replicate k xs).flatten (List.replicate k ds).flatten
  | 0 => .nil
  | k + 1 => by
    rw [List.replicate_succ, List.replicate_succ, List.flatten_cons, List.flatten_cons]
    exact r.append (r.rep k)
theorem line_le {n : Nat} (h : n ≤ 16777216) : n ≤ sizeLine := by rw [sizeLine_eq]; exact h
theorem new_lst {ω : Option Addr} {K : PySem.W.Frag} {G H : Hp} {p : Addr} {xs : List V} {ds : List D} (e : Ext ω K G H G H) (np : H p = none) (r : RpA K G xs ds) (z : ds.length ≤ sizeLine) : Ext ω K G H (upd G p (.lst xs)) (upd H p (.lst xs)) ∧ Rp K (upd G p (.lst xs)) (.ref p) (.list ds) :=
  ⟨e.new np, .lst (.inl upd_same) (r.ext (e.new (o := .lst xs) np)) z⟩
theorem new_tup {ω : Option Addr} {K : PySem.W.Frag} {G H : Hp} {p : Addr} {xs : List V} {ds : List D} (e : Ext ω K G H G H) (np : H p = none) (r : RpA K G xs ds) (z : ds.length ≤ sizeLine) : Ext ω K G H (upd G p (.tup xs)) (upd H p (.tup xs)) ∧ Rp K (upd G p (.tup xs)) (.ref p) (.tuple ds) :=
  ⟨e.new np, .tup (.inl (.inl upd_same)) (r.ext (e.new (o := .tup xs) np)) z⟩
theorem rb_tup {ω : Option Addr} {K : PySem.W.Frag} {G H : Hp} {v : V} {ds : List D} (h : Rb ω K G H v (.tuple ds)) : Rp K G v (.tuple ds) := by
  rcases h with h | ⟨o, u, h1, h2, h3, h4⟩
  · exact h
  · cases h4
theorem add_ok : OpOk S (binaryOp .Add) addD := by
  intro ω G H x y v u P Q e rx ry hf q
  cases x with
  | int i => cases y with
    | int j => cases rx.int; cases ry.int; exact ⟨_, fun X hX => op_add, i, j, rfl, rfl, q _ _ _ _ hf e (.int _)⟩
    | _ => exact hf.elim
  | str i => cases y with
    | str j => cases rx.str; cases ry.str; exact ⟨_, fun X hX => op_add_str, i, j, rfl, rfl, line_le hf.1, q _ _ _ _ hf.2 e (.str _)⟩
    | _ => exact hf.elim
  | list xs => cases y with
    | list ys =>
      obtain ⟨a, as, rfl, s1, r1, _⟩ := rx.list e.le
      obtain ⟨b, bs, rfl, s2, r2, _⟩ := ry.list e.le
      have h1 := r1.length
      have h2 := r2.length
      have z := line_le hf.1
      refine ⟨_, fun X hX => op_catL, a, b, as, bs, rfl, rfl, s1, s2, by omega, fun p np => ?_⟩
      obtain ⟨e2, r⟩ := new_lst e np (r1.append r2) (by rw [List.length_append]; exact z)
      exact q _ _ _ _ hf.2 e2 r
    | _ => exact hf.elim
  | tuple xs => cases y with
    | tuple ys =>
      obtain ⟨a, as, rfl, s1, r1, _⟩ := rx.tup e.le
      obtain ⟨b, bs, rfl, s2, r2, _⟩ := ry.tup e.le
      have h1 := r1.length
      have h2 := r2.length
      have z := line_le hf.1
      refine ⟨rCatA S.K, fun X hX => hX.K ▸ op_catA, a, b, as, bs, rfl, rfl, s1, s2, by omega, fun h => ?_, fun h h' => ?_, fun _ _ p np => ?_⟩
      · have h' := r1.nil_iff.mp h
        subst h'
        exact q _ _ _ _ hf.2 e (rb_tup ry)
      · have h' := r2.nil_iff.mp h'
        subst h'
        have hf2 := hf.2
        rw [List.append_nil] at hf2
        exact q _ _ _ _ hf2 e (rb_tup rx)
      · obtain ⟨e2, r⟩ := new_tup e np (r1.append r2) (by rw [List.length_append]; exact z)
        exact q _ _ _ _ hf.2 e2 r
    | _ => exact hf.elim
  | _ => exact hf.elim
theorem sub_ok : OpOk S (binaryOp .Sub) subD := by
  intro ω G H x y v u P Q e rx ry hf q
  cases x with
  | int i => cases y with
    | int j => cases rx.int; cases ry.int; exact ⟨_, fun X hX => op_sub, i, j, rfl, rfl, q _ _ _ _ hf e (.int _)⟩
    | _ => exact hf.elim
  | _ => exact hf.elim
theorem mul_ok : OpOk S (binaryOp .Mult) mulD := by
  intro ω G H x y v u P Q e rx ry hf q
  cases x with
  | int i => cases y with
    | int j => cases rx.int; cases ry.int; exact ⟨_, fun X hX => op_mulW, i, j, rfl, rfl, wide_mul (small_pow hf.1.1) (small_pow hf.1.2) (by decide) (by decide) (by decide), q _ _ _ _ hf.2 e (.int _)⟩
    | _ => exact hf.elim
  | list xs => cases y with
    | int k =>
      cases ry.int
      obtain ⟨a, as, rfl, s1, r1, _⟩ := rx.list e.le
      obtain ⟨⟨h1, h2, h3⟩, hf⟩ := hf
      have hl := r1.length
      have z := line_le h3
      refine ⟨_, fun X hX => op_repL, a, k, as, rfl, rfl, s1, by omega, by omega, by rw [hl]; exact z, fun p np => ?_⟩
      obtain ⟨e2, r⟩ := new_lst e np (r1.rep k.toNat) (by rw [PyProof.Rows.lm_len_rep_flat, Nat.mul_comm]; exact z)
      exact q _ _ _ _ hf e2 r
    | _ => exact hf.elim
  | _ => exact hf.elim
theorem fdiv_ok : OpOk S (binaryOp .FloorDiv) fdivD := by
  intro ω G H x y v u P Q e rx ry hf q
  cases x with
  | int i => cases y with
    | int j =>
      cases rx.int; cases ry.int
      obtain ⟨h, hf⟩ := hf
      rcases h with ⟨h1, h2⟩ | ⟨h1, h2⟩
      · refine ⟨_, fun X hX => op_fdivW, i, j, rfl, rfl, wide_div h1 (small_pow h2) (by decide) (by decide), ?_⟩
        show Q (.int (i / j)) H
        rw [← Int.fdiv_eq_ediv_of_nonneg i (by omega : 0 ≤ j)]
        exact q _ _ _ _ hf e (.int _)
      · exact ⟨_, fun X hX => op_fdivN, i, j, rfl, rfl, ⟨by omega, by omega⟩, q _ _ _ _ hf e (.int _)⟩
    | _ => exact hf.elim
  | _ => exact hf.elim
theorem mod_ok : OpOk S (binaryOp .Mod) modD := by
  intro ω G H x y v u P Q e rx ry hf q
  cases x with
  | int i => cases y with
    | int j => cases rx.int; cases ry.int; exact ⟨_, fun X hX => op_modN, i, j, rfl, rfl, hf.1, q _ _ _ _ hf.2 e (.int _)⟩
    | _ => exact hf.elim
  | _ => exact hf.elim
theorem pow_ok : OpOk S (binaryOp .Pow) powD := by
  intro ω G H x y v u P Q e rx ry hf q
  cases x with
  | int i => cases y with
    | int j => cases rx.int; cases ry.int; exact ⟨_, fun X hX => op_pow, i, j, rfl, rfl, ⟨hf.1.1, by have := hf.1.2.1; omega, hf.1.2.2⟩, q _ _ _ _ hf.2 e (.int _)⟩
    | _ => exact hf.elim
  | _ => exact hf.elim
theorem neg_ok : UnOk S (unaryOp .USub) negD := by
  intro ω G H x v P Q e rx hf q
  cases x with
  | int i => cases rx.int; exact ⟨_, fun X hX => un_neg, i, rfl, q _ _ _ _ hf e (.int _)⟩
  | _ => exact hf.elim

/-! ### comparisons -/
/-! data without dicts, nested at most n deep -/
mutual
def sh : Nat → D → Bool
  | _, .none => true
  | _, .bool _ => true
  | _, .int _ => true
  | _, .str x => PyData.strOk x
  | 0, .list _ => false
  | n + 1, .list xs => shA n xs
  | 0, .tuple _ => false
  | n + 1, .tuple xs => shA n xs
  | _, .dict _ => false
def shA : Nat → List D → Bool
  | _, [] => true
  | n, x :: xs => sh n x && shA n xs
end
mutual
theorem sh_lay : ∀ (d : D) (n : Nat), sh n d = true → d.canLay0 = true ∧ d.depth ≤ n
  | .none, n, _ => by simp [PyData.canLay0, PyData.depth]
  | .bool _, n, _ => by simp [PyData.canLay0, PyData.depth]
  | .int _, n, _ => by simp [PyData.canLay0, PyData.depth]
  | .str x, n, h => by
    cases n <;> (simp [sh] at h; simp [PyData.canLay0, PyData.depth, h])
  | .list xs, 0, h => by simp [sh] at h
  | .list xs, n + 1, h => by
    have h' : shA n xs = true := by simpa [sh] using h
    have := shA_lay xs n h'
    simp [PyData.canLay0, PyData.depth, this]
  | .tuple xs, 0, h => by simp [sh] at h
  | .tuple xs, n + 1, h => by
    have h' : shA n xs = true := by simpa [sh] using h
    have := shA_lay xs n h'
    simp [PyData.canLay0, PyData.depth, this]
  | .dict _, n, h => by cases n <;> simp [sh] at h
theorem shA_lay : ∀ (xs : List D) (n : Nat), shA n xs = true → PyData.canLayAll0 xs = true ∧ PyData.depthAll xs ≤ n
  | [], n, _ => by simp [PyData.canLayAll0, PyData.depthAll]
  | x :: xs, n, h => by
    have h' : sh n x = true ∧ shA n xs = true := by simpa [shA] using h
    have h1 := sh_lay x n h'.1
    have h2 := shA_lay xs n h'.2
    simp [PyData.canLayAll0, PyData.depthAll, h1, h2]
    omega
end
theorem sh_shaped {d : D} (h : sh 16 d = true) : SeqAt.shaped d = true := by
  have := sh_lay d 16 h
  unfold SeqAt.shaped
  rw [this.1, decide_eq_true (by omega)]
  rfl
mutual
theorem Rp.dp {K : PySem.W.Frag} {G H : Hp} (l : Le G H) : ∀ (d : D) {v : V}, PyData.canLay0 d = true → Rp K G v d → Dp K H v d
  | .none, _, _, .non => .non
  | .bool _, _, _, .bl b => .bl b
  | .int _, _, _, .int i => .int i
  | .str _, _, _, .str x => .str x
  | .list ds, _, h, .lst s a z => .lst (.inl (l _ _ s)) (RpA.dp l ds (by simpa [PyData.canLay0] using h) a)
  | .tuple ds, _, h, .tup s a z => .tup (l.sqT s) (RpA.dp l ds (by simpa [PyData.canLay0] using h) a)
  | .dict es, _, h, _ => by simp [PyData.canLay0] at h
theorem RpA.dp {K : PySem.W.Frag} {G H : Hp} (l : Le G H) : ∀ (ds : List D) {vs : List V}, PyData.canLayAll0 ds = true → RpA K G vs ds → DpAll K H vs ds
  | [], _, _, .nil => .nil
  | d :: ds, _, h, .cons r t => .cons (Rp.dp l d (by have := h; simp [PyData.canLayAll0] at this; exact this.1) r) (RpA.dp l ds (by have := h; simp [PyData.canLayAll0] at this; exact this.2) t)
end
theorem Rb.dp {ω : Option Addr} {K : PySem.W.Frag} {G H : Hp} (l : Le G H) {d : D} {v : V} (h : PyData.canLay0 d = true) (r : Rb ω K G H v d) : Dp K H v d := by
  rcases r with r | ⟨o, u, rfl, h2, h3, h4⟩
  · exact r.dp l d h
  · cases h4 with
    | lst a z => exact .lst (.inl (.inl h3)) (a.dp l _ (by simpa [PyData.canLay0] using h))
    | dK a z => simp [PyData.canLay0] at h
    | dT a z => simp [PyData.canLay0] at h
def eqD (x y : D) : M D := M.need ((sh 16 x && sh 16 y) = true) (M.pure (.bool (PyData.eqv x y)))
def neD (x y : D) : M D := M.need ((sh 16 x && sh 16 y) = true) (M.pure (.bool (!PyData.eqv x y)))
theorem eq_ok : OpOk S (compareOp .Eq) eqD := by
  intro ω G H x y v u P Q e rx ry hf q
  obtain ⟨h, hf⟩ := hf
  rw [Bool.and_eq_true] at h
  have s1 := sh_shaped h.1
  have s2 := sh_shaped h.2
  exact ⟨rEqD S.K, fun X hX => hX.K ▸ op_eqD hX.room.units, x, y, rx.dp e.le (SeqAt.canLay_of_shaped s1), ry.dp e.le (SeqAt.canLay_of_shaped s2), s1, s2, q _ _ _ _ hf e (.bl _)⟩
theorem ne_ok : OpOk S (compareOp .NotEq) neD := by
  intro ω G H x y v u P Q e rx ry hf q
  obtain ⟨h, hf⟩ := hf
  rw [Bool.and_eq_true] at h
  have s1 := sh_shaped h.1
  have s2 := sh_shaped h.2
  exact ⟨rNeD S.K, fun X hX => hX.K ▸ op_neD hX.room.units, x, y, rx.dp e.le (SeqAt.canLay_of_shaped s1), ry.dp e.le (SeqAt.canLay_of_shaped s2), s1, s2, q _ _ _ _ hf e (.bl _)⟩
/-! order -/
open PySem.W in
/-- may be put in order: alike, not None, nested at most 16 deep -/
def cmpOk (x y : D) : Bool := alike x y && sh 16 x && sh 16 y && (match x with | .none => false | _ => true)
open PySem.W in
def ltD : D → D → M D
  | .int i, .int j => M.pure (.bool (decide (i < j)))
  | x, y => M.need (cmpOk x y = true) (M.pure (.bool (dataLt x y)))
open PySem.W in
def leD : D → D → M D
  | .int i, .int j => M.pure (.bool (decide (i ≤ j)))
  | x, y => M.need (cmpOk x y = true) (M.pure (.bool (!dataLt y x)))
open PySem.W in
def gtD : D → D → M D
  | .int i, .int j => M.pure (.bool (decide (j < i)))
  | x, y => M.need (cmpOk x y = true) (M.pure (.bool (dataLt y x)))
open PySem.W in
def geD : D → D → M D
  | .int i, .int j => M.pure (.bool (decide (j ≤ i)))
  | x, y => M.need (cmpOk x y = true) (M.pure (.bool (!dataLt x y)))
theorem room_cmp {X : Cx} {k : Nat} {d e : D} (hr : Room k X.A) (h1 : sh 16 d = true) (h2 : sh 16 e = true) : X.A.units + min d.depth e.depth < cLine := by
  have := (sh_lay d 16 h1).2
  have := hr.un
  omega
theorem cmpOk_parts {x y : D} (h : cmpOk x y = true) : PySem.W.alike x y = true ∧ sh 16 x = true ∧ sh 16 y = true ∧ x ≠ .none := by
  unfold cmpOk at h
  simp only [Bool.and_eq_true] at h
  refine ⟨h.1.1.1, h.1.1.2, h.1.2, fun e => ?_⟩
  subst e
  simp at h
def rCmpD (K : PySem.W.Frag) (g : D → D → Bool) : R2 := fun x y H Q => ∃ d e, Dp K H x d ∧ Dp K H y e ∧ cmpOk d e = true ∧ Q (.bl (g d e)) H
theorem op_ltD {X : Cx} {k : Nat} (hr : Room k X.A) : OpR X (compareOp .Lt) (rCmpD X.K (fun d e => PySem.W.dataLt d e)) := by
  intro pins s σ H x y v u Q I rx ry h
  obtain ⟨d, e, hd, he, hc, q⟩ := h
  obtain ⟨h1, h2, h3, h4⟩ := cmpOk_parts hc
  obtain ⟨as, r1⟩ := Dp.reads I d x v hd rx
  obtain ⟨bs, r2⟩ := Dp.reads I e y u he ry
  exact PySem.W.lt_data r1 r2 h1 h4 (room_cmp hr h2 h3) ⟨.bl _, H, I, rfl, q⟩
theorem op_leD {X : Cx} {k : Nat} (hr : Room k X.A) : OpR X (compareOp .LtE) (rCmpD X.K (fun d e => !PySem.W.dataLt e d)) := by
  intro pins s σ H x y v u Q I rx ry h
  obtain ⟨d, e, hd, he, hc, q⟩ := h
  obtain ⟨h1, h2, h3, h4⟩ := cmpOk_parts hc
  obtain ⟨as, r1⟩ := Dp.reads I d x v hd rx
  obtain ⟨bs, r2⟩ := Dp.reads I e y u he ry
  exact PySem.W.le_data r1 r2 h1 h4 (room_cmp hr h2 h3) ⟨.bl _, H, I, rfl, q⟩
theorem op_gtD {X : Cx} {k : Nat} (hr : Room k X.A) : OpR X (compareOp .Gt) (rCmpD X.K (fun d e => PySem.W.dataLt e d)) := by
  intro pins s σ H x y v u Q I rx ry h
  obtain ⟨d, e, hd, he, hc, q⟩ := h
  obtain ⟨h1, h2, h3, h4⟩ := cmpOk_parts hc
  obtain ⟨as, r1⟩ := Dp.reads I d x v hd rx
  obtain ⟨bs, r2⟩ := Dp.reads I e y u he ry
  exact PySem.W.gt_data r1 r2 h1 h4 (room_cmp hr h2 h3) ⟨.bl _, H, I, rfl, q⟩
theorem op_geD {X : Cx} {k : Nat} (hr : Room k X.A) : OpR X (compareOp .GtE) (rCmpD X.K (fun d e => !PySem.W.dataLt d e)) := by
  intro pins s σ H x y v u Q I rx ry h
  obtain ⟨d, e, hd, he, hc, q⟩ := h
  obtain ⟨h1, h2, h3, h4⟩ := cmpOk_parts hc
  obtain ⟨as, r1⟩ := Dp.reads I d x v hd rx
  obtain ⟨bs, r2⟩ := Dp.reads I e y u he ry
  exact PySem.W.ge_data r1 r2 h1 h4 (room_cmp hr h2 h3) ⟨.bl _, H, I, rfl, q⟩
theorem ltD_cases {x y : D} {P : D → Prop} (h : ltD x y P) : (∃ i j, x = .int i ∧ y = .int j ∧ P (.bool (decide (i < j)))) ∨ (cmpOk x y = true ∧ P (.bool (PySem.W.dataLt x y))) := by
  unfold ltD at h
  split at h
  · exact .inl ⟨_, _, rfl, rfl, h⟩
  · exact .inr h
theorem lt_ok : OpOk S (compareOp .Lt) ltD := by
  intro ω G H x y v u P Q e rx ry hf q
  rcases ltD_cases hf with ⟨i, j, rfl, rfl, hf⟩ | ⟨hc, hf⟩
  · cases rx.int; cases ry.int; exact ⟨_, fun X hX => op_lt, i, j, rfl, rfl, q _ _ _ _ hf e (.bl _)⟩
  · obtain ⟨h1, h2, h3, h4⟩ := cmpOk_parts hc
    exact ⟨rCmpD S.K _, fun X hX => hX.K ▸ op_ltD hX.room, x, y, rx.dp e.le (sh_lay x 16 h2).1, ry.dp e.le (sh_lay y 16 h3).1, hc, q _ _ _ _ hf e (.bl _)⟩
theorem leD_cases {x y : D} {P : D → Prop} (h : leD x y P) : (∃ i j, x = .int i ∧ y = .int j ∧ P (.bool (decide (i ≤ j)))) ∨ (cmpOk x y = true ∧ P (.bool (!PySem.W.dataLt y x))) := by
  unfold leD at h
  split at h
  · exact .inl ⟨_, _, rfl, rfl, h⟩
  · exact .inr h
theorem le_ok : OpOk S (compareOp .LtE) leD := by
  intro ω G H x y v u P Q e rx ry hf q
  rcases leD_cases hf with ⟨i, j, rfl, rfl, hf⟩ | ⟨hc, hf⟩
  · cases rx.int; cases ry.int; exact ⟨_, fun X hX => op_le, i, j, rfl, rfl, q _ _ _ _ hf e (.bl _)⟩
  · obtain ⟨h1, h2, h3, h4⟩ := cmpOk_parts hc
    exact ⟨rCmpD S.K _, fun X hX => hX.K ▸ op_leD hX.room, x, y, rx.dp e.le (sh_lay x 16 h2).1, ry.dp e.le (sh_lay y 16 h3).1, hc, q _ _ _ _ hf e (.bl _)⟩
theorem gtD_cases {x y : D} {P : D → Prop} (h : gtD x y P) : (∃ i j, x = .int i ∧ y = .int j ∧ P (.bool (decide (j < i)))) ∨ (cmpOk x y = true ∧ P (.bool (PySem.W.dataLt y x))) := by
  unfold gtD at h
  split at h
  · exact .inl ⟨_, _, rfl, rfl, h⟩
  · exact .inr h
theorem gt_ok : OpOk S (compareOp .Gt) gtD := by
  intro ω G H x y v u P Q e rx ry hf q
  rcases gtD_cases hf with ⟨i, j, rfl, rfl, hf⟩ | ⟨hc, hf⟩
  · cases rx.int; cases ry.int; exact ⟨_, fun X hX => op_gt, i, j, rfl, rfl, q _ _ _ _ hf e (.bl _)⟩
  · obtain ⟨h1, h2, h3, h4⟩ := cmpOk_parts hc
    exact ⟨rCmpD S.K _, fun X hX => hX.K ▸ op_gtD hX.room, x, y, rx.dp e.le (sh_lay x 16 h2).1, ry.dp e.le (sh_lay y 16 h3).1, hc, q _ _ _ _ hf e (.bl _)⟩
theorem geD_cases {x y : D} {P : D → Prop} (h : geD x y P) : (∃ i j, x = .int i ∧ y = .int j ∧ P (.bool (decide (j ≤ i)))) ∨ (cmpOk x y = true ∧ P (.bool (!PySem.W.dataLt x y))) := by
  unfold geD at h
  split at h
  · exact .inl ⟨_, _, rfl, rfl, h⟩
  · exact .inr h
theorem ge_ok : OpOk S (compareOp .GtE) geD := by
  intro ω G H x y v u P Q e rx ry hf q
  rcases geD_cases hf with ⟨i, j, rfl, rfl, hf⟩ | ⟨hc, hf⟩
  · cases rx.int; cases ry.int; exact ⟨_, fun X hX => op_ge, i, j, rfl, rfl, q _ _ _ _ hf e (.bl _)⟩
  · obtain ⟨h1, h2, h3, h4⟩ := cmpOk_parts hc
    exact ⟨rCmpD S.K _, fun X hX => hX.K ▸ op_geD hX.room, x, y, rx.dp e.le (sh_lay x 16 h2).1, ry.dp e.le (sh_lay y 16 h3).1, hc, q _ _ _ _ hf e (.bl _)⟩
/-- is None, is True -/
def isD : D → D → M D
  | .none, .none => M.pure (.bool true)
  | _, .none => M.pure (.bool false)
  | .bool a, .bool b => M.pure (.bool (decide (a = b)))
  | _, _ => M.fail
def isnD (x y : D) : M D := (isD x y).bind fun z => match z with
  | .bool b => M.pure (.bool (!b))
  | _ => M.fail
def isNoneD : D → Bool
  | .none => true
  | _ => false
theorem rb_non {ω : Option Addr} {K : PySem.W.Frag} {G H : Hp} {v : V} {d : D} (r : Rb ω K G H v d) : decide (v = .non) = isNoneD d := by
  rcases r with r | ⟨o, u, rfl, h2, h3, h4⟩
  · cases r <;> rfl
  · cases h4 <;> rfl
theorem isD_cases {x y : D} {P : D → Prop} (h : isD x y P) : (y = .none ∧ P (.bool (isNoneD x))) ∨ ∃ a b, x = .bool a ∧ y = .bool b ∧ P (.bool (decide (a = b))) := by
  cases y with
  | none => cases x <;> exact .inl ⟨rfl, h⟩
  | bool b => cases x with
    | bool a => exact .inr ⟨a, b, rfl, rfl, h⟩
    | _ => exact h.elim
  | _ => cases x <;> exact h.elim
theorem is_ok : OpOk S (compareOp .Is) isD := by
  intro ω G H x y v u P Q e rx ry hf q
  rcases isD_cases hf with ⟨rfl, hf'⟩ | ⟨a, b, rfl, rfl, hf'⟩
  · refine ⟨_, fun X hX => op_isN, ry.non, ?_⟩
    rw [rb_non rx]
    exact q _ _ _ _ hf' e (.bl _)
  · cases rx.bl; cases ry.bl
    exact ⟨_, fun X hX => op_is_bl, a, b, rfl, rfl, q _ _ _ _ hf' e (.bl _)⟩
theorem isn_ok : OpOk S (compareOp .IsNot) isnD := by
  intro ω G H x y v u P Q e rx ry hf q
  rcases isD_cases hf with ⟨rfl, hf'⟩ | ⟨a, b, rfl, rfl, hf'⟩
  · refine ⟨_, fun X hX => op_notN, ry.non, ?_⟩
    rw [rb_non rx]
    exact q _ _ _ _ hf' e (.bl _)
  · cases rx.bl; cases ry.bl
    exact ⟨_, fun X hX => op_isnot_bl, a, b, rfl, rfl, q _ _ _ _ hf' e (.bl _)⟩
end
end Wp
namespace Wp
open PySem PySem.Spec PyProof.Rows L2

section
variable {S : Sg}
/-! ### subscripts -/
def kD : D → Bool
  | .int _ => true
  | .str _ => true
  | _ => false
def lookD (es : List (D × D)) (k : D) : Option D := (es.find? fun p => PyData.eqv p.1 k).map (·.2)
def ixD : D → D → M D
  | .list xs, .int i => M.opt (atI xs i)
  | .tuple xs, .int i => M.opt (atI xs i)
  | .str x, .int i => M.need (x.length ≤ 16777216) (M.opt ((atI x.cps.toList i).map fun c => .str ⟨#[c]⟩))
  | .dict es, k => M.need (kD k = true) (M.opt (lookD es k))
  | _, _ => M.fail
theorem keyD_kD {k : D} (h : kD k = true) : ∃ c : Key, k = keyD c := by
  cases k with
  | int i => exact ⟨.inl i, rfl⟩
  | str x => exact ⟨.inr x, rfl⟩
  | _ => simp [kD] at h
theorem eqv_keyD (a b : Key) : PyData.eqv (keyD a) (keyD b) = decide (a = b) := by
  cases a with
  | inl i => cases b with
    | inl j => by_cases h : i = j <;> simp [keyD, PyData.eqv, h]
    | inr y => simp [keyD, PyData.eqv]
  | inr x => cases b with
    | inl j => simp [keyD, PyData.eqv]
    | inr y => by_cases h : x = y <;> simp [keyD, PyData.eqv, h]
theorem look_rel {K : PySem.W.Frag} {G : Hp} {kvs : List (Key × V)} {es : List (D × D)} (r : RpK K G kvs es) (k : Key) : (∀ d, lookD es (keyD k) = some d → ∃ v, valV kvs k = some v ∧ Rp K G v d) ∧ (lookD es (keyD k) = none → valV kvs k = none) := by
  match r with
  | .nil => exact ⟨fun d h => by simp [lookD] at h, fun _ => rfl⟩
  | .cons (k := c) (v := v) (d := d) (ds := ds) (vs := vs) r t =>
    have ih := look_rel t k
    unfold lookD at *
    by_cases e : c = k
    · subst e
      have h1 : PyData.eqv (keyD c) (keyD c) = true := by rw [eqv_keyD]; simp
      simp only [List.find?_cons, h1]
      refine ⟨fun d' h => ?_, fun h => by simp at h⟩
      simp at h; subst h
      exact ⟨v, valV_pos rfl, r⟩
    · have h1 : PyData.eqv (keyD c) (keyD k) = false := by rw [eqv_keyD]; simp [e]
      simp only [List.find?_cons, h1]
      rw [valV_neg (p := (c, v)) e]
      exact ih
theorem kV_rel {ω : Option Addr} {K : PySem.W.Frag} {G H : Hp} {v : V} {k : Key} (r : Rb ω K G H v (keyD k)) : v = kV k := by
  cases k with
  | inl i => exact r.int
  | inr x => exact r.str
theorem ix_dict {X : Cx} (hu : X.A.units + 1 < cLine) : IxR X (fun x y H Q => ∃ a v, x = .ref a ∧ DGet H a y (some v) ∧ Q v H) := by
  intro value slice pins s σ H x y v u Q I rx ry h hs
  obtain ⟨a, z, rfl, g, q⟩ := h
  cases rx
  exact tail_any (dict_typeIs I g) PySem.F.slot_dict_getitem.lookup (d_getItem hu I g ry fun w' s3 I3 rw' => ⟨z, H, I3, rw', q⟩) hs
theorem atI_rel {K : PySem.W.Frag} {G : Hp} {xs : List V} {ds : List D} (r : RpA K G xs ds) {i : Int} {d : D} (h : atI ds i = some d) : ∃ v, atI xs i = some v ∧ Rp K G v d := by
  unfold atI at *
  rw [r.length]
  cases e : ixN ds.length i with
  | none => rw [e] at h; cases h
  | some j => rw [e] at h; exact r.getD h
theorem noT {ω : Option Addr} {K : PySem.W.Frag} {G H : Hp} {v : V} {es : List (D × D)} (r : Rb ω K G H v (.dict es)) (l : Le G H) : ∃ a, v = .ref a ∧ es.length ≤ sizeLine ∧ ((∃ kvs, Rd H a (.dK kvs) ∧ RpK K G kvs es) ∨ ∃ kvs es', es = (.none, .none) :: es' ∧ Rd H a (.dT kvs) ∧ RpT K G kvs es') := by
  rcases r with h | ⟨o, u, h1, h2, h3, h4⟩
  · cases h with
    | dK s a z => exact ⟨_, rfl, z, .inl ⟨_, l _ _ (.inl s), a⟩⟩
    | dT s a z => exact ⟨_, rfl, z, .inr ⟨_, _, rfl, l _ _ (.inl s), a⟩⟩
  · cases h4 with
    | dK a z => exact ⟨o, h1, z, .inl ⟨_, .inl h3, a⟩⟩
    | dT a z => exact ⟨o, h1, z, .inr ⟨_, _, rfl, .inl h3, a⟩⟩
def marked : List (D × D) → Bool
  | (.none, _) :: _ => true
  | _ => false
theorem look_T {K : PySem.W.Frag} {G : Hp} (c : Key) : ∀ {kvs : List (List Key × V)} {es : List (D × D)}, RpT K G kvs es → lookD es (keyD c) = none
  | _, _, .nil => rfl
  | _, _, .cons r t => by
    have ih := look_T c t
    unfold lookD at *
    have h1 : ∀ k : List Key, PyData.eqv (keyT k) (keyD c) = false := fun k => by cases c <;> simp [keyT, keyD, PyData.eqv]
    rw [List.find?_cons, h1]
    exact ih
theorem ix_ok : IxOk S ixD := by
  intro ω G H x y v u P Q e rx ry hf q
  cases x with
  | list xs => cases y with
    | int i =>
      cases ry.int
      obtain ⟨d, h1, h2⟩ := hf
      obtain ⟨a, as, rfl, s1, r1, _⟩ := rx.list e.le
      obtain ⟨v, h3, r⟩ := atI_rel r1 h1
      exact ⟨rIxL S.K, fun X hX => hX.K ▸ ix_list, a, as, i, v, rfl, rfl, .inl s1, h3, q _ _ _ _ h2 e r⟩
    | _ => exact hf.elim
  | tuple xs => cases y with
    | int i =>
      cases ry.int
      obtain ⟨d, h1, h2⟩ := hf
      obtain ⟨a, as, rfl, s1, r1, _⟩ := rx.tup e.le
      obtain ⟨v, h3, r⟩ := atI_rel r1 h1
      exact ⟨rIxT S.K, fun X hX => hX.K ▸ ix_tup, a, as, i, v, rfl, rfl, s1, h3, q _ _ _ _ h2 e r⟩
    | _ => exact hf.elim
  | str x => cases y with
    | int i =>
      cases ry.int; cases rx.str
      obtain ⟨hl, d, h1, h2⟩ := hf
      obtain ⟨c, h3, h4⟩ := Option.map_eq_some_iff.mp h1
      subst h4
      exact ⟨rIxS, fun X hX => ix_str, x, i, c, rfl, rfl, line_le hl, h3, q _ _ _ _ h2 e (.str _)⟩
    | _ => exact hf.elim
  | dict es =>
    obtain ⟨hk, d, h1, h2⟩ := hf
    obtain ⟨c, rfl⟩ := keyD_kD hk
    obtain ⟨a, rfl, _, ⟨kvs, s1, r1⟩ | ⟨kvs, es', rfl, _, _⟩⟩ := noT rx e.le
    · obtain ⟨v, h3, r⟩ := (look_rel r1 c).1 d h1
      exact ⟨_, fun X hX => ix_dict (hu_of hX.room), a, v, rfl, .inl ⟨kvs, c, s1, kV_rel ry, h3.symm⟩, q _ _ _ _ h2 e r⟩
    · have : lookD ((PyData.none, PyData.none) :: es') (keyD c) = lookD es' (keyD c) := by
        unfold lookD
        rw [List.find?_cons, show PyData.eqv .none (keyD c) = false by cases c <;> simp [keyD, PyData.eqv]]
      rw [this, look_T c (by assumption)] at h1
      cases h1
  | _ => exact hf.elim

/-! ### in -/
def inD : D → D → M D
  | x, .list ys => M.need ((sh 16 x && shA 16 ys) = true) (M.pure (.bool (ys.any fun z => PyData.eqv z x)))
  | x, .tuple ys => M.need ((sh 16 x && shA 16 ys) = true) (M.pure (.bool (ys.any fun z => PyData.eqv z x)))
  | k, .dict es => M.need ((kD k && !marked es) = true) (M.pure (.bool (lookD es k).isSome))
  | _, _ => M.fail
def ninD (x y : D) : M D := (inD x y).bind fun z => match z with
  | .bool b => M.pure (.bool (!b))
  | _ => M.fail
theorem room_in {X : Cx} {ds : List D} {d : D} (hr : Room k X.A) (h1 : sh 16 d = true) (h2 : shA 16 ds = true) : X.A.units + 1 + min (PyData.depthAll ds) d.depth < cLine := by
  have := (sh_lay d 16 h1).2
  have := hr.un
  omega
theorem in_seqD {X : Cx} (hr : Room k X.A) : OpR X (compareOp .In) (fun x y H Q => ∃ d ds, Dp X.K H x d ∧ (Dp X.K H y (.list ds) ∨ Dp X.K H y (.tuple ds)) ∧ sh 16 d = true ∧ shA 16 ds = true ∧ Q (.bl (ds.any fun z => PyData.eqv z d)) H) := by
  intro pins s σ H x y v u Q I rx ry h
  obtain ⟨d, ds, hd, he, sd, se, q⟩ := h
  obtain ⟨as, r1⟩ := Dp.reads I d x v hd rx
  rcases he with he | he
  · obtain ⟨bs, r2⟩ := Dp.reads I (.list ds) y u he ry
    exact SeqAt.in_list_reads r2 r1 (shA_lay ds 16 se).1 (sh_lay d 16 sd).1 (room_in hr sd se) ⟨.bl _, H, I, rfl, q⟩
  · obtain ⟨bs, r2⟩ := Dp.reads I (.tuple ds) y u he ry
    exact SeqAt.in_tuple_reads r2 r1 (shA_lay ds 16 se).1 (sh_lay d 16 sd).1 (room_in hr sd se) ⟨.bl _, H, I, rfl, q⟩
theorem nin_seqD {X : Cx} (hr : Room k X.A) : OpR X (compareOp .NotIn) (fun x y H Q => ∃ d ds, Dp X.K H x d ∧ (Dp X.K H y (.list ds) ∨ Dp X.K H y (.tuple ds)) ∧ sh 16 d = true ∧ shA 16 ds = true ∧ Q (.bl (!ds.any fun z => PyData.eqv z d)) H) := by
  intro pins s σ H x y v u Q I rx ry h
  obtain ⟨d, ds, hd, he, sd, se, q⟩ := h
  obtain ⟨as, r1⟩ := Dp.reads I d x v hd rx
  rcases he with he | he
  · obtain ⟨bs, r2⟩ := Dp.reads I (.list ds) y u he ry
    exact SeqAt.notIn_list_reads r2 r1 (shA_lay ds 16 se).1 (sh_lay d 16 sd).1 (room_in hr sd se) ⟨.bl _, H, I, rfl, q⟩
  · obtain ⟨bs, r2⟩ := Dp.reads I (.tuple ds) y u he ry
    exact SeqAt.notIn_tuple_reads r2 r1 (shA_lay ds 16 se).1 (sh_lay d 16 sd).1 (room_in hr sd se) ⟨.bl _, H, I, rfl, q⟩
theorem in_dictD {X : Cx} (hu : X.A.units + 1 < cLine) : OpR X (compareOp .In) (fun x y H Q => ∃ a o, y = .ref a ∧ DGet H a x o ∧ Q (.bl o.isSome) H) := by
  intro pins s σ H x y v u Q I rx ry h
  obtain ⟨a, o, rfl, g, q⟩ := h
  cases ry
  exact d_in hu I g rx fun s3 I3 => ⟨.bl o.isSome, H, I3, rfl, q⟩
theorem nin_dictD {X : Cx} (hu : X.A.units + 1 < cLine) : OpR X (compareOp .NotIn) (fun x y H Q => ∃ a o, y = .ref a ∧ DGet H a x o ∧ Q (.bl (!o.isSome)) H) := by
  intro pins s σ H x y v u Q I rx ry h
  obtain ⟨a, o, rfl, g, q⟩ := h
  cases ry
  exact d_notIn hu I g rx fun s3 I3 => ⟨.bl (!o.isSome), H, I3, rfl, q⟩
theorem in_cases {ω : Option Addr} {G H : Hp} {x y : D} {v u : V} {P : D → Prop} (e : Ext ω S.K G H G H) (rx : Rb ω S.K G H v x) (ry : Rb ω S.K G H u y) (hf : inD x y P) :
    (∃ ds, (y = .list ds ∨ y = .tuple ds) ∧ Dp S.K H v x ∧ (Dp S.K H u (.list ds) ∨ Dp S.K H u (.tuple ds)) ∧ sh 16 x = true ∧ shA 16 ds = true ∧ P (.bool (ds.any fun z => PyData.eqv z x))) ∨
    ∃ a o, u = .ref a ∧ DGet H a v o ∧ P (.bool o.isSome) := by
  cases y with
  | list ds =>
    obtain ⟨h, hf⟩ := hf
    rw [Bool.and_eq_true] at h
    exact .inl ⟨ds, .inl rfl, rx.dp e.le (sh_lay x 16 h.1).1, .inl (ry.dp e.le (by simp [PyData.canLay0, (shA_lay ds 16 h.2).1])), h.1, h.2, hf⟩
  | tuple ds =>
    obtain ⟨h, hf⟩ := hf
    rw [Bool.and_eq_true] at h
    exact .inl ⟨ds, .inr rfl, rx.dp e.le (sh_lay x 16 h.1).1, .inr (ry.dp e.le (by simp [PyData.canLay0, (shA_lay ds 16 h.2).1])), h.1, h.2, hf⟩
  | dict es =>
    obtain ⟨h, hf⟩ := hf
    rw [Bool.and_eq_true] at h
    obtain ⟨c, rfl⟩ := keyD_kD h.1
    obtain ⟨a, rfl, _, ⟨kvs, s1, r1⟩ | ⟨kvs, es', rfl, _, _⟩⟩ := noT ry e.le
    · refine .inr ⟨a, valV kvs c, rfl, .inl ⟨kvs, c, s1, kV_rel rx, rfl⟩, ?_⟩
      have hl := look_rel r1 c
      cases q : lookD es (keyD c) with
      | none => rw [hl.2 q]; rw [q] at hf; exact hf
      | some d => obtain ⟨v, h3, _⟩ := hl.1 d q; rw [h3]; rw [q] at hf; exact hf
    · simp [marked] at h
  | _ => exact hf.elim
theorem in_ok : OpOk S (compareOp .In) inD := by
  intro ω G H x y v u P Q e rx ry hf q
  rcases in_cases e rx ry hf with ⟨ds, _, h1, h2, h3, h4, h5⟩ | ⟨a, o, rfl, g, h5⟩
  · exact ⟨fun x y H Q => ∃ d ds, Dp S.K H x d ∧ (Dp S.K H y (.list ds) ∨ Dp S.K H y (.tuple ds)) ∧ sh 16 d = true ∧ shA 16 ds = true ∧ Q (.bl (ds.any fun z => PyData.eqv z d)) H, fun X hX => hX.K ▸ in_seqD hX.room, x, ds, h1, h2, h3, h4, q _ _ _ _ h5 e (.bl _)⟩
  · exact ⟨_, fun X hX => in_dictD (hu_of hX.room), a, o, rfl, g, q _ _ _ _ h5 e (.bl _)⟩
theorem nin_ok : OpOk S (compareOp .NotIn) ninD := by
  intro ω G H x y v u P Q e rx ry hf q
  rcases in_cases e rx ry hf with ⟨ds, _, h1, h2, h3, h4, h5⟩ | ⟨a, o, rfl, g, h5⟩
  · exact ⟨fun x y H Q => ∃ d ds, Dp S.K H x d ∧ (Dp S.K H y (.list ds) ∨ Dp S.K H y (.tuple ds)) ∧ sh 16 d = true ∧ shA 16 ds = true ∧ Q (.bl (!ds.any fun z => PyData.eqv z d)) H, fun X hX => hX.K ▸ nin_seqD hX.room, x, ds, h1, h2, h3, h4, q _ _ _ _ h5 e (.bl _)⟩
  · exact ⟨_, fun X hX => nin_dictD (hu_of hX.room), a, o, rfl, g, q _ _ _ _ h5 e (.bl _)⟩

/-! ### slices -/
/-- the items of xs[lo:hi] -/
def cutD (xs : List D) (lo hi : Option Int) : List D := (xs.drop (HT.sIx xs.length 0 lo)).take (HT.sIx xs.length xs.length hi - HT.sIx xs.length 0 lo)
def slD : D → Option Int → Option Int → M D
  | .list xs, lo, hi => M.pure (.list (cutD xs lo hi))
  | .tuple xs, lo, hi => M.pure (.tuple (cutD xs lo hi))
  | _, _, _ => M.fail
theorem cut_rel {K : PySem.W.Frag} {G : Hp} {xs : List V} {ds : List D} (r : RpA K G xs ds) (lo hi : Option Int) : RpA K G (cutV xs lo hi) (cutD ds lo hi) := by
  unfold cutV cutD
  rw [r.length]
  exact (r.drop _).take _
theorem cut_len (ds : List D) (lo hi : Option Int) : (cutD ds lo hi).length ≤ ds.length := by
  unfold cutD
  simp only [List.length_take, List.length_drop]
  omega
theorem cut_whole {ds : List D} {lo hi : Option Int} (h : HT.sIx ds.length 0 lo = 0 ∧ HT.sIx ds.length ds.length hi = ds.length) : cutD ds lo hi = ds := by
  unfold cutD
  rw [h.1, h.2]
  simp
theorem sl_ok : SlOk S slD := by
  intro ω G H x v lo hi P Q e rx hf q
  cases x with
  | list ds =>
    obtain ⟨a, as, rfl, s1, r1, z⟩ := rx.list e.le
    refine ⟨rSlL S.K, fun X hX => hX.K ▸ sl_list, a, as, rfl, .inl s1, fun p np => ?_⟩
    obtain ⟨e2, r⟩ := new_lst e np (cut_rel r1 lo hi) (Nat.le_trans (cut_len ds lo hi) z)
    exact q _ _ _ _ hf e2 r
  | tuple ds =>
    obtain ⟨a, as, rfl, s1, r1, z⟩ := rx.tup e.le
    refine ⟨rSlA S.K, fun X hX => hX.K ▸ sl_tupA, a, as, rfl, s1, fun h => ?_, fun _ p np => ?_⟩
    · rw [r1.length] at h
      have hf2 : P (.tuple (cutD ds lo hi)) := hf
      rw [cut_whole h] at hf2
      exact q _ _ _ _ hf2 e (rb_tup rx)
    · obtain ⟨e2, r⟩ := new_tup e np (cut_rel r1 lo hi) (Nat.le_trans (cut_len ds lo hi) z)
      exact q _ _ _ _ hf e2 r
  | _ => exact hf.elim
/-- xs[::-1] -/
def revD : D → M D
  | .list xs => M.pure (.list xs.reverse)
  | _ => M.fail
theorem RpA.reverse {K : PySem.W.Frag} {G : Hp} : ∀ {xs : List V} {ds : List D}, RpA K G xs ds → RpA K G xs.reverse ds.reverse
  | _, _, .nil => .nil
  | _, _, .cons r t => by rw [List.reverse_cons, List.reverse_cons]; exact t.reverse.append (.cons r .nil)
theorem we_rev {Γ : En} {a : Expr} {ma : M D} {k : Nat} {p1 p2 p3 pos : Pos} (ha : WB S Γ a ma) : WE S Γ (.Subscript a (.Slice none none (some (.UnaryOp .USub (.Constant (.int 1) k p1) p2)) p3) pos) (ma.bind fun x => revD x) := by
  intro ω G0 H0 σ G H P Q E hm q
  refine ⟨tRevL S.K (RE S a), fun X hX => hX.K ▸ pe_revL (RE.pe hX a), ha ω G0 H0 σ G H _ _ E hm fun x v G1 H1 hx e1 r1 => ?_⟩
  cases x with
  | list ds =>
    obtain ⟨a, as, rfl, s1, r1, z⟩ := r1.list e1.le
    refine ⟨a, as, rfl, .inl s1, fun p np => ?_⟩
    obtain ⟨e2, r⟩ := new_lst e1.self np r1.reverse (by rw [List.length_reverse]; exact z)
    exact q _ _ _ _ hx (e1.trans e2) r
  | _ => exact hx.elim

/-! ### built-ins of one argument -/
def lenD : D → M D
  | .list xs => M.pure (.int xs.length)
  | .tuple xs => M.pure (.int xs.length)
  | .str x => M.need (x.length ≤ 16777216) (M.pure (.int x.length))
  | .dict es => M.need (marked es = false) (M.pure (.int es.length))
  | _ => M.fail
theorem RpK.length {K : PySem.W.Frag} {G : Hp} : ∀ {kvs : List (Key × V)} {es : List (D × D)}, RpK K G kvs es → kvs.length = es.length
  | _, _, .nil => rfl
  | _, _, .cons _ t => congrArg (· + 1) t.length
theorem call_lenD' {X : Cx} : CallR X (.builtin "len") (fun xs H Q => ∃ d kvs, xs = [.ref d] ∧ Rd H d (.dK kvs) ∧ Q (.int kvs.length) H) := by
  intro pins s σ H xs us Q I r h
  obtain ⟨d, kvs, rfl, hd, q⟩ := h
  obtain ⟨u, rfl, rx⟩ := vals1 r
  cases rx
  exact d_len I hd fun t s' I' => ⟨.int _, H, I', ⟨t, rfl⟩, q⟩
theorem len_ok : C1Ok S (.builtin "len") lenD := by
  intro ω G H x v P Q e rx hf q
  cases x with
  | list ds =>
    obtain ⟨a, as, rfl, s1, r1, z⟩ := rx.list e.le
    have hf2 : P (.int as.length) := by rw [r1.length]; exact hf
    exact ⟨_, fun X hX => hX.K ▸ call_len_seq, a, as, rfl, .inl (.inl s1), q _ _ _ _ hf2 e (.int _)⟩
  | tuple ds =>
    obtain ⟨a, as, rfl, s1, r1, z⟩ := rx.tup e.le
    have hf2 : P (.int as.length) := by rw [r1.length]; exact hf
    exact ⟨fun xs H Q => ∃ p ys, xs = [.ref p] ∧ (SqL S.K H p ys ∨ SqT S.K H p ys) ∧ Q (.int ys.length) H, fun X hX => hX.K ▸ call_len_seq, a, as, rfl, .inr s1, q _ _ _ _ hf2 e (.int _)⟩
  | str x => cases rx.str; exact ⟨_, fun X hX => call_len_str, x, rfl, line_le hf.1, q _ _ _ _ hf.2 e (.int _)⟩
  | dict es =>
    obtain ⟨a, rfl, _, ⟨kvs, s1, r1⟩ | ⟨kvs, es', rfl, _, _⟩⟩ := noT rx e.le
    · have hf2 : P (.int kvs.length) := by rw [r1.length]; exact hf.2
      exact ⟨_, fun X hX => call_lenD', a, kvs, rfl, s1, q _ _ _ _ hf2 e (.int _)⟩
    · have := hf.1; simp [marked] at this
  | _ => exact hf.elim
def intD : D → M D
  | .int i => M.pure (.int i)
  | .bool b => M.pure (.int (if b then 1 else 0))
  | _ => M.fail
theorem int_ok : C1Ok S (.type "int") intD := by
  intro ω G H x v P Q e rx hf q
  cases x with
  | int i => cases rx.int; exact ⟨_, fun X hX => call_int1, .inl ⟨i, rfl, q _ _ _ _ hf e (.int _)⟩⟩
  | bool b => cases rx.bl; exact ⟨_, fun X hX => call_int1, .inr ⟨b, rfl, q _ _ _ _ hf e (.int _)⟩⟩
  | _ => exact hf.elim
def absD : D → M D
  | .int i => M.pure (.int (if i < 0 then -i else i))
  | _ => M.fail
theorem abs_ok : C1Ok S (.builtin "abs") absD := by
  intro ω G H x v P Q e rx hf q
  cases x with
  | int i => cases rx.int; exact ⟨_, fun X hX => call_abs, i, rfl, q _ _ _ _ hf e (.int _)⟩
  | _ => exact hf.elim
def max2D : D → D → M D
  | .int i, .int j => M.pure (.int (max i j))
  | _, _ => M.fail
def min2D : D → D → M D
  | .int i, .int j => M.pure (.int (min i j))
  | _, _ => M.fail
theorem max2_ok : C2Ok S (.builtin "max") max2D := by
  intro ω G H x y v u P Q e rx ry hf q
  cases x with
  | int i => cases y with
    | int j =>
      cases rx.int; cases ry.int
      refine ⟨_, fun X hX => call_max2 hX.calm, i, j, rfl, ?_⟩
      have h : (if j > i then j else i) = max i j := by by_cases h : j > i <;> simp [h] <;> omega
      rw [h]; exact q _ _ _ _ hf e (.int _)
    | _ => exact hf.elim
  | _ => exact hf.elim
theorem min2_ok : C2Ok S (.builtin "min") min2D := by
  intro ω G H x y v u P Q e rx ry hf q
  cases x with
  | int i => cases y with
    | int j =>
      cases rx.int; cases ry.int
      refine ⟨_, fun X hX => call_min2 hX.calm, i, j, rfl, ?_⟩
      have h : (if j < i then j else i) = min i j := by by_cases h : j < i <;> simp [h] <;> omega
      rw [h]; exact q _ _ _ _ hf e (.int _)
    | _ => exact hf.elim
  | _ => exact hf.elim
/-- the ints of a list of ints -/
def asInts : List D → Option (List Int)
  | [] => some []
  | .int i :: ds => (asInts ds).map (i :: ·)
  | _ :: _ => none
theorem asInts_map : ∀ ns : List Int, asInts (ns.map .int) = some ns
  | [] => rfl
  | n :: ns => by simp [asInts, asInts_map ns]
theorem asInts_some : ∀ {ds : List D} {ns : List Int}, asInts ds = some ns → ds = ns.map .int
  | [], ns, h => by simp [asInts] at h; subst h; rfl
  | d :: ds, ns, h => by
    cases d with
    | int i =>
      obtain ⟨ms, h1, h2⟩ := Option.map_eq_some_iff.mp (show (asInts ds).map (i :: ·) = some ns from h)
      subst h2
      rw [asInts_some h1]; rfl
    | _ => simp [asInts] at h
theorem RpA.ints {K : PySem.W.Frag} {G : Hp} : ∀ {ns : List Int} {xs : List V}, RpA K G xs (ns.map .int) → xs = ns.map V.int
  | [], _, .nil => rfl
  | n :: ns, _, .cons r t => by cases r; rw [t.ints]; rfl
def sumD : D → M D
  | .list ds => (M.opt (asInts ds)).bind fun ns => M.pure (.int ns.sum)
  | _ => M.fail
theorem sum_ok : C1Ok S (.builtin "sum") sumD := by
  intro ω G H x v P Q e rx hf q
  cases x with
  | list ds =>
    obtain ⟨ns, h1, hf⟩ := hf
    obtain ⟨a, as, rfl, s1, r1, z⟩ := rx.list e.le
    have e2 := asInts_some h1
    subst e2
    have e3 := r1.ints
    subst e3
    exact ⟨rSum S.K, fun X hX => hX.K ▸ cr_sum hX.calm, a, ns, rfl, .inl s1, q _ _ _ _ hf e (.int _)⟩
  | _ => exact hf.elim
def tupleD : D → M D
  | .list ds => M.pure (.tuple ds)
  | .tuple ds => M.pure (.tuple ds)
  | _ => M.fail
theorem tuple_ok : C1Ok S (.type "tuple") tupleD := by
  intro ω G H x v P Q e rx hf q
  cases x with
  | list ds =>
    obtain ⟨a, as, rfl, s1, r1, z⟩ := rx.list e.le
    refine ⟨_, fun X hX => hX.K ▸ call_tuple_of, a, as, rfl, .inl ⟨.inl s1, fun p np => ?_⟩⟩
    obtain ⟨e2, r⟩ := new_tup e np r1 z
    exact q _ _ _ _ hf e2 r
  | tuple ds =>
    obtain ⟨a, as, rfl, s1, r1, z⟩ := rx.tup e.le
    exact ⟨fun xs H Q => ∃ p ys, xs = [.ref p] ∧ ((SqL S.K H p ys ∧ ∀ l, H l = none → Q (.ref l) (upd H l (.tup ys))) ∨ (SqT S.K H p ys ∧ Q (.ref p) H)), fun X hX => hX.K ▸ call_tuple_of, a, as, rfl, .inr ⟨s1, q _ _ _ _ hf e (rb_tup rx)⟩⟩
  | _ => exact hf.elim
def listD : D → M D
  | .list ds => M.pure (.list ds)
  | .tuple ds => M.pure (.list ds)
  | _ => M.fail
theorem list_ok : C1Ok S (.type "list") listD := by
  intro ω G H x v P Q e rx hf q
  cases x with
  | list ds =>
    obtain ⟨a, as, rfl, s1, r1, z⟩ := rx.list e.le
    refine ⟨_, fun X hX => hX.K ▸ call_list_of, a, as, rfl, .inl (.inl s1), fun p np => ?_⟩
    obtain ⟨e2, r⟩ := new_lst e np r1 z
    exact q _ _ _ _ hf e2 r
  | tuple ds =>
    obtain ⟨a, as, rfl, s1, r1, z⟩ := rx.tup e.le
    refine ⟨fun xs H Q => ∃ p ys, xs = [.ref p] ∧ (SqL S.K H p ys ∨ SqT S.K H p ys) ∧ ∀ l, H l = none → Q (.ref l) (upd H l (.lst ys)), fun X hX => hX.K ▸ call_list_of, a, as, rfl, .inr s1, fun p np => ?_⟩
    obtain ⟨e2, r⟩ := new_lst e np r1 z
    exact q _ _ _ _ hf e2 r
  | _ => exact hf.elim
/-- isinstance(x, T), T a built-in type -/
def tyD : D → String
  | .none => "NoneType"
  | .bool _ => "bool"
  | .int _ => "int"
  | .str _ => "str"
  | .list _ => "list"
  | .tuple _ => "tuple"
  | .dict _ => "dict"
def plainD : D → Bool
  | .dict es => !marked es
  | _ => true
def isiD (T : String) (x : D) : M D := M.need (plainD x = true) ((M.opt (kitB (tyD x) T)).bind fun b => M.pure (.bool b))
theorem tyX_of {ω : Option Addr} {K : PySem.W.Frag} {G H : Hp} {v : V} {d : D} (l : Le G H) (r : Rb ω K G H v d) (h : plainD d = true) : TyX K H v (.type (tyD d)) := by
  cases d with
  | none => cases r.non; exact .base .non
  | bool b => cases r.bl; exact .base (.bl b)
  | int b => cases r.int; exact .base (.int b)
  | str b => cases r.str; exact .base (.str b)
  | list ds =>
    obtain ⟨a, as, rfl, s1, r1, z⟩ := r.list l
    rcases s1 with s1 | ⟨o, s1⟩
    · exact .base (.lst s1)
    · exact .base (.frz s1)
  | tuple ds =>
    obtain ⟨a, as, rfl, s1, r1, z⟩ := r.tup l
    rcases s1 with (s1 | ⟨o, s1⟩) | ⟨o, its, n, h1, h2, _⟩
    · exact .base (.tup s1)
    · exact .fTuple s1
    · exact .kTuple h1 h2
  | dict es =>
    obtain ⟨a, rfl, _, ⟨kvs, s1, r1⟩ | ⟨kvs, es', rfl, s1, _⟩⟩ := noT r l
    · rcases s1 with s1 | ⟨o, s1⟩
      · exact .base (.dK s1)
      · exact .fDict s1
    · simp [plainD, marked] at h
theorem we_isi {Γ : En} {a : Expr} {ma : M D} {x t : Str} {T : String} {p p2 pos : Pos} (hb : BltAt S x (.builtin "isinstance")) (ht : BltAt S t (.type T)) (ha : WB S Γ a ma) (he : ∀ env, starEach [a, .Name t p2] env = (false, eval a env) :: starEach [.Name t p2] env := by intro _; rfl) :
    WE S Γ (.Call (.Name x p) [a, .Name t p2] [] pos) (ma.bind fun x => isiD T x) := by
  intro ω G0 H0 σ G H P Q E hm q
  refine ⟨_, fun X hX => hX.K ▸ pe_callB call_isi (gl_of hX hb.g) (by rw [hX.mg]; exact hb.m) hb.v (pa_cons (RE.pe hX a) (pa_cons (pe_bltn (v := .ty T) (gl_of hX ht.g) (by rw [hX.mg]; exact ht.m) ht.v rfl ht.n ht.d) pa_nil) (he _)) hb.n hb.d (he _) rfl, ?_⟩
  refine ha ω G0 H0 σ G H _ _ E hm fun d v G1 H1 hx e1 r1 => ?_
  obtain ⟨h1, b, h2, h3⟩ := hx
  exact ⟨v, .ty T, _, _, b, rfl, .ty T, tyX_of e1.le r1 h1, kit_ty h2, q _ _ _ _ h3 e1 (.bl b)⟩
end
end Wp
namespace Wp
open PySem PySem.Spec PyProof.Rows L2

section
variable {ω : Option Addr} {K : PySem.W.Frag} {G0 H0 G H G' H' : Hp} {Γ Γ' : En} {σ σ' : L2.St}
theorem EnvOk.fresh0 (E : EnvOk ω K G0 H0 Γ σ G H) {p : Addr} (hp : H p = none) : some p ≠ ω ∧ H0 p = none := by
  have h1 : some p ≠ ω := fun z => by
    obtain ⟨_, _, _, _, h, _⟩ := E.ext.dr p z.symm
    rw [hp] at h; cases h
  refine ⟨h1, ?_⟩
  cases q : H0 p with
  | none => rfl
  | some u => have := E.ext.hh p u h1 q; rw [hp] at this; cases this
/-- something new of one's own is stored -/
theorem EnvOk.putO (E : EnvOk ω K G0 H0 Γ σ G H) (e : Ext ω K G H G' H') {i : Nat} {p : Addr} {u : HO} {d : D} (hp : H p = none) (hG : G' p = none) (hH : H' p = some u) (r : RpO K G' u d) : EnvOk ω K G0 H0 (Γ.set i (some (.own d))) (σ.set i (some (.ref p))) G' H' := by
  obtain ⟨h1, h2⟩ := E.fresh0 hp
  refine (E.step e).put (c := .own d) ⟨p, u, rfl, h1, hH, hG, h2, r⟩ fun _ _ j e' hj hΓ hs => ?_
  obtain ⟨v, hv, o, u', rfl, _, ho, _⟩ := E.sl j _ hΓ
  rw [hv] at hs
  cases hs
  rw [hp] at ho; cases ho
/-- one's own is changed -/
theorem EnvOk.updO (E : EnvOk ω K G0 H0 Γ σ G H) {i : Nat} {o : Addr} {u' : HO} {d d' : D} (hi : Γ[i]? = some (some (.own d))) (hs : σ[i]? = some (some (.ref o))) (r : RpO K G u' d') : EnvOk ω K G0 H0 (Γ.set i (some (.own d'))) σ G (upd H o u') := by
  obtain ⟨v, hv, o', u, rfl, h1, h2, h3, h4, h5⟩ := E.sl i _ hi
  rw [hs] at hv
  cases hv
  refine ⟨⟨E.ext.gg, fun a w n e => ?_, fun a w e => ?_, E.ext.fr, fun b e => ?_⟩, by simpa using E.ln, fun j c h => ?_, fun a b da db w ha hb sa sb => ?_⟩
  · rw [upd_ne (fun z => by subst z; rw [h4] at e; cases e)]; exact E.ext.hh a w n e
  · have ha : a ≠ o := fun z => by
      subst z
      rcases e with e | ⟨q, e⟩ <;> (rw [h3] at e; cases e)
    rcases E.ext.le a w e with r | ⟨q, r⟩
    · exact .inl (by rw [upd_ne ha]; exact r)
    · exact .inr ⟨q, by rw [upd_ne ha]; exact r⟩
  · obtain ⟨g, vd, ds, at_, q1, q2, q3⟩ := E.ext.dr b e
    have hb : b ≠ o := fun z => h1 (by rw [← z, e])
    exact ⟨g, vd, ds, at_, by rw [upd_ne hb]; exact q1, q2, q3⟩
  · rcases getElem?_set_some h with ⟨rfl, e, hl⟩ | ⟨ne, h⟩
    · cases e
      exact ⟨.ref o, hs, o, u', rfl, h1, upd_same, h3, h4, r⟩
    · obtain ⟨v', g1, g2⟩ := E.sl j c h
      refine ⟨v', g1, ?_⟩
      cases c with
      | val e => exact g2
      | drw => exact g2
      | scr ns => exact g2
      | own e =>
        obtain ⟨o2, u2, rfl, q2, q3, q4, q5, q6⟩ := g2
        refine ⟨o2, u2, rfl, q2, ?_, q4, q5, q6⟩
        rw [upd_ne (fun z => ne (E.ds j i e d (.ref o) h hi (by rw [← z]; exact g1) hs))]
        exact q3
  · rcases getElem?_set_some ha with ⟨rfl, ea, _⟩ | ⟨na, ha'⟩
    · rcases getElem?_set_some hb with ⟨rfl, eb, _⟩ | ⟨nb, hb'⟩
      · rfl
      · exact E.ds _ _ d db w hi hb' sa sb
    · rcases getElem?_set_some hb with ⟨rfl, eb, _⟩ | ⟨nb, hb'⟩
      · exact E.ds _ _ da d w ha' hi sa sb
      · exact E.ds _ _ da db w ha' hb' sa sb
end

/-! ### something new of one's own -/
def WF (S : Sg) (Γ : En) (e : Expr) (m : M D) : Prop := ∀ (ω : Option Addr) (G0 H0 : Hp) (σ : L2.St) (G H : Hp) (P : D → Prop) (Q : VK), EnvOk ω S.K G0 H0 Γ σ G H → m P →
  (∀ d p u G' H', P d → Ext ω S.K G H G' H' → H p = none → G' p = none → H' p = some u → RpO S.K G' u d → Q (.ref p) H') → RE S e σ H Q
section
variable {S : Sg} {Γ Γ' : En} {e a b c e1 e2 e3 : Expr} {m ma mb mc me : M D} {pos pos' : Pos} {es : List Expr} {rest : List Stmt} {ρ : Type} {ι : ρ → Out}
theorem wf_lst {ms : M (List D)} (hs : WA S Γ es ms) (hl : es.length ≤ 1000 := by decide) : WF S Γ (.List es pos) (ms.bind fun ds => M.pure (.list ds)) := by
  intro ω G0 H0 σ G H P Q E hm q
  refine ⟨_, fun X hX => pe_lst (RA.pa hX es), ?_⟩
  refine hs ω G0 H0 σ G H _ _ E hm fun ds vs G1 H1 hx e1 r1 hd => ?_
  have z : ds.length ≤ sizeLine := by rw [hd]; exact Nat.le_of_lt (small1000 hl)
  refine ⟨by rw [r1.length]; exact z, fun p np => ?_⟩
  have hp : H p = none := by
    cases q : H p with
    | none => rfl
    | some u =>
      by_cases hω : some p = ω
      · obtain ⟨_, _, _, _, h, _⟩ := e1.dr p hω.symm
        rw [np] at h; cases h
      · have := e1.hh p u hω q; rw [np] at this; cases this
  exact q _ p _ G1 _ hx (e1.trans (e1.self.lay np)) hp (e1.le.none np) upd_same (.lst r1 z)
theorem wf_nil : WF S Γ (.List [] pos) (M.pure (.list [])) := fun ω G0 H0 σ G H P Q E hm q => wf_lst (pos := pos) wa_nil (by decide) ω G0 H0 σ G H P Q E hm q
theorem wf_dict0 : WF S Γ (.Dict [] [] pos) (M.pure (.dict [])) := by
  intro ω G0 H0 σ G H P Q E hm q
  exact ⟨_, fun X hX => pe_dnewK, fun p np => q _ p _ G _ hm (E.self.lay np) np (E.ext.le.none np) upd_same (.dK .nil (Nat.zero_le _))⟩
/-- x = something new, of one's own -/
theorem w_setF {i : Nat} {x : Str} {k : D → M ρ} (hx : SetAt S i x) (he : WF S Γ e me) (hk : ∀ d, W S (Γ.set i (some (.own d))) rest (k d) ι) (hs : ∀ env, swapsWith e (some (.Name x pos')) pos.line env = pure false := by intro _; rfl) :
    W S Γ (.Assign [.Name x pos'] e pos :: rest) (me.bind k) ι := by
  intro ω G0 H0 σ G H P Dn E hm q
  refine rs_cons (fun X hX => ps_set (i := i) (by rw [hX.N]; exact hX.nd) (by rw [hX.N]; exact hx.n) (by rw [hX.sc]; exact hx.l) (RE.pe hX e) (hs _) (hx.fx hX)) ?_
  refine he ω G0 H0 σ G H _ _ E hm fun d p u G1 H1 hP e1 h1 h2 h3 r1 => ?_
  exact hk d ω G0 H0 _ G1 H1 P Dn (E.putO e1 h1 h2 h3 r1) hP q

end

/-! ### several at once -/
/-- data, and new things of one's own (unlike one another) -/
inductive CtsOk (ω : Option Addr) (K : PySem.W.Frag) (H G' H' : Hp) : List V → List Ct → Prop
  | nil : CtsOk ω K H G' H' [] []
  | val {v : V} {vs : List V} {d : D} {cs : List Ct} : Rp K G' v d → CtsOk ω K H G' H' vs cs → CtsOk ω K H G' H' (v :: vs) (.val d :: cs)
  | own {p : Addr} {u : HO} {vs : List V} {d : D} {cs : List Ct} : H p = none → G' p = none → H' p = some u → RpO K G' u d → (∀ (j : Nat) e, cs[j]? = some (.own e) → vs[j]? ≠ some (.ref p)) → CtsOk ω K H G' H' vs cs → CtsOk ω K H G' H' (.ref p :: vs) (.own d :: cs)
theorem CtsOk.length {ω : Option Addr} {K : PySem.W.Frag} {H G' H' : Hp} {vs : List V} {cs : List Ct} (h : CtsOk ω K H G' H' vs cs) : vs.length = cs.length := by
  induction h with
  | nil => rfl
  | val _ _ ih => exact congrArg (· + 1) ih
  | own _ _ _ _ _ _ ih => exact congrArg (· + 1) ih
theorem CtsOk.fresh {ω : Option Addr} {K : PySem.W.Frag} {H G' H' : Hp} {vs : List V} {cs : List Ct} (h : CtsOk ω K H G' H' vs cs) : ∀ (j : Nat) e, cs[j]? = some (.own e) → ∃ p, vs[j]? = some (.ref p) ∧ H p = none := by
  induction h with
  | nil => intro j e h; simp at h
  | val _ _ ih => intro j e h; cases j with
    | zero => simp at h
    | succ j => simpa using ih j e (by simpa using h)
  | own h1 _ _ _ _ _ ih => intro j e h; cases j with
    | zero => exact ⟨_, rfl, h1⟩
    | succ j => simpa using ih j e (by simpa using h)
/-- the heap has grown further, ahead of it -/
theorem CtsOk.later {ω : Option Addr} {K : PySem.W.Frag} {H H1 G1 G' H' : Hp} {vs : List V} {cs : List Ct} (e : Ext ω K G1 H G1 H1) (h : CtsOk ω K H1 G' H' vs cs) : CtsOk ω K H G' H' vs cs := by
  induction h with
  | nil => exact .nil
  | val r _ ih => exact .val r ih
  | own h1 h2 h3 h4 h5 _ ih =>
    refine .own ?_ h2 h3 h4 h5 ih
    rename_i p _ _ _ _ _
    cases q : H p with
    | none => rfl
    | some u =>
      by_cases hω : some p = ω
      · obtain ⟨_, _, _, _, h, _⟩ := e.dr p hω.symm
        rw [h1] at h; cases h
      · have := e.hh p u hω q; rw [h1] at this; cases this
def setAll : L2.St → List Nat → List V → L2.St
  | σ, i :: is, v :: vs => setAll (σ.set i (some v)) is vs
  | σ, _, _ => σ
def setAllE : En → List Nat → List Ct → En
  | Γ, i :: is, c :: cs => setAllE (Γ.set i (some c)) is cs
  | Γ, _, _ => Γ
theorem EnvOk.puts {ω : Option Addr} {K : PySem.W.Frag} {G0 H0 H G' H' : Hp} {vs : List V} {cs : List Ct} (h : CtsOk ω K H G' H' vs cs) : ∀ {Γ : En} {σ : L2.St} (is : List Nat), EnvOk ω K G0 H0 Γ σ G' H' → (∀ p, H p = none → some p ≠ ω ∧ H0 p = none) → is.length = vs.length →
    (∀ (j : Nat) d v, Γ[j]? = some (some (.own d)) → σ[j]? = some (some v) → ∀ (k : Nat) e, cs[k]? = some (.own e) → vs[k]? ≠ some v) → EnvOk ω K G0 H0 (setAllE Γ is cs) (setAll σ is vs) G' H' := by
  induction h with
  | nil => intro Γ σ is E _ hl _; cases is <;> exact E
  | val r t ih =>
    intro Γ σ is E hf hl hd
    cases is with
    | nil => simp at hl
    | cons i is =>
      refine ih is (E.putV r) hf (by simpa using hl) fun j d w h1 h2 k e h3 => ?_
      rcases getElem?_set_some h1 with ⟨rfl, z, _⟩ | ⟨ne, h1⟩
      · cases z
      · rw [List.getElem?_set_ne (Ne.symm ne)] at h2
        have := hd j d w h1 h2 (k + 1) e (by simpa using h3)
        simpa using this
  | own h1 h2 h3 h4 h5 t ih =>
    intro Γ σ is E hf hl hd
    cases is with
    | nil => simp at hl
    | cons i is =>
      obtain ⟨f1, f2⟩ := hf _ h1
      refine ih is (E.put (c := .own _) ⟨_, _, rfl, f1, h3, h2, f2, h4⟩ fun d _ j e ne hΓ hs => ?_) hf (by simpa using hl) fun j d w g1 g2 k e g3 => ?_
      · exact hd j e _ hΓ hs 0 _ rfl rfl
      · rcases getElem?_set_some g1 with ⟨rfl, z, hi⟩ | ⟨ne, g1⟩
        · rw [List.getElem?_set_self (by rw [E.ln]; exact hi)] at g2
          cases g2
          exact h5 k e g3
        · rw [List.getElem?_set_ne (Ne.symm ne)] at g2
          have := hd j d w g1 g2 (k + 1) e (by simpa using g3)
          simpa using this
theorem EnvOk.putsN {ω : Option Addr} {K : PySem.W.Frag} {G0 H0 G H G' H' : Hp} {Γ : En} {σ : L2.St} {vs : List V} {cs : List Ct} (E : EnvOk ω K G0 H0 Γ σ G H) (e : Ext ω K G H G' H') (h : CtsOk ω K H G' H' vs cs) (is : List Nat) (hl : is.length = vs.length) : EnvOk ω K G0 H0 (setAllE Γ is cs) (setAll σ is vs) G' H' :=
  EnvOk.puts h is (E.step e) (fun p hp => E.fresh0 hp) hl fun j d v h1 h2 k e' h3 h4 => by
    obtain ⟨p, g1, g2⟩ := h.fresh k e' h3
    rw [g1] at h4
    obtain ⟨w, hw, o, u', rfl, _, ho, _⟩ := E.sl j _ h1
    rw [h2] at hw
    cases hw
    cases h4
    rw [g2] at ho; cases ho
theorem CtsOk.lay {ω : Option Addr} {K : PySem.W.Frag} {H G' H' : Hp} {vs : List V} {cs : List Ct} {p : Addr} {o : HO} (h : CtsOk ω K H G' H' vs cs) (np : H' p = none) : CtsOk ω K H G' (upd H' p o) vs cs := by
  induction h with
  | nil => exact .nil
  | val r _ ih => exact .val r ih
  | own h1 h2 h3 h4 h5 _ ih => exact .own h1 h2 (by rw [upd_ne (ne_of_none h3 np)]; exact h3) h4 h5 ih
def WX (S : Sg) (Γ : En) (es : List Expr) (m : M (List Ct)) : Prop := ∀ (ω : Option Addr) (G0 H0 : Hp) (σ : L2.St) (G H : Hp) (P : List Ct → Prop) (Q : List V → Hp → Prop), EnvOk ω S.K G0 H0 Γ σ G H → m P →
  (∀ cs vs G' H', P cs → Ext ω S.K G H G' H' → CtsOk ω S.K H G' H' vs cs → cs.length = es.length → Q vs H') → RA S es σ H Q
def ctB : Bool → D → Ct
  | true, d => .own d
  | false, d => .val d
/-- an expression whose value is a datum (false), or something new of one's own (true) -/
def WL (S : Sg) (Γ : En) : Bool → Expr → M D → Prop
  | true, e, m => WF S Γ e m
  | false, e, m => WE S Γ e m
/-- names at their slots -/
inductive TgsAt (S : Sg) : List Expr → List Nat → Prop
  | nil : TgsAt S [] []
  | cons {x : Str} {p : Pos} {i : Nat} {es : List Expr} {is : List Nat} : SetAt S i x → TgsAt S es is → TgsAt S (.Name x p :: es) (i :: is)
def env0 (sc : Scope) : Env := { scope := sc, locals := 0, globals := 0, cells := [] }
theorem swapped_congr {env env' : Env} (ts : List Expr) (v : Expr) (h : env.scope = env'.scope) : swappedStores ts v env = swappedStores ts v env' := by
  unfold swappedStores Env.kindOf Env.blockKind
  rw [h]
section
variable {S : Sg} {Γ Γ' : En} {e a b c e1 e2 e3 : Expr} {m ma mb mc md me : M D} {pos pos' : Pos} {es : List Expr} {rest : List Stmt} {ρ : Type} {ι : ρ → Out}
theorem wx_nil : WX S Γ [] (M.pure []) := fun ω G0 H0 σ G H P Q E hm q => ⟨_, fun X hX => pa_nil, q [] [] G H hm E.self .nil rfl⟩
theorem CtsOk.ext {ω : Option Addr} {K : PySem.W.Frag} {H G' H' G2 H2 : Hp} {vs : List V} {cs : List Ct} (h : CtsOk ω K H G' H' vs cs) (e : Ext ω K G' H' G2 H2) (hω : ∀ p, H p = none → some p ≠ ω) : CtsOk ω K H G2 H2 vs cs := by
  induction h with
  | nil => exact .nil
  | val r _ ih => exact .val (r.ext e) ih
  | own h1 h2 h3 h4 h5 _ ih => exact .own h1 (e.fr _ _ h3 h2) (e.hh _ _ (hω _ h1) h3) (h4.le (e.gg)) h5 ih
theorem wx_cons {o : Bool} {ms : M (List Ct)} (ha : WL S Γ o a ma) (hs : WX S Γ es ms) (he : ∀ env, starEach (a :: es) env = (false, eval a env) :: starEach es env := by intro _; rfl) :
    WX S Γ (a :: es) (ma.bind fun x => ms.bind fun xs => M.pure (ctB o x :: xs)) := by
  intro ω G0 H0 σ G H P Q E hm q
  refine ⟨_, fun X hX => pa_cons (RE.pe hX a) (RA.pa hX es) (he _), ?_⟩
  cases o with
  | false =>
    refine ha ω G0 H0 σ G H _ _ E hm fun x v G1 H1 hx e1 r1 => ?_
    refine hs ω G0 H0 σ G1 H1 _ _ (E.step e1) hx fun xs vs G2 H2 hy e2 r2 l2 => ?_
    refine q (.val x :: xs) (v :: vs) G2 H2 hy (e1.trans e2) (.val (r1.ext e2) (r2.later (G1 := G1) ⟨Same.refl _, e1.hh, e1.le, fun _ _ _ h => h, e1.dr⟩)) (congrArg (· + 1) l2)
  | true =>
    refine ha ω G0 H0 σ G H _ _ E hm fun x p u G1 H1 hx e1 g1 g2 g3 r1 => ?_
    refine hs ω G0 H0 σ G1 H1 _ _ (E.step e1) hx fun xs vs G2 H2 hy e2 r2 l2 => ?_
    have hω := (E.fresh0 g1).1
    refine q (.own x :: xs) (.ref p :: vs) G2 H2 hy (e1.trans e2) (.own g1 (e2.fr _ _ g3 g2) (e2.hh _ _ hω g3) (r1.le (e2.gg)) (fun j e h1 h2 => ?_) (r2.later (G1 := G1) ⟨Same.refl _, e1.hh, e1.le, fun _ _ _ h => h, e1.dr⟩)) (congrArg (· + 1) l2)
    obtain ⟨p', k1, k2⟩ := r2.fresh j e h1
    rw [h2] at k1
    cases k1
    rw [g3] at k2; cases k2
def RGs (S : Sg) (es : List Expr) : TGs := fun vs σ H Q => ∃ t, (∀ X, S.Of X → PGs X es t) ∧ t vs σ H Q
theorem RGs.pgs {X : Cx} (hX : S.Of X) (es : List Expr) : PGs X es (RGs S es) := ⟨fun pins s σ H vs us Q I r ⟨t, h, q⟩ => (h X hX).run pins s σ H vs us Q I r q⟩
theorem tgs_ok {es : List Expr} {is : List Nat} (h : TgsAt S es is) : ∀ (vs : List V) (σ : L2.St) (H : Hp) (Q : L2.St → Hp → Prop), vs.length = es.length → Q (setAll σ is vs) H → RGs S es vs σ H Q := by
  induction h with
  | nil => intro vs σ H Q hl q; cases vs with
    | nil => exact ⟨_, fun X hX => pgs_nil, rfl, q⟩
    | cons _ _ => simp at hl
  | cons hx t ih =>
    intro vs σ H Q hl q
    cases vs with
    | nil => simp at hl
    | cons v vs =>
      exact ⟨_, fun X hX => pgs_cons (pg_name (by rw [hX.N]; exact hX.nd) (by rw [hX.N]; exact hx.n) (by rw [hX.sc]; exact hx.l) (hx.fx hX)) (RGs.pgs hX _) (by rfl), v, vs, rfl, ih vs _ H Q (by simpa using hl) q⟩
theorem TgsAt.length {es : List Expr} {is : List Nat} (h : TgsAt S es is) : is.length = es.length := by
  induction h with
  | nil => rfl
  | cons _ _ ih => exact congrArg (· + 1) ih
/-- a, b, .. = x, y, .. through a tuple -/
theorem w_parN {ts : List Expr} {is : List Nat} {ms : M (List Ct)} {k : List Ct → M ρ} {kt k2 : Nat} {pt pt2 : Pos} (ht : TgsAt S ts is) (hs : WX S Γ es ms) (hl : ts.length = es.length) (hl2 : es.length ≤ 1000)
    (hw : swappedStores [.Tuple ts kt pt] (.Tuple es k2 pt2) (env0 S.sc) = pure none) (hk : ∀ cs, W S (setAllE Γ is cs) rest (k cs) ι)
    (hn : ∀ env, (assignEach ts env).length = ts.length := by intro _; rfl) (hst : ∀ env, (assignEach ts env).findIdx? (·.1) = none := by intro _; rfl) :
    W S Γ (.Assign [.Tuple ts kt pt] (.Tuple es k2 pt2) pos :: rest) (ms.bind k) ι := by
  intro ω G0 H0 σ G H P Dn E hm q
  refine rs_cons (t := tAsg (tTup (RA S es)) (gTup S.K ts.length (RGs S ts))) (fun X hX => by
    have h := ps_asg (X := X) (pos := pos) (pe_tup (x1 := k2) (pos := pt2) (RA.pa hX es)) (pg_tup (X := X) (k := kt) (pos := pt) hX.calm (RGs.pgs hX ts) (hn _) (hst _)) rfl (by rw [swapped_congr _ _ (show X.env.scope = (env0 S.sc).scope from hX.sc)]; exact hw)
    rw [hX.K] at h; exact h) ?_
  refine hs ω G0 H0 σ G H _ _ E hm fun cs vs G1 H1 hx e1 r1 l1 => ?_
  have lv := r1.length
  refine ⟨by rw [lv, l1]; exact Nat.le_of_lt (small1000 hl2), fun p np => ⟨p, vs, rfl, .inl (.inl upd_same), by omega, ?_⟩⟩
  refine tgs_ok ht vs σ _ _ (by omega) ?_
  have hp : H p = none := by
    cases q : H p with
    | none => rfl
    | some u =>
      by_cases hω : some p = ω
      · obtain ⟨_, _, _, _, h, _⟩ := e1.dr p hω.symm
        rw [np] at h; cases h
      · have := e1.hh p u hω q; rw [np] at this; cases this
  refine hk cs ω G0 H0 _ G1 _ P Dn (E.putsN (e1.trans (e1.self.lay (o := .tup vs) np)) (r1.lay np) is (by rw [ht.length]; omega)) hx q
/-- a, b = x, y: plain locals, swapped on the stack -/
theorem w_sw2 {i j : Nat} {x y : Str} {ms : M (List Ct)} {k : List Ct → M ρ} {px py pt pt2 : Pos} {kt k2 : Nat} (hx : SetAt S i x) (hy : SetAt S j y) (hij : i ≠ j) (lx : S.sc.names.lookup x = some .local) (ly : S.sc.names.lookup y = some .local) (hs : WX S Γ [a, b] ms)
    (hw : swappedStores [.Tuple [.Name x px, .Name y py] kt pt] (.Tuple [a, b] k2 pt2) (env0 S.sc) = pure (some [x, y])) (hk : ∀ cs, W S (setAllE Γ [i, j] cs) rest (k cs) ι) :
    W S Γ (.Assign [.Tuple [.Name x px, .Name y py] kt pt] (.Tuple [a, b] k2 pt2) pos :: rest) (ms.bind k) ι := by
  intro ω G0 H0 σ G H P Dn E hm q
  refine rs_cons (fun X hX => ps_par (i := i) (j := j) hX.calm (by rw [hX.N]; exact hX.nd) (by rw [hX.N]; exact hx.n) (by rw [hX.N]; exact hy.n) hij (by rw [hX.sc]; exact lx) (by rw [hX.sc]; exact ly) (RA.pa hX [a, b]) (by rw [swapped_congr _ _ (show X.env.scope = (env0 S.sc).scope from hX.sc)]; exact hw)) ?_
  refine hs ω G0 H0 σ G H _ _ E hm fun cs vs G1 H1 hx' e1 r1 l1 => ?_
  have lv := r1.length
  match vs, lv.trans l1 with
  | [v, w], _ =>
    refine ⟨v, w, rfl, ?_⟩
    exact hk cs ω G0 H0 _ G1 H1 P Dn (E.putsN e1 r1 [i, j] rfl) hx' q
theorem w_sw3 {i j l : Nat} {x y z : Str} {ms : M (List Ct)} {k : List Ct → M ρ} {px py pz pt pt2 : Pos} {kt k2 : Nat} (hx : SetAt S i x) (hy : SetAt S j y) (hz : SetAt S l z) (hij : i ≠ j) (hil : i ≠ l) (hjl : j ≠ l) (lx : S.sc.names.lookup x = some .local) (ly : S.sc.names.lookup y = some .local) (lz : S.sc.names.lookup z = some .local) (hs : WX S Γ [a, b, c] ms)
    (hw : swappedStores [.Tuple [.Name x px, .Name y py, .Name z pz] kt pt] (.Tuple [a, b, c] k2 pt2) (env0 S.sc) = pure (some [x, y, z])) (hk : ∀ cs, W S (setAllE Γ [i, j, l] cs) rest (k cs) ι) :
    W S Γ (.Assign [.Tuple [.Name x px, .Name y py, .Name z pz] kt pt] (.Tuple [a, b, c] k2 pt2) pos :: rest) (ms.bind k) ι := by
  intro ω G0 H0 σ G H P Dn E hm q
  refine rs_cons (fun X hX => ps_par3 (i := i) (j := j) (l := l) hX.calm (by rw [hX.N]; exact hX.nd) (by rw [hX.N]; exact hx.n) (by rw [hX.N]; exact hy.n) (by rw [hX.N]; exact hz.n) hij hil hjl (by rw [hX.sc]; exact lx) (by rw [hX.sc]; exact ly) (by rw [hX.sc]; exact lz) (RA.pa hX [a, b, c]) (by rw [swapped_congr _ _ (show X.env.scope = (env0 S.sc).scope from hX.sc)]; exact hw)) ?_
  refine hs ω G0 H0 σ G H _ _ E hm fun cs vs G1 H1 hx' e1 r1 l1 => ?_
  have lv := r1.length
  match vs, lv.trans l1 with
  | [v, w, u], _ =>
    refine ⟨v, w, u, rfl, ?_⟩
    exact hk cs ω G0 H0 _ G1 H1 P Dn (E.putsN e1 r1 [i, j, l] rfl) hx' q

/-! the same, told datum by datum -/
def Ct.dat : Ct → D
  | .val d => d
  | .own d => d
  | .drw => .none
  | .scr _ => .none
theorem dat_ctB (o : Bool) (x : D) : (ctB o x).dat = x := by cases o <;> rfl
def k2D (oa ob : Bool) (k : D → D → M ρ) : List Ct → M ρ
  | [c1, c2] => M.need (c1 = ctB oa c1.dat ∧ c2 = ctB ob c2.dat) (k c1.dat c2.dat)
  | _ => M.fail
def k3D (oa ob oc : Bool) (k : D → D → D → M ρ) : List Ct → M ρ
  | [c1, c2, c3] => M.need (c1 = ctB oa c1.dat ∧ c2 = ctB ob c2.dat ∧ c3 = ctB oc c3.dat) (k c1.dat c2.dat c3.dat)
  | _ => M.fail
def k4D (oa ob oc od : Bool) (k : D → D → D → D → M ρ) : List Ct → M ρ
  | [c1, c2, c3, c4] => M.need (c1 = ctB oa c1.dat ∧ c2 = ctB ob c2.dat ∧ c3 = ctB oc c3.dat ∧ c4 = ctB od c4.dat) (k c1.dat c2.dat c3.dat c4.dat)
  | _ => M.fail
def k5D (oa ob oc od oe : Bool) (k : D → D → D → D → D → M ρ) : List Ct → M ρ
  | [c1, c2, c3, c4, c5] => M.need (c1 = ctB oa c1.dat ∧ c2 = ctB ob c2.dat ∧ c3 = ctB oc c3.dat ∧ c4 = ctB od c4.dat ∧ c5 = ctB oe c5.dat) (k c1.dat c2.dat c3.dat c4.dat c5.dat)
  | _ => M.fail
theorem k2D_eq {oa ob : Bool} {k : D → D → M ρ} (x y : D) : k2D oa ob k [ctB oa x, ctB ob y] = k x y := by
  funext P; simp [k2D, M.need, dat_ctB]
theorem k3D_eq {oa ob oc : Bool} {k : D → D → D → M ρ} (x y z : D) : k3D oa ob oc k [ctB oa x, ctB ob y, ctB oc z] = k x y z := by
  funext P; simp [k3D, M.need, dat_ctB]
theorem k4D_eq {oa ob oc od : Bool} {k : D → D → D → D → M ρ} (x y z u : D) : k4D oa ob oc od k [ctB oa x, ctB ob y, ctB oc z, ctB od u] = k x y z u := by
  funext P; simp [k4D, M.need, dat_ctB]
theorem k5D_eq {oa ob oc od oe : Bool} {k : D → D → D → D → D → M ρ} (x y z u v : D) : k5D oa ob oc od oe k [ctB oa x, ctB ob y, ctB oc z, ctB od u, ctB oe v] = k x y z u v := by
  funext P; simp [k5D, M.need, dat_ctB]
theorem w_need {c : Prop} {sts : List Stmt} {m : M ρ} (h : c → W S Γ sts m ι) : W S Γ sts (M.need c m) ι := fun ω G0 H0 σ G H P Dn E hm q => h hm.1 ω G0 H0 σ G H P Dn E hm.2 q
theorem w_fail {sts : List Stmt} : W S Γ sts M.fail ι := fun ω G0 H0 σ G H P Dn E hm q => hm.elim
theorem k2D_w {oa ob : Bool} {k : D → D → M ρ} {is : List Nat} (hk : ∀ x y, W S (setAllE Γ is [ctB oa x, ctB ob y]) rest (k x y) ι) (cs : List Ct) : W S (setAllE Γ is cs) rest (k2D oa ob k cs) ι := by
  match cs with
  | [c1, c2] =>
    refine w_need fun h => ?_
    have := hk c1.dat c2.dat
    rw [← h.1, ← h.2] at this
    exact this
  | [] => exact w_fail
  | [_] => exact w_fail
  | _ :: _ :: _ :: _ => exact w_fail
theorem k3D_w {oa ob oc : Bool} {k : D → D → D → M ρ} {is : List Nat} (hk : ∀ x y z, W S (setAllE Γ is [ctB oa x, ctB ob y, ctB oc z]) rest (k x y z) ι) (cs : List Ct) : W S (setAllE Γ is cs) rest (k3D oa ob oc k cs) ι := by
  match cs with
  | [c1, c2, c3] =>
    refine w_need fun h => ?_
    have := hk c1.dat c2.dat c3.dat
    rw [← h.1, ← h.2.1, ← h.2.2] at this
    exact this
  | [] => exact w_fail
  | [_] => exact w_fail
  | [_, _] => exact w_fail
  | _ :: _ :: _ :: _ :: _ => exact w_fail
theorem k4D_w {oa ob oc od : Bool} {k : D → D → D → D → M ρ} {is : List Nat} (hk : ∀ x y z u, W S (setAllE Γ is [ctB oa x, ctB ob y, ctB oc z, ctB od u]) rest (k x y z u) ι) (cs : List Ct) : W S (setAllE Γ is cs) rest (k4D oa ob oc od k cs) ι := by
  match cs with
  | [c1, c2, c3, c4] =>
    refine w_need fun h => ?_
    have := hk c1.dat c2.dat c3.dat c4.dat
    rw [← h.1, ← h.2.1, ← h.2.2.1, ← h.2.2.2] at this
    exact this
  | [] => exact w_fail
  | [_] => exact w_fail
  | [_, _] => exact w_fail
  | [_, _, _] => exact w_fail
  | _ :: _ :: _ :: _ :: _ :: _ => exact w_fail
theorem k5D_w {oa ob oc od oe : Bool} {k : D → D → D → D → D → M ρ} {is : List Nat} (hk : ∀ x y z u v, W S (setAllE Γ is [ctB oa x, ctB ob y, ctB oc z, ctB od u, ctB oe v]) rest (k x y z u v) ι) (cs : List Ct) : W S (setAllE Γ is cs) rest (k5D oa ob oc od oe k cs) ι := by
  match cs with
  | [c1, c2, c3, c4, c5] =>
    refine w_need fun h => ?_
    have := hk c1.dat c2.dat c3.dat c4.dat c5.dat
    rw [← h.1, ← h.2.1, ← h.2.2.1, ← h.2.2.2.1, ← h.2.2.2.2] at this
    exact this
  | [] => exact w_fail
  | [_] => exact w_fail
  | [_, _] => exact w_fail
  | [_, _, _] => exact w_fail
  | [_, _, _, _] => exact w_fail
  | _ :: _ :: _ :: _ :: _ :: _ :: _ => exact w_fail
/-- the same block by an equal mirror -/
theorem w_eq {sts : List Stmt} {m m' : M ρ} (e : m' = m) (h : W S Γ sts m ι) : W S Γ sts m' ι := by rw [e]; exact h
variable {ts : List Expr} {is : List Nat} {kt kk : Nat} {pt pt2 px py pz : Pos} {oa ob oc od oe : Bool} {a1 a2 a3 a4 a5 : Expr} {m1 m2 m3 m4 m5 : M D}
theorem w_par2 {k : D → D → M ρ} (ht : TgsAt S ts is) (h1 : WL S Γ oa a1 m1) (h2 : WL S Γ ob a2 m2) (hl : ts.length = 2) (hw : swappedStores [.Tuple ts kt pt] (.Tuple [a1, a2] kk pt2) (env0 S.sc) = pure none)
    (hk : ∀ x y, W S (setAllE Γ is [ctB oa x, ctB ob y]) rest (k x y) ι)
    (e1 : ∀ env, starEach [a1, a2] env = (false, eval a1 env) :: starEach [a2] env := by intro _; rfl) (e2 : ∀ env, starEach [a2] env = (false, eval a2 env) :: starEach [] env := by intro _; rfl)
    (hn : ∀ env, (assignEach ts env).length = ts.length := by intro _; rfl) (hst : ∀ env, (assignEach ts env).findIdx? (·.1) = none := by intro _; rfl) :
    W S Γ (.Assign [.Tuple ts kt pt] (.Tuple [a1, a2] kk pt2) pos :: rest) (m1.bind fun x => m2.bind fun y => k x y) ι := by
  refine w_eq ?_ (w_parN ht (wx_cons h1 (wx_cons h2 wx_nil e2) e1) hl (by show 2 ≤ 1000; decide) hw (k2D_w hk) hn hst)
  simp only [← k2D_eq (oa := oa) (ob := ob) (k := k)]
  rfl
theorem w_par3 {k : D → D → D → M ρ} (ht : TgsAt S ts is) (h1 : WL S Γ oa a1 m1) (h2 : WL S Γ ob a2 m2) (h3 : WL S Γ oc a3 m3) (hl : ts.length = 3) (hw : swappedStores [.Tuple ts kt pt] (.Tuple [a1, a2, a3] kk pt2) (env0 S.sc) = pure none)
    (hk : ∀ x y z, W S (setAllE Γ is [ctB oa x, ctB ob y, ctB oc z]) rest (k x y z) ι)
    (e1 : ∀ env, starEach [a1, a2, a3] env = (false, eval a1 env) :: starEach [a2, a3] env := by intro _; rfl) (e2 : ∀ env, starEach [a2, a3] env = (false, eval a2 env) :: starEach [a3] env := by intro _; rfl) (e3 : ∀ env, starEach [a3] env = (false, eval a3 env) :: starEach [] env := by intro _; rfl)
    (hn : ∀ env, (assignEach ts env).length = ts.length := by intro _; rfl) (hst : ∀ env, (assignEach ts env).findIdx? (·.1) = none := by intro _; rfl) :
    W S Γ (.Assign [.Tuple ts kt pt] (.Tuple [a1, a2, a3] kk pt2) pos :: rest) (m1.bind fun x => m2.bind fun y => m3.bind fun z => k x y z) ι := by
  refine w_eq ?_ (w_parN ht (wx_cons h1 (wx_cons h2 (wx_cons h3 wx_nil e3) e2) e1) hl (by show 3 ≤ 1000; decide) hw (k3D_w hk) hn hst)
  simp only [← k3D_eq (oa := oa) (ob := ob) (oc := oc) (k := k)]
  rfl
theorem w_par4 {k : D → D → D → D → M ρ} (ht : TgsAt S ts is) (h1 : WL S Γ oa a1 m1) (h2 : WL S Γ ob a2 m2) (h3 : WL S Γ oc a3 m3) (h4 : WL S Γ od a4 m4) (hl : ts.length = 4) (hw : swappedStores [.Tuple ts kt pt] (.Tuple [a1, a2, a3, a4] kk pt2) (env0 S.sc) = pure none)
    (hk : ∀ x y z u, W S (setAllE Γ is [ctB oa x, ctB ob y, ctB oc z, ctB od u]) rest (k x y z u) ι)
    (e1 : ∀ env, starEach [a1, a2, a3, a4] env = (false, eval a1 env) :: starEach [a2, a3, a4] env := by intro _; rfl) (e2 : ∀ env, starEach [a2, a3, a4] env = (false, eval a2 env) :: starEach [a3, a4] env := by intro _; rfl) (e3 : ∀ env, starEach [a3, a4] env = (false, eval a3 env) :: starEach [a4] env := by intro _; rfl) (e4 : ∀ env, starEach [a4] env = (false, eval a4 env) :: starEach [] env := by intro _; rfl)
    (hn : ∀ env, (assignEach ts env).length = ts.length := by intro _; rfl) (hst : ∀ env, (assignEach ts env).findIdx? (·.1) = none := by intro _; rfl) :
    W S Γ (.Assign [.Tuple ts kt pt] (.Tuple [a1, a2, a3, a4] kk pt2) pos :: rest) (m1.bind fun x => m2.bind fun y => m3.bind fun z => m4.bind fun u => k x y z u) ι := by
  refine w_eq ?_ (w_parN ht (wx_cons h1 (wx_cons h2 (wx_cons h3 (wx_cons h4 wx_nil e4) e3) e2) e1) hl (by show 4 ≤ 1000; decide) hw (k4D_w hk) hn hst)
  simp only [← k4D_eq (oa := oa) (ob := ob) (oc := oc) (od := od) (k := k)]
  rfl
theorem w_par5 {k : D → D → D → D → D → M ρ} (ht : TgsAt S ts is) (h1 : WL S Γ oa a1 m1) (h2 : WL S Γ ob a2 m2) (h3 : WL S Γ oc a3 m3) (h4 : WL S Γ od a4 m4) (h5 : WL S Γ oe a5 m5) (hl : ts.length = 5) (hw : swappedStores [.Tuple ts kt pt] (.Tuple [a1, a2, a3, a4, a5] kk pt2) (env0 S.sc) = pure none)
    (hk : ∀ x y z u v, W S (setAllE Γ is [ctB oa x, ctB ob y, ctB oc z, ctB od u, ctB oe v]) rest (k x y z u v) ι)
    (e1 : ∀ env, starEach [a1, a2, a3, a4, a5] env = (false, eval a1 env) :: starEach [a2, a3, a4, a5] env := by intro _; rfl) (e2 : ∀ env, starEach [a2, a3, a4, a5] env = (false, eval a2 env) :: starEach [a3, a4, a5] env := by intro _; rfl) (e3 : ∀ env, starEach [a3, a4, a5] env = (false, eval a3 env) :: starEach [a4, a5] env := by intro _; rfl) (e4 : ∀ env, starEach [a4, a5] env = (false, eval a4 env) :: starEach [a5] env := by intro _; rfl) (e5 : ∀ env, starEach [a5] env = (false, eval a5 env) :: starEach [] env := by intro _; rfl)
    (hn : ∀ env, (assignEach ts env).length = ts.length := by intro _; rfl) (hst : ∀ env, (assignEach ts env).findIdx? (·.1) = none := by intro _; rfl) :
    W S Γ (.Assign [.Tuple ts kt pt] (.Tuple [a1, a2, a3, a4, a5] kk pt2) pos :: rest) (m1.bind fun x => m2.bind fun y => m3.bind fun z => m4.bind fun u => m5.bind fun v => k x y z u v) ι := by
  refine w_eq ?_ (w_parN ht (wx_cons h1 (wx_cons h2 (wx_cons h3 (wx_cons h4 (wx_cons h5 wx_nil e5) e4) e3) e2) e1) hl (by show 5 ≤ 1000; decide) hw (k5D_w hk) hn hst)
  simp only [← k5D_eq (oa := oa) (ob := ob) (oc := oc) (od := od) (oe := oe) (k := k)]
  rfl
theorem w_swp2 {i j : Nat} {x y : Str} {k : D → D → M ρ} (hx : SetAt S i x) (hy : SetAt S j y) (hij : i ≠ j) (lx : S.sc.names.lookup x = some .local) (ly : S.sc.names.lookup y = some .local) (h1 : WL S Γ oa a1 m1) (h2 : WL S Γ ob a2 m2)
    (hw : swappedStores [.Tuple [.Name x px, .Name y py] kt pt] (.Tuple [a1, a2] kk pt2) (env0 S.sc) = pure (some [x, y])) (hk : ∀ x y, W S (setAllE Γ [i, j] [ctB oa x, ctB ob y]) rest (k x y) ι)
    (e1 : ∀ env, starEach [a1, a2] env = (false, eval a1 env) :: starEach [a2] env := by intro _; rfl) (e2 : ∀ env, starEach [a2] env = (false, eval a2 env) :: starEach [] env := by intro _; rfl) :
    W S Γ (.Assign [.Tuple [.Name x px, .Name y py] kt pt] (.Tuple [a1, a2] kk pt2) pos :: rest) (m1.bind fun x => m2.bind fun y => k x y) ι := by
  refine w_eq ?_ (w_sw2 hx hy hij lx ly (wx_cons h1 (wx_cons h2 wx_nil e2) e1) hw (k2D_w hk))
  simp only [← k2D_eq (oa := oa) (ob := ob) (k := k)]
  rfl
theorem w_swp3 {i j l : Nat} {x y z : Str} {k : D → D → D → M ρ} (hx : SetAt S i x) (hy : SetAt S j y) (hz : SetAt S l z) (hij : i ≠ j) (hil : i ≠ l) (hjl : j ≠ l) (lx : S.sc.names.lookup x = some .local) (ly : S.sc.names.lookup y = some .local) (lz : S.sc.names.lookup z = some .local) (h1 : WL S Γ oa a1 m1) (h2 : WL S Γ ob a2 m2) (h3 : WL S Γ oc a3 m3)
    (hw : swappedStores [.Tuple [.Name x px, .Name y py, .Name z pz] kt pt] (.Tuple [a1, a2, a3] kk pt2) (env0 S.sc) = pure (some [x, y, z])) (hk : ∀ x y z, W S (setAllE Γ [i, j, l] [ctB oa x, ctB ob y, ctB oc z]) rest (k x y z) ι)
    (e1 : ∀ env, starEach [a1, a2, a3] env = (false, eval a1 env) :: starEach [a2, a3] env := by intro _; rfl) (e2 : ∀ env, starEach [a2, a3] env = (false, eval a2 env) :: starEach [a3] env := by intro _; rfl) (e3 : ∀ env, starEach [a3] env = (false, eval a3 env) :: starEach [] env := by intro _; rfl) :
    W S Γ (.Assign [.Tuple [.Name x px, .Name y py, .Name z pz] kt pt] (.Tuple [a1, a2, a3] kk pt2) pos :: rest) (m1.bind fun x => m2.bind fun y => m3.bind fun z => k x y z) ι := by
  refine w_eq ?_ (w_sw3 hx hy hz hij hil hjl lx ly lz (wx_cons h1 (wx_cons h2 (wx_cons h3 wx_nil e3) e2) e1) hw (k3D_w hk))
  simp only [← k3D_eq (oa := oa) (ob := ob) (oc := oc) (k := k)]
  rfl
/-- a, b = e: e a tuple -/
theorem w_asg {α : Type} {tg : Expr} {dec : D → M α} {g : α → En → En} {us : List Nat} {k : α → M ρ} (he : WE S Γ e me) (hg : WG S tg dec g us) (hk : ∀ a, W S (g a Γ) rest (k a) ι)
    (hs : ∀ env, swapsWithSole [tg] e pos.line env = pure false := by intro _; rfl) (hw : ∀ env, swappedStores [tg] e env = pure none := by intro _; rfl)
    (h1 : ∀ env, (assignEach [tg] env).map (·.2) = [assign tg env] := by intro _; rfl) : W S Γ (.Assign [tg] e pos :: rest) (me.bind fun d => (dec d).bind fun a => k a) ι := by
  intro ω G0 H0 σ G H P Dn E hm q
  refine rs_cons (fun X hX => ps_asg (RE.pe hX e) (RG.pg hX tg) (hs _) (hw _) (h1 _)) ?_
  refine he ω G0 H0 σ G H _ _ E hm fun d v G1 H1 hP e1 r1 => ?_
  exact hg ω G0 H0 Γ σ G1 H1 v d _ _ (E.step e1) r1 hP fun a σ' ha E' _ => hk a ω G0 H0 σ' G1 H1 P Dn E' ha q
end
end Wp
namespace Wp
open PySem PySem.Spec PyProof.Rows L2

section
variable {S : Sg} {Γ Γ' : En} {e a b c e1 e2 e3 : Expr} {m ma mb mc md me : M D} {pos pos' apos cpos npos : Pos} {es : List Expr} {rest : List Stmt} {ρ : Type} {ι : ρ → Out}
/-! ### x op= e -/
def IpOk (S : Sg) (op : Operator) (f : D → D → M D) : Prop := OpOk S (inplaceOp op) f
def iaddD : D → D → M D
  | .int i, .int j => M.pure (.int (i + j))
  | .str x, .str y => M.need (x.length + y.length ≤ 16777216) (M.pure (.str (x ++ y)))
  | _, _ => M.fail
theorem iadd_ok : IpOk S .Add iaddD := by
  intro ω G H x y v u P Q e rx ry hf q
  cases x with
  | int i => cases y with
    | int j => cases rx.int; cases ry.int; exact ⟨_, fun X hX => iop_add, i, j, rfl, rfl, q _ _ _ _ hf e (.int _)⟩
    | _ => exact hf.elim
  | str i => cases y with
    | str j => cases rx.str; cases ry.str; exact ⟨_, fun X hX => iop_add_str, i, j, rfl, rfl, line_le hf.1, q _ _ _ _ hf.2 e (.str _)⟩
    | _ => exact hf.elim
  | _ => exact hf.elim
theorem isub_ok : IpOk S .Sub subD := by
  intro ω G H x y v u P Q e rx ry hf q
  cases x with
  | int i => cases y with
    | int j => cases rx.int; cases ry.int; exact ⟨_, fun X hX => iop_sub, i, j, rfl, rfl, q _ _ _ _ hf e (.int _)⟩
    | _ => exact hf.elim
  | _ => exact hf.elim
theorem w_aug {i : Nat} {x : Str} {op : Operator} {f : D → D → M D} {d : D} {k : D → M ρ} (hx : SetAt S i x) (hi : Γ[i]? = some (some (.val d))) (ho : IpOk S op f) (he : WE S Γ e me) (hk : ∀ z, W S (Γ.set i (some (.val z))) rest (k z) ι) :
    W S Γ (.AugAssign (.Name x pos') op e pos :: rest) (me.bind fun y => (f d y).bind k) ι := by
  intro ω G0 H0 σ G H P Dn E hm q
  refine rs_cons (fun X hX => ps_aug (i := i) (ti := ROp S (inplaceOp op)) (by rw [hX.N]; exact hX.nd) (by rw [hX.N]; exact hx.n) (by rw [hX.sc]; exact hx.l) (RE.pe hX e) (fun pins s σ H x y v u Q I r1 r2 h => ROp.op hX _ pins s σ H x y v u Q I r1 r2 h) (hx.fx hX)) ?_
  obtain ⟨v, h1, h2⟩ := E.sl i _ hi
  refine ⟨v, h1, he ω G0 H0 σ G H _ _ E hm fun y u G1 H1 hP e1 r1 => ?_⟩
  refine ho ω G1 H1 d y v u _ _ e1.self (.inl (Rp.ext h2 e1)) (.inl r1) hP fun z w G2 H2 hz e2 r2 => ?_
  exact hk z ω G0 H0 _ G2 H2 P Dn ((E.step (e1.trans e2)).putV r2) hz q

/-! ### what changes one's own -/
def appD : D → D → M D
  | .list ds, y => M.need (ds.length < 16777216) (M.pure (.list (ds ++ [y])))
  | _, _ => M.fail
def isL : D → Bool
  | .list _ => true
  | _ => false
def isDi : D → Bool
  | .dict _ => true
  | _ => false
theorem own_list {ω : Option Addr} {K : PySem.W.Frag} {G0 H0 G H : Hp} {σ : L2.St} {i : Nat} {d : D} (E : EnvOk ω K G0 H0 Γ σ G H) (hi : Γ[i]? = some (some (.own d))) (hd : isL d = true) : ∃ o xs ds, σ[i]? = some (some (.ref o)) ∧ d = .list ds ∧ H o = some (.lst xs) ∧ RpA K G xs ds ∧ ds.length ≤ sizeLine := by
  obtain ⟨v, hv, o, u, rfl, g1, g2, g3, g4, g5⟩ := E.sl i _ hi
  cases g5 with
  | lst r z => exact ⟨o, _, _, hv, rfl, g2, r, z⟩
  | _ => simp [isL] at hd
structure Meth1 (o : Expr) (nm : Str) (apos : Pos) (e : Expr) (cpos : Pos) : Prop where
  base : ∀ env, attributeBase o nm env (eval o env) = eval o env
  few : ∀ env, ((backTo cpos (starEach [e] env)).all (fun x => !x.1) && (backToKw cpos (keywordEach [] env)).all (fun x => x.1.isSome)
      && decide ([e].length + ([] : List Keyword).length + (if ([] : List Keyword).isEmpty then 0 else 1) < 30)) = true
  line : (apos.endLine == cpos.line) = true
  star : ∀ env, starEach [e] env = (false, eval e env) :: starEach [] env
  plain : ∀ env, (backTo cpos (starEach [] env)).any (·.1) = false
  trees : ∀ env, backTo cpos (starEach [e] env) = [(false, eval e env)]
theorem w_append {i : Nat} {x : Str} {d : D} {k : D → M ρ} (hx : VarAt S i x) (hi : Γ[i]? = some (some (.own d))) (he : WE S Γ e me) (hk : ∀ z, W S (Γ.set i (some (.own z))) rest (k z) ι)
    (hm1 : Meth1 (.Name x npos) "append" apos e cpos) (hs : ∀ env, swapsWith (.Call (.Attribute (.Name x npos) "append" apos) [e] [] cpos) none pos.line env = pure false := by intro _; rfl) :
    W S Γ (.Expr (.Call (.Attribute (.Name x npos) "append" apos) [e] [] cpos) pos :: rest) (M.need (isL d = true) (me.bind fun y => (appD d y).bind k)) ι := by
  intro ω G0 H0 σ G H P Dn E hm q
  obtain ⟨hd, hm⟩ := hm
  refine rs_cons (t := tDrop (tBM S.K "list" rAppend (tVar i) (tCons (RE S e) tNil))) (fun X hX => by
    have h := ps_expr (X := X) (pos := pos) (pe_bm PySem.F.plainAttrs_list PySem.F.slot_list_append PySem.F.type_list_append (mt_append) (pe_var (i := i) (pos := npos) (by rw [hX.N]; exact hx.n) (by rw [hX.sc]; exact hx.v) hx.d hx.c) (pa_cons (RE.pe hX e) pa_nil (hm1.star _)) (hm1.base _) (hm1.few _) hm1.line (hm1.star _) (hm1.plain _)) (hs _)
    rw [hX.K] at h; exact h) ?_
  obtain ⟨o, xs, ds, hv, rfl, g2, _, _⟩ := own_list E hi hd
  refine ⟨.ref o, hv, .inl ⟨rfl, _, .inl (.inl g2)⟩, ?_⟩
  refine he ω G0 H0 σ G H _ _ E hm fun y u' G1 H1 hP e1 r1 => ?_
  have E1 := E.step e1
  obtain ⟨o', xs', ds', hv', hq, g2', r, z⟩ := own_list E1 hi hd
  rw [hv] at hv'
  cases hv'
  cases hq
  obtain ⟨hl, hP⟩ := hP
  have hl' := r.length
  refine ⟨o, xs', u', rfl, rfl, g2', by rw [sizeLine_eq]; omega, ?_⟩
  exact hk _ ω G0 H0 σ G1 _ P Dn (E1.updO hi hv (.lst (r.append (.cons r1 .nil)) (by rw [sizeLine_eq]; simp; omega))) hP q
/-- x.extend(e), e a list -/
def extD : D → D → M D
  | .list ds, .list ys => M.need (ds.length + ys.length ≤ 16777216) (M.pure (.list (ds ++ ys)))
  | _, _ => M.fail
theorem mt_extendL {X : Cx} : MtM X "list.extend" (fun x vs H Q => ∃ l b xs zs, x = .ref l ∧ vs = [.ref b] ∧ H l = some (.lst xs) ∧ Rd H b (.lst zs) ∧ xs.length + zs.length ≤ sizeLine ∧ Q .non (upd H l (.lst (xs ++ zs)))) := by
  intro pins s σ H x vs v us Q I rx rv h
  obtain ⟨l, b, xs, zs, rfl, rfl, hH, hB, hz, q⟩ := h
  cases rx
  obtain ⟨u, rfl, ru⟩ := rv.one
  cases ru
  obtain ⟨z, its, n, r, hl, e⟩ := I.lstM hH
  obtain ⟨z2, its2, n2, r2, e2⟩ := rd_list I hB
  have hl2 := r2.length
  have hsz : its.toArray.size + its2.toArray.size ≤ sizeLine := by rw [List.size_toArray, List.size_toArray]; omega
  have hlong : ¬ (!its.toArray.isEmpty && Builtin.List.listTooLong (its.toArray.size + its2.toArray.size)) = true := by
    rw [notLongL hsz, Bool.and_false]
    exact Bool.false_ne_true
  refine call_meets PySem.F.slot_list_extend ⟨_, e, rfl⟩ PySem.F.entry_list_extend (PySem.F.args_list_extend_2 _ _)
    (AutoSeq1.list_extend_list_list_0 l its.toArray n b its2.toArray n2 hlong (by rw [List.size_toArray]; omega) (by omega)) ⟨e, e2, ?_⟩
  refine ⟨.non, _, I.lset (its' := its ++ its2) hH e (by simp) (r.append r2) ?_, rfl, q⟩
  rw [List.length_append]
  omega
theorem w_extend {i : Nat} {x : Str} {d : D} {k : D → M ρ} (hx : VarAt S i x) (hi : Γ[i]? = some (some (.own d))) (he : WE S Γ e me) (hk : ∀ z, W S (Γ.set i (some (.own z))) rest (k z) ι)
    (hm1 : Meth1 (.Name x npos) "extend" apos e cpos) (hs : ∀ env, swapsWith (.Call (.Attribute (.Name x npos) "extend" apos) [e] [] cpos) none pos.line env = pure false := by intro _; rfl) :
    W S Γ (.Expr (.Call (.Attribute (.Name x npos) "extend" apos) [e] [] cpos) pos :: rest) (M.need (isL d = true) (me.bind fun y => (extD d y).bind k)) ι := by
  intro ω G0 H0 σ G H P Dn E hm q
  obtain ⟨hd, hm⟩ := hm
  refine rs_cons (t := tDrop (tBM S.K "list" (fun x vs H Q => ∃ l b xs zs, x = .ref l ∧ vs = [.ref b] ∧ H l = some (.lst xs) ∧ Rd H b (.lst zs) ∧ xs.length + zs.length ≤ sizeLine ∧ Q .non (upd H l (.lst (xs ++ zs)))) (tVar i) (tCons (RE S e) tNil))) (fun X hX => by
    have h := ps_expr (X := X) (pos := pos) (pe_bm PySem.F.plainAttrs_list PySem.F.slot_list_extend PySem.F.type_list_extend (mt_extendL) (pe_var (i := i) (pos := npos) (by rw [hX.N]; exact hx.n) (by rw [hX.sc]; exact hx.v) hx.d hx.c) (pa_cons (RE.pe hX e) pa_nil (hm1.star _)) (hm1.base _) (hm1.few _) hm1.line (hm1.star _) (hm1.plain _)) (hs _)
    rw [hX.K] at h; exact h) ?_
  obtain ⟨o, xs, ds, hv, rfl, g2, _, _⟩ := own_list E hi hd
  refine ⟨.ref o, hv, .inl ⟨rfl, _, .inl (.inl g2)⟩, ?_⟩
  refine he ω G0 H0 σ G H _ _ E hm fun y u' G1 H1 hP e1 r1 => ?_
  have E1 := E.step e1
  obtain ⟨o', xs', ds', hv', hq, g2', r, z⟩ := own_list E1 hi hd
  rw [hv] at hv'
  cases hv'
  cases hq
  cases y with
  | list ys =>
    obtain ⟨hl, hP⟩ := hP
    cases r1 with
    | lst s1 ra za =>
      have hl' := r.length
      have hl2 := ra.length
      refine ⟨o, _, xs', _, rfl, rfl, g2', e1.le _ _ s1, by rw [sizeLine_eq]; omega, ?_⟩
      exact hk _ ω G0 H0 σ G1 _ P Dn (E1.updO hi hv (.lst (r.append ra) (by rw [sizeLine_eq]; simp; omega))) hP q
  | _ => exact hP.elim

/-- x[k] = v, x a list of one's own -/
def lputD : D → D → D → M D
  | .list ds, .int i, v => (M.opt (ixN ds.length i)).bind fun j => M.pure (.list (ds.set j v))
  | _, _, _ => M.fail
theorem w_lput {i : Nat} {x : Str} {d : D} {k : D → M ρ} {spos : Pos} (hx : VarAt S i x) (hi : Γ[i]? = some (some (.own d))) (hv : WE S Γ e me) (ha : WE S Γ a ma) (hk : ∀ z, W S (Γ.set i (some (.own z))) rest (k z) ι)
    (hs : ∀ env, swapsWithSole [.Subscript (.Name x npos) a spos] e pos.line env = pure false := by intro _; rfl) (hw : ∀ env, swappedStores [.Subscript (.Name x npos) a spos] e env = pure none := by intro _; rfl)
    (h1 : ∀ env, (assignEach [.Subscript (.Name x npos) a spos] env).map (·.2) = [assign (.Subscript (.Name x npos) a spos) env] := by intro _; rfl)
    (hsub : ∀ env v, assign (.Subscript (.Name x npos) a spos) env v = (do
      let ov ← holding [v] (eval (.Name x npos) env)
      let iv ← holding [v, ov] (eval a env)
      standAt spos
      holding [v, ov, iv] (setItem ov iv v)
      release [v, ov, iv] []) := by intro _ _; rfl) :
    W S Γ (.Assign [.Subscript (.Name x npos) a spos] e pos :: rest) (M.need (isL d = true) (me.bind fun v => ma.bind fun j => (lputD d j v).bind k)) ι := by
  intro ω G0 H0 σ G H P Dn E hm q
  obtain ⟨hd, hm⟩ := hm
  refine rs_cons (fun X hX => ps_asg (RE.pe hX e) (pg_sub (pe_var (i := i) (by rw [hX.N]; exact hx.n) (by rw [hX.sc]; exact hx.v) hx.d hx.c) (RE.pe hX a) set_list (hsub _)) (hs _) (hw _) (h1 _)) ?_
  refine hv ω G0 H0 σ G H _ _ E hm fun y u' G1 H1 hP e1 r1 => ?_
  have E1 := E.step e1
  obtain ⟨o, xs, ds, hv, rfl, g2, _, _⟩ := own_list E1 hi hd
  refine ⟨.ref o, hv, ha ω G0 H0 σ G1 H1 _ _ E1 hP fun j w G2 H2 hj e2 r2 => ?_⟩
  have E2 := E1.step e2
  obtain ⟨o', xs', ds', hv', hq, g2', r, z⟩ := own_list E2 hi hd
  rw [hv] at hv'
  cases hv'
  cases hq
  cases r2 with
  | int jj =>
    obtain ⟨n, hn, hP⟩ := hj
    refine ⟨o, xs', jj, n, rfl, rfl, g2', by rw [r.length]; exact hn, ?_⟩
    exact hk _ ω G0 H0 σ G2 _ P Dn (E2.updO hi hv (.lst (RpA.set (r1.ext e2) n r) (by simpa using z))) hP q
  | _ => exact hj.elim

/-! ### dicts -/
def putD (es : List (D × D)) (k v : D) : List (D × D) := if (es.any fun p => PyData.eqv p.1 k) = true then es.map (fun p => if PyData.eqv p.1 k = true then (p.1, v) else p) else es ++ [(k, v)]
theorem any_rel {K : PySem.W.Frag} {G : Hp} (k : Key) : ∀ {kvs : List (Key × V)} {es : List (D × D)}, RpK K G kvs es → (es.any fun p => PyData.eqv p.1 (keyD k)) = kvs.any fun kv => decide (kv.1 = k)
  | _, _, .nil => rfl
  | _, _, .cons (k := c) r t => by rw [List.any_cons, List.any_cons, any_rel k t, eqv_keyD]
theorem map_rel {K : PySem.W.Frag} {G : Hp} (k : Key) {v : V} {d : D} (rv : Rp K G v d) : ∀ {kvs : List (Key × V)} {es : List (D × D)}, RpK K G kvs es → RpK K G (kvs.map fun kv => if kv.1 = k then (kv.1, v) else kv) (es.map fun p => if PyData.eqv p.1 (keyD k) = true then (p.1, d) else p)
  | _, _, .nil => .nil
  | _, _, .cons (k := c) r t => by
    rw [List.map_cons, List.map_cons]
    simp only [eqv_keyD]
    by_cases h : c = k
    · subst h
      simp only [decide_true, if_true]
      exact .cons rv (map_rel c rv t)
    · simp only [h, decide_false, if_false, Bool.false_eq_true]
      exact .cons r (map_rel k rv t)
theorem app_rel {K : PySem.W.Frag} {G : Hp} (k : Key) {v : V} {d : D} (rv : Rp K G v d) : ∀ {kvs : List (Key × V)} {es : List (D × D)}, RpK K G kvs es → RpK K G (kvs ++ [(k, v)]) (es ++ [(keyD k, d)])
  | _, _, .nil => .cons rv .nil
  | _, _, .cons r t => .cons r (app_rel k rv t)
theorem put_rel {K : PySem.W.Frag} {G : Hp} {kvs : List (Key × V)} {es : List (D × D)} (r : RpK K G kvs es) (k : Key) {v : V} {d : D} (rv : Rp K G v d) : RpK K G (putK kvs k v) (putD es (keyD k) d) := by
  unfold putK putD
  rw [any_rel k r]
  by_cases h : (kvs.any fun kv => decide (kv.1 = k)) = true
  · rw [if_pos h, if_pos h]; exact map_rel k rv r
  · rw [if_neg h, if_neg h]; exact app_rel k rv r
theorem putD_len (es : List (D × D)) (k v : D) : (putD es k v).length ≤ es.length + 1 := by
  unfold putD
  split
  · simp
  · simp
def dputD : D → D → D → M D
  | .dict es, k, v => M.need (kD k = true ∧ marked es = false ∧ es.length < 16777216) (M.pure (.dict (putD es k v)))
  | _, _, _ => M.fail
theorem own_dict {ω : Option Addr} {K : PySem.W.Frag} {G0 H0 G H : Hp} {σ : L2.St} {i : Nat} {es : List (D × D)} (E : EnvOk ω K G0 H0 Γ σ G H) (hi : Γ[i]? = some (some (.own (.dict es)))) (hd : marked es = false) : ∃ o kvs, σ[i]? = some (some (.ref o)) ∧ H o = some (.dK kvs) ∧ RpK K G kvs es ∧ es.length ≤ sizeLine := by
  obtain ⟨v, hv, o, u, rfl, g1, g2, g3, g4, g5⟩ := E.sl i _ hi
  cases g5 with
  | dK r z => exact ⟨o, _, hv, g2, r, z⟩
  | dT r z => simp [marked] at hd
/-- d[k] = v, d a dict of one's own -/
theorem w_dput {i : Nat} {x : Str} {d : D} {k : D → M ρ} {spos : Pos} (hx : VarAt S i x) (hi : Γ[i]? = some (some (.own d))) (hv : WE S Γ e me) (ha : WE S Γ a ma) (hk : ∀ z, W S (Γ.set i (some (.own z))) rest (k z) ι)
    (hs : ∀ env, swapsWith e (some (.Subscript (.Name x npos) a spos)) pos.line env = pure false := by intro _; rfl) :
    W S Γ (.Assign [.Subscript (.Name x npos) a spos] e pos :: rest) (me.bind fun v => ma.bind fun j => (dputD d j v).bind k) ι := by
  intro ω G0 H0 σ G H P Dn E hm q
  refine rs_cons (fun X hX => ps_dput (hu_of hX.room) (pe_var (i := i) (by rw [hX.N]; exact hx.n) (by rw [hX.sc]; exact hx.v) hx.d hx.c) (RE.pe hX a) (RE.pe hX e) (hs _)) ?_
  refine hv ω G0 H0 σ G H _ _ E hm fun y u' G1 H1 hP e1 r1 => ?_
  have E1 := E.step e1
  obtain ⟨v0, hv0, _⟩ := E1.sl i _ hi
  refine ⟨v0, hv0, ha ω G0 H0 σ G1 H1 _ _ E1 hP fun j w G2 H2 hj e2 r2 => ?_⟩
  have E2 := E1.step e2
  cases d with
  | dict es =>
    obtain ⟨⟨h1, h2, h3⟩, hP⟩ := hj
    obtain ⟨c, rfl⟩ := keyD_kD h1
    obtain ⟨o, kvs, hv, g2, r, z⟩ := own_dict E2 hi h2
    rw [hv] at hv0
    cases hv0
    have hw := kV_rel (ω := ω) (H := H2) (.inl r2)
    subst hw
    refine ⟨o, _, rfl, DPut.k g2 (by rw [r.length, sizeLine_eq]; exact h3), ?_⟩
    refine hk _ ω G0 H0 σ G2 _ P Dn (E2.updO hi hv (.dK (put_rel r c (r1.ext e2)) ?_)) hP q
    have := putD_len es (keyD c) y
    rw [sizeLine_eq]
    omega
  | _ => exact hj.elim
/-- d.get(k, x), d.get(k) -/
def get2D : D → D → D → M D
  | .dict es, k, x => M.need (kD k = true ∧ marked es = false) (M.pure ((lookD es k).getD x))
  | _, _, _ => M.fail
theorem dict_get {ω : Option Addr} {K : PySem.W.Frag} {G H : Hp} {v u : V} {es : List (D × D)} {k : D} (l : Le G H) (r : Rb ω K G H v (.dict es)) (h1 : kD k = true) (h2 : marked es = false) (rk : Rb ω K G H u k) : ∃ a kvs, v = .ref a ∧ Rd H a (.dK kvs) ∧ ∃ o, DGet H a u o ∧ (∀ d, lookD es k = some d → ∃ w, o = some w ∧ Rp K G w d) ∧ (lookD es k = none → o = none) := by
  obtain ⟨c, rfl⟩ := keyD_kD h1
  obtain ⟨a, rfl, _, ⟨kvs, s1, r1⟩ | ⟨kvs, es', rfl, _, _⟩⟩ := noT r l
  · have hl := look_rel r1 c
    exact ⟨a, kvs, rfl, s1, valV kvs c, .inl ⟨kvs, c, s1, kV_rel rk, rfl⟩, hl.1, hl.2⟩
  · simp [marked] at h2
theorem we_get2 {o : Expr} {mo mk mx : M D} {apos cpos : Pos} (ho : WE S Γ o mo) (hk : WE S Γ a mk) (hx : WE S Γ b mx) (hm2 : ∀ X : Cx, M2 X o "get" apos a b cpos) : WE S Γ (.Call (.Attribute o "get" apos) [a, b] [] cpos) (mo.bind fun d => M.need ((isDi d && plainD d) = true) (mk.bind fun k => mx.bind fun x => get2D d k x)) := by
  intro ω G0 H0 σ G H P Q E hm q
  refine ⟨_, fun X hX => pe_dget2 (hu_of hX.room) (RE.pe hX o) (RE.pe hX a) (RE.pe hX b) (hm2 X), ?_⟩
  refine ho ω G0 H0 σ G H _ _ E hm fun d v G1 H1 ⟨hd, hP⟩ e1 r1 => ?_
  cases d with
  | dict es =>
    have hmk : marked es = false := by simpa [isDi, plainD] using hd
    obtain ⟨a', rfl, _, hcase⟩ := noT (ω := ω) (.inl r1) e1.le
    refine ⟨a', rfl, ?_, ?_⟩
    · rcases hcase with ⟨kvs, s1, _⟩ | ⟨kvs, es', _, s1, _⟩
      · exact .inl ⟨_, s1⟩
      · exact .inr ⟨_, s1⟩
    refine hk ω G0 H0 σ G1 H1 _ _ (E.step e1) hP fun k u G2 H2 hP2 e2 r2 => ?_
    refine hx ω G0 H0 σ G2 H2 _ _ ((E.step e1).step e2) hP2 fun x w G3 H3 hP3 e3 r3 => ?_
    obtain ⟨⟨h1, h2⟩, hP3⟩ := hP3
    obtain ⟨a2, kvs, hq, s1, oo, g, g1, g2⟩ := dict_get (ω := ω) e3.le (.inl ((r1.ext e2).ext e3)) h1 h2 (.inl (r2.ext e3))
    cases hq
    refine ⟨oo, g, ?_⟩
    cases hlk : lookD es k with
    | none => rw [g2 hlk]; rw [hlk] at hP3; exact q _ _ _ _ hP3 ((e1.trans e2).trans e3) r3
    | some d => obtain ⟨w', rfl, rw'⟩ := g1 d hlk; rw [hlk] at hP3; exact q _ _ _ _ hP3 ((e1.trans e2).trans e3) rw'
  | _ => simp [isDi] at hd
theorem we_get1 {o : Expr} {mo mk : M D} {apos cpos : Pos} (ho : WE S Γ o mo) (hk : WE S Γ a mk) (hm2 : ∀ X : Cx, M1 X o "get" apos a cpos) : WE S Γ (.Call (.Attribute o "get" apos) [a] [] cpos) (mo.bind fun d => M.need ((isDi d && plainD d) = true) (mk.bind fun k => get2D d k .none)) := by
  intro ω G0 H0 σ G H P Q E hm q
  refine ⟨_, fun X hX => pe_dget1 (hu_of hX.room) (RE.pe hX o) (RE.pe hX a) (hm2 X), ?_⟩
  refine ho ω G0 H0 σ G H _ _ E hm fun d v G1 H1 ⟨hd, hP⟩ e1 r1 => ?_
  cases d with
  | dict es =>
    have hmk : marked es = false := by simpa [isDi, plainD] using hd
    obtain ⟨a', rfl, _, hcase⟩ := noT (ω := ω) (.inl r1) e1.le
    refine ⟨a', rfl, ?_, ?_⟩
    · rcases hcase with ⟨kvs, s1, _⟩ | ⟨kvs, es', _, s1, _⟩
      · exact .inl ⟨_, s1⟩
      · exact .inr ⟨_, s1⟩
    refine hk ω G0 H0 σ G1 H1 _ _ (E.step e1) hP fun k u G2 H2 hP3 e2 r2 => ?_
    obtain ⟨⟨h1, h2⟩, hP3⟩ := hP3
    obtain ⟨a2, kvs, hq, s1, oo, g, g1, g2⟩ := dict_get (ω := ω) e2.le (.inl (r1.ext e2)) h1 h2 (.inl r2)
    cases hq
    refine ⟨oo, g, ?_⟩
    cases hlk : lookD es k with
    | none => rw [g2 hlk]; rw [hlk] at hP3; exact q _ _ _ _ hP3 (e1.trans e2) .non
    | some d => obtain ⟨w', rfl, rw'⟩ := g1 d hlk; rw [hlk] at hP3; exact q _ _ _ _ hP3 (e1.trans e2) rw'
  | _ => simp [isDi] at hd
/-- dict(xs), xs a list of pairs -/
def pairsD : List D → Option (List (D × D))
  | [] => some []
  | .tuple [k, v] :: ds => if kD k = true then (pairsD ds).map ((k, v) :: ·) else none
  | _ :: _ => none
def mergeD (es more : List (D × D)) : List (D × D) := more.foldl (fun acc p => putD acc p.1 p.2) es
def dictD : D → M D
  | .list ds => (M.opt (pairsD ds)).bind fun ps => M.pure (.dict (mergeD [] ps))
  | _ => M.fail
theorem pairs_rel {ω : Option Addr} {K : PySem.W.Frag} {G H : Hp} (l : Le G H) : ∀ {ds : List D} {xs : List V} {ps : List (D × D)}, RpA K G xs ds → pairsD ds = some ps → ∃ as kvs, xs = as.map V.ref ∧ Paired (fun p kv => SqT K H p [kV kv.1, kv.2]) as kvs ∧ RpK K G kvs ps
  | [], _, ps, .nil, h => by
    simp [pairsD] at h; subst h
    exact ⟨[], [], rfl, .nil, .nil⟩
  | d :: ds, _, ps, .cons r t, h => by
    match d, r, h with
    | .tuple [k, v], .tup (a := a) s ra z, h =>
      by_cases hk : kD k = true
      · simp only [pairsD, hk, if_true] at h
        obtain ⟨ps', h1, h2⟩ := Option.map_eq_some_iff.mp h
        subst h2
        obtain ⟨as, kvs, rfl, h3, h4⟩ := pairs_rel (ω := ω) l t h1
        obtain ⟨c, rfl⟩ := keyD_kD hk
        cases ra with
        | cons r1 ra => cases ra with
          | cons r2 ra =>
            cases ra
            have := kV_rel (ω := ω) (H := H) (.inl r1)
            subst this
            exact ⟨a :: as, (c, _) :: kvs, rfl, .cons (l.sqT s) h3, .cons r2 h4⟩
      · simp [pairsD, hk] at h
theorem merge_rel {K : PySem.W.Frag} {G : Hp} : ∀ {more : List (Key × V)} {ps : List (D × D)} {kvs : List (Key × V)} {es : List (D × D)}, RpK K G more ps → RpK K G kvs es → RpK K G (mergeK kvs more) (mergeD es ps)
  | _, _, _, _, .nil, r => r
  | _, _, kvs, es, .cons (k := c) (v := v) (vs := vs) (d := d) (ds := ds) rv t, r => (merge_rel t (put_rel r c rv) : RpK K G (mergeK (putK kvs c v) vs) (mergeD (putD es (keyD c) d) ds))
theorem mergeD_len : ∀ (more es : List (D × D)), (mergeD es more).length ≤ es.length + more.length
  | [], es => Nat.le_refl _
  | p :: ps, es => by
    have h1 := mergeD_len ps (putD es p.1 p.2)
    have h2 := putD_len es p.1 p.2
    show (mergeD (putD es p.1 p.2) ps).length ≤ es.length + (ps.length + 1)
    omega
theorem dict_ok : C1Ok S (.type "dict") dictD := by
  intro ω G H x v P Q e rx hf q
  cases x with
  | list ds =>
    obtain ⟨ps, h1, hf⟩ := hf
    obtain ⟨a, as, rfl, s1, r1, z⟩ := rx.list e.le
    obtain ⟨bs, kvs, rfl, h2, h3⟩ := pairs_rel (ω := ω) e.le r1 h1
    refine ⟨fun xs H Q => ∃ (a : Addr) (ps : List Addr) (kvs : List (Key × V)), xs = [.ref a] ∧ SqL S.K H a (ps.map V.ref) ∧ Paired (fun p kv => SqT S.K H p [kV kv.1, kv.2]) ps kvs ∧
      ∀ p, H p = none → Q (.ref p) (upd H p (.dK (mergeK [] kvs))), fun X hX => hX.K ▸ call_dictP hX.calm, a, bs, kvs, rfl, .inl s1, h2, fun p np => ?_⟩
    have e2 := e.new (o := .dK (mergeK [] kvs)) np
    have hl := h3.length
    have hl2 := Paired.length h2
    have hl3 := r1.length
    refine q _ _ _ _ hf e2 (.dK upd_same (RpK.le (e2.gg) _ (merge_rel h3 .nil)) ?_)
    have := mergeD_len ps []
    rw [List.length_map] at hl3
    simp at this
    omega
  | _ => exact hf.elim
end
end Wp
namespace Wp
open PySem PySem.Spec PyProof.Rows L2

/-! ### loops over a dict's keys -/
section
variable {ω : Option Addr} {K : PySem.W.Frag} {G0 H0 G H G' H' : Hp} {Γ Γ' : En} {σ σ' : L2.St} {a : Addr} {u : HO} {od : Obj}
theorem notfrz {u : HO} (mu : Mut (some u)) : ∀ q w, u ≠ .frz q w := fun q w e => by subst e; exact mu
theorem Ext.notω (x : Ext ω K G0 H0 G H) (hG : G a = some u) : some a ≠ ω := fun z => by
  have := (x.dr a z.symm).g
  rw [hG] at this; cases this
theorem Ext.locked (x : Ext ω K G0 H0 G H) (hH : H a = some u) (hG : G a = some u) (mu : Mut (some u)) : Ext ω K G (upd H0 a (.frz od u)) G (upd H a (.frz od u)) where
  gg := Same.refl _
  hh := fun b w n e => by
    by_cases hb : b = a
    · subst hb; rw [upd_same] at e ⊢; exact e
    · rw [upd_ne hb] at e ⊢; exact x.hh b w n e
  le := fun b w e => by
    by_cases hb : b = a
    · subst hb
      rcases x.le b w e with r | ⟨q, r⟩
      · rw [hH] at r; cases r; exact .inr ⟨od, upd_same⟩
      · rw [hH] at r; cases r; exact absurd rfl (notfrz mu q w)
    · rcases x.le b w e with r | ⟨q, r⟩
      · exact .inl (by rw [upd_ne hb]; exact r)
      · exact .inr ⟨q, by rw [upd_ne hb]; exact r⟩
  fr := fun b w e n => n
  dr := fun b e => by
    obtain ⟨g, vd, ds, at_, h1, h2, h3⟩ := x.dr b e
    have hb : b ≠ a := fun z => x.notω hG (by rw [← z, e])
    exact ⟨g, vd, ds, at_, by rw [upd_ne hb]; exact h1, h2, h3⟩
theorem EnvOk.locked (E : EnvOk ω K G0 H0 Γ σ G H) (hH : H a = some u) (hG : G a = some u) (mu : Mut (some u)) : EnvOk ω K G (upd H0 a (.frz od u)) Γ σ G (upd H a (.frz od u)) :=
  ⟨E.ext.locked hH hG mu, E.ln, fun i c h => by
    obtain ⟨v, h1, h2⟩ := E.sl i c h
    refine ⟨v, h1, ?_⟩
    cases c with
    | val d => exact h2
    | drw => exact h2
    | scr ns => exact h2
    | own d =>
      obtain ⟨o, w, rfl, g1, g2, g3, g4, g5⟩ := h2
      have ho : o ≠ a := fun z => by subst z; rw [hG] at g3; cases g3
      exact ⟨o, w, rfl, g1, by rw [upd_ne ho]; exact g2, g3, by rw [upd_ne ho]; exact g4, g5⟩, E.ds⟩
theorem EnvOk.islocked (E : EnvOk ω K G0 H0 Γ σ G H) (hH : H a = some (.frz od u)) (hG : ∃ w, G a = some w) : EnvOk ω K G (upd H0 a (.frz od u)) Γ σ G H :=
  ⟨⟨Same.refl _, fun b w n e => by
    by_cases hb : b = a
    · subst hb; rw [upd_same] at e; rw [hH]; exact e
    · rw [upd_ne hb] at e; exact E.ext.hh b w n e, E.ext.le, fun _ _ _ n => n, E.ext.dr⟩, E.ln, fun i c h => by
    obtain ⟨v, h1, h2⟩ := E.sl i c h
    refine ⟨v, h1, ?_⟩
    cases c with
    | val d => exact h2
    | drw => exact h2
    | scr ns => exact h2
    | own d =>
      obtain ⟨o, w, rfl, g1, g2, g3, g4, g5⟩ := h2
      have ho : o ≠ a := fun z => by subst z; obtain ⟨w', hG⟩ := hG; rw [hG] at g3; cases g3
      exact ⟨o, w, rfl, g1, g2, g3, by rw [upd_ne ho]; exact g4, g5⟩, E.ds⟩
theorem rd_only {G : Hp} {a : Addr} {u w : HO} (mu : Mut (some u)) (h : G a = some u) (r : Rd G a w) : w = u := by
  rcases r with r | ⟨q, r⟩
  · rw [h] at r; cases r; rfl
  · rw [h] at r; cases r; exact absurd rfl (notfrz mu q w)
/-- unlocked again: an expression's growth -/
theorem Ext.unlockE (x : Ext ω K G (upd H a (.frz od u)) G' H') (hH : H a = some u) (hG : G a = some u) (mu : Mut (some u)) (hω : some a ≠ ω) : Ext ω K G H G' (upd H' a u) where
  gg := x.gg
  hh := fun b w n e => by
    by_cases hb : b = a
    · subst hb; rw [hH] at e; rw [upd_same]; exact e
    · rw [upd_ne hb]; exact x.hh b w n (by rw [upd_ne hb]; exact e)
  le := fun b w e => by
    by_cases hb : b = a
    · subst hb
      rw [rd_only mu (x.gg _ _ hG) e]
      exact .inl upd_same
    · rcases x.le b w e with r | ⟨q, r⟩
      · exact .inl (by rw [upd_ne hb]; exact r)
      · exact .inr ⟨q, by rw [upd_ne hb]; exact r⟩
  fr := fun b w e n => by
    by_cases hb : b = a
    · subst hb; rw [hG] at n; cases n
    · exact x.fr b w (by rw [upd_ne hb]; exact e) n
  dr := fun b e => by
    obtain ⟨g, vd, ds, at_, h1, h2, h3⟩ := x.dr b e
    have hb : b ≠ a := fun z => hω (by rw [← z, e])
    exact ⟨g, vd, ds, at_, by rw [upd_ne hb]; exact h1, h2, h3⟩
/-- .. behind a loop -/
theorem Ext.unlockS (x0 : Ext ω K G0 H0 G H) (x : Ext ω K G (upd H0 a (.frz od u)) G' H') (hH : H a = some u) (hG : G a = some u) (mu : Mut (some u)) : Ext ω K G0 H0 G' (upd H' a u) where
  gg := x0.gg.trans x.gg
  hh := fun b w n e => by
    by_cases hb : b = a
    · subst hb
      have := x0.hh _ _ n e
      rw [hH] at this; rw [upd_same]; exact this
    · rw [upd_ne hb]; exact x.hh b w n (by rw [upd_ne hb]; exact e)
  le := fun b w e => by
    by_cases hb : b = a
    · subst hb
      rw [rd_only mu (x.gg _ _ hG) e]
      exact .inl upd_same
    · rcases x.le b w e with r | ⟨q, r⟩
      · exact .inl (by rw [upd_ne hb]; exact r)
      · exact .inr ⟨q, by rw [upd_ne hb]; exact r⟩
  fr := fun b w e n => by
    have n' := x0.fr b w e n
    by_cases hb : b = a
    · subst hb; rw [hG] at n'; cases n'
    · exact x.fr b w (by rw [upd_ne hb]; exact e) n'
  dr := fun b e => by
    obtain ⟨g, vd, ds, at_, h1, h2, h3⟩ := x.dr b e
    have hb : b ≠ a := fun z => x0.notω hG (by rw [← z, e])
    exact ⟨g, vd, ds, at_, by rw [upd_ne hb]; exact h1, h2, h3⟩
theorem EnvOk.unlockS (x0 : Ext ω K G0 H0 G H) (E : EnvOk ω K G (upd H0 a (.frz od u)) Γ σ G' H') (hH : H a = some u) (hG : G a = some u) (mu : Mut (some u)) : H' a = some (.frz od u) ∧ EnvOk ω K G0 H0 Γ σ G' (upd H' a u) :=
  ⟨E.ext.hh a _ (x0.notω hG) upd_same, x0.unlockS E.ext hH hG mu, E.ln, fun i c h => by
    obtain ⟨v, h1, h2⟩ := E.sl i c h
    refine ⟨v, h1, ?_⟩
    cases c with
    | val d => exact h2
    | drw => exact h2
    | scr ns => exact h2
    | own d =>
      obtain ⟨o, w, rfl, g1, g2, g3, g4, g5⟩ := h2
      have ho : o ≠ a := fun z => by subst z; have := E.ext.gg _ _ hG; rw [this] at g3; cases g3
      exact ⟨o, w, rfl, g1, by rw [upd_ne ho]; exact g2, g3, by rw [upd_ne ho] at g4; exact g4, g5⟩, E.ds⟩
theorem EnvOk.islockedS (x0 : Ext ω K G0 H0 G H) (E : EnvOk ω K G (upd H0 a (.frz od u)) Γ σ G' H') (hH : H a = some (.frz od u)) (hG : ∃ w, G a = some w) : EnvOk ω K G0 H0 Γ σ G' H' :=
  ⟨⟨x0.gg.trans E.ext.gg, fun b w n e => by
    by_cases hb : b = a
    · subst hb
      have := x0.hh _ _ n e
      rw [hH] at this; cases this
      exact E.ext.hh _ _ n upd_same
    · exact E.ext.hh b w n (by rw [upd_ne hb]; exact e), E.ext.le, fun b w e n => by
    have n' := x0.fr b w e n
    by_cases hb : b = a
    · subst hb; obtain ⟨w', hG⟩ := hG; rw [hG] at n'; cases n'
    · exact E.ext.fr b w (by rw [upd_ne hb]; exact e) n', E.ext.dr⟩, E.ln, fun i c h => by
    obtain ⟨v, h1, h2⟩ := E.sl i c h
    refine ⟨v, h1, ?_⟩
    cases c with
    | val d => exact h2
    | drw => exact h2
    | scr ns => exact h2
    | own d =>
      obtain ⟨o, w, rfl, g1, g2, g3, g4, g5⟩ := h2
      have ho : o ≠ a := fun z => by subst z; obtain ⟨w', hG⟩ := hG; have := E.ext.gg _ _ hG; rw [this] at g3; cases g3
      exact ⟨o, w, rfl, g1, g2, g3, by rw [upd_ne ho] at g4; exact g4, g5⟩, E.ds⟩
end
section
variable {S : Sg} {Γ : En} {e a b c elt tg iter : Expr} {ifs : List Expr} {m ma mb mc : M D} {ms : M (List D)} {pos ipos : Pos} {scope : Scope} {own : List (Str × Nat)} {α : Type} {dec : D → M α} {g : α → En → En} {ts : List Nat} {tc : α → M Bool} {f : α → M D}
def keysD : D → M (List D)
  | .dict es => M.need (marked es = false) (M.pure (es.map (·.1)))
  | _ => M.fail
theorem RpK.key {K : PySem.W.Frag} {G : Hp} : ∀ {kvs : List (Key × V)} {es : List (D × D)} {i : Nat} {k : Key} {v : V}, RpK K G kvs es → kvs[i]? = some (k, v) → (es.map (·.1))[i]? = some (keyD k)
  | _, _, _, _, _, .nil, e => by simp at e
  | _, _, 0, _, _, .cons _ _, e => by simp at e; simp [e.1]
  | _, _, i + 1, k, v, .cons _ t, e => by simpa using t.key (i := i) (k := k) (v := v) (by simpa using e)
theorem keyD_rp {K : PySem.W.Frag} {G : Hp} (k : Key) : Rp K G (kV k) (keyD k) := by cases k <;> constructor
theorem it_keys {ω : Option Addr} {K : PySem.W.Frag} {A : Addr → Prop} {G1 H1 : Hp} {p : Addr} {od : Obj} {kvs : List (Key × V)} {es : List (D × D)} (r : RpK K G1 kvs es) (z : es.length ≤ sizeLine) (hA : A p) (h1 : H1 p = some (.frz od (.dK kvs))) : ItOk ω K A (Itk p od kvs) (es.map (·.1)) G1 H1 where
  ln := by simpa using z
  go := fun i Gc Hc _ _ h3 hi => ⟨h3 p _ hA h1, by rw [r.length]; simpa using hi⟩
  stop := fun Gc Hc _ _ h3 => ⟨h3 p _ hA h1, by rw [r.length]; simp⟩
  yld := fun i Gc Hc v H' hi _ h2 h3 y => by
    obtain ⟨rfl, k, w, h4, rfl⟩ := y
    have e1 := r.key h4
    rw [List.getElem?_eq_getElem hi] at e1
    have e2 := Option.some.inj e1
    rw [e2]
    exact ⟨Gc, h2, keyD_rp k⟩
theorem var_dict {i : Nat} {d : D} {ω : Option Addr} {G0 H0 G H : Hp} {σ : L2.St} (E : EnvOk ω S.K G0 H0 Γ σ G H) (hi : Γ[i]? = some (some (.val d))) {P : List D → Prop} (h : keysD d P) : ∃ a kvs es, d = .dict es ∧ σ[i]? = some (some (.ref a)) ∧ G a = some (.dK kvs) ∧ RpK S.K G kvs es ∧ es.length ≤ sizeLine ∧ P (es.map (·.1)) := by
  obtain ⟨v, h1, h2⟩ := E.sl i _ hi
  cases d with
  | dict es =>
    obtain ⟨hm, h⟩ := h
    cases h2 with
    | dK s r z => exact ⟨_, _, es, rfl, h1, s, r, z, h⟩
    | dT s r z => simp [marked] at hm
  | _ => exact h.elim
/-- [elt for tg in d (if c)], d a dict by its name -/
theorem lcK_go {i : Nat} {x : Str} {d : D} (hx : VarAt S i x) (hi : Γ[i]? = some (some (.val d))) (hg : WG (S.blk scope) tg dec g ts) (hts : ∀ i ∈ ts, i ∈ own.map (·.2)) (ok : blkC S.N S.sc scope own = true) (ht : ∀ a, WTs (S.blk scope) (g a (wipeE Γ (own.map (·.2)))) ifs (tc a)) (he : ∀ a, WE (S.blk scope) (g a (wipeE Γ (own.map (·.2)))) elt (f a))
    {ω : Option Addr} {G0 H0 : Hp} {σ : L2.St} {G H : Hp} {P : D → Prop} {Q : VK} (E : EnvOk ω S.K G0 H0 Γ σ G H) (hm : ((keysD d).bind fun xs => (M.filM (turnM dec tc f) xs).bind fun ys => M.pure (.list ys)) P)
    (q : ∀ d v G' H', P d → Ext ω S.K G H G' H' → Rp S.K G' v d → Q v H') (hs : ∀ env x', foldedSetIterable (.Name x ipos) env x' = pure x' := by intro _ _; rfl) : RE S (.ListComp elt [⟨tg, .Name x ipos, ifs, 0⟩] scope pos) σ H Q := by
  have pl : ∀ X, S.Of X → PE X (.ListComp elt [⟨tg, .Name x ipos, ifs, 0⟩] scope pos) (tLc (iKeys (tVar i)) (RG (S.blk scope) tg) (RTs (S.blk scope) ifs) (RE (S.blk scope) elt) (own.map (·.2))) := fun X hX =>
    pe_lc hX.calm (by rw [hX.N]; exact hX.nd) (pi_keys (pe_var (i := i) (by rw [hX.N]; exact hx.n) (by rw [hX.sc]; exact hx.v) hx.d hx.c)) (blkOk_by (own := own) (by rw [hX.N, hX.sc]; exact ok)) (fun s H C cl fp => RG.pg (hX.blk s H scope C cl fp) tg) (fun s H C cl fp => RTs.pts (hX.blk s H scope C cl fp) ifs) (fun s H C cl fp => RE.pe (hX.blk s H scope C cl fp) elt) (hs _)
  obtain ⟨a, kvs, es, rfl, hv, hG, r, z, _⟩ := var_dict E hi (P := fun _ => True) (by cases d <;> first | exact hm.elim | exact ⟨hm.1, trivial⟩)
  have hR := E.ext.le a _ (.inl hG)
  have hω := E.ext.notω hG
  rcases hR with hH | ⟨o, hH⟩
  · -- not locked yet
    refine ⟨_, fun X hX => pe_lock (pl X hX), a, .dK kvs, hH, trivial, fun od => ?_⟩
    have El := E.locked (od := od) hH hG trivial
    refine lc_go hg hts ht he El (fun P' R h1 h2 => ?_) hm fun d v G' H' hP e1 r1 => ?_
    · obtain ⟨hmk, h1⟩ := h1
      exact ⟨.ref a, hv, a, od, rfl, .inl ⟨kvs, upd_same, h2 _ _ G _ h1 El.self (it_keys r z ⟨rfl, hω⟩ upd_same)⟩⟩
    · refine ⟨e1.hh a _ hω upd_same, q d v G' _ hP (e1.unlockE hH hG trivial hω) r1⟩
  · have El := E.islocked hH ⟨_, hG⟩
    refine ⟨_, pl, ?_⟩
    refine lc_go hg hts ht he El (fun P' R h1 h2 => ?_) hm q
    obtain ⟨hmk, h1⟩ := h1
    exact ⟨.ref a, hv, a, o, rfl, .inl ⟨kvs, hH, h2 _ _ G _ h1 El.self (it_keys r z ⟨rfl, hω⟩ hH)⟩⟩
theorem keysD_ok {d : D} {P : List D → Prop} (h : keysD d P) : keysD d fun _ => True := by cases d <;> first | exact h.elim | exact ⟨h.1, trivial⟩
theorem we_lcKif {i : Nat} {x : Str} {d : D} (hx : VarAt S i x) (hi : Γ[i]? = some (some (.val d))) (ok : blkC S.N S.sc scope own = true) (hg : WG (S.blk scope) tg dec g ts) (hts : ∀ i ∈ ts, i ∈ own.map (·.2)) (ht : ∀ a, WT (S.blk scope) (g a (wipeE Γ (own.map (·.2)))) c (tc a)) (he : ∀ a, WE (S.blk scope) (g a (wipeE Γ (own.map (·.2)))) elt (f a)) :
    WE S Γ (.ListComp elt [⟨tg, .Name x ipos, [c], 0⟩] scope pos) ((keysD d).bind fun xs => (M.filM (fun x => (dec x).bind fun a => (tc a).bind fun b => bif b then (f a).bind fun y => M.pure (some y) else M.pure none) xs).bind fun ys => M.pure (.list ys)) :=
  fun ω G0 H0 σ G H P Q E hm q => lcK_go hx hi hg hts ok (fun a => wts_one (ht a)) he E hm q
theorem we_lcK {i : Nat} {x : Str} {d : D} (hx : VarAt S i x) (hi : Γ[i]? = some (some (.val d))) (ok : blkC S.N S.sc scope own = true) (hg : WG (S.blk scope) tg dec g ts) (hts : ∀ i ∈ ts, i ∈ own.map (·.2)) (he : ∀ a, WE (S.blk scope) (g a (wipeE Γ (own.map (·.2)))) elt (f a)) :
    WE S Γ (.ListComp elt [⟨tg, .Name x ipos, [], 0⟩] scope pos) ((keysD d).bind fun xs => (M.mapM (fun x => (dec x).bind fun a => f a) xs).bind fun ys => M.pure (.list ys)) := by
  intro ω G0 H0 σ G H P Q E hm q
  refine lcK_go hx hi hg hts ok (tc := fun _ => M.pure true) (fun a => wts_nil) he E ?_ q
  have z : (fun xs => (M.filM (turnM dec (fun _ => M.pure true) f) xs).bind fun ys => M.pure (PyData.list ys)) = fun xs => (M.mapM (fun x => (dec x).bind fun a => f a) xs).bind fun ys => M.pure (PyData.list ys) := by
    funext xs; rw [mapM_eq]
  rw [z]; exact hm
variable {ρ σt : Type} {ι : ρ → Out} {rest body : List Stmt}
/-- y = [.. for tg in d ..] on one line -/
theorem setLcK_go {k : D → M ρ} {i j : Nat} {x y : Str} {d : D} {py spos : Pos} (hy : SetAt S j y) (sw : SwapAt S y scope) (hx : VarAt S i x) (hi : Γ[i]? = some (some (.val d))) (hg : WG (S.blk scope) tg dec g ts) (hts : ∀ i ∈ ts, i ∈ own.map (·.2)) (ok : blkC S.N S.sc scope own = true) (ht : ∀ a, WTs (S.blk scope) (g a (wipeE Γ (own.map (·.2)))) ifs (tc a)) (he : ∀ a, WE (S.blk scope) (g a (wipeE Γ (own.map (·.2)))) elt (f a))
    (hk : ∀ d, W S (Γ.set j (some (.val d))) rest (k d) ι) (hs : ∀ env x', foldedSetIterable (.Name x ipos) env x' = pure x' := by intro _ _; rfl) (hl : (py.line == pos.line) = true := by rfl) :
    W S Γ (.Assign [.Name y py] (.ListComp elt [⟨tg, .Name x ipos, ifs, 0⟩] scope pos) spos :: rest) (((keysD d).bind fun xs => (M.filM (turnM dec tc f) xs).bind fun ys => M.pure (.list ys)).bind k) ι := by
  intro ω G0 H0 σ G H P Dn E hm q
  have pl : ∀ X, S.Of X → PS X (.Assign [.Name y py] (.ListComp elt [⟨tg, .Name x ipos, ifs, 0⟩] scope pos) spos) (tAsg (tLc (iKeys (tVar i)) (RG (S.blk scope) tg) (RTs (S.blk scope) ifs) (RE (S.blk scope) elt) (own.map (·.2))) (gName j)) := fun X hX =>
    ps_setLc (i := j) hX.calm (by rw [hX.N]; exact hX.nd) (by rw [hX.N]; exact hy.n) (by rw [hX.sc]; exact sw.l) (sw_true (by rw [hX.sc]; exact sw.k) (by rw [hX.sc]; exact sw.l) hl sw.s) (pi_keys (pe_var (i := i) (by rw [hX.N]; exact hx.n) (by rw [hX.sc]; exact hx.v) hx.d hx.c)) (blkOk_by (own := own) (by rw [hX.N, hX.sc]; exact ok)) (fun s H C cl fp => RG.pg (hX.blk s H scope C cl fp) tg) (fun s H C cl fp => RTs.pts (hX.blk s H scope C cl fp) ifs) (fun s H C cl fp => RE.pe (hX.blk s H scope C cl fp) elt) (hs _)
  obtain ⟨a, kvs, es, rfl, hv, hG, r, z, _⟩ := var_dict E hi (P := fun _ => True) (by cases d <;> first | exact hm.elim | exact ⟨hm.1, trivial⟩)
  have hR := E.ext.le a _ (.inl hG)
  have hω := E.ext.notω hG
  rcases hR with hH | ⟨o, hH⟩
  · refine rs_cons (fun X hX => ps_lock (pl X hX)) ⟨a, .dK kvs, hH, trivial, fun od => ?_⟩
    have El := E.locked (od := od) hH hG trivial
    refine lc_go hg hts ht he El (P := fun d => k d P) (fun P' R h1 h2 => ?_) hm fun d v G' H' hP e1 r1 => ?_
    · obtain ⟨hmk, h1⟩ := h1
      exact ⟨.ref a, hv, a, od, rfl, .inl ⟨kvs, upd_same, h2 _ _ G _ h1 El.self (it_keys r z ⟨rfl, hω⟩ upd_same)⟩⟩
    · exact ⟨e1.hh a _ hω upd_same, hk d ω G0 H0 _ G' _ P Dn ((E.step (e1.unlockE hH hG trivial hω)).putV r1) hP q⟩
  · have El := E.islocked hH ⟨_, hG⟩
    refine rs_cons pl ?_
    refine lc_go hg hts ht he El (P := fun d => k d P) (fun P' R h1 h2 => ?_) hm fun d v G' H' hP e1 r1 => ?_
    · obtain ⟨hmk, h1⟩ := h1
      exact ⟨.ref a, hv, a, o, rfl, .inl ⟨kvs, hH, h2 _ _ G _ h1 El.self (it_keys r z ⟨rfl, hω⟩ hH)⟩⟩
    · exact hk d ω G0 H0 _ G' _ P Dn ((E.step e1).putV r1) hP q
theorem w_setLcKif {k : D → M ρ} {i j : Nat} {x y : Str} {d : D} {py spos : Pos} (hy : SetAt S j y) (sw : SwapAt S y scope) (hx : VarAt S i x) (hi : Γ[i]? = some (some (.val d))) (ok : blkC S.N S.sc scope own = true) (hg : WG (S.blk scope) tg dec g ts) (hts : ∀ i ∈ ts, i ∈ own.map (·.2)) (ht : ∀ a, WT (S.blk scope) (g a (wipeE Γ (own.map (·.2)))) c (tc a)) (he : ∀ a, WE (S.blk scope) (g a (wipeE Γ (own.map (·.2)))) elt (f a))
    (hk : ∀ d, W S (Γ.set j (some (.val d))) rest (k d) ι) (hl : (py.line == pos.line) = true := by rfl) :
    W S Γ (.Assign [.Name y py] (.ListComp elt [⟨tg, .Name x ipos, [c], 0⟩] scope pos) spos :: rest) (((keysD d).bind fun xs => (M.filM (fun x => (dec x).bind fun a => (tc a).bind fun b => bif b then (f a).bind fun y => M.pure (some y) else M.pure none) xs).bind fun ys => M.pure (.list ys)).bind k) ι :=
  setLcK_go hy sw hx hi hg hts ok (fun a => wts_one (ht a)) he hk (hl := hl)
theorem w_setLcK {k : D → M ρ} {i j : Nat} {x y : Str} {d : D} {py spos : Pos} (hy : SetAt S j y) (sw : SwapAt S y scope) (hx : VarAt S i x) (hi : Γ[i]? = some (some (.val d))) (ok : blkC S.N S.sc scope own = true) (hg : WG (S.blk scope) tg dec g ts) (hts : ∀ i ∈ ts, i ∈ own.map (·.2)) (he : ∀ a, WE (S.blk scope) (g a (wipeE Γ (own.map (·.2)))) elt (f a))
    (hk : ∀ d, W S (Γ.set j (some (.val d))) rest (k d) ι) (hl : (py.line == pos.line) = true := by rfl) :
    W S Γ (.Assign [.Name y py] (.ListComp elt [⟨tg, .Name x ipos, [], 0⟩] scope pos) spos :: rest) (((keysD d).bind fun xs => (M.mapM (fun x => (dec x).bind fun a => f a) xs).bind fun ys => M.pure (.list ys)).bind k) ι := by
  refine w_eq ?_ (setLcK_go (tc := fun _ => M.pure true) hy sw hx hi hg hts ok (fun a => wts_nil) he hk (hl := hl))
  have z : (fun xs => (M.filM (turnM dec (fun _ => M.pure true) f) xs).bind fun ys => M.pure (PyData.list ys)) = fun xs => (M.mapM (fun x => (dec x).bind fun a => f a) xs).bind fun ys => M.pure (PyData.list ys) := by
    funext xs; rw [mapM_eq]
  rw [z]
/-- for tg in d: .. -/
theorem w_forFK {fb : σt → α → M (Fl σt σt)} {k : σt → M ρ} {kr : D → M ρ} {i : Nat} {x : Str} {d : D} (gs : σt → En) (s0 : σt) (ks : List Bool) (hx : VarAt S i x) (hi : Γ[i]? = some (some (.val d))) (hg : WG S tg dec g ts) (h0 : gs s0 = maskE ks Γ) (hl : ks.length = Γ.length) (hb : ∀ s a, W S (g a (gs s)) body (fb s a) (flO gs)) (hr : ∀ s, W S (gs s) rest (k s) ι)
    (hf : RtOk ι kr) (hs : ∀ env x', foldedSetIterable (.Name x ipos) env x' = pure x' := by intro _ _; rfl) :
    W S Γ (.For tg (.Name x ipos) body [] pos :: rest) ((keysD d).bind fun xs => (M.foldF (fun s x => (dec x).bind fun a => fb s a) s0 xs).bind (Fl.go k kr)) ι := by
  intro ω G0 H0 σ G H P Dn E hm q
  have pl : ∀ X, S.Of X → PS X (.For tg (.Name x ipos) body [] pos) (tFor (iKeys (tVar i)) (RG S tg) (RS S body)) := fun X hX =>
    ps_for (by rw [hX.xe]; exact PassesOwn.never) hX.calm (pi_keys (pe_var (i := i) (by rw [hX.N]; exact hx.n) (by rw [hX.sc]; exact hx.v) hx.d hx.c)) (RG.pg hX tg) (RS.ps hX body) (hs _)
  obtain ⟨a, kvs, es, rfl, hv, hG, r, z, hm⟩ := var_dict E hi hm
  have hR := E.ext.le a _ (.inl hG)
  have hω := E.ext.notω hG
  have per : ∀ {od : Obj} {H1 : Hp}, H1 a = some (.frz od (.dK kvs)) → ∀ (Γ' : En) σ' Gc Hc, EnvOk ω S.K G (upd H0 a (.frz od (.dK kvs))) Γ' σ' Gc Hc → ∀ b u, b = a → H1 b = some u → Hc b = some u := fun h1 Γ' σ' Gc Hc E' b u hb hu => by
    subst hb
    rw [h1] at hu; cases hu
    exact E'.ext.hh b _ hω upd_same
  rcases hR with hH | ⟨o, hH⟩
  · refine rs_cons (fun X hX => ps_lock (pl X hX)) ⟨a, .dK kvs, hH, trivial, fun od => ?_⟩
    have El := E.locked (od := od) hH hG trivial
    refine ⟨.ref a, hv, a, od, rfl, .inl ⟨kvs, upd_same, ?_⟩⟩
    refine for_core (S := S) gs (s0 := s0) (A := fun b => b = a) hg hb (it_keys r z rfl upd_same) (by rw [h0]; exact El.mask ks hl) (per upd_same) hm (fun s σ' G' H' E' hk => ?_) fun d v G' H' hk e' r' => ?_
    · obtain ⟨h1, E2⟩ := E'.unlockS E.ext hH hG trivial
      exact ⟨h1, hr s ω G0 H0 σ' G' _ P Dn E2 hk q⟩
    · obtain ⟨r0, h1, h2⟩ := hf d P hk
      have zz := q r0 h1
      rw [h2] at zz
      exact ⟨e'.hh a _ hω upd_same, zz v G' _ (Ext.unlockS E.ext e' hH hG trivial) r'⟩
  · have El := E.islocked hH ⟨_, hG⟩
    refine rs_cons pl ⟨.ref a, hv, a, o, rfl, .inl ⟨kvs, hH, ?_⟩⟩
    refine for_core (S := S) gs (s0 := s0) (A := fun b => b = a) hg hb (it_keys r z rfl hH) (by rw [h0]; exact El.mask ks hl) (per hH) hm (fun s σ' G' H' E' hk => ?_) fun d v G' H' hk e' r' => ?_
    · exact hr s ω G0 H0 σ' G' _ P Dn (E'.islockedS E.ext hH ⟨_, hG⟩) hk q
    · obtain ⟨r0, h1, h2⟩ := hf d P hk
      have zz := q r0 h1
      rw [h2] at zz
      refine zz v G' _ ?_ r'
      exact (EnvOk.islockedS (Γ := []) (σ := []) E.ext ⟨e', rfl, fun i c h => by simp at h, fun i j d e v h => by simp at h⟩ hH ⟨_, hG⟩).ext
theorem w_forK {fb : σt → α → M σt} {k : σt → M ρ} {i : Nat} {x : Str} {d : D} (gs : σt → En) (s0 : σt) (ks : List Bool) (hx : VarAt S i x) (hi : Γ[i]? = some (some (.val d))) (hg : WG S tg dec g ts) (h0 : gs s0 = maskE ks Γ) (hl : ks.length = Γ.length) (hb : ∀ s a, W S (g a (gs s)) body (fb s a) (fun s' => .nx (gs s'))) (hr : ∀ s, W S (gs s) rest (k s) ι) :
    W S Γ (.For tg (.Name x ipos) body [] pos :: rest) ((keysD d).bind fun xs => (M.fold (fun s x => (dec x).bind fun a => fb s a) s0 xs).bind k) ι := by
  have h := w_forFK (ι := ι) (pos := pos) (ipos := ipos) (fb := fun s a => (fb s a).bind fun s' => M.pure (.nx s')) (k := k) (kr := fun _ => M.fail) gs s0 ks hx hi hg h0 hl (fun s a => w_map (hb s a)) hr rt_none
  have z : ((keysD d).bind fun xs => (M.fold (fun s x => (dec x).bind fun a => fb s a) s0 xs).bind k) = (keysD d).bind fun xs => (M.foldF (fun s x => (dec x).bind fun a => (fb s a).bind fun s' => M.pure (.nx s')) s0 xs).bind (Fl.go k fun _ => M.fail) := by
    have : (fun xs => (M.fold (fun s x => (dec x).bind fun a => fb s a) s0 xs).bind k) = fun xs => (M.foldF (fun s x => (dec x).bind fun a => (fb s a).bind fun s' => M.pure (.nx s')) s0 xs).bind (Fl.go k fun _ => M.fail) := by
      funext xs
      exact (foldF_nx (f := fun s x => (dec x).bind fun a => fb s a) xs s0).symm
    rw [this]
  rw [z]
  exact h

/-! ### sorted, min, max, all, any -/
open PySem.W in
/-- alike, none of them None, nested at most 16 deep, all tuples with something in them or no tuples -/
def sortable (ds : List D) : Bool := (ds.all fun x => ds.all fun y => alike x y) && shA 16 ds && (ds.all (fun d => match d with | .tuple (_ :: _) => true | _ => false) || ds.all fun d => match d with | .tuple _ => false | .none => false | _ => true)
open PySem.W in
def sortL (ds : List D) : List D := ds.mergeSort (dataLe false id)
def sortedD : D → M D
  | .list ds => M.need (sortable ds = true) (M.pure (.list (sortL ds)))
  | .dict es => M.need (marked es = false ∧ sortable (es.map (·.1)) = true) (M.pure (.list (sortL (es.map (·.1)))))
  | _ => M.fail
open PySem.W in
theorem sortable_ok {ds : List D} (h : sortable ds = true) : AllAlike (ds.map id) ∧ Sortable (ds.map id) ∧ PyData.canLayAll0 ds = true ∧ PyData.depthAll ds ≤ 16 := by
  unfold sortable at h
  simp only [Bool.and_eq_true, Bool.or_eq_true, List.all_eq_true] at h
  obtain ⟨⟨h1, h2⟩, h3⟩ := h
  have h4 := shA_lay ds 16 h2
  refine ⟨fun d hd d' hd' => ?_, ?_, h4.1, h4.2⟩
  · rw [List.map_id] at hd hd'
    exact h1 d hd d' hd'
  · rw [List.map_id]
    rcases h3 with h3 | h3
    · refine .inl fun d hd => ?_
      have := h3 d hd
      cases d with
      | tuple xs => cases xs with
        | nil => simp at this
        | cons x r => exact ⟨x, r, rfl⟩
      | _ => simp at this
    · refine .inr fun d hd => ?_
      have := h3 d hd
      cases d <;> simp_all
theorem dp_mem : ∀ {ds : List D} {d : D}, d ∈ ds → d.depth ≤ PyData.depthAll ds
  | [], _, h => by cases h
  | x :: xs, d, h => by
    rcases List.mem_cons.mp h with rfl | h
    · simp [PyData.depthAll]; omega
    · have := dp_mem h; simp [PyData.depthAll]; omega
open PySem.W in
theorem each_of {X : Cx} {pins : List (Addr × Obj)} {σ : L2.St} {G H : Hp} {s : Shared} (I : L2.Inv X pins σ H s) (l : Le G H) : ∀ {ds : List D} {xs : List V} {us : List Value}, RpA X.K G xs ds → Vals xs us → PyData.canLayAll0 ds = true →
    EachIs (fun v d => ∃ x, RelV x v ∧ Rp X.K G x d) us ds ∧ EachIs (fun v d => ∃ as, Reads s.heap v (id d) as) us ds
  | _, _, _, .nil, .nil, _ => ⟨.nil, .nil⟩
  | d :: ds, _, _, .cons r t, .cons rv tv, h => by
    have h' : d.canLay0 = true ∧ PyData.canLayAll0 ds = true := by simpa [PyData.canLayAll0] using h
    obtain ⟨e1, e2⟩ := each_of I l t tv h'.2
    exact ⟨.cons ⟨_, rv, r⟩ e1, .cons (Dp.reads I d _ _ (r.dp l d h'.1) rv) e2⟩
open PySem.W in
theorem each_back {K : PySem.W.Frag} {G : Hp} : ∀ {us : List Value} {ds : List D}, EachIs (fun v d => ∃ x, RelV x v ∧ Rp K G x d) us ds → ∃ xs, Vals xs us ∧ RpA K G xs ds
  | _, _, .nil => ⟨[], .nil, .nil⟩
  | _, _, .cons ⟨x, h1, h2⟩ t => by
    obtain ⟨xs, h3, h4⟩ := each_back t
    exact ⟨x :: xs, .cons h1 h3, .cons h2 h4⟩
open PySem.W in
theorem call_sortedL {X : Cx} {k : Nat} (hr : Room k X.A) : CallR X (.builtin "sorted") (fun xs H Q => ∃ a G ds ys, xs = [.ref a] ∧ Rd H a (.lst ys) ∧ Le G H ∧ RpA X.K G ys ds ∧ sortable ds = true ∧ ∀ p zs, H p = none → RpA X.K G zs (sortL ds) → Q (.ref p) (upd H p (.lst zs))) := by
  intro pins s σ H vs us Q I r h
  obtain ⟨a, G, ds, ys, rfl, hs, l, ra, hd, q⟩ := h
  obtain ⟨its, rv, hl, hlen⟩ := I.list (.inl hs)
  rw [Vals.ref1 r]
  obtain ⟨h1, h2, h3, h4⟩ := sortable_ok hd
  obtain ⟨e1, e2⟩ := each_of I l ra rv h3
  have hn := ra.length
  refine sorted_data (bs := ds) (enc := id) (R := fun v d => ∃ x, RelV x v ∧ Rp X.K G x d) hl.isList e1 e2 h1 h2 (by omega) (fun d hd' => ?_) fun out ho eo => ?_
  · have := dp_mem hd'
    have := hr.un
    show X.A.units + 2 + d.depth < cLine
    omega
  · obtain ⟨zs, v1, r1⟩ := each_back eo
    obtain ⟨ep, he'⟩ := PyProof.Rows.sortedAll_at s.heap its out.toArray
    have hz := v1.length
    exact ⟨.ref _, upd H (s.heap.objs.size + 1) (.lst zs), I.laid (t' := s.toks) (fun _ _ => PyProof.Rows.sortedAll_old) (Nat.le_succ _) ⟨by omega, out, ep, v1, he'⟩, rfl, q _ zs (I.hok.fresh (Nat.le_succ _)) r1⟩
theorem sortL_len (ds : List D) : (sortL ds).length = ds.length := by unfold sortL; simp
open PySem.W in
theorem call_sortedK {X : Cx} {k : Nat} (hcalm : X.calm = true) (hr : Room k X.A) : CallR X (.builtin "sorted") (fun xs H Q => ∃ a G es kvs, xs = [.ref a] ∧ Rd H a (.dK kvs) ∧ Le G H ∧ RpK X.K G kvs es ∧ sortable (es.map (·.1)) = true ∧ ∀ p zs, H p = none → RpA X.K G zs (sortL (es.map (·.1))) → Q (.ref p) (upd H p (.lst zs))) := by
  intro pins s σ H xs us Q I r h
  obtain ⟨a, G, es, kvs, rfl, hd, l, ra, hso, q⟩ := h
  obtain ⟨u, rfl, rx⟩ := vals1 r
  cases rx
  obtain ⟨z, lo, vs, rel, dd⟩ := dk_rd I.hok hd
  obtain ⟨ep, hat⟩ := dd.dictAt
  have hl : vs.length = kvs.length := rel.length.symm
  have h16 : vs.length ≤ sizeLine := by rw [hl]; exact z
  obtain ⟨h1, h2, h3, h4⟩ := sortable_ok hso
  have hn := ra.length
  refine Calls.call_function_entry PyProof.Rows.kind_sorted PyProof.Rows.plain_sorted PyProof.Rows.entry_sorted (PyProof.Rows.args_sorted1 _) ?_
  unfold Builtin.«sorted»
  refine wpAny_bind (m := checkCount "sorted" 1 1 _) (wpAny_pure ?_)
  refine wpAny_bind (PySem.W.kdu_collect (A := X.A.in1) (PySem.W.kdl_dict (knd := mixKind X.prog X.w) (kvs := vs) (ep := ep) lo) (I.ok.hd hcalm) hat h16 fun h' tk acc hk hacc => ?_)
  have hal : acc.toList.length = kvs.length := by rw [Array.length_toList, hacc.1, hl]
  have I1 : L2.Inv X pins σ H { s with heap := h', toks := tk } := I.kept hk
  have hv : Vals (kvs.map fun kv => kV kv.1) acc.toList := vals_of_at (by rw [List.length_map, hal]) fun j x u hx hu => by
    obtain ⟨k, y, e1, e2⟩ := hacc.2 j u (by rw [← Array.getElem?_toList]; exact hu)
    have e3 : (vs.map (·.1))[j]? = some k := by rw [List.getElem?_map, e1]; all_goals rfl
    rw [← rel.keys, List.getElem?_map] at e3
    rw [List.getElem?_map] at hx
    cases e4 : kvs[j]? with
    | none => rw [e4] at e3; cases e3
    | some p =>
      rw [e4] at e3 hx
      have e5 : p.1 = k := Option.some.inj e3
      have e6 : kV p.1 = x := Option.some.inj hx
      rw [← e6, e5]
      exact keyIs_rel e2
  have hrp : RpA X.K G (kvs.map fun kv => kV kv.1) (es.map (·.1)) := by
    have : ∀ {kvs : List (Key × V)} {es : List (D × D)}, RpK X.K G kvs es → RpA X.K G (kvs.map fun kv => kV kv.1) (es.map (·.1)) := by
      intro kvs
      induction kvs with
      | nil => intro es r; cases r; exact .nil
      | cons p ps ih => intro es r; cases r with
        | cons rv t => exact .cons (keyD_rp _) (ih t)
    exact this ra
  obtain ⟨e1, e2⟩ := each_of I1 l hrp hv h3
  refine wpAny_bind (wpAny_newList ?_ (by rw [hal]; exact z))
  have hoL : (h'.push (seqObj "list" acc.toList.toArray 0)).get? h'.objs.size = some (seqObj "list" acc.toList.toArray 0) := Heap.get?_push_size _ rfl
  show wpAny _ _ _ _ _ { s with heap := h'.push (seqObj "list" acc.toList.toArray 0), toks := tk }
  have e2' : EachIs (fun v d => ∃ as, Reads (h'.push (seqObj "list" acc.toList.toArray 0)) v (id d) as ∧ h'.objs.size ∉ as) acc.toList (es.map (·.1)) := by
    have hflat : ∀ {us : List Value} {ds : List D}, (∀ d ∈ ds, kD d = true) → EachIs (fun v d => ∃ as, Reads h' v (id d) as) us ds → EachIs (fun v d => ∃ as, Reads (h'.push (seqObj "list" acc.toList.toArray 0)) v (id d) as ∧ h'.objs.size ∉ as) us ds := by
      intro us ds hk' e
      induction e with
      | nil => exact .nil
      | cons h t ih =>
        rename_i a b as bs
        refine .cons ?_ (ih fun d hd => hk' d (List.mem_cons_of_mem _ hd))
        obtain ⟨as', h⟩ := h
        have := hk' b List.mem_cons_self
        cases b with
        | int i => cases h; exact ⟨_, .int _ _, by simp⟩
        | str x => cases h; exact ⟨_, .str _ _, by simp⟩
        | _ => simp [kD] at this
    refine hflat (fun d hd' => ?_) e2
    obtain ⟨p, hp, rfl⟩ := List.mem_map.mp hd'
    have : ∀ {kvs : List (Key × V)} {es : List (D × D)}, RpK X.K G kvs es → ∀ p ∈ es, kD p.1 = true := by
      intro kvs
      induction kvs with
      | nil => intro es r; cases r; intro p hp; cases hp
      | cons q qs ih => intro es r; cases r with
        | cons rv t =>
          intro p hp
          rcases List.mem_cons.mp hp with rfl | hp
          · rename_i k _ _ _; cases k <;> rfl
          · exact ih t p hp
    exact this ra p hp
  refine wpAny_bind (wpAny_holding (list_sort_data (s := { s with heap := h'.push (seqObj "list" acc.toList.toArray 0), toks := tk }) (bs := es.map (·.1)) (enc := id) (R := fun v d => ∃ x, RelV x v ∧ Rp X.K G x d) hoL e1 e2' h1 h2 (by rw [List.length_map, ← hn]; exact z) (fun d hd' => ?_) fun out ho eo => ?_))
  · have := dp_mem hd'
    have := hr.un
    show X.A.units + 1 + 1 + d.depth < cLine
    omega
  · obtain ⟨zs, v1, r1⟩ := each_back eo
    obtain ⟨e', he'⟩ := PyProof.Rows.sortedHeap_at (vs := acc.toList) (out := out.toArray) hoL
    have hz := v1.length
    rw [List.length_map] at ho
    refine wpAny_pure ⟨_, rfl, .ref h'.objs.size, upd H h'.objs.size (.lst zs), I1.laid (t' := tk) (fun b u e => ?_) (Nat.le_refl _)
      (show ObjOk X.prog X.w _ _ _ (.lst zs) from ⟨by omega, out, e', v1, he'⟩), rfl, q _ zs (I1.hok.fresh (Nat.le_refl _)) r1⟩
    have hb : b < h'.objs.size := Heap.lt_size e
    rw [PyProof.Rows.sortedHeap_old (Nat.ne_of_lt hb) (by rw [size_push']; exact Nat.lt_succ_of_lt hb)]
    exact Heap.get?_push_of_some _ e
theorem sorted_ok : C1Ok S (.builtin "sorted") sortedD := by
  intro ω G H x v P Q e rx hf q
  cases x with
  | list ds =>
    obtain ⟨hs, hf⟩ := hf
    obtain ⟨a, as, rfl, s1, r1, z⟩ := rx.list e.le
    refine ⟨fun xs H Q => ∃ a G ds ys, xs = [.ref a] ∧ Rd H a (.lst ys) ∧ Le G H ∧ RpA S.K G ys ds ∧ sortable ds = true ∧ ∀ p zs, H p = none → RpA S.K G zs (sortL ds) → Q (.ref p) (upd H p (.lst zs)), fun X hX => hX.K ▸ call_sortedL hX.room, a, G, ds, as, rfl, s1, e.le, r1, hs, fun p zs np rz => ?_⟩
    obtain ⟨e2, r⟩ := new_lst e np rz (by rw [sortL_len]; exact z)
    exact q _ _ _ _ hf e2 r
  | dict es =>
    obtain ⟨⟨hm, hs⟩, hf⟩ := hf
    obtain ⟨a, rfl, z, ⟨kvs, s1, r1⟩ | ⟨kvs, es', rfl, _, _⟩⟩ := noT rx e.le
    · refine ⟨fun xs H Q => ∃ a G es kvs, xs = [.ref a] ∧ Rd H a (.dK kvs) ∧ Le G H ∧ RpK S.K G kvs es ∧ sortable (es.map (·.1)) = true ∧ ∀ p zs, H p = none → RpA S.K G zs (sortL (es.map (·.1))) → Q (.ref p) (upd H p (.lst zs)), fun X hX => hX.K ▸ call_sortedK hX.calm hX.room, a, G, es, kvs, rfl, s1, e.le, r1, hs, fun p zs np rz => ?_⟩
      obtain ⟨e2, r⟩ := new_lst e np rz (by rw [sortL_len, List.length_map]; exact z)
      exact q _ _ _ _ hf e2 r
    · simp [marked] at hm
  | _ => exact hf.elim
def maxD : D → M D
  | .list ds => (M.opt (asInts ds)).bind fun ns => (M.opt ns.max?).bind fun m => M.pure (.int m)
  | _ => M.fail
def minD : D → M D
  | .list ds => (M.opt (asInts ds)).bind fun ns => (M.opt ns.min?).bind fun m => M.pure (.int m)
  | _ => M.fail
theorem max_ok : C1Ok S (.builtin "max") maxD := by
  intro ω G H x v P Q e rx hf q
  cases x with
  | list ds =>
    obtain ⟨ns, h1, m, h2, hf⟩ := hf
    obtain ⟨a, as, rfl, s1, r1, z⟩ := rx.list e.le
    have e2 := asInts_some h1
    subst e2
    have e3 := r1.ints
    subst e3
    have hne : 0 < ns.length := by cases ns <;> simp_all
    refine ⟨rMax S.K, fun X hX => hX.K ▸ cr_max hX.calm, a, ns, rfl, .inl s1, hne, fun m' hm hle => ?_⟩
    have h3 := List.max?_eq_some_iff.mp h2
    have : m' = m := Int.le_antisymm (h3.2 m' hm) (hle m h3.1)
    rw [this]
    exact q _ _ _ _ hf e (.int _)
  | _ => exact hf.elim
theorem min_ok : C1Ok S (.builtin "min") minD := by
  intro ω G H x v P Q e rx hf q
  cases x with
  | list ds =>
    obtain ⟨ns, h1, m, h2, hf⟩ := hf
    obtain ⟨a, as, rfl, s1, r1, z⟩ := rx.list e.le
    have e2 := asInts_some h1
    subst e2
    have e3 := r1.ints
    subst e3
    have hne : 0 < ns.length := by cases ns <;> simp_all
    refine ⟨rMin S.K, fun X hX => hX.K ▸ cr_min hX.calm, a, ns, rfl, .inl s1, hne, fun m' hm hle => ?_⟩
    have h3 := List.min?_eq_some_iff.mp h2
    have : m' = m := Int.le_antisymm (hle m h3.1) (h3.2 m' hm)
    rw [this]
    exact q _ _ _ _ hf e (.int _)
  | _ => exact hf.elim
def asBls : List D → Option (List Bool)
  | [] => some []
  | .bool i :: ds => (asBls ds).map (i :: ·)
  | _ :: _ => none
theorem asBls_map : ∀ ns : List Bool, asBls (ns.map .bool) = some ns
  | [] => rfl
  | n :: ns => by simp [asBls, asBls_map ns]
theorem asBls_some : ∀ {ds : List D} {ns : List Bool}, asBls ds = some ns → ds = ns.map .bool
  | [], ns, h => by simp [asBls] at h; subst h; rfl
  | d :: ds, ns, h => by
    cases d with
    | bool i =>
      obtain ⟨ms, h1, h2⟩ := Option.map_eq_some_iff.mp (show (asBls ds).map (i :: ·) = some ns from h)
      subst h2
      rw [asBls_some h1]; rfl
    | _ => simp [asBls] at h
theorem RpA.bls {K : PySem.W.Frag} {G : Hp} : ∀ {ns : List Bool} {xs : List V}, RpA K G xs (ns.map .bool) → xs = ns.map V.bl
  | [], _, .nil => rfl
  | n :: ns, _, .cons r t => by cases r; rw [t.bls]; rfl
def allD : D → M D
  | .list ds => (M.opt (asBls ds)).bind fun bs => M.pure (.bool (bs.all id))
  | _ => M.fail
def anyD : D → M D
  | .list ds => (M.opt (asBls ds)).bind fun bs => M.pure (.bool (bs.any id))
  | _ => M.fail
theorem all_ok : C1Ok S (.builtin "all") allD := by
  intro ω G H x v P Q e rx hf q
  cases x with
  | list ds =>
    obtain ⟨ns, h1, hf⟩ := hf
    obtain ⟨a, as, rfl, s1, r1, z⟩ := rx.list e.le
    have e2 := asBls_some h1
    subst e2
    have e3 := r1.bls
    subst e3
    exact ⟨rAll S.K, fun X hX => hX.K ▸ cr_all hX.calm, a, ns, rfl, .inl s1, q _ _ _ _ hf e (.bl _)⟩
  | _ => exact hf.elim
theorem any_ok : C1Ok S (.builtin "any") anyD := by
  intro ω G H x v P Q e rx hf q
  cases x with
  | list ds =>
    obtain ⟨ns, h1, hf⟩ := hf
    obtain ⟨a, as, rfl, s1, r1, z⟩ := rx.list e.le
    have e2 := asBls_some h1
    subst e2
    have e3 := r1.bls
    subst e3
    exact ⟨rAny S.K, fun X hX => hX.K ▸ cr_any hX.calm, a, ns, rfl, .inl s1, q _ _ _ _ hf e (.bl _)⟩
  | _ => exact hf.elim
/-- a module's constant: a tuple of ints, texts .. that stands in the written part -/
structure GlobAt (S : Sg) (x : Str) (u : Value) : Prop where
  g : S.sc.names.lookup x = some .globalImplicit
  m : S.mg x = some u
  d : (x == ("__debug__" : Str)) = false
theorem we_glob {x : Str} {u : Value} {v : V} {d : D} (h : GlobAt S x u) (r : RelV v u) (rp : ∀ G, Rp S.K G v d) : WE S Γ (.Name x pos) (M.pure d) := fun ω G0 H0 σ G H P Q E hm q =>
  ⟨_, fun X hX => pe_glob (gl_of hX h.g) (by rw [hX.mg]; exact h.m) r h.d, q _ _ G H hm E.self (rp G)⟩
end
end Wp
namespace Wp
open PySem PySem.Spec PyProof.Rows L2

/-! ### the script, as it is -/
section
variable {S : Sg} {Γ : En} {a b : Expr} {ma mb : M D} {pos p p2 : Pos}
theorem we_lenScr {i : Nat} {x : Str} {ns : List Int} (h : VarAt S i x) (hi : Γ[i]? = some (some (.scr ns))) (hb : BltAt S "len" (.builtin "len")) (he : ∀ env, starEach [.Name x p2] env = (false, eval (.Name x p2) env) :: starEach [] env := by intro _; rfl) :
    WE S Γ (.Call (.Name "len" p) [.Name x p2] [] pos) (M.pure (.int ns.length)) := by
  intro ω G0 H0 σ G H P Q E hm q
  obtain ⟨v, h1, o, rfl, ho⟩ := E.sl i _ hi
  refine ⟨_, fun X hX => pe_callB (RCall.call hX _) (gl_of hX hb.g) (by rw [hX.mg]; exact hb.m) hb.v (pa_cons (pe_var (i := i) (by rw [hX.N]; exact h.n) (by rw [hX.sc]; exact h.v) h.d h.c) pa_nil (he _)) hb.n hb.d (he _) rfl, .ref o, h1, ?_⟩
  refine ⟨fun xs H Q => ∃ p ys, xs = [.ref p] ∧ (SqL S.K H p ys ∨ SqT S.K H p ys) ∧ Q (.int ys.length) H, fun X hX => hX.K ▸ call_len_seq, o, ns.map V.int, rfl, .inl (E.ext.le.sqL ho), ?_⟩
  rw [List.length_map]
  exact q _ _ _ _ hm E.self (.int _)
theorem we_ixScr {i : Nat} {x : Str} {ns : List Int} (h : VarAt S i x) (hi : Γ[i]? = some (some (.scr ns))) (hb : WB S Γ b mb) (hs : PlainIx b) :
    WE S Γ (.Subscript (.Name x p) b pos) (mb.bind fun y => (asI y).bind fun k => (M.opt (atI ns k)).bind fun z => M.pure (.int z)) := by
  intro ω G0 H0 σ G H P Q E hm q
  obtain ⟨v, h1, o, rfl, ho⟩ := E.sl i _ hi
  refine ⟨_, fun X hX => pe_ix (RIx.ix hX) (pe_var (i := i) (by rw [hX.N]; exact h.n) (by rw [hX.sc]; exact h.v) h.d h.c) (RE.pe hX b) hs, .ref o, h1, ?_⟩
  refine hb ω G0 H0 σ G H _ _ E hm fun y u G1 H1 hy e1 r1 => ?_
  cases y with
  | int k =>
    cases r1.int
    obtain ⟨z, hz, hP⟩ := hy
    refine ⟨rIxL S.K, fun X hX => hX.K ▸ ix_list, o, ns.map V.int, k, .int z, rfl, rfl, e1.le.sqL ((Le.of_same e1.gg).sqL ho), ?_, q _ _ _ _ hP e1 (.int _)⟩
    unfold atI at hz ⊢
    simp only [List.length_map, List.getElem?_map] at hz ⊢
    cases hq : ixN ns.length k with
    | none => rw [hq] at hz; cases hz
    | some j =>
      rw [hq] at hz
      show Option.map V.int ns[j]? = _
      rw [show ns[j]? = some z from hz]
      rfl
  | _ => exact hy.elim
end

/-! ### the law's own call -/
def spLaw (K : PySem.W.Frag) : Sp := fun vs H Q _ => ∃ (a : Addr) (ns : List Int), vs = [.ref a] ∧ SqL K H a (ns.map V.int) ∧ ns.length ≤ 63 ∧ ∀ H', Q (.bl true) H'
def wDict (callE : Expr) (p2 p3 p4 p5 : Pos) (j1 j2 j3 : Nat) : Expr := .Dict [some (.Constant (.str ("draws" : Str)) j1 p2), some (.Constant (.str ("at" : Str)) j2 p3)] [callE, .Constant (.int 0) j3 p4] p5
theorem law_fn {P : Program} {w : World} {K : PySem.W.Frag} {mg : Str → Option Value} {base : Heap} {x qual : Str} {st : Stmt} {f : Addr} {fd : FuncData} {N : List Str} {k i : Nat} {callE : Expr} {rest : List Stmt} {mcall : List Int → M D} {m : M D} {wn : Str} {p1 p2 p3 p4 p5 p6 : Pos} {j1 j2 j3 : Nat}
    (F : Fun K x qual st f fd) (Sc : FnScope N ["script"] (defScope st)) (hN : 1 ≤ N.length) (hi0 : i ≠ 0) (hi : i < N.length) (hb : defBody st = .Assign [.Name wn p1] (wDict callE p2 p3 p4 p5 j1 j2 j3) p6 :: rest)
    (hw : SetAt ⟨P, w, K, mg, base, N, defScope st, k, fun _ => true⟩ i wn) (hcall : ∀ ns, WE ⟨P, w, K, mg, base, N, defScope st, k, fun _ => true⟩ (some (.scr ns) :: List.replicate (N.length - 1) none) callE (mcall ns))
    (hdr : ∀ ns : List Int, ns.length ≤ 63 → mcall ns fun d => ∃ ds : List Int, d = .list (ds.map .int))
    (hrest : W ⟨P, w, K, mg, base, N, defScope st, k, fun _ => true⟩ ((List.replicate N.length none).set i (some .drw)) rest m Out.rt) (hm : m fun d => d = .bool true)
    (hs : ∀ env, swapsWith (wDict callE p2 p3 p4 p5 j1 j2 j3) (some (.Name wn p1)) p6.line env = pure false := by intro _; rfl) :
    FnOk P w K mg base CX0 (k + 1) f fd ["script"] (spLaw K) := by
  refine F.ok Sc (fun vs H Q E h => by obtain ⟨a, ns, rfl, _⟩ := h; rfl) (fun cdv A outer s H vs Q E hr h => ?_)
  obtain ⟨a, ns, rfl, hS, hlen, q⟩ := h
  generalize hSg : (⟨P, w, K, mg, base, N, defScope st, k, fun _ => true⟩ : Sg) = S at *
  have hOf : S.Of (cxOf CX0 P w K mg base N qual (defScope st) f cdv A outer s H E).nox := by
    subst hSg; exact ⟨rfl, rfl, rfl, rfl, rfl, rfl, rfl, rfl, hr, rfl, rfl, Sc.nd⟩
  have hK : S.K = K := by subst hSg; rfl
  have hSN : S.N = N := by subst hSg; rfl
  refine ⟨RS S (defBody st), RS.ps hOf _, ?_⟩
  rw [hb]
  refine rs_cons (fun X hX => ps_set (i := i) (by rw [hX.N]; exact hX.nd) (by rw [hX.N]; exact hw.n) (by rw [hX.sc]; exact hw.l) (pe_disp (pps_cons pe_str (RE.pe hX callE) (pps_cons pe_str pe_int pps_nil)) rfl rfl (by simp) (by show 2 ≤ 15; decide)) (hs _) (hw.fx hX)) ?_
  intro p np
  have E0 : Ext none S.K H H H H := ⟨Same.refl _, fun _ _ _ h => h, Le.refl _, fun _ _ _ h => h, fun _ h => nomatch h⟩
  have E1 := E0.lay (o := .dK []) np
  have lnσ : (L2.start N [V.ref a]).length = N.length := by
    unfold L2.start
    simp only [List.length_append, List.length_map, List.length_replicate, List.length_cons, List.length_nil]
    omega
  have Ev : EnvOk none S.K H (upd H p (.dK [])) (some (.scr ns) :: List.replicate (N.length - 1) none) (L2.start N [V.ref a]) H (upd H p (.dK [])) := by
    refine ⟨E1.self, ?_, fun j c hj => ?_, fun j j' d e v h1 _ _ _ => ?_⟩
    · rw [lnσ]; simp only [List.length_cons, List.length_replicate]; omega
    · cases j with
      | zero => simp at hj; subst hj; exact ⟨.ref a, start_get rfl, a, rfl, hK ▸ hS⟩
      | succ j =>
        have := List.mem_of_getElem? (by simpa using hj : (List.replicate (N.length - 1) (none : Option Ct))[j]? = some (some c))
        rw [List.mem_replicate] at this
        cases this.2
    · cases j with
      | zero => simp at h1
      | succ j =>
        have := List.mem_of_getElem? (by simpa using h1 : (List.replicate (N.length - 1) (none : Option Ct))[j]? = some (some (.own d)))
        rw [List.mem_replicate] at this
        cases this.2
  show RE S callE _ _ _
  refine hcall ns none H _ _ H _ _ _ Ev (hdr ns hlen) fun d vd G2 H2 hd e2 r2 => ?_
  obtain ⟨ds, rfl⟩ := hd
  have hp2 : H2 p = some (.dK []) := e2.hh p _ (by intro h; cases h) upd_same
  have gp2 : G2 p = none := e2.fr p _ upd_same np
  refine ⟨hp2, [(.inr ("draws" : Str), vd), (.inr ("at" : Str), .int 0)], rfl, by simp, ?_⟩
  show RS S rest _ _ _
  have em : mergeK [] [(.inr ("draws" : Str), vd), (.inr ("at" : Str), V.int 0)] = [(.inr ("draws" : Str), vd), (.inr ("at" : Str), .int 0)] := rfl
  rw [em]
  have eX : Ext (some p) S.K G2 (upd H2 p (drwO vd 0)) G2 (upd H2 p (drwO vd 0)) := by
    refine ⟨Same.refl _, fun _ _ _ h => h, fun b u e => ?_, fun _ _ _ h => h, fun o ho => ?_⟩
    · have hb : b ≠ p := fun z => by
        subst z
        rcases e with e | ⟨q, e⟩ <;> (rw [gp2] at e; cases e)
      rcases e2.le b u e with r | ⟨q, r⟩
      · exact .inl (by rw [upd_ne hb]; exact r)
      · exact .inr ⟨q, by rw [upd_ne hb]; exact r⟩
    · cases ho
      exact ⟨gp2, vd, ds, 0, upd_same, r2, Int.le_refl _⟩
  refine hrest (some p) G2 _ _ G2 _ _ _ ⟨eX, ?_, fun j c hj => ?_, fun j j' d e v h1 _ _ _ => ?_⟩ hm fun d hd v G' H' e' r' => ?_
  · simp only [List.length_set, List.length_replicate]; exact lnσ
  · rcases getElem?_set_some hj with ⟨rfl, e, hl⟩ | ⟨_, hj⟩
    · cases e
      exact ⟨.ref p, by rw [List.getElem?_set_self (by rw [lnσ]; exact hi)], p, rfl, rfl⟩
    · have := List.mem_of_getElem? hj
      rw [List.mem_replicate] at this
      cases this.2
  · rcases getElem?_set_some h1 with ⟨rfl, e, hl⟩ | ⟨_, hj⟩
    · cases e
    · have := List.mem_of_getElem? hj
      rw [List.mem_replicate] at this
      cases this.2
  · subst hd
    cases r'
    exact q H'
end Wp
namespace Wp
open PySem PySem.Spec PyProof.Rows L2

/-! ### built-ins at their names -/
section
variable {S : Sg}

theorem blt_len (g : S.sc.names.lookup ("len" : Str) = some .globalImplicit) (m : S.mg ("len" : Str) = none) : BltAt S ("len" : Str) (.builtin "len") := ⟨g, m, rfl, by decide, rfl⟩
theorem blt_abs (g : S.sc.names.lookup ("abs" : Str) = some .globalImplicit) (m : S.mg ("abs" : Str) = none) : BltAt S ("abs" : Str) (.builtin "abs") := ⟨g, m, rfl, by decide, rfl⟩
theorem blt_max (g : S.sc.names.lookup ("max" : Str) = some .globalImplicit) (m : S.mg ("max" : Str) = none) : BltAt S ("max" : Str) (.builtin "max") := ⟨g, m, rfl, by decide, rfl⟩
theorem blt_min (g : S.sc.names.lookup ("min" : Str) = some .globalImplicit) (m : S.mg ("min" : Str) = none) : BltAt S ("min" : Str) (.builtin "min") := ⟨g, m, rfl, by decide, rfl⟩
theorem blt_sum (g : S.sc.names.lookup ("sum" : Str) = some .globalImplicit) (m : S.mg ("sum" : Str) = none) : BltAt S ("sum" : Str) (.builtin "sum") := ⟨g, m, rfl, by decide, rfl⟩
theorem blt_sorted (g : S.sc.names.lookup ("sorted" : Str) = some .globalImplicit) (m : S.mg ("sorted" : Str) = none) : BltAt S ("sorted" : Str) (.builtin "sorted") := ⟨g, m, rfl, by decide, rfl⟩
theorem blt_all (g : S.sc.names.lookup ("all" : Str) = some .globalImplicit) (m : S.mg ("all" : Str) = none) : BltAt S ("all" : Str) (.builtin "all") := ⟨g, m, rfl, by decide, rfl⟩
theorem blt_any (g : S.sc.names.lookup ("any" : Str) = some .globalImplicit) (m : S.mg ("any" : Str) = none) : BltAt S ("any" : Str) (.builtin "any") := ⟨g, m, rfl, by decide, rfl⟩
theorem blt_isinstance (g : S.sc.names.lookup ("isinstance" : Str) = some .globalImplicit) (m : S.mg ("isinstance" : Str) = none) : BltAt S ("isinstance" : Str) (.builtin "isinstance") := ⟨g, m, rfl, by decide, rfl⟩
theorem blt_int (g : S.sc.names.lookup ("int" : Str) = some .globalImplicit) (m : S.mg ("int" : Str) = none) : BltAt S ("int" : Str) (.type "int") := ⟨g, m, rfl, by decide, rfl⟩
theorem blt_tuple (g : S.sc.names.lookup ("tuple" : Str) = some .globalImplicit) (m : S.mg ("tuple" : Str) = none) : BltAt S ("tuple" : Str) (.type "tuple") := ⟨g, m, rfl, by decide, rfl⟩
theorem blt_list (g : S.sc.names.lookup ("list" : Str) = some .globalImplicit) (m : S.mg ("list" : Str) = none) : BltAt S ("list" : Str) (.type "list") := ⟨g, m, rfl, by decide, rfl⟩
theorem blt_dict (g : S.sc.names.lookup ("dict" : Str) = some .globalImplicit) (m : S.mg ("dict" : Str) = none) : BltAt S ("dict" : Str) (.type "dict") := ⟨g, m, rfl, by decide, rfl⟩
theorem blt_range (g : S.sc.names.lookup ("range" : Str) = some .globalImplicit) (m : S.mg ("range" : Str) = none) : BltAt S ("range" : Str) (.type "range") := ⟨g, m, rfl, by decide, rfl⟩
theorem blt_bool (g : S.sc.names.lookup ("bool" : Str) = some .globalImplicit) (m : S.mg ("bool" : Str) = none) : BltAt S ("bool" : Str) (.type "bool") := ⟨g, m, rfl, by decide, rfl⟩
theorem blt_str (g : S.sc.names.lookup ("str" : Str) = some .globalImplicit) (m : S.mg ("str" : Str) = none) : BltAt S ("str" : Str) (.type "str") := ⟨g, m, rfl, by decide, rfl⟩
theorem blt_set (g : S.sc.names.lookup ("set" : Str) = some .globalImplicit) (m : S.mg ("set" : Str) = none) : BltAt S ("set" : Str) (.type "set") := ⟨g, m, rfl, by decide, rfl⟩
theorem blt_zip (g : S.sc.names.lookup ("zip" : Str) = some .globalImplicit) (m : S.mg ("zip" : Str) = none) : BltAt S ("zip" : Str) (.type "zip") := ⟨g, m, rfl, by decide, rfl⟩
theorem blt_enumerate (g : S.sc.names.lookup ("enumerate" : Str) = some .globalImplicit) (m : S.mg ("enumerate" : Str) = none) : BltAt S ("enumerate" : Str) (.type "enumerate") := ⟨g, m, rfl, by decide, rfl⟩
theorem blt_reversed (g : S.sc.names.lookup ("reversed" : Str) = some .globalImplicit) (m : S.mg ("reversed" : Str) = none) : BltAt S ("reversed" : Str) (.type "reversed") := ⟨g, m, rfl, by decide, rfl⟩
end

/-! ### calls, by the number of arguments -/
def mf_v (m : D → M D) : List Ct → M D
  | [.val a] => m a
  | _ => M.fail
def mf_vv (m : D → D → M D) : List Ct → M D
  | [.val a, .val b] => m a b
  | _ => M.fail
def mf_vvv (m : D → D → D → M D) : List Ct → M D
  | [.val a, .val b, .val c] => m a b c
  | _ => M.fail
def mf_vvvv (m : D → D → D → D → M D) : List Ct → M D
  | [.val a, .val b, .val c, .val d] => m a b c d
  | _ => M.fail
def mf_vvvvv (m : D → D → D → D → D → M D) : List Ct → M D
  | [.val a, .val b, .val c, .val d, .val e] => m a b c d e
  | _ => M.fail
def mf_vvvvvv (m : D → D → D → D → D → D → M D) : List Ct → M D
  | [.val a, .val b, .val c, .val d, .val e, .val f] => m a b c d e f
  | _ => M.fail
def mf_w (m : M D) : List Ct → M D
  | [.drw] => m 
  | _ => M.fail
def mf_wv (m : D → M D) : List Ct → M D
  | [.drw, .val b] => m b
  | _ => M.fail
def mf_wvv (m : D → D → M D) : List Ct → M D
  | [.drw, .val b, .val c] => m b c
  | _ => M.fail
def mf_wvvv (m : D → D → D → M D) : List Ct → M D
  | [.drw, .val b, .val c, .val d] => m b c d
  | _ => M.fail
def mf_wvvvv (m : D → D → D → D → M D) : List Ct → M D
  | [.drw, .val b, .val c, .val d, .val e] => m b c d e
  | _ => M.fail
def mf_wvvvvv (m : D → D → D → D → D → M D) : List Ct → M D
  | [.drw, .val b, .val c, .val d, .val e, .val f] => m b c d e f
  | _ => M.fail
def mf_sv (m : List Int → D → M D) : List Ct → M D
  | [.scr ns, .val b] => m ns b
  | _ => M.fail
section
variable {S : Sg} {Γ : En} {pos p p2 : Pos} {x : Str} {j : Nat}

theorem we_call_v {m : D → M D} {ea : Expr} {ma : M D} (F : FnD S.P S.w S.K S.mg S.base x j 1 (mf_v m)) (hg : S.sc.names.lookup x = some .globalImplicit) (hj : j ≤ S.k) (ha : WE S Γ ea ma) (hdb : (x == ("__debug__" : Str)) = false := by rfl) (s0 : ∀ env, starEach [ea] env = (false, eval (ea) env) :: starEach [] env := by intro _; rfl) (hpl : ∀ env, (backTo pos (starEach [] env)).any (·.1) = false := by intro _; rfl) :
    WE S Γ (.Call (.Name x p) [ea] [] pos) (ma.bind fun a => m a) := we_call F hg hj rfl (wc_val ha wc_nil s0) hdb s0 hpl
theorem we_call_vv {m : D → D → M D} {ea eb : Expr} {ma mb : M D} (F : FnD S.P S.w S.K S.mg S.base x j 2 (mf_vv m)) (hg : S.sc.names.lookup x = some .globalImplicit) (hj : j ≤ S.k) (ha : WE S Γ ea ma) (hb : WE S Γ eb mb) (hdb : (x == ("__debug__" : Str)) = false := by rfl) (s0 : ∀ env, starEach [ea, eb] env = (false, eval (ea) env) :: starEach [eb] env := by intro _; rfl) (s1 : ∀ env, starEach [eb] env = (false, eval (eb) env) :: starEach [] env := by intro _; rfl) (hpl : ∀ env, (backTo pos (starEach [eb] env)).any (·.1) = false := by intro _; rfl) :
    WE S Γ (.Call (.Name x p) [ea, eb] [] pos) (ma.bind fun a => mb.bind fun b => m a b) := we_call F hg hj rfl (wc_val ha (wc_val hb wc_nil s1) s0) hdb s0 hpl
theorem we_call_vvv {m : D → D → D → M D} {ea eb ec : Expr} {ma mb mc : M D} (F : FnD S.P S.w S.K S.mg S.base x j 3 (mf_vvv m)) (hg : S.sc.names.lookup x = some .globalImplicit) (hj : j ≤ S.k) (ha : WE S Γ ea ma) (hb : WE S Γ eb mb) (hc : WE S Γ ec mc) (hdb : (x == ("__debug__" : Str)) = false := by rfl) (s0 : ∀ env, starEach [ea, eb, ec] env = (false, eval (ea) env) :: starEach [eb, ec] env := by intro _; rfl) (s1 : ∀ env, starEach [eb, ec] env = (false, eval (eb) env) :: starEach [ec] env := by intro _; rfl) (s2 : ∀ env, starEach [ec] env = (false, eval (ec) env) :: starEach [] env := by intro _; rfl) (hpl : ∀ env, (backTo pos (starEach [eb, ec] env)).any (·.1) = false := by intro _; rfl) :
    WE S Γ (.Call (.Name x p) [ea, eb, ec] [] pos) (ma.bind fun a => mb.bind fun b => mc.bind fun c => m a b c) := we_call F hg hj rfl (wc_val ha (wc_val hb (wc_val hc wc_nil s2) s1) s0) hdb s0 hpl
theorem we_call_vvvv {m : D → D → D → D → M D} {ea eb ec ed : Expr} {ma mb mc md : M D} (F : FnD S.P S.w S.K S.mg S.base x j 4 (mf_vvvv m)) (hg : S.sc.names.lookup x = some .globalImplicit) (hj : j ≤ S.k) (ha : WE S Γ ea ma) (hb : WE S Γ eb mb) (hc : WE S Γ ec mc) (hd : WE S Γ ed md) (hdb : (x == ("__debug__" : Str)) = false := by rfl) (s0 : ∀ env, starEach [ea, eb, ec, ed] env = (false, eval (ea) env) :: starEach [eb, ec, ed] env := by intro _; rfl) (s1 : ∀ env, starEach [eb, ec, ed] env = (false, eval (eb) env) :: starEach [ec, ed] env := by intro _; rfl) (s2 : ∀ env, starEach [ec, ed] env = (false, eval (ec) env) :: starEach [ed] env := by intro _; rfl) (s3 : ∀ env, starEach [ed] env = (false, eval (ed) env) :: starEach [] env := by intro _; rfl) (hpl : ∀ env, (backTo pos (starEach [eb, ec, ed] env)).any (·.1) = false := by intro _; rfl) :
    WE S Γ (.Call (.Name x p) [ea, eb, ec, ed] [] pos) (ma.bind fun a => mb.bind fun b => mc.bind fun c => md.bind fun d => m a b c d) := we_call F hg hj rfl (wc_val ha (wc_val hb (wc_val hc (wc_val hd wc_nil s3) s2) s1) s0) hdb s0 hpl
theorem we_call_vvvvv {m : D → D → D → D → D → M D} {ea eb ec ed ee : Expr} {ma mb mc md me : M D} (F : FnD S.P S.w S.K S.mg S.base x j 5 (mf_vvvvv m)) (hg : S.sc.names.lookup x = some .globalImplicit) (hj : j ≤ S.k) (ha : WE S Γ ea ma) (hb : WE S Γ eb mb) (hc : WE S Γ ec mc) (hd : WE S Γ ed md) (he : WE S Γ ee me) (hdb : (x == ("__debug__" : Str)) = false := by rfl) (s0 : ∀ env, starEach [ea, eb, ec, ed, ee] env = (false, eval (ea) env) :: starEach [eb, ec, ed, ee] env := by intro _; rfl) (s1 : ∀ env, starEach [eb, ec, ed, ee] env = (false, eval (eb) env) :: starEach [ec, ed, ee] env := by intro _; rfl) (s2 : ∀ env, starEach [ec, ed, ee] env = (false, eval (ec) env) :: starEach [ed, ee] env := by intro _; rfl) (s3 : ∀ env, starEach [ed, ee] env = (false, eval (ed) env) :: starEach [ee] env := by intro _; rfl) (s4 : ∀ env, starEach [ee] env = (false, eval (ee) env) :: starEach [] env := by intro _; rfl) (hpl : ∀ env, (backTo pos (starEach [eb, ec, ed, ee] env)).any (·.1) = false := by intro _; rfl) :
    WE S Γ (.Call (.Name x p) [ea, eb, ec, ed, ee] [] pos) (ma.bind fun a => mb.bind fun b => mc.bind fun c => md.bind fun d => me.bind fun e => m a b c d e) := we_call F hg hj rfl (wc_val ha (wc_val hb (wc_val hc (wc_val hd (wc_val he wc_nil s4) s3) s2) s1) s0) hdb s0 hpl
theorem we_call_vvvvvv {m : D → D → D → D → D → D → M D} {ea eb ec ed ee ef : Expr} {ma mb mc md me mf : M D} (F : FnD S.P S.w S.K S.mg S.base x j 6 (mf_vvvvvv m)) (hg : S.sc.names.lookup x = some .globalImplicit) (hj : j ≤ S.k) (ha : WE S Γ ea ma) (hb : WE S Γ eb mb) (hc : WE S Γ ec mc) (hd : WE S Γ ed md) (he : WE S Γ ee me) (hf : WE S Γ ef mf) (hdb : (x == ("__debug__" : Str)) = false := by rfl) (s0 : ∀ env, starEach [ea, eb, ec, ed, ee, ef] env = (false, eval (ea) env) :: starEach [eb, ec, ed, ee, ef] env := by intro _; rfl) (s1 : ∀ env, starEach [eb, ec, ed, ee, ef] env = (false, eval (eb) env) :: starEach [ec, ed, ee, ef] env := by intro _; rfl) (s2 : ∀ env, starEach [ec, ed, ee, ef] env = (false, eval (ec) env) :: starEach [ed, ee, ef] env := by intro _; rfl) (s3 : ∀ env, starEach [ed, ee, ef] env = (false, eval (ed) env) :: starEach [ee, ef] env := by intro _; rfl) (s4 : ∀ env, starEach [ee, ef] env = (false, eval (ee) env) :: starEach [ef] env := by intro _; rfl) (s5 : ∀ env, starEach [ef] env = (false, eval (ef) env) :: starEach [] env := by intro _; rfl) (hpl : ∀ env, (backTo pos (starEach [eb, ec, ed, ee, ef] env)).any (·.1) = false := by intro _; rfl) :
    WE S Γ (.Call (.Name x p) [ea, eb, ec, ed, ee, ef] [] pos) (ma.bind fun a => mb.bind fun b => mc.bind fun c => md.bind fun d => me.bind fun e => mf.bind fun f => m a b c d e f) := we_call F hg hj rfl (wc_val ha (wc_val hb (wc_val hc (wc_val hd (wc_val he (wc_val hf wc_nil s5) s4) s3) s2) s1) s0) hdb s0 hpl
theorem we_call_w {m : M D} {wi : Nat} {wx : Str} (F : FnD S.P S.w S.K S.mg S.base x j 1 (mf_w m)) (hg : S.sc.names.lookup x = some .globalImplicit) (hj : j ≤ S.k) (hw : VarAt S wi wx) (hwi : Γ[wi]? = some (some .drw)) (hdb : (x == ("__debug__" : Str)) = false := by rfl) (s0 : ∀ env, starEach [.Name wx p2] env = (false, eval (.Name wx p2) env) :: starEach [] env := by intro _; rfl) (hpl : ∀ env, (backTo pos (starEach [] env)).any (·.1) = false := by intro _; rfl) :
    WE S Γ (.Call (.Name x p) [.Name wx p2] [] pos) (m) := we_call F hg hj rfl (wc_drw hw hwi wc_nil s0) hdb s0 hpl
theorem we_call_wv {m : D → M D} {eb : Expr} {mb : M D} {wi : Nat} {wx : Str} (F : FnD S.P S.w S.K S.mg S.base x j 2 (mf_wv m)) (hg : S.sc.names.lookup x = some .globalImplicit) (hj : j ≤ S.k) (hw : VarAt S wi wx) (hwi : Γ[wi]? = some (some .drw)) (hb : WE S Γ eb mb) (hdb : (x == ("__debug__" : Str)) = false := by rfl) (s0 : ∀ env, starEach [.Name wx p2, eb] env = (false, eval (.Name wx p2) env) :: starEach [eb] env := by intro _; rfl) (s1 : ∀ env, starEach [eb] env = (false, eval (eb) env) :: starEach [] env := by intro _; rfl) (hpl : ∀ env, (backTo pos (starEach [eb] env)).any (·.1) = false := by intro _; rfl) :
    WE S Γ (.Call (.Name x p) [.Name wx p2, eb] [] pos) (mb.bind fun b => m b) := we_call F hg hj rfl (wc_drw hw hwi (wc_val hb wc_nil s1) s0) hdb s0 hpl
theorem we_call_wvv {m : D → D → M D} {eb ec : Expr} {mb mc : M D} {wi : Nat} {wx : Str} (F : FnD S.P S.w S.K S.mg S.base x j 3 (mf_wvv m)) (hg : S.sc.names.lookup x = some .globalImplicit) (hj : j ≤ S.k) (hw : VarAt S wi wx) (hwi : Γ[wi]? = some (some .drw)) (hb : WE S Γ eb mb) (hc : WE S Γ ec mc) (hdb : (x == ("__debug__" : Str)) = false := by rfl) (s0 : ∀ env, starEach [.Name wx p2, eb, ec] env = (false, eval (.Name wx p2) env) :: starEach [eb, ec] env := by intro _; rfl) (s1 : ∀ env, starEach [eb, ec] env = (false, eval (eb) env) :: starEach [ec] env := by intro _; rfl) (s2 : ∀ env, starEach [ec] env = (false, eval (ec) env) :: starEach [] env := by intro _; rfl) (hpl : ∀ env, (backTo pos (starEach [eb, ec] env)).any (·.1) = false := by intro _; rfl) :
    WE S Γ (.Call (.Name x p) [.Name wx p2, eb, ec] [] pos) (mb.bind fun b => mc.bind fun c => m b c) := we_call F hg hj rfl (wc_drw hw hwi (wc_val hb (wc_val hc wc_nil s2) s1) s0) hdb s0 hpl
theorem we_call_wvvv {m : D → D → D → M D} {eb ec ed : Expr} {mb mc md : M D} {wi : Nat} {wx : Str} (F : FnD S.P S.w S.K S.mg S.base x j 4 (mf_wvvv m)) (hg : S.sc.names.lookup x = some .globalImplicit) (hj : j ≤ S.k) (hw : VarAt S wi wx) (hwi : Γ[wi]? = some (some .drw)) (hb : WE S Γ eb mb) (hc : WE S Γ ec mc) (hd : WE S Γ ed md) (hdb : (x == ("__debug__" : Str)) = false := by rfl) (s0 : ∀ env, starEach [.Name wx p2, eb, ec, ed] env = (false, eval (.Name wx p2) env) :: starEach [eb, ec, ed] env := by intro _; rfl) (s1 : ∀ env, starEach [eb, ec, ed] env = (false, eval (eb) env) :: starEach [ec, ed] env := by intro _; rfl) (s2 : ∀ env, starEach [ec, ed] env = (false, eval (ec) env) :: starEach [ed] env := by intro _; rfl) (s3 : ∀ env, starEach [ed] env = (false, eval (ed) env) :: starEach [] env := by intro _; rfl) (hpl : ∀ env, (backTo pos (starEach [eb, ec, ed] env)).any (·.1) = false := by intro _; rfl) :
    WE S Γ (.Call (.Name x p) [.Name wx p2, eb, ec, ed] [] pos) (mb.bind fun b => mc.bind fun c => md.bind fun d => m b c d) := we_call F hg hj rfl (wc_drw hw hwi (wc_val hb (wc_val hc (wc_val hd wc_nil s3) s2) s1) s0) hdb s0 hpl
theorem we_call_wvvvv {m : D → D → D → D → M D} {eb ec ed ee : Expr} {mb mc md me : M D} {wi : Nat} {wx : Str} (F : FnD S.P S.w S.K S.mg S.base x j 5 (mf_wvvvv m)) (hg : S.sc.names.lookup x = some .globalImplicit) (hj : j ≤ S.k) (hw : VarAt S wi wx) (hwi : Γ[wi]? = some (some .drw)) (hb : WE S Γ eb mb) (hc : WE S Γ ec mc) (hd : WE S Γ ed md) (he : WE S Γ ee me) (hdb : (x == ("__debug__" : Str)) = false := by rfl) (s0 : ∀ env, starEach [.Name wx p2, eb, ec, ed, ee] env = (false, eval (.Name wx p2) env) :: starEach [eb, ec, ed, ee] env := by intro _; rfl) (s1 : ∀ env, starEach [eb, ec, ed, ee] env = (false, eval (eb) env) :: starEach [ec, ed, ee] env := by intro _; rfl) (s2 : ∀ env, starEach [ec, ed, ee] env = (false, eval (ec) env) :: starEach [ed, ee] env := by intro _; rfl) (s3 : ∀ env, starEach [ed, ee] env = (false, eval (ed) env) :: starEach [ee] env := by intro _; rfl) (s4 : ∀ env, starEach [ee] env = (false, eval (ee) env) :: starEach [] env := by intro _; rfl) (hpl : ∀ env, (backTo pos (starEach [eb, ec, ed, ee] env)).any (·.1) = false := by intro _; rfl) :
    WE S Γ (.Call (.Name x p) [.Name wx p2, eb, ec, ed, ee] [] pos) (mb.bind fun b => mc.bind fun c => md.bind fun d => me.bind fun e => m b c d e) := we_call F hg hj rfl (wc_drw hw hwi (wc_val hb (wc_val hc (wc_val hd (wc_val he wc_nil s4) s3) s2) s1) s0) hdb s0 hpl
theorem we_call_wvvvvv {m : D → D → D → D → D → M D} {eb ec ed ee ef : Expr} {mb mc md me mf : M D} {wi : Nat} {wx : Str} (F : FnD S.P S.w S.K S.mg S.base x j 6 (mf_wvvvvv m)) (hg : S.sc.names.lookup x = some .globalImplicit) (hj : j ≤ S.k) (hw : VarAt S wi wx) (hwi : Γ[wi]? = some (some .drw)) (hb : WE S Γ eb mb) (hc : WE S Γ ec mc) (hd : WE S Γ ed md) (he : WE S Γ ee me) (hf : WE S Γ ef mf) (hdb : (x == ("__debug__" : Str)) = false := by rfl) (s0 : ∀ env, starEach [.Name wx p2, eb, ec, ed, ee, ef] env = (false, eval (.Name wx p2) env) :: starEach [eb, ec, ed, ee, ef] env := by intro _; rfl) (s1 : ∀ env, starEach [eb, ec, ed, ee, ef] env = (false, eval (eb) env) :: starEach [ec, ed, ee, ef] env := by intro _; rfl) (s2 : ∀ env, starEach [ec, ed, ee, ef] env = (false, eval (ec) env) :: starEach [ed, ee, ef] env := by intro _; rfl) (s3 : ∀ env, starEach [ed, ee, ef] env = (false, eval (ed) env) :: starEach [ee, ef] env := by intro _; rfl) (s4 : ∀ env, starEach [ee, ef] env = (false, eval (ee) env) :: starEach [ef] env := by intro _; rfl) (s5 : ∀ env, starEach [ef] env = (false, eval (ef) env) :: starEach [] env := by intro _; rfl) (hpl : ∀ env, (backTo pos (starEach [eb, ec, ed, ee, ef] env)).any (·.1) = false := by intro _; rfl) :
    WE S Γ (.Call (.Name x p) [.Name wx p2, eb, ec, ed, ee, ef] [] pos) (mb.bind fun b => mc.bind fun c => md.bind fun d => me.bind fun e => mf.bind fun f => m b c d e f) := we_call F hg hj rfl (wc_drw hw hwi (wc_val hb (wc_val hc (wc_val hd (wc_val he (wc_val hf wc_nil s5) s4) s3) s2) s1) s0) hdb s0 hpl
theorem we_call_sv {m : List Int → D → M D} {eb : Expr} {mb : M D} {wi : Nat} {wx : Str} {ns : List Int} (F : FnD S.P S.w S.K S.mg S.base x j 2 (mf_sv m)) (hg : S.sc.names.lookup x = some .globalImplicit) (hj : j ≤ S.k) (hw : VarAt S wi wx) (hwi : Γ[wi]? = some (some (.scr ns))) (hb : WE S Γ eb mb) (hdb : (x == ("__debug__" : Str)) = false := by rfl) (s0 : ∀ env, starEach [.Name wx p2, eb] env = (false, eval (.Name wx p2) env) :: starEach [eb] env := by intro _; rfl) (s1 : ∀ env, starEach [eb] env = (false, eval (eb) env) :: starEach [] env := by intro _; rfl) (hpl : ∀ env, (backTo pos (starEach [eb] env)).any (·.1) = false := by intro _; rfl) :
    WE S Γ (.Call (.Name x p) [.Name wx p2, eb] [] pos) (mb.bind fun b => m ns b) := we_call F hg hj rfl (wc_scr hw hwi (wc_val hb wc_nil s1) s0) hdb s0 hpl
end

/-! ### defs, by the number of arguments -/
section
variable {P : Program} {w : World} {K : PySem.W.Frag} {mg : Str → Option Value} {base : Heap} {x qual : Str} {st : Stmt} {f : Addr} {fd : FuncData} {N ps : List Str} {k : Nat}
/-- a def of the text as it stands behind the top -/
def Has (K : PySem.W.Frag) (mg : Str → Option Value) (x : Str) (st : Stmt) : Prop := ∃ f fd, Fun K x x st f fd ∧ mg x = some (.ref f)
theorem fnd {n : Nat} {mf : List Ct → M D} (h : Has K mg x st) (Sc : FnScope N ps (defScope st)) (hn : ps.length = n) (hN : n ≤ N.length)
    (hbind : ∀ (kV doc pm : Value) (an : Option Addr) (cdv ct : Value) (us : List Value), us.length = ps.length → bindArgs (PySem.W.fnOf x x (defArgs st) (defBody st) (defScope st) .none kV doc pm an cdv ct) ⟨us, []⟩ = pure (ps.zip us))
    (hb : ∀ cs : List Ct, cs.length = n → W ⟨P, w, K, mg, base, N, defScope st, k, fun _ => true⟩ (cs.map some ++ List.replicate (N.length - n) none) (defBody st) (mf cs) Out.rt) : FnD P w K mg base x (k + 1) n mf := by
  obtain ⟨f, fd, F, hm⟩ := h
  exact ⟨⟨f, fd, ps, fn_ok F Sc hn hN hb, hm, F.kp, F.binds hbind⟩⟩
theorem wfail {S : Sg} {Γ : En} {sts : List Stmt} {ρ : Type} {ι : ρ → Out} {m : M ρ} (h : m = M.fail) : W S Γ sts m ι := by rw [h]; exact w_fail

theorem fnd_v {m : D → M D} (h : Has K mg x st) (Sc : FnScope N ps (defScope st)) (hn : ps.length = 1) (hN : 1 ≤ N.length)
    (hbind : ∀ (kV doc pm : Value) (an : Option Addr) (cdv ct : Value) (us : List Value), us.length = ps.length → bindArgs (PySem.W.fnOf x x (defArgs st) (defBody st) (defScope st) .none kV doc pm an cdv ct) ⟨us, []⟩ = pure (ps.zip us))
    (hb : ∀ a, W ⟨P, w, K, mg, base, N, defScope st, k, fun _ => true⟩ ([some (.val a)] ++ List.replicate (N.length - 1) none) (defBody st) (m a) Out.rt) : FnD P w K mg base x (k + 1) 1 (mf_v m) := by
  refine fnd h Sc hn hN hbind fun cs hl => ?_
  unfold mf_v
  split
  · exact hb _
  · exact w_fail
theorem fnd_vv {m : D → D → M D} (h : Has K mg x st) (Sc : FnScope N ps (defScope st)) (hn : ps.length = 2) (hN : 2 ≤ N.length)
    (hbind : ∀ (kV doc pm : Value) (an : Option Addr) (cdv ct : Value) (us : List Value), us.length = ps.length → bindArgs (PySem.W.fnOf x x (defArgs st) (defBody st) (defScope st) .none kV doc pm an cdv ct) ⟨us, []⟩ = pure (ps.zip us))
    (hb : ∀ a b, W ⟨P, w, K, mg, base, N, defScope st, k, fun _ => true⟩ ([some (.val a), some (.val b)] ++ List.replicate (N.length - 2) none) (defBody st) (m a b) Out.rt) : FnD P w K mg base x (k + 1) 2 (mf_vv m) := by
  refine fnd h Sc hn hN hbind fun cs hl => ?_
  unfold mf_vv
  split
  · exact hb _ _
  · exact w_fail
theorem fnd_vvv {m : D → D → D → M D} (h : Has K mg x st) (Sc : FnScope N ps (defScope st)) (hn : ps.length = 3) (hN : 3 ≤ N.length)
    (hbind : ∀ (kV doc pm : Value) (an : Option Addr) (cdv ct : Value) (us : List Value), us.length = ps.length → bindArgs (PySem.W.fnOf x x (defArgs st) (defBody st) (defScope st) .none kV doc pm an cdv ct) ⟨us, []⟩ = pure (ps.zip us))
    (hb : ∀ a b c, W ⟨P, w, K, mg, base, N, defScope st, k, fun _ => true⟩ ([some (.val a), some (.val b), some (.val c)] ++ List.replicate (N.length - 3) none) (defBody st) (m a b c) Out.rt) : FnD P w K mg base x (k + 1) 3 (mf_vvv m) := by
  refine fnd h Sc hn hN hbind fun cs hl => ?_
  unfold mf_vvv
  split
  · exact hb _ _ _
  · exact w_fail
theorem fnd_vvvv {m : D → D → D → D → M D} (h : Has K mg x st) (Sc : FnScope N ps (defScope st)) (hn : ps.length = 4) (hN : 4 ≤ N.length)
    (hbind : ∀ (kV doc pm : Value) (an : Option Addr) (cdv ct : Value) (us : List Value), us.length = ps.length → bindArgs (PySem.W.fnOf x x (defArgs st) (defBody st) (defScope st) .none kV doc pm an cdv ct) ⟨us, []⟩ = pure (ps.zip us))
    (hb : ∀ a b c d, W ⟨P, w, K, mg, base, N, defScope st, k, fun _ => true⟩ ([some (.val a), some (.val b), some (.val c), some (.val d)] ++ List.replicate (N.length - 4) none) (defBody st) (m a b c d) Out.rt) : FnD P w K mg base x (k + 1) 4 (mf_vvvv m) := by
  refine fnd h Sc hn hN hbind fun cs hl => ?_
  unfold mf_vvvv
  split
  · exact hb _ _ _ _
  · exact w_fail
theorem fnd_vvvvv {m : D → D → D → D → D → M D} (h : Has K mg x st) (Sc : FnScope N ps (defScope st)) (hn : ps.length = 5) (hN : 5 ≤ N.length)
    (hbind : ∀ (kV doc pm : Value) (an : Option Addr) (cdv ct : Value) (us : List Value), us.length = ps.length → bindArgs (PySem.W.fnOf x x (defArgs st) (defBody st) (defScope st) .none kV doc pm an cdv ct) ⟨us, []⟩ = pure (ps.zip us))
    (hb : ∀ a b c d e, W ⟨P, w, K, mg, base, N, defScope st, k, fun _ => true⟩ ([some (.val a), some (.val b), some (.val c), some (.val d), some (.val e)] ++ List.replicate (N.length - 5) none) (defBody st) (m a b c d e) Out.rt) : FnD P w K mg base x (k + 1) 5 (mf_vvvvv m) := by
  refine fnd h Sc hn hN hbind fun cs hl => ?_
  unfold mf_vvvvv
  split
  · exact hb _ _ _ _ _
  · exact w_fail
theorem fnd_vvvvvv {m : D → D → D → D → D → D → M D} (h : Has K mg x st) (Sc : FnScope N ps (defScope st)) (hn : ps.length = 6) (hN : 6 ≤ N.length)
    (hbind : ∀ (kV doc pm : Value) (an : Option Addr) (cdv ct : Value) (us : List Value), us.length = ps.length → bindArgs (PySem.W.fnOf x x (defArgs st) (defBody st) (defScope st) .none kV doc pm an cdv ct) ⟨us, []⟩ = pure (ps.zip us))
    (hb : ∀ a b c d e f, W ⟨P, w, K, mg, base, N, defScope st, k, fun _ => true⟩ ([some (.val a), some (.val b), some (.val c), some (.val d), some (.val e), some (.val f)] ++ List.replicate (N.length - 6) none) (defBody st) (m a b c d e f) Out.rt) : FnD P w K mg base x (k + 1) 6 (mf_vvvvvv m) := by
  refine fnd h Sc hn hN hbind fun cs hl => ?_
  unfold mf_vvvvvv
  split
  · exact hb _ _ _ _ _ _
  · exact w_fail
theorem fnd_w {m : M D} (h : Has K mg x st) (Sc : FnScope N ps (defScope st)) (hn : ps.length = 1) (hN : 1 ≤ N.length)
    (hbind : ∀ (kV doc pm : Value) (an : Option Addr) (cdv ct : Value) (us : List Value), us.length = ps.length → bindArgs (PySem.W.fnOf x x (defArgs st) (defBody st) (defScope st) .none kV doc pm an cdv ct) ⟨us, []⟩ = pure (ps.zip us))
    (hb : W ⟨P, w, K, mg, base, N, defScope st, k, fun _ => true⟩ ([some .drw] ++ List.replicate (N.length - 1) none) (defBody st) (m ) Out.rt) : FnD P w K mg base x (k + 1) 1 (mf_w m) := by
  refine fnd h Sc hn hN hbind fun cs hl => ?_
  unfold mf_w
  split
  · exact hb 
  · exact w_fail
theorem fnd_wv {m : D → M D} (h : Has K mg x st) (Sc : FnScope N ps (defScope st)) (hn : ps.length = 2) (hN : 2 ≤ N.length)
    (hbind : ∀ (kV doc pm : Value) (an : Option Addr) (cdv ct : Value) (us : List Value), us.length = ps.length → bindArgs (PySem.W.fnOf x x (defArgs st) (defBody st) (defScope st) .none kV doc pm an cdv ct) ⟨us, []⟩ = pure (ps.zip us))
    (hb : ∀ b, W ⟨P, w, K, mg, base, N, defScope st, k, fun _ => true⟩ ([some .drw, some (.val b)] ++ List.replicate (N.length - 2) none) (defBody st) (m b) Out.rt) : FnD P w K mg base x (k + 1) 2 (mf_wv m) := by
  refine fnd h Sc hn hN hbind fun cs hl => ?_
  unfold mf_wv
  split
  · exact hb _
  · exact w_fail
theorem fnd_wvv {m : D → D → M D} (h : Has K mg x st) (Sc : FnScope N ps (defScope st)) (hn : ps.length = 3) (hN : 3 ≤ N.length)
    (hbind : ∀ (kV doc pm : Value) (an : Option Addr) (cdv ct : Value) (us : List Value), us.length = ps.length → bindArgs (PySem.W.fnOf x x (defArgs st) (defBody st) (defScope st) .none kV doc pm an cdv ct) ⟨us, []⟩ = pure (ps.zip us))
    (hb : ∀ b c, W ⟨P, w, K, mg, base, N, defScope st, k, fun _ => true⟩ ([some .drw, some (.val b), some (.val c)] ++ List.replicate (N.length - 3) none) (defBody st) (m b c) Out.rt) : FnD P w K mg base x (k + 1) 3 (mf_wvv m) := by
  refine fnd h Sc hn hN hbind fun cs hl => ?_
  unfold mf_wvv
  split
  · exact hb _ _
  · exact w_fail
theorem fnd_wvvv {m : D → D → D → M D} (h : Has K mg x st) (Sc : FnScope N ps (defScope st)) (hn : ps.length = 4) (hN : 4 ≤ N.length)
    (hbind : ∀ (kV doc pm : Value) (an : Option Addr) (cdv ct : Value) (us : List Value), us.length = ps.length → bindArgs (PySem.W.fnOf x x (defArgs st) (defBody st) (defScope st) .none kV doc pm an cdv ct) ⟨us, []⟩ = pure (ps.zip us))
    (hb : ∀ b c d, W ⟨P, w, K, mg, base, N, defScope st, k, fun _ => true⟩ ([some .drw, some (.val b), some (.val c), some (.val d)] ++ List.replicate (N.length - 4) none) (defBody st) (m b c d) Out.rt) : FnD P w K mg base x (k + 1) 4 (mf_wvvv m) := by
  refine fnd h Sc hn hN hbind fun cs hl => ?_
  unfold mf_wvvv
  split
  · exact hb _ _ _
  · exact w_fail
theorem fnd_wvvvv {m : D → D → D → D → M D} (h : Has K mg x st) (Sc : FnScope N ps (defScope st)) (hn : ps.length = 5) (hN : 5 ≤ N.length)
    (hbind : ∀ (kV doc pm : Value) (an : Option Addr) (cdv ct : Value) (us : List Value), us.length = ps.length → bindArgs (PySem.W.fnOf x x (defArgs st) (defBody st) (defScope st) .none kV doc pm an cdv ct) ⟨us, []⟩ = pure (ps.zip us))
    (hb : ∀ b c d e, W ⟨P, w, K, mg, base, N, defScope st, k, fun _ => true⟩ ([some .drw, some (.val b), some (.val c), some (.val d), some (.val e)] ++ List.replicate (N.length - 5) none) (defBody st) (m b c d e) Out.rt) : FnD P w K mg base x (k + 1) 5 (mf_wvvvv m) := by
  refine fnd h Sc hn hN hbind fun cs hl => ?_
  unfold mf_wvvvv
  split
  · exact hb _ _ _ _
  · exact w_fail
theorem fnd_wvvvvv {m : D → D → D → D → D → M D} (h : Has K mg x st) (Sc : FnScope N ps (defScope st)) (hn : ps.length = 6) (hN : 6 ≤ N.length)
    (hbind : ∀ (kV doc pm : Value) (an : Option Addr) (cdv ct : Value) (us : List Value), us.length = ps.length → bindArgs (PySem.W.fnOf x x (defArgs st) (defBody st) (defScope st) .none kV doc pm an cdv ct) ⟨us, []⟩ = pure (ps.zip us))
    (hb : ∀ b c d e f, W ⟨P, w, K, mg, base, N, defScope st, k, fun _ => true⟩ ([some .drw, some (.val b), some (.val c), some (.val d), some (.val e), some (.val f)] ++ List.replicate (N.length - 6) none) (defBody st) (m b c d e f) Out.rt) : FnD P w K mg base x (k + 1) 6 (mf_wvvvvv m) := by
  refine fnd h Sc hn hN hbind fun cs hl => ?_
  unfold mf_wvvvvv
  split
  · exact hb _ _ _ _ _
  · exact w_fail
theorem fnd_sv {m : List Int → D → M D} (h : Has K mg x st) (Sc : FnScope N ps (defScope st)) (hn : ps.length = 2) (hN : 2 ≤ N.length)
    (hbind : ∀ (kV doc pm : Value) (an : Option Addr) (cdv ct : Value) (us : List Value), us.length = ps.length → bindArgs (PySem.W.fnOf x x (defArgs st) (defBody st) (defScope st) .none kV doc pm an cdv ct) ⟨us, []⟩ = pure (ps.zip us))
    (hb : ∀ ns b, W ⟨P, w, K, mg, base, N, defScope st, k, fun _ => true⟩ ([some (.scr ns), some (.val b)] ++ List.replicate (N.length - 2) none) (defBody st) (m ns b) Out.rt) : FnD P w K mg base x (k + 1) 2 (mf_sv m) := by
  refine fnd h Sc hn hN hbind fun cs hl => ?_
  unfold mf_sv
  split
  · exact hb _ _
  · exact w_fail
end

/-! ### an if whose ways leave or go on -/
section
variable {ρ : Type} {S : Sg} {Γ : En} {c tg e : Expr} {tc : M Bool} {m : M D} {pos : Pos} {rest A B : List Stmt} {ι : ρ → Out} {ow : Bool}
def flO2 {α β : Type} (g : α → En) (gs : β → En) : Fl α β → Out
  | .nx s => .nx (g s)
  | .rt d => .rt d
  | .bk s => .bk (gs s)
  | .ct s => .ct (gs s)
def Fl.goB {α β ρ : Type} (k : α → M ρ) (kr : D → ρ) (kb kc : β → ρ) : Fl α β → M ρ
  | .nx s => k s
  | .rt d => M.pure (kr d)
  | .bk s => M.pure (kb s)
  | .ct s => M.pure (kc s)
theorem w_ifG {α β : Type} {m1 m2 : M (Fl α β)} {k : α → M ρ} {kr : D → ρ} {kb kc : β → ρ} (g : α → En) (gs : β → En) (hc : WT S Γ c tc) (ha : W S Γ A m1 (flO2 g gs)) (hb : W S Γ B m2 (flO2 g gs)) (hr : ∀ x, W S (g x) rest (k x) ι)
    (h1 : ∀ d, ι (kr d) = .rt d) (h2 : ∀ s, ι (kb s) = .bk (gs s)) (h3 : ∀ s, ι (kc s) = .ct (gs s)) :
    W S Γ (.If c A B pos :: rest) ((tc.bind fun b => bif b then m1 else m2).bind (Fl.goB k kr kb kc)) ι := by
  have go : ∀ r : Fl α β, Goes S rest ι (Fl.goB k kr kb kc r) (flO2 g gs r) := fun r => by
    cases r with
    | nx s => exact hr s
    | rt d => exact ⟨kr d, rfl, h1 d⟩
    | bk s => exact ⟨kb s, rfl, h2 s⟩
    | ct s => exact ⟨kc s, rfl, h3 s⟩
  intro ω G0 H0 σ G H P Dn E hm q
  refine w_if (mA := m1) (mB := m2) (kA := Fl.goB k kr kb kc) (kB := Fl.goB k kr kb kc) hc ha hb go go ω G0 H0 σ G H P Dn E ?_ q
  have hm' : tc (fun b => (bif b then m1 else m2) fun x => Fl.goB k kr kb kc x P) := hm
  have : (fun b => (bif b then m1 else m2) fun x => Fl.goB k kr kb kc x P) = fun b => (bif b then m1.bind (Fl.goB k kr kb kc) else m2.bind (Fl.goB k kr kb kc)) P := by funext b; cases b <;> rfl
  rw [this] at hm'
  exact hm'
/-! ### lookups -/
def Nm (x : Str) : Prop := (x == ("__debug__" : Str)) = false ∧ (x == ("__classdict__" : Str)) = false
theorem vaL {i : Nat} {x : Str} (n : S.N[i]? = some x) (l : S.sc.names.lookup x = some .local) (m : Nm x) : VarAt S i x := ⟨n, .inl l, m.1, m.2⟩
theorem vaC {i : Nat} {x : Str} (n : S.N[i]? = some x) (l : S.sc.names.lookup x = some .cell) (m : Nm x) : VarAt S i x := ⟨n, .inr (.inl l), m.1, m.2⟩
theorem saL {i : Nat} {x : Str} (n : S.N[i]? = some x) (l : S.sc.names.lookup x = some .local) : SetAt S i x := ⟨n, .inl l, .inr l⟩
theorem saC {i : Nat} {x : Str} (n : S.N[i]? = some x) (l : S.sc.names.lookup x = some .cell) (f : S.fn x = true) : SetAt S i x := ⟨n, .inr l, .inl f⟩
theorem look_map {f : Str → NameKind → NameKind} (x : Str) : ∀ (ns : List (Str × NameKind)), (ns.map fun (n, k) => (n, f n k)).lookup x = (ns.lookup x).map (f x)
  | [] => rfl
  | (n, k) :: ns => by
    simp only [List.map_cons, List.lookup_cons]
    by_cases h : (x == n) = true
    · have e : x = n := by simpa using h
      subst e; simp
    · simp only [h, look_map x ns]
theorem rel_look {scope sc : Scope} {x : Str} : (relS scope sc).names.lookup x = (scope.names.lookup x).map fun k => if (k == .free && sc.kind == .function && sc.names.lookup x == some .cell) then .cell else k := by
  rw [← look_map (f := fun n k => if (k == .free && sc.kind == .function && sc.names.lookup n == some .cell) then .cell else k)]
  show List.lookup x (scope.names.map _) = _
  congr 1
  refine List.map_congr_left fun ⟨n, k⟩ _ => ?_
  show (if _ then _ else _) = _
  split <;> simp_all
theorem rel_free {scope sc : Scope} {x : Str} (l : scope.names.lookup x = some .free) (k : sc.kind = .function) (c : sc.names.lookup x = some .cell) : (relS scope sc).names.lookup x = some .cell := by
  rw [rel_look, l, k, c]; rfl
theorem rel_loc {scope sc : Scope} {x : Str} (l : scope.names.lookup x = some .local) : (relS scope sc).names.lookup x = some .local := by rw [rel_look, l]; rfl
theorem rel_cell {scope sc : Scope} {x : Str} (l : scope.names.lookup x = some .cell) : (relS scope sc).names.lookup x = some .cell := by rw [rel_look, l]; rfl
theorem rel_glob {scope sc : Scope} {x : Str} (l : scope.names.lookup x = some .globalImplicit) : (relS scope sc).names.lookup x = some .globalImplicit := by rw [rel_look, l]; rfl
theorem w_nf {ρ : Type} {S : Sg} {Γ Γ' : En} {sts : List Stmt} {m : M ρ} {ι : ρ → Out} (h : Γ = Γ') (k : W S Γ' sts m ι) : W S Γ sts m ι := h ▸ k
theorem we_nf {S : Sg} {Γ Γ' : En} {e : Expr} {m : M D} (h : Γ = Γ') (k : WE S Γ' e m) : WE S Γ e m := h ▸ k
theorem wt_nf {S : Sg} {Γ Γ' : En} {e : Expr} {m : M Bool} (h : Γ = Γ') (k : WT S Γ' e m) : WT S Γ e m := h ▸ k
/-! ### a module's constants -/
def GlC (K : PySem.W.Frag) (mg : Str → Option Value) (x : Str) (d : D) : Prop := ∃ u v, mg x = some u ∧ RelV v u ∧ ∀ G, Rp K G v d
theorem we_glc {Γ : En} {x : Str} {d : D} {pos : Pos} (h : GlC S.K S.mg x d) (g : S.sc.names.lookup x = some .globalImplicit) (hd : (x == ("__debug__" : Str)) = false := by rfl) : WE S Γ (.Name x pos) (M.pure d) := by
  obtain ⟨u, v, h1, h2, h3⟩ := h
  exact we_glob ⟨g, h1, hd⟩ h2 h3
/-! ### lists and tuples walked alike -/
def asS : D → M (List D)
  | .list ds => M.pure ds
  | .tuple ds => M.pure ds
  | _ => M.fail
theorem pi_seqA {X : Cx} {l : Expr} {tl : TE} (hl : PE X l tl) : PI X tg l (fun σ H R => tl σ H fun x H1 => (∃ a, x = .ref a ∧ (∃ xs, SqL X.K H1 a xs) ∧ R (Itl X.K a) H1) ∨ ∃ a, x = .ref a ∧ (∃ xs, SqT X.K H1 a xs) ∧ R (Itt X.K a) H1) := by
  refine ⟨fun pins s σ H R I h => ?_⟩
  refine thn (hl.run pins s σ H _ I h) fun v s1 ⟨x, H1, I1, r1, q1⟩ => ?_
  rcases q1 with ⟨a, e, ⟨xs, hq⟩, q⟩ | ⟨a, e, ⟨xs, hq⟩, q⟩
  · subst e
    cases r1
    obtain ⟨its, rv, p, hz⟩ := I1.list hq
    refine wpAny_pyIter_list p.isList ?_
    refine ⟨s1.heap.objs.size, [s1.heap.objs.size], _, _, H1, rfl, I1.kept (t' := s1.toks) fun b o e => Heap.get?_push_of_some _ e, turn_list a _, ⟨_, Heap.get?_push_size _ rfl, rfl, rfl⟩, fun b hb => ?_, q⟩
    have e : b = s1.heap.objs.size := by simpa using hb
    subst e
    exact I1.fpOk (Nat.le_refl _) (I1.hok.fresh (Nat.le_refl _))
  · subst e
    cases r1
    obtain ⟨its, rv, p, hz⟩ := I1.tuple hq
    refine wpAny_pyIter_tuple (show s1.heap.IsTuple a its.toArray from p) ?_
    refine ⟨s1.heap.objs.size, [s1.heap.objs.size], _, _, H1, rfl, I1.kept (t' := s1.toks) fun b o e => Heap.get?_push_of_some _ e, turn_tuple a _, ⟨_, Heap.get?_push_size _ rfl, rfl, rfl⟩, fun b hb => ?_, q⟩
    have e : b = s1.heap.objs.size := by simpa using hb
    subst e
    exact I1.fpOk (Nat.le_refl _) (I1.hok.fresh (Nat.le_refl _))
theorem wi_seq (he : WE S Γ e m) : WI S Γ ow tg e (m.bind fun x => asS x) := by
  intro ω G0 H0 σ G H P R E hm q
  refine ⟨_, fun X hX => hX.K ▸ pi_seqA (RE.pe hX e), he ω G0 H0 σ G H _ _ E hm fun d v G' H' hP e1 r => ?_⟩
  cases r with
  | lst s r z => exact .inl ⟨_, rfl, ⟨_, .inl (e1.le _ _ s)⟩, q _ _ G' H' hP e1 (it_list r z fun Gc Hc h1 h2 _ => sq_frz (.inl s) h1 h2)⟩
  | tup s r z => exact .inr ⟨_, rfl, ⟨_, e1.le.sqT s⟩, q _ _ G' H' hP e1 (it_tup r z fun Gc Hc h1 h2 _ => sqt_frz s h1 h2)⟩
  | _ => exact False.elim hP
theorem wi_seqO (he : WB S Γ e m) : WI S Γ true tg e (m.bind fun x => asS x) := by
  intro ω G0 H0 σ G H P R E hm q
  refine ⟨_, fun X hX => hX.K ▸ pi_seqA (RE.pe hX e), he ω G0 H0 σ G H _ _ E hm fun d v G' H' hP e1 r => ?_⟩
  rcases r with r | ⟨o, u, h1, h2, h3, h4⟩
  · cases r with
    | lst s r z => exact .inl ⟨_, rfl, ⟨_, .inl (e1.le _ _ s)⟩, q _ _ G' H' hP e1 (it_list r z fun Gc Hc h1 h2 _ => sq_frz (.inl s) h1 h2)⟩
    | tup s r z => exact .inr ⟨_, rfl, ⟨_, e1.le.sqT s⟩, q _ _ G' H' hP e1 (it_tup r z fun Gc Hc h1 h2 _ => sqt_frz s h1 h2)⟩
    | _ => exact False.elim hP
  · cases h4 with
    | lst a z => exact .inl ⟨o, h1, ⟨_, .inl (.inl h3)⟩, q _ _ G' H' hP e1 (it_list a z fun Gc Hc g1 g2 g3 => .inl (.inl (g3 o _ ⟨rfl, h2⟩ h3)))⟩
    | _ => exact False.elim hP
end
end Wp
namespace Wp
open PySem PySem.Spec PyProof.Rows L2

/-! ### a draw -/
/-- what a draw gives is any of the many -/
def m__law_next (many : D) : M D := match many with
  | .int n => M.draw n
  | _ => M.fail
theorem getD_ints {K : PySem.W.Frag} {G : Hp} {vs : List V} {ds : List Int} (r : RpA K G vs (ds.map .int)) {i : Nat} (h : i < ds.length) : vs[i]? = some (.int ds[i]) := by
  rw [r.ints, List.getElem?_map, List.getElem?_eq_getElem h]; rfl
theorem next_fn {P : Program} {w : World} {K : PySem.W.Frag} {mg : Str → Option Value} {base : Heap} {st : Stmt} {p1 p2 p3 p4 p5 p6 p7 p8 p9 p10 p11 p12 p13 p14 p15 p16 p17 p18 p19 p20 p21 p22 p23 p24 p25 p26 p27 p28 pm1 pm2 pm3 : Pos} {k1 k2 k3 k4 k5 k6 k7 k8 : Nat}
    (h : Has K mg "_law_next" st) (Sc : FnScope ["w", "many"] ["w", "many"] (defScope st))
    (hbind : ∀ (kV doc pm : Value) (an : Option Addr) (cdv ct : Value) (us : List Value), us.length = 2 → bindArgs (PySem.W.fnOf "_law_next" "_law_next" (defArgs st) (defBody st) (defScope st) .none kV doc pm an cdv ct) ⟨us, []⟩ = pure ((["w", "many"] : List Str).zip us))
    (ml : mg "len" = none) (mi : mg "int" = none) (lw : (defScope st).names.lookup ("w" : Str) = some .local) (lm : (defScope st).names.lookup ("many" : Str) = some .local) (gl : (defScope st).names.lookup ("len" : Str) = some .globalImplicit) (gi : (defScope st).names.lookup ("int" : Str) = some .globalImplicit)
    (hb : defBody st = [.AugAssign (.Subscript (.Name "w" p1) (.Constant (.str "at") k1 p2) p3) .Add (.Constant (.int 1) k2 p4) p5,
      .If (.Compare (.Subscript (.Name "w" p6) (.Constant (.str "at") k3 p7) p8) [.Gt] [.Call (.Name "len" p9) [.Subscript (.Name "w" p10) (.Constant (.str "draws") k4 p11) p12] [] p13] p14) [.Return (some (.Constant (.int 0) k5 p15)) p16] [] p17,
      .Return (some (.BinOp (.Call (.Name "int" p18) [.Subscript (.Subscript (.Name "w" p19) (.Constant (.str "draws") k6 p20) p21) (.BinOp (.Subscript (.Name "w" p22) (.Constant (.str "at") k7 p23) p24) .Sub (.Constant (.int 1) k8 p25) p26) p27] [] p28) .Mod (.Name "many" pm1) pm2)) pm3]) :
    FnD P w K mg base "_law_next" 1 2 (mf_wv m__law_next) := by
  obtain ⟨f, fd, F, hm⟩ := h
  refine ⟨⟨f, fd, ["w", "many"], F.ok (k := 0) Sc (fun vs H Q E h => h.1) (fun cdv A outer s H vs Q E hr h => ?_), hm, F.kp, F.binds hbind⟩⟩
  obtain ⟨hl, ω, cs, G, P', hm', ha, hx, q⟩ := h
  rw [hb]
  have hu := hu_of hr
  have Lw : Vis (defScope st) "w" := .inl lw
  have Lm : Vis (defScope st) "many" := .inl lm
  unfold mf_wv at hm'
  split at hm'
  case h_2 => exact hm'.elim
  rename_i many
  cases ha with
  | drw ho ha =>
    rename_i o _
    cases ha with
    | val rm ha =>
      cases ha
      subst ho
      rename_i vm
      cases many with
      | int n =>
        cases rm
        obtain ⟨n0, hP⟩ := hm'
        obtain ⟨hG, vd, ds, at_, hH, rd, h0⟩ := hx.dr o rfl
        have hmod : ∀ z, 0 ≤ Int.fmod z n ∧ Int.fmod z n < n := fun z => ⟨Int.fmod_nonneg_of_pos z n0, Int.fmod_lt_of_pos z n0⟩
        refine ⟨_, pss_cons (ps_daug hu (pe_var (i := 0) rfl Lw) pe_str pe_int iop_add (fun _ _ _ => rfl)) (pss_cons (ps_if (pt_cmpR op_gt (pe_dget hu (pe_var (i := 0) rfl Lw) pe_str fun _ _ => rfl) (pe_callB call_len_seq gl ml rfl (pa_cons (pe_dget hu (pe_var (i := 0) rfl Lw) pe_str fun _ _ => rfl) pa_nil)) rfl) (pss_one (ps_ret pe_int)) pss_nil)
          (pss_one (ps_ret (pe_op op_modN (pe_callTy call_int1 gi mi rfl (pa_cons (pe_ix ix_list (pe_dget hu (pe_var (i := 0) rfl Lw) pe_str fun _ _ => rfl) (pe_op op_sub (pe_dget hu (pe_var (i := 0) rfl Lw) pe_str fun _ _ => rfl) pe_int) fun _ _ => rfl) pa_nil)) (pe_var (i := 1) rfl Lm))))), ?_⟩
        have hz : (2 : Nat) < sizeLine := by rw [sizeLine_eq]; decide
        refine ⟨.ref o, rfl, o, .int at_, rfl, .inl ⟨_, .inr ("at" : Str), .inl hH, rfl, rfl⟩, at_, 1, rfl, rfl, upd H o (drwO vd (at_ + 1)), .inl ⟨_, .inr ("at" : Str), hH, rfl, hz, rfl⟩, ?_⟩
        have hH2 : upd H o (drwO vd (at_ + 1)) o = some (drwO vd (at_ + 1)) := upd_same
        generalize hHd : upd H o (drwO vd (at_ + 1)) = H2 at hH2 ⊢
        have ex : Ext (some o) K G H G H2 := by
          subst hHd
          refine ⟨Same.refl _, fun b u hb e => by rw [upd_ne (fun z => hb (by rw [z]))]; exact e, fun b u e => ?_, fun _ _ _ h => h, fun b e => ?_⟩
          · have hb : b ≠ o := fun z => by
              subst z
              rcases e with e | ⟨q, e⟩ <;> (rw [hG] at e; cases e)
            rcases hx.le b u e with r | ⟨q, r⟩
            · exact .inl (by rw [upd_ne hb]; exact r)
            · exact .inr ⟨q, by rw [upd_ne hb]; exact r⟩
          · cases e
            exact ⟨hG, vd, ds, at_ + 1, upd_same, rd, by omega⟩
        cases rd with
        | lst s1 ra za =>
          rename_i a xs
          have hlen : xs.length = ds.length := by rw [ra.length]; simp
          have s2 : SqL K H2 a xs := .inl (ex.le _ _ s1)
          have g1 : DGet H2 o (.str ("at" : Str)) (some (.int (at_ + 1))) := .inl ⟨_, .inr ("at" : Str), .inl hH2, rfl, rfl⟩
          have g2 : DGet H2 o (.str ("draws" : Str)) (some (.ref a)) := .inl ⟨_, .inr ("draws" : Str), .inl hH2, rfl, rfl⟩
          refine ⟨.ref o, rfl, o, _, rfl, g1, .ref o, rfl, o, _, rfl, g2, a, xs, rfl, .inl s2, _, _, rfl, rfl, _, rfl, ?_⟩
          by_cases hlt : (xs.length : Int) < at_ + 1
          · rw [decide_eq_true hlt]
            refine iteT ?_
            exact q (.int 0) _ G _ (hP 0 (Int.le_refl _) n0) ex (.int 0)
          · rw [decide_eq_false hlt]
            refine iteF ?_
            have hi : at_.toNat < ds.length := by omega
            have ei : atI xs (at_ + 1 - 1) = some (.int ds[at_.toNat]) := by
              rw [Int.add_sub_cancel]
              unfold atI ixN
              rw [if_pos h0, if_pos (by omega)]
              exact getD_ints ra hi
            refine ⟨.ref o, rfl, o, _, rfl, g2, .ref o, rfl, o, _, rfl, g1, at_ + 1, 1, rfl, rfl, a, xs, _, _, rfl, rfl, s2, ei, .inl ⟨_, rfl, .int n, rfl, ds[at_.toNat], n, rfl, rfl, by omega, ?_⟩⟩
            exact q (.int _) _ G _ (hP _ (hmod _).1 (hmod _).2) ex (.int _)
      | _ => exact hm'.elim
/-! ### the draws -/
def m__law_draws (ns : List Int) (many_ : D) : M D :=
  ((M.pure (.list [])).bind fun draws_1 => 
  ((M.pure (.int 7)).bind fun mixed_2 => 
  (((M.pure (.int (ns.length : Nat))).bind fun x3 => ((asI x3).bind fun i4 => rngD 0 i4)).bind fun l96 => (M.fold (fun (s5 : D × D) x95 => ((M.pure x95).bind fun a6 => 
    (((((M.pure a6).bind fun x8 => ((asI x8).bind fun i9 => ((M.opt (atI ns i9)).bind fun z10 => M.pure (.int z10)))).bind fun x11 => intD x11).bind fun x12 => absD x12).bind fun cell_7 => 
    (((((((M.pure s5.2).bind fun x14 => ((M.pure (.int 48271)).bind fun x15 => mulD x14 x15)).bind fun x18 => (((M.pure cell_7).bind fun x16 => ((M.pure (.int 1000003)).bind fun x17 => modD x16 x17)).bind fun x19 => addD x18 x19)).bind fun x20 => ((M.pure a6).bind fun x21 => addD x20 x21)).bind fun x22 => intD x22).bind fun x23 => ((M.pure (.int 65537)).bind fun x24 => modD x23 x24)).bind fun mixed_13 => 
    ((M.pure (.int 0)).bind fun rest_25 => 
    ((((M.pure cell_7).bind fun x28 => (((M.pure (.int 10)).bind fun x26 => ((M.pure (.int 18)).bind fun x27 => powD x26 x27)).bind fun x29 => ((geD x28 x29).bind fun z30 => asB z30))).bind fun b31 => bif b31 then 
      ((M.pure cell_7).bind fun rest_32 => 
      (M.pure (s5.1, rest_32))) else
      (M.need (isL s5.1 = true) ((((M.pure cell_7).bind fun x33 => intD x33).bind fun x34 => ((M.pure (.int 997)).bind fun x35 => modD x34 x35)).bind fun x36 => ((appD s5.1 x36).bind fun draws_37 => 
      (M.need (isL draws_37 = true) (((((((M.pure mixed_13).bind fun x38 => ((M.pure (.int 69621)).bind fun x39 => mulD x38 x39)).bind fun x40 => ((M.pure (.int 5)).bind fun x41 => addD x40 x41)).bind fun x42 => intD x42).bind fun x43 => ((M.pure (.int 65521)).bind fun x44 => modD x43 x44)).bind fun x45 => ((M.pure (.int 997)).bind fun x46 => modD x45 x46)).bind fun x47 => ((appD draws_37 x47).bind fun draws_48 => 
      (M.pure (draws_48, rest_25))))))))).bind fun (s49 : D × D) => 
    (((M.pure (.int 60)).bind fun x50 => ((asI x50).bind fun i51 => rngD 0 i51)).bind fun l68 => (M.fold (fun (s52 : D × D) x67 => ((M.pure x67).bind fun a53 => 
      ((((M.pure s52.2).bind fun x54 => ((M.pure (.int 0)).bind fun x55 => ((gtD x54 x55).bind fun z56 => asB z56))).bind fun b57 => bif b57 then 
        (M.need (isL s52.1 = true) ((((M.pure s52.2).bind fun x58 => intD x58).bind fun x59 => ((M.pure (.int 997)).bind fun x60 => modD x59 x60)).bind fun x61 => ((appD s52.1 x61).bind fun draws_62 => 
        (((M.pure s52.2).bind fun x64 => ((M.pure (.int 997)).bind fun x65 => fdivD x64 x65)).bind fun rest_63 => 
        (M.pure (draws_62, rest_63)))))) else
        (M.pure (s52.1, s52.2))).bind fun (s66 : D × D) => 
      (M.pure (s66.1, s66.2))))) (s49.1, s49.2) l68).bind fun (s52 : D × D) =>
    (M.pure (s52.1, mixed_13))))))))) (draws_1, mixed_2) l96).bind fun (s5 : D × D) =>
  (((M.pure many_).bind fun x69 => ((asI x69).bind fun i70 => rngD 0 i70)).bind fun l94 => (M.fold (fun (s71 : D × D) x93 => ((M.pure x93).bind fun a72 => 
    (((((((M.pure s71.2).bind fun x74 => ((M.pure (.int 16807)).bind fun x75 => mulD x74 x75)).bind fun x76 => ((M.pure a72).bind fun x77 => addD x76 x77)).bind fun x78 => ((M.pure (.int 1)).bind fun x79 => addD x78 x79)).bind fun x80 => intD x80).bind fun x81 => ((M.pure (.int 65537)).bind fun x82 => modD x81 x82)).bind fun mixed_73 => 
    (M.need (isL s71.1 = true) ((((M.pure mixed_73).bind fun x83 => intD x83).bind fun x84 => ((M.pure (.int 997)).bind fun x85 => modD x84 x85)).bind fun x86 => ((appD s71.1 x86).bind fun draws_87 => 
    (M.pure (draws_87, mixed_73)))))))) (s5.1, s5.2) l94).bind fun (s71 : D × D) =>
  ((M.pure s71.1).bind fun x88 => ((M.pure none).bind fun l91 => (((M.pure many_).bind fun x89 => ((asI x89).bind fun i90 => M.pure (some i90))).bind fun h92 => slD x88 l91 h92)))))))
/-! ### running -/
section
variable {α β σ : Type}
@[simp] theorem bind_run {m : M α} {k : α → M β} {P : β → Prop} : M.bind m k P = m (fun x => k x P) := propext Iff.rfl
@[simp] theorem pure_run {a : α} {P : α → Prop} : M.pure a P = P a := propext Iff.rfl
@[simp] theorem need_run {c : Prop} {m : M α} {P : α → Prop} : M.need c m P = (c ∧ m P) := propext Iff.rfl
@[simp] theorem fail_run {P : α → Prop} : M.fail P = False := propext Iff.rfl
@[simp] theorem opt_some {a : α} {P : α → Prop} : M.opt (some a) P = P a := by simp [M.opt]
theorem cond_run {b : Bool} {m n : M α} {P : α → Prop} : (cond b m n) P ↔ ((b = true → m P) ∧ (b = false → n P)) := by cases b <;> simp
@[simp] theorem asI_int {i : Int} {P} : asI (.int i) P = P i := propext Iff.rfl
@[simp] theorem asB_bool {i : Bool} {P} : asB (.bool i) P = P i := propext Iff.rfl
@[simp] theorem asS_list {ds : List D} {P} : asS (.list ds) P = P ds := propext Iff.rfl
@[simp] theorem asS_tup {ds : List D} {P} : asS (.tuple ds) P = P ds := propext Iff.rfl
@[simp] theorem addD_int {a b : Int} {P} : addD (.int a) (.int b) P = P (.int (a + b)) := propext Iff.rfl
@[simp] theorem iaddD_int {a b : Int} {P} : iaddD (.int a) (.int b) P = P (.int (a + b)) := propext Iff.rfl
@[simp] theorem subD_int {a b : Int} {P} : subD (.int a) (.int b) P = P (.int (a - b)) := propext Iff.rfl
@[simp] theorem mulD_int {a b : Int} {P} : mulD (.int a) (.int b) P = ((small a ∧ small b) ∧ P (.int (a * b))) := propext Iff.rfl
@[simp] theorem fdivD_int {a b : Int} {P} : fdivD (.int a) (.int b) P = (((0 < b ∧ small b) ∨ (b < 0 ∧ -1073741824 < b)) ∧ P (.int (a.fdiv b))) := propext Iff.rfl
@[simp] theorem modD_int {a b : Int} {P} : modD (.int a) (.int b) P = (b ≠ 0 ∧ P (.int (a.fmod b))) := propext Iff.rfl
@[simp] theorem powD_int {a b : Int} {P} : powD (.int a) (.int b) P = ((0 ≤ b ∧ b ≤ 1000 ∧ a.natAbs < 2 ^ 64) ∧ P (.int (a ^ b.toNat))) := propext Iff.rfl
@[simp] theorem negD_int {a : Int} {P} : negD (.int a) P = P (.int (-a)) := propext Iff.rfl
@[simp] theorem absD_int {a : Int} {P} : absD (.int a) P = P (.int (if a < 0 then -a else a)) := propext Iff.rfl
@[simp] theorem intD_int {a : Int} {P} : intD (.int a) P = P (.int a) := propext Iff.rfl
@[simp] theorem intD_bool {a : Bool} {P} : intD (.bool a) P = P (.int (if a then 1 else 0)) := propext Iff.rfl
@[simp] theorem max2D_int {a b : Int} {P} : max2D (.int a) (.int b) P = P (.int (max a b)) := propext Iff.rfl
@[simp] theorem min2D_int {a b : Int} {P} : min2D (.int a) (.int b) P = P (.int (min a b)) := propext Iff.rfl
@[simp] theorem ltD_int {a b : Int} {P} : ltD (.int a) (.int b) P = P (.bool (decide (a < b))) := propext Iff.rfl
@[simp] theorem leD_int {a b : Int} {P} : leD (.int a) (.int b) P = P (.bool (decide (a ≤ b))) := propext Iff.rfl
@[simp] theorem gtD_int {a b : Int} {P} : gtD (.int a) (.int b) P = P (.bool (decide (b < a))) := propext Iff.rfl
@[simp] theorem geD_int {a b : Int} {P} : geD (.int a) (.int b) P = P (.bool (decide (b ≤ a))) := propext Iff.rfl
@[simp] theorem eqD_int {a b : Int} {P} : eqD (.int a) (.int b) P = P (.bool (decide (a = b))) := by
  show ((sh 16 (.int a) && sh 16 (.int b)) = true ∧ P (.bool (PyData.eqv (.int a) (.int b)))) = _
  simp [sh, PyData.eqv]; rfl
@[simp] theorem neD_int {a b : Int} {P} : neD (.int a) (.int b) P = P (.bool (!decide (a = b))) := by
  show ((sh 16 (.int a) && sh 16 (.int b)) = true ∧ P (.bool (!PyData.eqv (.int a) (.int b)))) = _
  simp [sh, PyData.eqv]; rfl
@[simp] theorem appD_list {ds : List D} {y : D} {P} : appD (.list ds) y P = (ds.length < 16777216 ∧ P (.list (ds ++ [y]))) := propext Iff.rfl
@[simp] theorem lenD_list {ds : List D} {P} : lenD (.list ds) P = P (.int ds.length) := propext Iff.rfl
@[simp] theorem lenD_tup {ds : List D} {P} : lenD (.tuple ds) P = P (.int ds.length) := propext Iff.rfl
@[simp] theorem tupleD_list {ds : List D} {P} : tupleD (.list ds) P = P (.tuple ds) := propext Iff.rfl
@[simp] theorem tupleD_tup {ds : List D} {P} : tupleD (.tuple ds) P = P (.tuple ds) := propext Iff.rfl
@[simp] theorem listD_list {ds : List D} {P} : listD (.list ds) P = P (.list ds) := propext Iff.rfl
@[simp] theorem listD_tup {ds : List D} {P} : listD (.tuple ds) P = P (.list ds) := propext Iff.rfl
@[simp] theorem slD_list {ds : List D} {l h : Option Int} {P} : slD (.list ds) l h P = P (.list (cutD ds l h)) := propext Iff.rfl
@[simp] theorem slD_tup {ds : List D} {l h : Option Int} {P} : slD (.tuple ds) l h P = P (.tuple (cutD ds l h)) := propext Iff.rfl
@[simp] theorem revD_list {ds : List D} {P} : revD (.list ds) P = P (.list ds.reverse) := propext Iff.rfl
@[simp] theorem truth_bool {b : Bool} {P} : truthD (.bool b) P = P b := propext Iff.rfl
@[simp] theorem truth_none {P} : truthD .none P = P false := propext Iff.rfl
@[simp] theorem truth_int {b : Int} {P} : truthD (.int b) P = P (b != 0) := propext Iff.rfl
@[simp] theorem truth_list {b : List D} {P} : truthD (.list b) P = P (!b.isEmpty) := propext Iff.rfl
@[simp] theorem truth_tup {b : List D} {P} : truthD (.tuple b) P = P (!b.isEmpty) := propext Iff.rfl
@[simp] theorem ixD_list {ds : List D} {i : Int} {P} : ixD (.list ds) (.int i) P = M.opt (atI ds i) P := propext Iff.rfl
@[simp] theorem ixD_tup {ds : List D} {i : Int} {P} : ixD (.tuple ds) (.int i) P = M.opt (atI ds i) P := propext Iff.rfl
@[simp] theorem isL_list {ds : List D} : isL (.list ds) = true := rfl
@[simp] theorem un2_run {a b : D} {P} : un2 (.tuple [a, b]) P = P (a, b) := propext Iff.rfl
@[simp] theorem un3_run {a b c : D} {P} : un3 (.tuple [a, b, c]) P = P (a, b, c) := propext Iff.rfl
@[simp] theorem un4_run {a b c d : D} {P} : un4 (.tuple [a, b, c, d]) P = P (a, b, c, d) := propext Iff.rfl
theorem atI_nat {xs : List α} {i : Nat} : atI xs (i : Int) = xs[i]? := by
  unfold atI ixN
  by_cases h : i < xs.length
  · simp [h]
  · simp [h]
@[simp] theorem atI_0 {x : α} {xs : List α} : atI (x :: xs) 0 = some x := atI_nat (i := 0)
@[simp] theorem atI_1 {x y : α} {xs : List α} : atI (x :: y :: xs) 1 = some y := atI_nat (i := 1)
@[simp] theorem atI_2 {x y z : α} {xs : List α} : atI (x :: y :: z :: xs) 2 = some z := atI_nat (i := 2)
@[simp] theorem atI_3 {x y z u : α} {xs : List α} : atI (x :: y :: z :: u :: xs) 3 = some u := atI_nat (i := 3)
theorem rngD_run {a b : Int} {P} (h1 : -4611686018427387904 ≤ a) (h2 : a < 4611686018427387904) (h3 : -4611686018427387904 ≤ b) (h4 : b < 4611686018427387904) (h5 : b - a ≤ 16777216) (h : P (rangeD a b)) : rngD a b P := ⟨⟨h1, h2, h3, h4, h5⟩, h⟩
theorem rangeD_len {a b : Int} : (rangeD a b).length = (b - a).toNat := by simp [rangeD]
theorem rangeD_get {a b : Int} {i : Nat} (h : i < (rangeD a b).length) : (rangeD a b)[i] = .int (a + i) := by simp [rangeD]
/-- a fold, by what holds behind i turns -/
theorem fold_run {f : σ → α → M σ} (I : Nat → σ → Prop) {P : σ → Prop} : ∀ (xs : List α) {s0 : σ} (_ : I 0 s0) (_ : ∀ (i : Nat) (hi : i < xs.length) (s : σ), I i s → ∀ Q : σ → Prop, (∀ s', I (i + 1) s' → Q s') → f s xs[i] Q) (_ : ∀ s, I xs.length s → P s), M.fold f s0 xs P := by
  intro xs s0 h0 hs hP
  have go : ∀ (ys : List α) (k : Nat) (s : σ), k + ys.length = xs.length → xs.drop k = ys → I k s → M.fold f s ys P := by
    intro ys
    induction ys with
    | nil => intro k s hk _ hI; rw [List.length_nil, Nat.add_zero] at hk; exact hP s (hk ▸ hI)
    | cons y ys ih =>
      intro k s hk hd hI
      have hk' : k < xs.length := by rw [List.length_cons] at hk; omega
      have e : xs[k] = y := by
        have := List.drop_eq_getElem_cons hk'
        rw [hd] at this
        exact (List.cons.inj this).1.symm
      refine (?_ : f s y _)
      rw [← e]
      refine hs k hk' s hI _ fun s' h' => ih (k + 1) s' (by rw [List.length_cons] at hk; omega) ?_ h'
      rw [← List.drop_drop, hd]; rfl
  exact go xs 0 s0 (by simp) rfl h0
end
theorem small_of {i : Int} (h1 : -1000000000000000000000000000000 < i) (h2 : i < 1000000000000000000000000000000) : small i := by unfold small; omega
def DI (n : Nat) (d : D) : Prop := ∃ ds : List Int, d = .list (ds.map .int) ∧ ds.length ≤ n
theorem DI.mono {a b : Nat} {d : D} (h : DI a d) (l : a ≤ b) : DI b d := let ⟨ds, e, z⟩ := h; ⟨ds, e, Nat.le_trans z l⟩
theorem DI.app {n : Nat} {d : D} (h : DI n d) (l : n < 16777215) {i : Int} {Q : D → Prop} (q : ∀ d', DI (n + 1) d' → Q d') : isL d = true ∧ appD d (.int i) Q := by
  obtain ⟨ds, rfl, z⟩ := h
  refine ⟨rfl, ?_, q _ ⟨ds ++ [i], by simp, by simp; omega⟩⟩
  simp; omega
theorem cut_ints (ds : List Int) (l h : Option Int) : ∃ es : List Int, cutD (ds.map .int) l h = es.map .int := ⟨(ds.drop (HT.sIx ds.length 0 l)).take (HT.sIx ds.length ds.length h - HT.sIx ds.length 0 l), by unfold cutD; simp [List.map_take, List.map_drop]⟩
theorem inner60 {f : D × D → D → M (D × D)} {d0 r0 : D} {n : Nat} {Q : D × D → Prop} (hn : n ≤ 100000) (h1 : DI n d0) (h2 : ∃ r : Int, r0 = .int r ∧ 0 ≤ r)
    (hf : ∀ (d x : D) (m : Nat) (r : Int), m ≤ 200000 → DI m d → 0 ≤ r → ∀ Q : D × D → Prop, (∀ d', DI (m + 1) d' → ∀ r' : Int, 0 ≤ r' → Q (d', .int r')) → f (d, .int r) x Q) (hQ : ∀ s', DI (n + 60) s'.1 → Q s') : M.fold f (d0, r0) (rangeD 0 60) Q := by
  refine fold_run (fun j s => DI (n + j) s.1 ∧ ∃ r : Int, s.2 = .int r ∧ 0 ≤ r) _ ⟨h1, h2⟩ (fun j hj s hI Q2 hQ2 => ?_) fun s hI => hQ s ?_
  · obtain ⟨hd, r, hr, r0⟩ := hI
    have hj' : j < 60 := by rw [rangeD_len] at hj; omega
    obtain ⟨d, r'⟩ := s
    cases hr
    exact hf d _ (n + j) r (by omega) hd r0 Q2 fun d' hd' r' hr' => hQ2 _ ⟨hd', r', rfl, hr'⟩
  · exact hI.1.mono (by rw [rangeD_len]; omega)
theorem turn60 {d : D} {m : Nat} {r : Int} (hm : m ≤ 200000) (hd : DI m d) (r0 : 0 ≤ r) {Q : D × D → Prop} (hQ : ∀ d', DI (m + 1) d' → ∀ r' : Int, 0 ≤ r' → Q (d', .int r')) :
    (decide (0 < r) = true → isL d = true ∧ (997 : Int) ≠ 0 ∧ appD d (.int (r.fmod 997)) fun z => ((0 < (997 : Int) ∧ small 997) ∨ ((997 : Int) < 0 ∧ -1073741824 < (997 : Int))) ∧ Q (z, .int (r.fdiv 997))) ∧ (decide (0 < r) = false → Q (d, .int r)) := by
  refine ⟨fun _ => ?_, fun _ => hQ d (hd.mono (by omega)) r r0⟩
  have := hd.app (i := r.fmod 997) (Q := fun z => ((0 < (997 : Int) ∧ small 997) ∨ ((997 : Int) < 0 ∧ -1073741824 < (997 : Int))) ∧ Q (z, .int (r.fdiv 997))) (by omega) fun d' hd' => ⟨.inl ⟨by omega, small_of (by omega) (by omega)⟩, hQ d' hd' _ (Int.fdiv_nonneg r0 (by omega))⟩
  exact ⟨this.1, by omega, this.2⟩
theorem draws_ok (many : Int) (hm0 : 0 ≤ many := by decide) (hm : many ≤ 1000 := by decide) (ns : List Int) (hn : ns.length ≤ 63) : ((M.pure (.int many)).bind fun x => m__law_draws ns x) fun d => ∃ ds : List Int, d = .list (ds.map .int) := by
  simp only [m__law_draws, bind_run, pure_run, asI_int]
  refine rngD_run (by omega) (by omega) (by omega) (by omega) (by omega) ?_
  have hlen : (rangeD 0 (ns.length : Int)).length = ns.length := by rw [rangeD_len]; omega
  refine fold_run (fun i s => DI (62 * i) s.1 ∧ ∃ m : Int, s.2 = .int m ∧ 0 ≤ m ∧ m < 65537) _ ⟨⟨[], rfl, by simp⟩, 7, rfl, by omega, by omega⟩ (fun i hi s hI Q hQ => ?_) fun s hI => ?_
  · obtain ⟨hd, m, hm, m0, m1⟩ := hI
    rw [rangeD_get hi]
    have hi' : i < ns.length := by omega
    obtain ⟨d, r'⟩ := s
    cases hm
    simp only [bind_run, pure_run, asI_int, Int.zero_add, atI_nat, List.getElem?_eq_getElem hi', opt_some, intD_int, absD_int, mulD_int, modD_int, addD_int, powD_int, geD_int, asB_bool]
    refine ⟨⟨small_of (by omega) (by omega), small_of (by omega) (by omega)⟩, by omega, by omega, ⟨by omega, by omega, by decide⟩, ?_⟩
    generalize hc : (if ns[i] < 0 then -ns[i] else ns[i]) = c
    have c0 : 0 ≤ c := by rw [← hc]; split <;> omega
    generalize hm2 : (m * 48271 + c.fmod 1000003 + ↑i).fmod 65537 = m2
    have m20 : 0 ≤ m2 := by rw [← hm2]; exact Int.fmod_nonneg_of_pos _ (by omega)
    have m21 : m2 < 65537 := by rw [← hm2]; exact Int.fmod_lt_of_pos _ (by omega)
    rw [cond_run]
    constructor
    · intro hb
      simp only [bind_run, pure_run, asI_int]
      refine rngD_run (by omega) (by omega) (by omega) (by omega) (by omega) ?_
      refine inner60 (n := 62 * i + 2) (by omega) (hd.mono (by omega)) ⟨c, rfl, c0⟩ (fun d x m r hm hd r0 Q2 hQ2 => ?_) fun s' h' => hQ _ ⟨h', m2, rfl, m20, m21⟩
      simp only [bind_run, pure_run, gtD_int, asB_bool, cond_run, need_run, intD_int, modD_int, fdivD_int]
      exact turn60 hm hd r0 hQ2
    · intro hb
      obtain ⟨ds, rfl, z⟩ := hd
      simp only [bind_run, pure_run, need_run, intD_int, modD_int, mulD_int, addD_int, asI_int, appD_list, isL_list, true_and]
      refine ⟨by omega, by simp; omega, ⟨small_of (by omega) (by omega), small_of (by omega) (by omega)⟩, by omega, by omega, by simp; omega, ?_⟩
      refine rngD_run (by omega) (by omega) (by omega) (by omega) (by omega) ?_
      refine inner60 (n := 62 * i + 2) (by omega) ⟨ds ++ [c.fmod 997] ++ [((m2 * 69621 + 5).fmod 65521).fmod 997], by simp, by simp; omega⟩ ⟨0, rfl, by omega⟩ (fun d x m r hm hd r0 Q2 hQ2 => ?_) fun s' h' => hQ _ ⟨h', m2, rfl, m20, m21⟩
      simp only [bind_run, pure_run, gtD_int, asB_bool, cond_run, need_run, intD_int, modD_int, fdivD_int]
      exact turn60 hm hd r0 hQ2
  · rw [hlen] at hI
    obtain ⟨hd, m, hm2, m0, m1⟩ := hI
    obtain ⟨d, r'⟩ := s
    cases hm2
    refine rngD_run (by omega) (by omega) (by omega) (by omega) (by omega) ?_
    refine fold_run (fun i s => DI (62 * ns.length + i) s.1 ∧ ∃ m : Int, s.2 = .int m ∧ 0 ≤ m ∧ m < 65537) _ ⟨hd, m, rfl, m0, m1⟩ (fun i hi s hI Q hQ => ?_) fun s hI => ?_
    · obtain ⟨hd, m, hm, m0, m1⟩ := hI
      rw [rangeD_get hi]
      have hi' : (i : Int) < many := by rw [rangeD_len] at hi; omega
      obtain ⟨d, r'⟩ := s
      cases hm
      simp only [bind_run, pure_run, mulD_int, addD_int, intD_int, modD_int, need_run]
      have a1 := hd.app (i := ((m * 16807 + (0 + ↑i) + 1).fmod 65537).fmod 997) (Q := fun d => Q (d, .int ((m * 16807 + (0 + ↑i) + 1).fmod 65537))) (by omega) fun d' hd' => hQ _ ⟨hd', _, rfl, Int.fmod_nonneg_of_pos _ (by omega), Int.fmod_lt_of_pos _ (by omega)⟩
      exact ⟨⟨small_of (by omega) (by omega), small_of (by omega) (by omega)⟩, by omega, a1.1, by omega, a1.2⟩
    · obtain ⟨⟨ds, e, z⟩, _⟩ := hI
      simp only [bind_run, pure_run, asI_int, e, slD_list]
      obtain ⟨es, he⟩ := cut_ints ds none (some many)
      exact ⟨es, by rw [he]⟩
/-! ### the end -/
section
variable {l : PySem.W.OpenLaw} {w : World} {K : PySem.W.Frag} {h : Heap} {mg : Str → Option Value}
theorem has_mk {x : Str} {st : Stmt} {f : Addr} (X : K.In h) (G : h.Ns mainGlobals mg) {od an : Option Addr} {sl : Array (Option Value)} {oc kV dc pm cd ct : Value}
    (a : PySem.W.nsIn K mainGlobals x = some (some (.ref f))) (l : K.lookup f = some ⟨oc, od, .func (PySem.W.fnOf x x (defArgs st) (defBody st) (defScope st) .none kV dc pm an cd ct), sl⟩) (c : PySem.W.codeIn K cd x = true) (k : PySem.W.keepIn K (.ref f) = true) : Has K mg x st :=
  ⟨f, _, fun_mk l c k, PySem.W.mg_of X G a⟩
/-- the law's own def -/
def HasL (K : PySem.W.Frag) (st : Stmt) (fa : Addr) : Prop := ∃ fd, (∀ (s : Shared) (v : Value), BindsTo s fd ⟨[v], []⟩ [("script", v)]) ∧ Fun K "law" "law" st fa fd
theorem hasL_mk {st : Stmt} {f fa : Addr} (X : K.In h) (G : h.Ns mainGlobals mg) (hfa : mg "law" = some (.ref fa)) {od an : Option Addr} {sl : Array (Option Value)} {oc kV dc pm cd ct : Value}
    (a : PySem.W.nsIn K mainGlobals "law" = some (some (.ref f))) (lk : K.lookup f = some ⟨oc, od, .func (PySem.W.fnOf "law" "law" (defArgs st) (defBody st) (defScope st) .none kV dc pm an cd ct), sl⟩) (c : PySem.W.codeIn K cd "law" = true) (k : PySem.W.keepIn K (.ref f) = true)
    (hb : ∀ (s : Shared) (v : Value), BindsTo s (PySem.W.fnOf "law" "law" (defArgs st) (defBody st) (defScope st) .none kV dc pm an cd ct) ⟨[v], []⟩ [("script", v)]) : HasL K st fa := by
  have e := hfa.symm.trans (PySem.W.mg_of X G a)
  cases e
  exact ⟨_, hb, fun_mk lk c k⟩
theorem glc_tup {x : Str} {p : Addr} {od : Option Addr} {its : Array Value} {n : Nat} {sl : Array (Option Value)} {ds : List D} (X : K.In h) (G : h.Ns mainGlobals mg) (a : PySem.W.nsIn K mainGlobals x = some (some (.ref p))) (lk : K.lookup p = some ⟨.type "tuple", od, .seq its n, sl⟩)
    (hz : its.size ≤ 1000) (hl : ds.length ≤ 1000) (hv : ∀ G, ∃ xs, Vals xs its.toList ∧ RpA K G xs ds) : GlC K mg x (.tuple ds) := by
  refine ⟨.ref p, .ref p, PySem.W.mg_of X G a, rfl, fun G => ?_⟩
  obtain ⟨xs, h1, h2⟩ := hv G
  exact .tup (.inr ⟨_, its, n, lk, rfl, rfl, Nat.le_of_lt (small1000 hz), h1⟩) h2 (Nat.le_of_lt (small1000 hl))
end
end Wp
namespace Wp
open PySem PySem.Spec PyProof.Rows L2

def m_divisor (a_ : D) (b_ : D) : M D :=
  ((M.while_ (fun (s1 : D × D) => ((M.pure s1.2).bind fun x2 => ((M.pure (.int 0)).bind fun x3 => ((neD x2 x3).bind fun z4 => asB z4)))) (fun (s1 : D × D) =>
    ((M.pure s1.2).bind fun a_7 => (((M.pure s1.1).bind fun x5 => ((M.pure s1.2).bind fun x6 => modD x5 x6)).bind fun b_8 => 
    (M.pure (a_7, b_8))))) (a_, b_)).bind fun (s1 : D × D) =>
  (((M.pure s1.1).bind fun x9 => ((M.pure (.int 0)).bind fun x10 => ((neD x9 x10).bind fun z11 => asB z11))).bind fun b12 => bif b12 then (M.pure s1.1) else (M.pure (.int 1))))
def m_fraction (a_ : D) (b_ : D) : M D :=
  (((((M.pure a_).bind fun x2 => absD x2).bind fun x3 => (((M.pure b_).bind fun x4 => absD x4).bind fun x5 => m_divisor x3 x5)).bind fun x11 => ((((M.pure b_).bind fun x6 => ((M.pure (.int 0)).bind fun x7 => ((gtD x6 x7).bind fun z8 => asB z8))).bind fun b10 => bif b10 then (M.pure (.int 1)) else ((M.pure (.int 1)).bind fun x9 => negD x9)).bind fun x12 => mulD x11 x12)).bind fun common_1 => 
  ((((M.pure a_).bind fun x13 => ((M.pure common_1).bind fun x14 => fdivD x13 x14)).bind fun x19 => ((((M.pure b_).bind fun x15 => ((M.pure common_1).bind fun x16 => fdivD x15 x16)).bind fun x17 => ((M.pure []).bind fun l18 => M.pure (x17 :: l18))).bind fun l20 => M.pure (x19 :: l20))).bind fun x21 => M.pure (.tuple x21)))
def m_plus (one_ : D) (other_ : D) : M D :=
  (((((M.pure one_).bind fun x1 => ((M.pure (.int 0)).bind fun x2 => ixD x1 x2)).bind fun x5 => (((M.pure other_).bind fun x3 => ((M.pure (.int 1)).bind fun x4 => ixD x3 x4)).bind fun x6 => mulD x5 x6)).bind fun x13 => ((((M.pure other_).bind fun x7 => ((M.pure (.int 0)).bind fun x8 => ixD x7 x8)).bind fun x11 => (((M.pure one_).bind fun x9 => ((M.pure (.int 1)).bind fun x10 => ixD x9 x10)).bind fun x12 => mulD x11 x12)).bind fun x14 => addD x13 x14)).bind fun x15 => ((((M.pure one_).bind fun x16 => ((M.pure (.int 1)).bind fun x17 => ixD x16 x17)).bind fun x20 => (((M.pure other_).bind fun x18 => ((M.pure (.int 1)).bind fun x19 => ixD x18 x19)).bind fun x21 => mulD x20 x21)).bind fun x22 => m_fraction x15 x22))
def m_times (one_ : D) (other_ : D) : M D :=
  ((((M.pure one_).bind fun x1 => ((M.pure (.int 0)).bind fun x2 => ixD x1 x2)).bind fun x5 => (((M.pure other_).bind fun x3 => ((M.pure (.int 0)).bind fun x4 => ixD x3 x4)).bind fun x6 => mulD x5 x6)).bind fun x7 => ((((M.pure one_).bind fun x8 => ((M.pure (.int 1)).bind fun x9 => ixD x8 x9)).bind fun x12 => (((M.pure other_).bind fun x10 => ((M.pure (.int 1)).bind fun x11 => ixD x10 x11)).bind fun x13 => mulD x12 x13)).bind fun x14 => m_fraction x7 x14))
def m_minus (one_ : D) (other_ : D) : M D :=
  ((M.pure one_).bind fun x1 => ((((((M.pure other_).bind fun x2 => ((M.pure (.int 0)).bind fun x3 => ixD x2 x3)).bind fun x4 => negD x4).bind fun x9 => ((((M.pure other_).bind fun x5 => ((M.pure (.int 1)).bind fun x6 => ixD x5 x6)).bind fun x7 => ((M.pure []).bind fun l8 => M.pure (x7 :: l8))).bind fun l10 => M.pure (x9 :: l10))).bind fun x11 => M.pure (.tuple x11)).bind fun x12 => m_plus x1 x12))
def m_over (one_ : D) (other_ : D) : M D :=
  ((((M.pure one_).bind fun x1 => ((M.pure (.int 0)).bind fun x2 => ixD x1 x2)).bind fun x5 => (((M.pure other_).bind fun x3 => ((M.pure (.int 1)).bind fun x4 => ixD x3 x4)).bind fun x6 => mulD x5 x6)).bind fun x7 => ((((M.pure one_).bind fun x8 => ((M.pure (.int 1)).bind fun x9 => ixD x8 x9)).bind fun x12 => (((M.pure other_).bind fun x10 => ((M.pure (.int 0)).bind fun x11 => ixD x10 x11)).bind fun x13 => mulD x12 x13)).bind fun x14 => m_fraction x7 x14))
def m_is_less (one_ : D) (other_ : D) : M D :=
  ((((M.pure one_).bind fun x1 => ((M.pure (.int 0)).bind fun x2 => ixD x1 x2)).bind fun x5 => (((M.pure other_).bind fun x3 => ((M.pure (.int 1)).bind fun x4 => ixD x3 x4)).bind fun x6 => mulD x5 x6)).bind fun x13 => ((((M.pure other_).bind fun x7 => ((M.pure (.int 0)).bind fun x8 => ixD x7 x8)).bind fun x11 => (((M.pure one_).bind fun x9 => ((M.pure (.int 1)).bind fun x10 => ixD x9 x10)).bind fun x12 => mulD x11 x12)).bind fun x14 => ltD x13 x14))
def m_sum_of (fractions_ : D) : M D :=
  ((((M.pure (.int 0)).bind fun x4 => (((M.pure (.int 1)).bind fun x2 => ((M.pure []).bind fun l3 => M.pure (x2 :: l3))).bind fun l5 => M.pure (x4 :: l5))).bind fun x6 => M.pure (.tuple x6)).bind fun found_1 => 
  (((M.pure fractions_).bind fun x7 => asS x7).bind fun l14 => (M.fold (fun (s8 : D) x13 => ((M.pure x13).bind fun a9 => 
    (((M.pure s8).bind fun x11 => ((M.pure a9).bind fun x12 => m_plus x11 x12)).bind fun found_10 => 
    (M.pure found_10)))) found_1 l14).bind fun (s8 : D) =>
  (M.pure s8)))
def m__law_part (upper_ : D) (lower_ : D) : M D :=
  (((M.pure upper_).bind fun x1 => absD x1).bind fun a_2 => ((M.pure lower_).bind fun b_3 => 
  ((M.while_ (fun (s4 : D × D) => ((M.pure s4.2).bind fun x5 => ((M.pure (.int 0)).bind fun x6 => ((neD x5 x6).bind fun z7 => asB z7)))) (fun (s4 : D × D) =>
    ((M.pure s4.2).bind fun a_11 => ((((M.pure s4.1).bind fun x8 => intD x8).bind fun x9 => ((M.pure s4.2).bind fun x10 => modD x9 x10)).bind fun b_12 => 
    (M.pure (a_11, b_12))))) (a_2, b_3)).bind fun (s4 : D × D) =>
  (((M.pure s4.1).bind fun x13 => ((M.pure (.int 0)).bind fun x14 => ((neD x13 x14).bind fun z15 => asB z15))).bind fun b30 => bif b30 then ((((M.pure upper_).bind fun x16 => ((M.pure s4.1).bind fun x17 => fdivD x16 x17)).bind fun x22 => ((((M.pure lower_).bind fun x18 => ((M.pure s4.1).bind fun x19 => fdivD x18 x19)).bind fun x20 => ((M.pure []).bind fun l21 => M.pure (x20 :: l21))).bind fun l23 => M.pure (x22 :: l23))).bind fun x24 => M.pure (.tuple x24)) else (((M.pure (.int 0)).bind fun x27 => (((M.pure (.int 1)).bind fun x25 => ((M.pure []).bind fun l26 => M.pure (x25 :: l26))).bind fun l28 => M.pure (x27 :: l28))).bind fun x29 => M.pure (.tuple x29))))))
/-! ### greatest common divisors, fractions -/
/-- m gives v -/
def Ret {α : Type} (m : M α) (v : α) : Prop := ∀ P : α → Prop, P v → m P
section
variable {α β σ : Type}
theorem while_run {c : σ → M Bool} {f : σ → M σ} (I : σ → Prop) (μ : σ → Nat) {P : σ → Prop} (hs : ∀ s, I s → ∀ Q : σ → Prop, (∀ s', I s' → μ s' < μ s → Q s') → c s (fun b => (b = true → f s Q) ∧ (b = false → P s))) {s0 : σ} (h0 : I s0) : M.while_ c f s0 P := by
  have go : ∀ (n : Nat) (s : σ), μ s < n → I s → M.iter c f n s P := by
    intro n
    induction n with
    | zero => intro s h; omega
    | succ n ih =>
      intro s hn hI
      have h := hs s hI (fun s' => M.iter c f n s' P) fun s' h1 h2 => ih s' (by omega) h1
      show c s _
      have e : (fun b => (bif b then M.bind (f s) fun s' => M.iter c f n s' else M.pure s) P) = fun b => (b = true → f s fun s' => M.iter c f n s' P) ∧ (b = false → P s) := by
        funext b; cases b <;> simp
      exact e ▸ h
  exact ⟨μ s0 + 1, go _ _ (Nat.lt_succ_self _) h0⟩
/-- a map, each turn giving g -/
theorem mapM_run {γ : Type} {f : α → M β} {e : γ → α} (g : γ → β) {ys : List γ} {P : List β → Prop} (hf : ∀ y ∈ ys, Ret (f (e y)) (g y)) (hP : P (ys.map g)) : M.mapM f (ys.map e) P := by
  induction ys generalizing P with
  | nil => exact hP
  | cons y ys ih => exact hf y (by simp) _ (ih (fun z hz => hf z (by simp [hz])) hP)
theorem mapM_run' {f : α → M β} (g : α → β) {ys : List α} {P : List β → Prop} (hf : ∀ y ∈ ys, Ret (f y) (g y)) (hP : P (ys.map g)) : M.mapM f ys P := by
  have := mapM_run (e := id) g (ys := ys) (f := f) (P := P) hf hP
  simpa using this
theorem filM_run {γ : Type} {f : α → M (Option β)} {e : γ → α} (g : γ → Option β) {ys : List γ} {P : List β → Prop} (hf : ∀ y ∈ ys, Ret (f (e y)) (g y)) (hP : P (ys.filterMap g)) : M.filM f (ys.map e) P := by
  induction ys generalizing P with
  | nil => exact hP
  | cons y ys ih =>
    refine hf y (by simp) _ (ih (fun z hz => hf z (by simp [hz])) ?_)
    cases h : g y <;> simpa [List.filterMap_cons, h] using hP
theorem fold_ret {γ : Type} {f : σ → α → M σ} {e : γ → α} (g : σ → γ → σ) {ys : List γ} {s0 : σ} {P : σ → Prop} (hf : ∀ s, ∀ y ∈ ys, Ret (f s (e y)) (g s y)) (hP : P (ys.foldl g s0)) : M.fold f s0 (ys.map e) P := by
  induction ys generalizing s0 with
  | nil => exact hP
  | cons y ys ih => exact hf s0 y (by simp) _ (ih (fun s z hz => hf s z (by simp [hz])) hP)
end
theorem natAbs_if (a : Int) : (if a < 0 then -a else a) = (a.natAbs : Int) := by split <;> omega
theorem r_divisor (a b : Nat) : Ret (m_divisor (.int a) (.int b)) (.int (if a.gcd b = 0 then 1 else a.gcd b : Nat)) := by
  intro P hP
  simp only [m_divisor, bind_run, pure_run]
  refine while_run (fun s => ∃ x y : Nat, s = (.int x, .int y) ∧ x.gcd y = a.gcd b) (fun s => match s.2 with | .int y => y.toNat | _ => 0) (fun s hI Q hQ => ?_) ⟨a, b, rfl, rfl⟩
  obtain ⟨x, y, rfl, hg⟩ := hI
  simp only [bind_run, pure_run, neD_int, asB_bool, modD_int]
  constructor
  · intro hy
    have hy' : (y : Int) ≠ 0 := by simpa using hy
    have hy2 : 0 < y := by omega
    refine ⟨hy', hQ _ ⟨y, x % y, ?_, ?_⟩ ?_⟩
    · rw [Int.fmod_eq_emod_of_nonneg _ (by omega)]; rfl
    · rw [← hg, Nat.gcd_comm y, ← Nat.gcd_rec, Nat.gcd_comm]
    · show ((x : Int).fmod (y : Int)).toNat < y
      rw [Int.fmod_eq_emod_of_nonneg _ (by omega)]
      have := Nat.mod_lt x hy2
      omega
  · intro hy
    have hy' : (y : Int) = 0 := by simpa using hy
    have hy2 : y = 0 := by omega
    subst hy2
    rw [Nat.gcd_zero_right] at hg
    rw [cond_run]
    rw [← hg] at hP
    constructor
    · intro hx
      have : x ≠ 0 := by intro e; subst e; simp at hx
      rw [if_neg this] at hP
      exact hP
    · intro hx
      have : x = 0 := by
        have : (x : Int) = 0 := by simpa using hx
        omega
      subst this
      exact hP
/-- a fraction, as the program writes it -/
def qD (r : Rat) : D := .tuple [.int r.num, .int r.den]
theorem exact_fdiv {a g : Int} (h : g ∣ a) : a.fdiv g = a / g := Int.fdiv_eq_ediv_of_dvd h
theorem r_fraction {a b : Int} (hb : 0 < b) (sb : small b) : Ret (m_fraction (.int a) (.int b)) (qD (Rat.divInt a b)) := by
  intro P hP
  simp only [m_fraction, bind_run, pure_run, absD_int, natAbs_if]
  refine r_divisor _ _ _ ?_
  have hg : a.natAbs.gcd b.natAbs ≠ 0 := by
    have := Nat.gcd_pos_of_pos_right a.natAbs (n := b.natAbs) (by omega)
    omega
  rw [if_neg hg]
  simp only [bind_run, pure_run, gtD_int, asB_bool, cond_run, hb, decide_true, true_implies, reduceCtorEq, false_implies, and_true, mulD_int, Int.mul_one, fdivD_int]
  have hle : a.natAbs.gcd b.natAbs ≤ b.natAbs := Nat.gcd_le_right _ (by omega)
  have hs : small (a.natAbs.gcd b.natAbs : Nat) := by unfold small at sb ⊢; omega
  refine ⟨⟨hs, small_of (by omega) (by omega)⟩, .inl ⟨by omega, hs⟩, .inl ⟨by omega, hs⟩, ?_⟩
  have e : qD (Rat.divInt a b) = .tuple [.int (a.fdiv (a.natAbs.gcd b.natAbs : Nat)), .int (b.fdiv (a.natAbs.gcd b.natAbs : Nat))] := by
    unfold qD
    have d1 : ((a.natAbs.gcd b.natAbs : Nat) : Int) ∣ a := Int.gcd_dvd_left a b
    have d2 : ((a.natAbs.gcd b.natAbs : Nat) : Int) ∣ b := Int.gcd_dvd_right a b
    rw [exact_fdiv d1, exact_fdiv d2, Rat.num_divInt, Rat.den_divInt, if_neg (by omega), Int.sign_eq_one_of_pos hb, Int.one_mul]
    have c1 : b.gcd a = a.natAbs.gcd b.natAbs := by rw [Int.gcd_comm]; rfl
    rw [c1]
    congr 3
    have : (b.natAbs : Int) = b := by omega
    rw [Int.natCast_ediv, this]
  rw [e] at hP
  exact hP
theorem r_fraction_neg {a b : Int} (hb : b < 0) (hb2 : -1073741824 < b) : Ret (m_fraction (.int a) (.int b)) (qD (Rat.divInt a b)) := by
  intro P hP
  simp only [m_fraction, bind_run, pure_run, absD_int, natAbs_if]
  refine r_divisor _ _ _ ?_
  have hg : a.natAbs.gcd b.natAbs ≠ 0 := by
    have := Nat.gcd_pos_of_pos_right a.natAbs (n := b.natAbs) (by omega)
    omega
  rw [if_neg hg]
  have hn : ¬ (0 : Int) < b := by omega
  simp only [bind_run, pure_run, gtD_int, asB_bool, cond_run, hn, decide_false, true_implies, reduceCtorEq, false_implies, true_and, mulD_int, negD_int, fdivD_int]
  have hle : a.natAbs.gcd b.natAbs ≤ b.natAbs := Nat.gcd_le_right _ (by omega)
  have hs : small (a.natAbs.gcd b.natAbs : Nat) := small_of (by omega) (by omega)
  rw [Int.mul_neg, Int.mul_one]
  refine ⟨⟨hs, small_of (by omega) (by omega)⟩, .inr ⟨by omega, by omega⟩, .inr ⟨by omega, by omega⟩, ?_⟩
  have e : qD (Rat.divInt a b) = .tuple [.int (a.fdiv (-(a.natAbs.gcd b.natAbs : Nat))), .int (b.fdiv (-(a.natAbs.gcd b.natAbs : Nat)))] := by
    unfold qD
    have d1 : ((a.natAbs.gcd b.natAbs : Nat) : Int) ∣ a := Int.gcd_dvd_left a b
    have d2 : ((a.natAbs.gcd b.natAbs : Nat) : Int) ∣ b := Int.gcd_dvd_right a b
    rw [exact_fdiv (Int.neg_dvd.mpr d1), exact_fdiv (Int.neg_dvd.mpr d2), Rat.num_divInt, Rat.den_divInt, if_neg (by omega), Int.sign_eq_neg_one_of_neg hb]
    have c1 : b.gcd a = a.natAbs.gcd b.natAbs := by rw [Int.gcd_comm]; rfl
    rw [c1, Int.ediv_neg, Int.ediv_neg]
    congr 3
    · rw [Int.neg_one_mul, Int.neg_ediv_of_dvd d1]
    · have : (b.natAbs : Int) = -b := by omega
      rw [Int.natCast_ediv, this, Int.neg_ediv_of_dvd d2]
  rw [e] at hP
  exact hP
/-- both parts below n -/
def Bq (n : Int) (r : Rat) : Prop := -n ≤ r.num ∧ r.num ≤ n ∧ (r.den : Int) ≤ n
theorem Bq.mono {a b : Int} {r : Rat} (h : Bq a r) (l : a ≤ b) : Bq b r := ⟨by have := h.1; omega, by have := h.2.1; omega, by have := h.2.2; omega⟩
theorem Bq.pos {a : Int} {r : Rat} (h : Bq a r) : 1 ≤ a := by
  have := h.2.2
  have := r.den_pos
  omega
theorem bq_divInt {a b n : Int} (hb : 0 < b) (h1 : -n ≤ a) (h2 : a ≤ n) (h3 : b ≤ n) : Bq n (Rat.divInt a b) := by
  have e1 := Rat.num_divInt a b
  have e2 := Rat.den_divInt a b
  rw [Int.sign_eq_one_of_pos hb, Int.one_mul] at e1
  rw [if_neg (by omega)] at e2
  have gp : 0 < b.gcd a := Int.gcd_pos_of_ne_zero_left _ (by omega)
  have k1 : (a / (b.gcd a : Int)).natAbs ≤ a.natAbs := Int.natAbs_ediv_le_natAbs a _
  have k2 : b.natAbs / b.gcd a ≤ b.natAbs := Nat.div_le_self _ _
  refine ⟨?_, ?_, ?_⟩ <;> (try rw [e1]) <;> (try rw [e2]) <;> omega
theorem bq_neg {n : Int} {r : Rat} (h : Bq n r) : Bq n (-r) := ⟨by have := h.2.1; rw [Rat.neg_num]; omega, by have := h.1; rw [Rat.neg_num]; omega, h.2.2⟩
theorem mul_bd {a b n m : Int} (h1 : -n ≤ a) (h2 : a ≤ n) (h3 : -m ≤ b) (h4 : b ≤ m) : -(n * m) ≤ a * b ∧ a * b ≤ n * m := by
  have ha : a.natAbs ≤ n.natAbs := by omega
  have hb : b.natAbs ≤ m.natAbs := by omega
  have h := Nat.mul_le_mul ha hb
  rw [← Int.natAbs_mul] at h
  have hn : ((n.natAbs * m.natAbs : Nat) : Int) = n * m := by
    rw [Int.natCast_mul]
    have e1 : (n.natAbs : Int) = n := by omega
    have e2 : (m.natAbs : Int) = m := by omega
    rw [e1, e2]
  omega
theorem bq_mul {n m : Int} {r s : Rat} (hr : Bq n r) (hs : Bq m s) : Bq (n * m) (r * s) := by
  rw [← Rat.num_divInt_den r, ← Rat.num_divInt_den s, Rat.divInt_mul_divInt]
  have p1 := r.den_pos
  have p2 := s.den_pos
  have d : 0 < (r.den : Int) * (s.den : Int) := Int.mul_pos (by omega) (by omega)
  have b1 := mul_bd hr.1 hr.2.1 hs.1 hs.2.1
  have b2 := mul_bd (a := (r.den : Int)) (b := (s.den : Int)) (n := n) (m := m) (by have := hr.2.2; omega) hr.2.2 (by have := hs.2.2; omega) hs.2.2
  exact bq_divInt d b1.1 b1.2 b2.2
theorem bq_add {n m : Int} {r s : Rat} (hr : Bq n r) (hs : Bq m s) : Bq (2 * (n * m)) (r + s) := by
  rw [← Rat.num_divInt_den r, ← Rat.num_divInt_den s]
  have p1 := r.den_pos
  have p2 := s.den_pos
  rw [Rat.divInt_add_divInt _ _ (by omega) (by omega)]
  have d : 0 < (r.den : Int) * (s.den : Int) := Int.mul_pos (by omega) (by omega)
  have hrd := hr.2.2
  have hsd := hs.2.2
  have b1 := mul_bd hr.1 hr.2.1 (b := (s.den : Int)) (m := m) (by omega) hsd
  have b3 := mul_bd hs.1 hs.2.1 (b := (r.den : Int)) (m := n) (by omega) hrd
  rw [Int.mul_comm m n] at b3
  have b2 := mul_bd (a := (r.den : Int)) (b := (s.den : Int)) (n := n) (m := m) (by omega) hrd (by omega) hsd
  exact bq_divInt d (by omega) (by omega) (by omega)
def big : Int := 100000000000000000000000000000
theorem Bq.small1 {r : Rat} (h : Bq big r) : small r.num ∧ small r.den := by
  have p := r.den_pos
  have h1 := h.1; have h2 := h.2.1; have h3 := h.2.2
  unfold big at h1 h2 h3
  exact ⟨by unfold small; omega, by unfold small; omega⟩
theorem Bq.smallm {r s : Rat} (h : Bq big r) (k : Bq big s) : small ((r.den : Int) * s.den) ∧ 0 < (r.den : Int) * s.den := by
  have p := r.den_pos
  have q := s.den_pos
  have b := mul_bd (a := (r.den : Int)) (b := (s.den : Int)) (n := big) (m := big) (by have := h.2.2; omega) h.2.2 (by have := k.2.2; omega) k.2.2
  unfold big at b
  exact ⟨by unfold small; omega, Int.mul_pos (by omega) (by omega)⟩
theorem r_plus {x y : Rat} (hx : Bq big x) (hy : Bq big y) : Ret (m_plus (qD x) (qD y)) (qD (x + y)) := by
  intro P hP
  have sx := hx.small1
  have sy := hy.small1
  have sd := hx.smallm hy
  simp only [m_plus, qD, bind_run, pure_run, ixD_tup, atI_0, atI_1, opt_some, mulD_int, addD_int, sx, sy, and_self, true_and]
  refine r_fraction sd.2 sd.1 _ ?_
  have e : Rat.divInt (x.num * y.den + y.num * x.den) (x.den * y.den) = x + y := by
    have p := x.den_pos
    have q := y.den_pos
    rw [← Rat.divInt_add_divInt _ _ (by omega) (by omega), Rat.num_divInt_den, Rat.num_divInt_den]
  rw [e]
  exact hP
theorem r_times {x y : Rat} (hx : Bq big x) (hy : Bq big y) : Ret (m_times (qD x) (qD y)) (qD (x * y)) := by
  intro P hP
  have sx := hx.small1
  have sy := hy.small1
  have sd := hx.smallm hy
  simp only [m_times, qD, bind_run, pure_run, ixD_tup, atI_0, atI_1, opt_some, mulD_int, addD_int, sx, sy, and_self, true_and]
  refine r_fraction sd.2 sd.1 _ ?_
  have e : Rat.divInt (x.num * y.num) (x.den * y.den) = x * y := by
    rw [← Rat.divInt_mul_divInt, Rat.num_divInt_den, Rat.num_divInt_den]
  rw [e]
  exact hP
theorem r_minus {x y : Rat} (hx : Bq big x) (hy : Bq big y) : Ret (m_minus (qD x) (qD y)) (qD (x - y)) := by
  intro P hP
  have e : x - y = x + -y := Rat.sub_eq_add_neg x y
  have := r_plus hx (bq_neg hy) P (e ▸ hP)
  simp only [m_minus, bind_run, pure_run]
  unfold qD at this ⊢
  simp only [bind_run, pure_run, ixD_tup, atI_0, atI_1, opt_some, negD_int]
  exact this
theorem r_over {x y : Rat} (hx : Bq big x) (hy : Bq big y) (y0 : 0 < y) : Ret (m_over (qD x) (qD y)) (qD (x / y)) := by
  intro P hP
  have sx := hx.small1
  have sy := hy.small1
  have yn : 0 < y.num := by
    have := Rat.num_nonneg (q := y)
    have h0 : y.num ≠ 0 := fun e => by rw [Rat.num_eq_zero] at e; subst e; exact absurd y0 (by decide)
    have h1 : 0 ≤ y.num := this.mpr (Rat.le_of_lt y0)
    omega
  have b := mul_bd (a := (x.den : Int)) (b := y.num) (n := big) (m := big) (by have := x.den_pos; unfold big; omega) hx.2.2 hy.1 hy.2.1
  have sd : small ((x.den : Int) * y.num) := by unfold big at b; unfold small; omega
  have pd : 0 < (x.den : Int) * y.num := Int.mul_pos (by have := x.den_pos; omega) yn
  simp only [m_over, qD, bind_run, pure_run, ixD_tup, atI_0, atI_1, opt_some, mulD_int, addD_int, sx, sy, and_self, true_and]
  refine r_fraction pd sd _ ?_
  have e : Rat.divInt (x.num * y.den) (x.den * y.num) = x / y := by
    rw [← Rat.divInt_mul_divInt, Rat.num_divInt_den, Rat.div_def, Rat.inv_def]
  rw [e]
  exact hP
theorem r_over_neg {x y : Rat} (hx : Bq big x) (hy : Bq big y) (y0 : y < 0) (hb : (x.den : Int) * -y.num < 1073741824) : Ret (m_over (qD x) (qD y)) (qD (x / y)) := by
  intro P hP
  have sx := hx.small1
  have sy := hy.small1
  have yn : y.num < 0 := by
    have := Rat.num_nonneg (q := y)
    have h1 : ¬ 0 ≤ y.num := fun h => absurd (this.mp h) (by rw [Rat.not_le]; exact y0)
    omega
  have pd : (x.den : Int) * y.num < 0 := Int.mul_neg_of_pos_of_neg (by have := x.den_pos; omega) yn
  simp only [m_over, qD, bind_run, pure_run, ixD_tup, atI_0, atI_1, opt_some, mulD_int, addD_int, sx, sy, and_self, true_and]
  refine r_fraction_neg pd (by rw [Int.mul_neg] at hb; omega) _ ?_
  have e : Rat.divInt (x.num * y.den) (x.den * y.num) = x / y := by
    rw [← Rat.divInt_mul_divInt, Rat.num_divInt_den, Rat.div_def, Rat.inv_def]
  rw [e]
  exact hP
theorem r_is_less {x y : Rat} (hx : Bq big x) (hy : Bq big y) : Ret (m_is_less (qD x) (qD y)) (.bool (decide (x < y))) := by
  intro P hP
  have sx := hx.small1
  have sy := hy.small1
  simp only [m_is_less, qD, bind_run, pure_run, ixD_tup, atI_0, atI_1, opt_some, mulD_int, ltD_int, sx, sy, and_self, true_and]
  rw [decide_eq_decide.mpr (Rat.lt_iff x y)] at hP
  exact hP
theorem qD_int (i : Int) : qD (i : Rat) = .tuple [.int i, .int 1] := rfl
theorem qD_zero : qD 0 = .tuple [.int 0, .int 1] := rfl
theorem sh_qD (r : Rat) (n : Nat) : sh (n + 1) (qD r) = true := by simp [qD, sh, shA]
theorem eqv_qD (r s : Rat) : PyData.eqv (qD r) (qD s) = decide (r = s) := by
  simp only [qD, PyData.eqv, PyData.eqvAll, Bool.and_true]
  by_cases h : r = s
  · subst h; simp
  · have : ¬ (r.num = s.num ∧ r.den = s.den) := fun ⟨a, b⟩ => h (Rat.ext a b)
    rw [decide_eq_false h]
    by_cases h1 : r.num = s.num
    · have h2 : ¬ r.den = s.den := fun e => this ⟨h1, e⟩
      have h3 : ¬ ((r.den : Int) = s.den) := by omega
      simp [h3]
    · simp [h1]
theorem _root_.List.sum_append_rat (xs : List Rat) (x : Rat) : (xs ++ [x]).sum = xs.sum + x := by
  induction xs with
  | nil => simp [List.sum_cons, Rat.add_comm]
  | cons y ys ih => simp only [List.cons_append, List.sum_cons, ih, Rat.add_assoc]
/-- a sum from the left -/
theorem r_sum_of {xs : List Rat} (hb : ∀ (i : Nat), i ≤ xs.length → Bq big (xs.take i).sum) (hx : ∀ x ∈ xs, Bq big x) : Ret (m_sum_of (.list (xs.map qD))) (qD xs.sum) := by
  intro P hP
  simp only [m_sum_of, bind_run, pure_run, asS_list]
  refine fold_run (fun i s => s = qD (xs.take i).sum) _ (by rw [List.take_zero, List.sum_nil, qD_zero]) (fun i hi s hs Q hQ => ?_) fun s hs => ?_
  · subst hs
    have hi' : i < xs.length := by simpa using hi
    have e : (xs.map qD)[i] = qD xs[i] := by simp
    rw [e]
    simp only [bind_run, pure_run]
    refine r_plus (hb i (by omega)) (hx _ (List.getElem_mem hi')) _ (hQ _ ?_)
    rw [List.take_succ_eq_append_getElem hi', List.sum_append_rat]
  · subst hs
    simpa using hP
/-- the law's own fractions -/
theorem r_part {a b : Int} (hb : 0 < b) (sb : small b) : Ret (m__law_part (.int a) (.int b)) (qD (Rat.divInt a b)) := by
  intro P hP
  simp only [m__law_part, bind_run, pure_run, absD_int, natAbs_if]
  refine while_run (fun s => ∃ x y : Nat, s = (.int x, .int y) ∧ x.gcd y = a.natAbs.gcd b.natAbs) (fun s => match s.2 with | .int y => y.toNat | _ => 0) (fun s hI Q hQ => ?_) ⟨a.natAbs, b.natAbs, by simp; omega, rfl⟩
  obtain ⟨x, y, rfl, hg⟩ := hI
  simp only [bind_run, pure_run, neD_int, asB_bool, modD_int, intD_int]
  constructor
  · intro hy
    have hy' : (y : Int) ≠ 0 := by simpa using hy
    have hy2 : 0 < y := by omega
    refine ⟨hy', hQ _ ⟨y, x % y, ?_, ?_⟩ ?_⟩
    · rw [Int.fmod_eq_emod_of_nonneg _ (by omega)]; rfl
    · rw [← hg, Nat.gcd_comm y, ← Nat.gcd_rec, Nat.gcd_comm]
    · show ((x : Int).fmod (y : Int)).toNat < y
      rw [Int.fmod_eq_emod_of_nonneg _ (by omega)]
      have := Nat.mod_lt x hy2
      omega
  · intro hy
    have hy' : (y : Int) = 0 := by simpa using hy
    have hy2 : y = 0 := by omega
    subst hy2
    rw [Nat.gcd_zero_right] at hg
    subst hg
    have hgp := Nat.gcd_pos_of_pos_right a.natAbs (n := b.natAbs) (by omega)
    have hle : a.natAbs.gcd b.natAbs ≤ b.natAbs := Nat.gcd_le_right _ (by omega)
    have hs : small (a.natAbs.gcd b.natAbs : Nat) := by unfold small at sb ⊢; omega
    have hne : ¬ ((a.natAbs.gcd b.natAbs : Nat) : Int) = 0 := by omega
    simp only [cond_run, hne, decide_false, Bool.not_false, true_implies, reduceCtorEq, Bool.true_eq_false, false_implies, and_true, bind_run, pure_run, fdivD_int]
    refine ⟨.inl ⟨by omega, hs⟩, .inl ⟨by omega, hs⟩, ?_⟩
    have e : qD (Rat.divInt a b) = .tuple [.int (a.fdiv (a.natAbs.gcd b.natAbs : Nat)), .int (b.fdiv (a.natAbs.gcd b.natAbs : Nat))] := by
      unfold qD
      have d1 : ((a.natAbs.gcd b.natAbs : Nat) : Int) ∣ a := Int.gcd_dvd_left a b
      have d2 : ((a.natAbs.gcd b.natAbs : Nat) : Int) ∣ b := Int.gcd_dvd_right a b
      rw [exact_fdiv d1, exact_fdiv d2, Rat.num_divInt, Rat.den_divInt, if_neg (by omega), Int.sign_eq_one_of_pos hb, Int.one_mul]
      have c1 : b.gcd a = a.natAbs.gcd b.natAbs := by rw [Int.gcd_comm]; rfl
      rw [c1]
      congr 3
      have : (b.natAbs : Int) = b := by omega
      rw [Int.natCast_ediv, this]
    rw [e] at hP
    exact hP
end Wp
namespace Wp
open PySem PySem.Spec PyProof.Rows L2

/-! ### dicts by texts -/
/-- a dict whose keys are texts -/
def dS (es : List (Str × D)) : D := .dict (es.map fun p => (.str p.1, p.2))
theorem marked_dS (es : List (Str × D)) : marked (es.map fun p => ((.str p.1 : D), p.2)) = false := by cases es <;> rfl
@[simp] theorem keysD_dS {es : List (Str × D)} {P} : keysD (dS es) P = P (es.map fun p => .str p.1) := by
  show (marked _ = false ∧ P ((es.map fun p => ((.str p.1 : D), p.2)).map (·.1))) = _
  rw [List.map_map]
  exact propext ⟨fun h => h.2, fun h => ⟨marked_dS es, h⟩⟩
theorem lookD_dS (es : List (Str × D)) (k : Str) : lookD (es.map fun p => ((.str p.1 : D), p.2)) (.str k) = es.lookup k := by
  unfold lookD
  induction es with
  | nil => rfl
  | cons p es ih =>
    rw [List.map_cons, List.find?_cons, List.lookup_cons]
    have e : PyData.eqv (.str p.1) (.str k) = (p.1 == k) := by simp [PyData.eqv]
    rw [e]
    by_cases h : p.1 = k
    · subst h; simp
    · have h1 : (p.1 == k) = false := by simpa using h
      have h2 : (k == p.1) = false := by simpa using fun e => h e.symm
      rw [h1, h2]
      exact ih
@[simp] theorem ixD_dS {es : List (Str × D)} {k : Str} {P} : ixD (dS es) (.str k) P = M.opt (es.lookup k) P := by
  show (kD (.str k) = true ∧ M.opt (lookD _ _) P) = _
  rw [lookD_dS]
  exact propext ⟨fun h => h.2, fun h => ⟨rfl, h⟩⟩
@[simp] theorem get2D_dS {es : List (Str × D)} {k : Str} {x : D} {P} : get2D (dS es) (.str k) x P = P ((es.lookup k).getD x) := by
  show ((kD (.str k) = true ∧ marked _ = false) ∧ P ((lookD _ _).getD x)) = _
  rw [lookD_dS]
  exact propext ⟨fun h => h.2, fun h => ⟨⟨rfl, marked_dS es⟩, h⟩⟩
@[simp] theorem isDi_dS {es : List (Str × D)} : isDi (dS es) = true := rfl
@[simp] theorem plain_dS {es : List (Str × D)} : plainD (dS es) = true := by
  show (!marked _) = true
  rw [marked_dS]; rfl
@[simp] theorem inD_dS {es : List (Str × D)} {k : Str} {P} : inD (.str k) (dS es) P = P (.bool (es.lookup k).isSome) := by
  show ((kD (.str k) && !marked _) = true ∧ P (.bool (lookD _ _).isSome)) = _
  rw [lookD_dS, marked_dS]
  exact propext ⟨fun h => h.2, fun h => ⟨rfl, h⟩⟩
theorem putD_dS {es : List (Str × D)} {k : Str} {v : D} (h : k ∉ es.map (·.1)) : putD (es.map fun p => ((.str p.1 : D), p.2)) (.str k) v = (es ++ [(k, v)]).map fun p => ((.str p.1 : D), p.2) := by
  unfold putD
  have : (es.map fun p => ((.str p.1 : D), p.2)).any (fun p => PyData.eqv p.1 (.str k)) = false := by
    rw [List.any_eq_false]
    intro p hp
    rw [List.mem_map] at hp
    obtain ⟨q, hq, rfl⟩ := hp
    have : q.1 ≠ k := fun e => h (List.mem_map.mpr ⟨q, hq, e⟩)
    simpa [PyData.eqv] using this
  rw [this, if_neg Bool.false_ne_true, List.map_append]
  rfl
theorem dputD_dS {es : List (Str × D)} {k : Str} {v : D} {P : D → Prop} (h : k ∉ es.map (·.1)) (hl : es.length < 16777216) (hP : P (dS (es ++ [(k, v)]))) : dputD (dS es) (.str k) v P := by
  refine ⟨⟨rfl, marked_dS es, by simpa using hl⟩, ?_⟩
  rw [putD_dS h]
  exact hP
theorem lookup_mem {es : List (Str × D)} (nd : (es.map (·.1)).Nodup) {p : Str × D} (h : p ∈ es) : es.lookup p.1 = some p.2 := by
  induction es with
  | nil => cases h
  | cons q es ih =>
    rw [List.map_cons, List.nodup_cons] at nd
    rw [List.lookup_cons]
    rcases List.mem_cons.mp h with rfl | h
    · simp
    · have : p.1 ≠ q.1 := fun e => nd.1 (e ▸ List.mem_map.mpr ⟨p, h, rfl⟩)
      have h1 : (p.1 == q.1) = false := by simpa using this
      rw [h1]
      exact ih nd.2 h
theorem lookup_none {es : List (Str × D)} {k : Str} (h : k ∉ es.map (·.1)) : es.lookup k = none := by
  induction es with
  | nil => rfl
  | cons q es ih =>
    rw [List.map_cons, List.mem_cons, not_or] at h
    rw [List.lookup_cons]
    have h1 : (k == q.1) = false := by simpa using h.1
    rw [h1]
    exact ih h.2
/-- some of the rows, by their names -/
theorem lookup_fm {ρ : Type} {rows : List (Str × ρ)} {f : ρ → Option D} (nd : (rows.map (·.1)).Nodup) {p : Str × ρ} (h : p ∈ rows) : (rows.filterMap fun q => (f q.2).map fun d => (q.1, d)).lookup p.1 = f p.2 := by
  induction rows with
  | nil => cases h
  | cons q rows ih =>
    rw [List.map_cons, List.nodup_cons] at nd
    rcases List.mem_cons.mp h with rfl | h
    · rw [List.filterMap_cons]
      cases e : f p.2 with
      | some d => simp
      | none =>
        simp only [Option.map_none]
        refine lookup_none fun hm => nd.1 ?_
        rw [List.mem_map] at hm ⊢
        obtain ⟨z, hz, e2⟩ := hm
        rw [List.mem_filterMap] at hz
        obtain ⟨y, hy, e3⟩ := hz
        obtain ⟨d, _, rfl⟩ := Option.map_eq_some_iff.mp e3
        exact ⟨y, hy, e2⟩
    · have : p.1 ≠ q.1 := fun e => nd.1 (e ▸ List.mem_map.mpr ⟨p, h, rfl⟩)
      rw [List.filterMap_cons]
      cases e : f q.2 with
      | none => exact ih nd.2 h
      | some d =>
        simp only [Option.map_some]
        rw [List.lookup_cons]
        have h1 : (p.1 == q.1) = false := by simpa using this
        rw [h1]
        exact ih nd.2 h
theorem fm_nodup {ρ : Type} {rows : List (Str × ρ)} {f : ρ → Option D} (nd : (rows.map (·.1)).Nodup) : ((rows.filterMap fun q => (f q.2).map fun d => (q.1, d)).map (·.1)).Nodup := by
  have : ((rows.filterMap fun q => (f q.2).map fun d => (q.1, d)).map (·.1)).Sublist (rows.map (·.1)) := by
    clear nd
    induction rows with
    | nil => exact .slnil
    | cons q rows ih =>
      rw [List.filterMap_cons]
      cases f q.2 with
      | none => exact .cons _ ih
      | some d => exact .cons₂ _ ih
  exact this.nodup nd
/-! ### eqv, shapes -/
theorem neD_self {d : D} {P : D → Prop} (h : sh 16 d = true) (hP : P (.bool false)) : neD d d P := by
  refine ⟨by rw [h]; rfl, ?_⟩
  rw [SeqAt.eqv_refl d (sh_lay d 16 h).1]
  exact hP
theorem eqD_self {d : D} {P : D → Prop} (h : sh 16 d = true) (hP : P (.bool true)) : eqD d d P := by
  refine ⟨by rw [h]; rfl, ?_⟩
  rw [SeqAt.eqv_refl d (sh_lay d 16 h).1]
  exact hP
theorem eqD_run {x y : D} {P : D → Prop} (hx : sh 16 x = true) (hy : sh 16 y = true) (hP : P (.bool (PyData.eqv x y))) : eqD x y P := ⟨by rw [hx, hy]; rfl, hP⟩
theorem neD_run {x y : D} {P : D → Prop} (hx : sh 16 x = true) (hy : sh 16 y = true) (hP : P (.bool (!PyData.eqv x y))) : neD x y P := ⟨by rw [hx, hy]; rfl, hP⟩
@[simp] theorem sh_int {n : Nat} {i : Int} : sh n (.int i) = true := by cases n <;> simp [sh]
@[simp] theorem sh_bool {n : Nat} {i : Bool} : sh n (.bool i) = true := by cases n <;> simp [sh]
@[simp] theorem sh_none {n : Nat} : sh n .none = true := by cases n <;> simp [sh]
@[simp] theorem sh_list {n : Nat} {xs : List D} : sh (n + 1) (.list xs) = shA n xs := by simp [sh]
@[simp] theorem sh_tup {n : Nat} {xs : List D} : sh (n + 1) (.tuple xs) = shA n xs := by simp [sh]
@[simp] theorem shA_nil {n : Nat} : shA n [] = true := by simp [shA]
@[simp] theorem shA_cons {n : Nat} {x : D} {xs : List D} : shA n (x :: xs) = (sh n x && shA n xs) := by simp [shA]
theorem shA_all {n : Nat} {xs : List D} : shA n xs = xs.all (sh n) := by
  induction xs with
  | nil => simp
  | cons x xs ih => simp [ih]
theorem shA_map {α : Type} {n : Nat} {f : α → D} {xs : List α} (h : ∀ x ∈ xs, sh n (f x) = true) : shA n (xs.map f) = true := by
  rw [shA_all, List.all_eq_true]
  intro y hy
  obtain ⟨x, hx, rfl⟩ := List.mem_map.mp hy
  exact h x hx
@[simp] theorem isD_none {P} : isD .none .none P = P (.bool true) := propext Iff.rfl
@[simp] theorem isD_tup_none {xs : List D} {P} : isD (.tuple xs) .none P = P (.bool false) := propext Iff.rfl
@[simp] theorem isD_list_none {xs : List D} {P} : isD (.list xs) .none P = P (.bool false) := propext Iff.rfl
@[simp] theorem isD_int_none {i : Int} {P} : isD (.int i) .none P = P (.bool false) := propext Iff.rfl
@[simp] theorem isD_bool {a b : Bool} {P} : isD (.bool a) (.bool b) P = P (.bool (decide (a = b))) := propext Iff.rfl
@[simp] theorem isnD_none {P} : isnD .none .none P = P (.bool false) := propext Iff.rfl
@[simp] theorem isnD_tup_none {xs : List D} {P} : isnD (.tuple xs) .none P = P (.bool true) := propext Iff.rfl
@[simp] theorem isnD_list_none {xs : List D} {P} : isnD (.list xs) .none P = P (.bool true) := propext Iff.rfl
@[simp] theorem isnD_int_none {i : Int} {P} : isnD (.int i) .none P = P (.bool true) := propext Iff.rfl
@[simp] theorem isnD_bool {a b : Bool} {P} : isnD (.bool a) (.bool b) P = P (.bool (!decide (a = b))) := propext Iff.rfl
theorem sumD_ints {ns : List Int} {P : D → Prop} (h : P (.int ns.sum)) : sumD (.list (ns.map .int)) P := ⟨ns, asInts_map ns, h⟩
theorem draw_run {n : Int} {P : D → Prop} (hn : 0 < n) (h : ∀ r : Int, 0 ≤ r → r < n → P (.int r)) : m__law_next (.int n) P := ⟨hn, h⟩
theorem sortedD_run {ds : List D} {P : D → Prop} (h : sortable ds = true) (hP : P (.list (sortL ds))) : sortedD (.list ds) P := ⟨h, hP⟩
theorem sortedD_dS {es : List (Str × D)} {P : D → Prop} (h : sortable (es.map fun p => (.str p.1 : D)) = true) (hP : P (.list (sortL (es.map fun p => .str p.1)))) : sortedD (dS es) P := by
  refine ⟨⟨marked_dS es, ?_⟩, ?_⟩
  · rw [List.map_map]; exact h
  · rw [List.map_map]; exact hP
theorem sortL_mem {ds : List D} {d : D} : d ∈ sortL ds ↔ d ∈ ds := by unfold sortL; rw [List.mem_mergeSort]
theorem sortL_perm (ds : List D) : (sortL ds).Perm ds := List.mergeSort_perm _ _
open PySem.W in
theorem sortable_strs {ks : List Str} (h : ∀ k ∈ ks, PyData.strOk k = true) : sortable (ks.map fun k => (.str k : D)) = true := by
  unfold sortable
  rw [Bool.and_eq_true, Bool.and_eq_true]
  refine ⟨⟨?_, ?_⟩, ?_⟩
  · simp [List.all_eq_true, alike]
  · rw [shA_map]
    intro k hk
    simpa [sh] using h k hk
  · simp [List.all_eq_true]
@[simp] theorem isD_q {r : Rat} {P} : isD (qD r) .none P = P (.bool false) := propext Iff.rfl
@[simp] theorem isnD_q {r : Rat} {P} : isnD (qD r) .none P = P (.bool true) := propext Iff.rfl
@[simp] theorem ixD_q0 {r : Rat} {P} : ixD (qD r) (.int 0) P = P (.int r.num) := by unfold qD; simp
@[simp] theorem ixD_q1 {r : Rat} {P} : ixD (qD r) (.int 1) P = P (.int r.den) := by unfold qD; simp
theorem sh16_q (r : Rat) : sh 16 (qD r) = true := sh_qD r 15
@[simp] theorem eqD_q {r s : Rat} {P} : eqD (qD r) (qD s) P = P (.bool (decide (r = s))) := by
  rw [← eqv_qD]
  exact propext ⟨fun h => h.2, fun h => ⟨by rw [sh16_q, sh16_q]; rfl, h⟩⟩
@[simp] theorem neD_q {r s : Rat} {P} : neD (qD r) (qD s) P = P (.bool (!decide (r = s))) := by
  rw [← eqv_qD]
  exact propext ⟨fun h => h.2, fun h => ⟨by rw [sh16_q, sh16_q]; rfl, h⟩⟩
theorem eqD_str {a b : Str} {P : D → Prop} (ha : PyData.strOk a = true) (hb : PyData.strOk b = true) (hP : P (.bool (a == b))) : eqD (.str a) (.str b) P :=
  ⟨by simp [sh, ha, hb], by simpa [PyData.eqv] using hP⟩
theorem neD_str {a b : Str} {P : D → Prop} (ha : PyData.strOk a = true) (hb : PyData.strOk b = true) (hP : P (.bool (!(a == b)))) : neD (.str a) (.str b) P :=
  ⟨by simp [sh, ha, hb], by simpa [PyData.eqv] using hP⟩
theorem bq_inv {n : Int} {r : Rat} (h : Bq n r) (h0 : 0 < r) : Bq n r⁻¹ := by
  have p := r.den_pos
  have h1 : 0 ≤ r.num := Rat.num_nonneg.mpr (Rat.le_of_lt h0)
  have h2 : r.num ≠ 0 := fun e => by rw [Rat.num_eq_zero] at e; subst e; exact absurd h0 (by decide)
  have b1 := h.1; have b2 := h.2.1; have b3 := h.2.2
  refine ⟨?_, ?_, ?_⟩
  · rw [Rat.num_inv, Int.sign_eq_one_of_pos (by omega)]; omega
  · rw [Rat.num_inv, Int.sign_eq_one_of_pos (by omega)]; omega
  · rw [Rat.den_inv, if_neg h2]; omega
theorem bq_div {n m : Int} {r s : Rat} (hr : Bq n r) (hs : Bq m s) (h0 : 0 < s) : Bq (n * m) (r / s) := by
  rw [Rat.div_def]
  exact bq_mul hr (bq_inv hs h0)
theorem bq_sub {n m : Int} {r s : Rat} (hr : Bq n r) (hs : Bq m s) : Bq (2 * (n * m)) (r - s) := by
  rw [Rat.sub_eq_add_neg]
  exact bq_add hr (bq_neg hs)
theorem rat_pos {y : Rat} (h : 0 ≤ y) (h0 : y ≠ 0) : 0 < y := Rat.lt_of_le_of_ne h (Ne.symm h0)
theorem div_nonneg' {x y : Rat} (hx : 0 ≤ x) (hy : 0 < y) : 0 ≤ x / y := by
  rw [Rat.div_def]
  exact Rat.mul_nonneg hx (Rat.le_of_lt (Rat.inv_pos.mpr hy))
theorem cond_t {α : Type} {m n : M α} {P : α → Prop} : (cond true m n) P = m P := propext Iff.rfl
theorem cond_f {α : Type} {m n : M α} {P : α → Prop} : (cond false m n) P = n P := propext Iff.rfl
end Wp
namespace Wp
open PySem PySem.Spec PyProof.Rows L2

/-! ### zip -/
def zipD (xs ys : List D) : List D := (xs.zip ys).map fun p => .tuple [p.1, p.2]
theorem zipD_len (xs ys : List D) : (zipD xs ys).length = min xs.length ys.length := by simp [zipD]
theorem zipD_get {xs ys : List D} {i : Nat} (h : i < (zipD xs ys).length) : ∃ (h1 : i < xs.length) (h2 : i < ys.length), (zipD xs ys)[i] = .tuple [xs[i], ys[i]] := by
  have hl := zipD_len xs ys
  exact ⟨by omega, by omega, by simp [zipD]⟩
def zipI : D → D → M (List D)
  | .list xs, .list ys => M.pure (zipD xs ys)
  | .tuple xs, .tuple ys => M.pure (zipD xs ys)
  | _, _ => M.fail
section
variable {S : Sg} {Γ : En} {ow : Bool} {a b : Expr} {ma mb : M D} {p pos tpos : Pos} {elts : List Expr} {kk : Nat}
theorem zip_yld {ω : Option Addr} {K : PySem.W.Frag} {Gc Hc H' : Hp} {T : Addr} {x y : V} {dx dy : D} (h2 : Ext ω K Gc Hc Gc Hc) (nT : Hc T = none) (e : H' = upd Hc T (.tup [x, y])) (rx : Rp K Gc x dx) (ry : Rp K Gc y dy) : ∃ G', Ext ω K Gc Hc G' H' ∧ Rp K G' (.ref T) (.tuple [dx, dy]) := by
  subst e
  have e2 := h2.new (o := .tup [x, y]) nT
  exact ⟨_, e2, .tup (.inl (.inl upd_same)) (.cons (rx.ext e2) (.cons (ry.ext e2) .nil)) (by rw [sizeLine_eq]; show 2 ≤ 16777216; decide)⟩
theorem wi_zip (hb : BltAt S "zip" (.type "zip")) (ha : WE S Γ a ma) (hb2 : WE S Γ b mb) (hs : ∀ env, starEach [a, b] env = (false, eval a env) :: starEach [b] env := by intro _; rfl) (hs2 : ∀ env, starEach [b] env = (false, eval b env) :: starEach [] env := by intro _; rfl) :
    WI S Γ ow (.Tuple elts kk tpos) (.Call (.Name "zip" p) [a, b] [] pos) (ma.bind fun x => mb.bind fun y => zipI x y) := by
  intro ω G0 H0 σ G H P R E hm q
  refine ⟨_, fun X hX => hX.K ▸ RZ.pi_zipA (gl_of hX hb.g) (by rw [hX.mg]; exact hb.m) (pa_cons (RE.pe hX a) (pa_cons (RE.pe hX b) pa_nil (hs2 _)) (hs _)) (hs _) (by rw [hs2]; rfl), ?_⟩
  show RE S a σ H fun v H1 => RE S b σ H1 fun u H2 => _
  refine ha ω G0 H0 σ G H _ _ E hm fun x v G1 H1 hx e1 r1 => ?_
  refine hb2 ω G0 H0 σ G1 H1 _ _ (E.step e1) hx fun y u G2 H2 hy e2 r2 => ?_
  have r1' := r1.ext e2
  cases x with
  | list xs => cases y with
    | list ys =>
      cases r1' with
      | lst s1 a1 z1 => cases r2 with
        | lst s2 a2 z2 =>
          refine ⟨_, _, _, _, rfl, .inl ⟨.inl (e2.le _ _ s1), .inl (e2.le _ _ s2), q _ _ G2 H2 hy (e1.trans e2) ⟨by rw [zipD_len]; omega, fun i Gc Hc h1 h2 _ hi => ?_, fun Gc Hc h1 h2 _ => ?_, fun i Gc Hc w H' hi h1 h2 _ y => ?_⟩⟩⟩
          · obtain ⟨g1, g2, _⟩ := zipD_get hi
            obtain ⟨v1, k1, _⟩ := a1.getD (List.getElem?_eq_getElem g1)
            obtain ⟨v2, k2, _⟩ := a2.getD (List.getElem?_eq_getElem g2)
            exact ⟨_, _, v1, v2, sq_frz (.inl s1) h1 h2, sq_frz (.inl s2) h1 h2, k1, k2⟩
          · refine ⟨_, _, sq_frz (.inl s1) h1 h2, sq_frz (.inl s2) h1 h2, ?_⟩
            rw [a1.length, a2.length, zipD_len]; omega
          · obtain ⟨T, x1, x2, rfl, nT, e, f1, f2⟩ := y
            obtain ⟨g1, g2, eq⟩ := zipD_get hi
            rw [eq]
            obtain ⟨d1, k1, t1⟩ := a1.get (f1 _ (sq_frz (.inl s1) h1 h2))
            obtain ⟨d2, k2, t2⟩ := a2.get (f2 _ (sq_frz (.inl s2) h1 h2))
            rw [List.getElem?_eq_getElem g1] at k1
            rw [List.getElem?_eq_getElem g2] at k2
            cases k1; cases k2
            exact zip_yld h2 nT e (Rp.le h1 _ t1) (Rp.le h1 _ t2)
    | _ => exact False.elim hy
  | tuple xs => cases y with
    | tuple ys =>
      cases r1' with
      | tup s1 a1 z1 => cases r2 with
        | tup s2 a2 z2 =>
          refine ⟨_, _, _, _, rfl, .inr ⟨e2.le.sqT s1, e2.le.sqT s2, q _ _ G2 H2 hy (e1.trans e2) ⟨by rw [zipD_len]; omega, fun i Gc Hc h1 h2 _ hi => ?_, fun Gc Hc h1 h2 _ => ?_, fun i Gc Hc w H' hi h1 h2 _ y => ?_⟩⟩⟩
          · obtain ⟨g1, g2, _⟩ := zipD_get hi
            obtain ⟨v1, k1, _⟩ := a1.getD (List.getElem?_eq_getElem g1)
            obtain ⟨v2, k2, _⟩ := a2.getD (List.getElem?_eq_getElem g2)
            exact ⟨_, _, v1, v2, sqt_frz s1 h1 h2, sqt_frz s2 h1 h2, k1, k2⟩
          · refine ⟨_, _, sqt_frz s1 h1 h2, sqt_frz s2 h1 h2, ?_⟩
            rw [a1.length, a2.length, zipD_len]; omega
          · obtain ⟨T, x1, x2, rfl, nT, e, f1, f2⟩ := y
            obtain ⟨g1, g2, eq⟩ := zipD_get hi
            rw [eq]
            obtain ⟨d1, k1, t1⟩ := a1.get (f1 _ (sqt_frz s1 h1 h2))
            obtain ⟨d2, k2, t2⟩ := a2.get (f2 _ (sqt_frz s2 h1 h2))
            rw [List.getElem?_eq_getElem g1] at k1
            rw [List.getElem?_eq_getElem g2] at k2
            cases k1; cases k2
            exact zip_yld h2 nT e (Rp.le h1 _ t1) (Rp.le h1 _ t2)
    | _ => exact False.elim hy
  | _ => exact False.elim hy
end
end Wp
namespace Wp
open PySem PySem.Spec PyProof.Rows L2

/-! ### all but one object stand still -/
structure ExtD (ω : Option Addr) (Dd : Addr) (G H G' H' : Hp) : Prop where
  gg : Same G G'
  hh : ∀ a u, a ≠ Dd → some a ≠ ω → H a = some u → H' a = some u
  fr : ∀ a u, a ≠ Dd → H a = some u → G a = none → G' a = none
section
variable {ω : Option Addr} {K : PySem.W.Frag} {G0 H0 G H G' H' G2 H2 : Hp} {Γ : En} {σ : L2.St} {Dd : Addr}
theorem ExtD.refl : ExtD ω Dd G H G H := ⟨Same.refl _, fun _ _ _ _ h => h, fun _ _ _ _ h => h⟩
theorem ExtD.ext (x : ExtD ω Dd G H G' H') (e : Ext ω K G' H' G2 H2) : ExtD ω Dd G H G2 H2 where
  gg := x.gg.trans e.gg
  hh := fun a u n m h => e.hh a u m (x.hh a u n m h)
  fr := fun a u n h g => by
    by_cases z : some a = ω
    · obtain ⟨g, _⟩ := e.dr a z.symm
      exact g
    · exact e.fr a u (x.hh a u n z h) (x.fr a u n h g)
theorem ExtD.poke {o : HO} (x : ExtD ω Dd G H G' H') : ExtD ω Dd G H G' (upd H' Dd o) := ⟨x.gg, fun a u n m h => by rw [upd_ne n]; exact x.hh a u n m h, x.fr⟩
def NoD (Γ : En) (σ : L2.St) (Dd : Addr) : Prop := ∀ (i : Nat) d v, Γ[i]? = some (some (.own d)) → σ[i]? = some (some v) → v ≠ .ref Dd
theorem EnvOk.noD (E : EnvOk ω K G0 H0 Γ σ G H) (h : H Dd = none) : NoD Γ σ Dd := fun i d v h1 h2 e => by
  obtain ⟨v', g1, o, u, rfl, g2, g3, _⟩ := E.sl i _ h1
  rw [h2] at g1; cases g1; cases e
  rw [h] at g3; cases g3
theorem EnvOk.noD0 {w : HO} (E : EnvOk ω K G0 (upd H0 Dd w) Γ σ G H) : NoD Γ σ Dd := fun i d v h1 h2 e => by
  obtain ⟨v', g1, o, u, rfl, g2, g3, g4, g5, _⟩ := E.sl i _ h1
  rw [h2] at g1; cases g1; cases e
  rw [upd_same] at g5; cases g5
theorem EnvOk.pin {w : HO} (E : EnvOk ω K G0 H0 Γ σ G H) (n : NoD Γ σ Dd) (h : H Dd = some w) (g : G Dd = none) : EnvOk ω K G0 (upd H0 Dd w) Γ σ G H where
  ext := {
    gg := E.ext.gg
    hh := fun a u m e => by
      by_cases z : a = Dd
      · subst z; rw [upd_same] at e; cases e; exact h
      · rw [upd_ne z] at e; exact E.ext.hh a u m e
    le := E.ext.le
    fr := fun a u e g' => by
      by_cases z : a = Dd
      · subst z; exact g
      · rw [upd_ne z] at e; exact E.ext.fr a u e g'
    dr := E.ext.dr }
  ln := E.ln
  sl := fun i c hc => by
    obtain ⟨v, h1, h2⟩ := E.sl i c hc
    refine ⟨v, h1, ?_⟩
    cases c with
    | own d =>
      obtain ⟨o, u, rfl, g2, g3, g4, g5, g6⟩ := h2
      exact ⟨o, u, rfl, g2, g3, g4, by rw [upd_ne (fun z => n i d _ hc h1 (by rw [z]))]; exact g5, g6⟩
    | _ => exact h2
  ds := E.ds
/-- unpinned, and carried on -/
theorem EnvOk.moveD {w : HO} (E : EnvOk ω K G0 (upd H0 Dd w) Γ σ G H) (x : ExtD ω Dd G H G' H') (e : Ext ω K G0 H0 G' H') (h0 : H0 Dd = none) : EnvOk ω K G0 H0 Γ σ G' H' where
  ext := e
  ln := E.ln
  sl := fun i c hc => by
    obtain ⟨v, h1, h2⟩ := E.sl i c hc
    refine ⟨v, h1, ?_⟩
    have n := E.noD0
    cases c with
    | val d => exact Rp.le x.gg d h2
    | own d =>
      obtain ⟨o, u, rfl, g2, g3, g4, g5, g6⟩ := h2
      have ho : o ≠ Dd := fun z => n i d _ hc h1 (by rw [z])
      exact ⟨o, u, rfl, g2, x.hh o u ho g2 g3, x.fr o u ho g3 g4, by rw [upd_ne ho] at g5; exact g5, g6.le x.gg⟩
    | drw => exact h2
    | scr ns => obtain ⟨a, k1, k2⟩ := h2; exact ⟨a, k1, (Le.of_same x.gg).sqL k2⟩
  ds := E.ds
end

/-! ### comprehensions of two for -/
section
variable {S : Sg} {Γ : En} {elt tg iter tg1 iter1 : Expr} {ifs ifs1 : List Expr} {ms : M (List D)} {pos : Pos} {scope : Scope} {own : List (Str × Nat)} {α β : Type} {dec : D → M α} {g : α → En → En} {ts : List Nat} {tc : α → M Bool}
  {dec1 : D → M β} {g1 : β → En → En} {ts1 vs1 : List Nat} {tc1 : α → β → M Bool} {ms1 : α → M (List D)} {f : α → β → M D}
/-- a turn of the outer loop: what is gathered, and one item more -/
abbrev turn2 {α β : Type} (dec : D → M α) (tc : α → M Bool) (ms1 : α → M (List D)) (dec1 : D → M β) (tc1 : α → β → M Bool) (f : α → β → M D) : List D → D → M (List D) := fun acc x => (dec x).bind fun a => (tc a).bind fun b => bif b then (ms1 a).bind fun ys => M.need (acc.length + ys.length ≤ 16777216) ((M.filM (turnM dec1 (tc1 a) (f a)) ys).bind fun zs => M.pure (acc ++ zs)) else M.pure acc
theorem lc2_go {wi : TI} (hg : WG (S.blk scope) tg dec g ts) (hts : ∀ i ∈ ts, i ∈ own.map (·.2)) (ht : ∀ a, WTs (S.blk scope) (g a (wipeE Γ (own.map (·.2)))) ifs (tc a))
    (hi1 : ∀ a, WI (S.blk scope) (g a (wipeE Γ (own.map (·.2)))) false tg1 iter1 (ms1 a)) (hg1 : WG (S.blk scope) tg1 dec1 g1 ts1) (hts1 : ∀ i ∈ ts1, i ∈ vs1)
    (ht1 : ∀ a b, WTs (S.blk scope) (g1 b (wipeE (g a (wipeE Γ (own.map (·.2)))) vs1)) ifs1 (tc1 a b)) (he : ∀ a b, WE (S.blk scope) (g1 b (wipeE (g a (wipeE Γ (own.map (·.2)))) vs1)) elt (f a b))
    {ω : Option Addr} {G0 H0 : Hp} {σ : L2.St} {G HB : Hp} {P : D → Prop} {Q : VK} (E : EnvOk ω S.K G0 H0 Γ σ G HB)
    (hi : ∀ (P' : List D → Prop) (R : It → Hp → Prop), ms P' → (∀ ds J G' H', P' ds → Ext ω S.K G HB G' H' → ItOk ω S.K (aOf ω true) J ds G' H' → R J H') → wi σ HB R) (hm : (ms.bind fun xs => (M.fold (turn2 dec tc ms1 dec1 tc1 f) [] xs).bind fun ys => M.pure (.list ys)) P)
    (q : ∀ d v G' H', P d → Ext ω S.K G HB G' H' → Rp S.K G' v d → Q v H') :
    tLc2 wi (RG (S.blk scope) tg) (RTs (S.blk scope) ifs) (RI (S.blk scope) tg1 iter1) (RG (S.blk scope) tg1) (RTs (S.blk scope) ifs1) (RE (S.blk scope) elt) (own.map (·.2)) vs1 σ HB Q := by
  generalize hvs : own.map (·.2) = vs at *
  unfold tLc2
  refine hi _ _ hm fun ds J G1 H1 hP e1 it => ?_
  intro Dd nD
  have hω : some Dd ≠ ω := fun z => by
    obtain ⟨_, _, _, _, h, _⟩ := e1.dr Dd z.symm
    rw [nD] at h; cases h
  refine ⟨fun i m H => m = ds.length - i ∧ i ≤ ds.length ∧ ∃ Gc acc ads, Ext ω S.K G1 H1 Gc H ∧ H Dd = some (.lst acc) ∧ Gc Dd = none ∧ RpA S.K Gc acc ads ∧ ads.length ≤ 16777216 ∧ M.fold (turn2 dec tc ms1 dec1 tc1 f) ads (ds.drop i) (fun ys => P (.list ys)),
    ⟨ds.length, by simp, Nat.zero_le _, G1, [], [], e1.self.lay nD, upd_same, e1.le.none nD, .nil, Nat.zero_le _, hP⟩, ?_⟩
  rintro i m H ⟨rfl, hi', Gc, acc, ads, x1, hD, gD, ra, la, wp⟩
  have ge : ∀ a u, aOf ω true a → H1 a = some u → H a = some u := fun a u h => x1.hh a u h.2
  by_cases hlt : i < ds.length
  · refine .inr ⟨it.go i Gc H x1.gg x1.self ge hlt, fun H => ∃ Gc acc ads, Ext ω S.K G1 H1 Gc H ∧ H Dd = some (.lst acc) ∧ Gc Dd = none ∧ RpA S.K Gc acc ads ∧ ads.length ≤ 16777216 ∧ M.fold (turn2 dec tc ms1 dec1 tc1 f) ads (ds.drop (i + 1)) (fun ys => P (.list ys)), fun H' hN => ⟨ds.length - (i + 1), by omega, rfl, hlt, hN⟩, fun v H' y => ?_⟩
    obtain ⟨G2, e2, r2⟩ := it.yld i Gc H v H' hlt x1.gg x1.self ge y
    have hD2 : H' Dd = some (.lst acc) := e2.hh _ _ hω hD
    have gD2 : G2 Dd = none := e2.fr _ _ hD gD
    have hDn : HB Dd = none := by
      cases q : HB Dd with
      | none => rfl
      | some u => have := e1.hh Dd u hω q; rw [nD] at this; cases this
    have hD0 : H0 Dd = none := by
      cases q : H0 Dd with
      | none => rfl
      | some u => have := E.ext.hh Dd u hω q; rw [hDn] at this; cases this
    have E2 : EnvOk ω S.K G0 (upd H0 Dd (.lst acc)) (wipeE Γ vs) (L2.wipe σ vs) G2 H' := ((E.step (e1.trans (x1.trans e2))).pin (E.noD hDn) hD2 gD2).wipe vs
    rw [List.drop_eq_getElem_cons hlt] at wp
    refine hg ω G0 (upd H0 Dd (.lst acc)) (wipeE Γ vs) (L2.wipe σ vs) G2 H' v ds[i] _ _ E2 r2 wp fun a σ2 ha E3 hw => ⟨(hw vs hts).trans wipe_wipe, ?_⟩
    refine ht a ω G0 (upd H0 Dd (.lst acc)) σ2 G2 H' _ _ E3 ha fun b G4 H4 hb e4 => ?_
    have x4 : Ext ω S.K G1 H1 G4 H4 := (x1.trans e2).trans e4
    have hD4 : H4 Dd = some (.lst acc) := e4.hh _ _ hω (e2.hh _ _ hω hD)
    have gD4 : G4 Dd = none := e4.fr _ _ (e2.hh _ _ hω hD) (e2.fr _ _ hD gD)
    have ra4 : RpA S.K G4 acc ads := (ra.ext e2).ext e4
    cases b with
    | false =>
      rw [if_neg Bool.false_ne_true]
      exact ⟨G4, acc, ads, x4, hD4, gD4, ra4, la, hb⟩
    | true =>
      rw [if_pos rfl]
      have E4 := E3.step e4
      refine hi1 a ω G0 (upd H0 Dd (.lst acc)) σ2 G4 H4 _ _ E4 hb fun ys J1 G5 H5 hb5 e5 it1 => ?_
      obtain ⟨hsz, hb5⟩ := hb5
      have hD5 := e5.hh _ _ hω hD4
      have gD5 := e5.fr _ _ hD4 gD4
      have x5 := x4.trans e5
      refine ⟨fun j k H => k = ys.length - j ∧ j ≤ ys.length ∧ ∃ Gc acc' zs, Ext ω S.K G1 H1 Gc H ∧ ExtD ω Dd G5 H5 Gc H ∧ H Dd = some (.lst acc') ∧ Gc Dd = none ∧ RpA S.K Gc acc' (ads ++ zs) ∧ zs.length ≤ j ∧ M.filM (turnM dec1 (tc1 a) (f a)) (ys.drop j) (fun zs' => M.fold (turn2 dec tc ms1 dec1 tc1 f) (ads ++ (zs ++ zs')) (ds.drop (i + 1)) (fun ys => P (.list ys))),
        ⟨ys.length, by simp, Nat.zero_le _, G5, acc, [], x5, .refl, hD5, gD5, by rw [List.append_nil]; exact ra4.ext e5, Nat.le_refl _, hb5⟩, ?_⟩
      rintro j k H6 ⟨rfl, hj', Gd, acc', zs, x6, s6, hD6, gD6, ra6, lz, wp6⟩
      have ge1 : ∀ a u, aOf ω false a → H5 a = some u → H6 a = some u := fun a u h => nomatch h.1
      by_cases hlt1 : j < ys.length
      · refine .inr ⟨it1.go j Gd H6 s6.gg x6.self ge1 hlt1, fun H => ∃ Gc acc' zs, Ext ω S.K G1 H1 Gc H ∧ ExtD ω Dd G5 H5 Gc H ∧ H Dd = some (.lst acc') ∧ Gc Dd = none ∧ RpA S.K Gc acc' (ads ++ zs) ∧ zs.length ≤ j + 1 ∧ M.filM (turnM dec1 (tc1 a) (f a)) (ys.drop (j + 1)) (fun zs' => M.fold (turn2 dec tc ms1 dec1 tc1 f) (ads ++ (zs ++ zs')) (ds.drop (i + 1)) (fun ys => P (.list ys))), fun H' hN => ⟨ys.length - (j + 1), by omega, rfl, hlt1, hN⟩, fun v7 H7 y7 => ?_⟩
        obtain ⟨G7, e7, r7⟩ := it1.yld j Gd H6 v7 H7 hlt1 s6.gg x6.self ge1 y7
        have E7 : EnvOk ω S.K G0 H0 (wipeE (g a (wipeE Γ vs)) vs1) (L2.wipe σ2 vs1) G7 H7 := (((E4.step e5).moveD (s6.ext e7) (E.ext.trans (e1.trans (x6.trans e7))) hD0).wipe vs1)
        rw [List.drop_eq_getElem_cons hlt1] at wp6
        refine hg1 ω G0 H0 _ (L2.wipe σ2 vs1) G7 H7 v7 ys[j] _ _ E7 r7 wp6 fun c σ3 hc E8 hw1 => ⟨(hw1 vs1 hts1).trans wipe_wipe, ?_⟩
        refine ht1 a c ω G0 H0 σ3 G7 H7 _ _ E8 hc fun b9 G9 H9 hb9 e9 => ?_
        have x9 : Ext ω S.K G1 H1 G9 H9 := (x6.trans e7).trans e9
        have s9 : ExtD ω Dd G5 H5 G9 H9 := (s6.ext e7).ext e9
        have hD9 : H9 Dd = some (.lst acc') := e9.hh _ _ hω (e7.hh _ _ hω hD6)
        have gD9 : G9 Dd = none := e9.fr _ _ (e7.hh _ _ hω hD6) (e7.fr _ _ hD6 gD6)
        have ra9 : RpA S.K G9 acc' (ads ++ zs) := (ra6.ext e7).ext e9
        cases b9 with
        | false =>
          rw [if_neg Bool.false_ne_true]
          exact ⟨G9, acc', zs, x9, s9, hD9, gD9, ra9, by omega, hb9⟩
        | true =>
          rw [if_pos rfl]
          refine he a c ω G0 H0 σ3 G9 H9 _ _ (E8.step e9) hb9 fun y v10 G10 H10 hy e10 r10 => ?_
          have hD10 := e10.hh _ _ hω hD9
          have gD10 := e10.fr _ _ hD9 gD9
          refine ⟨acc', hD10, ?_, G10, acc' ++ [v10], zs ++ [y], (x9.trans e10).poke nD gD10 hω, (s9.ext e10).poke, upd_same, gD10, ?_, by simp; omega, ?_⟩
          · have := ra9.length
            rw [List.length_append] at this
            rw [sizeLine_eq]
            omega
          · rw [← List.append_assoc]; exact (ra9.ext e10).append (.cons r10 .nil)
          · have z : (fun zs' => M.fold (turn2 dec tc ms1 dec1 tc1 f) (ads ++ ((zs ++ [y]) ++ zs')) (ds.drop (i + 1)) (fun ys => P (.list ys))) = fun zs' => M.fold (turn2 dec tc ms1 dec1 tc1 f) (ads ++ (zs ++ y :: zs')) (ds.drop (i + 1)) (fun ys => P (.list ys)) := by funext zs'; simp
            rw [z]; exact hy
      · have ej : j = ys.length := by omega
        subst ej
        rw [List.drop_length] at wp6
        have wp6' : M.fold (turn2 dec tc ms1 dec1 tc1 f) (ads ++ (zs ++ [])) (ds.drop (i + 1)) (fun ys => P (.list ys)) := wp6
        rw [List.append_nil] at wp6'
        refine .inl ⟨it1.stop Gd H6 s6.gg x6.self ge1, Gd, acc', ads ++ zs, x6, hD6, gD6, ra6, by rw [List.length_append]; omega, wp6'⟩
  · have ei : i = ds.length := by omega
    subst ei
    rw [List.drop_length] at wp
    have wp' : P (.list ads) := wp
    refine .inl ⟨it.stop Gc H x1.gg x1.self ge, q _ _ (upd Gc Dd (.lst acc)) H wp' (e1.trans (x1.frz nD hD (fun _ _ z => nomatch z) gD hω)) ?_⟩
    refine .lst (.inl upd_same) (RpA.le (fun c u e => ?_) _ ra) (line_le la)
    rw [upd_ne (ne_of_none e gD)]; exact e
/-- [elt for tg in iter if .. for tg1 in iter1 if ..] -/
theorem we_lc2 (hi : WI S Γ true tg iter ms) (ok : blkC S.N S.sc scope own = true) (hg : WG (S.blk scope) tg dec g ts) (hts : ∀ i ∈ ts, i ∈ own.map (·.2)) (ht : ∀ a, WTs (S.blk scope) (g a (wipeE Γ (own.map (·.2)))) ifs (tc a))
    (hi1 : ∀ a, WI (S.blk scope) (g a (wipeE Γ (own.map (·.2)))) false tg1 iter1 (ms1 a)) (hg1 : WG (S.blk scope) tg1 dec1 g1 ts1) (hts1 : ∀ i ∈ ts1, i ∈ vs1) (hv : ∀ i ∈ vs1, i ∈ own.map (·.2))
    (ht1 : ∀ a b, WTs (S.blk scope) (g1 b (wipeE (g a (wipeE Γ (own.map (·.2)))) vs1)) ifs1 (tc1 a b)) (he : ∀ a b, WE (S.blk scope) (g1 b (wipeE (g a (wipeE Γ (own.map (·.2)))) vs1)) elt (f a b))
    (hs : ∀ env x, foldedSetIterable iter env x = pure x := by intro _ _; rfl) (hs1 : ∀ env x, foldedSetIterable iter1 env x = pure x := by intro _ _; rfl) :
    WE S Γ (.ListComp elt [⟨tg, iter, ifs, 0⟩, ⟨tg1, iter1, ifs1, 0⟩] scope pos) (ms.bind fun xs => (M.fold (fun acc x => (dec x).bind fun a => (tc a).bind fun b => bif b then (ms1 a).bind fun ys => M.need (acc.length + ys.length ≤ 16777216) ((M.filM (fun x => (dec1 x).bind fun c => (tc1 a c).bind fun b => bif b then (f a c).bind fun y => M.pure (some y) else M.pure none) ys).bind fun zs => M.pure (acc ++ zs)) else M.pure acc) [] xs).bind fun ys => M.pure (.list ys)) := by
  intro ω G0 H0 σ G H P Q E hm q
  exact ⟨_, fun X hX => pe_lc2 hX.calm (by rw [hX.N]; exact hX.nd) (RI.pi hX tg iter) (blkOk_by (own := own) (by rw [hX.N, hX.sc]; exact ok)) hv (fun s H C cl fp => RG.pg (hX.blk s H scope C cl fp) tg) (fun s H C cl fp => RTs.pts (hX.blk s H scope C cl fp) ifs) (fun s H C cl fp => RI.pi (hX.blk s H scope C cl fp) tg1 iter1) (fun s H C cl fp => RG.pg (hX.blk s H scope C cl fp) tg1) (fun s H C cl fp => RTs.pts (hX.blk s H scope C cl fp) ifs1) (fun s H C cl fp => RE.pe (hX.blk s H scope C cl fp) elt) (hs _) hs1,
    lc2_go hg hts ht hi1 hg1 hts1 ht1 he E (fun P' R h1 h2 => hi ω G0 H0 σ G H P' R E h1 h2) hm q⟩
theorem w_setLc2 {ρ : Type} {ι : ρ → Out} {k : D → M ρ} {i : Nat} {y : Str} {rest : List Stmt} {py spos : Pos} (hy : SetAt S i y) (sw : SwapAt S y scope) (hi : WI S Γ true tg iter ms) (ok : blkC S.N S.sc scope own = true) (hg : WG (S.blk scope) tg dec g ts) (hts : ∀ i ∈ ts, i ∈ own.map (·.2)) (ht : ∀ a, WTs (S.blk scope) (g a (wipeE Γ (own.map (·.2)))) ifs (tc a))
    (hi1 : ∀ a, WI (S.blk scope) (g a (wipeE Γ (own.map (·.2)))) false tg1 iter1 (ms1 a)) (hg1 : WG (S.blk scope) tg1 dec1 g1 ts1) (hts1 : ∀ i ∈ ts1, i ∈ vs1) (hv : ∀ i ∈ vs1, i ∈ own.map (·.2))
    (ht1 : ∀ a b, WTs (S.blk scope) (g1 b (wipeE (g a (wipeE Γ (own.map (·.2)))) vs1)) ifs1 (tc1 a b)) (he : ∀ a b, WE (S.blk scope) (g1 b (wipeE (g a (wipeE Γ (own.map (·.2)))) vs1)) elt (f a b))
    (hk : ∀ d, W S (Γ.set i (some (.val d))) rest (k d) ι) (hs : ∀ env x, foldedSetIterable iter env x = pure x := by intro _ _; rfl) (hs1 : ∀ env x, foldedSetIterable iter1 env x = pure x := by intro _ _; rfl) (hl : (py.line == pos.line) = true := by rfl) :
    W S Γ (.Assign [.Name y py] (.ListComp elt [⟨tg, iter, ifs, 0⟩, ⟨tg1, iter1, ifs1, 0⟩] scope pos) spos :: rest) ((ms.bind fun xs => (M.fold (fun acc x => (dec x).bind fun a => (tc a).bind fun b => bif b then (ms1 a).bind fun ys => M.need (acc.length + ys.length ≤ 16777216) ((M.filM (fun x => (dec1 x).bind fun c => (tc1 a c).bind fun b => bif b then (f a c).bind fun y => M.pure (some y) else M.pure none) ys).bind fun zs => M.pure (acc ++ zs)) else M.pure acc) [] xs).bind fun ys => M.pure (.list ys)).bind k) ι := by
  intro ω G0 H0 σ G H P Dn E hm q
  refine rs_cons (fun X hX => ps_setLc2 (i := i) hX.calm (by rw [hX.N]; exact hX.nd) (by rw [hX.N]; exact hy.n) (by rw [hX.sc]; exact sw.l) (sw_true (by rw [hX.sc]; exact sw.k) (by rw [hX.sc]; exact sw.l) hl sw.s) (RI.pi hX tg iter) (blkOk_by (own := own) (by rw [hX.N, hX.sc]; exact ok)) hv (fun s H C cl fp => RG.pg (hX.blk s H scope C cl fp) tg) (fun s H C cl fp => RTs.pts (hX.blk s H scope C cl fp) ifs) (fun s H C cl fp => RI.pi (hX.blk s H scope C cl fp) tg1 iter1) (fun s H C cl fp => RG.pg (hX.blk s H scope C cl fp) tg1) (fun s H C cl fp => RTs.pts (hX.blk s H scope C cl fp) ifs1) (fun s H C cl fp => RE.pe (hX.blk s H scope C cl fp) elt) (hs _) hs1) ?_
  exact lc2_go hg hts ht hi1 hg1 hts1 ht1 he (P := fun d => k d P) E (fun P' R h1 h2 => hi ω G0 H0 σ G H P' R E h1 h2) hm fun d v G1 H1 hP e1 r1 => hk d ω G0 H0 _ G1 H1 P Dn ((E.step e1).putV r1) hP q
end

/-! ### d.get of one's own -/
section
variable {S : Sg} {Γ : En} {a b o : Expr} {mo mk mx : M D} {apos cpos : Pos}
theorem wb_get2 (ho : WB S Γ o mo) (hk : WE S Γ a mk) (hx : WE S Γ b mx) (hm2 : ∀ X : Cx, M2 X o "get" apos a b cpos) : WE S Γ (.Call (.Attribute o "get" apos) [a, b] [] cpos) (mo.bind fun d => M.need ((isDi d && plainD d) = true) (mk.bind fun k => mx.bind fun x => get2D d k x)) := by
  intro ω G0 H0 σ G H P Q E hm q
  refine ⟨_, fun X hX => pe_dget2 (hu_of hX.room) (RE.pe hX o) (RE.pe hX a) (RE.pe hX b) (hm2 X), ?_⟩
  refine ho ω G0 H0 σ G H _ _ E hm fun d v G1 H1 ⟨hd, hP⟩ e1 r1 => ?_
  cases d with
  | dict es =>
    have hmk : marked es = false := by simpa [isDi, plainD] using hd
    obtain ⟨a', rfl, _, hcase⟩ := noT (ω := ω) r1 e1.le
    refine ⟨a', rfl, ?_, ?_⟩
    · rcases hcase with ⟨kvs, s1, _⟩ | ⟨kvs, es', _, s1, _⟩
      · exact .inl ⟨_, s1⟩
      · exact .inr ⟨_, s1⟩
    refine hk ω G0 H0 σ G1 H1 _ _ (E.step e1) hP fun k u G2 H2 hP2 e2 r2 => ?_
    refine hx ω G0 H0 σ G2 H2 _ _ ((E.step e1).step e2) hP2 fun x w G3 H3 hP3 e3 r3 => ?_
    obtain ⟨⟨h1, h2⟩, hP3⟩ := hP3
    obtain ⟨a2, kvs, hq, s1, oo, g, g1, g2⟩ := dict_get (ω := ω) e3.le ((r1.ext e2).ext e3) h1 h2 (.inl (r2.ext e3))
    cases hq
    refine ⟨oo, g, ?_⟩
    cases hlk : lookD es k with
    | none => rw [g2 hlk]; rw [hlk] at hP3; exact q _ _ _ _ hP3 ((e1.trans e2).trans e3) r3
    | some d => obtain ⟨w', rfl, rw'⟩ := g1 d hlk; rw [hlk] at hP3; exact q _ _ _ _ hP3 ((e1.trans e2).trans e3) rw'
  | _ => simp [isDi] at hd
theorem wb_get1 (ho : WB S Γ o mo) (hk : WE S Γ a mk) (hm2 : ∀ X : Cx, M1 X o "get" apos a cpos) : WE S Γ (.Call (.Attribute o "get" apos) [a] [] cpos) (mo.bind fun d => M.need ((isDi d && plainD d) = true) (mk.bind fun k => get2D d k .none)) := by
  intro ω G0 H0 σ G H P Q E hm q
  refine ⟨_, fun X hX => pe_dget1 (hu_of hX.room) (RE.pe hX o) (RE.pe hX a) (hm2 X), ?_⟩
  refine ho ω G0 H0 σ G H _ _ E hm fun d v G1 H1 ⟨hd, hP⟩ e1 r1 => ?_
  cases d with
  | dict es =>
    have hmk : marked es = false := by simpa [isDi, plainD] using hd
    obtain ⟨a', rfl, _, hcase⟩ := noT (ω := ω) r1 e1.le
    refine ⟨a', rfl, ?_, ?_⟩
    · rcases hcase with ⟨kvs, s1, _⟩ | ⟨kvs, es', _, s1, _⟩
      · exact .inl ⟨_, s1⟩
      · exact .inr ⟨_, s1⟩
    refine hk ω G0 H0 σ G1 H1 _ _ (E.step e1) hP fun k u G2 H2 hP3 e2 r2 => ?_
    obtain ⟨⟨h1, h2⟩, hP3⟩ := hP3
    obtain ⟨a2, kvs, hq, s1, oo, g, g1, g2⟩ := dict_get (ω := ω) e2.le (r1.ext e2) h1 h2 (.inl r2)
    cases hq
    refine ⟨oo, g, ?_⟩
    cases hlk : lookD es k with
    | none => rw [g2 hlk]; rw [hlk] at hP3; exact q _ _ _ _ hP3 (e1.trans e2) .non
    | some d => obtain ⟨w', rfl, rw'⟩ := g1 d hlk; rw [hlk] at hP3; exact q _ _ _ _ hP3 (e1.trans e2) rw'
  | _ => simp [isDi] at hd
end

/-! ### a written dict -/
section
variable {S : Sg} {Γ : En} {pos : Pos}
def WP (S : Sg) (Γ : En) (ps : List (Expr × Expr)) (m : M (List (D × D))) : Prop := ∀ (ω : Option Addr) (G0 H0 : Hp) (σ : L2.St) (G H : Hp) (P : List (D × D) → Prop) (Q : List (V × V) → Hp → Prop), EnvOk ω S.K G0 H0 Γ σ G H → m P →
  (∀ es vs G' H', P es → Ext ω S.K G H G' H' → (∃ kvs : List (Key × V), vs = kvs.map (fun kv => (kV kv.1, kv.2)) ∧ RpK S.K G' kvs es) → es.length = ps.length → Q vs H') → tPairs (ps.map fun p => (RE S p.1, RE S p.2)) σ H Q
theorem wp_nil : WP S Γ [] (M.pure []) := fun ω G0 H0 σ G H P Q E hm q => q [] [] G H hm E.self ⟨[], rfl, .nil⟩ rfl
theorem RpK.ext {ω : Option Addr} {K : PySem.W.Frag} {G H G' H' : Hp} {kvs : List (Key × V)} {es : List (D × D)} (h : RpK K G kvs es) (e : Ext ω K G H G' H') : RpK K G' kvs es := RpK.le e.gg es h
theorem wp_cons {ek ev : Expr} {mk mv : M D} {ps : List (Expr × Expr)} {ms : M (List (D × D))} (hk : WE S Γ ek mk) (hv : WE S Γ ev mv) (hs : WP S Γ ps ms) : WP S Γ ((ek, ev) :: ps) (mk.bind fun k => mv.bind fun v => M.need (kD k = true) (ms.bind fun es => M.pure ((k, v) :: es))) := by
  intro ω G0 H0 σ G H P Q E hm q
  refine hk ω G0 H0 σ G H _ _ E hm fun k kv G1 H1 hx e1 r1 => ?_
  refine hv ω G0 H0 σ G1 H1 _ _ (E.step e1) hx fun v vv G2 H2 hy e2 r2 => ?_
  refine hs ω G0 H0 σ G2 H2 _ _ ((E.step e1).step e2) hy.2 fun es vs G3 H3 hz e3 r3 l3 => ?_
  obtain ⟨kvs, rfl, r3⟩ := r3
  obtain ⟨c, rfl⟩ := keyD_kD hy.1
  have := kV_rel (ω := ω) (H := H) (.inl r1)
  subst this
  exact q _ _ _ _ hz ((e1.trans e2).trans e3) ⟨(c, vv) :: kvs, rfl, .cons (r2.ext e3) r3⟩ (congrArg (· + 1) l3)
theorem wp_pps {X : Cx} (hX : S.Of X) : ∀ ps : List (Expr × Expr), PPs X pos (ps.map fun p => some p.1) (ps.map (·.2)) (ps.map fun p => (RE S p.1, RE S p.2))
  | [] => pps_nil
  | (a, b) :: ps => pps_cons (RE.pe hX a) (RE.pe hX b) (wp_pps hX ps)
theorem disp_go {ps : List (Expr × Expr)} {ms : M (List (D × D))} (hs : WP S Γ ps ms) (h15 : ps.length ≤ 15) {ω : Option Addr} {G0 H0 : Hp} {σ : L2.St} {G H : Hp} {P : D → Prop} {Q : VK} (E : EnvOk ω S.K G0 H0 Γ σ G H) (hm : ms fun es => P (.dict (mergeD [] es)))
    (q : ∀ d p kvs es G' H', P d → d = .dict es → Ext ω S.K G H G' H' → H p = none → G' p = none → H' p = some (.dK kvs) → RpK S.K G' kvs es → es.length ≤ sizeLine → some p ≠ ω → Q (.ref p) H') : tDisp (ps.map fun p => (RE S p.1, RE S p.2)) σ H Q := by
  intro p np
  have e0 := E.self.lay (o := .dK []) np
  have hω : some p ≠ ω := fun z => by
    obtain ⟨_, _, _, _, h, _⟩ := E.ext.dr p z.symm
    rw [np] at h; cases h
  refine hs ω G0 H0 σ G _ _ _ (E.step e0) hm fun es vs G2 H2 hP e2 r2 l2 => ?_
  obtain ⟨kvs, rfl, r2⟩ := r2
  have hp2 : H2 p = some (.dK []) := e2.hh p _ hω upd_same
  have gp2 : G2 p = none := e2.fr p _ upd_same (E.ext.le.none np)
  have hl := r2.length
  have hm2 := mergeD_len es []
  refine ⟨hp2, kvs, rfl, by omega, ?_⟩
  exact q _ p _ _ G2 _ hP rfl ((e0.trans e2).poke np gp2 hω) np gp2 upd_same (merge_rel r2 .nil) (by
    have : (15 : Nat) ≤ sizeLine := by rw [sizeLine_eq]; decide
    simp at hm2
    omega) hω
theorem we_disp {keys : List (Option Expr)} {values : List Expr} (ps : List (Expr × Expr)) {ms : M (List (D × D))} (hs : WP S Γ ps ms) (hk : keys = ps.map (fun p => some p.1) := by rfl) (hv : values = ps.map (·.2) := by rfl) (h15 : ps.length ≤ 15 := by decide) (h0 : ps ≠ [] := by intro z; cases z) :
    WE S Γ (.Dict keys values pos) (ms.bind fun es => M.pure (.dict (mergeD [] es))) := by
  subst hk hv
  intro ω G0 H0 σ G H P Q E hm q
  refine ⟨_, fun X hX => pe_disp (wp_pps hX ps) (by simp) (by simp) (by simpa using h0) (by simpa using h15), ?_⟩
  refine disp_go hs h15 E hm fun d p kvs es G2 H2 hP hd e2 h1 h2 h3 r2 hl hω => ?_
  subst hd
  refine q _ _ (upd G2 p (.dK kvs)) _ hP (e2.frz h1 h3 (fun _ _ z => nomatch z) h2 hω) (.dK upd_same (RpK.le (fun c u e => ?_) _ r2) hl)
  rw [upd_ne (ne_of_none e h2)]; exact e
theorem wf_disp {keys : List (Option Expr)} {values : List Expr} (ps : List (Expr × Expr)) {ms : M (List (D × D))} (hs : WP S Γ ps ms) (hk : keys = ps.map (fun p => some p.1) := by rfl) (hv : values = ps.map (·.2) := by rfl) (h15 : ps.length ≤ 15 := by decide) (h0 : ps ≠ [] := by intro z; cases z) :
    WF S Γ (.Dict keys values pos) (ms.bind fun es => M.pure (.dict (mergeD [] es))) := by
  subst hk hv
  intro ω G0 H0 σ G H P Q E hm q
  refine ⟨_, fun X hX => pe_disp (wp_pps hX ps) (by simp) (by simp) (by simpa using h0) (by simpa using h15), ?_⟩
  refine disp_go hs h15 E hm fun d p kvs es G2 H2 hP hd e2 h1 h2 h3 r2 hl hω => ?_
  subst hd
  exact q _ p _ G2 H2 hP e2 h1 h2 h3 (.dK r2 hl)
end
end Wp
namespace Wp
open PySem PySem.Spec PyProof.Rows L2

/-! ### list comprehensions of one's own -/
section
variable {S : Sg} {Γ : En} {e a b c elt tg iter : Expr} {ifs : List Expr} {m ma mb mc : M D} {ms : M (List D)} {pos : Pos} {scope : Scope} {own : List (Str × Nat)} {α : Type} {dec : D → M α} {g : α → En → En} {ts : List Nat} {tc : α → M Bool} {f : α → M D}
theorem lc_goF {wi : TI} (hg : WG (S.blk scope) tg dec g ts) (hts : ∀ i ∈ ts, i ∈ own.map (·.2)) (ht : ∀ a, WTs (S.blk scope) (g a (wipeE Γ (own.map (·.2)))) ifs (tc a)) (he : ∀ a, WE (S.blk scope) (g a (wipeE Γ (own.map (·.2)))) elt (f a))
    {ω : Option Addr} {G0 H0 : Hp} {σ : L2.St} {G HB : Hp} {P : D → Prop} {Q : VK} (E : EnvOk ω S.K G0 H0 Γ σ G HB)
    (hi : ∀ (P' : List D → Prop) (R : It → Hp → Prop), ms P' → (∀ ds J G' H', P' ds → Ext ω S.K G HB G' H' → ItOk ω S.K (aOf ω true) J ds G' H' → R J H') → wi σ HB R) (hm : (ms.bind fun xs => (M.filM (turnM dec tc f) xs).bind fun ys => M.pure (.list ys)) P)
    (q : ∀ d p u G' H', P d → Ext ω S.K G HB G' H' → HB p = none → G' p = none → H' p = some u → RpO S.K G' u d → Q (.ref p) H') : tLc wi (RG (S.blk scope) tg) (RTs (S.blk scope) ifs) (RE (S.blk scope) elt) (own.map (·.2)) σ HB Q := by
  generalize hvs : own.map (·.2) = vs at *
  refine hi _ _ hm fun ds J G1 H1 hP e1 it => ?_
  intro Dd nD
  have hω : some Dd ≠ ω := fun z => by
    obtain ⟨_, _, _, _, h, _⟩ := e1.dr Dd z.symm
    rw [nD] at h; cases h
  refine ⟨fun i m H => m = ds.length - i ∧ i ≤ ds.length ∧ ∃ Gc acc ads, Ext ω S.K G1 H1 Gc H ∧ H Dd = some (.lst acc) ∧ Gc Dd = none ∧ RpA S.K Gc acc ads ∧ ads.length ≤ i ∧ M.filM (turnM dec tc f) (ds.drop i) (fun ys => P (.list (ads ++ ys))),
    ⟨ds.length, by simp, Nat.zero_le _, G1, [], [], e1.self.lay nD, upd_same, e1.le.none nD, .nil, Nat.le_refl _, hP⟩, ?_⟩
  rintro i m H ⟨rfl, hi', Gc, acc, ads, x1, hD, gD, ra, la, wp⟩
  have ge : ∀ a u, aOf ω true a → H1 a = some u → H a = some u := fun a u h => x1.hh a u h.2
  by_cases hlt : i < ds.length
  · refine .inr ⟨it.go i Gc H x1.gg x1.self ge hlt, fun H => ∃ Gc acc ads, Ext ω S.K G1 H1 Gc H ∧ H Dd = some (.lst acc) ∧ Gc Dd = none ∧ RpA S.K Gc acc ads ∧ ads.length ≤ i + 1 ∧ M.filM (turnM dec tc f) (ds.drop (i + 1)) (fun ys => P (.list (ads ++ ys))), fun H' hN => ⟨ds.length - (i + 1), by omega, rfl, hlt, hN⟩, fun v H' y => ?_⟩
    obtain ⟨G2, e2, r2⟩ := it.yld i Gc H v H' hlt x1.gg x1.self ge y
    have E2 : EnvOk ω S.K G0 H0 (wipeE Γ vs) (L2.wipe σ vs) G2 H' := (E.step (e1.trans (x1.trans e2))).wipe vs
    rw [List.drop_eq_getElem_cons hlt] at wp
    refine hg ω G0 H0 (wipeE Γ vs) (L2.wipe σ vs) G2 H' v ds[i] _ _ E2 r2 wp fun a σ2 ha E3 hw => ⟨(hw vs hts).trans wipe_wipe, ?_⟩
    refine ht a ω G0 H0 σ2 G2 H' _ _ E3 ha fun b G4 H4 hb e4 => ?_
    have x4 : Ext ω S.K G1 H1 G4 H4 := (x1.trans e2).trans e4
    have hD4 : H4 Dd = some (.lst acc) := e4.hh _ _ hω (e2.hh _ _ hω hD)
    have gD4 : G4 Dd = none := e4.fr _ _ (e2.hh _ _ hω hD) (e2.fr _ _ hD gD)
    have ra4 : RpA S.K G4 acc ads := (ra.ext e2).ext e4
    cases b with
    | false =>
      rw [if_neg Bool.false_ne_true]
      exact ⟨G4, acc, ads, x4, hD4, gD4, ra4, by omega, hb⟩
    | true =>
      rw [if_pos rfl]
      refine he a ω G0 H0 σ2 G4 H4 _ _ (E3.step e4) hb fun y v5 G5 H5 hy e5 r5 => ?_
      have hD5 := e5.hh _ _ hω hD4
      have gD5 := e5.fr _ _ hD4 gD4
      refine ⟨acc, hD5, ?_, G5, acc ++ [v5], ads ++ [y], (x4.trans e5).poke nD gD5 hω, upd_same, gD5, (ra4.ext e5).append (.cons r5 .nil), by simp; omega, ?_⟩
      · have := ra.length
        have := it.ln
        omega
      · have z : (fun ys => P (.list ((ads ++ [y]) ++ ys))) = fun ys => P (.list (ads ++ y :: ys)) := by funext ys; simp
        rw [z]; exact hy
  · have ei : i = ds.length := by omega
    subst ei
    rw [List.drop_length] at wp
    have wp' : P (.list (ads ++ [])) := wp
    rw [List.append_nil] at wp'
    have hDn : HB Dd = none := by
      cases q : HB Dd with
      | none => rfl
      | some u => have := e1.hh Dd u hω q; rw [nD] at this; cases this
    exact .inl ⟨it.stop Gc H x1.gg x1.self ge, q _ Dd _ Gc H wp' (e1.trans x1) hDn gD hD (.lst ra (Nat.le_trans la it.ln))⟩
theorem wf_lcif (hi : WI S Γ true tg iter ms) (ok : blkC S.N S.sc scope own = true) (hg : WG (S.blk scope) tg dec g ts) (hts : ∀ i ∈ ts, i ∈ own.map (·.2)) (ht : ∀ a, WT (S.blk scope) (g a (wipeE Γ (own.map (·.2)))) c (tc a)) (he : ∀ a, WE (S.blk scope) (g a (wipeE Γ (own.map (·.2)))) elt (f a))
    (hs : ∀ env x, foldedSetIterable iter env x = pure x := by intro _ _; rfl) :
    WF S Γ (.ListComp elt [⟨tg, iter, [c], 0⟩] scope pos) (ms.bind fun xs => (M.filM (fun x => (dec x).bind fun a => (tc a).bind fun b => bif b then (f a).bind fun y => M.pure (some y) else M.pure none) xs).bind fun ys => M.pure (.list ys)) := by
  intro ω G0 H0 σ G H P Q E hm q
  exact ⟨_, fun X hX => pe_lc hX.calm (by rw [hX.N]; exact hX.nd) (RI.pi hX tg iter) (blkOk_by (own := own) (by rw [hX.N, hX.sc]; exact ok)) (fun s H C cl fp => RG.pg (hX.blk s H scope C cl fp) tg) (fun s H C cl fp => RTs.pts (hX.blk s H scope C cl fp) [c]) (fun s H C cl fp => RE.pe (hX.blk s H scope C cl fp) elt) (hs _),
    lc_goF hg hts (fun a => wts_one (ht a)) he E (fun P' R h1 h2 => hi ω G0 H0 σ G H P' R E h1 h2) hm q⟩
theorem lcM_eq {f : α → M D} : (ms.bind fun xs => (M.filM (turnM dec (fun _ => M.pure true) f) xs).bind fun ys => M.pure (PyData.list ys)) = ms.bind fun xs => (M.mapM (fun x => (dec x).bind fun a => f a) xs).bind fun ys => M.pure (PyData.list ys) := by
  have z : (fun xs => (M.filM (turnM dec (fun _ => M.pure true) f) xs).bind fun ys => M.pure (PyData.list ys)) = fun xs => (M.mapM (fun x => (dec x).bind fun a => f a) xs).bind fun ys => M.pure (PyData.list ys) := by
    funext xs; rw [mapM_eq]
  rw [z]
theorem wf_lc (hi : WI S Γ true tg iter ms) (ok : blkC S.N S.sc scope own = true) (hg : WG (S.blk scope) tg dec g ts) (hts : ∀ i ∈ ts, i ∈ own.map (·.2)) (he : ∀ a, WE (S.blk scope) (g a (wipeE Γ (own.map (·.2)))) elt (f a))
    (hs : ∀ env x, foldedSetIterable iter env x = pure x := by intro _ _; rfl) :
    WF S Γ (.ListComp elt [⟨tg, iter, [], 0⟩] scope pos) (ms.bind fun xs => (M.mapM (fun x => (dec x).bind fun a => f a) xs).bind fun ys => M.pure (.list ys)) := by
  intro ω G0 H0 σ G H P Q E hm q
  refine ⟨_, fun X hX => pe_lc hX.calm (by rw [hX.N]; exact hX.nd) (RI.pi hX tg iter) (blkOk_by (own := own) (by rw [hX.N, hX.sc]; exact ok)) (fun s H C cl fp => RG.pg (hX.blk s H scope C cl fp) tg) (fun s H C cl fp => RTs.pts (hX.blk s H scope C cl fp) []) (fun s H C cl fp => RE.pe (hX.blk s H scope C cl fp) elt) (hs _),
    lc_goF hg hts (tc := fun _ => M.pure true) (fun a => wts_nil) he E (fun P' R h1 h2 => hi ω G0 H0 σ G H P' R E h1 h2) ?_ q⟩
  rw [lcM_eq]; exact hm
theorem w_setLcF {ρ : Type} {ι : ρ → Out} {k : D → M ρ} {i : Nat} {y : Str} {rest : List Stmt} {py spos : Pos} (hy : SetAt S i y) (sw : SwapAt S y scope) (hi : WI S Γ true tg iter ms) (ok : blkC S.N S.sc scope own = true) (hg : WG (S.blk scope) tg dec g ts) (hts : ∀ i ∈ ts, i ∈ own.map (·.2)) (he : ∀ a, WE (S.blk scope) (g a (wipeE Γ (own.map (·.2)))) elt (f a))
    (hk : ∀ d, W S (Γ.set i (some (.own d))) rest (k d) ι) (hs : ∀ env x, foldedSetIterable iter env x = pure x := by intro _ _; rfl) (hl : (py.line == pos.line) = true := by rfl) :
    W S Γ (.Assign [.Name y py] (.ListComp elt [⟨tg, iter, [], 0⟩] scope pos) spos :: rest) ((ms.bind fun xs => (M.mapM (fun x => (dec x).bind fun a => f a) xs).bind fun ys => M.pure (.list ys)).bind k) ι := by
  intro ω G0 H0 σ G H P Dn E hm q
  refine rs_cons (fun X hX => ps_setLc (i := i) hX.calm (by rw [hX.N]; exact hX.nd) (by rw [hX.N]; exact hy.n) (by rw [hX.sc]; exact sw.l) (sw_true (by rw [hX.sc]; exact sw.k) (by rw [hX.sc]; exact sw.l) hl sw.s) (RI.pi hX tg iter) (blkOk_by (own := own) (by rw [hX.N, hX.sc]; exact ok)) (fun s H C cl fp => RG.pg (hX.blk s H scope C cl fp) tg) (fun s H C cl fp => RTs.pts (hX.blk s H scope C cl fp) []) (fun s H C cl fp => RE.pe (hX.blk s H scope C cl fp) elt) (hs _)) ?_
  refine lc_goF hg hts (tc := fun _ => M.pure true) (P := fun d => k d P) (fun a => wts_nil) he E (fun P' R h1 h2 => hi ω G0 H0 σ G H P' R E h1 h2) ?_ fun d p u G1 H1 hP e1 h1 h2 h3 r1 => hk d ω G0 H0 _ G1 H1 P Dn (E.putO e1 h1 h2 h3 r1) hP q
  rw [lcM_eq]; exact hm
theorem w_setLcifF {ρ : Type} {ι : ρ → Out} {k : D → M ρ} {i : Nat} {y : Str} {rest : List Stmt} {py spos : Pos} (hy : SetAt S i y) (sw : SwapAt S y scope) (hi : WI S Γ true tg iter ms) (ok : blkC S.N S.sc scope own = true) (hg : WG (S.blk scope) tg dec g ts) (hts : ∀ i ∈ ts, i ∈ own.map (·.2)) (ht : ∀ a, WT (S.blk scope) (g a (wipeE Γ (own.map (·.2)))) c (tc a)) (he : ∀ a, WE (S.blk scope) (g a (wipeE Γ (own.map (·.2)))) elt (f a))
    (hk : ∀ d, W S (Γ.set i (some (.own d))) rest (k d) ι) (hs : ∀ env x, foldedSetIterable iter env x = pure x := by intro _ _; rfl) (hl : (py.line == pos.line) = true := by rfl) :
    W S Γ (.Assign [.Name y py] (.ListComp elt [⟨tg, iter, [c], 0⟩] scope pos) spos :: rest) ((ms.bind fun xs => (M.filM (fun x => (dec x).bind fun a => (tc a).bind fun b => bif b then (f a).bind fun y => M.pure (some y) else M.pure none) xs).bind fun ys => M.pure (.list ys)).bind k) ι := by
  intro ω G0 H0 σ G H P Dn E hm q
  refine rs_cons (fun X hX => ps_setLc (i := i) hX.calm (by rw [hX.N]; exact hX.nd) (by rw [hX.N]; exact hy.n) (by rw [hX.sc]; exact sw.l) (sw_true (by rw [hX.sc]; exact sw.k) (by rw [hX.sc]; exact sw.l) hl sw.s) (RI.pi hX tg iter) (blkOk_by (own := own) (by rw [hX.N, hX.sc]; exact ok)) (fun s H C cl fp => RG.pg (hX.blk s H scope C cl fp) tg) (fun s H C cl fp => RTs.pts (hX.blk s H scope C cl fp) [c]) (fun s H C cl fp => RE.pe (hX.blk s H scope C cl fp) elt) (hs _)) ?_
  exact lc_goF hg hts (P := fun d => k d P) (fun a => wts_one (ht a)) he E (fun P' R h1 h2 => hi ω G0 H0 σ G H P' R E h1 h2) hm fun d p u G1 H1 hP e1 h1 h2 h3 r1 => hk d ω G0 H0 _ G1 H1 P Dn (E.putO e1 h1 h2 h3 r1) hP q
end

/-! ### calls that give something new -/
def C1F (S : Sg) (g : Value) (f : D → M D) : Prop := ∀ (ω : Option Addr) (G H : Hp) (x : D) (v : V) (P : D → Prop) (Q : VK), Ext ω S.K G H G H → Rb ω S.K G H v x → f x P →
  (∀ d p u G' H', P d → Ext ω S.K G H G' H' → H p = none → G' p = none → H' p = some u → RpO S.K G' u d → Q (.ref p) H') → RCall S g [v] H Q
section
variable {S : Sg} {Γ : En} {a b : Expr} {ma mb : M D} {pos : Pos}
theorem EnvOk.back {ω : Option Addr} {K : PySem.W.Frag} {G H G1 H1 : Hp} {p : Addr} (e : Ext ω K G H G1 H1) (hp : H1 p = none) : H p = none := by
  cases q : H p with
  | none => rfl
  | some u =>
    by_cases hω : some p = ω
    · obtain ⟨_, _, _, _, h, _⟩ := e.dr p hω.symm
      rw [hp] at h; cases h
    · have := e.hh p u hω q; rw [hp] at this; cases this
theorem wf_c1T {T : String} {x : Str} {p : Pos} {f : D → M D} (hb : BltAt S x (.type T)) (ho : C1F S (.type T) f) (ha : WB S Γ a ma) (he : ∀ env, starEach [a] env = (false, eval a env) :: starEach [] env := by intro _; rfl)
    : WF S Γ (.Call (.Name x p) [a] [] pos) (ma.bind fun x => f x) := by
  intro ω G0 H0 σ G H P Q E hm q
  refine ⟨_, fun X hX => pe_callTy (RCall.call hX _) (gl_of hX hb.g) (by rw [hX.mg]; exact hb.m) hb.v (pa_cons (RE.pe hX a) pa_nil (he _)) hb.n hb.d (he _) rfl, ?_⟩
  refine ha ω G0 H0 σ G H _ _ E hm fun x v G' H' hf e r1 => ?_
  exact ho ω G' H' x v P Q e.self r1 hf fun d p u G2 H2 hP e2 h1 h2 h3 r => q d p u G2 H2 hP (e.trans e2) (EnvOk.back e h1) h2 h3 r
theorem wf_c1B {id : String} {x : Str} {p : Pos} {f : D → M D} (hb : BltAt S x (.builtin id)) (ho : C1F S (.builtin id) f) (ha : WB S Γ a ma) (he : ∀ env, starEach [a] env = (false, eval a env) :: starEach [] env := by intro _; rfl)
    : WF S Γ (.Call (.Name x p) [a] [] pos) (ma.bind fun x => f x) := by
  intro ω G0 H0 σ G H P Q E hm q
  refine ⟨_, fun X hX => pe_callB (RCall.call hX _) (gl_of hX hb.g) (by rw [hX.mg]; exact hb.m) hb.v (pa_cons (RE.pe hX a) pa_nil (he _)) hb.n hb.d (he _) rfl, ?_⟩
  refine ha ω G0 H0 σ G H _ _ E hm fun x v G' H' hf e r1 => ?_
  exact ho ω G' H' x v P Q e.self r1 hf fun d p u G2 H2 hP e2 h1 h2 h3 r => q d p u G2 H2 hP (e.trans e2) (EnvOk.back e h1) h2 h3 r
theorem list_okF : C1F S (.type "list") listD := by
  intro ω G H x v P Q e rx hf q
  cases x with
  | list ds =>
    obtain ⟨a, as, rfl, s1, r1, z⟩ := rx.list e.le
    refine ⟨fun xs H Q => ∃ p ys, xs = [.ref p] ∧ (SqL S.K H p ys ∨ SqT S.K H p ys) ∧ ∀ l, H l = none → Q (.ref l) (upd H l (.lst ys)), fun X hX => hX.K ▸ call_list_of, a, as, rfl, .inl (.inl s1), fun p np => ?_⟩
    exact q _ p _ G _ hf (e.lay np) np (e.le.none np) upd_same (.lst r1 z)
  | tuple ds =>
    obtain ⟨a, as, rfl, s1, r1, z⟩ := rx.tup e.le
    refine ⟨fun xs H Q => ∃ p ys, xs = [.ref p] ∧ (SqL S.K H p ys ∨ SqT S.K H p ys) ∧ ∀ l, H l = none → Q (.ref l) (upd H l (.lst ys)), fun X hX => hX.K ▸ call_list_of, a, as, rfl, .inr s1, fun p np => ?_⟩
    exact q _ p _ G _ hf (e.lay np) np (e.le.none np) upd_same (.lst r1 z)
  | _ => exact hf.elim
/-- dict(x), x a list of pairs or a dict -/
def dict2D : D → M D
  | .list ds => dictD (.list ds)
  | .dict es => M.need (marked es = false) (M.pure (.dict es))
  | _ => M.fail
theorem dict2_okF : C1F S (.type "dict") dict2D := by
  intro ω G H x v P Q e rx hf q
  cases x with
  | list ds =>
    obtain ⟨ps, h1, hf⟩ := hf
    obtain ⟨a, as, rfl, s1, r1, z⟩ := rx.list e.le
    obtain ⟨bs, kvs, rfl, h2, h3⟩ := pairs_rel (ω := ω) e.le r1 h1
    refine ⟨fun xs H Q => ∃ (a : Addr) (ps : List Addr) (kvs : List (Key × V)), xs = [.ref a] ∧ SqL S.K H a (ps.map V.ref) ∧ Paired (fun p kv => SqT S.K H p [kV kv.1, kv.2]) ps kvs ∧
      ∀ p, H p = none → Q (.ref p) (upd H p (.dK (mergeK [] kvs))), fun X hX => hX.K ▸ call_dictP hX.calm, a, bs, kvs, rfl, .inl s1, h2, fun p np => ?_⟩
    have hl := h3.length
    have hl2 := Paired.length h2
    have hl3 := r1.length
    refine q _ p _ G _ hf (e.lay np) np (e.le.none np) upd_same (.dK (merge_rel h3 .nil) ?_)
    have := mergeD_len ps []
    rw [List.length_map] at hl3
    simp at this
    omega
  | dict es =>
    obtain ⟨hm, hf⟩ := hf
    obtain ⟨a, rfl, z, ⟨kvs, s1, r1⟩ | ⟨kvs, es', rfl, _, _⟩⟩ := noT rx e.le
    · exact ⟨_, fun X hX => call_dictD, a, kvs, rfl, s1, fun p np => q _ p _ G _ hf (e.lay np) np (e.le.none np) upd_same (.dK r1 z)⟩
    · simp [marked] at hm
  | _ => exact hf.elim
theorem dict2_ok : C1Ok S (.type "dict") dict2D := by
  intro ω G H x v P Q e rx hf q
  cases x with
  | list ds => exact dict_ok ω G H _ v P Q e rx hf q
  | dict es =>
    obtain ⟨hm, hf⟩ := hf
    obtain ⟨a, rfl, z, ⟨kvs, s1, r1⟩ | ⟨kvs, es', rfl, _, _⟩⟩ := noT rx e.le
    · refine ⟨_, fun X hX => call_dictD, a, kvs, rfl, s1, fun p np => ?_⟩
      have e2 := e.new (o := .dK kvs) np
      exact q _ _ _ _ hf e2 (.dK upd_same (RpK.le e2.gg _ r1) z)
    · simp [marked] at hm
  | _ => exact hf.elim
theorem sorted_okF : C1F S (.builtin "sorted") sortedD := by
  intro ω G H x v P Q e rx hf q
  cases x with
  | list ds =>
    obtain ⟨hs, hf⟩ := hf
    obtain ⟨a, as, rfl, s1, r1, z⟩ := rx.list e.le
    refine ⟨fun xs H Q => ∃ a G ds ys, xs = [.ref a] ∧ Rd H a (.lst ys) ∧ Le G H ∧ RpA S.K G ys ds ∧ sortable ds = true ∧ ∀ p zs, H p = none → RpA S.K G zs (sortL ds) → Q (.ref p) (upd H p (.lst zs)), fun X hX => hX.K ▸ call_sortedL hX.room, a, G, ds, as, rfl, s1, e.le, r1, hs, fun p zs np rz => ?_⟩
    exact q _ p _ G _ hf (e.lay np) np (e.le.none np) upd_same (.lst rz (by rw [sortL_len]; exact z))
  | dict es =>
    obtain ⟨⟨hm, hs⟩, hf⟩ := hf
    obtain ⟨a, rfl, z, ⟨kvs, s1, r1⟩ | ⟨kvs, es', rfl, _, _⟩⟩ := noT rx e.le
    · refine ⟨fun xs H Q => ∃ a G es kvs, xs = [.ref a] ∧ Rd H a (.dK kvs) ∧ Le G H ∧ RpK S.K G kvs es ∧ sortable (es.map (·.1)) = true ∧ ∀ p zs, H p = none → RpA S.K G zs (sortL (es.map (·.1))) → Q (.ref p) (upd H p (.lst zs)), fun X hX => hX.K ▸ call_sortedK hX.calm hX.room, a, G, es, kvs, rfl, s1, e.le, r1, hs, fun p zs np rz => ?_⟩
      exact q _ p _ G _ hf (e.lay np) np (e.le.none np) upd_same (.lst rz (by rw [sortL_len, List.length_map]; exact z))
    · simp [marked] at hm
  | _ => exact hf.elim
/-- xs + ys, new -/
def OpF (S : Sg) (g : Value → Value → Sem Value) (f : D → D → M D) : Prop := ∀ (ω : Option Addr) (G H : Hp) (x y : D) (v u : V) (P : D → Prop) (Q : VK), Ext ω S.K G H G H → Rb ω S.K G H v x → Rb ω S.K G H u y → f x y P →
  (∀ d p u G' H', P d → Ext ω S.K G H G' H' → H p = none → G' p = none → H' p = some u → RpO S.K G' u d → Q (.ref p) H') → ROp S g v u H Q
theorem wf_op {op : Operator} {f : D → D → M D} (ho : OpF S (binaryOp op) f) (ha : WB S Γ a ma) (hb : WB S Γ b mb) : WF S Γ (.BinOp a op b pos) (ma.bind fun x => mb.bind fun y => f x y) := by
  intro ω G0 H0 σ G H P Q E hm q
  refine ⟨_, fun X hX => pe_op (ROp.op hX _) (RE.pe hX a) (RE.pe hX b), two ha hb E hm fun x y v u G' H' e r1 r2 hf => ?_⟩
  exact ho ω G' H' x y v u P Q e.self r1 r2 hf fun d p u G2 H2 hP e2 h1 h2 h3 r => q d p u G2 H2 hP (e.trans e2) (EnvOk.back e h1) h2 h3 r
def addLD : D → D → M D
  | .list xs, .list ys => M.need (xs.length + ys.length ≤ 16777216) (M.pure (.list (xs ++ ys)))
  | _, _ => M.fail
theorem add_okF : OpF S (binaryOp .Add) addLD := by
  intro ω G H x y v u P Q e rx ry hf q
  cases x with
  | list xs => cases y with
    | list ys =>
      obtain ⟨a, as, rfl, s1, r1, _⟩ := rx.list e.le
      obtain ⟨b, bs, rfl, s2, r2, _⟩ := ry.list e.le
      have z := line_le hf.1
      refine ⟨_, fun X hX => op_catL, a, b, as, bs, rfl, rfl, s1, s2, by rw [r1.length, r2.length]; exact z, fun p np => ?_⟩
      exact q _ p _ G _ hf.2 (e.lay np) np (e.le.none np) upd_same (.lst (r1.append r2) (by rw [List.length_append]; exact z))
    | _ => exact hf.elim
  | _ => exact hf.elim
def mulLD : D → D → M D
  | .list xs, .int k => M.need (-1000000 ≤ k ∧ k ≤ 1000000 ∧ xs.length * k.toNat ≤ 16777216) (M.pure (.list (List.replicate k.toNat xs).flatten))
  | _, _ => M.fail
theorem mul_okF : OpF S (binaryOp .Mult) mulLD := by
  intro ω G H x y v u P Q e rx ry hf q
  cases x with
  | list xs => cases y with
    | int k =>
      cases ry.int
      obtain ⟨a, as, rfl, s1, r1, _⟩ := rx.list e.le
      obtain ⟨⟨h1, h2, h3⟩, hf⟩ := hf
      have hl := r1.length
      have z := line_le h3
      refine ⟨_, fun X hX => op_repL, a, k, as, rfl, rfl, s1, by omega, by omega, by rw [hl]; exact z, fun p np => ?_⟩
      exact q _ p _ G _ hf (e.lay np) np (e.le.none np) upd_same (.lst (r1.rep k.toNat) (by rw [PyProof.Rows.lm_len_rep_flat, Nat.mul_comm]; exact z))
    | _ => exact hf.elim
  | _ => exact hf.elim
end
end Wp
namespace Wp
open PySem PySem.Spec PyProof.Rows L2

/-! ### the least and the greatest of data -/
def alikeL (ds : List D) : Bool := (ds.all fun x => ds.all fun y => PySem.W.alike x y) && (ds.all fun d => match d with | .none => false | _ => true) && shA 16 ds
def minL : List D → D
  | [] => .none
  | x :: xs => PySem.W.minD x xs
def maxL : List D → D
  | [] => .none
  | x :: xs => PySem.W.maxD x xs
def seqOf : D → M (List D)
  | .list ds => M.pure ds
  | .tuple ds => M.pure ds
  | _ => M.fail
def min1D (x : D) : M D := (seqOf x).bind fun ds => M.need (alikeL ds = true ∧ ds ≠ []) (M.pure (minL ds))
def max1D (x : D) : M D := (seqOf x).bind fun ds => M.need (alikeL ds = true ∧ ds ≠ []) (M.pure (maxL ds))
theorem alikeL_ok {ds : List D} (h : alikeL ds = true) : PySem.W.AlikeAll ds ∧ PyData.canLayAll0 ds = true ∧ PyData.depthAll ds ≤ 16 := by
  unfold alikeL at h
  rw [Bool.and_eq_true, Bool.and_eq_true] at h
  obtain ⟨⟨h1, h2⟩, h3⟩ := h
  rw [List.all_eq_true] at h1 h2
  refine ⟨⟨fun x hx y hy => ?_, fun x hx e => ?_⟩, shA_lay ds 16 h3⟩
  · have := h1 x hx
    rw [List.all_eq_true] at this
    exact this y hy
  · subst e
    have := h2 _ hx
    simp at this
section
variable {S : Sg}
theorem vals_get : ∀ {xs : List V} {us : List Value} {i : Nat} {u : Value}, Vals xs us → us[i]? = some u → ∃ x, xs[i]? = some x ∧ RelV x u
  | _, _, _, _, .nil, e => by simp at e
  | _, _, 0, _, .cons r _, e => by simp at e; subst e; exact ⟨_, rfl, r⟩
  | _, _, i + 1, u, .cons _ t, e => by
    obtain ⟨x, h1, h2⟩ := vals_get (i := i) (u := u) t (by simpa using e)
    exact ⟨x, by simpa using h1, h2⟩
theorem pick_of {X : Cx} {pins : List (Addr × Obj)} {σ : L2.St} {G H : Hp} {s : Shared} (I : L2.Inv X pins σ H s) (l : Le G H) {ds : List D} {ys : List V} {its : List Value} (ra : RpA X.K G ys ds) (rv : Vals ys its) (hc : PyData.canLayAll0 ds = true) {i : Nat} {v : Value} {m : D} {bs : List Addr} {h' : Heap}
    (e : its.toArray[i]? = some v) (r : Reads h' v m bs) (k : ∀ b o, s.heap.get? b = some o → h'.get? b = some o) : ∃ y, RelV y v ∧ Rp X.K G y m := by
  have e' : its[i]? = some v := by simpa using e
  obtain ⟨y, hy, ry⟩ := vals_get rv e'
  obtain ⟨d, hd, rd⟩ := ra.get hy
  have hm : d ∈ ds := List.mem_of_getElem? hd
  have hcd : PyData.canLay0 d = true := by
    have : ∀ (xs : List D), PyData.canLayAll0 xs = true → d ∈ xs → PyData.canLay0 d = true := by
      intro xs
      induction xs with
      | nil => intro _ h; cases h
      | cons x xs ih =>
        intro h hx
        have h' : x.canLay0 = true ∧ PyData.canLayAll0 xs = true := by simpa [PyData.canLayAll0] using h
        rcases List.mem_cons.mp hx with rfl | hx
        · exact h'.1
        · exact ih h'.2 hx
    exact this ds hc hm
  obtain ⟨as, h1⟩ := Dp.reads I d y v (rd.dp l d hcd) ry
  have h2 := PySem.W.reads_keeps k h1
  have := (Reads.unique h2 _ _ r).1
  subst this
  exact ⟨y, ry, rd⟩
def rBest (best : List D → D) (K : PySem.W.Frag) : List V → Hp → VK → Prop := fun xs H Q => ∃ a G ds ys, xs = [.ref a] ∧ ((Rd H a (.lst ys)) ∨ SqT K H a ys) ∧ Le G H ∧ RpA K G ys ds ∧ alikeL ds = true ∧ ds ≠ [] ∧ ∀ y, Rp K G y (best ds) → Q y H
theorem call_minS {X : Cx} {k : Nat} (hc : X.calm = true) (hr : Room k X.A) : CallR X (.builtin "min") (rBest minL X.K) := by
  intro pins s σ H xs us Q I r h
  obtain ⟨a, G, ds, ys, rfl, hs, l, ra, hal, hne, q⟩ := h
  obtain ⟨h1, h2, h3⟩ := alikeL_ok hal
  rw [Vals.ref1 r]
  have hu : X.A.units + 1 + PyData.depthAll ds < cLine := by have := hr.un; omega
  match ds, hne, ra, h1, h2, h3, hu, q with
  | d :: ds, _, ra, h1, h2, h3, hu, q =>
    rcases hs with hs | hs
    · obtain ⟨its, rv, hl, hlen⟩ := I.list (.inl hs)
      obtain ⟨as, hr⟩ := Dp.readsAll I (d :: ds) ys its (ra.dp l _ h2) rv
      refine PySem.W.min_list_data (I.ok.hd hc) hl.isList hr h1 hu fun i v h' tk bs e r k => ?_
      obtain ⟨y, ry, rp⟩ := pick_of I l ra rv h2 e r k
      exact ⟨y, H, I.kept k, ry, q y rp⟩
    · obtain ⟨its, rv, hl, hlen⟩ := I.tuple hs
      obtain ⟨as, hr⟩ := Dp.readsAll I (d :: ds) ys its (ra.dp l _ h2) rv
      refine PySem.W.min_tuple_data (I.ok.hd hc) hl hr h1 hu fun i v h' tk bs e r k => ?_
      obtain ⟨y, ry, rp⟩ := pick_of I l ra rv h2 e r k
      exact ⟨y, H, I.kept k, ry, q y rp⟩
theorem call_maxS {X : Cx} {k : Nat} (hc : X.calm = true) (hr : Room k X.A) : CallR X (.builtin "max") (rBest maxL X.K) := by
  intro pins s σ H xs us Q I r h
  obtain ⟨a, G, ds, ys, rfl, hs, l, ra, hal, hne, q⟩ := h
  obtain ⟨h1, h2, h3⟩ := alikeL_ok hal
  rw [Vals.ref1 r]
  have hu : X.A.units + 1 + PyData.depthAll ds < cLine := by have := hr.un; omega
  match ds, hne, ra, h1, h2, h3, hu, q with
  | d :: ds, _, ra, h1, h2, h3, hu, q =>
    rcases hs with hs | hs
    · obtain ⟨its, rv, hl, hlen⟩ := I.list (.inl hs)
      obtain ⟨as, hr⟩ := Dp.readsAll I (d :: ds) ys its (ra.dp l _ h2) rv
      refine PySem.W.max_list_data (I.ok.hd hc) hl.isList hr h1 hu fun i v h' tk bs e r k => ?_
      obtain ⟨y, ry, rp⟩ := pick_of I l ra rv h2 e r k
      exact ⟨y, H, I.kept k, ry, q y rp⟩
    · obtain ⟨its, rv, hl, hlen⟩ := I.tuple hs
      obtain ⟨as, hr⟩ := Dp.readsAll I (d :: ds) ys its (ra.dp l _ h2) rv
      refine PySem.W.max_tuple_data (I.ok.hd hc) hl hr h1 hu fun i v h' tk bs e r k => ?_
      obtain ⟨y, ry, rp⟩ := pick_of I l ra rv h2 e r k
      exact ⟨y, H, I.kept k, ry, q y rp⟩
theorem best_ok {id : String} {best : List D → D} (hc : ∀ X : Cx, S.Of X → CallR X (.builtin id) (rBest best X.K)) : C1Ok S (.builtin id) (fun x => (seqOf x).bind fun ds => M.need (alikeL ds = true ∧ ds ≠ []) (M.pure (best ds))) := by
  intro ω G H x v P Q e rx hf q
  cases x with
  | list ds =>
    obtain ⟨⟨h1, h2⟩, hf⟩ := hf
    obtain ⟨a, as, rfl, s1, r1, z⟩ := rx.list e.le
    exact ⟨rBest best S.K, fun X hX => hX.K ▸ hc X hX, a, G, ds, as, rfl, .inl s1, e.le, r1, h1, h2, fun y ry => q _ _ _ _ hf e ry⟩
  | tuple ds =>
    obtain ⟨⟨h1, h2⟩, hf⟩ := hf
    obtain ⟨a, as, rfl, s1, r1, z⟩ := rx.tup e.le
    exact ⟨rBest best S.K, fun X hX => hX.K ▸ hc X hX, a, G, ds, as, rfl, .inr s1, e.le, r1, h1, h2, fun y ry => q _ _ _ _ hf e ry⟩
  | _ => exact hf.elim
theorem min1_ok : C1Ok S (.builtin "min") min1D := best_ok fun X hX => call_minS hX.calm hX.room
theorem max1_ok : C1Ok S (.builtin "max") max1D := best_ok fun X hX => call_maxS hX.calm hX.room
end
end Wp
namespace Wp
open PySem PySem.Spec PyProof.Rows L2

/-! ### tuple * n for all n -/
theorem tuple_mulS (l : Addr) (items : Array Value) (n : Nat) (dd : Option Addr) (sl : Array (Option Value)) (x : Int) (u : Tok) (c0 : (decide (x < -(2 ^ 63)) || decide (x ≥ 2 ^ 63)) = false) (c1 : (items.isEmpty || x == 1) = true) :
    Meets (Builtin.«tuple.__mul__» ⟨[.ref l, .int x u], []⟩) (fun _ R s => s.heap.get? l = some { cls := .type "tuple", dict := dd, data := .seq items n, slots := sl } ∧
      R (.ok (.ret (Value.ref l))) s) :=
  .of_wp fun prog w A R s h => by
    obtain ⟨hp, g, d, tk, os⟩ := s
    obtain ⟨hl, h⟩ := h
    have f1 := AutoSeq1.idx_int
    wp_walk using wpAny_loadPart' hl
    repeat (first
      | (refine wpAny_ite_false (decide_eq_false (by rw [c0]; exact Bool.false_ne_true)) ?_; wp_walk using wpAny_loadPart' hl)
      | (refine wpAny_ite_true (decide_eq_true (by rw [c1])) ?_; wp_walk using wpAny_loadPart' hl))
    exact ⟨_, rfl, h⟩
theorem tuple_mulZ (l : Addr) (items : Array Value) (n : Nat) (dd : Option Addr) (sl : Array (Option Value)) (x : Int) (u : Tok) (c0 : (decide (x < -(2 ^ 63)) || decide (x ≥ 2 ^ 63)) = false) (c1 : (items.isEmpty || x == 1) = false) (c2 : (decide (x ≤ 0) || items.isEmpty) = true) :
    Meets (Builtin.«tuple.__mul__» ⟨[.ref l, .int x u], []⟩) (fun _ R s => s.heap.get? l = some { cls := .type "tuple", dict := dd, data := .seq items n, slots := sl } ∧
      R (.ok (.ret (Value.ref s.heap.objs.size))) { s with heap := s.heap.push { cls := Value.type "tuple", data := Data.seq #[] }, toks := s.toks }) :=
  .of_wp fun prog w A R s h => by
    obtain ⟨hp, g, d, tk, os⟩ := s
    obtain ⟨hl, h⟩ := h
    have f1 := AutoSeq1.idx_int
    wp_walk using wpAny_loadPart' hl
    repeat (first
      | (refine wpAny_ite_false (decide_eq_false (by rw [c0]; exact Bool.false_ne_true)) ?_; wp_walk using wpAny_loadPart' hl)
      | (refine wpAny_ite_false (decide_eq_false (by rw [c1]; exact Bool.false_ne_true)) ?_; wp_walk using wpAny_loadPart' hl)
      | (refine wpAny_ite_true (decide_eq_true (by rw [c2])) ?_; wp_walk using wpAny_loadPart' hl))
    exact ⟨_, rfl, h⟩
def rRepA (K : PySem.W.Frag) : R2 := fun x y H Q => ∃ l k xs, x = .ref l ∧ y = .int k ∧ SqT K H l xs ∧ -1000 ≤ k ∧ k ≤ 1000 ∧ xs.length ≤ 1000 ∧ ((xs = [] ∨ k = 1) → Q (.ref l) H) ∧
  (xs ≠ [] → k ≠ 1 → ∀ p, H p = none → Q (.ref p) (upd H p (.tup (List.replicate k.toNat xs).flatten)))
theorem op_repA {X : Cx} : OpR X (binaryOp .Mult) (rRepA X.K) := by
  intro pins s σ H x y v u Q I rx ry h
  obtain ⟨l, k, xs, rfl, rfl, hT, h1, h2, hz, q1, q2⟩ := h
  by_cases hb : xs ≠ [] ∧ 2 ≤ k
  · exact op_repT pins s σ H _ _ v u Q I rx ry ⟨l, k, xs, rfl, rfl, hT, hb.1, hb.2, h2, hz, q2 hb.1 (by omega)⟩
  cases rx
  obtain ⟨t, rfl⟩ := ry
  obtain ⟨its, r, ⟨⟨cls, dd, data, sl⟩, ho, hc, n, hd⟩, hs⟩ := I.tuple hT
  simp only at hc hd
  subst hc hd
  have hle : its.length = xs.length := r.length.symm
  have c0 : (decide (k < -(2 ^ 63)) || decide (k ≥ 2 ^ 63)) = false := by
    rw [decide_eq_false (by omega), decide_eq_false (by omega)] <;> rfl
  by_cases hs : xs = [] ∨ k = 1
  · have c1 : (its.toArray.isEmpty || k == 1) = true := by
      rcases hs with hs | hs
      · subst hs
        have : its = [] := List.eq_nil_of_length_eq_zero hle
        subst this; rfl
      · subst hs; simp
    refine wpAny_binaryOp_repeat_ref (T := "tuple") (U := "int") (by decide) ⟨_, ho, rfl⟩ (fun s' => typeIs_int s' k t) noFill_tuple_mul F.fills_int_mul F.slot_int_rmul repeat_tuple F.slot_int_index.lookup
      (call_meets F.slot_int_rmul (typeIs_int s k t) F.entry_int_rmul (F.args_int_rmul_2 _ _) (int_rmul_tuple k t l its.toArray n dd sl)
        ⟨ho, rfl, ⟨_, ho, rfl⟩, call_meets F.slot_tuple_mul ⟨_, ho, rfl⟩ F.entry_tuple_mul (F.args_tuple_mul_2 _ _) (tuple_mulS l its.toArray n dd sl k t c0 c1) ⟨ho, ?_⟩⟩)
    exact ⟨.ref l, H, I, rfl, q1 hs⟩
  · have hne : xs ≠ [] := fun z => hs (.inl z)
    have hk1 : k ≠ 1 := fun z => hs (.inr z)
    have hk : k ≤ 0 := by
      have : ¬ 2 ≤ k := fun z => hb ⟨hne, z⟩
      omega
    have hi : its.toArray.isEmpty = false := by
      cases its with
      | nil => exact absurd (List.eq_nil_of_length_eq_zero hle.symm) hne
      | cons a b => rfl
    have c1 : (its.toArray.isEmpty || k == 1) = false := by
      rw [hi, Bool.false_or]
      exact beq_eq_false_iff_ne.mpr hk1
    have c2 : (decide (k ≤ 0) || its.toArray.isEmpty) = true := by
      rw [decide_eq_true hk]; rfl
    refine wpAny_binaryOp_repeat_ref (T := "tuple") (U := "int") (by decide) ⟨_, ho, rfl⟩ (fun s' => typeIs_int s' k t) noFill_tuple_mul F.fills_int_mul F.slot_int_rmul repeat_tuple F.slot_int_index.lookup
      (call_meets F.slot_int_rmul (typeIs_int s k t) F.entry_int_rmul (F.args_int_rmul_2 _ _) (int_rmul_tuple k t l its.toArray n dd sl)
        ⟨ho, rfl, ⟨_, ho, rfl⟩, call_meets F.slot_tuple_mul ⟨_, ho, rfl⟩ F.entry_tuple_mul (F.args_tuple_mul_2 _ _) (tuple_mulZ l its.toArray n dd sl k t c0 c1 c2) ⟨ho, ?_⟩⟩)
    have q := q2 hne hk1
    have e : k.toNat = 0 := by omega
    rw [e] at q
    refine ⟨.ref s.heap.objs.size, _, I.laid (t' := s.toks) (o := .tup []) (fun b ob q => Heap.get?_push_of_some _ q) (Nat.le_refl _) ?_, rfl, q _ (I.hok.fresh (Nat.le_refl _))⟩
    exact ⟨Nat.zero_le _, _, .nil, IsTup.new _ _⟩
/-- a * b: numbers, lists, tuples -/
def mul2D : D → D → M D
  | .tuple xs, .int k => M.need (-1000 ≤ k ∧ k ≤ 1000 ∧ xs.length ≤ 1000) (M.pure (.tuple (List.replicate k.toNat xs).flatten))
  | x, y => mulD x y
section
variable {S : Sg} {Γ : En} {a b : Expr} {ma mb : M D} {pos : Pos}
theorem mul2_ok : OpOk S (binaryOp .Mult) mul2D := by
  intro ω G H x y v u P Q e rx ry hf q
  cases x with
  | tuple xs => cases y with
    | int k =>
      cases ry.int
      obtain ⟨a, as, rfl, s1, r1, z⟩ := rx.tup e.le
      obtain ⟨⟨h1, h2, h3⟩, hf⟩ := hf
      have hl := r1.length
      refine ⟨rRepA S.K, fun X hX => hX.K ▸ op_repA, a, k, as, rfl, rfl, s1, h1, h2, by omega, fun hs => ?_, fun _ _ p np => ?_⟩
      · refine q _ _ _ _ hf e ?_
        have : (List.replicate k.toNat xs).flatten = xs := by
          rcases hs with hs | hs
          · have : xs = [] := r1.nil_iff.mp hs
            subst this; simp
          · subst hs; simp
        rw [this]
        exact rb_tup rx
      · obtain ⟨e2, r⟩ := new_tup e np (r1.rep k.toNat) (by
          rw [PyProof.Rows.lm_len_rep_flat, sizeLine_eq]
          have a1 : k.toNat * xs.length ≤ 1000 * 1000 := Nat.mul_le_mul (by omega) h3
          omega)
        exact q _ _ _ _ hf e2 r
    | _ => exact mul_ok ω G H _ _ v u P Q e rx ry hf q
  | _ => exact mul_ok ω G H _ _ v u P Q e rx ry hf q

/-! ### sums of tuples -/
theorem sum_rawT {prog : Program} {w : World} {A : Around} {E : Value → Shared → Prop} {s : Shared} {l : Addr} {its : List Value} {ns : List Int} {Q : Value → Shared → Prop} (hh : A.handled = none) (hl : s.heap.IsTuple l its.toArray) (hi : IntsAre its ns)
    (h : ∀ h' tk t', (∀ b o, s.heap.get? b = some o → h'.get? b = some o) → Q (.int ns.sum t') { s with heap := h', toks := tk }) : wpAny (model prog w) A (call (.builtin "sum") [.ref l]) Q E s := by
  obtain ⟨xs, e⟩ := hi.allInts.items
  have hn : numsOf (intItems xs).toList = ns := by rw [← e]; exact hi.numsOf
  rw [nums_intItems] at hn
  rw [e] at hl
  refine PySem.W.ktm_sumG hh hl fun h' tk t' hk => ?_
  have := h h' tk t' hk
  rw [preSum_eq, List.take_of_length_le (by simp), hn]; exact this
def rSumT (K : PySem.W.Frag) : List V → Hp → VK → Prop := fun vs H Q => ∃ (a : Addr) (ns : List Int), vs = [V.ref a] ∧ SqT K H a (ns.map V.int) ∧ Q (.int ns.sum) H
theorem cr_sumT {X : Cx} (hc : X.calm = true) : CallR X (.builtin "sum") (rSumT X.K) := by
  intro pins s σ H vs us Q I r h
  obtain ⟨a, ns, rfl, hs, q⟩ := h
  obtain ⟨its, rv, hl, _⟩ := I.tuple hs
  rw [Vals.ref1 r]
  exact sum_rawT (I.ok.hd hc) hl rv.ints fun h' tk t' hk => ⟨.int _, H, I.kept hk, ⟨_, rfl⟩, q⟩
def sum1D (x : D) : M D := (seqOf x).bind fun ds => (M.opt (asInts ds)).bind fun ns => M.pure (.int ns.sum)
theorem sum1_ok : C1Ok S (.builtin "sum") sum1D := by
  intro ω G H x v P Q e rx hf q
  cases x with
  | list ds =>
    obtain ⟨ns, h1, hf⟩ := hf
    exact sum_ok ω G H (.list ds) v P Q e rx ⟨ns, h1, hf⟩ q
  | tuple ds =>
    obtain ⟨ns, h1, hf⟩ := hf
    obtain ⟨a, as, rfl, s1, r1, z⟩ := rx.tup e.le
    have e2 := asInts_some h1
    subst e2
    have e3 := r1.ints
    subst e3
    exact ⟨rSumT S.K, fun X hX => hX.K ▸ cr_sumT hX.calm, a, ns, rfl, s1, q _ _ _ _ hf e (.int _)⟩
  | _ => exact hf.elim

/-! ### xs.index(y), xs a list -/
def indexD : D → D → M D
  | .list ds, y => M.need (sh 15 (.list ds) = true ∧ sh 15 y = true) ((M.opt (ds.findIdx? fun z => PyData.eqv z y)).bind fun j => M.pure (.int (j : Nat)))
  | _, _ => M.fail
theorem findIdx_spec {ds : List D} {p : D → Bool} {j : Nat} (h : ds.findIdx? p = some j) : ∃ z, ds[j]? = some z ∧ p z = true ∧ ∀ (m : Nat) (z' : D), m < j → ds[m]? = some z' → p z' = false := by
  obtain ⟨h1, h2, h3⟩ := List.findIdx?_eq_some_iff_getElem.mp h
  refine ⟨ds[j], List.getElem?_eq_getElem h1, h2, fun m z' hm hz => ?_⟩
  have := h3 m hm
  have hm' : m < ds.length := by omega
  rw [List.getElem?_eq_getElem hm'] at hz
  cases hz
  simpa using this
theorem sh_mono15 {d : D} (h : sh 15 d = true) : SeqAt.shaped d = true := by
  have := sh_lay d 15 h
  unfold SeqAt.shaped
  rw [this.1, decide_eq_true (by omega)]
  rfl
theorem we_indexL {o : Expr} {apos cpos : Pos} (ho : WB S Γ o ma) (ha : WE S Γ a mb) (hm1 : Meth1 o "index" apos a cpos) : WE S Γ (.Call (.Attribute o "index" apos) [a] [] cpos) (ma.bind fun x => M.need (isL x = true) (mb.bind fun y => indexD x y)) := by
  intro ω G0 H0 σ G H P Q E hm q
  refine ⟨tBM S.K "list" (rIndexD S.K) (RE S o) (tCons (RE S a) tNil), fun X hX => ?_, ?_⟩
  · have h := pe_bm (X := X) PySem.F.plainAttrs_list PySem.F.slot_list_index PySem.F.type_list_index (mt_indexD (by have := hX.room.un; omega)) (RE.pe hX o) (pa_cons (RE.pe hX a) pa_nil (hm1.star _)) (hm1.base _) (hm1.few _) hm1.line (hm1.star _) (hm1.plain _)
    rw [hX.K] at h; exact h
  refine ho ω G0 H0 σ G H _ _ E hm fun x v G1 H1 ⟨hx, hP⟩ e1 r1 => ?_
  cases x with
  | list ds =>
    obtain ⟨p, as, rfl, s1, ra, z⟩ := r1.list e1.le
    refine ⟨.inl ⟨rfl, _, .inl s1⟩, ?_⟩
    refine ha ω G0 H0 σ G1 H1 _ _ (E.step e1) hP fun y u G2 H2 hy e2 r2 => ?_
    obtain ⟨⟨h1, h2⟩, j, hj, hP2⟩ := hy
    obtain ⟨z', g1, g2, g3⟩ := findIdx_spec hj
    have r1' := r1.ext e2
    have lay : PyData.canLay0 (.list ds) = true := (sh_lay _ _ h1).1
    exact ⟨p, u, y, ds, j, z', rfl, rfl, r1'.dp e2.le lay, r2.dp e2.le _ (sh_lay _ _ h2).1, sh_mono15 h1, sh_mono15 h2, g1, g2, g3, q _ _ _ _ hP2 (e1.trans e2) (.int _)⟩
  | _ => simp [isL] at hx
end
end Wp
namespace Wp
open PySem PySem.Spec PyProof.Rows L2

/-! ### sign by sign -/
def signsD (x : Str) : List D := x.cps.toList.map fun c => .str ⟨#[c]⟩
def asSg : D → M (List D)
  | .str x => M.need (x.cps.size ≤ 16777216) (M.pure (signsD x))
  | _ => M.fail
section
variable {S : Sg} {Γ : En} {ow : Bool} {tg e a b c o : Expr} {m ma mb mc : M D} {pos : Pos}
theorem signs_len (x : Str) : (signsD x).length = x.cps.size := by simp [signsD]
theorem wi_str (he : WB S Γ e m) : WI S Γ ow tg e (m.bind fun x => asSg x) := by
  intro ω G0 H0 σ G H P R E hm q
  refine ⟨_, fun X hX => pi_str (RE.pe hX e), he ω G0 H0 σ G H _ _ E hm fun d v G' H' hP e1 r => ?_⟩
  cases d with
  | str x =>
    have := r.str
    subst this
    obtain ⟨hz, hP⟩ := hP
    have hl := signs_len x
    refine ⟨x, rfl, q _ _ G' H' hP e1 ⟨by rw [hl]; exact line_le hz, fun i Gc Hc _ _ _ hi => ?_, fun Gc Hc _ _ _ => ?_, fun i Gc Hc v H' hi h1 h2 _ y => ?_⟩⟩
    · show i < x.cps.size
      rw [← hl]; exact hi
    · show x.cps.size ≤ (signsD x).length
      rw [hl]; exact Nat.le_refl _
    · obtain ⟨rfl, c, hc, rfl⟩ := y
      refine ⟨Gc, h2, ?_⟩
      have hi' : i < x.cps.size := by rw [← hl]; exact hi
      have : (signsD x)[i] = .str ⟨#[c]⟩ := by
        rw [Array.getElem?_eq_getElem hi'] at hc
        cases hc
        simp [signsD]
      rw [this]
      exact .str _
  | _ => exact hP.elim

end

theorem wi_nf {S : Sg} {Γ Γ' : En} {ow : Bool} {tg it : Expr} {m : M (List D)} (h : Γ = Γ') (k : WI S Γ' ow tg it m) : WI S Γ ow tg it m := h ▸ k

/-! ### while that is left -/
def M.iterF {σ : Type} (c : σ → M Bool) (f : σ → M (Fl σ σ)) : Nat → σ → M (Fl σ Empty)
  | 0, _ => M.fail
  | n + 1, s => M.bind (c s) fun b => bif b then M.bind (f s) fun r => (match r with
    | .nx s' => M.iterF c f n s'
    | .ct s' => M.iterF c f n s'
    | .bk s' => M.pure (.nx s')
    | .rt d => M.pure (.rt d)) else M.pure (.nx s)
def M.whileF {σ : Type} (c : σ → M Bool) (f : σ → M (Fl σ σ)) (s : σ) : M (Fl σ Empty) := fun P => ∃ n, M.iterF c f n s P
section
variable {S : Sg} {Γ : En} {c : Expr} {pos : Pos} {σt ρ : Type} {body rest : List Stmt} {ι : ρ → Out}
theorem w_whileF {tc : σt → M Bool} {fb : σt → M (Fl σt σt)} {k : σt → M ρ} {kr : D → M ρ} (gs : σt → En) (s0 : σt) (ks : List Bool) (h0 : gs s0 = maskE ks Γ) (hl : ks.length = Γ.length) (hc : ∀ s, WT S (gs s) c (tc s)) (hb : ∀ s, W S (gs s) body (fb s) (flO gs)) (hr : ∀ s, W S (gs s) rest (k s) ι) (hf : RtOk ι kr) :
    W S Γ (.While c body [] pos :: rest) ((M.whileF tc fb s0).bind (Fl.go k kr)) ι := by
  intro ω G0 H0 σ G H P Dn E hm q
  refine rs_cons (fun X hX => ps_while (by rw [hX.xe]; exact PassesOwn.never) (RT.pt hX c) (RS.ps hX body)) ?_
  obtain ⟨n, hn⟩ := hm
  refine ⟨fun n σ H => ∃ s G, EnvOk ω S.K G0 H0 (gs s) σ G H ∧ M.iterF tc fb n s (fun r => Fl.go k kr r P), ⟨n, s0, G, by rw [h0]; exact E.mask ks hl, hn⟩, ?_⟩
  rintro m σ H ⟨s, Gc, Ec, wp⟩
  cases m with
  | zero => exact False.elim wp
  | succ m =>
    refine hc s ω G0 H0 σ Gc H _ _ Ec wp fun b G1 H1 hb1 e1 => ?_
    cases b with
    | true =>
      rw [if_pos rfl]
      refine ⟨fun σ H => ∃ s G, EnvOk ω S.K G0 H0 (gs s) σ G H ∧ M.iterF tc fb m s (fun r => Fl.go k kr r P), fun σ' H' hN => ⟨m, Nat.lt_succ_self m, hN⟩, ?_⟩
      refine hb s ω G0 H0 σ G1 H1 _ _ (Ec.step e1) hb1 fun r hr' => ?_
      cases r with
      | nx s' => exact fun σ' G' H' E' => ⟨s', G', E', hr'⟩
      | ct s' => exact fun σ' G' H' E' => ⟨s', G', E', hr'⟩
      | bk s' => exact fun σ' G' H' E' => hr s' ω G0 H0 σ' G' H' P Dn E' hr' q
      | rt d =>
        intro v G' H' e' r'
        obtain ⟨r, h1, h2⟩ := hf d P hr'
        have z := q r h1
        rw [h2] at z
        exact z v G' H' e' r'
    | false =>
      rw [if_neg Bool.false_ne_true]
      exact hr s ω G0 H0 σ G1 H1 P Dn (Ec.step e1) hb1 q
end
/-! ### a comprehension given to a name that inner blocks read -/
theorem sw_cell {elt : Expr} {gs : List Comprehension} {scope : Scope} {pos py : Pos} {y : Str} {l : Nat} {env : Env} (h : env.scope.names.lookup y = some .cell) : swapsWith (.ListComp elt gs scope pos) (some (.Name y py)) l env = pure false := by
  have k : env.kindOf y = some .cell := h
  have e : (env.kindOf y == some NameKind.local) = false := by rw [k]; rfl
  unfold swapsWith
  simp only [e, Bool.and_false, Bool.false_and]
section
variable {S : Sg} {Γ : En} {me : M D} {ρ : Type} {ι : ρ → Out} {elt : Expr} {gs : List Comprehension} {scope : Scope} {p pos pos' : Pos} {rest : List Stmt}
theorem w_setC {i : Nat} {x : Str} {k : D → M ρ} (hx : SetAt S i x) (he : WE S Γ (.ListComp elt gs scope p) me) (hc : S.sc.names.lookup x = some .cell) (hk : ∀ d, W S (Γ.set i (some (.val d))) rest (k d) ι) :
    W S Γ (.Assign [.Name x pos'] (.ListComp elt gs scope p) pos :: rest) (me.bind k) ι := by
  intro ω G0 H0 σ G H P Dn E hm q
  refine rs_cons (fun X hX => ps_set (i := i) (by rw [hX.N]; exact hX.nd) (by rw [hX.N]; exact hx.n) (by rw [hX.sc]; exact hx.l) (RE.pe hX (.ListComp elt gs scope p)) (sw_cell (by rw [hX.sc]; exact hc)) (hx.fx hX)) ?_
  refine he ω G0 H0 σ G H _ _ E hm fun d v G1 H1 hP e1 r1 => ?_
  exact hk d ω G0 H0 _ G1 H1 P Dn ((E.step e1).putV r1) hP q
theorem w_setFC {i : Nat} {x : Str} {k : D → M ρ} (hx : SetAt S i x) (he : WF S Γ (.ListComp elt gs scope p) me) (hc : S.sc.names.lookup x = some .cell) (hk : ∀ d, W S (Γ.set i (some (.own d))) rest (k d) ι) :
    W S Γ (.Assign [.Name x pos'] (.ListComp elt gs scope p) pos :: rest) (me.bind k) ι := by
  intro ω G0 H0 σ G H P Dn E hm q
  refine rs_cons (fun X hX => ps_set (i := i) (by rw [hX.N]; exact hX.nd) (by rw [hX.N]; exact hx.n) (by rw [hX.sc]; exact hx.l) (RE.pe hX (.ListComp elt gs scope p)) (sw_cell (by rw [hX.sc]; exact hc)) (hx.fx hX)) ?_
  refine he ω G0 H0 σ G H _ _ E hm fun d p u G1 H1 hP e1 h1 h2 h3 r1 => ?_
  exact hk d ω G0 H0 _ G1 H1 P Dn (E.putO e1 h1 h2 h3 r1) hP q
end
end Wp
namespace Wp
open PySem PySem.Spec PyProof.Rows L2

/-! ### the order of data -/
abbrev dlt (x y : D) : Bool := PySem.W.dataLt x y
theorem dlt_irrefl (x : D) : dlt x x = false := lex_irrefl (O := itemOrd) _
theorem dlt_trans {x y z : D} (h : dlt x y = true) (k : dlt y z = true) : dlt x z = true := lex_trans (O := itemOrd) _ _ _ h k
theorem dlt_neg {x z : D} (y : D) (h : dlt x z = true) : dlt x y = true ∨ dlt y z = true := lex_negTrans (O := itemOrd) _ _ _ h
theorem dlt_asymm {x y : D} (h : dlt x y = true) : dlt y x = false := by
  cases q : dlt y x with
  | false => rfl
  | true => have := dlt_trans h q; rw [dlt_irrefl] at this; cases this
theorem nlt_trans {x y z : D} (h : dlt x y = false) (k : dlt y z = false) : dlt x z = false := by
  cases q : dlt x z with
  | false => rfl
  | true =>
    rcases dlt_neg y q with e | e
    · rw [h] at e; cases e
    · rw [k] at e; cases e
mutual
theorem alike_eqv_eq : ∀ (x y : D), PySem.W.alike x y = true → PyData.eqv x y = true → x = y
  | .none, y, h, e => by cases y <;> simp_all [PySem.W.alike, PyData.eqv]
  | .bool a, y, h, e => by cases y <;> simp_all [PySem.W.alike, PyData.eqv]
  | .int a, y, h, e => by cases y <;> simp_all [PySem.W.alike, PyData.eqv]
  | .str a, y, h, e => by cases y <;> simp_all [PySem.W.alike, PyData.eqv]
  | .list xs, y, h, e => by
    cases y with
    | list ys =>
      have h' : PySem.W.alikeAll xs ys = true := by simpa [PySem.W.alike] using h
      have e' : PyData.eqvAll xs ys = true := by simpa [PyData.eqv] using e
      rw [alikeAll_eqv_eq xs ys h' e']
    | _ => simp [PySem.W.alike] at h
  | .tuple xs, y, h, e => by
    cases y with
    | tuple ys =>
      have h' : PySem.W.alikeAll xs ys = true := by simpa [PySem.W.alike] using h
      have e' : PyData.eqvAll xs ys = true := by simpa [PyData.eqv] using e
      rw [alikeAll_eqv_eq xs ys h' e']
    | _ => simp [PySem.W.alike] at h
  | .dict a, y, h, e => by cases y <;> simp_all [PySem.W.alike]
theorem alikeAll_eqv_eq : ∀ (xs ys : List D), PySem.W.alikeAll xs ys = true → PyData.eqvAll xs ys = true → xs = ys
  | [], [], _, _ => rfl
  | [], y :: ys, _, e => by simp [PyData.eqvAll] at e
  | x :: xs, [], _, e => by simp [PyData.eqvAll] at e
  | x :: xs, y :: ys, h, e => by
    obtain ⟨h1, h2⟩ := PySem.W.alike_all_cons h
    rw [PySem.W.eqv_all_cons, Bool.and_eq_true] at e
    rw [alike_eqv_eq x y h1 e.1, alikeAll_eqv_eq xs ys h2 e.2]
end
theorem dlt_eq {x y : D} (h : PySem.W.alike x y = true) (h1 : dlt x y = false) (h2 : dlt y x = false) : x = y := by
  have ht := lex_total (O := itemOrd) _ _ h1 h2
  refine alike_eqv_eq x y h ?_
  cases e : PyData.eqv x y with
  | true => rfl
  | false =>
    have := (PySem.W.toks_eqv x y h).2 e [] [.inl 0]
    rw [List.append_nil] at this
    have e2 : lexLt itemOrd (PySem.W.keyToks x) (PySem.W.keyToks y) = false := h1
    rw [e2, ← ht] at this
    have e3 := PySem.W.lex_pre (PySem.W.keyToks x) [] [.inl 0]
    rw [List.append_nil] at e3
    rw [e3] at this
    exact absurd this (by decide)
theorem dlt_int (a b : Int) : dlt (.int a) (.int b) = decide (a < b) := PySem.W.dataLt_int a b
/-! ### least, greatest -/
theorem foldMin_spec (x : D) : ∀ (xs : List D) (a : D), (xs.foldl (fun a y => if PySem.W.dataLt y a = true then y else a) a ∈ a :: xs) ∧ (∀ y ∈ a :: xs, dlt y (xs.foldl (fun a y => if PySem.W.dataLt y a = true then y else a) a) = false)
  | [], a => ⟨by simp, fun y hy => by simp at hy; subst hy; exact dlt_irrefl _⟩
  | z :: xs, a => by
    rw [List.foldl_cons]
    obtain ⟨h1, h2⟩ := foldMin_spec x xs (if PySem.W.dataLt z a = true then z else a)
    refine ⟨?_, fun y hy => ?_⟩
    · rcases List.mem_cons.mp h1 with e | e
      · rw [e]; split <;> simp
      · exact List.mem_cons_of_mem _ (List.mem_cons_of_mem _ e)
    · have hb := h2 _ (List.mem_cons_self)
      rcases List.mem_cons.mp hy with rfl | hy
      · by_cases c : PySem.W.dataLt z y = true
        · rw [if_pos c] at hb ⊢
          exact nlt_trans (dlt_asymm c) hb
        · rw [if_neg c] at hb ⊢
          exact hb
      · rcases List.mem_cons.mp hy with rfl | hy
        · by_cases c : PySem.W.dataLt y a = true
          · rw [if_pos c] at hb ⊢
            exact hb
          · rw [if_neg c] at hb ⊢
            have c' : dlt y a = false := by simpa using c
            exact nlt_trans c' hb
        · exact h2 y (List.mem_cons_of_mem _ hy)
theorem foldMax_spec (x : D) : ∀ (xs : List D) (a : D), (xs.foldl (fun a y => if PySem.W.dataLt a y = true then y else a) a ∈ a :: xs) ∧ (∀ y ∈ a :: xs, dlt (xs.foldl (fun a y => if PySem.W.dataLt a y = true then y else a) a) y = false)
  | [], a => ⟨by simp, fun y hy => by simp at hy; subst hy; exact dlt_irrefl _⟩
  | z :: xs, a => by
    rw [List.foldl_cons]
    obtain ⟨h1, h2⟩ := foldMax_spec x xs (if PySem.W.dataLt a z = true then z else a)
    refine ⟨?_, fun y hy => ?_⟩
    · rcases List.mem_cons.mp h1 with e | e
      · rw [e]; split <;> simp
      · exact List.mem_cons_of_mem _ (List.mem_cons_of_mem _ e)
    · have hb := h2 _ (List.mem_cons_self)
      rcases List.mem_cons.mp hy with rfl | hy
      · by_cases c : PySem.W.dataLt y z = true
        · rw [if_pos c] at hb ⊢
          exact nlt_trans hb (dlt_asymm c)
        · rw [if_neg c] at hb ⊢
          exact hb
      · rcases List.mem_cons.mp hy with rfl | hy
        · by_cases c : PySem.W.dataLt a y = true
          · rw [if_pos c] at hb ⊢
            exact hb
          · rw [if_neg c] at hb ⊢
            have c' : dlt a y = false := by simpa using c
            exact nlt_trans hb c'
        · exact h2 y (List.mem_cons_of_mem _ hy)
theorem minL_spec {ds : List D} (h : ds ≠ []) : minL ds ∈ ds ∧ ∀ y ∈ ds, dlt y (minL ds) = false := by
  cases ds with
  | nil => exact absurd rfl h
  | cons x xs => exact foldMin_spec x xs x
theorem maxL_spec {ds : List D} (h : ds ≠ []) : maxL ds ∈ ds ∧ ∀ y ∈ ds, dlt (maxL ds) y = false := by
  cases ds with
  | nil => exact absurd rfl h
  | cons x xs => exact foldMax_spec x xs x
theorem minL_eq {ds : List D} {m : D} (hm : m ∈ ds) (hl : ∀ y ∈ ds, dlt y m = false) (ha : ∀ y ∈ ds, PySem.W.alike m y = true) : minL ds = m := by
  obtain ⟨h1, h2⟩ := minL_spec (List.ne_nil_of_mem hm)
  exact (dlt_eq (ha _ h1) (h2 m hm) (hl _ h1)).symm
theorem maxL_eq {ds : List D} {m : D} (hm : m ∈ ds) (hl : ∀ y ∈ ds, dlt m y = false) (ha : ∀ y ∈ ds, PySem.W.alike m y = true) : maxL ds = m := by
  obtain ⟨h1, h2⟩ := maxL_spec (List.ne_nil_of_mem hm)
  exact (dlt_eq (ha _ h1) (hl _ h1) (h2 m hm)).symm
theorem minL_ints {n : Int} {ns : List Int} : minL ((n :: ns).map .int) = .int (ns.foldl min n) := PySem.W.minD_ints n ns
theorem maxL_ints {n : Int} {ns : List Int} : maxL ((n :: ns).map .int) = .int (ns.foldl max n) := PySem.W.maxD_ints n ns
/-! ### tuples -/
theorem alike_tup {xs ys : List D} : PySem.W.alike (.tuple xs) (.tuple ys) = PySem.W.alikeAll xs ys := by simp [PySem.W.alike]
theorem alike_ints : ∀ xs ys : List Int, PySem.W.alikeAll (xs.map .int) (ys.map .int) = true
  | [], [] => by simp [PySem.W.alikeAll]
  | [], _ :: _ => by simp [PySem.W.alikeAll]
  | _ :: _, [] => by simp [PySem.W.alikeAll]
  | x :: xs, y :: ys => by
    have := alike_ints xs ys
    simp [PySem.W.alikeAll, PySem.W.alike, this]
theorem alike_strs : ∀ xs ys : List Str, PySem.W.alikeAll (xs.map .str) (ys.map .str) = true
  | [], [] => by simp [PySem.W.alikeAll]
  | [], _ :: _ => by simp [PySem.W.alikeAll]
  | _ :: _, [] => by simp [PySem.W.alikeAll]
  | x :: xs, y :: ys => by
    have := alike_strs xs ys
    simp [PySem.W.alikeAll, PySem.W.alike, this]
theorem dlt_cons {x y : D} {xs ys : List D} (h : PySem.W.alike x y = true) : dlt (.tuple (x :: xs)) (.tuple (y :: ys)) = (dlt x y || (PyData.eqv x y && dlt (.tuple xs) (.tuple ys))) := by
  unfold dlt
  rw [PySem.W.dataLt_tuple, PySem.W.dataLt_tuple]
  cases e : PyData.eqv x y with
  | true =>
    have := alike_eqv_eq x y h e
    subst this
    rw [PySem.W.dataLt_all_yes h e]
    have := dlt_irrefl x
    unfold dlt at this
    simp [this, e]
  | false =>
    rw [PySem.W.dataLt_all_no h e]
    have : x ≠ y := fun z => by
      subst z
      rw [PySem.W.eqv_refl_alike x h] at e
      cases e
    simp [this, e]
theorem dlt_nil {ys : List D} : dlt (.tuple []) (.tuple ys) = !ys.isEmpty := by
  unfold dlt
  rw [PySem.W.dataLt_tuple]
  cases ys with
  | nil => decide +kernel
  | cons y ys =>
    rw [PySem.W.toks_all_cons]
    show lexLt itemOrd [Sum.inl 0] (Sum.inl 1 :: _) = true
    rw [lex_cons]
    have : itemOrd.blt (Sum.inl 0) (Sum.inl 1) = true := by decide +kernel
    rw [this]; rfl
theorem dlt_cons_nil {x : D} {xs : List D} : dlt (.tuple (x :: xs)) (.tuple []) = false := by
  have : dlt (.tuple []) (.tuple (x :: xs)) = true := by rw [dlt_nil]; rfl
  exact dlt_asymm this
theorem dlt_int2 {a b : Int} {xs ys : List D} : dlt (.tuple (.int a :: xs)) (.tuple (.int b :: ys)) = (decide (a < b) || (decide (a = b) && dlt (.tuple xs) (.tuple ys))) := by
  rw [dlt_cons (by simp [PySem.W.alike]), dlt_int]
  have : PyData.eqv (.int a) (.int b) = decide (a = b) := by simp [PyData.eqv]; rfl
  rw [this]
/-! ### sorted lists -/
theorem dataLe_iff (x y : D) : PySem.W.dataLe false id x y = !dlt y x := rfl
theorem sortL_sorted (ds : List D) : (sortL ds).Pairwise fun x y => dlt y x = false := by
  have h := List.pairwise_mergeSort (le := PySem.W.dataLe false id) (l := ds) (fun a b c h1 h2 => ?_) (fun a b => ?_)
  · refine List.Pairwise.imp ?_ h
    intro a b hab
    rw [dataLe_iff] at hab
    simpa using hab
  · rw [dataLe_iff] at h1 h2 ⊢
    simp at h1 h2 ⊢
    exact nlt_trans h2 h1
  · rw [dataLe_iff, dataLe_iff]
    cases q : dlt b a with
    | false => rfl
    | true => rw [dlt_asymm q]; rfl
/-- sorted lists of the same things are one -/
theorem sorted_unique : ∀ {xs ys : List D}, xs.Perm ys → xs.Pairwise (fun x y => dlt y x = false) → ys.Pairwise (fun x y => dlt y x = false) → (∀ x ∈ xs, ∀ y ∈ xs, PySem.W.alike x y = true) → xs = ys
  | [], ys, p, _, _, _ => (List.nil_perm.mp p).symm
  | x :: xs, [], p, _, _, _ => absurd p.length_eq (by simp)
  | x :: xs, y :: ys, p, h1, h2, ha => by
    have hy : y ∈ x :: xs := p.mem_iff.mpr (List.mem_cons_self)
    have hx : x ∈ y :: ys := p.mem_iff.mp (List.mem_cons_self)
    have e : x = y := by
      rw [List.pairwise_cons] at h1 h2
      refine dlt_eq (ha _ (List.mem_cons_self) _ hy) ?_ ?_
      · rcases List.mem_cons.mp hx with rfl | hx
        · exact dlt_irrefl _
        · exact h2.1 x hx
      · rcases List.mem_cons.mp hy with rfl | hy
        · exact dlt_irrefl _
        · exact h1.1 y hy
    subst e
    rw [List.pairwise_cons] at h1 h2
    rw [sorted_unique (List.perm_cons x |>.mp p) h1.2 h2.2 fun a h b k => ha a (List.mem_cons_of_mem _ h) b (List.mem_cons_of_mem _ k)]
theorem sortL_eq {ds es : List D} (p : ds.Perm es) (hs : es.Pairwise fun x y => dlt y x = false) (ha : ∀ x ∈ es, ∀ y ∈ es, PySem.W.alike x y = true) : sortL ds = es := by
  refine (sorted_unique (p.symm.trans (sortL_perm ds).symm) hs (sortL_sorted ds) ha).symm
theorem sortL_congr {ds es : List D} (p : ds.Perm es) (ha : ∀ x ∈ es, ∀ y ∈ es, PySem.W.alike x y = true) : sortL ds = sortL es := sortL_eq (p.trans (sortL_perm es).symm) (sortL_sorted es) fun x hx y hy => ha x ((sortL_perm es).mem_iff.mp hx) y ((sortL_perm es).mem_iff.mp hy)
end Wp
namespace Wp
open PySem PySem.Spec PyProof.Rows L2

/-! ### equations between mirrors -/
section
variable {α β γ σ : Type}
theorem mp_bind {a : α} {k : α → M β} : (M.pure a).bind k = k a := funext fun _ => propext Iff.rfl
theorem m_assoc {m : M α} {k : α → M β} {h : β → M γ} : (m.bind k).bind h = m.bind fun x => (k x).bind h := funext fun _ => propext Iff.rfl
theorem m_eta {m : M α} : m.bind M.pure = m := funext fun _ => propext Iff.rfl
theorem m_need {c : Prop} {m : M α} (h : c) : M.need c m = m := funext fun P => propext ⟨fun x => x.2, fun x => ⟨h, x⟩⟩
theorem m_need_bind {c : Prop} {m : M α} {k : α → M β} : (M.need c m).bind k = M.need c (m.bind k) := funext fun _ => propext Iff.rfl
theorem m_opt {a : α} : M.opt (some a) = M.pure a := funext fun P => propext ⟨fun ⟨x, e, h⟩ => by cases e; exact h, fun h => ⟨a, rfl, h⟩⟩
theorem m_cond_bind {b : Bool} {m n : M α} {k : α → M β} : (cond b m n).bind k = cond b (m.bind k) (n.bind k) := by cases b <;> rfl
theorem m_cond_pure {b : Bool} {x y : α} : cond b (M.pure x) (M.pure y) = M.pure (cond b x y) := by cases b <;> rfl
theorem m_cond_t {m n : M α} : cond true m n = m := by rw [cond_true]
theorem m_cond_f {m n : M α} : cond false m n = n := by rw [cond_false]
theorem m_ret {m : M α} {v : α} (h : Ret m v) (d : ∀ P : α → Prop, m P → P v) : m = M.pure v := funext fun P => propext ⟨d P, h P⟩
theorem ret_of {m : M α} {v : α} (h : m = M.pure v) : Ret m v := by intro P hP; rw [h]; exact hP
theorem mapM_map {f : α → M β} {g : γ → α} : ∀ xs : List γ, M.mapM f (xs.map g) = M.mapM (fun x => f (g x)) xs
  | [] => rfl
  | x :: xs => by
    show M.bind (f (g x)) (fun y => M.bind (M.mapM f (xs.map g)) _) = M.bind (f (g x)) _
    rw [mapM_map xs]
theorem filM_map {f : α → M (Option β)} {g : γ → α} : ∀ xs : List γ, M.filM f (xs.map g) = M.filM (fun x => f (g x)) xs
  | [] => rfl
  | x :: xs => by
    show M.bind (f (g x)) (fun y => M.bind (M.filM f (xs.map g)) _) = M.bind (f (g x)) _
    rw [filM_map xs]
theorem fold_map {f : σ → α → M σ} {g : γ → α} : ∀ (xs : List γ) (s : σ), M.fold f s (xs.map g) = M.fold (fun s x => f s (g x)) s xs
  | [], _ => rfl
  | x :: xs, s => by
    show M.bind (f s (g x)) (fun s' => M.fold f s' (xs.map g)) = M.bind (f s (g x)) _
    congr 1; funext s'; exact fold_map xs s'
theorem foldF_map {f : σ → α → M (Fl σ σ)} {g : γ → α} : ∀ (xs : List γ) (s : σ), M.foldF f s (xs.map g) = M.foldF (fun s x => f s (g x)) s xs
  | [], _ => rfl
  | x :: xs, s => by
    show M.bind (f s (g x)) _ = M.bind (f s (g x)) _
    congr 1; funext r
    cases r <;> first | exact foldF_map xs _ | rfl
/-- a map that gives g -/
theorem mapM_eq_of {f : α → M β} (g : α → β) : ∀ {xs : List α}, (∀ x ∈ xs, f x = M.pure (g x)) → M.mapM f xs = M.pure (xs.map g)
  | [], _ => rfl
  | x :: xs, h => by
    show M.bind (f x) (fun y => M.bind (M.mapM f xs) _) = _
    rw [h x (by simp), mapM_eq_of g fun y hy => h y (by simp [hy])]
    rfl
theorem mapM_pure {f : α → β} {xs : List α} : M.mapM (fun x => M.pure (f x)) xs = M.pure (xs.map f) := mapM_eq_of f fun _ _ => rfl
theorem filM_eq_of {f : α → M (Option β)} (g : α → Option β) : ∀ {xs : List α}, (∀ x ∈ xs, f x = M.pure (g x)) → M.filM f xs = M.pure (xs.filterMap g)
  | [], _ => rfl
  | x :: xs, h => by
    show M.bind (f x) (fun o => M.bind (M.filM f xs) _) = _
    rw [h x (by simp), filM_eq_of g fun y hy => h y (by simp [hy]), List.filterMap_cons]
    cases g x <;> rfl
theorem filM_pure {f : α → Option β} {xs : List α} : M.filM (fun x => M.pure (f x)) xs = M.pure (xs.filterMap f) := filM_eq_of f fun _ _ => rfl
theorem fold_eq_of {f : σ → α → M σ} (g : σ → α → σ) : ∀ {xs : List α} {s : σ}, (∀ s, ∀ x ∈ xs, f s x = M.pure (g s x)) → M.fold f s xs = M.pure (xs.foldl g s)
  | [], _, _ => rfl
  | x :: xs, s, h => by
    show M.bind (f s x) (fun s' => M.fold f s' xs) = _
    rw [h s x (by simp), mp_bind, fold_eq_of g fun t y hy => h t y (by simp [hy])]
    rfl
theorem fold_pure {f : σ → α → σ} {xs : List α} {s : σ} : M.fold (fun s x => M.pure (f s x)) s xs = M.pure (xs.foldl f s) := fold_eq_of f fun _ _ _ => rfl
/-- a fold over data that stand for a state t -/
theorem fold_enc {τ : Type} (e : τ → σ) (g : τ → α → τ) (I : τ → Nat → Prop) {f : σ → α → M σ} : ∀ {xs : List α} {t : τ} (n : Nat), I t n → (∀ t n, ∀ x ∈ xs, I t n → f (e t) x = M.pure (e (g t x)) ∧ I (g t x) (n + 1)) → M.fold f (e t) xs = M.pure (e (xs.foldl g t))
  | [], _, _, _, _ => rfl
  | x :: xs, t, n, hi, h => by
    obtain ⟨h1, h2⟩ := h t n x (by simp) hi
    show M.bind (f (e t) x) (fun s' => M.fold f s' xs) = _
    rw [h1, mp_bind, fold_enc e g I (n + 1) h2 fun t n y hy => h t n y (by simp [hy])]
    rfl
theorem filterMap_cond {p : α → Bool} {g : α → β} {xs : List α} : xs.filterMap (fun x => cond (p x) (some (g x)) none) = (xs.filter p).map g := by
  induction xs with
  | nil => rfl
  | cons x xs ih =>
    rw [List.filterMap_cons, List.filter_cons]
    cases h : p x <;> simp [ih]
end
theorem asI_i {i : Int} : asI (.int i) = M.pure i := funext fun _ => propext Iff.rfl
theorem asB_b {i : Bool} : asB (.bool i) = M.pure i := funext fun _ => propext Iff.rfl
theorem asS_l {ds : List D} : asS (.list ds) = M.pure ds := funext fun _ => propext Iff.rfl
theorem asS_t {ds : List D} : asS (.tuple ds) = M.pure ds := funext fun _ => propext Iff.rfl
theorem seqOf_l {ds : List D} : seqOf (.list ds) = M.pure ds := funext fun _ => propext Iff.rfl
theorem seqOf_t {ds : List D} : seqOf (.tuple ds) = M.pure ds := funext fun _ => propext Iff.rfl
theorem addD_i {a b : Int} : addD (.int a) (.int b) = M.pure (.int (a + b)) := funext fun _ => propext Iff.rfl
theorem iaddD_i {a b : Int} : iaddD (.int a) (.int b) = M.pure (.int (a + b)) := funext fun _ => propext Iff.rfl
theorem subD_i {a b : Int} : subD (.int a) (.int b) = M.pure (.int (a - b)) := funext fun _ => propext Iff.rfl
theorem mulD_i {a b : Int} : mulD (.int a) (.int b) = M.need (small a ∧ small b) (M.pure (.int (a * b))) := funext fun _ => propext Iff.rfl
theorem fdivD_i {a b : Int} : fdivD (.int a) (.int b) = M.need ((0 < b ∧ small b) ∨ (b < 0 ∧ -1073741824 < b)) (M.pure (.int (a.fdiv b))) := funext fun _ => propext Iff.rfl
theorem modD_i {a b : Int} : modD (.int a) (.int b) = M.need (b ≠ 0) (M.pure (.int (a.fmod b))) := funext fun _ => propext Iff.rfl
theorem negD_i {a : Int} : negD (.int a) = M.pure (.int (-a)) := funext fun _ => propext Iff.rfl
theorem absD_i {a : Int} : absD (.int a) = M.pure (.int (if a < 0 then -a else a)) := funext fun _ => propext Iff.rfl
theorem intD_i {a : Int} : intD (.int a) = M.pure (.int a) := funext fun _ => propext Iff.rfl
theorem max2D_i {a b : Int} : max2D (.int a) (.int b) = M.pure (.int (max a b)) := funext fun _ => propext Iff.rfl
theorem min2D_i {a b : Int} : min2D (.int a) (.int b) = M.pure (.int (min a b)) := funext fun _ => propext Iff.rfl
theorem ltD_i {a b : Int} : ltD (.int a) (.int b) = M.pure (.bool (decide (a < b))) := funext fun _ => propext Iff.rfl
theorem leD_i {a b : Int} : leD (.int a) (.int b) = M.pure (.bool (decide (a ≤ b))) := funext fun _ => propext Iff.rfl
theorem gtD_i {a b : Int} : gtD (.int a) (.int b) = M.pure (.bool (decide (b < a))) := funext fun _ => propext Iff.rfl
theorem geD_i {a b : Int} : geD (.int a) (.int b) = M.pure (.bool (decide (b ≤ a))) := funext fun _ => propext Iff.rfl
theorem eqD_i {a b : Int} : eqD (.int a) (.int b) = M.pure (.bool (decide (a = b))) := funext fun P => eqD_int (P := P)
theorem neD_i {a b : Int} : neD (.int a) (.int b) = M.pure (.bool (!decide (a = b))) := funext fun P => neD_int (P := P)
theorem lenD_l {ds : List D} : lenD (.list ds) = M.pure (.int ds.length) := funext fun _ => propext Iff.rfl
theorem lenD_t {ds : List D} : lenD (.tuple ds) = M.pure (.int ds.length) := funext fun _ => propext Iff.rfl
theorem tupleD_l {ds : List D} : tupleD (.list ds) = M.pure (.tuple ds) := funext fun _ => propext Iff.rfl
theorem tupleD_t {ds : List D} : tupleD (.tuple ds) = M.pure (.tuple ds) := funext fun _ => propext Iff.rfl
theorem listD_l {ds : List D} : listD (.list ds) = M.pure (.list ds) := funext fun _ => propext Iff.rfl
theorem listD_t {ds : List D} : listD (.tuple ds) = M.pure (.list ds) := funext fun _ => propext Iff.rfl
theorem slD_l {ds : List D} {l h : Option Int} : slD (.list ds) l h = M.pure (.list (cutD ds l h)) := funext fun _ => propext Iff.rfl
theorem slD_t {ds : List D} {l h : Option Int} : slD (.tuple ds) l h = M.pure (.tuple (cutD ds l h)) := funext fun _ => propext Iff.rfl
theorem revD_l {ds : List D} : revD (.list ds) = M.pure (.list ds.reverse) := funext fun _ => propext Iff.rfl
theorem truthD_b {b : Bool} : truthD (.bool b) = M.pure b := funext fun _ => propext Iff.rfl
theorem truthD_n : truthD .none = M.pure false := funext fun _ => propext Iff.rfl
theorem ixD_l {ds : List D} {i : Int} : ixD (.list ds) (.int i) = M.opt (atI ds i) := funext fun _ => propext Iff.rfl
theorem ixD_t {ds : List D} {i : Int} : ixD (.tuple ds) (.int i) = M.opt (atI ds i) := funext fun _ => propext Iff.rfl
theorem un2_t {a b : D} : un2 (.tuple [a, b]) = M.pure (a, b) := funext fun _ => propext Iff.rfl
theorem un3_t {a b c : D} : un3 (.tuple [a, b, c]) = M.pure (a, b, c) := funext fun _ => propext Iff.rfl
theorem un4_t {a b c d : D} : un4 (.tuple [a, b, c, d]) = M.pure (a, b, c, d) := funext fun _ => propext Iff.rfl
theorem zipI_l {xs ys : List D} : zipI (.list xs) (.list ys) = M.pure (zipD xs ys) := funext fun _ => propext Iff.rfl
theorem zipI_t {xs ys : List D} : zipI (.tuple xs) (.tuple ys) = M.pure (zipD xs ys) := funext fun _ => propext Iff.rfl
theorem isD_n {x : D} : isD x .none = M.pure (.bool (isNoneD x)) := by cases x <;> exact funext fun _ => propext Iff.rfl
theorem isnD_n {x : D} : isnD x .none = M.pure (.bool (!isNoneD x)) := by cases x <;> exact funext fun _ => propext Iff.rfl
theorem isD_b {a b : Bool} : isD (.bool a) (.bool b) = M.pure (.bool (decide (a = b))) := funext fun _ => propext Iff.rfl
theorem isnD_b {a b : Bool} : isnD (.bool a) (.bool b) = M.pure (.bool (!decide (a = b))) := funext fun _ => propext Iff.rfl
theorem addD_l {xs ys : List D} (h : xs.length + ys.length ≤ 16777216) : addD (.list xs) (.list ys) = M.pure (.list (xs ++ ys)) := funext fun P => propext ⟨fun x => x.2, fun x => ⟨h, x⟩⟩
theorem addD_t {xs ys : List D} (h : xs.length + ys.length ≤ 16777216) : addD (.tuple xs) (.tuple ys) = M.pure (.tuple (xs ++ ys)) := funext fun P => propext ⟨fun x => x.2, fun x => ⟨h, x⟩⟩
theorem addLD_l {xs ys : List D} (h : xs.length + ys.length ≤ 16777216) : addLD (.list xs) (.list ys) = M.pure (.list (xs ++ ys)) := funext fun P => propext ⟨fun x => x.2, fun x => ⟨h, x⟩⟩
theorem mulD_l {xs : List D} {k : Int} (h : -1000000 ≤ k ∧ k ≤ 1000000 ∧ xs.length * k.toNat ≤ 16777216) : mulD (.list xs) (.int k) = M.pure (.list (List.replicate k.toNat xs).flatten) := funext fun P => propext ⟨fun x => x.2, fun x => ⟨h, x⟩⟩
theorem mulLD_l {xs : List D} {k : Int} (h : -1000000 ≤ k ∧ k ≤ 1000000 ∧ xs.length * k.toNat ≤ 16777216) : mulLD (.list xs) (.int k) = M.pure (.list (List.replicate k.toNat xs).flatten) := funext fun P => propext ⟨fun x => x.2, fun x => ⟨h, x⟩⟩
theorem mul2D_t {xs : List D} {k : Int} (h : -1000 ≤ k ∧ k ≤ 1000 ∧ xs.length ≤ 1000) : mul2D (.tuple xs) (.int k) = M.pure (.tuple (List.replicate k.toNat xs).flatten) := funext fun P => propext ⟨fun x => x.2, fun x => ⟨h, x⟩⟩
theorem appD_l {ds : List D} {y : D} (h : ds.length < 16777216) : appD (.list ds) y = M.pure (.list (ds ++ [y])) := funext fun P => propext ⟨fun x => x.2, fun x => ⟨h, x⟩⟩
theorem rep_one {x : D} {n : Nat} : (List.replicate n [x]).flatten = List.replicate n x := by
  induction n with
  | zero => rfl
  | succ n ih => rw [List.replicate_succ, List.flatten_cons, ih]; rfl
theorem mulD_s {a b : Int} (h : small a) (k : small b) : mulD (.int a) (.int b) = M.pure (.int (a * b)) := by rw [mulD_i, m_need ⟨h, k⟩]
theorem rngD_n {n : Int} (h : n ≤ 16777216) (h0 : -4611686018427387904 ≤ n) : rngD 0 n = M.pure ((List.range n.toNat).map fun (i : Nat) => .int (i : Int)) := by
  unfold rngD
  rw [m_need ⟨by omega, by omega, by omega, by omega, by omega⟩]
  unfold rangeD
  simp
theorem rngD_ab {a b : Int} (h1 : -4611686018427387904 ≤ a) (h2 : a < 4611686018427387904) (h3 : -4611686018427387904 ≤ b) (h4 : b < 4611686018427387904) (h5 : b - a ≤ 16777216) : rngD a b = M.pure ((List.range (b - a).toNat).map fun (i : Nat) => .int (a + (i : Int))) := by
  unfold rngD
  rw [m_need ⟨h1, h2, h3, h4, h5⟩]
  rfl
theorem eqD_s {x y : D} (h : sh 16 x = true) (k : sh 16 y = true) : eqD x y = M.pure (.bool (PyData.eqv x y)) := by
  unfold eqD
  rw [m_need (by rw [h, k]; rfl)]
theorem neD_s {x y : D} (h : sh 16 x = true) (k : sh 16 y = true) : neD x y = M.pure (.bool (!PyData.eqv x y)) := by
  unfold neD
  rw [m_need (by rw [h, k]; rfl)]
theorem eqv_self {x : D} (h : sh 16 x = true) : PyData.eqv x x = true := SeqAt.eqv_refl x (sh_lay x 16 h).1
theorem eqD_same {x : D} (h : sh 16 x = true) : eqD x x = M.pure (.bool true) := by rw [eqD_s h h, eqv_self h]
theorem neD_same {x : D} (h : sh 16 x = true) : neD x x = M.pure (.bool false) := by rw [neD_s h h, eqv_self h]; rfl
theorem isiD_t {T : String} {xs : List D} : isiD T (.tuple xs) = (M.opt (kitB "tuple" T)).bind fun b => M.pure (.bool b) := funext fun P => propext ⟨fun x => x.2, fun x => ⟨rfl, x⟩⟩
theorem isiD_l {T : String} {xs : List D} : isiD T (.list xs) = (M.opt (kitB "list" T)).bind fun b => M.pure (.bool b) := funext fun P => propext ⟨fun x => x.2, fun x => ⟨rfl, x⟩⟩
theorem isiD_i {T : String} {x : Int} : isiD T (.int x) = (M.opt (kitB "int" T)).bind fun b => M.pure (.bool b) := funext fun P => propext ⟨fun x => x.2, fun x => ⟨rfl, x⟩⟩
theorem isiD_b {T : String} {x : Bool} : isiD T (.bool x) = (M.opt (kitB "bool" T)).bind fun b => M.pure (.bool b) := funext fun P => propext ⟨fun x => x.2, fun x => ⟨rfl, x⟩⟩
theorem isiD_s {T : String} {x : Str} : isiD T (.str x) = (M.opt (kitB "str" T)).bind fun b => M.pure (.bool b) := funext fun P => propext ⟨fun x => x.2, fun x => ⟨rfl, x⟩⟩
theorem isiD_n {T : String} : isiD T .none = (M.opt (kitB (tyD .none) T)).bind fun b => M.pure (.bool b) := funext fun P => propext ⟨fun x => x.2, fun x => ⟨rfl, x⟩⟩
end Wp
namespace Wp
open PySem PySem.Spec PyProof.Rows L2

/-! ### mirrors of defs that many laws share -/
def m__law_same : Nat → D → D → M D
  | 0, _, _ => M.fail
  | n_ + 1, seen_, due_ =>
  ((((M.pure due_).bind fun x1 => isiD "tuple" x1).bind fun x2 => truthD x2).bind fun b3 => bif b3 then 
    ((((((M.pure seen_).bind fun x4 => isiD "tuple" x4).bind fun x5 => truthD x5).bind fun b6 => M.pure (!b6)).bind fun b12 => bif b12 then M.pure true else (((M.pure seen_).bind fun x7 => lenD x7).bind fun x9 => (((M.pure due_).bind fun x8 => lenD x8).bind fun x10 => ((neD x9 x10).bind fun z11 => asB z11)))).bind fun b13 => bif b13 then 
      (M.pure (.bool false)) else
    (((((M.pure due_).bind fun x14 => lenD x14).bind fun x15 => ((asI x15).bind fun i16 => rngD 0 i16)).bind fun l19 => ((M.filM (fun x18 => ((M.pure x18).bind fun a17 => ((((((M.pure seen_).bind fun x21 => ((M.pure a17).bind fun x22 => ixD x21 x22)).bind fun x23 => (((M.pure due_).bind fun x24 => ((M.pure a17).bind fun x25 => ixD x24 x25)).bind fun x26 => m__law_same n_ x23 x26)).bind fun x27 => truthD x27).bind fun b28 => M.pure (!b28)).bind fun b29 => bif b29 then ((M.pure a17).bind fun x30 => M.pure (some x30)) else M.pure none))) l19).bind fun l20 => M.pure (.list l20))).bind fun x32 => (((M.pure []).bind fun x31 => M.pure (.list x31)).bind fun x33 => eqD x32 x33))) else
  (((M.pure due_).bind fun x34 => ((M.pure .none).bind fun x35 => ((isD x34 x35).bind fun z36 => asB z36))).bind fun b37 => bif b37 then 
    ((M.pure seen_).bind fun x38 => ((M.pure .none).bind fun x39 => isD x38 x39)) else
  ((((M.pure due_).bind fun x40 => isiD "str" x40).bind fun x41 => truthD x41).bind fun b42 => bif b42 then 
    (((M.pure seen_).bind fun x43 => isiD "str" x43).bind fun x46 => ((asB x46).bind fun b47 => bif b47 then ((M.pure seen_).bind fun x44 => ((M.pure due_).bind fun x45 => eqD x44 x45)) else M.pure (.bool false))) else
  (((M.pure seen_).bind fun x48 => isiD "int" x48).bind fun x57 => ((asB x57).bind fun b58 => bif b58 then ((((M.pure seen_).bind fun x49 => isiD "bool" x49).bind fun x51 => (((M.pure due_).bind fun x50 => isiD "bool" x50).bind fun x52 => eqD x51 x52)).bind fun x55 => ((asB x55).bind fun b56 => bif b56 then ((M.pure seen_).bind fun x53 => ((M.pure due_).bind fun x54 => eqD x53 x54)) else M.pure (.bool false))) else M.pure (.bool false))))))
def m__law_says (seen_ : D) (due_ : D) : M D :=
  (((M.pure seen_).bind fun x1 => isiD "bool" x1).bind fun x4 => ((asB x4).bind fun b5 => bif b5 then ((M.pure seen_).bind fun x2 => ((M.pure due_).bind fun x3 => eqD x2 x3)) else M.pure (.bool false)))
def m__law_pick (rows_ : D) : M D :=
  ((M.pure rows_).bind fun x1 => ((((M.pure rows_).bind fun x2 => lenD x2).bind fun x3 => m__law_next x3).bind fun x4 => ixD x1 x4))
/-! ### isinstance -/
def isTupB : D → Bool | .tuple _ => true | _ => false
def isListB : D → Bool | .list _ => true | _ => false
def isDictB : D → Bool | .dict _ => true | _ => false
def isStrB : D → Bool | .str _ => true | _ => false
def isBoolB : D → Bool | .bool _ => true | _ => false
def isIntB : D → Bool | .int _ => true | .bool _ => true | _ => false
theorem isi_tuple {x : D} (h : plainD x = true) : isiD "tuple" x = M.pure (.bool (isTupB x)) := by
  unfold isiD
  rw [m_need h]
  have : kitB (tyD x) "tuple" = some (isTupB x) := by cases x <;> simp only [tyD, isTupB, isListB, isDictB, isStrB, isBoolB, isIntB] <;> decide +kernel
  rw [this, m_opt, mp_bind]
theorem isi_list {x : D} (h : plainD x = true) : isiD "list" x = M.pure (.bool (isListB x)) := by
  unfold isiD
  rw [m_need h]
  have : kitB (tyD x) "list" = some (isListB x) := by cases x <;> simp only [tyD, isTupB, isListB, isDictB, isStrB, isBoolB, isIntB] <;> decide +kernel
  rw [this, m_opt, mp_bind]
theorem isi_dict {x : D} (h : plainD x = true) : isiD "dict" x = M.pure (.bool (isDictB x)) := by
  unfold isiD
  rw [m_need h]
  have : kitB (tyD x) "dict" = some (isDictB x) := by cases x <;> simp only [tyD, isTupB, isListB, isDictB, isStrB, isBoolB, isIntB] <;> decide +kernel
  rw [this, m_opt, mp_bind]
theorem isi_str {x : D} (h : plainD x = true) : isiD "str" x = M.pure (.bool (isStrB x)) := by
  unfold isiD
  rw [m_need h]
  have : kitB (tyD x) "str" = some (isStrB x) := by cases x <;> simp only [tyD, isTupB, isListB, isDictB, isStrB, isBoolB, isIntB] <;> decide +kernel
  rw [this, m_opt, mp_bind]
theorem isi_bool {x : D} (h : plainD x = true) : isiD "bool" x = M.pure (.bool (isBoolB x)) := by
  unfold isiD
  rw [m_need h]
  have : kitB (tyD x) "bool" = some (isBoolB x) := by cases x <;> simp only [tyD, isTupB, isListB, isDictB, isStrB, isBoolB, isIntB] <;> decide +kernel
  rw [this, m_opt, mp_bind]
theorem isi_int {x : D} (h : plainD x = true) : isiD "int" x = M.pure (.bool (isIntB x)) := by
  unfold isiD
  rw [m_need h]
  have : kitB (tyD x) "int" = some (isIntB x) := by cases x <;> simp only [tyD, isTupB, isListB, isDictB, isStrB, isBoolB, isIntB] <;> decide +kernel
  rw [this, m_opt, mp_bind]
section
variable {α : Type} {b : Bool} {i : Int} {x : Str} {xs : List D}
theorem isi_tuple_n : isiD "tuple" .none = M.pure (.bool false) := isi_tuple (x := .none) rfl
theorem isi_tuple_b : isiD "tuple" (.bool b) = M.pure (.bool false) := isi_tuple (x := (.bool b)) rfl
theorem isi_tuple_i : isiD "tuple" (.int i) = M.pure (.bool false) := isi_tuple (x := (.int i)) rfl
theorem isi_tuple_s : isiD "tuple" (.str x) = M.pure (.bool false) := isi_tuple (x := (.str x)) rfl
theorem isi_tuple_l : isiD "tuple" (.list xs) = M.pure (.bool false) := isi_tuple (x := (.list xs)) rfl
theorem isi_tuple_t : isiD "tuple" (.tuple xs) = M.pure (.bool true) := isi_tuple (x := (.tuple xs)) rfl
theorem isi_list_n : isiD "list" .none = M.pure (.bool false) := isi_list (x := .none) rfl
theorem isi_list_b : isiD "list" (.bool b) = M.pure (.bool false) := isi_list (x := (.bool b)) rfl
theorem isi_list_i : isiD "list" (.int i) = M.pure (.bool false) := isi_list (x := (.int i)) rfl
theorem isi_list_s : isiD "list" (.str x) = M.pure (.bool false) := isi_list (x := (.str x)) rfl
theorem isi_list_l : isiD "list" (.list xs) = M.pure (.bool true) := isi_list (x := (.list xs)) rfl
theorem isi_list_t : isiD "list" (.tuple xs) = M.pure (.bool false) := isi_list (x := (.tuple xs)) rfl
theorem isi_dict_n : isiD "dict" .none = M.pure (.bool false) := isi_dict (x := .none) rfl
theorem isi_dict_b : isiD "dict" (.bool b) = M.pure (.bool false) := isi_dict (x := (.bool b)) rfl
theorem isi_dict_i : isiD "dict" (.int i) = M.pure (.bool false) := isi_dict (x := (.int i)) rfl
theorem isi_dict_s : isiD "dict" (.str x) = M.pure (.bool false) := isi_dict (x := (.str x)) rfl
theorem isi_dict_l : isiD "dict" (.list xs) = M.pure (.bool false) := isi_dict (x := (.list xs)) rfl
theorem isi_dict_t : isiD "dict" (.tuple xs) = M.pure (.bool false) := isi_dict (x := (.tuple xs)) rfl
theorem isi_str_n : isiD "str" .none = M.pure (.bool false) := isi_str (x := .none) rfl
theorem isi_str_b : isiD "str" (.bool b) = M.pure (.bool false) := isi_str (x := (.bool b)) rfl
theorem isi_str_i : isiD "str" (.int i) = M.pure (.bool false) := isi_str (x := (.int i)) rfl
theorem isi_str_s : isiD "str" (.str x) = M.pure (.bool true) := isi_str (x := (.str x)) rfl
theorem isi_str_l : isiD "str" (.list xs) = M.pure (.bool false) := isi_str (x := (.list xs)) rfl
theorem isi_str_t : isiD "str" (.tuple xs) = M.pure (.bool false) := isi_str (x := (.tuple xs)) rfl
theorem isi_bool_n : isiD "bool" .none = M.pure (.bool false) := isi_bool (x := .none) rfl
theorem isi_bool_b : isiD "bool" (.bool b) = M.pure (.bool true) := isi_bool (x := (.bool b)) rfl
theorem isi_bool_i : isiD "bool" (.int i) = M.pure (.bool false) := isi_bool (x := (.int i)) rfl
theorem isi_bool_s : isiD "bool" (.str x) = M.pure (.bool false) := isi_bool (x := (.str x)) rfl
theorem isi_bool_l : isiD "bool" (.list xs) = M.pure (.bool false) := isi_bool (x := (.list xs)) rfl
theorem isi_bool_t : isiD "bool" (.tuple xs) = M.pure (.bool false) := isi_bool (x := (.tuple xs)) rfl
theorem isi_int_n : isiD "int" .none = M.pure (.bool false) := isi_int (x := .none) rfl
theorem isi_int_b : isiD "int" (.bool b) = M.pure (.bool true) := isi_int (x := (.bool b)) rfl
theorem isi_int_i : isiD "int" (.int i) = M.pure (.bool true) := isi_int (x := (.int i)) rfl
theorem isi_int_s : isiD "int" (.str x) = M.pure (.bool false) := isi_int (x := (.str x)) rfl
theorem isi_int_l : isiD "int" (.list xs) = M.pure (.bool false) := isi_int (x := (.list xs)) rfl
theorem isi_int_t : isiD "int" (.tuple xs) = M.pure (.bool false) := isi_int (x := (.tuple xs)) rfl
theorem m_needT {m : M α} : M.need True m = m := m_need trivial
theorem isNone_n : isNoneD .none = true := by unfold isNoneD; rfl
theorem isNone_i : isNoneD (.int i) = false := by unfold isNoneD; rfl
theorem isNone_b : isNoneD (.bool b) = false := by unfold isNoneD; rfl
theorem isNone_s : isNoneD (.str x) = false := by unfold isNoneD; rfl
theorem isNone_l : isNoneD (.list xs) = false := by unfold isNoneD; rfl
theorem isNone_t : isNoneD (.tuple xs) = false := by unfold isNoneD; rfl
theorem c_t {x y : α} : cond true x y = x := by rw [cond_true]
theorem c_f {x y : α} : cond false x y = y := by rw [cond_false]
end
/-! ### the run of a text, by equations -/
/-! ### _law_same, _law_says -/
-- what _law_same can look at, n parts deep
mutual
def okS : Nat → D → Bool
  | 0, _ => false
  | _ + 1, .none => true
  | _ + 1, .bool _ => true
  | _ + 1, .int _ => true
  | _ + 1, .str x => PyData.strOk x
  | n + 1, .tuple xs => decide (xs.length ≤ 16777216) && okSA n xs
  | _ + 1, _ => false
def okSA : Nat → List D → Bool
  | _, [] => true
  | n, x :: xs => okS n x && okSA n xs
end
theorem okSA_mem {n : Nat} : ∀ {xs : List D}, okSA n xs = true → ∀ x ∈ xs, okS n x = true
  | x :: xs, h, y, hy => by
    have h' : okS n x = true ∧ okSA n xs = true := by simpa [okSA] using h
    rcases List.mem_cons.mp hy with rfl | hy
    · exact h'.1
    · exact okSA_mem h'.2 y hy
theorem okSA_of {n : Nat} : ∀ {xs : List D}, (∀ x ∈ xs, okS n x = true) → okSA n xs = true
  | [], _ => by simp [okSA]
  | x :: xs, h => by
    rw [okSA, h x (by simp), okSA_of fun y hy => h y (by simp [hy])]; rfl
theorem okS_plain {n : Nat} {d : D} (h : okS n d = true) : plainD d = true := by
  cases n with
  | zero => simp [okS] at h
  | succ n => cases d <;> first | rfl | simp [okS] at h
theorem e_same : ∀ (n : Nat) (d : D), okS n d = true → m__law_same n d d = M.pure (.bool true)
  | 0, d, h => by simp [okS] at h
  | n + 1, .none, h => by
    simp (disch := first | assumption | rfl | omega | decide) only [mp_bind, m_assoc, m_opt, m_cond_pure, m_cond_bind, m_cond_t, m_cond_f, mapM_map, filM_map, fold_map, foldF_map, mapM_pure, filM_pure, fold_pure, asI_i, asB_b, asS_l, asS_t, seqOf_l, seqOf_t, addD_i, iaddD_i, subD_i, fdivD_i, modD_i, negD_i, absD_i, intD_i, max2D_i, min2D_i, ltD_i, leD_i, gtD_i, geD_i, eqD_i, neD_i, lenD_l, lenD_t, tupleD_l, tupleD_t, listD_l, listD_t, slD_l, slD_t, revD_l, truthD_b, truthD_n, ixD_l, ixD_t, un2_t, un3_t, un4_t, zipI_l, zipI_t, isD_n, isnD_n, isNone_n, isNone_i, isNone_b, isNone_s, isNone_l, isNone_t, m_eta, Bool.not_true, Bool.not_false, isL_list, atI_0, atI_1, atI_2, atI_3, c_t, c_f, m_needT, isi_tuple_n, isi_tuple_b, isi_tuple_i, isi_tuple_s, isi_tuple_l, isi_tuple_t, isi_list_n, isi_list_b, isi_list_i, isi_list_s, isi_list_l, isi_list_t, isi_dict_n, isi_dict_b, isi_dict_i, isi_dict_s, isi_dict_l, isi_dict_t, isi_str_n, isi_str_b, isi_str_i, isi_str_s, isi_str_l, isi_str_t, isi_bool_n, isi_bool_b, isi_bool_i, isi_bool_s, isi_bool_l, isi_bool_t, isi_int_n, isi_int_b, isi_int_i, isi_int_s, isi_int_l, isi_int_t, bind_run, pure_run, m__law_same]
  | n + 1, .bool b, h => by
    simp (disch := first | assumption | rfl | omega | decide) only [mp_bind, m_assoc, m_opt, m_cond_pure, m_cond_bind, m_cond_t, m_cond_f, mapM_map, filM_map, fold_map, foldF_map, mapM_pure, filM_pure, fold_pure, asI_i, asB_b, asS_l, asS_t, seqOf_l, seqOf_t, addD_i, iaddD_i, subD_i, fdivD_i, modD_i, negD_i, absD_i, intD_i, max2D_i, min2D_i, ltD_i, leD_i, gtD_i, geD_i, eqD_i, neD_i, lenD_l, lenD_t, tupleD_l, tupleD_t, listD_l, listD_t, slD_l, slD_t, revD_l, truthD_b, truthD_n, ixD_l, ixD_t, un2_t, un3_t, un4_t, zipI_l, zipI_t, isD_n, isnD_n, isNone_n, isNone_i, isNone_b, isNone_s, isNone_l, isNone_t, m_eta, Bool.not_true, Bool.not_false, isL_list, atI_0, atI_1, atI_2, atI_3, c_t, c_f, m_needT, isi_tuple_n, isi_tuple_b, isi_tuple_i, isi_tuple_s, isi_tuple_l, isi_tuple_t, isi_list_n, isi_list_b, isi_list_i, isi_list_s, isi_list_l, isi_list_t, isi_dict_n, isi_dict_b, isi_dict_i, isi_dict_s, isi_dict_l, isi_dict_t, isi_str_n, isi_str_b, isi_str_i, isi_str_s, isi_str_l, isi_str_t, isi_bool_n, isi_bool_b, isi_bool_i, isi_bool_s, isi_bool_l, isi_bool_t, isi_int_n, isi_int_b, isi_int_i, isi_int_s, isi_int_l, isi_int_t, bind_run, pure_run, m__law_same, isTupB, isStrB, isIntB, isBoolB, eqD_same (sh_bool), sh_bool]
  | n + 1, .int b, h => by
    simp (disch := first | assumption | rfl | omega | decide) only [mp_bind, m_assoc, m_opt, m_cond_pure, m_cond_bind, m_cond_t, m_cond_f, mapM_map, filM_map, fold_map, foldF_map, mapM_pure, filM_pure, fold_pure, asI_i, asB_b, asS_l, asS_t, seqOf_l, seqOf_t, addD_i, iaddD_i, subD_i, fdivD_i, modD_i, negD_i, absD_i, intD_i, max2D_i, min2D_i, ltD_i, leD_i, gtD_i, geD_i, eqD_i, neD_i, lenD_l, lenD_t, tupleD_l, tupleD_t, listD_l, listD_t, slD_l, slD_t, revD_l, truthD_b, truthD_n, ixD_l, ixD_t, un2_t, un3_t, un4_t, zipI_l, zipI_t, isD_n, isnD_n, isNone_n, isNone_i, isNone_b, isNone_s, isNone_l, isNone_t, m_eta, Bool.not_true, Bool.not_false, isL_list, atI_0, atI_1, atI_2, atI_3, c_t, c_f, m_needT, isi_tuple_n, isi_tuple_b, isi_tuple_i, isi_tuple_s, isi_tuple_l, isi_tuple_t, isi_list_n, isi_list_b, isi_list_i, isi_list_s, isi_list_l, isi_list_t, isi_dict_n, isi_dict_b, isi_dict_i, isi_dict_s, isi_dict_l, isi_dict_t, isi_str_n, isi_str_b, isi_str_i, isi_str_s, isi_str_l, isi_str_t, isi_bool_n, isi_bool_b, isi_bool_i, isi_bool_s, isi_bool_l, isi_bool_t, isi_int_n, isi_int_b, isi_int_i, isi_int_s, isi_int_l, isi_int_t, bind_run, pure_run, m__law_same, isTupB, isStrB, isIntB, isBoolB, eqD_same (sh_bool), sh_bool, decide_true]
  | n + 1, .str b, h => by
    have hs : sh 16 (.str b) = true := by simpa [sh, okS] using h
    simp (disch := first | assumption | rfl | omega | decide) only [mp_bind, m_assoc, m_opt, m_cond_pure, m_cond_bind, m_cond_t, m_cond_f, mapM_map, filM_map, fold_map, foldF_map, mapM_pure, filM_pure, fold_pure, asI_i, asB_b, asS_l, asS_t, seqOf_l, seqOf_t, addD_i, iaddD_i, subD_i, fdivD_i, modD_i, negD_i, absD_i, intD_i, max2D_i, min2D_i, ltD_i, leD_i, gtD_i, geD_i, eqD_i, neD_i, lenD_l, lenD_t, tupleD_l, tupleD_t, listD_l, listD_t, slD_l, slD_t, revD_l, truthD_b, truthD_n, ixD_l, ixD_t, un2_t, un3_t, un4_t, zipI_l, zipI_t, isD_n, isnD_n, isNone_n, isNone_i, isNone_b, isNone_s, isNone_l, isNone_t, m_eta, Bool.not_true, Bool.not_false, isL_list, atI_0, atI_1, atI_2, atI_3, c_t, c_f, m_needT, isi_tuple_n, isi_tuple_b, isi_tuple_i, isi_tuple_s, isi_tuple_l, isi_tuple_t, isi_list_n, isi_list_b, isi_list_i, isi_list_s, isi_list_l, isi_list_t, isi_dict_n, isi_dict_b, isi_dict_i, isi_dict_s, isi_dict_l, isi_dict_t, isi_str_n, isi_str_b, isi_str_i, isi_str_s, isi_str_l, isi_str_t, isi_bool_n, isi_bool_b, isi_bool_i, isi_bool_s, isi_bool_l, isi_bool_t, isi_int_n, isi_int_b, isi_int_i, isi_int_s, isi_int_l, isi_int_t, bind_run, pure_run, m__law_same, isTupB, isStrB, eqD_same hs]
  | n + 1, .list xs, h => by simp [okS] at h
  | n + 1, .dict xs, h => by simp [okS] at h
  | n + 1, .tuple xs, h => by
    have h' : xs.length ≤ 16777216 ∧ okSA n xs = true := by simpa [okS] using h
    have hz := h'.1
    simp (disch := first | assumption | rfl | omega | decide) only [mp_bind, m_assoc, m_opt, m_cond_pure, m_cond_bind, m_cond_t, m_cond_f, mapM_map, filM_map, fold_map, foldF_map, mapM_pure, filM_pure, fold_pure, asI_i, asB_b, asS_l, asS_t, seqOf_l, seqOf_t, addD_i, iaddD_i, subD_i, fdivD_i, modD_i, negD_i, absD_i, intD_i, max2D_i, min2D_i, ltD_i, leD_i, gtD_i, geD_i, eqD_i, neD_i, lenD_l, lenD_t, tupleD_l, tupleD_t, listD_l, listD_t, slD_l, slD_t, revD_l, truthD_b, truthD_n, ixD_l, ixD_t, un2_t, un3_t, un4_t, zipI_l, zipI_t, isD_n, isnD_n, isNone_n, isNone_i, isNone_b, isNone_s, isNone_l, isNone_t, m_eta, Bool.not_true, Bool.not_false, isL_list, atI_0, atI_1, atI_2, atI_3, c_t, c_f, m_needT, isi_tuple_n, isi_tuple_b, isi_tuple_i, isi_tuple_s, isi_tuple_l, isi_tuple_t, isi_list_n, isi_list_b, isi_list_i, isi_list_s, isi_list_l, isi_list_t, isi_dict_n, isi_dict_b, isi_dict_i, isi_dict_s, isi_dict_l, isi_dict_t, isi_str_n, isi_str_b, isi_str_i, isi_str_s, isi_str_l, isi_str_t, isi_bool_n, isi_bool_b, isi_bool_i, isi_bool_s, isi_bool_l, isi_bool_t, isi_int_n, isi_int_b, isi_int_i, isi_int_s, isi_int_l, isi_int_t, bind_run, pure_run, m__law_same, isTupB, decide_true, rngD_n (show ((xs.length : Nat) : Int) ≤ 16777216 by omega) (show (-4611686018427387904 : Int) ≤ (xs.length : Nat) by omega)]
    rw [filM_eq_of (fun _ => none) (fun i hi => ?_)]
    · have e : ∀ l : List Nat, l.filterMap (fun _ => (none : Option D)) = [] := fun l => by induction l <;> simp_all
      simp (disch := first | assumption | rfl | omega | decide) only [mp_bind, m_assoc, m_opt, m_cond_pure, m_cond_bind, m_cond_t, m_cond_f, mapM_map, filM_map, fold_map, foldF_map, mapM_pure, filM_pure, fold_pure, asI_i, asB_b, asS_l, asS_t, seqOf_l, seqOf_t, addD_i, iaddD_i, subD_i, fdivD_i, modD_i, negD_i, absD_i, intD_i, max2D_i, min2D_i, ltD_i, leD_i, gtD_i, geD_i, eqD_i, neD_i, lenD_l, lenD_t, tupleD_l, tupleD_t, listD_l, listD_t, slD_l, slD_t, revD_l, truthD_b, truthD_n, ixD_l, ixD_t, un2_t, un3_t, un4_t, zipI_l, zipI_t, isD_n, isnD_n, isNone_n, isNone_i, isNone_b, isNone_s, isNone_l, isNone_t, m_eta, Bool.not_true, Bool.not_false, isL_list, atI_0, atI_1, atI_2, atI_3, c_t, c_f, m_needT, isi_tuple_n, isi_tuple_b, isi_tuple_i, isi_tuple_s, isi_tuple_l, isi_tuple_t, isi_list_n, isi_list_b, isi_list_i, isi_list_s, isi_list_l, isi_list_t, isi_dict_n, isi_dict_b, isi_dict_i, isi_dict_s, isi_dict_l, isi_dict_t, isi_str_n, isi_str_b, isi_str_i, isi_str_s, isi_str_l, isi_str_t, isi_bool_n, isi_bool_b, isi_bool_i, isi_bool_s, isi_bool_l, isi_bool_t, isi_int_n, isi_int_b, isi_int_i, isi_int_s, isi_int_l, isi_int_t, bind_run, pure_run, e, eqD_same (x := .list []) (by simp)]
    · have hi' : i < xs.length := by simpa using List.mem_range.mp hi
      simp (disch := first | assumption | rfl | omega | decide) only [mp_bind, m_assoc, m_opt, m_cond_pure, m_cond_bind, m_cond_t, m_cond_f, mapM_map, filM_map, fold_map, foldF_map, mapM_pure, filM_pure, fold_pure, asI_i, asB_b, asS_l, asS_t, seqOf_l, seqOf_t, addD_i, iaddD_i, subD_i, fdivD_i, modD_i, negD_i, absD_i, intD_i, max2D_i, min2D_i, ltD_i, leD_i, gtD_i, geD_i, eqD_i, neD_i, lenD_l, lenD_t, tupleD_l, tupleD_t, listD_l, listD_t, slD_l, slD_t, revD_l, truthD_b, truthD_n, ixD_l, ixD_t, un2_t, un3_t, un4_t, zipI_l, zipI_t, isD_n, isnD_n, isNone_n, isNone_i, isNone_b, isNone_s, isNone_l, isNone_t, m_eta, Bool.not_true, Bool.not_false, isL_list, atI_0, atI_1, atI_2, atI_3, c_t, c_f, m_needT, isi_tuple_n, isi_tuple_b, isi_tuple_i, isi_tuple_s, isi_tuple_l, isi_tuple_t, isi_list_n, isi_list_b, isi_list_i, isi_list_s, isi_list_l, isi_list_t, isi_dict_n, isi_dict_b, isi_dict_i, isi_dict_s, isi_dict_l, isi_dict_t, isi_str_n, isi_str_b, isi_str_i, isi_str_s, isi_str_l, isi_str_t, isi_bool_n, isi_bool_b, isi_bool_i, isi_bool_s, isi_bool_l, isi_bool_t, isi_int_n, isi_int_b, isi_int_i, isi_int_s, isi_int_l, isi_int_t, bind_run, pure_run, atI_nat, List.getElem?_eq_getElem hi', e_same n xs[i] (okSA_mem h'.2 _ (List.getElem_mem hi'))]
theorem e_says {b : Bool} : m__law_says (.bool b) (.bool b) = M.pure (.bool true) := by
  simp (disch := first | assumption | rfl | omega | decide) only [mp_bind, m_assoc, m_opt, m_cond_pure, m_cond_bind, m_cond_t, m_cond_f, mapM_map, filM_map, fold_map, foldF_map, mapM_pure, filM_pure, fold_pure, asI_i, asB_b, asS_l, asS_t, seqOf_l, seqOf_t, addD_i, iaddD_i, subD_i, fdivD_i, modD_i, negD_i, absD_i, intD_i, max2D_i, min2D_i, ltD_i, leD_i, gtD_i, geD_i, eqD_i, neD_i, lenD_l, lenD_t, tupleD_l, tupleD_t, listD_l, listD_t, slD_l, slD_t, revD_l, truthD_b, truthD_n, ixD_l, ixD_t, un2_t, un3_t, un4_t, zipI_l, zipI_t, isD_n, isnD_n, isNone_n, isNone_i, isNone_b, isNone_s, isNone_l, isNone_t, m_eta, Bool.not_true, Bool.not_false, isL_list, atI_0, atI_1, atI_2, atI_3, c_t, c_f, m_needT, isi_tuple_n, isi_tuple_b, isi_tuple_i, isi_tuple_s, isi_tuple_l, isi_tuple_t, isi_list_n, isi_list_b, isi_list_i, isi_list_s, isi_list_l, isi_list_t, isi_dict_n, isi_dict_b, isi_dict_i, isi_dict_s, isi_dict_l, isi_dict_t, isi_str_n, isi_str_b, isi_str_i, isi_str_s, isi_str_l, isi_str_t, isi_bool_n, isi_bool_b, isi_bool_i, isi_bool_s, isi_bool_l, isi_bool_t, isi_int_n, isi_int_b, isi_int_i, isi_int_s, isi_int_l, isi_int_t, bind_run, pure_run, m__law_says, isBoolB, eqD_same sh_bool]
theorem draw_pick {ds : List D} {P : D → Prop} (h0 : ds ≠ []) (h : ∀ d ∈ ds, P d) : m__law_pick (.list ds) P := by
  have hl : 0 < ds.length := List.length_pos_iff.mpr h0
  simp (disch := first | assumption | rfl | omega | decide) only [mp_bind, m_assoc, m_opt, m_cond_pure, m_cond_bind, m_cond_t, m_cond_f, mapM_map, filM_map, fold_map, foldF_map, mapM_pure, filM_pure, fold_pure, asI_i, asB_b, asS_l, asS_t, seqOf_l, seqOf_t, addD_i, iaddD_i, subD_i, fdivD_i, modD_i, negD_i, absD_i, intD_i, max2D_i, min2D_i, ltD_i, leD_i, gtD_i, geD_i, eqD_i, neD_i, lenD_l, lenD_t, tupleD_l, tupleD_t, listD_l, listD_t, slD_l, slD_t, revD_l, truthD_b, truthD_n, ixD_l, ixD_t, un2_t, un3_t, un4_t, zipI_l, zipI_t, isD_n, isnD_n, isNone_n, isNone_i, isNone_b, isNone_s, isNone_l, isNone_t, m_eta, Bool.not_true, Bool.not_false, isL_list, atI_0, atI_1, atI_2, atI_3, c_t, c_f, m_needT, isi_tuple_n, isi_tuple_b, isi_tuple_i, isi_tuple_s, isi_tuple_l, isi_tuple_t, isi_list_n, isi_list_b, isi_list_i, isi_list_s, isi_list_l, isi_list_t, isi_dict_n, isi_dict_b, isi_dict_i, isi_dict_s, isi_dict_l, isi_dict_t, isi_str_n, isi_str_b, isi_str_i, isi_str_s, isi_str_l, isi_str_t, isi_bool_n, isi_bool_b, isi_bool_i, isi_bool_s, isi_bool_l, isi_bool_t, isi_int_n, isi_int_b, isi_int_i, isi_int_s, isi_int_l, isi_int_t, bind_run, pure_run, m__law_pick]
  refine draw_run (by omega) fun r r0 r1 => ?_
  have hr : r.toNat < ds.length := by omega
  have e : r = (r.toNat : Int) := by omega
  rw [e]
  simp (disch := first | assumption | rfl | omega | decide) only [mp_bind, m_assoc, m_opt, m_cond_pure, m_cond_bind, m_cond_t, m_cond_f, mapM_map, filM_map, fold_map, foldF_map, mapM_pure, filM_pure, fold_pure, asI_i, asB_b, asS_l, asS_t, seqOf_l, seqOf_t, addD_i, iaddD_i, subD_i, fdivD_i, modD_i, negD_i, absD_i, intD_i, max2D_i, min2D_i, ltD_i, leD_i, gtD_i, geD_i, eqD_i, neD_i, lenD_l, lenD_t, tupleD_l, tupleD_t, listD_l, listD_t, slD_l, slD_t, revD_l, truthD_b, truthD_n, ixD_l, ixD_t, un2_t, un3_t, un4_t, zipI_l, zipI_t, isD_n, isnD_n, isNone_n, isNone_i, isNone_b, isNone_s, isNone_l, isNone_t, m_eta, Bool.not_true, Bool.not_false, isL_list, atI_0, atI_1, atI_2, atI_3, c_t, c_f, m_needT, isi_tuple_n, isi_tuple_b, isi_tuple_i, isi_tuple_s, isi_tuple_l, isi_tuple_t, isi_list_n, isi_list_b, isi_list_i, isi_list_s, isi_list_l, isi_list_t, isi_dict_n, isi_dict_b, isi_dict_i, isi_dict_s, isi_dict_l, isi_dict_t, isi_str_n, isi_str_b, isi_str_i, isi_str_s, isi_str_l, isi_str_t, isi_bool_n, isi_bool_b, isi_bool_i, isi_bool_s, isi_bool_l, isi_bool_t, isi_int_n, isi_int_b, isi_int_i, isi_int_s, isi_int_l, isi_int_t, bind_run, pure_run, atI_nat, List.getElem?_eq_getElem hr]
  exact h _ (List.getElem_mem hr)
theorem draw_pickT {ds : List D} {P : D → Prop} (h0 : ds ≠ []) (h : ∀ d ∈ ds, P d) : m__law_pick (.tuple ds) P := by
  have hl : 0 < ds.length := List.length_pos_iff.mpr h0
  simp (disch := first | assumption | rfl | omega | decide) only [mp_bind, m_assoc, m_opt, m_cond_pure, m_cond_bind, m_cond_t, m_cond_f, mapM_map, filM_map, fold_map, foldF_map, mapM_pure, filM_pure, fold_pure, asI_i, asB_b, asS_l, asS_t, seqOf_l, seqOf_t, addD_i, iaddD_i, subD_i, fdivD_i, modD_i, negD_i, absD_i, intD_i, max2D_i, min2D_i, ltD_i, leD_i, gtD_i, geD_i, eqD_i, neD_i, lenD_l, lenD_t, tupleD_l, tupleD_t, listD_l, listD_t, slD_l, slD_t, revD_l, truthD_b, truthD_n, ixD_l, ixD_t, un2_t, un3_t, un4_t, zipI_l, zipI_t, isD_n, isnD_n, isNone_n, isNone_i, isNone_b, isNone_s, isNone_l, isNone_t, m_eta, Bool.not_true, Bool.not_false, isL_list, atI_0, atI_1, atI_2, atI_3, c_t, c_f, m_needT, isi_tuple_n, isi_tuple_b, isi_tuple_i, isi_tuple_s, isi_tuple_l, isi_tuple_t, isi_list_n, isi_list_b, isi_list_i, isi_list_s, isi_list_l, isi_list_t, isi_dict_n, isi_dict_b, isi_dict_i, isi_dict_s, isi_dict_l, isi_dict_t, isi_str_n, isi_str_b, isi_str_i, isi_str_s, isi_str_l, isi_str_t, isi_bool_n, isi_bool_b, isi_bool_i, isi_bool_s, isi_bool_l, isi_bool_t, isi_int_n, isi_int_b, isi_int_i, isi_int_s, isi_int_l, isi_int_t, bind_run, pure_run, m__law_pick]
  refine draw_run (by omega) fun r r0 r1 => ?_
  have hr : r.toNat < ds.length := by omega
  have e : r = (r.toNat : Int) := by omega
  rw [e]
  simp (disch := first | assumption | rfl | omega | decide) only [mp_bind, m_assoc, m_opt, m_cond_pure, m_cond_bind, m_cond_t, m_cond_f, mapM_map, filM_map, fold_map, foldF_map, mapM_pure, filM_pure, fold_pure, asI_i, asB_b, asS_l, asS_t, seqOf_l, seqOf_t, addD_i, iaddD_i, subD_i, fdivD_i, modD_i, negD_i, absD_i, intD_i, max2D_i, min2D_i, ltD_i, leD_i, gtD_i, geD_i, eqD_i, neD_i, lenD_l, lenD_t, tupleD_l, tupleD_t, listD_l, listD_t, slD_l, slD_t, revD_l, truthD_b, truthD_n, ixD_l, ixD_t, un2_t, un3_t, un4_t, zipI_l, zipI_t, isD_n, isnD_n, isNone_n, isNone_i, isNone_b, isNone_s, isNone_l, isNone_t, m_eta, Bool.not_true, Bool.not_false, isL_list, atI_0, atI_1, atI_2, atI_3, c_t, c_f, m_needT, isi_tuple_n, isi_tuple_b, isi_tuple_i, isi_tuple_s, isi_tuple_l, isi_tuple_t, isi_list_n, isi_list_b, isi_list_i, isi_list_s, isi_list_l, isi_list_t, isi_dict_n, isi_dict_b, isi_dict_i, isi_dict_s, isi_dict_l, isi_dict_t, isi_str_n, isi_str_b, isi_str_i, isi_str_s, isi_str_l, isi_str_t, isi_bool_n, isi_bool_b, isi_bool_i, isi_bool_s, isi_bool_l, isi_bool_t, isi_int_n, isi_int_b, isi_int_i, isi_int_s, isi_int_l, isi_int_t, bind_run, pure_run, atI_nat, List.getElem?_eq_getElem hr]
  exact h _ (List.getElem_mem hr)
theorem foldF_unit {α : Type} {f : Unit → α → M (Fl Unit Unit)} {xs : List α} {P : Fl Unit Empty → Prop} (h : ∀ x ∈ xs, Ret (f () x) (Fl.nx ())) (hP : P (.nx ())) : M.foldF f () xs P := by
  induction xs with
  | nil => exact hP
  | cons x xs ih =>
    refine h x (by simp) _ ?_
    exact ih fun y hy => h y (by simp [hy])
end Wp
namespace Wp
open PySem PySem.Spec PyProof.Rows L2

/-! ### lists that grow -/
section
variable {γ : Type}
theorem fold_ext {f : D → γ → M D} (g : γ → List D) : ∀ {xs : List γ} {acc : List D}, (∀ acc', ∀ x ∈ xs, acc'.length + (g x).length ≤ 16777216 → f (.list acc') x = M.pure (.list (acc' ++ g x))) → acc.length + (xs.map fun x => (g x).length).sum ≤ 16777216 → M.fold f (.list acc) xs = M.pure (.list (acc ++ xs.flatMap g))
  | [], acc, _, _ => by rw [List.flatMap_nil, List.append_nil]; rfl
  | x :: xs, acc, h, hl => by
    rw [List.map_cons, List.sum_cons] at hl
    show M.bind (f (.list acc) x) (fun s' => M.fold f s' xs) = _
    rw [h acc x (by simp) (by omega), mp_bind, fold_ext g (fun a y hy => h a y (by simp [hy])) (by rw [List.length_append]; omega), List.flatMap_cons, List.append_assoc]
theorem sum_const {xs : List γ} {c : Nat} : (xs.map fun _ => c).sum = xs.length * c := by
  induction xs with
  | nil => simp
  | cons x xs ih => rw [List.map_cons, List.sum_cons, ih, List.length_cons, Nat.succ_mul]; omega
theorem fold_app {f : D → γ → M D} (g : γ → D) {xs : List γ} {acc : List D} (h : ∀ acc', ∀ x ∈ xs, acc'.length < 16777216 → f (.list acc') x = M.pure (.list (acc' ++ [g x]))) (hl : acc.length + xs.length ≤ 16777216) : M.fold f (.list acc) xs = M.pure (.list (acc ++ xs.map g)) := by
  rw [fold_ext (fun x => [g x]) (fun acc' x hx hz => h acc' x hx (by rw [List.length_singleton] at hz; omega)) (by simp only [List.length_singleton]; rw [sum_const]; omega)]
  have : xs.flatMap (fun x => [g x]) = xs.map g := by
    clear h hl
    induction xs with
    | nil => rfl
    | cons x xs ih => rw [List.flatMap_cons, ih]; rfl
  rw [this]
end
/-! ### dicts by numbers -/
def dI (es : List (Int × D)) : D := .dict (es.map fun p => (.int p.1, p.2))
section
variable {es : List (Int × D)} {k : Int} {v : D}
theorem marked_dI (es : List (Int × D)) : marked (es.map fun p => ((.int p.1 : D), p.2)) = false := by cases es <;> rfl
theorem keysD_dI : keysD (dI es) = M.pure (es.map fun p => .int p.1) := funext fun P => by
  show (marked _ = false ∧ P ((es.map fun p => ((.int p.1 : D), p.2)).map (·.1))) = _
  rw [List.map_map]
  exact propext ⟨fun h => h.2, fun h => ⟨marked_dI es, h⟩⟩
theorem lookD_dI (es : List (Int × D)) (k : Int) : lookD (es.map fun p => ((.int p.1 : D), p.2)) (.int k) = es.lookup k := by
  unfold lookD
  induction es with
  | nil => rfl
  | cons p es ih =>
    rw [List.map_cons, List.find?_cons, List.lookup_cons]
    have e : PyData.eqv (.int p.1) (.int k) = (p.1 == k) := by simp [PyData.eqv]
    rw [e]
    by_cases h : p.1 = k
    · subst h; simp
    · have h1 : (p.1 == k) = false := by simpa using h
      have h2 : (k == p.1) = false := by simpa using fun e => h e.symm
      rw [h1, h2]
      exact ih
theorem ixD_dI : ixD (dI es) (.int k) = M.opt (es.lookup k) := funext fun P => by
  show (kD (.int k) = true ∧ M.opt (lookD _ _) P) = _
  rw [lookD_dI]
  exact propext ⟨fun h => h.2, fun h => ⟨rfl, h⟩⟩
theorem get2D_dI {x : D} : get2D (dI es) (.int k) x = M.pure ((es.lookup k).getD x) := funext fun P => by
  show ((kD (.int k) = true ∧ marked _ = false) ∧ P ((lookD _ _).getD x)) = _
  rw [lookD_dI]
  exact propext ⟨fun h => h.2, fun h => ⟨⟨rfl, marked_dI es⟩, h⟩⟩
theorem isDi_dI : isDi (dI es) = true := rfl
theorem plain_dI : plainD (dI es) = true := by
  show (!marked _) = true
  rw [marked_dI]; rfl
theorem putD_dI (h : k ∉ es.map (·.1)) : putD (es.map fun p => ((.int p.1 : D), p.2)) (.int k) v = (es ++ [(k, v)]).map fun p => ((.int p.1 : D), p.2) := by
  unfold putD
  have : (es.map fun p => ((.int p.1 : D), p.2)).any (fun p => PyData.eqv p.1 (.int k)) = false := by
    rw [List.any_eq_false]
    intro p hp
    rw [List.mem_map] at hp
    obtain ⟨q, hq, rfl⟩ := hp
    have : q.1 ≠ k := fun e => h (List.mem_map.mpr ⟨q, hq, e⟩)
    simpa [PyData.eqv] using this
  rw [this, if_neg Bool.false_ne_true, List.map_append]
  rfl
theorem dputD_dI (h : k ∉ es.map (·.1)) (hl : es.length < 16777216) : dputD (dI es) (.int k) v = M.pure (dI (es ++ [(k, v)])) := funext fun P => propext ⟨fun x => by
    have := x.2
    rw [putD_dI h] at this
    exact this, fun x => ⟨⟨rfl, marked_dI es, by simpa using hl⟩, by rw [putD_dI h]; exact x⟩⟩
theorem lookup_memI (nd : (es.map (·.1)).Nodup) {p : Int × D} (h : p ∈ es) : es.lookup p.1 = some p.2 := by
  induction es with
  | nil => cases h
  | cons q es ih =>
    rw [List.map_cons, List.nodup_cons] at nd
    rw [List.lookup_cons]
    rcases List.mem_cons.mp h with rfl | h
    · simp
    · have : p.1 ≠ q.1 := fun e => nd.1 (List.mem_map.mpr ⟨p, h, e⟩)
      have h2 : (p.1 == q.1) = false := by simpa using this
      rw [h2]
      exact ih nd.2 h
end
/-! ### tuples of numbers -/
def tI (ns : List Int) : D := .tuple (ns.map .int)
def ltI : List Int → List Int → Bool
  | [], [] => false
  | [], _ :: _ => true
  | _ :: _, [] => false
  | x :: xs, y :: ys => decide (x < y) || (decide (x = y) && ltI xs ys)
theorem dlt_tI : ∀ xs ys : List Int, dlt (tI xs) (tI ys) = ltI xs ys
  | [], [] => by unfold tI; rw [List.map_nil, dlt_nil]; rfl
  | [], _ :: _ => by unfold tI; rw [List.map_nil, dlt_nil]; rfl
  | _ :: _, [] => by unfold tI; rw [List.map_nil, List.map_cons, dlt_cons_nil]; rfl
  | x :: xs, y :: ys => by
    have := dlt_tI xs ys
    unfold tI at this ⊢
    rw [List.map_cons, List.map_cons, dlt_int2, this]; rfl
theorem dlt_one {x y : D} (h : PySem.W.alike x y = true) : dlt (.tuple [x]) (.tuple [y]) = dlt x y := by
  rw [dlt_cons h, dlt_nil]; simp
theorem alike_tI (xs ys : List Int) : PySem.W.alike (tI xs) (tI ys) = true := by unfold tI; rw [alike_tup]; exact alike_ints xs ys
theorem dlt_pair {a b : Int} {x y : D} (h : PySem.W.alike x y = true) : dlt (.tuple [.int a, x]) (.tuple [.int b, y]) = (decide (a < b) || (decide (a = b) && dlt x y)) := by
  rw [dlt_int2, dlt_one h]
theorem ltI_snoc (h : Int) : ∀ {xs ys : List Int}, xs.length = ys.length → ltI (xs ++ [h]) (ys ++ [h]) = ltI xs ys
  | [], [], _ => by simp [ltI]
  | [], _ :: _, e => by simp at e
  | _ :: _, [], e => by simp at e
  | x :: xs, y :: ys, e => by
    have := ltI_snoc h (xs := xs) (ys := ys) (by simpa using e)
    simp [ltI, this]
/-- a number and a tuple of numbers -/
def rD (a : Int × List Int) : D := .tuple [.int a.1, tI a.2]
def ltR (a b : Int × List Int) : Bool := decide (a.1 < b.1) || (decide (a.1 = b.1) && ltI a.2 b.2)
theorem dlt_rD (a b : Int × List Int) : dlt (rD a) (rD b) = ltR a b := by unfold rD ltR; rw [dlt_pair (alike_tI _ _), dlt_tI]
theorem alike_rD (a b : Int × List Int) : PySem.W.alike (rD a) (rD b) = true := by
  have := alike_tI a.2 b.2
  unfold rD
  rw [alike_tup]
  simp [PySem.W.alikeAll, PySem.W.alike, this]
theorem ltR_trans {a b c : Int × List Int} (h : ltR a b = false) (k : ltR b c = false) : ltR a c = false := by
  rw [← dlt_rD] at *
  exact nlt_trans h k
theorem ltR_eq {a b : Int × List Int} (h : ltR a b = false) (k : ltR b a = false) : a = b := by
  rw [← dlt_rD] at h k
  have := dlt_eq (alike_rD a b) h k
  have inj : ∀ xs ys : List Int, xs.map (PyData.int) = ys.map .int → xs = ys := fun xs ys e => by
    refine (List.map_inj_right ?_).mp e
    intro x y h; cases h; rfl
  unfold rD tI at this
  simp at this
  exact Prod.ext this.1 (inj _ _ this.2)
theorem sh_tI {n : Nat} {xs : List Int} : sh (n + 1) (tI xs) = true := by unfold tI; rw [sh_tup]; exact shA_map fun _ _ => sh_int
theorem sh_rD {n : Nat} {a : Int × List Int} : sh (n + 2) (rD a) = true := by
  unfold rD
  rw [sh_tup, shA_cons, shA_cons, sh_int, sh_tI, shA_nil]; rfl
theorem alikeL_of {ds : List D} (h : ∀ x ∈ ds, ∀ y ∈ ds, PySem.W.alike x y = true) (h0 : ∀ x ∈ ds, x ≠ .none) (hs : ∀ x ∈ ds, sh 16 x = true) : alikeL ds = true := by
  unfold alikeL
  rw [Bool.and_eq_true, Bool.and_eq_true, List.all_eq_true, List.all_eq_true, shA_all, List.all_eq_true]
  refine ⟨⟨fun x hx => ?_, fun x hx => ?_⟩, hs⟩
  · rw [List.all_eq_true]; exact h x hx
  · have := h0 x hx
    cases x <;> first | rfl | exact absurd rfl this
theorem alikeL_rD {xs : List (Int × List Int)} : alikeL (xs.map rD) = true := alikeL_of
  (fun x hx y hy => by
    obtain ⟨a, _, rfl⟩ := List.mem_map.mp hx
    obtain ⟨b, _, rfl⟩ := List.mem_map.mp hy
    exact alike_rD a b)
  (fun x hx => by
    obtain ⟨a, _, rfl⟩ := List.mem_map.mp hx
    exact fun e => by cases e)
  (fun x hx => by
    obtain ⟨a, _, rfl⟩ := List.mem_map.mp hx
    exact sh_rD)
theorem alikeL_int {xs : List Int} : alikeL (xs.map .int) = true := alikeL_of
  (fun x hx y hy => by
    obtain ⟨a, _, rfl⟩ := List.mem_map.mp hx
    obtain ⟨b, _, rfl⟩ := List.mem_map.mp hy
    simp [PySem.W.alike])
  (fun x hx => by
    obtain ⟨a, _, rfl⟩ := List.mem_map.mp hx
    exact fun e => by cases e)
  (fun x hx => by
    obtain ⟨a, _, rfl⟩ := List.mem_map.mp hx
    exact sh_int)
theorem min1D_rD {xs : List (Int × List Int)} {m : Int × List Int} (hm : m ∈ xs) (hl : ∀ y ∈ xs, ltR y m = false) : min1D (.list (xs.map rD)) = M.pure (rD m) := by
  unfold min1D
  have hne : xs.map rD ≠ [] := List.ne_nil_of_mem (List.mem_map.mpr ⟨m, hm, rfl⟩)
  rw [seqOf_l, mp_bind, m_need ⟨alikeL_rD, hne⟩, minL_eq (List.mem_map.mpr ⟨m, hm, rfl⟩)]
  · intro y hy
    obtain ⟨a, ha, rfl⟩ := List.mem_map.mp hy
    rw [dlt_rD]; exact hl a ha
  · intro y hy
    obtain ⟨a, ha, rfl⟩ := List.mem_map.mp hy
    exact alike_rD _ _
/-- the greatest of numbers -/
def maxI (n : Int) (ns : List Int) : Int := ns.foldl max n
theorem maxI_spec : ∀ (ns : List Int) (n : Int), maxI n ns ∈ n :: ns ∧ ∀ y ∈ n :: ns, y ≤ maxI n ns
  | [], n => by simp [maxI]
  | x :: ns, n => by
    obtain ⟨h1, h2⟩ := maxI_spec ns (max n x)
    show maxI (max n x) ns ∈ _ ∧ ∀ y ∈ _, y ≤ maxI (max n x) ns
    have hb := h2 _ (List.mem_cons_self)
    refine ⟨?_, fun y hy => ?_⟩
    · rcases List.mem_cons.mp h1 with e | e
      · have : max n x = n ∨ max n x = x := by omega
        rcases this with h | h <;> rw [e, h] <;> simp
      · exact List.mem_cons_of_mem _ (List.mem_cons_of_mem _ e)
    · rcases List.mem_cons.mp hy with rfl | hy
      · omega
      · rcases List.mem_cons.mp hy with rfl | hy
        · omega
        · exact h2 y (List.mem_cons_of_mem _ hy)
def minI (n : Int) (ns : List Int) : Int := ns.foldl min n
theorem minI_spec : ∀ (ns : List Int) (n : Int), minI n ns ∈ n :: ns ∧ ∀ y ∈ n :: ns, minI n ns ≤ y
  | [], n => by simp [minI]
  | x :: ns, n => by
    obtain ⟨h1, h2⟩ := minI_spec ns (min n x)
    show minI (min n x) ns ∈ _ ∧ ∀ y ∈ _, minI (min n x) ns ≤ y
    have hb := h2 _ (List.mem_cons_self)
    refine ⟨?_, fun y hy => ?_⟩
    · rcases List.mem_cons.mp h1 with e | e
      · have : min n x = n ∨ min n x = x := by omega
        rcases this with h | h <;> rw [e, h] <;> simp
      · exact List.mem_cons_of_mem _ (List.mem_cons_of_mem _ e)
    · rcases List.mem_cons.mp hy with rfl | hy
      · omega
      · rcases List.mem_cons.mp hy with rfl | hy
        · omega
        · exact h2 y (List.mem_cons_of_mem _ hy)
theorem max1_l {n : Int} {ns : List Int} : max1D (.list (.int n :: ns.map .int)) = M.pure (.int (maxI n ns)) := by
  unfold max1D
  have h : alikeL (.int n :: ns.map .int) = true := alikeL_int (xs := n :: ns)
  rw [seqOf_l, mp_bind, m_need ⟨h, by simp⟩]
  exact congrArg M.pure maxL_ints
theorem max1_t {n : Int} {ns : List Int} : max1D (.tuple (.int n :: ns.map .int)) = M.pure (.int (maxI n ns)) := by
  unfold max1D
  have h : alikeL (.int n :: ns.map .int) = true := alikeL_int (xs := n :: ns)
  rw [seqOf_t, mp_bind, m_need ⟨h, by simp⟩]
  exact congrArg M.pure maxL_ints
theorem min1_l {n : Int} {ns : List Int} : min1D (.list (.int n :: ns.map .int)) = M.pure (.int (minI n ns)) := by
  unfold min1D
  have h : alikeL (.int n :: ns.map .int) = true := alikeL_int (xs := n :: ns)
  rw [seqOf_l, mp_bind, m_need ⟨h, by simp⟩]
  exact congrArg M.pure minL_ints
theorem min1_t {n : Int} {ns : List Int} : min1D (.tuple (.int n :: ns.map .int)) = M.pure (.int (minI n ns)) := by
  unfold min1D
  have h : alikeL (.int n :: ns.map .int) = true := alikeL_int (xs := n :: ns)
  rw [seqOf_t, mp_bind, m_need ⟨h, by simp⟩]
  exact congrArg M.pure minL_ints
theorem sum1_l {ns : List Int} : sum1D (.list (ns.map .int)) = M.pure (.int ns.sum) := by
  unfold sum1D
  rw [seqOf_l, mp_bind, asInts_map, m_opt, mp_bind]
theorem sum1_t {ns : List Int} : sum1D (.tuple (ns.map .int)) = M.pure (.int ns.sum) := by
  unfold sum1D
  rw [seqOf_t, mp_bind, asInts_map, m_opt, mp_bind]
theorem mapM_drawn {α : Type} {f : α → M D} {xs : List α} {Q : Int → Prop} {P : List D → Prop} (hf : ∀ x ∈ xs, ∀ R : D → Prop, (∀ i : Int, Q i → R (.int i)) → f x R) (hP : ∀ ns : List Int, ns.length = xs.length → (∀ n ∈ ns, Q n) → P (ns.map .int)) : M.mapM f xs P := by
  induction xs generalizing P with
  | nil => exact hP [] rfl (by simp)
  | cons x xs ih =>
    refine hf x (by simp) _ fun i hi => ?_
    refine ih (fun y hy => hf y (by simp [hy])) fun ns hl hn => ?_
    exact hP (i :: ns) (by simp [hl]) fun n hn' => by
      rcases List.mem_cons.mp hn' with rfl | h
      · exact hi
      · exact hn n h
end Wp
namespace Wp
open PySem PySem.Spec PyProof.Rows L2

/-! ### zip of a list or tuple and a list or tuple -/
/-- an iterator over a tuple (tp) or over a list, and what it goes over -/
def OnSeq (tp : Bool) (h : Heap) (it l : Addr) (k : Nat) : Prop := cond tp (h.IsTupleIter it l k) (h.IsListIter it l k)
def HasSeq (tp : Bool) (h : Heap) (l : Addr) (xs : Array Value) : Prop := cond tp (h.IsTuple l xs) (h.IsList l xs)
section
variable {tp : Bool} {h h' : Heap} {it l b : Addr} {k : Nat} {xs : Array Value}
theorem OnSeq.but (x : OnSeq tp h it l k) (e : Heap.ExtBut b h h') (n : it ≠ b) : OnSeq tp h' it l k := by
  cases tp
  · exact Heap.IsListIter.extBut x e n
  · exact Heap.IsTupleIter.extBut x e n
theorem OnSeq.on (x : OnSeq tp h it l k) (e : ∀ o, h.get? it = some o → h'.get? it = some o) : OnSeq tp h' it l k := by
  cases tp
  · exact Heap.IsListIter.at x e
  · exact Heap.IsTupleIter.at x e
theorem OnSeq.there (x : OnSeq tp h it l k) : ∃ o, h.get? it = some o ∧ ∃ vs, o.data = .fields vs := by
  cases tp
  · obtain ⟨o, e, _, d⟩ := (show h.IsListIter it l k from x); exact ⟨o, e, _, d⟩
  · obtain ⟨o, e, _, d⟩ := (show h.IsTupleIter it l k from x); exact ⟨o, e, _, d⟩
theorem HasSeq.but (x : HasSeq tp h l xs) (e : Heap.ExtBut b h h') (n : l ≠ b) : HasSeq tp h' l xs := by
  cases tp
  · exact Heap.IsList.extBut x e n
  · exact Heap.IsTuple.extBut x e n
theorem HasSeq.push {o : Obj} (x : HasSeq tp h l xs) : HasSeq tp (h.push o) l xs := by
  cases tp
  · exact Heap.IsList.push x _
  · exact Heap.IsTuple.push x _
end
section
variable {prog : Program} {w : World} {A : Around} {E : Value → Shared → Prop} {s : Shared} {tp : Bool} {it l : Addr} {i : Nat} {items : Array Value}
theorem nextOf_seq {x : Value} {Q : Value → Shared → Prop} (a : OnSeq tp s.heap it l i) (b : HasSeq tp s.heap l items) (e : items[i]? = some x) (q : ∀ h', OnSeq tp h' it l (i + 1) → Heap.SameBut it s.heap h' → Q x { s with heap := h' }) :
    wpAny (model prog w) A (Builtin.SmallTypes.nextOf (.ref it)) Q E s := by
  cases tp
  · exact wpAny_nextOf_list_item a b e q
  · exact RZ.nextOf_tuple_item a b e q
theorem nextOf_seq_end {Q : Value → Shared → Prop} (hh : A.handled = none) (a : OnSeq tp s.heap it l i) (b : HasSeq tp s.heap l items) (e : items[i]? = none) (q : ∀ h' e, Heap.ExtBut it s.heap h' → (∃ o, h'.get? e = some o ∧ o.cls = .type "StopIteration") → E (.ref e) { s with heap := h' }) :
    wpAny (model prog w) A (Builtin.SmallTypes.nextOf (.ref it)) Q E s := by
  cases tp
  · exact wpAny_nextOf_list_end hh a b e q
  · exact RZ.nextOf_tuple_end hh a b e q
end
section
variable {prog : Program} {w : World} {A : Around} {E : Value → Shared → Prop} {s : Shared} {p q : Bool} {Z PI PO u v la lb : Addr} {m n : Nat} {xs ys : Array Value}
/-- the zip at rest: its parts, and the iterators at their places -/
structure AtRest (p q : Bool) (h : Heap) (Z PI PO u v la lb : Addr) (m n : Nat) (a b : Value) (xs ys : Array Value) : Prop where
  z : IsZip h Z PI PO .none
  i : IsPair h PI (.ref u) (.ref v)
  o : IsPair h PO a b
  u : OnSeq p h u la m
  v : OnSeq q h v lb n
  a : HasSeq p h la xs
  b : HasSeq q h lb ys
/-- all but the zip's own things stand still -/
def Still (Z PO u v : Addr) (h h' : Heap) : Prop := ∀ c o, c ≠ Z → c ≠ PO → c ≠ u → c ≠ v → h.get? c = some o → h'.get? c = some o
theorem zipM_item {x y a b : Value} {Q : Value → Shared → Prop} (D : ZipApart Z PI PO u v la lb) (R : AtRest p q s.heap Z PI PO u v la lb m n a b xs ys) (ex : xs[m]? = some x) (ey : ys[n]? = some y)
    (fin : ∀ h', IsZip h' Z PI PO (rawInt s.heap.objs.size) → IsPair h' PO x y → OnSeq p h' u la (m + 1) → OnSeq q h' v lb (n + 1) → IsPair h' s.heap.objs.size x y → h'.objs.size = s.heap.objs.size + 1 → Still Z PO u v s.heap h' → Q (.ref s.heap.objs.size) { s with heap := h' }) :
    wpAny (model prog w) A (Builtin.«zip.__next__» ⟨[.ref Z], []⟩) (fun f s' => ∃ r, f = .done (.ret r) ∧ Q r s') E s := by
  refine wpAny_bind (m := field (.ref Z) 2) (wpAny_field R.z rfl (x := .bool false) rfl (wpAny_bind (m := field (.ref Z) 3) (wpAny_field R.z rfl (x := .ref PI) rfl (wpAny_bind (wpAny_seqItems R.i rfl (wpAny_bind (m := Builtin.SmallTypes.ownedTupleIsFree (.ref Z)) ?_))))))
  unfold Builtin.SmallTypes.ownedTupleIsFree
  refine wpAny_bind (wpAny_field R.z rfl (x := .none) rfl (wpAny_pure ?_))
  simp only [if_true]
  refine wpAny_bind (wpAny_rule (wpAny_bind (wpAny_field R.z rfl (x := .ref PO) rfl (wpAny_bind (wpAny_setField_rec R.z (by simp) fun g1 z1 k1 => wpAny_bind ?_)))))
  have z1' : IsZip g1 Z PI PO .ellipsis := z1
  simp only [List.zipIdx_cons, List.zipIdx_nil, List.forIn_cons, List.forIn_nil]
  refine wpAny_bind (wpAny_bind (wpAny_onRaise (wpAny_bind (m := Builtin.SmallTypes.nextOf (.ref u)) (nextOf_seq (R.u.but k1.extBut D.i1z) (R.a.but k1.extBut D.l1z) ex fun g2 u2 k2 => wpAny_pure ?_))))
  have o2 : IsPair g2 PO a b := k2.extBut _ _ D.TOi1 (k1.extBut _ _ D.TOz R.o)
  refine wpAny_bind (wpAny_seqItems o2 rfl (wpAny_bind (wpAny_updateSeq_pair o2 fun g3 o3 k3 => wpAny_bind (wpAny_letGo (wpAny_pure ?_)))))
  have o3' : IsPair g3 PO x b := o3
  have v3 := ((R.v.but k1.extBut D.i2z).but k2.extBut D.i12.symm).but k3.extBut D.TOi2.symm
  have b3 := ((R.b.but k1.extBut D.l2z).but k2.extBut D.l2i1).but k3.extBut D.l2TO
  refine wpAny_bind (wpAny_bind (wpAny_onRaise (wpAny_bind (m := Builtin.SmallTypes.nextOf (.ref v)) (nextOf_seq v3 b3 ey fun g4 v4 k4 => wpAny_pure ?_))))
  have o4 : IsPair g4 PO x b := k4.extBut _ _ D.TOi2 o3'
  refine wpAny_bind (wpAny_seqItems o4 rfl (wpAny_bind (wpAny_updateSeq_pair o4 fun g5 o5 k5 => wpAny_bind (wpAny_letGo (wpAny_pure (wpAny_pure ?_))))))
  have o5' : IsPair g5 PO x y := o5
  refine wpAny_bind (wpAny_seqItems o5' rfl (wpAny_bind (wpAny_newTuple ?_)))
  have size5 : g5.objs.size = s.heap.objs.size := by rw [k5.1, k4.1, k3.1, k2.1, k1.1]
  have z5 : IsZip g5 Z PI PO .ellipsis := k5.extBut _ _ D.TOz.symm (k4.extBut _ _ D.i2z.symm (k3.extBut _ _ D.TOz.symm (k2.extBut _ _ D.i1z.symm z1')))
  have still5 : Still Z PO u v s.heap g5 := fun c o c1 c2 c3 c4 e => k5.extBut _ _ c2 (k4.extBut _ _ c4 (k3.extBut _ _ c2 (k2.extBut _ _ c3 (k1.extBut _ _ c1 e))))
  have u5 : OnSeq p g5 u la (m + 1) := ((u2.but k3.extBut D.TOi1.symm).but k4.extBut D.i12).but k5.extBut D.TOi1.symm
  have v5 : OnSeq q g5 v lb (n + 1) := v4.but k5.extBut D.TOi2.symm
  have zlt : Z < g5.objs.size := Heap.lt_size z5
  refine wpAny_bind (m := Builtin.SmallTypes.ownedTupleHandOut (.ref Z) (.ref g5.objs.size)) ?_
  unfold Builtin.SmallTypes.ownedTupleHandOut
  have z6 : IsZip (g5.push { cls := .type "tuple", data := .seq #[x, y] }) Z PI PO .ellipsis := Heap.get?_push_of_some _ z5
  refine wpAny_bind (wpAny_setField_rec z6 (by simp) fun g7 z7 k7 => wpAny_setField_rec (show IsZip g7 Z PI PO (rawInt g5.objs.size) from z7) (by simp) fun g8 z8 k8 => ?_)
  have z8' : IsZip g8 Z PI PO (rawInt g5.objs.size) := z8
  have on8 : ∀ c o, c ≠ Z → g5.get? c = some o → g8.get? c = some o := fun c o c1 e => k8.extBut _ _ c1 (k7.extBut _ _ c1 (Heap.get?_push_of_some _ e))
  have t8 : IsPair g8 g5.objs.size x y := k8.extBut _ _ (Nat.ne_of_gt zlt) (k7.extBut _ _ (Nat.ne_of_gt zlt) (Heap.get?_push_size _ rfl))
  have size8 : g8.objs.size = g5.objs.size + 1 := by rw [k8.1, k7.1, Heap.size_push]
  rw [size5] at z8' t8 size8
  refine wpAny_pure ⟨_, rfl, ?_⟩
  show Q (.ref g5.objs.size) _
  rw [size5]
  exact fin g8 z8' (on8 _ _ D.TOz o5') (u5.on fun o e => on8 _ o D.i1z e) (v5.on fun o e => on8 _ o D.i2z e) t8 size8 fun c o c1 c2 c3 c4 e => on8 c o c1 (still5 c o c1 c2 c3 c4 e)
theorem zipM_end {a b : Value} {Q : Fin → Shared → Prop} (hh : A.handled = none) (D : ZipApart Z PI PO u v la lb) (R : AtRest p q s.heap Z PI PO u v la lb m n a b xs ys) (en : xs[m]? = none ∨ ys[n]? = none)
    (fin : ∀ h' e, Still Z PO u v s.heap h' → (∃ o, h'.get? e = some o ∧ o.cls = .type "StopIteration") → E (.ref e) { s with heap := h' }) :
    wpAny (model prog w) A (Builtin.«zip.__next__» ⟨[.ref Z], []⟩) Q E s := by
  refine wpAny_bind (m := field (.ref Z) 2) (wpAny_field R.z rfl (x := .bool false) rfl (wpAny_bind (m := field (.ref Z) 3) (wpAny_field R.z rfl (x := .ref PI) rfl (wpAny_bind (wpAny_seqItems R.i rfl (wpAny_bind (m := Builtin.SmallTypes.ownedTupleIsFree (.ref Z)) ?_))))))
  unfold Builtin.SmallTypes.ownedTupleIsFree
  refine wpAny_bind (wpAny_field R.z rfl (x := .none) rfl (wpAny_pure ?_))
  simp only [if_true]
  refine wpAny_bind (wpAny_rule (wpAny_bind (wpAny_field R.z rfl (x := .ref PO) rfl (wpAny_bind (wpAny_setField_rec R.z (by simp) fun g1 z1 k1 => wpAny_bind ?_)))))
  have z1' : IsZip g1 Z PI PO .ellipsis := z1
  simp only [List.zipIdx_cons, List.zipIdx_nil, List.forIn_cons, List.forIn_nil]
  refine wpAny_bind (wpAny_bind (wpAny_onRaise (wpAny_bind (m := Builtin.SmallTypes.nextOf (.ref u)) ?_)))
  have u1 := R.u.but k1.extBut D.i1z
  have a1 := R.a.but k1.extBut D.l1z
  cases ex : xs[m]? with
  | none =>
    refine nextOf_seq_end hh u1 a1 ex fun g2 e k2 he => ?_
    obtain ⟨oe, hoe, ce⟩ := he
    have z2 : IsZip g2 Z PI PO .ellipsis := k2 _ _ D.i1z.symm z1'
    have ez : e ≠ Z := fun x => by subst x; rw [z2] at hoe; cases hoe; simp at ce
    exact wpAny_setField_rec z2 (by simp) fun g3 _ k3 => fin g3 e (fun c o c1 _ c3 _ x => k3.extBut _ _ c1 (k2 _ _ c3 (k1.extBut _ _ c1 x))) ⟨oe, k3.extBut _ _ ez hoe, ce⟩
  | some x =>
    have ey : ys[n]? = none := by rcases en with h | h; rw [ex] at h; cases h; exact h
    refine nextOf_seq u1 a1 ex fun g2 u2 k2 => wpAny_pure ?_
    have o2 : IsPair g2 PO a b := k2.extBut _ _ D.TOi1 (k1.extBut _ _ D.TOz R.o)
    refine wpAny_bind (wpAny_seqItems o2 rfl (wpAny_bind (wpAny_updateSeq_pair o2 fun g3 o3 k3 => wpAny_bind (wpAny_letGo (wpAny_pure ?_)))))
    have v3 := ((R.v.but k1.extBut D.i2z).but k2.extBut D.i12.symm).but k3.extBut D.TOi2.symm
    have b3 := ((R.b.but k1.extBut D.l2z).but k2.extBut D.l2i1).but k3.extBut D.l2TO
    refine wpAny_bind (wpAny_bind (wpAny_onRaise (wpAny_bind (m := Builtin.SmallTypes.nextOf (.ref v)) (nextOf_seq_end hh v3 b3 ey fun g4 e k4 he => ?_))))
    obtain ⟨oe, hoe, ce⟩ := he
    have z4 : IsZip g4 Z PI PO .ellipsis := k4 _ _ D.i2z.symm (k3.extBut _ _ D.TOz.symm (k2.extBut _ _ D.i1z.symm z1'))
    have ez : e ≠ Z := fun x => by subst x; rw [z4] at hoe; cases hoe; simp at ce
    exact wpAny_setField_rec z4 (by simp) fun g5 _ k5 => fin g5 e (fun c o c1 c2 c3 c4 x => k5.extBut _ _ c1 (k4 _ _ c4 (k3.extBut _ _ c2 (k2.extBut _ _ c3 (k1.extBut _ _ c1 x))))) ⟨oe, k5.extBut _ _ ez hoe, ce⟩
end
/-! ### the call, the turns -/
def itCls (p : Bool) : String := cond p "tuple_iterator" "list_iterator"
abbrev zm1 (p : Bool) (h : Heap) (l1 : Addr) : Heap := h.push { cls := .type (itCls p), data := .fields #[.ref l1, .int 0 0] }
abbrev zm2 (p q : Bool) (h : Heap) (l1 l2 : Addr) : Heap := (zm1 p h l1).push { cls := .type (itCls q), data := .fields #[.ref l2, .int 0 0] }
abbrev zm3 (p q : Bool) (h : Heap) (l1 l2 : Addr) : Heap := (zm2 p q h l1 l2).push { cls := .type "tuple", data := .seq #[.ref h.objs.size, .ref (zm1 p h l1).objs.size] }
abbrev zm4 (p q : Bool) (h : Heap) (l1 l2 : Addr) : Heap := (zm3 p q h l1 l2).push { cls := .type "tuple", data := .seq #[.none, .none] }
abbrev zm5 (p q : Bool) (h : Heap) (l1 l2 : Addr) : Heap := (zm4 p q h l1 l2).push { cls := .type "zip", data := .fields #[.none, .bool false, .bool false, .ref (zm2 p q h l1 l2).objs.size, .ref (zm3 p q h l1 l2).objs.size] }
theorem meetsZ (p q : Bool) (l1 l2 : Addr) (xs ys : Array Value) :
    Meets (Builtin.«zip.__new__» ⟨[.type "zip", .ref l1, .ref l2], []⟩) (fun _ R s => HasSeq p s.heap l1 xs ∧ HasSeq q s.heap l2 ys ∧ R (.ok (.ret (.ref (zm4 p q s.heap l1 l2).objs.size))) { s with heap := zm5 p q s.heap l1 l2 }) := by
  cases p <;> cases q
  · exact meets_zip_new l1 l2 xs ys
  · exact .of_wp fun prog w A R s h => by
      obtain ⟨hp, g, d, tk, os⟩ := s; obtain ⟨a1, a2, h⟩ := h
      have hsub := sub_zip
      have b1 : Heap.IsList (Shared.heap ⟨hp, g, d, tk, os⟩) l1 xs := a1
      have b2 : Heap.IsTuple (Shared.heap ⟨hp.push { cls := .type "list_iterator", data := .fields #[.ref l1, .int 0 0] }, g, d, tk, os⟩) l2 ys := Heap.IsTuple.push a2 _
      wp_walk using wpAny_pyIter_list b1, wpAny_pyIter_tuple b2
      exact ⟨_, rfl, h⟩
  · exact .of_wp fun prog w A R s h => by
      obtain ⟨hp, g, d, tk, os⟩ := s; obtain ⟨a1, a2, h⟩ := h
      have hsub := sub_zip
      have b1 : Heap.IsTuple (Shared.heap ⟨hp, g, d, tk, os⟩) l1 xs := a1
      have b2 : Heap.IsList (Shared.heap ⟨hp.push { cls := .type "tuple_iterator", data := .fields #[.ref l1, .int 0 0] }, g, d, tk, os⟩) l2 ys := Heap.IsList.push a2 _
      wp_walk using wpAny_pyIter_tuple b1, wpAny_pyIter_list b2
      exact ⟨_, rfl, h⟩
  · exact RZ.meets_zipT_new l1 l2 xs ys
section
variable {prog : Program} {w : World} {A : Around} {E : Value → Shared → Prop} {s : Shared} {p q : Bool} {la lb : Addr} {xs ys : Array Value}
theorem callZ {Q : Value → Shared → Prop} (a : HasSeq p s.heap la xs) (b : HasSeq q s.heap lb ys)
    (fin : ∀ h' x y, AtRest p q h' (s.heap.objs.size + 4) (s.heap.objs.size + 2) (s.heap.objs.size + 3) s.heap.objs.size (s.heap.objs.size + 1) la lb 0 0 x y xs ys → h'.objs.size = s.heap.objs.size + 5 → (∀ c o, s.heap.get? c = some o → h'.get? c = some o) → Q (.ref (s.heap.objs.size + 4)) { s with heap := h' }) :
    wpAny (model prog w) A (call (.type "zip") [.ref la, .ref lb]) Q E s := by
  refine callType_new F.called_zip (by decide) (F.typeCall_zip_2 _ _) (F.newCall_zip_2 _ _) (fun obj => F.args_object_init_3 obj _ _) F.entry_zip_new (meetsZ p q la lb xs ys) ⟨a, b, ?_⟩
  have s1 : (zm1 p s.heap la).objs.size = s.heap.objs.size + 1 := Heap.size_push ..
  have s2 : (zm2 p q s.heap la lb).objs.size = s.heap.objs.size + 2 := by rw [Heap.size_push, s1]
  have s3 : (zm3 p q s.heap la lb).objs.size = s.heap.objs.size + 3 := by rw [Heap.size_push, s2]
  have s4 : (zm4 p q s.heap la lb).objs.size = s.heap.objs.size + 4 := by rw [Heap.size_push, s3]
  have s5 : (zm5 p q s.heap la lb).objs.size = s.heap.objs.size + 5 := by rw [Heap.size_push, s4]
  have up1 : ∀ c o, s.heap.get? c = some o → (zm1 p s.heap la).get? c = some o := fun c o e => Heap.get?_push_of_some _ e
  have up2 : ∀ c o, (zm1 p s.heap la).get? c = some o → (zm2 p q s.heap la lb).get? c = some o := fun c o e => Heap.get?_push_of_some _ e
  have up3 : ∀ c o, (zm2 p q s.heap la lb).get? c = some o → (zm3 p q s.heap la lb).get? c = some o := fun c o e => Heap.get?_push_of_some _ e
  have up4 : ∀ c o, (zm3 p q s.heap la lb).get? c = some o → (zm4 p q s.heap la lb).get? c = some o := fun c o e => Heap.get?_push_of_some _ e
  have up5 : ∀ c o, (zm4 p q s.heap la lb).get? c = some o → (zm5 p q s.heap la lb).get? c = some o := fun c o e => Heap.get?_push_of_some _ e
  have r5 : (zm5 p q s.heap la lb).get? (zm4 p q s.heap la lb).objs.size = some _ := Heap.get?_push_size _ rfl
  have r4 : (zm5 p q s.heap la lb).get? (zm3 p q s.heap la lb).objs.size = some _ := up5 _ _ (Heap.get?_push_size _ rfl)
  have r3 : (zm5 p q s.heap la lb).get? (zm2 p q s.heap la lb).objs.size = some _ := up5 _ _ (up4 _ _ (Heap.get?_push_size _ rfl))
  have r2 : (zm5 p q s.heap la lb).get? (zm1 p s.heap la).objs.size = some _ := up5 _ _ (up4 _ _ (up3 _ _ (Heap.get?_push_size _ rfl)))
  have r1 : (zm5 p q s.heap la lb).get? s.heap.objs.size = some _ := up5 _ _ (up4 _ _ (up3 _ _ (up2 _ _ (Heap.get?_push_size _ rfl))))
  show _ ∧ _
  rw [s2, s3, s4] at r5
  rw [s1, s2] at r3
  rw [s3] at r4
  rw [s1] at r2
  rw [s4]
  have on1 : OnSeq p (zm5 p q s.heap la lb) s.heap.objs.size la 0 := by cases p <;> exact ⟨_, r1, rfl, rfl⟩
  have on2 : OnSeq q (zm5 p q s.heap la lb) (s.heap.objs.size + 1) lb 0 := by cases q <;> exact ⟨_, r2, rfl, rfl⟩
  exact ⟨⟨_, r5, rfl⟩, fin _ _ _ ⟨r5, r3, r4, on1, on2, ((((a.push).push).push).push).push, ((((b.push).push).push).push).push⟩ s5 fun c o x => up5 c o (up4 c o (up3 c o (up2 c o (up1 c o x))))⟩
end
/-- a list's or a tuple's items -/
def SqM (p : Bool) (K : PySem.W.Frag) (H : Hp) (a : Addr) (xs : List V) : Prop := cond p (SqT K H a xs) (SqL K H a xs)
theorem SqM.items {X : Cx} {pins : List (Addr × Obj)} {σ : L2.St} {H : Hp} {s : Shared} {p : Bool} {a : Addr} {xs : List V} (I : L2.Inv X pins σ H s) (h : SqM p X.K H a xs) : ∃ its : List Value, Vals xs its ∧ HasSeq p s.heap a its.toArray ∧ a < s.heap.objs.size := by
  cases p
  · obtain ⟨its, rv, pl, _⟩ := I.list h; exact ⟨its, rv, pl.isList, pl.lt⟩
  · obtain ⟨its, rv, pl, _⟩ := I.tuple h; exact ⟨its, rv, pl, pl.lt⟩
theorem SqM.inj {X : Cx} {pins : List (Addr × Obj)} {σ : L2.St} {H : Hp} {s : Shared} {p : Bool} {a : Addr} {xs ys : List V} (I : L2.Inv X pins σ H s) (h : SqM p X.K H a xs) (k : SqM p X.K H a ys) : xs = ys := by
  cases p
  · exact I.list_inj h k
  · exact I.tuple_inj h k
def ItzM (p q : Bool) (K : PySem.W.Frag) (a b : Addr) : It :=
  ⟨fun i H => ∃ (xs ys : List V) (x y : V), SqM p K H a xs ∧ SqM q K H b ys ∧ xs[i]? = some x ∧ ys[i]? = some y,
    fun i H v H' => ∃ T x y, v = .ref T ∧ H T = none ∧ H' = upd H T (.tup [x, y]) ∧ (∀ xs, SqM p K H a xs → xs[i]? = some x) ∧ ∀ ys, SqM q K H b ys → ys[i]? = some y,
    fun i H => ∃ xs ys : List V, SqM p K H a xs ∧ SqM q K H b ys ∧ (xs.length ≤ i ∨ ys.length ≤ i)⟩
def five (Z PI PO u v : Addr) : List Addr := [Z, PI, PO, u, v]
theorem mem_five {Z PI PO u v c : Addr} (h : c ∈ five Z PI PO u v) : c = Z ∨ c = PI ∨ c = PO ∨ c = u ∨ c = v := by simpa [five] using h
theorem turnM_zip {P : Program} {w : World} {K : PySem.W.Frag} {elts : List Expr} {kk : Nat} {tpos : Pos} {p q : Bool} {a b Z PI PO u v : Addr} (D : ZipApart Z PI PO u v a b) :
    Turn P w K (.Tuple elts kk tpos) (ItzM p q K a b) (five Z PI PO u v) Z (fun i h => IsZip h Z PI PO .none ∧ IsPair h PI (.ref u) (.ref v) ∧ (∃ x y, IsPair h PO x y) ∧ OnSeq p h u a i ∧ OnSeq q h v b i) where
  mem := by simp [five]
  obj := fun i h st c hc => by
    obtain ⟨r1, r2, ⟨x, y, r3⟩, r4, r5⟩ := st
    rcases mem_five hc with e | e | e | e | e
    · subst e; exact ⟨_, r1, fun v q => nomatch q⟩
    · subst e; exact ⟨_, r2, fun v q => nomatch q⟩
    · subst e; exact ⟨_, r3, fun v q => nomatch q⟩
    · subst e; obtain ⟨o, e1, vs, d⟩ := r4.there; exact ⟨o, e1, fun v q => by rw [d] at q; cases q⟩
    · subst e; obtain ⟨o, e1, vs, d⟩ := r5.there; exact ⟨o, e1, fun v q => by rw [d] at q; cases q⟩
  keep := fun i h h' st k => by
    obtain ⟨r1, r2, ⟨x, y, r3⟩, r4, r5⟩ := st
    exact ⟨k Z (by simp [five]) _ r1, k PI (by simp [five]) _ r2, ⟨x, y, k PO (by simp [five]) _ r3⟩, r4.on fun o e => k u (by simp [five]) o e, r5.on fun o e => k v (by simp [five]) o e⟩
  item := by
    intro X hP hw hK hc i pins s σ H E I hf st hg
    subst hP hw hK
    obtain ⟨r1, r2, ⟨x0, y0, r3⟩, r4, r5⟩ := st
    obtain ⟨xs, ys, x, y, qx, qy, ex, ey⟩ := hg
    obtain ⟨its, rv, p1, l1⟩ := qx.items I
    obtain ⟨its2, rv2, p2, l2⟩ := qy.items I
    obtain ⟨n1, e1, m1⟩ := rv.get ex
    obtain ⟨n2, e2, m2⟩ := rv2.get ey
    have zl : Z < s.heap.objs.size := Heap.lt_size r1
    have hT : s.TypeIs (.ref Z) "zip" := ⟨_, r1, rfl⟩
    unfold pyNext
    refine wpAny_bind (wpAny_attempt (wpAny_callSpecial?_slot (name := Str.ofString "__next__") hT F.slot_zip_next (wpAny_call_entry F.slot_zip_next hT F.entry_zip_next (zipM_item D ⟨r1, r2, r3, r4, r5, p1, p2⟩ (x := n1) (y := n2) (by simpa using e1) (by simpa using e2) fun h' z' o' u' v' t' size' still => wpAny_pure ?_) (F.args_zip_next_1 _))))
    refine ⟨_, rfl, wpAny_letOwnedTupleGo_zip (s := { s with heap := h' }) z' fun h2 z2 sb => ?_⟩
    have sb' : ∀ c o, c ≠ Z → h'.get? c = some o → h2.get? c = some o := fun c o n e => (sb.2 c n).trans e
    have t2 : h2.get? s.heap.objs.size = some { cls := .type "tuple", data := .seq #[n1, n2] } := sb' _ _ (Nat.ne_of_gt zl) t'
    have new : ObjOk X.prog X.w (upd H s.heap.objs.size (.tup [x, y])) h2 s.heap.objs.size (.tup [x, y]) := ⟨by rw [sizeLine_eq]; show 2 ≤ 16777216; decide, [n1, n2], .cons m1 (.cons m2 .nil), ⟨_, t2, rfl, _, rfl⟩⟩
    have out : ∀ c o, c ∉ five Z PI PO u v → s.heap.get? c = some o → h2.get? c = some o := fun c o nc e => sb' c o (fun z => nc (by simp [five, z])) (still c o (fun z => nc (by simp [five, z])) (fun z => nc (by simp [five, z])) (fun z => nc (by simp [five, z])) (fun z => nc (by simp [five, z])) e)
    have I1 := I.turnedNew (t' := s.toks) (ch := five Z PI PO u v) out hf (Nat.le_refl _) new
    have pi2 : h2.get? PI = some _ := sb' _ _ D.TIz (still _ _ D.TIz D.TITO D.TIi1 D.TIi2 r2)
    refine ⟨.ref s.heap.objs.size, _, I1, rfl, ⟨_, x, y, rfl, I.hok.fresh (Nat.le_refl _), rfl, fun l hl => by rw [hl.inj I qx]; exact ex, fun l hl => by rw [hl.inj I qy]; exact ey⟩, ⟨z2, pi2, ⟨n1, n2, sb' _ _ D.TOz o'⟩, u'.on fun o e => sb' _ o D.i1z e, v'.on fun o e => sb' _ o D.i2z e⟩, fun c hcm => ?_⟩
    have lt : c < s.heap.objs.size := by
      rcases mem_five hcm with e | e | e | e | e
      · rw [e]; exact zl
      · rw [e]; exact Heap.lt_size r2
      · rw [e]; exact Heap.lt_size r3
      · obtain ⟨_, e1, _⟩ := r4.there; rw [e]; exact Heap.lt_size e1
      · obtain ⟨_, e1, _⟩ := r5.there; rw [e]; exact Heap.lt_size e1
    rw [upd_ne (Nat.ne_of_lt lt)]
    exact (hf c hcm).1
  done := by
    intro X hP hw hK hc i pins s σ H E I hf st hg
    subst hP hw hK
    obtain ⟨r1, r2, ⟨x0, y0, r3⟩, r4, r5⟩ := st
    obtain ⟨xs, ys, qx, qy, hend⟩ := hg
    obtain ⟨its, rv, p1, _⟩ := qx.items I
    obtain ⟨its2, rv2, p2, _⟩ := qy.items I
    have l1 := rv.length
    have l2 := rv2.length
    have he : its.toArray[i]? = none ∨ its2.toArray[i]? = none := hend.imp (fun q => by simp; omega) fun q => by simp; omega
    have hT : s.TypeIs (.ref Z) "zip" := ⟨_, r1, rfl⟩
    unfold pyNext
    refine wpAny_bind (wpAny_attempt (wpAny_callSpecial?_slot (name := Str.ofString "__next__") hT F.slot_zip_next (wpAny_call_entry F.slot_zip_next hT F.entry_zip_next (zipM_end (I.ok.hd hc) D ⟨r1, r2, r3, r4, r5, p1, p2⟩ he fun h' e still hx => ?_) (F.args_zip_next_1 _))))
    obtain ⟨o, ho, co⟩ := hx
    refine wpAny_bind (wpAny_isInstance (T := "StopIteration") (b := true) ⟨o, ho, co⟩ isSubtype_stop (wpAny_pure ⟨rfl, ?_⟩))
    exact I.turnedL (t' := s.toks) (ch := five Z PI PO u v) (fun c o nc e => still c o (fun z => nc (by simp [five, z])) (fun z => nc (by simp [five, z])) (fun z => nc (by simp [five, z])) (fun z => nc (by simp [five, z])) e) hf
  self := fun A i s Q E st h => wpAny_pyIter_zip st.1 h
def iZipM (K : PySem.W.Frag) (ta : TA) : TI := fun σ H R => ta σ H fun vs H1 => ∃ a b xs ys p q, vs = [.ref a, .ref b] ∧ SqM p K H1 a xs ∧ SqM q K H1 b ys ∧ R (ItzM p q K a b) H1
theorem pi_zipM {X : Cx} {e e2 : Expr} {ta : TA} {p pos tpos : Pos} {elts : List Expr} {kk : Nat} (hg : Gl X "zip") (hm : X.mg "zip" = none) (ha : PA X [e, e2] ta)
    (hs : starEach [e, e2] X.env = (false, eval e X.env) :: starEach [e2] X.env) (hpl : (backTo pos (starEach [e2] X.env)).any (·.1) = false) :
    PI X (.Tuple elts kk tpos) (.Call (.Name "zip" p) [e, e2] [] pos) (iZipM X.K ta) := by
  refine ⟨fun pins s σ H R I h => Call_ (ld_blt I hg hm PyProof.Rows.boot_zip (PyProof.Rows.callWith_type1 (thn (ha.run pos pins s σ H _ I h) fun us s1 ⟨vs, H1, I1, r1, q1⟩ => ?_) hs hpl))⟩
  obtain ⟨a, b, xs, ys, p, q, rfl, qx, qy, q1⟩ := q1
  obtain ⟨u1, us', rfl, r, rr⟩ : ∃ u us', us = u :: us' ∧ RelV (.ref a) u ∧ Vals [.ref b] us' := by cases r1 with | cons r rr => exact ⟨_, _, rfl, r, rr⟩
  cases r
  rw [Vals.ref1 rr]
  obtain ⟨its, rv, p1, l1⟩ := qx.items I1
  obtain ⟨its2, rv2, p2, l2⟩ := qy.items I1
  refine callZ p1 p2 fun h' x y at' size' keep => wpAny_pyIter_zip at'.z ?_
  refine ⟨s1.heap.objs.size + 4, five (s1.heap.objs.size + 4) (s1.heap.objs.size + 2) (s1.heap.objs.size + 3) s1.heap.objs.size (s1.heap.objs.size + 1), _, _, H1, rfl, I1.kept (t' := s1.toks) keep, turnM_zip (PySem.W.ktu_apart s1.heap.objs.size a b l1 l2), ⟨at'.z, at'.i, ⟨_, _, at'.o⟩, at'.u, at'.v⟩, fun c hc => ?_, q1⟩
  have low : s1.heap.objs.size ≤ c := by rcases mem_five hc with e | e | e | e | e <;> (rw [e]; first | exact Nat.le_refl _ | exact Nat.le_add_right _ _)
  exact I1.fpOk low (I1.hok.fresh low)
/-- zip of a tuple and a list, or of a list and a tuple -/
def zipX : D → D → M (List D)
  | .list xs, .tuple ys => M.pure (zipD xs ys)
  | .tuple xs, .list ys => M.pure (zipD xs ys)
  | .list xs, .list ys => M.pure (zipD xs ys)
  | .tuple xs, .tuple ys => M.pure (zipD xs ys)
  | _, _ => M.fail
section
variable {S : Sg} {Γ : En} {ow : Bool} {a b : Expr} {ma mb : M D} {p pos tpos : Pos} {elts : List Expr} {kk : Nat}
theorem sqM_of {K : PySem.W.Frag} {G H : Hp} {v : V} {d : D} {ds : List D} (pq : Bool) (hd : d = cond pq (.tuple ds) (.list ds)) (l : Le G H) (r : Rp K G v d) : ∃ a xs, v = .ref a ∧ SqM pq K G a xs ∧ SqM pq K H a xs ∧ RpA K G xs ds ∧ ds.length ≤ sizeLine := by
  cases pq
  · subst hd
    cases r with
    | lst s a z => exact ⟨_, _, rfl, .inl s, .inl (l _ _ s), a, z⟩
  · subst hd
    cases r with
    | tup s a z => exact ⟨_, _, rfl, s, l.sqT s, a, z⟩
theorem SqM.le {pq : Bool} {K : PySem.W.Frag} {G H : Hp} {a : Addr} {xs : List V} (l : Le G H) (h : SqM pq K G a xs) : SqM pq K H a xs := by
  cases pq
  · exact l.sqL h
  · exact l.sqT h
theorem wi_zipX (hb : BltAt S "zip" (.type "zip")) (ha : WE S Γ a ma) (hb2 : WE S Γ b mb) (hs : ∀ env, starEach [a, b] env = (false, eval a env) :: starEach [b] env := by intro _; rfl) (hs2 : ∀ env, starEach [b] env = (false, eval b env) :: starEach [] env := by intro _; rfl) :
    WI S Γ ow (.Tuple elts kk tpos) (.Call (.Name "zip" p) [a, b] [] pos) (ma.bind fun x => mb.bind fun y => zipX x y) := by
  intro ω G0 H0 σ G H P R E hm q
  refine ⟨_, fun X hX => hX.K ▸ pi_zipM (gl_of hX hb.g) (by rw [hX.mg]; exact hb.m) (pa_cons (RE.pe hX a) (pa_cons (RE.pe hX b) pa_nil (hs2 _)) (hs _)) (hs _) (by rw [hs2]; rfl), ?_⟩
  show RE S a σ H fun v H1 => RE S b σ H1 fun u H2 => _
  refine ha ω G0 H0 σ G H _ _ E hm fun x v G1 H1 hx e1 r1 => ?_
  refine hb2 ω G0 H0 σ G1 H1 _ _ (E.step e1) hx fun y u G2 H2 hy e2 r2 => ?_
  have r1' := r1.ext e2
  have key : ∃ (p q : Bool) (xs ys : List D), x = cond p (.tuple xs) (.list xs) ∧ y = cond q (.tuple ys) (.list ys) ∧ P (zipD xs ys) := by
    cases x with
    | list xs => cases y with
      | tuple ys => exact ⟨false, true, xs, ys, rfl, rfl, hy⟩
      | list ys => exact ⟨false, false, xs, ys, rfl, rfl, hy⟩
      | _ => exact False.elim hy
    | tuple xs => cases y with
      | list ys => exact ⟨true, false, xs, ys, rfl, rfl, hy⟩
      | tuple ys => exact ⟨true, true, xs, ys, rfl, rfl, hy⟩
      | _ => exact False.elim hy
    | _ => exact False.elim hy
  obtain ⟨pp, qq, xs, ys, ex, ey, hP⟩ := key
  obtain ⟨a1, as, rfl, g1, s1, ra, z1⟩ := sqM_of pp ex e2.le r1'
  obtain ⟨b1, bs, rfl, g2, s2, rb, z2⟩ := sqM_of qq ey e2.le r2
  refine ⟨a1, b1, as, bs, pp, qq, rfl, s1, s2, q _ _ G2 H2 hP (e1.trans e2) ⟨by rw [zipD_len]; omega, fun i Gc Hc h1 h2 _ hi => ?_, fun Gc Hc h1 h2 _ => ?_, fun i Gc Hc w H' hi h1 h2 _ y => ?_⟩⟩
  · obtain ⟨k1, k2, _⟩ := zipD_get hi
    obtain ⟨v1, j1, _⟩ := ra.getD (List.getElem?_eq_getElem k1)
    obtain ⟨v2, j2, _⟩ := rb.getD (List.getElem?_eq_getElem k2)
    exact ⟨_, _, v1, v2, (g1.le (Le.of_same h1)).le h2.le, (g2.le (Le.of_same h1)).le h2.le, j1, j2⟩
  · refine ⟨_, _, (g1.le (Le.of_same h1)).le h2.le, (g2.le (Le.of_same h1)).le h2.le, ?_⟩
    rw [ra.length, rb.length, zipD_len]; omega
  · obtain ⟨T, x1, x2, rfl, nT, e, f1, f2⟩ := y
    obtain ⟨k1, k2, eq⟩ := zipD_get hi
    rw [eq]
    obtain ⟨d1, j1, t1⟩ := ra.get (f1 _ ((g1.le (Le.of_same h1)).le h2.le))
    obtain ⟨d2, j2, t2⟩ := rb.get (f2 _ ((g2.le (Le.of_same h1)).le h2.le))
    rw [List.getElem?_eq_getElem k1] at j1
    rw [List.getElem?_eq_getElem k2] at j2
    cases j1; cases j2
    exact zip_yld h2 nT e (Rp.le h1 _ t1) (Rp.le h1 _ t2)
end
theorem zipX_ll {xs ys : List D} : zipX (.list xs) (.list ys) = M.pure (zipD xs ys) := funext fun _ => propext Iff.rfl
theorem zipX_tt {xs ys : List D} : zipX (.tuple xs) (.tuple ys) = M.pure (zipD xs ys) := funext fun _ => propext Iff.rfl
theorem zipX_tl {xs ys : List D} : zipX (.tuple xs) (.list ys) = M.pure (zipD xs ys) := funext fun _ => propext Iff.rfl
theorem zipX_lt {xs ys : List D} : zipX (.list xs) (.tuple ys) = M.pure (zipD xs ys) := funext fun _ => propext Iff.rfl
end Wp

namespace L37
open PySem PySem.Spec PyProof.Rows L2 Wp
/-! ### the text -/
def topS (i : Nat) : Stmt := PySem.Challenge.pw_worksplanned_k37_hired_and_let_go.main.body.getD i (.Pass ⟨0, 0, 0, 0⟩)
abbrev st_cost_of_crew : Stmt := topS 1
abbrev N_cost_of_crew : List Str := ["price", "first", "crew", "hire", "fire", "wage", "found", "now", "hands"]
theorem sc_cost_of_crew : FnScope N_cost_of_crew ["price", "first", "crew"] (defScope st_cost_of_crew) := ⟨rfl, rfl, rfl, by decide +kernel, rfl, by decide +kernel, by decide +kernel⟩
abbrev st_best_by : Stmt := topS 2
abbrev N_best_by : List Str := ["price", "first", "lows", "costs", "row", "top", "best", "low", "later", "hands", "own", "rows", "now", "cost", "crew"]
theorem sc_best_by : FnScope N_best_by ["price", "first", "lows", "costs"] (defScope st_best_by) := ⟨rfl, rfl, rfl, by decide +kernel, rfl, by decide +kernel, by decide +kernel⟩
abbrev st_best_crew : Stmt := topS 3
abbrev N_best_crew : List Str := ["price", "first", "needs", "need"]
theorem sc_best_crew : FnScope N_best_crew ["price", "first", "needs"] (defScope st_best_crew) := ⟨rfl, rfl, rfl, by decide +kernel, rfl, by decide +kernel, by decide +kernel⟩
abbrev st_with_over : Stmt := topS 4
abbrev N_with_over : List Str := ["price", "first", "needs", "over", "limit", "costs", "need", "hands"]
theorem sc_with_over : FnScope N_with_over ["price", "first", "needs", "over", "limit"] (defScope st_with_over) := ⟨rfl, rfl, rfl, by decide +kernel, rfl, by decide +kernel, by decide +kernel⟩
abbrev st_follow : Stmt := topS 5
abbrev N_follow : List Str := ["price", "first", "needs"]
theorem sc_follow : FnScope N_follow ["price", "first", "needs"] (defScope st_follow) := ⟨rfl, rfl, rfl, by decide +kernel, rfl, by decide +kernel, by decide +kernel⟩
abbrev st_level : Stmt := topS 6
abbrev N_level : List Str := ["price", "first", "needs"]
theorem sc_level : FnScope N_level ["price", "first", "needs"] (defScope st_level) := ⟨rfl, rfl, rfl, by decide +kernel, rfl, by decide +kernel, by decide +kernel⟩
abbrev st_worth_keeping : Stmt := topS 7
abbrev N_worth_keeping : List Str := ["price", "many", "hire", "fire", "wage"]
theorem sc_worth_keeping : FnScope N_worth_keeping ["price", "many"] (defScope st_worth_keeping) := ⟨rfl, rfl, rfl, by decide +kernel, rfl, by decide +kernel, by decide +kernel⟩
abbrev st_idle_months : Stmt := topS 8
abbrev N_idle_months : List Str := ["needs", "crew", "need", "hands"]
theorem sc_idle_months : FnScope N_idle_months ["needs", "crew"] (defScope st_idle_months) := ⟨rfl, rfl, rfl, by decide +kernel, rfl, by decide +kernel, by decide +kernel⟩
abbrev st_ups : Stmt := topS 9
abbrev N_ups : List Str := ["first", "crew", "hired", "gone", "now", "hands"]
theorem sc_ups : FnScope N_ups ["first", "crew"] (defScope st_ups) := ⟨rfl, rfl, rfl, by decide +kernel, rfl, by decide +kernel, by decide +kernel⟩
abbrev st_steady_price : Stmt := topS 10
abbrev N_steady_price : List Str := ["price", "first", "needs"]
theorem sc_steady_price : FnScope N_steady_price ["price", "first", "needs"] (defScope st_steady_price) := ⟨rfl, rfl, rfl, by decide +kernel, rfl, by decide +kernel, by decide +kernel⟩
abbrev st__law_draws : Stmt := topS 12
abbrev N__law_draws : List Str := ["script", "many", "draws", "mixed", "k", "cell", "rest", "turn"]
theorem sc__law_draws : FnScope N__law_draws ["script", "many"] (defScope st__law_draws) := ⟨rfl, rfl, rfl, by decide +kernel, rfl, by decide +kernel, by decide +kernel⟩
abbrev st__law_next : Stmt := topS 13
abbrev N__law_next : List Str := ["w", "many"]
theorem sc__law_next : FnScope N__law_next ["w", "many"] (defScope st__law_next) := ⟨rfl, rfl, rfl, by decide +kernel, rfl, by decide +kernel, by decide +kernel⟩
abbrev st__law_pick : Stmt := topS 14
abbrev N__law_pick : List Str := ["w", "rows"]
theorem sc__law_pick : FnScope N__law_pick ["w", "rows"] (defScope st__law_pick) := ⟨rfl, rfl, rfl, by decide +kernel, rfl, by decide +kernel, by decide +kernel⟩
abbrev st__law_says : Stmt := topS 15
abbrev N__law_says : List Str := ["seen", "due"]
theorem sc__law_says : FnScope N__law_says ["seen", "due"] (defScope st__law_says) := ⟨rfl, rfl, rfl, by decide +kernel, rfl, by decide +kernel, by decide +kernel⟩
abbrev st__law_same : Stmt := topS 16
abbrev N__law_same : List Str := ["seen", "due", "k"]
theorem sc__law_same : FnScope N__law_same ["seen", "due"] (defScope st__law_same) := ⟨rfl, rfl, rfl, by decide +kernel, rfl, by decide +kernel, by decide +kernel⟩
abbrev st__law_rows : Stmt := topS 17
abbrev N__law_rows : List Str := ["sizes", "found", "size", "longer", "row", "number"]
theorem sc__law_rows : FnScope N__law_rows ["sizes"] (defScope st__law_rows) := ⟨rfl, rfl, rfl, by decide +kernel, rfl, by decide +kernel, by decide +kernel⟩
abbrev st__law_cost : Stmt := topS 18
abbrev N__law_cost : List Str := ["price", "first", "crew", "found", "now", "hands"]
theorem sc__law_cost : FnScope N__law_cost ["price", "first", "crew"] (defScope st__law_cost) := ⟨rfl, rfl, rfl, by decide +kernel, rfl, by decide +kernel, by decide +kernel⟩
abbrev st_law : Stmt := topS 19
abbrev N_law : List Str := ["script", "w", "turn", "price", "first", "needs", "crew", "top", "over", "limit", "best", "cheap", "row", "lack", "own", "more", "whole", "many", "steps", "k", "need", "a", "b"]
theorem sc_law : FnScope N_law ["script"] (defScope st_law) := ⟨rfl, rfl, rfl, by decide +kernel, rfl, by decide +kernel, by decide +kernel⟩
theorem nm_a : Nm "a" := ⟨rfl, rfl⟩
theorem nm_b : Nm "b" := ⟨rfl, rfl⟩
theorem nm_best : Nm "best" := ⟨rfl, rfl⟩
theorem nm_cell : Nm "cell" := ⟨rfl, rfl⟩
theorem nm_cheap : Nm "cheap" := ⟨rfl, rfl⟩
theorem nm_cost : Nm "cost" := ⟨rfl, rfl⟩
theorem nm_costs : Nm "costs" := ⟨rfl, rfl⟩
theorem nm_crew : Nm "crew" := ⟨rfl, rfl⟩
theorem nm_draws : Nm "draws" := ⟨rfl, rfl⟩
theorem nm_due : Nm "due" := ⟨rfl, rfl⟩
theorem nm_fire : Nm "fire" := ⟨rfl, rfl⟩
theorem nm_first : Nm "first" := ⟨rfl, rfl⟩
theorem nm_found : Nm "found" := ⟨rfl, rfl⟩
theorem nm_gone : Nm "gone" := ⟨rfl, rfl⟩
theorem nm_hands : Nm "hands" := ⟨rfl, rfl⟩
theorem nm_hire : Nm "hire" := ⟨rfl, rfl⟩
theorem nm_hired : Nm "hired" := ⟨rfl, rfl⟩
theorem nm_k : Nm "k" := ⟨rfl, rfl⟩
theorem nm_lack : Nm "lack" := ⟨rfl, rfl⟩
theorem nm_later : Nm "later" := ⟨rfl, rfl⟩
theorem nm_limit : Nm "limit" := ⟨rfl, rfl⟩
theorem nm_longer : Nm "longer" := ⟨rfl, rfl⟩
theorem nm_low : Nm "low" := ⟨rfl, rfl⟩
theorem nm_lows : Nm "lows" := ⟨rfl, rfl⟩
theorem nm_many : Nm "many" := ⟨rfl, rfl⟩
theorem nm_mixed : Nm "mixed" := ⟨rfl, rfl⟩
theorem nm_more : Nm "more" := ⟨rfl, rfl⟩
theorem nm_need : Nm "need" := ⟨rfl, rfl⟩
theorem nm_needs : Nm "needs" := ⟨rfl, rfl⟩
theorem nm_now : Nm "now" := ⟨rfl, rfl⟩
theorem nm_number : Nm "number" := ⟨rfl, rfl⟩
theorem nm_over : Nm "over" := ⟨rfl, rfl⟩
theorem nm_own : Nm "own" := ⟨rfl, rfl⟩
theorem nm_price : Nm "price" := ⟨rfl, rfl⟩
theorem nm_rest : Nm "rest" := ⟨rfl, rfl⟩
theorem nm_row : Nm "row" := ⟨rfl, rfl⟩
theorem nm_rows : Nm "rows" := ⟨rfl, rfl⟩
theorem nm_script : Nm "script" := ⟨rfl, rfl⟩
theorem nm_seen : Nm "seen" := ⟨rfl, rfl⟩
theorem nm_size : Nm "size" := ⟨rfl, rfl⟩
theorem nm_sizes : Nm "sizes" := ⟨rfl, rfl⟩
theorem nm_steps : Nm "steps" := ⟨rfl, rfl⟩
theorem nm_top : Nm "top" := ⟨rfl, rfl⟩
theorem nm_w : Nm "w" := ⟨rfl, rfl⟩
theorem nm_wage : Nm "wage" := ⟨rfl, rfl⟩
theorem nm_whole : Nm "whole" := ⟨rfl, rfl⟩
theorem lk_cost_of_crew_crew : (defScope st_cost_of_crew).names.lookup ("crew" : Str) = some .local := by decide +kernel
theorem lk_cost_of_crew_fire : (defScope st_cost_of_crew).names.lookup ("fire" : Str) = some .local := by decide +kernel
theorem lk_cost_of_crew_first : (defScope st_cost_of_crew).names.lookup ("first" : Str) = some .local := by decide +kernel
theorem lk_cost_of_crew_found : (defScope st_cost_of_crew).names.lookup ("found" : Str) = some .local := by decide +kernel
theorem lk_cost_of_crew_hands : (defScope st_cost_of_crew).names.lookup ("hands" : Str) = some .local := by decide +kernel
theorem lk_cost_of_crew_hire : (defScope st_cost_of_crew).names.lookup ("hire" : Str) = some .local := by decide +kernel
theorem lk_cost_of_crew_max : (defScope st_cost_of_crew).names.lookup ("max" : Str) = some .globalImplicit := by decide +kernel
theorem lk_cost_of_crew_now : (defScope st_cost_of_crew).names.lookup ("now" : Str) = some .local := by decide +kernel
theorem lk_cost_of_crew_price : (defScope st_cost_of_crew).names.lookup ("price" : Str) = some .local := by decide +kernel
theorem lk_cost_of_crew_wage : (defScope st_cost_of_crew).names.lookup ("wage" : Str) = some .local := by decide +kernel
theorem va_cost_of_crew_crew {P : Program} {w : World} {K : PySem.W.Frag} {mg : Str → Option Value} {base : Heap} {k : Nat} {fn : Str → Bool} : VarAt ⟨P, w, K, mg, base, N_cost_of_crew, defScope st_cost_of_crew, k, fn⟩ 2 "crew" := vaL rfl lk_cost_of_crew_crew nm_crew
theorem va_cost_of_crew_fire {P : Program} {w : World} {K : PySem.W.Frag} {mg : Str → Option Value} {base : Heap} {k : Nat} {fn : Str → Bool} : VarAt ⟨P, w, K, mg, base, N_cost_of_crew, defScope st_cost_of_crew, k, fn⟩ 4 "fire" := vaL rfl lk_cost_of_crew_fire nm_fire
theorem va_cost_of_crew_first {P : Program} {w : World} {K : PySem.W.Frag} {mg : Str → Option Value} {base : Heap} {k : Nat} {fn : Str → Bool} : VarAt ⟨P, w, K, mg, base, N_cost_of_crew, defScope st_cost_of_crew, k, fn⟩ 1 "first" := vaL rfl lk_cost_of_crew_first nm_first
theorem va_cost_of_crew_found {P : Program} {w : World} {K : PySem.W.Frag} {mg : Str → Option Value} {base : Heap} {k : Nat} {fn : Str → Bool} : VarAt ⟨P, w, K, mg, base, N_cost_of_crew, defScope st_cost_of_crew, k, fn⟩ 6 "found" := vaL rfl lk_cost_of_crew_found nm_found
theorem va_cost_of_crew_hands {P : Program} {w : World} {K : PySem.W.Frag} {mg : Str → Option Value} {base : Heap} {k : Nat} {fn : Str → Bool} : VarAt ⟨P, w, K, mg, base, N_cost_of_crew, defScope st_cost_of_crew, k, fn⟩ 8 "hands" := vaL rfl lk_cost_of_crew_hands nm_hands
theorem va_cost_of_crew_hire {P : Program} {w : World} {K : PySem.W.Frag} {mg : Str → Option Value} {base : Heap} {k : Nat} {fn : Str → Bool} : VarAt ⟨P, w, K, mg, base, N_cost_of_crew, defScope st_cost_of_crew, k, fn⟩ 3 "hire" := vaL rfl lk_cost_of_crew_hire nm_hire
theorem va_cost_of_crew_now {P : Program} {w : World} {K : PySem.W.Frag} {mg : Str → Option Value} {base : Heap} {k : Nat} {fn : Str → Bool} : VarAt ⟨P, w, K, mg, base, N_cost_of_crew, defScope st_cost_of_crew, k, fn⟩ 7 "now" := vaL rfl lk_cost_of_crew_now nm_now
theorem va_cost_of_crew_price {P : Program} {w : World} {K : PySem.W.Frag} {mg : Str → Option Value} {base : Heap} {k : Nat} {fn : Str → Bool} : VarAt ⟨P, w, K, mg, base, N_cost_of_crew, defScope st_cost_of_crew, k, fn⟩ 0 "price" := vaL rfl lk_cost_of_crew_price nm_price
theorem va_cost_of_crew_wage {P : Program} {w : World} {K : PySem.W.Frag} {mg : Str → Option Value} {base : Heap} {k : Nat} {fn : Str → Bool} : VarAt ⟨P, w, K, mg, base, N_cost_of_crew, defScope st_cost_of_crew, k, fn⟩ 5 "wage" := vaL rfl lk_cost_of_crew_wage nm_wage
theorem sa_cost_of_crew_fire {P : Program} {w : World} {K : PySem.W.Frag} {mg : Str → Option Value} {base : Heap} {k : Nat} : SetAt ⟨P, w, K, mg, base, N_cost_of_crew, defScope st_cost_of_crew, k, fun _ => true⟩ 4 "fire" := saL rfl lk_cost_of_crew_fire
theorem sa_cost_of_crew_found {P : Program} {w : World} {K : PySem.W.Frag} {mg : Str → Option Value} {base : Heap} {k : Nat} : SetAt ⟨P, w, K, mg, base, N_cost_of_crew, defScope st_cost_of_crew, k, fun _ => true⟩ 6 "found" := saL rfl lk_cost_of_crew_found
theorem sa_cost_of_crew_hands {P : Program} {w : World} {K : PySem.W.Frag} {mg : Str → Option Value} {base : Heap} {k : Nat} : SetAt ⟨P, w, K, mg, base, N_cost_of_crew, defScope st_cost_of_crew, k, fun _ => true⟩ 8 "hands" := saL rfl lk_cost_of_crew_hands
theorem sa_cost_of_crew_hire {P : Program} {w : World} {K : PySem.W.Frag} {mg : Str → Option Value} {base : Heap} {k : Nat} : SetAt ⟨P, w, K, mg, base, N_cost_of_crew, defScope st_cost_of_crew, k, fun _ => true⟩ 3 "hire" := saL rfl lk_cost_of_crew_hire
theorem sa_cost_of_crew_now {P : Program} {w : World} {K : PySem.W.Frag} {mg : Str → Option Value} {base : Heap} {k : Nat} : SetAt ⟨P, w, K, mg, base, N_cost_of_crew, defScope st_cost_of_crew, k, fun _ => true⟩ 7 "now" := saL rfl lk_cost_of_crew_now
theorem sa_cost_of_crew_wage {P : Program} {w : World} {K : PySem.W.Frag} {mg : Str → Option Value} {base : Heap} {k : Nat} : SetAt ⟨P, w, K, mg, base, N_cost_of_crew, defScope st_cost_of_crew, k, fun _ => true⟩ 5 "wage" := saL rfl lk_cost_of_crew_wage
theorem lk_best_by_best : (defScope st_best_by).names.lookup ("best" : Str) = some .cell := by decide +kernel
theorem lk_best_by_cost : (defScope st_best_by).names.lookup ("cost" : Str) = some .local := by decide +kernel
theorem lk_best_by_cost_of_crew : (defScope st_best_by).names.lookup ("cost_of_crew" : Str) = some .globalImplicit := by decide +kernel
theorem lk_best_by_costs : (defScope st_best_by).names.lookup ("costs" : Str) = some .local := by decide +kernel
theorem lk_best_by_crew : (defScope st_best_by).names.lookup ("crew" : Str) = some .local := by decide +kernel
theorem lk_best_by_first : (defScope st_best_by).names.lookup ("first" : Str) = some .local := by decide +kernel
theorem lk_best_by_hands : (defScope st_best_by).names.lookup ("hands" : Str) = some .local := by decide +kernel
theorem lk_best_by_later : (defScope st_best_by).names.lookup ("later" : Str) = some .local := by decide +kernel
theorem lk_best_by_len : (defScope st_best_by).names.lookup ("len" : Str) = some .globalImplicit := by decide +kernel
theorem lk_best_by_low : (defScope st_best_by).names.lookup ("low" : Str) = some .local := by decide +kernel
theorem lk_best_by_lows : (defScope st_best_by).names.lookup ("lows" : Str) = some .local := by decide +kernel
theorem lk_best_by_max : (defScope st_best_by).names.lookup ("max" : Str) = some .globalImplicit := by decide +kernel
theorem lk_best_by_min : (defScope st_best_by).names.lookup ("min" : Str) = some .globalImplicit := by decide +kernel
theorem lk_best_by_now : (defScope st_best_by).names.lookup ("now" : Str) = some .local := by decide +kernel
theorem lk_best_by_own : (defScope st_best_by).names.lookup ("own" : Str) = some .local := by decide +kernel
theorem lk_best_by_price : (defScope st_best_by).names.lookup ("price" : Str) = some .local := by decide +kernel
theorem lk_best_by_range : (defScope st_best_by).names.lookup ("range" : Str) = some .globalImplicit := by decide +kernel
theorem lk_best_by_row : (defScope st_best_by).names.lookup ("row" : Str) = some .local := by decide +kernel
theorem lk_best_by_rows : (defScope st_best_by).names.lookup ("rows" : Str) = some .local := by decide +kernel
theorem lk_best_by_top : (defScope st_best_by).names.lookup ("top" : Str) = some .local := by decide +kernel
theorem lk_best_by_zip : (defScope st_best_by).names.lookup ("zip" : Str) = some .globalImplicit := by decide +kernel
theorem va_best_by_best {P : Program} {w : World} {K : PySem.W.Frag} {mg : Str → Option Value} {base : Heap} {k : Nat} {fn : Str → Bool} : VarAt ⟨P, w, K, mg, base, N_best_by, defScope st_best_by, k, fn⟩ 6 "best" := vaC rfl lk_best_by_best nm_best
theorem va_best_by_cost {P : Program} {w : World} {K : PySem.W.Frag} {mg : Str → Option Value} {base : Heap} {k : Nat} {fn : Str → Bool} : VarAt ⟨P, w, K, mg, base, N_best_by, defScope st_best_by, k, fn⟩ 13 "cost" := vaL rfl lk_best_by_cost nm_cost
theorem va_best_by_costs {P : Program} {w : World} {K : PySem.W.Frag} {mg : Str → Option Value} {base : Heap} {k : Nat} {fn : Str → Bool} : VarAt ⟨P, w, K, mg, base, N_best_by, defScope st_best_by, k, fn⟩ 3 "costs" := vaL rfl lk_best_by_costs nm_costs
theorem va_best_by_crew {P : Program} {w : World} {K : PySem.W.Frag} {mg : Str → Option Value} {base : Heap} {k : Nat} {fn : Str → Bool} : VarAt ⟨P, w, K, mg, base, N_best_by, defScope st_best_by, k, fn⟩ 14 "crew" := vaL rfl lk_best_by_crew nm_crew
theorem va_best_by_first {P : Program} {w : World} {K : PySem.W.Frag} {mg : Str → Option Value} {base : Heap} {k : Nat} {fn : Str → Bool} : VarAt ⟨P, w, K, mg, base, N_best_by, defScope st_best_by, k, fn⟩ 1 "first" := vaL rfl lk_best_by_first nm_first
theorem va_best_by_hands {P : Program} {w : World} {K : PySem.W.Frag} {mg : Str → Option Value} {base : Heap} {k : Nat} {fn : Str → Bool} : VarAt ⟨P, w, K, mg, base, N_best_by, defScope st_best_by, k, fn⟩ 9 "hands" := vaL rfl lk_best_by_hands nm_hands
theorem va_best_by_later {P : Program} {w : World} {K : PySem.W.Frag} {mg : Str → Option Value} {base : Heap} {k : Nat} {fn : Str → Bool} : VarAt ⟨P, w, K, mg, base, N_best_by, defScope st_best_by, k, fn⟩ 8 "later" := vaL rfl lk_best_by_later nm_later
theorem va_best_by_low {P : Program} {w : World} {K : PySem.W.Frag} {mg : Str → Option Value} {base : Heap} {k : Nat} {fn : Str → Bool} : VarAt ⟨P, w, K, mg, base, N_best_by, defScope st_best_by, k, fn⟩ 7 "low" := vaL rfl lk_best_by_low nm_low
theorem va_best_by_lows {P : Program} {w : World} {K : PySem.W.Frag} {mg : Str → Option Value} {base : Heap} {k : Nat} {fn : Str → Bool} : VarAt ⟨P, w, K, mg, base, N_best_by, defScope st_best_by, k, fn⟩ 2 "lows" := vaL rfl lk_best_by_lows nm_lows
theorem va_best_by_now {P : Program} {w : World} {K : PySem.W.Frag} {mg : Str → Option Value} {base : Heap} {k : Nat} {fn : Str → Bool} : VarAt ⟨P, w, K, mg, base, N_best_by, defScope st_best_by, k, fn⟩ 12 "now" := vaL rfl lk_best_by_now nm_now
theorem va_best_by_own {P : Program} {w : World} {K : PySem.W.Frag} {mg : Str → Option Value} {base : Heap} {k : Nat} {fn : Str → Bool} : VarAt ⟨P, w, K, mg, base, N_best_by, defScope st_best_by, k, fn⟩ 10 "own" := vaL rfl lk_best_by_own nm_own
theorem va_best_by_price {P : Program} {w : World} {K : PySem.W.Frag} {mg : Str → Option Value} {base : Heap} {k : Nat} {fn : Str → Bool} : VarAt ⟨P, w, K, mg, base, N_best_by, defScope st_best_by, k, fn⟩ 0 "price" := vaL rfl lk_best_by_price nm_price
theorem va_best_by_row {P : Program} {w : World} {K : PySem.W.Frag} {mg : Str → Option Value} {base : Heap} {k : Nat} {fn : Str → Bool} : VarAt ⟨P, w, K, mg, base, N_best_by, defScope st_best_by, k, fn⟩ 4 "row" := vaL rfl lk_best_by_row nm_row
theorem va_best_by_rows {P : Program} {w : World} {K : PySem.W.Frag} {mg : Str → Option Value} {base : Heap} {k : Nat} {fn : Str → Bool} : VarAt ⟨P, w, K, mg, base, N_best_by, defScope st_best_by, k, fn⟩ 11 "rows" := vaL rfl lk_best_by_rows nm_rows
theorem va_best_by_top {P : Program} {w : World} {K : PySem.W.Frag} {mg : Str → Option Value} {base : Heap} {k : Nat} {fn : Str → Bool} : VarAt ⟨P, w, K, mg, base, N_best_by, defScope st_best_by, k, fn⟩ 5 "top" := vaL rfl lk_best_by_top nm_top
theorem sa_best_by_best {P : Program} {w : World} {K : PySem.W.Frag} {mg : Str → Option Value} {base : Heap} {k : Nat} : SetAt ⟨P, w, K, mg, base, N_best_by, defScope st_best_by, k, fun _ => true⟩ 6 "best" := saC rfl lk_best_by_best rfl
theorem sa_best_by_cost {P : Program} {w : World} {K : PySem.W.Frag} {mg : Str → Option Value} {base : Heap} {k : Nat} : SetAt ⟨P, w, K, mg, base, N_best_by, defScope st_best_by, k, fun _ => true⟩ 13 "cost" := saL rfl lk_best_by_cost
theorem sa_best_by_crew {P : Program} {w : World} {K : PySem.W.Frag} {mg : Str → Option Value} {base : Heap} {k : Nat} : SetAt ⟨P, w, K, mg, base, N_best_by, defScope st_best_by, k, fun _ => true⟩ 14 "crew" := saL rfl lk_best_by_crew
theorem sa_best_by_hands {P : Program} {w : World} {K : PySem.W.Frag} {mg : Str → Option Value} {base : Heap} {k : Nat} : SetAt ⟨P, w, K, mg, base, N_best_by, defScope st_best_by, k, fun _ => true⟩ 9 "hands" := saL rfl lk_best_by_hands
theorem sa_best_by_later {P : Program} {w : World} {K : PySem.W.Frag} {mg : Str → Option Value} {base : Heap} {k : Nat} : SetAt ⟨P, w, K, mg, base, N_best_by, defScope st_best_by, k, fun _ => true⟩ 8 "later" := saL rfl lk_best_by_later
theorem sa_best_by_low {P : Program} {w : World} {K : PySem.W.Frag} {mg : Str → Option Value} {base : Heap} {k : Nat} : SetAt ⟨P, w, K, mg, base, N_best_by, defScope st_best_by, k, fun _ => true⟩ 7 "low" := saL rfl lk_best_by_low
theorem sa_best_by_now {P : Program} {w : World} {K : PySem.W.Frag} {mg : Str → Option Value} {base : Heap} {k : Nat} : SetAt ⟨P, w, K, mg, base, N_best_by, defScope st_best_by, k, fun _ => true⟩ 12 "now" := saL rfl lk_best_by_now
theorem sa_best_by_own {P : Program} {w : World} {K : PySem.W.Frag} {mg : Str → Option Value} {base : Heap} {k : Nat} : SetAt ⟨P, w, K, mg, base, N_best_by, defScope st_best_by, k, fun _ => true⟩ 10 "own" := saL rfl lk_best_by_own
theorem sa_best_by_row {P : Program} {w : World} {K : PySem.W.Frag} {mg : Str → Option Value} {base : Heap} {k : Nat} : SetAt ⟨P, w, K, mg, base, N_best_by, defScope st_best_by, k, fun _ => true⟩ 4 "row" := saL rfl lk_best_by_row
theorem sa_best_by_rows {P : Program} {w : World} {K : PySem.W.Frag} {mg : Str → Option Value} {base : Heap} {k : Nat} : SetAt ⟨P, w, K, mg, base, N_best_by, defScope st_best_by, k, fun _ => true⟩ 11 "rows" := saL rfl lk_best_by_rows
theorem sa_best_by_top {P : Program} {w : World} {K : PySem.W.Frag} {mg : Str → Option Value} {base : Heap} {k : Nat} : SetAt ⟨P, w, K, mg, base, N_best_by, defScope st_best_by, k, fun _ => true⟩ 5 "top" := saL rfl lk_best_by_top
theorem lk_best_crew_best_by : (defScope st_best_crew).names.lookup ("best_by" : Str) = some .globalImplicit := by decide +kernel
theorem lk_best_crew_first : (defScope st_best_crew).names.lookup ("first" : Str) = some .local := by decide +kernel
theorem lk_best_crew_needs : (defScope st_best_crew).names.lookup ("needs" : Str) = some .local := by decide +kernel
theorem lk_best_crew_price : (defScope st_best_crew).names.lookup ("price" : Str) = some .local := by decide +kernel
theorem va_best_crew_first {P : Program} {w : World} {K : PySem.W.Frag} {mg : Str → Option Value} {base : Heap} {k : Nat} {fn : Str → Bool} : VarAt ⟨P, w, K, mg, base, N_best_crew, defScope st_best_crew, k, fn⟩ 1 "first" := vaL rfl lk_best_crew_first nm_first
theorem va_best_crew_needs {P : Program} {w : World} {K : PySem.W.Frag} {mg : Str → Option Value} {base : Heap} {k : Nat} {fn : Str → Bool} : VarAt ⟨P, w, K, mg, base, N_best_crew, defScope st_best_crew, k, fn⟩ 2 "needs" := vaL rfl lk_best_crew_needs nm_needs
theorem va_best_crew_price {P : Program} {w : World} {K : PySem.W.Frag} {mg : Str → Option Value} {base : Heap} {k : Nat} {fn : Str → Bool} : VarAt ⟨P, w, K, mg, base, N_best_crew, defScope st_best_crew, k, fn⟩ 0 "price" := vaL rfl lk_best_crew_price nm_price
theorem lk_with_over_best_by : (defScope st_with_over).names.lookup ("best_by" : Str) = some .globalImplicit := by decide +kernel
theorem lk_with_over_costs : (defScope st_with_over).names.lookup ("costs" : Str) = some .local := by decide +kernel
theorem lk_with_over_first : (defScope st_with_over).names.lookup ("first" : Str) = some .local := by decide +kernel
theorem lk_with_over_limit : (defScope st_with_over).names.lookup ("limit" : Str) = some .cell := by decide +kernel
theorem lk_with_over_needs : (defScope st_with_over).names.lookup ("needs" : Str) = some .local := by decide +kernel
theorem lk_with_over_over : (defScope st_with_over).names.lookup ("over" : Str) = some .cell := by decide +kernel
theorem lk_with_over_price : (defScope st_with_over).names.lookup ("price" : Str) = some .local := by decide +kernel
theorem va_with_over_costs {P : Program} {w : World} {K : PySem.W.Frag} {mg : Str → Option Value} {base : Heap} {k : Nat} {fn : Str → Bool} : VarAt ⟨P, w, K, mg, base, N_with_over, defScope st_with_over, k, fn⟩ 5 "costs" := vaL rfl lk_with_over_costs nm_costs
theorem va_with_over_first {P : Program} {w : World} {K : PySem.W.Frag} {mg : Str → Option Value} {base : Heap} {k : Nat} {fn : Str → Bool} : VarAt ⟨P, w, K, mg, base, N_with_over, defScope st_with_over, k, fn⟩ 1 "first" := vaL rfl lk_with_over_first nm_first
theorem va_with_over_needs {P : Program} {w : World} {K : PySem.W.Frag} {mg : Str → Option Value} {base : Heap} {k : Nat} {fn : Str → Bool} : VarAt ⟨P, w, K, mg, base, N_with_over, defScope st_with_over, k, fn⟩ 2 "needs" := vaL rfl lk_with_over_needs nm_needs
theorem va_with_over_price {P : Program} {w : World} {K : PySem.W.Frag} {mg : Str → Option Value} {base : Heap} {k : Nat} {fn : Str → Bool} : VarAt ⟨P, w, K, mg, base, N_with_over, defScope st_with_over, k, fn⟩ 0 "price" := vaL rfl lk_with_over_price nm_price
theorem sa_with_over_costs {P : Program} {w : World} {K : PySem.W.Frag} {mg : Str → Option Value} {base : Heap} {k : Nat} : SetAt ⟨P, w, K, mg, base, N_with_over, defScope st_with_over, k, fun _ => true⟩ 5 "costs" := saL rfl lk_with_over_costs
theorem lk_follow_cost_of_crew : (defScope st_follow).names.lookup ("cost_of_crew" : Str) = some .globalImplicit := by decide +kernel
theorem lk_follow_first : (defScope st_follow).names.lookup ("first" : Str) = some .local := by decide +kernel
theorem lk_follow_needs : (defScope st_follow).names.lookup ("needs" : Str) = some .local := by decide +kernel
theorem lk_follow_price : (defScope st_follow).names.lookup ("price" : Str) = some .local := by decide +kernel
theorem va_follow_first {P : Program} {w : World} {K : PySem.W.Frag} {mg : Str → Option Value} {base : Heap} {k : Nat} {fn : Str → Bool} : VarAt ⟨P, w, K, mg, base, N_follow, defScope st_follow, k, fn⟩ 1 "first" := vaL rfl lk_follow_first nm_first
theorem va_follow_needs {P : Program} {w : World} {K : PySem.W.Frag} {mg : Str → Option Value} {base : Heap} {k : Nat} {fn : Str → Bool} : VarAt ⟨P, w, K, mg, base, N_follow, defScope st_follow, k, fn⟩ 2 "needs" := vaL rfl lk_follow_needs nm_needs
theorem va_follow_price {P : Program} {w : World} {K : PySem.W.Frag} {mg : Str → Option Value} {base : Heap} {k : Nat} {fn : Str → Bool} : VarAt ⟨P, w, K, mg, base, N_follow, defScope st_follow, k, fn⟩ 0 "price" := vaL rfl lk_follow_price nm_price
theorem lk_level_cost_of_crew : (defScope st_level).names.lookup ("cost_of_crew" : Str) = some .globalImplicit := by decide +kernel
theorem lk_level_first : (defScope st_level).names.lookup ("first" : Str) = some .local := by decide +kernel
theorem lk_level_len : (defScope st_level).names.lookup ("len" : Str) = some .globalImplicit := by decide +kernel
theorem lk_level_max : (defScope st_level).names.lookup ("max" : Str) = some .globalImplicit := by decide +kernel
theorem lk_level_needs : (defScope st_level).names.lookup ("needs" : Str) = some .local := by decide +kernel
theorem lk_level_price : (defScope st_level).names.lookup ("price" : Str) = some .local := by decide +kernel
theorem va_level_first {P : Program} {w : World} {K : PySem.W.Frag} {mg : Str → Option Value} {base : Heap} {k : Nat} {fn : Str → Bool} : VarAt ⟨P, w, K, mg, base, N_level, defScope st_level, k, fn⟩ 1 "first" := vaL rfl lk_level_first nm_first
theorem va_level_needs {P : Program} {w : World} {K : PySem.W.Frag} {mg : Str → Option Value} {base : Heap} {k : Nat} {fn : Str → Bool} : VarAt ⟨P, w, K, mg, base, N_level, defScope st_level, k, fn⟩ 2 "needs" := vaL rfl lk_level_needs nm_needs
theorem va_level_price {P : Program} {w : World} {K : PySem.W.Frag} {mg : Str → Option Value} {base : Heap} {k : Nat} {fn : Str → Bool} : VarAt ⟨P, w, K, mg, base, N_level, defScope st_level, k, fn⟩ 0 "price" := vaL rfl lk_level_price nm_price
theorem lk_worth_keeping_fire : (defScope st_worth_keeping).names.lookup ("fire" : Str) = some .local := by decide +kernel
theorem lk_worth_keeping_hire : (defScope st_worth_keeping).names.lookup ("hire" : Str) = some .local := by decide +kernel
theorem lk_worth_keeping_many : (defScope st_worth_keeping).names.lookup ("many" : Str) = some .local := by decide +kernel
theorem lk_worth_keeping_price : (defScope st_worth_keeping).names.lookup ("price" : Str) = some .local := by decide +kernel
theorem lk_worth_keeping_wage : (defScope st_worth_keeping).names.lookup ("wage" : Str) = some .local := by decide +kernel
theorem va_worth_keeping_fire {P : Program} {w : World} {K : PySem.W.Frag} {mg : Str → Option Value} {base : Heap} {k : Nat} {fn : Str → Bool} : VarAt ⟨P, w, K, mg, base, N_worth_keeping, defScope st_worth_keeping, k, fn⟩ 3 "fire" := vaL rfl lk_worth_keeping_fire nm_fire
theorem va_worth_keeping_hire {P : Program} {w : World} {K : PySem.W.Frag} {mg : Str → Option Value} {base : Heap} {k : Nat} {fn : Str → Bool} : VarAt ⟨P, w, K, mg, base, N_worth_keeping, defScope st_worth_keeping, k, fn⟩ 2 "hire" := vaL rfl lk_worth_keeping_hire nm_hire
theorem va_worth_keeping_many {P : Program} {w : World} {K : PySem.W.Frag} {mg : Str → Option Value} {base : Heap} {k : Nat} {fn : Str → Bool} : VarAt ⟨P, w, K, mg, base, N_worth_keeping, defScope st_worth_keeping, k, fn⟩ 1 "many" := vaL rfl lk_worth_keeping_many nm_many
theorem va_worth_keeping_price {P : Program} {w : World} {K : PySem.W.Frag} {mg : Str → Option Value} {base : Heap} {k : Nat} {fn : Str → Bool} : VarAt ⟨P, w, K, mg, base, N_worth_keeping, defScope st_worth_keeping, k, fn⟩ 0 "price" := vaL rfl lk_worth_keeping_price nm_price
theorem va_worth_keeping_wage {P : Program} {w : World} {K : PySem.W.Frag} {mg : Str → Option Value} {base : Heap} {k : Nat} {fn : Str → Bool} : VarAt ⟨P, w, K, mg, base, N_worth_keeping, defScope st_worth_keeping, k, fn⟩ 4 "wage" := vaL rfl lk_worth_keeping_wage nm_wage
theorem sa_worth_keeping_fire {P : Program} {w : World} {K : PySem.W.Frag} {mg : Str → Option Value} {base : Heap} {k : Nat} : SetAt ⟨P, w, K, mg, base, N_worth_keeping, defScope st_worth_keeping, k, fun _ => true⟩ 3 "fire" := saL rfl lk_worth_keeping_fire
theorem sa_worth_keeping_hire {P : Program} {w : World} {K : PySem.W.Frag} {mg : Str → Option Value} {base : Heap} {k : Nat} : SetAt ⟨P, w, K, mg, base, N_worth_keeping, defScope st_worth_keeping, k, fun _ => true⟩ 2 "hire" := saL rfl lk_worth_keeping_hire
theorem sa_worth_keeping_wage {P : Program} {w : World} {K : PySem.W.Frag} {mg : Str → Option Value} {base : Heap} {k : Nat} : SetAt ⟨P, w, K, mg, base, N_worth_keeping, defScope st_worth_keeping, k, fun _ => true⟩ 4 "wage" := saL rfl lk_worth_keeping_wage
theorem lk_idle_months_crew : (defScope st_idle_months).names.lookup ("crew" : Str) = some .local := by decide +kernel
theorem lk_idle_months_needs : (defScope st_idle_months).names.lookup ("needs" : Str) = some .local := by decide +kernel
theorem lk_idle_months_sum : (defScope st_idle_months).names.lookup ("sum" : Str) = some .globalImplicit := by decide +kernel
theorem lk_idle_months_zip : (defScope st_idle_months).names.lookup ("zip" : Str) = some .globalImplicit := by decide +kernel
theorem va_idle_months_crew {P : Program} {w : World} {K : PySem.W.Frag} {mg : Str → Option Value} {base : Heap} {k : Nat} {fn : Str → Bool} : VarAt ⟨P, w, K, mg, base, N_idle_months, defScope st_idle_months, k, fn⟩ 1 "crew" := vaL rfl lk_idle_months_crew nm_crew
theorem va_idle_months_needs {P : Program} {w : World} {K : PySem.W.Frag} {mg : Str → Option Value} {base : Heap} {k : Nat} {fn : Str → Bool} : VarAt ⟨P, w, K, mg, base, N_idle_months, defScope st_idle_months, k, fn⟩ 0 "needs" := vaL rfl lk_idle_months_needs nm_needs
theorem lk_ups_crew : (defScope st_ups).names.lookup ("crew" : Str) = some .local := by decide +kernel
theorem lk_ups_first : (defScope st_ups).names.lookup ("first" : Str) = some .local := by decide +kernel
theorem lk_ups_gone : (defScope st_ups).names.lookup ("gone" : Str) = some .local := by decide +kernel
theorem lk_ups_hands : (defScope st_ups).names.lookup ("hands" : Str) = some .local := by decide +kernel
theorem lk_ups_hired : (defScope st_ups).names.lookup ("hired" : Str) = some .local := by decide +kernel
theorem lk_ups_max : (defScope st_ups).names.lookup ("max" : Str) = some .globalImplicit := by decide +kernel
theorem lk_ups_now : (defScope st_ups).names.lookup ("now" : Str) = some .local := by decide +kernel
theorem va_ups_crew {P : Program} {w : World} {K : PySem.W.Frag} {mg : Str → Option Value} {base : Heap} {k : Nat} {fn : Str → Bool} : VarAt ⟨P, w, K, mg, base, N_ups, defScope st_ups, k, fn⟩ 1 "crew" := vaL rfl lk_ups_crew nm_crew
theorem va_ups_first {P : Program} {w : World} {K : PySem.W.Frag} {mg : Str → Option Value} {base : Heap} {k : Nat} {fn : Str → Bool} : VarAt ⟨P, w, K, mg, base, N_ups, defScope st_ups, k, fn⟩ 0 "first" := vaL rfl lk_ups_first nm_first
theorem va_ups_gone {P : Program} {w : World} {K : PySem.W.Frag} {mg : Str → Option Value} {base : Heap} {k : Nat} {fn : Str → Bool} : VarAt ⟨P, w, K, mg, base, N_ups, defScope st_ups, k, fn⟩ 3 "gone" := vaL rfl lk_ups_gone nm_gone
theorem va_ups_hands {P : Program} {w : World} {K : PySem.W.Frag} {mg : Str → Option Value} {base : Heap} {k : Nat} {fn : Str → Bool} : VarAt ⟨P, w, K, mg, base, N_ups, defScope st_ups, k, fn⟩ 5 "hands" := vaL rfl lk_ups_hands nm_hands
theorem va_ups_hired {P : Program} {w : World} {K : PySem.W.Frag} {mg : Str → Option Value} {base : Heap} {k : Nat} {fn : Str → Bool} : VarAt ⟨P, w, K, mg, base, N_ups, defScope st_ups, k, fn⟩ 2 "hired" := vaL rfl lk_ups_hired nm_hired
theorem va_ups_now {P : Program} {w : World} {K : PySem.W.Frag} {mg : Str → Option Value} {base : Heap} {k : Nat} {fn : Str → Bool} : VarAt ⟨P, w, K, mg, base, N_ups, defScope st_ups, k, fn⟩ 4 "now" := vaL rfl lk_ups_now nm_now
theorem sa_ups_gone {P : Program} {w : World} {K : PySem.W.Frag} {mg : Str → Option Value} {base : Heap} {k : Nat} : SetAt ⟨P, w, K, mg, base, N_ups, defScope st_ups, k, fun _ => true⟩ 3 "gone" := saL rfl lk_ups_gone
theorem sa_ups_hands {P : Program} {w : World} {K : PySem.W.Frag} {mg : Str → Option Value} {base : Heap} {k : Nat} : SetAt ⟨P, w, K, mg, base, N_ups, defScope st_ups, k, fun _ => true⟩ 5 "hands" := saL rfl lk_ups_hands
theorem sa_ups_hired {P : Program} {w : World} {K : PySem.W.Frag} {mg : Str → Option Value} {base : Heap} {k : Nat} : SetAt ⟨P, w, K, mg, base, N_ups, defScope st_ups, k, fun _ => true⟩ 2 "hired" := saL rfl lk_ups_hired
theorem sa_ups_now {P : Program} {w : World} {K : PySem.W.Frag} {mg : Str → Option Value} {base : Heap} {k : Nat} : SetAt ⟨P, w, K, mg, base, N_ups, defScope st_ups, k, fun _ => true⟩ 4 "now" := saL rfl lk_ups_now
theorem lk_steady_price_best_crew : (defScope st_steady_price).names.lookup ("best_crew" : Str) = some .globalImplicit := by decide +kernel
theorem lk_steady_price_first : (defScope st_steady_price).names.lookup ("first" : Str) = some .local := by decide +kernel
theorem lk_steady_price_level : (defScope st_steady_price).names.lookup ("level" : Str) = some .globalImplicit := by decide +kernel
theorem lk_steady_price_needs : (defScope st_steady_price).names.lookup ("needs" : Str) = some .local := by decide +kernel
theorem lk_steady_price_price : (defScope st_steady_price).names.lookup ("price" : Str) = some .local := by decide +kernel
theorem va_steady_price_first {P : Program} {w : World} {K : PySem.W.Frag} {mg : Str → Option Value} {base : Heap} {k : Nat} {fn : Str → Bool} : VarAt ⟨P, w, K, mg, base, N_steady_price, defScope st_steady_price, k, fn⟩ 1 "first" := vaL rfl lk_steady_price_first nm_first
theorem va_steady_price_needs {P : Program} {w : World} {K : PySem.W.Frag} {mg : Str → Option Value} {base : Heap} {k : Nat} {fn : Str → Bool} : VarAt ⟨P, w, K, mg, base, N_steady_price, defScope st_steady_price, k, fn⟩ 2 "needs" := vaL rfl lk_steady_price_needs nm_needs
theorem va_steady_price_price {P : Program} {w : World} {K : PySem.W.Frag} {mg : Str → Option Value} {base : Heap} {k : Nat} {fn : Str → Bool} : VarAt ⟨P, w, K, mg, base, N_steady_price, defScope st_steady_price, k, fn⟩ 0 "price" := vaL rfl lk_steady_price_price nm_price
theorem lk__law_draws_abs : (defScope st__law_draws).names.lookup ("abs" : Str) = some .globalImplicit := by decide +kernel
theorem lk__law_draws_cell : (defScope st__law_draws).names.lookup ("cell" : Str) = some .local := by decide +kernel
theorem lk__law_draws_draws : (defScope st__law_draws).names.lookup ("draws" : Str) = some .local := by decide +kernel
theorem lk__law_draws_int : (defScope st__law_draws).names.lookup ("int" : Str) = some .globalImplicit := by decide +kernel
theorem lk__law_draws_k : (defScope st__law_draws).names.lookup ("k" : Str) = some .local := by decide +kernel
theorem lk__law_draws_len : (defScope st__law_draws).names.lookup ("len" : Str) = some .globalImplicit := by decide +kernel
theorem lk__law_draws_many : (defScope st__law_draws).names.lookup ("many" : Str) = some .local := by decide +kernel
theorem lk__law_draws_mixed : (defScope st__law_draws).names.lookup ("mixed" : Str) = some .local := by decide +kernel
theorem lk__law_draws_range : (defScope st__law_draws).names.lookup ("range" : Str) = some .globalImplicit := by decide +kernel
theorem lk__law_draws_rest : (defScope st__law_draws).names.lookup ("rest" : Str) = some .local := by decide +kernel
theorem lk__law_draws_script : (defScope st__law_draws).names.lookup ("script" : Str) = some .local := by decide +kernel
theorem lk__law_draws_turn : (defScope st__law_draws).names.lookup ("turn" : Str) = some .local := by decide +kernel
theorem va__law_draws_cell {P : Program} {w : World} {K : PySem.W.Frag} {mg : Str → Option Value} {base : Heap} {k : Nat} {fn : Str → Bool} : VarAt ⟨P, w, K, mg, base, N__law_draws, defScope st__law_draws, k, fn⟩ 5 "cell" := vaL rfl lk__law_draws_cell nm_cell
theorem va__law_draws_draws {P : Program} {w : World} {K : PySem.W.Frag} {mg : Str → Option Value} {base : Heap} {k : Nat} {fn : Str → Bool} : VarAt ⟨P, w, K, mg, base, N__law_draws, defScope st__law_draws, k, fn⟩ 2 "draws" := vaL rfl lk__law_draws_draws nm_draws
theorem va__law_draws_k {P : Program} {w : World} {K : PySem.W.Frag} {mg : Str → Option Value} {base : Heap} {k : Nat} {fn : Str → Bool} : VarAt ⟨P, w, K, mg, base, N__law_draws, defScope st__law_draws, k, fn⟩ 4 "k" := vaL rfl lk__law_draws_k nm_k
theorem va__law_draws_many {P : Program} {w : World} {K : PySem.W.Frag} {mg : Str → Option Value} {base : Heap} {k : Nat} {fn : Str → Bool} : VarAt ⟨P, w, K, mg, base, N__law_draws, defScope st__law_draws, k, fn⟩ 1 "many" := vaL rfl lk__law_draws_many nm_many
theorem va__law_draws_mixed {P : Program} {w : World} {K : PySem.W.Frag} {mg : Str → Option Value} {base : Heap} {k : Nat} {fn : Str → Bool} : VarAt ⟨P, w, K, mg, base, N__law_draws, defScope st__law_draws, k, fn⟩ 3 "mixed" := vaL rfl lk__law_draws_mixed nm_mixed
theorem va__law_draws_rest {P : Program} {w : World} {K : PySem.W.Frag} {mg : Str → Option Value} {base : Heap} {k : Nat} {fn : Str → Bool} : VarAt ⟨P, w, K, mg, base, N__law_draws, defScope st__law_draws, k, fn⟩ 6 "rest" := vaL rfl lk__law_draws_rest nm_rest
theorem va__law_draws_script {P : Program} {w : World} {K : PySem.W.Frag} {mg : Str → Option Value} {base : Heap} {k : Nat} {fn : Str → Bool} : VarAt ⟨P, w, K, mg, base, N__law_draws, defScope st__law_draws, k, fn⟩ 0 "script" := vaL rfl lk__law_draws_script nm_script
theorem sa__law_draws_cell {P : Program} {w : World} {K : PySem.W.Frag} {mg : Str → Option Value} {base : Heap} {k : Nat} : SetAt ⟨P, w, K, mg, base, N__law_draws, defScope st__law_draws, k, fun _ => true⟩ 5 "cell" := saL rfl lk__law_draws_cell
theorem sa__law_draws_draws {P : Program} {w : World} {K : PySem.W.Frag} {mg : Str → Option Value} {base : Heap} {k : Nat} : SetAt ⟨P, w, K, mg, base, N__law_draws, defScope st__law_draws, k, fun _ => true⟩ 2 "draws" := saL rfl lk__law_draws_draws
theorem sa__law_draws_k {P : Program} {w : World} {K : PySem.W.Frag} {mg : Str → Option Value} {base : Heap} {k : Nat} : SetAt ⟨P, w, K, mg, base, N__law_draws, defScope st__law_draws, k, fun _ => true⟩ 4 "k" := saL rfl lk__law_draws_k
theorem sa__law_draws_mixed {P : Program} {w : World} {K : PySem.W.Frag} {mg : Str → Option Value} {base : Heap} {k : Nat} : SetAt ⟨P, w, K, mg, base, N__law_draws, defScope st__law_draws, k, fun _ => true⟩ 3 "mixed" := saL rfl lk__law_draws_mixed
theorem sa__law_draws_rest {P : Program} {w : World} {K : PySem.W.Frag} {mg : Str → Option Value} {base : Heap} {k : Nat} : SetAt ⟨P, w, K, mg, base, N__law_draws, defScope st__law_draws, k, fun _ => true⟩ 6 "rest" := saL rfl lk__law_draws_rest
theorem sa__law_draws_turn {P : Program} {w : World} {K : PySem.W.Frag} {mg : Str → Option Value} {base : Heap} {k : Nat} : SetAt ⟨P, w, K, mg, base, N__law_draws, defScope st__law_draws, k, fun _ => true⟩ 7 "turn" := saL rfl lk__law_draws_turn
theorem lk__law_pick__law_next : (defScope st__law_pick).names.lookup ("_law_next" : Str) = some .globalImplicit := by decide +kernel
theorem lk__law_pick_len : (defScope st__law_pick).names.lookup ("len" : Str) = some .globalImplicit := by decide +kernel
theorem lk__law_pick_rows : (defScope st__law_pick).names.lookup ("rows" : Str) = some .local := by decide +kernel
theorem lk__law_pick_w : (defScope st__law_pick).names.lookup ("w" : Str) = some .local := by decide +kernel
theorem va__law_pick_rows {P : Program} {w : World} {K : PySem.W.Frag} {mg : Str → Option Value} {base : Heap} {k : Nat} {fn : Str → Bool} : VarAt ⟨P, w, K, mg, base, N__law_pick, defScope st__law_pick, k, fn⟩ 1 "rows" := vaL rfl lk__law_pick_rows nm_rows
theorem va__law_pick_w {P : Program} {w : World} {K : PySem.W.Frag} {mg : Str → Option Value} {base : Heap} {k : Nat} {fn : Str → Bool} : VarAt ⟨P, w, K, mg, base, N__law_pick, defScope st__law_pick, k, fn⟩ 0 "w" := vaL rfl lk__law_pick_w nm_w
theorem lk__law_says_bool : (defScope st__law_says).names.lookup ("bool" : Str) = some .globalImplicit := by decide +kernel
theorem lk__law_says_due : (defScope st__law_says).names.lookup ("due" : Str) = some .local := by decide +kernel
theorem lk__law_says_isinstance : (defScope st__law_says).names.lookup ("isinstance" : Str) = some .globalImplicit := by decide +kernel
theorem lk__law_says_seen : (defScope st__law_says).names.lookup ("seen" : Str) = some .local := by decide +kernel
theorem va__law_says_due {P : Program} {w : World} {K : PySem.W.Frag} {mg : Str → Option Value} {base : Heap} {k : Nat} {fn : Str → Bool} : VarAt ⟨P, w, K, mg, base, N__law_says, defScope st__law_says, k, fn⟩ 1 "due" := vaL rfl lk__law_says_due nm_due
theorem va__law_says_seen {P : Program} {w : World} {K : PySem.W.Frag} {mg : Str → Option Value} {base : Heap} {k : Nat} {fn : Str → Bool} : VarAt ⟨P, w, K, mg, base, N__law_says, defScope st__law_says, k, fn⟩ 0 "seen" := vaL rfl lk__law_says_seen nm_seen
theorem lk__law_same_bool : (defScope st__law_same).names.lookup ("bool" : Str) = some .globalImplicit := by decide +kernel
theorem lk__law_same_due : (defScope st__law_same).names.lookup ("due" : Str) = some .cell := by decide +kernel
theorem lk__law_same_int : (defScope st__law_same).names.lookup ("int" : Str) = some .globalImplicit := by decide +kernel
theorem lk__law_same_isinstance : (defScope st__law_same).names.lookup ("isinstance" : Str) = some .globalImplicit := by decide +kernel
theorem lk__law_same_len : (defScope st__law_same).names.lookup ("len" : Str) = some .globalImplicit := by decide +kernel
theorem lk__law_same_range : (defScope st__law_same).names.lookup ("range" : Str) = some .globalImplicit := by decide +kernel
theorem lk__law_same_seen : (defScope st__law_same).names.lookup ("seen" : Str) = some .cell := by decide +kernel
theorem lk__law_same_str : (defScope st__law_same).names.lookup ("str" : Str) = some .globalImplicit := by decide +kernel
theorem lk__law_same_tuple : (defScope st__law_same).names.lookup ("tuple" : Str) = some .globalImplicit := by decide +kernel
theorem va__law_same_due {P : Program} {w : World} {K : PySem.W.Frag} {mg : Str → Option Value} {base : Heap} {k : Nat} {fn : Str → Bool} : VarAt ⟨P, w, K, mg, base, N__law_same, defScope st__law_same, k, fn⟩ 1 "due" := vaC rfl lk__law_same_due nm_due
theorem va__law_same_seen {P : Program} {w : World} {K : PySem.W.Frag} {mg : Str → Option Value} {base : Heap} {k : Nat} {fn : Str → Bool} : VarAt ⟨P, w, K, mg, base, N__law_same, defScope st__law_same, k, fn⟩ 0 "seen" := vaC rfl lk__law_same_seen nm_seen
theorem lk__law_rows_found : (defScope st__law_rows).names.lookup ("found" : Str) = some .local := by decide +kernel
theorem lk__law_rows_longer : (defScope st__law_rows).names.lookup ("longer" : Str) = some .local := by decide +kernel
theorem lk__law_rows_range : (defScope st__law_rows).names.lookup ("range" : Str) = some .globalImplicit := by decide +kernel
theorem lk__law_rows_row : (defScope st__law_rows).names.lookup ("row" : Str) = some .cell := by decide +kernel
theorem lk__law_rows_size : (defScope st__law_rows).names.lookup ("size" : Str) = some .local := by decide +kernel
theorem lk__law_rows_sizes : (defScope st__law_rows).names.lookup ("sizes" : Str) = some .local := by decide +kernel
theorem va__law_rows_found {P : Program} {w : World} {K : PySem.W.Frag} {mg : Str → Option Value} {base : Heap} {k : Nat} {fn : Str → Bool} : VarAt ⟨P, w, K, mg, base, N__law_rows, defScope st__law_rows, k, fn⟩ 1 "found" := vaL rfl lk__law_rows_found nm_found
theorem va__law_rows_longer {P : Program} {w : World} {K : PySem.W.Frag} {mg : Str → Option Value} {base : Heap} {k : Nat} {fn : Str → Bool} : VarAt ⟨P, w, K, mg, base, N__law_rows, defScope st__law_rows, k, fn⟩ 3 "longer" := vaL rfl lk__law_rows_longer nm_longer
theorem va__law_rows_size {P : Program} {w : World} {K : PySem.W.Frag} {mg : Str → Option Value} {base : Heap} {k : Nat} {fn : Str → Bool} : VarAt ⟨P, w, K, mg, base, N__law_rows, defScope st__law_rows, k, fn⟩ 2 "size" := vaL rfl lk__law_rows_size nm_size
theorem va__law_rows_sizes {P : Program} {w : World} {K : PySem.W.Frag} {mg : Str → Option Value} {base : Heap} {k : Nat} {fn : Str → Bool} : VarAt ⟨P, w, K, mg, base, N__law_rows, defScope st__law_rows, k, fn⟩ 0 "sizes" := vaL rfl lk__law_rows_sizes nm_sizes
theorem sa__law_rows_found {P : Program} {w : World} {K : PySem.W.Frag} {mg : Str → Option Value} {base : Heap} {k : Nat} : SetAt ⟨P, w, K, mg, base, N__law_rows, defScope st__law_rows, k, fun _ => true⟩ 1 "found" := saL rfl lk__law_rows_found
theorem sa__law_rows_longer {P : Program} {w : World} {K : PySem.W.Frag} {mg : Str → Option Value} {base : Heap} {k : Nat} : SetAt ⟨P, w, K, mg, base, N__law_rows, defScope st__law_rows, k, fun _ => true⟩ 3 "longer" := saL rfl lk__law_rows_longer
theorem sa__law_rows_row {P : Program} {w : World} {K : PySem.W.Frag} {mg : Str → Option Value} {base : Heap} {k : Nat} : SetAt ⟨P, w, K, mg, base, N__law_rows, defScope st__law_rows, k, fun _ => true⟩ 4 "row" := saC rfl lk__law_rows_row rfl
theorem sa__law_rows_size {P : Program} {w : World} {K : PySem.W.Frag} {mg : Str → Option Value} {base : Heap} {k : Nat} : SetAt ⟨P, w, K, mg, base, N__law_rows, defScope st__law_rows, k, fun _ => true⟩ 2 "size" := saL rfl lk__law_rows_size
theorem lk__law_cost_crew : (defScope st__law_cost).names.lookup ("crew" : Str) = some .local := by decide +kernel
theorem lk__law_cost_first : (defScope st__law_cost).names.lookup ("first" : Str) = some .local := by decide +kernel
theorem lk__law_cost_found : (defScope st__law_cost).names.lookup ("found" : Str) = some .local := by decide +kernel
theorem lk__law_cost_hands : (defScope st__law_cost).names.lookup ("hands" : Str) = some .local := by decide +kernel
theorem lk__law_cost_now : (defScope st__law_cost).names.lookup ("now" : Str) = some .local := by decide +kernel
theorem lk__law_cost_price : (defScope st__law_cost).names.lookup ("price" : Str) = some .local := by decide +kernel
theorem va__law_cost_crew {P : Program} {w : World} {K : PySem.W.Frag} {mg : Str → Option Value} {base : Heap} {k : Nat} {fn : Str → Bool} : VarAt ⟨P, w, K, mg, base, N__law_cost, defScope st__law_cost, k, fn⟩ 2 "crew" := vaL rfl lk__law_cost_crew nm_crew
theorem va__law_cost_first {P : Program} {w : World} {K : PySem.W.Frag} {mg : Str → Option Value} {base : Heap} {k : Nat} {fn : Str → Bool} : VarAt ⟨P, w, K, mg, base, N__law_cost, defScope st__law_cost, k, fn⟩ 1 "first" := vaL rfl lk__law_cost_first nm_first
theorem va__law_cost_found {P : Program} {w : World} {K : PySem.W.Frag} {mg : Str → Option Value} {base : Heap} {k : Nat} {fn : Str → Bool} : VarAt ⟨P, w, K, mg, base, N__law_cost, defScope st__law_cost, k, fn⟩ 3 "found" := vaL rfl lk__law_cost_found nm_found
theorem va__law_cost_hands {P : Program} {w : World} {K : PySem.W.Frag} {mg : Str → Option Value} {base : Heap} {k : Nat} {fn : Str → Bool} : VarAt ⟨P, w, K, mg, base, N__law_cost, defScope st__law_cost, k, fn⟩ 5 "hands" := vaL rfl lk__law_cost_hands nm_hands
theorem va__law_cost_now {P : Program} {w : World} {K : PySem.W.Frag} {mg : Str → Option Value} {base : Heap} {k : Nat} {fn : Str → Bool} : VarAt ⟨P, w, K, mg, base, N__law_cost, defScope st__law_cost, k, fn⟩ 4 "now" := vaL rfl lk__law_cost_now nm_now
theorem va__law_cost_price {P : Program} {w : World} {K : PySem.W.Frag} {mg : Str → Option Value} {base : Heap} {k : Nat} {fn : Str → Bool} : VarAt ⟨P, w, K, mg, base, N__law_cost, defScope st__law_cost, k, fn⟩ 0 "price" := vaL rfl lk__law_cost_price nm_price
theorem sa__law_cost_found {P : Program} {w : World} {K : PySem.W.Frag} {mg : Str → Option Value} {base : Heap} {k : Nat} : SetAt ⟨P, w, K, mg, base, N__law_cost, defScope st__law_cost, k, fun _ => true⟩ 3 "found" := saL rfl lk__law_cost_found
theorem sa__law_cost_hands {P : Program} {w : World} {K : PySem.W.Frag} {mg : Str → Option Value} {base : Heap} {k : Nat} : SetAt ⟨P, w, K, mg, base, N__law_cost, defScope st__law_cost, k, fun _ => true⟩ 5 "hands" := saL rfl lk__law_cost_hands
theorem sa__law_cost_now {P : Program} {w : World} {K : PySem.W.Frag} {mg : Str → Option Value} {base : Heap} {k : Nat} : SetAt ⟨P, w, K, mg, base, N__law_cost, defScope st__law_cost, k, fun _ => true⟩ 4 "now" := saL rfl lk__law_cost_now
theorem lk_law__law_cost : (defScope st_law).names.lookup ("_law_cost" : Str) = some .globalImplicit := by decide +kernel
theorem lk_law__law_draws : (defScope st_law).names.lookup ("_law_draws" : Str) = some .globalImplicit := by decide +kernel
theorem lk_law__law_next : (defScope st_law).names.lookup ("_law_next" : Str) = some .globalImplicit := by decide +kernel
theorem lk_law__law_rows : (defScope st_law).names.lookup ("_law_rows" : Str) = some .globalImplicit := by decide +kernel
theorem lk_law__law_same : (defScope st_law).names.lookup ("_law_same" : Str) = some .globalImplicit := by decide +kernel
theorem lk_law__law_says : (defScope st_law).names.lookup ("_law_says" : Str) = some .globalImplicit := by decide +kernel
theorem lk_law_best : (defScope st_law).names.lookup ("best" : Str) = some .local := by decide +kernel
theorem lk_law_best_crew : (defScope st_law).names.lookup ("best_crew" : Str) = some .globalImplicit := by decide +kernel
theorem lk_law_cheap : (defScope st_law).names.lookup ("cheap" : Str) = some .local := by decide +kernel
theorem lk_law_cost_of_crew : (defScope st_law).names.lookup ("cost_of_crew" : Str) = some .globalImplicit := by decide +kernel
theorem lk_law_crew : (defScope st_law).names.lookup ("crew" : Str) = some .cell := by decide +kernel
theorem lk_law_first : (defScope st_law).names.lookup ("first" : Str) = some .cell := by decide +kernel
theorem lk_law_follow : (defScope st_law).names.lookup ("follow" : Str) = some .globalImplicit := by decide +kernel
theorem lk_law_idle_months : (defScope st_law).names.lookup ("idle_months" : Str) = some .globalImplicit := by decide +kernel
theorem lk_law_lack : (defScope st_law).names.lookup ("lack" : Str) = some .local := by decide +kernel
theorem lk_law_len : (defScope st_law).names.lookup ("len" : Str) = some .globalImplicit := by decide +kernel
theorem lk_law_level : (defScope st_law).names.lookup ("level" : Str) = some .globalImplicit := by decide +kernel
theorem lk_law_limit : (defScope st_law).names.lookup ("limit" : Str) = some .local := by decide +kernel
theorem lk_law_many : (defScope st_law).names.lookup ("many" : Str) = some .local := by decide +kernel
theorem lk_law_max : (defScope st_law).names.lookup ("max" : Str) = some .globalImplicit := by decide +kernel
theorem lk_law_more : (defScope st_law).names.lookup ("more" : Str) = some .local := by decide +kernel
theorem lk_law_needs : (defScope st_law).names.lookup ("needs" : Str) = some .cell := by decide +kernel
theorem lk_law_over : (defScope st_law).names.lookup ("over" : Str) = some .local := by decide +kernel
theorem lk_law_own : (defScope st_law).names.lookup ("own" : Str) = some .local := by decide +kernel
theorem lk_law_price : (defScope st_law).names.lookup ("price" : Str) = some .local := by decide +kernel
theorem lk_law_range : (defScope st_law).names.lookup ("range" : Str) = some .globalImplicit := by decide +kernel
theorem lk_law_row : (defScope st_law).names.lookup ("row" : Str) = some .cell := by decide +kernel
theorem lk_law_script : (defScope st_law).names.lookup ("script" : Str) = some .local := by decide +kernel
theorem lk_law_steady_price : (defScope st_law).names.lookup ("steady_price" : Str) = some .globalImplicit := by decide +kernel
theorem lk_law_steps : (defScope st_law).names.lookup ("steps" : Str) = some .local := by decide +kernel
theorem lk_law_sum : (defScope st_law).names.lookup ("sum" : Str) = some .globalImplicit := by decide +kernel
theorem lk_law_top : (defScope st_law).names.lookup ("top" : Str) = some .local := by decide +kernel
theorem lk_law_tuple : (defScope st_law).names.lookup ("tuple" : Str) = some .globalImplicit := by decide +kernel
theorem lk_law_turn : (defScope st_law).names.lookup ("turn" : Str) = some .local := by decide +kernel
theorem lk_law_ups : (defScope st_law).names.lookup ("ups" : Str) = some .globalImplicit := by decide +kernel
theorem lk_law_w : (defScope st_law).names.lookup ("w" : Str) = some .cell := by decide +kernel
theorem lk_law_whole : (defScope st_law).names.lookup ("whole" : Str) = some .local := by decide +kernel
theorem lk_law_with_over : (defScope st_law).names.lookup ("with_over" : Str) = some .globalImplicit := by decide +kernel
theorem lk_law_worth_keeping : (defScope st_law).names.lookup ("worth_keeping" : Str) = some .globalImplicit := by decide +kernel
theorem va_law_best {P : Program} {w : World} {K : PySem.W.Frag} {mg : Str → Option Value} {base : Heap} {k : Nat} {fn : Str → Bool} : VarAt ⟨P, w, K, mg, base, N_law, defScope st_law, k, fn⟩ 10 "best" := vaL rfl lk_law_best nm_best
theorem va_law_cheap {P : Program} {w : World} {K : PySem.W.Frag} {mg : Str → Option Value} {base : Heap} {k : Nat} {fn : Str → Bool} : VarAt ⟨P, w, K, mg, base, N_law, defScope st_law, k, fn⟩ 11 "cheap" := vaL rfl lk_law_cheap nm_cheap
theorem va_law_crew {P : Program} {w : World} {K : PySem.W.Frag} {mg : Str → Option Value} {base : Heap} {k : Nat} {fn : Str → Bool} : VarAt ⟨P, w, K, mg, base, N_law, defScope st_law, k, fn⟩ 6 "crew" := vaC rfl lk_law_crew nm_crew
theorem va_law_first {P : Program} {w : World} {K : PySem.W.Frag} {mg : Str → Option Value} {base : Heap} {k : Nat} {fn : Str → Bool} : VarAt ⟨P, w, K, mg, base, N_law, defScope st_law, k, fn⟩ 4 "first" := vaC rfl lk_law_first nm_first
theorem va_law_lack {P : Program} {w : World} {K : PySem.W.Frag} {mg : Str → Option Value} {base : Heap} {k : Nat} {fn : Str → Bool} : VarAt ⟨P, w, K, mg, base, N_law, defScope st_law, k, fn⟩ 13 "lack" := vaL rfl lk_law_lack nm_lack
theorem va_law_limit {P : Program} {w : World} {K : PySem.W.Frag} {mg : Str → Option Value} {base : Heap} {k : Nat} {fn : Str → Bool} : VarAt ⟨P, w, K, mg, base, N_law, defScope st_law, k, fn⟩ 9 "limit" := vaL rfl lk_law_limit nm_limit
theorem va_law_many {P : Program} {w : World} {K : PySem.W.Frag} {mg : Str → Option Value} {base : Heap} {k : Nat} {fn : Str → Bool} : VarAt ⟨P, w, K, mg, base, N_law, defScope st_law, k, fn⟩ 17 "many" := vaL rfl lk_law_many nm_many
theorem va_law_more {P : Program} {w : World} {K : PySem.W.Frag} {mg : Str → Option Value} {base : Heap} {k : Nat} {fn : Str → Bool} : VarAt ⟨P, w, K, mg, base, N_law, defScope st_law, k, fn⟩ 15 "more" := vaL rfl lk_law_more nm_more
theorem va_law_needs {P : Program} {w : World} {K : PySem.W.Frag} {mg : Str → Option Value} {base : Heap} {k : Nat} {fn : Str → Bool} : VarAt ⟨P, w, K, mg, base, N_law, defScope st_law, k, fn⟩ 5 "needs" := vaC rfl lk_law_needs nm_needs
theorem va_law_over {P : Program} {w : World} {K : PySem.W.Frag} {mg : Str → Option Value} {base : Heap} {k : Nat} {fn : Str → Bool} : VarAt ⟨P, w, K, mg, base, N_law, defScope st_law, k, fn⟩ 8 "over" := vaL rfl lk_law_over nm_over
theorem va_law_own {P : Program} {w : World} {K : PySem.W.Frag} {mg : Str → Option Value} {base : Heap} {k : Nat} {fn : Str → Bool} : VarAt ⟨P, w, K, mg, base, N_law, defScope st_law, k, fn⟩ 14 "own" := vaL rfl lk_law_own nm_own
theorem va_law_price {P : Program} {w : World} {K : PySem.W.Frag} {mg : Str → Option Value} {base : Heap} {k : Nat} {fn : Str → Bool} : VarAt ⟨P, w, K, mg, base, N_law, defScope st_law, k, fn⟩ 3 "price" := vaL rfl lk_law_price nm_price
theorem va_law_row {P : Program} {w : World} {K : PySem.W.Frag} {mg : Str → Option Value} {base : Heap} {k : Nat} {fn : Str → Bool} : VarAt ⟨P, w, K, mg, base, N_law, defScope st_law, k, fn⟩ 12 "row" := vaC rfl lk_law_row nm_row
theorem va_law_script {P : Program} {w : World} {K : PySem.W.Frag} {mg : Str → Option Value} {base : Heap} {k : Nat} {fn : Str → Bool} : VarAt ⟨P, w, K, mg, base, N_law, defScope st_law, k, fn⟩ 0 "script" := vaL rfl lk_law_script nm_script
theorem va_law_steps {P : Program} {w : World} {K : PySem.W.Frag} {mg : Str → Option Value} {base : Heap} {k : Nat} {fn : Str → Bool} : VarAt ⟨P, w, K, mg, base, N_law, defScope st_law, k, fn⟩ 18 "steps" := vaL rfl lk_law_steps nm_steps
theorem va_law_top {P : Program} {w : World} {K : PySem.W.Frag} {mg : Str → Option Value} {base : Heap} {k : Nat} {fn : Str → Bool} : VarAt ⟨P, w, K, mg, base, N_law, defScope st_law, k, fn⟩ 7 "top" := vaL rfl lk_law_top nm_top
theorem va_law_w {P : Program} {w : World} {K : PySem.W.Frag} {mg : Str → Option Value} {base : Heap} {k : Nat} {fn : Str → Bool} : VarAt ⟨P, w, K, mg, base, N_law, defScope st_law, k, fn⟩ 1 "w" := vaC rfl lk_law_w nm_w
theorem va_law_whole {P : Program} {w : World} {K : PySem.W.Frag} {mg : Str → Option Value} {base : Heap} {k : Nat} {fn : Str → Bool} : VarAt ⟨P, w, K, mg, base, N_law, defScope st_law, k, fn⟩ 16 "whole" := vaL rfl lk_law_whole nm_whole
theorem sa_law_best {P : Program} {w : World} {K : PySem.W.Frag} {mg : Str → Option Value} {base : Heap} {k : Nat} : SetAt ⟨P, w, K, mg, base, N_law, defScope st_law, k, fun _ => true⟩ 10 "best" := saL rfl lk_law_best
theorem sa_law_cheap {P : Program} {w : World} {K : PySem.W.Frag} {mg : Str → Option Value} {base : Heap} {k : Nat} : SetAt ⟨P, w, K, mg, base, N_law, defScope st_law, k, fun _ => true⟩ 11 "cheap" := saL rfl lk_law_cheap
theorem sa_law_crew {P : Program} {w : World} {K : PySem.W.Frag} {mg : Str → Option Value} {base : Heap} {k : Nat} : SetAt ⟨P, w, K, mg, base, N_law, defScope st_law, k, fun _ => true⟩ 6 "crew" := saC rfl lk_law_crew rfl
theorem sa_law_first {P : Program} {w : World} {K : PySem.W.Frag} {mg : Str → Option Value} {base : Heap} {k : Nat} : SetAt ⟨P, w, K, mg, base, N_law, defScope st_law, k, fun _ => true⟩ 4 "first" := saC rfl lk_law_first rfl
theorem sa_law_lack {P : Program} {w : World} {K : PySem.W.Frag} {mg : Str → Option Value} {base : Heap} {k : Nat} : SetAt ⟨P, w, K, mg, base, N_law, defScope st_law, k, fun _ => true⟩ 13 "lack" := saL rfl lk_law_lack
theorem sa_law_limit {P : Program} {w : World} {K : PySem.W.Frag} {mg : Str → Option Value} {base : Heap} {k : Nat} : SetAt ⟨P, w, K, mg, base, N_law, defScope st_law, k, fun _ => true⟩ 9 "limit" := saL rfl lk_law_limit
theorem sa_law_many {P : Program} {w : World} {K : PySem.W.Frag} {mg : Str → Option Value} {base : Heap} {k : Nat} : SetAt ⟨P, w, K, mg, base, N_law, defScope st_law, k, fun _ => true⟩ 17 "many" := saL rfl lk_law_many
theorem sa_law_more {P : Program} {w : World} {K : PySem.W.Frag} {mg : Str → Option Value} {base : Heap} {k : Nat} : SetAt ⟨P, w, K, mg, base, N_law, defScope st_law, k, fun _ => true⟩ 15 "more" := saL rfl lk_law_more
theorem sa_law_needs {P : Program} {w : World} {K : PySem.W.Frag} {mg : Str → Option Value} {base : Heap} {k : Nat} : SetAt ⟨P, w, K, mg, base, N_law, defScope st_law, k, fun _ => true⟩ 5 "needs" := saC rfl lk_law_needs rfl
theorem sa_law_over {P : Program} {w : World} {K : PySem.W.Frag} {mg : Str → Option Value} {base : Heap} {k : Nat} : SetAt ⟨P, w, K, mg, base, N_law, defScope st_law, k, fun _ => true⟩ 8 "over" := saL rfl lk_law_over
theorem sa_law_own {P : Program} {w : World} {K : PySem.W.Frag} {mg : Str → Option Value} {base : Heap} {k : Nat} : SetAt ⟨P, w, K, mg, base, N_law, defScope st_law, k, fun _ => true⟩ 14 "own" := saL rfl lk_law_own
theorem sa_law_price {P : Program} {w : World} {K : PySem.W.Frag} {mg : Str → Option Value} {base : Heap} {k : Nat} : SetAt ⟨P, w, K, mg, base, N_law, defScope st_law, k, fun _ => true⟩ 3 "price" := saL rfl lk_law_price
theorem sa_law_row {P : Program} {w : World} {K : PySem.W.Frag} {mg : Str → Option Value} {base : Heap} {k : Nat} : SetAt ⟨P, w, K, mg, base, N_law, defScope st_law, k, fun _ => true⟩ 12 "row" := saC rfl lk_law_row rfl
theorem sa_law_steps {P : Program} {w : World} {K : PySem.W.Frag} {mg : Str → Option Value} {base : Heap} {k : Nat} : SetAt ⟨P, w, K, mg, base, N_law, defScope st_law, k, fun _ => true⟩ 18 "steps" := saL rfl lk_law_steps
theorem sa_law_top {P : Program} {w : World} {K : PySem.W.Frag} {mg : Str → Option Value} {base : Heap} {k : Nat} : SetAt ⟨P, w, K, mg, base, N_law, defScope st_law, k, fun _ => true⟩ 7 "top" := saL rfl lk_law_top
theorem sa_law_turn {P : Program} {w : World} {K : PySem.W.Frag} {mg : Str → Option Value} {base : Heap} {k : Nat} : SetAt ⟨P, w, K, mg, base, N_law, defScope st_law, k, fun _ => true⟩ 2 "turn" := saL rfl lk_law_turn
theorem sa_law_w {P : Program} {w : World} {K : PySem.W.Frag} {mg : Str → Option Value} {base : Heap} {k : Nat} : SetAt ⟨P, w, K, mg, base, N_law, defScope st_law, k, fun _ => true⟩ 1 "w" := saC rfl lk_law_w rfl
theorem sa_law_whole {P : Program} {w : World} {K : PySem.W.Frag} {mg : Str → Option Value} {base : Heap} {k : Nat} : SetAt ⟨P, w, K, mg, base, N_law, defScope st_law, k, fun _ => true⟩ 16 "whole" := saL rfl lk_law_whole
/-! ### what the defs do -/
def m_cost_of_crew (price_ : D) (first_ : D) (crew_ : D) : M D :=
  ((M.pure price_).bind fun x1 => ((un3 x1).bind fun t2 => 
  ((M.pure (.int 0)).bind fun found_3 => ((M.pure first_).bind fun now_4 => 
  (((M.pure crew_).bind fun x5 => asS x5).bind fun l30 => (M.fold (fun (s6 : D × D) x29 => ((M.pure x29).bind fun a7 => 
    (((((M.pure t2.1).bind fun x12 => (((M.pure (.int 0)).bind fun x10 => (((M.pure a7).bind fun x8 => ((M.pure s6.2).bind fun x9 => subD x8 x9)).bind fun x11 => max2D x10 x11)).bind fun x13 => mulD x12 x13)).bind fun x20 => (((M.pure t2.2.1).bind fun x18 => (((M.pure (.int 0)).bind fun x16 => (((M.pure s6.2).bind fun x14 => ((M.pure a7).bind fun x15 => subD x14 x15)).bind fun x17 => max2D x16 x17)).bind fun x19 => mulD x18 x19)).bind fun x21 => addD x20 x21)).bind fun x24 => (((M.pure t2.2.2).bind fun x22 => ((M.pure a7).bind fun x23 => mulD x22 x23)).bind fun x25 => addD x24 x25)).bind fun x26 => ((iaddD s6.1 x26).bind fun found_27 => 
    ((M.pure a7).bind fun now_28 => 
    (M.pure (found_27, now_28))))))) (found_3, now_4) l30).bind fun (s6 : D × D) =>
  (M.pure s6.1))))))
def m_best_by (price_ : D) (first_ : D) (lows_ : D) (costs_ : D) : M D :=
  ((((((M.pure first_).bind fun x32 => ((M.pure []).bind fun l33 => M.pure (x32 :: l33))).bind fun x34 => M.pure (.list x34)).bind fun x43 => ((((M.pure costs_).bind fun x35 => asS x35).bind fun l38 => ((M.mapM (fun x37 => ((M.pure x37).bind fun a36 => (((M.pure a36).bind fun x40 => lenD x40).bind fun x41 => ((M.pure (.int 1)).bind fun x42 => subD x41 x42)))) l38).bind fun l39 => M.pure (.list l39))).bind fun x44 => addD x43 x44)).bind fun x45 => max1D x45).bind fun top_31 => 
  ((((M.pure first_).bind fun x53 => ((((M.pure (.int 0)).bind fun x50 => ((((M.pure []).bind fun x47 => M.pure (.tuple x47)).bind fun x48 => ((M.pure []).bind fun l49 => M.pure (x48 :: l49))).bind fun l51 => M.pure (x50 :: l51))).bind fun x52 => M.pure (.tuple x52)).bind fun x54 => M.need (kD x53 = true) ((M.pure []).bind fun l55 => M.pure ((x53, x54) :: l55)))).bind fun l56 => M.pure (.dict (mergeD [] l56))).bind fun best_46 => 
  (((M.pure lows_).bind fun x57 => ((M.pure costs_).bind fun x58 => zipX x57 x58)).bind fun l125 => (M.fold (fun (s59 : D) x124 => ((un2 x124).bind fun a60 => 
    ((M.pure (.dict [])).bind fun later_61 => 
    (((M.pure a60.1).bind fun x64 => (((M.pure top_31).bind fun x62 => ((M.pure (.int 1)).bind fun x63 => addD x62 x63)).bind fun x65 => ((asI x64).bind fun i66 => ((asI x65).bind fun j67 => rngD i66 j67)))).bind fun l116 => (M.fold (fun (s68 : D) x115 => ((M.pure x115).bind fun a69 => 
      ((((M.pure a69).bind fun x72 => (((M.pure a60.2).bind fun x71 => lenD x71).bind fun x73 => ((ltD x72 x73).bind fun z74 => asB z74))).bind fun b77 => bif b77 then ((M.pure a60.2).bind fun x75 => ((M.pure a69).bind fun x76 => ixD x75 x76)) else (M.pure (.int 0))).bind fun own_70 => 
      ((M.pure (.list [])).bind fun rows_78 => 
      ((keysD s59).bind fun l112 => (M.fold (fun (s79 : D) x111 => ((M.pure x111).bind fun a80 => 
        (((M.pure s59).bind fun x81 => ((M.pure a80).bind fun x82 => ixD x81 x82)).bind fun x83 => ((un2 x83).bind fun t84 => 
        (M.need (isL s79 = true) ((((((M.pure t84.1).bind fun x91 => (((M.pure price_).bind fun x85 => ((M.pure a80).bind fun x86 => ((((M.pure a69).bind fun x87 => ((M.pure []).bind fun l88 => M.pure (x87 :: l88))).bind fun x89 => M.pure (.tuple x89)).bind fun x90 => m_cost_of_crew x85 x86 x90))).bind fun x92 => addD x91 x92)).bind fun x93 => ((M.pure own_70).bind fun x94 => addD x93 x94)).bind fun x102 => ((((M.pure t84.2).bind fun x98 => ((((M.pure a69).bind fun x95 => ((M.pure []).bind fun l96 => M.pure (x95 :: l96))).bind fun x97 => M.pure (.tuple x97)).bind fun x99 => addD x98 x99)).bind fun x100 => ((M.pure []).bind fun l101 => M.pure (x100 :: l101))).bind fun l103 => M.pure (x102 :: l103))).bind fun x104 => M.pure (.tuple x104)).bind fun x105 => ((appD s79 x105).bind fun rows_106 => 
        (M.pure rows_106)))))))) rows_78 l112).bind fun (s79 : D) =>
      (((M.pure s79).bind fun x107 => min1D x107).bind fun x108 => ((M.pure a69).bind fun x109 => ((dputD s68 x109 x108).bind fun later_110 => 
      (M.pure later_110))))))))) later_61 l116).bind fun (s68 : D) =>
    ((M.pure s68).bind fun best_114 => 
    (M.pure best_114)))))) best_46 l125).bind fun (s59 : D) =>
  (((keysD s59).bind fun l119 => ((M.mapM (fun x118 => ((M.pure x118).bind fun a117 => ((M.pure s59).bind fun x121 => ((M.pure a117).bind fun x122 => ixD x121 x122)))) l119).bind fun l120 => M.pure (.list l120))).bind fun x123 => min1D x123))))
def m_best_crew (price_ : D) (first_ : D) (needs_ : D) : M D :=
  ((M.pure price_).bind fun x126 => ((M.pure first_).bind fun x127 => ((M.pure needs_).bind fun x128 => ((((M.pure needs_).bind fun x129 => asS x129).bind fun l132 => ((M.mapM (fun x131 => ((M.pure x131).bind fun a130 => ((((M.pure (.int 0)).bind fun x134 => ((M.pure []).bind fun l135 => M.pure (x134 :: l135))).bind fun x136 => M.pure (.list x136)).bind fun x139 => (((M.pure a130).bind fun x137 => ((M.pure (.int 1)).bind fun x138 => addD x137 x138)).bind fun x140 => mulD x139 x140)))) l132).bind fun l133 => M.pure (.list l133))).bind fun x141 => m_best_by x126 x127 x128 x141))))
def m_with_over (price_ : D) (first_ : D) (needs_ : D) (over_ : D) (limit_ : D) : M D :=
  ((((M.pure needs_).bind fun x143 => asS x143).bind fun l146 => ((M.mapM (fun x145 => ((M.pure x145).bind fun a144 => ((((M.pure a144).bind fun x148 => ((M.pure (.int 1)).bind fun x149 => addD x148 x149)).bind fun x150 => ((asI x150).bind fun i151 => rngD 0 i151)).bind fun l154 => ((M.mapM (fun x153 => ((M.pure x153).bind fun a152 => ((M.pure over_).bind fun x158 => (((M.pure a144).bind fun x156 => ((M.pure a152).bind fun x157 => subD x156 x157)).bind fun x159 => mulD x158 x159)))) l154).bind fun l155 => M.pure (.list l155))))) l146).bind fun l147 => M.pure (.list l147))).bind fun costs_142 => 
  ((M.pure price_).bind fun x160 => ((M.pure first_).bind fun x161 => ((((M.pure needs_).bind fun x162 => asS x162).bind fun l165 => ((M.mapM (fun x164 => ((M.pure x164).bind fun a163 => ((M.pure (.int 0)).bind fun x169 => (((M.pure a163).bind fun x167 => ((M.pure limit_).bind fun x168 => subD x167 x168)).bind fun x170 => max2D x169 x170)))) l165).bind fun l166 => M.pure (.list l166))).bind fun x171 => ((M.pure costs_142).bind fun x172 => m_best_by x160 x161 x171 x172)))))
def m_follow (price_ : D) (first_ : D) (needs_ : D) : M D :=
  ((M.pure price_).bind fun x173 => ((M.pure first_).bind fun x174 => ((M.pure needs_).bind fun x175 => m_cost_of_crew x173 x174 x175)))
def m_level (price_ : D) (first_ : D) (needs_ : D) : M D :=
  ((M.pure price_).bind fun x176 => ((M.pure first_).bind fun x177 => (((((((((M.pure (.int 0)).bind fun x178 => ((M.pure []).bind fun l179 => M.pure (x178 :: l179))).bind fun x180 => M.pure (.tuple x180)).bind fun x181 => ((M.pure needs_).bind fun x182 => addD x181 x182)).bind fun x183 => max1D x183).bind fun x184 => ((M.pure []).bind fun l185 => M.pure (x184 :: l185))).bind fun x186 => M.pure (.tuple x186)).bind fun x188 => (((M.pure needs_).bind fun x187 => lenD x187).bind fun x189 => mul2D x188 x189)).bind fun x190 => m_cost_of_crew x176 x177 x190)))
def m_worth_keeping (price_ : D) (many_ : D) : M D :=
  ((M.pure price_).bind fun x191 => ((un3 x191).bind fun t192 => 
  (((M.pure many_).bind fun x193 => ((M.pure t192.2.2).bind fun x194 => mulD x193 x194)).bind fun x197 => (((M.pure t192.1).bind fun x195 => ((M.pure t192.2.1).bind fun x196 => addD x195 x196)).bind fun x198 => leD x197 x198))))
def m_idle_months (needs_ : D) (crew_ : D) : M D :=
  ((((M.pure needs_).bind fun x199 => ((M.pure crew_).bind fun x200 => zipI x199 x200)).bind fun l203 => ((M.mapM (fun x202 => ((un2 x202).bind fun a201 => ((M.pure (.int 0)).bind fun x207 => (((M.pure a201.2).bind fun x205 => ((M.pure a201.1).bind fun x206 => subD x205 x206)).bind fun x208 => max2D x207 x208)))) l203).bind fun l204 => M.pure (.list l204))).bind fun x209 => sum1D x209)
def m_ups (first_ : D) (crew_ : D) : M D :=
  ((M.pure (.int 0)).bind fun hired_210 => ((M.pure (.int 0)).bind fun gone_211 => ((M.pure first_).bind fun now_212 => 
  (((M.pure crew_).bind fun x213 => asS x213).bind fun l237 => (M.fold (fun (s214 : D × D × D) x236 => ((M.pure x236).bind fun a215 => 
    (((M.pure s214.1).bind fun x220 => (((M.pure (.int 0)).bind fun x218 => (((M.pure a215).bind fun x216 => ((M.pure s214.2.2).bind fun x217 => subD x216 x217)).bind fun x219 => max2D x218 x219)).bind fun x221 => addD x220 x221)).bind fun hired_228 => (((M.pure s214.2.1).bind fun x226 => (((M.pure (.int 0)).bind fun x224 => (((M.pure s214.2.2).bind fun x222 => ((M.pure a215).bind fun x223 => subD x222 x223)).bind fun x225 => max2D x224 x225)).bind fun x227 => addD x226 x227)).bind fun gone_229 => ((M.pure a215).bind fun now_230 => 
    (M.pure (hired_228, gone_229, now_230))))))) (hired_210, gone_211, now_212) l237).bind fun (s214 : D × D × D) =>
  (((M.pure s214.1).bind fun x233 => (((M.pure s214.2.1).bind fun x231 => ((M.pure []).bind fun l232 => M.pure (x231 :: l232))).bind fun l234 => M.pure (x233 :: l234))).bind fun x235 => M.pure (.tuple x235))))))
def m_steady_price (price_ : D) (first_ : D) (needs_ : D) : M D :=
  (((M.pure price_).bind fun x238 => ((M.pure first_).bind fun x239 => ((M.pure needs_).bind fun x240 => m_level x238 x239 x240))).bind fun x246 => ((((M.pure price_).bind fun x241 => ((M.pure first_).bind fun x242 => ((M.pure needs_).bind fun x243 => m_best_crew x241 x242 x243))).bind fun x244 => ((M.pure (.int 0)).bind fun x245 => ixD x244 x245)).bind fun x247 => subD x246 x247))
def m__law_rows (sizes_ : D) : M D :=
  (((((M.pure []).bind fun x412 => M.pure (.tuple x412)).bind fun x413 => ((M.pure []).bind fun l414 => M.pure (x413 :: l414))).bind fun x415 => M.pure (.list x415)).bind fun found_411 => 
  (((M.pure sizes_).bind fun x416 => asS x416).bind fun l442 => (M.fold (fun (s417 : D) x441 => ((M.pure x441).bind fun a418 => 
    (((M.pure []).bind fun x420 => M.pure (.list x420)).bind fun longer_419 => 
    (((M.pure s417).bind fun x421 => asS x421).bind fun l440 => (M.fold (fun (s422 : D) x439 => ((M.pure x439).bind fun a423 => 
      (((M.pure s422).bind fun x436 => ((((M.pure a418).bind fun x425 => ((asI x425).bind fun i426 => rngD 0 i426)).bind fun l429 => ((M.mapM (fun x428 => ((M.pure x428).bind fun a427 => ((M.pure a423).bind fun x434 => ((((M.pure a427).bind fun x431 => ((M.pure []).bind fun l432 => M.pure (x431 :: l432))).bind fun x433 => M.pure (.tuple x433)).bind fun x435 => addD x434 x435)))) l429).bind fun l430 => M.pure (.list l430))).bind fun x437 => addD x436 x437)).bind fun longer_424 => 
      (M.pure longer_424)))) longer_419 l440).bind fun (s422 : D) =>
    ((M.pure s422).bind fun found_438 => 
    (M.pure found_438)))))) found_411 l442).bind fun (s417 : D) =>
  (M.pure s417)))
def m__law_cost (price_ : D) (first_ : D) (crew_ : D) : M D :=
  ((M.pure (.int 0)).bind fun found_443 => ((M.pure first_).bind fun now_444 => 
  (((M.pure crew_).bind fun x445 => asS x445).bind fun l474 => (M.fold (fun (s446 : D × D) x473 => ((M.pure x473).bind fun a447 => 
    ((((M.pure a447).bind fun x448 => ((M.pure s446.2).bind fun x449 => ((gtD x448 x449).bind fun z450 => asB z450))).bind fun b463 => bif b463 then (((M.pure price_).bind fun x451 => ((M.pure (.int 0)).bind fun x452 => ixD x451 x452)).bind fun x455 => (((M.pure a447).bind fun x453 => ((M.pure s446.2).bind fun x454 => subD x453 x454)).bind fun x456 => mulD x455 x456)) else (((M.pure price_).bind fun x457 => ((M.pure (.int 1)).bind fun x458 => ixD x457 x458)).bind fun x461 => (((M.pure s446.2).bind fun x459 => ((M.pure a447).bind fun x460 => subD x459 x460)).bind fun x462 => mulD x461 x462))).bind fun x464 => ((iaddD s446.1 x464).bind fun found_465 => 
    ((((M.pure price_).bind fun x466 => ((M.pure (.int 2)).bind fun x467 => ixD x466 x467)).bind fun x468 => ((M.pure a447).bind fun x469 => mulD x468 x469)).bind fun x470 => ((iaddD found_465 x470).bind fun found_471 => 
    ((M.pure a447).bind fun now_472 => 
    (M.pure (found_471, now_472))))))))) (found_443, now_444) l474).bind fun (s446 : D × D) =>
  (M.pure s446.1))))
def m_law_b1 (needs_492 : D) (price_490 : D) (first_491 : D) (over_541 : D) (limit_542 : D) (s555 : D × D) (a556 : D) : M (D × D) :=
  (((((M.pure needs_492).bind fun x558 => lenD x558).bind fun x559 => ((asI x559).bind fun i560 => rngD 0 i560)).bind fun l563 => ((M.mapM (fun x562 => ((M.pure x562).bind fun a561 => ((M.pure (.int 0)).bind fun x571 => ((((M.pure needs_492).bind fun x565 => ((M.pure a561).bind fun x566 => ixD x565 x566)).bind fun x569 => (((M.pure a556).bind fun x567 => ((M.pure a561).bind fun x568 => ixD x567 x568)).bind fun x570 => subD x569 x570)).bind fun x572 => max2D x571 x572)))) l563).bind fun l564 => M.pure (.list l564))).bind fun lack_557 => 
      (((M.pure price_490).bind fun x574 => ((M.pure first_491).bind fun x575 => ((M.pure a556).bind fun x576 => m__law_cost x574 x575 x576))).bind fun own_573 => 
      (((((((((M.pure (.int 0)).bind fun x577 => ((M.pure []).bind fun l578 => M.pure (x577 :: l578))).bind fun x579 => M.pure (.list x579)).bind fun x580 => ((M.pure lack_557).bind fun x581 => addD x580 x581)).bind fun x582 => max1D x582).bind fun x583 => ((M.pure (.int 0)).bind fun x584 => ((eqD x583 x584).bind fun z585 => asB z585))).bind fun b598 => bif b598 then (((M.pure s555.1).bind fun x586 => ((M.pure .none).bind fun x587 => ((isD x586 x587).bind fun z588 => asB z588))).bind fun b597 => bif b597 then M.pure true else ((((M.pure own_573).bind fun x591 => (((M.pure a556).bind fun x589 => ((M.pure []).bind fun l590 => M.pure (x589 :: l590))).bind fun l592 => M.pure (x591 :: l592))).bind fun x593 => M.pure (.tuple x593)).bind fun x594 => ((M.pure s555.1).bind fun x595 => ((ltD x594 x595).bind fun z596 => asB z596)))) else M.pure false).bind fun b599 => bif b599 then 
        ((((M.pure own_573).bind fun x603 => (((M.pure a556).bind fun x601 => ((M.pure []).bind fun l602 => M.pure (x601 :: l602))).bind fun l604 => M.pure (x603 :: l604))).bind fun x605 => M.pure (.tuple x605)).bind fun best_600 => 
        (M.pure best_600)) else
        (M.pure s555.1)).bind fun (s606 : D) => 
      (((((M.pure own_573).bind fun x611 => (((M.pure over_541).bind fun x609 => (((M.pure lack_557).bind fun x608 => sum1D x608).bind fun x610 => mulD x609 x610)).bind fun x612 => addD x611 x612)).bind fun x615 => (((M.pure a556).bind fun x613 => ((M.pure []).bind fun l614 => M.pure (x613 :: l614))).bind fun l616 => M.pure (x615 :: l616))).bind fun x617 => M.pure (.tuple x617)).bind fun more_607 => 
      (((((((((M.pure (.int 0)).bind fun x618 => ((M.pure []).bind fun l619 => M.pure (x618 :: l619))).bind fun x620 => M.pure (.list x620)).bind fun x621 => ((M.pure lack_557).bind fun x622 => addD x621 x622)).bind fun x623 => max1D x623).bind fun x624 => ((M.pure limit_542).bind fun x625 => ((leD x624 x625).bind fun z626 => asB z626))).bind fun b634 => bif b634 then (((M.pure s555.2).bind fun x627 => ((M.pure .none).bind fun x628 => ((isD x627 x628).bind fun z629 => asB z629))).bind fun b633 => bif b633 then M.pure true else ((M.pure more_607).bind fun x630 => ((M.pure s555.2).bind fun x631 => ((ltD x630 x631).bind fun z632 => asB z632)))) else M.pure false).bind fun b635 => bif b635 then 
        ((M.pure more_607).bind fun cheap_636 => 
        (M.pure cheap_636)) else
        (M.pure s555.2)).bind fun (s637 : D) => 
      (M.pure (s606, s637)))))))
def m_law_c2  : M (Fl (Unit) (Unit)) :=
  (M.pure (Fl.nx ()))
def m_law_c3 (crew_502 : D) (first_491 : D) : M (Fl (Unit) (Unit)) :=
  (((((M.pure crew_502).bind fun x737 => lenD x737).bind fun x738 => ((asI x738).bind fun i739 => rngD 0 i739)).bind fun l742 => ((M.mapM (fun x741 => ((M.pure x741).bind fun a740 => ((((M.pure crew_502).bind fun x744 => ((M.pure a740).bind fun x745 => ixD x744 x745)).bind fun x756 => (((((M.pure a740).bind fun x746 => ((M.pure (.int 0)).bind fun x747 => ((gtD x746 x747).bind fun z748 => asB z748))).bind fun b753 => bif b753 then ((M.pure crew_502).bind fun x749 => (((M.pure a740).bind fun x750 => ((M.pure (.int 1)).bind fun x751 => subD x750 x751)).bind fun x752 => ixD x749 x752)) else (M.pure first_491)).bind fun x754 => ((M.pure []).bind fun l755 => M.pure (x754 :: l755))).bind fun l757 => M.pure (x756 :: l757))).bind fun x758 => M.pure (.tuple x758)))) l742).bind fun l743 => M.pure (.list l743))).bind fun steps_736 => 
    ((((((M.pure first_491).bind fun x759 => ((M.pure crew_502).bind fun x760 => m_ups x759 x760)).bind fun x761 => (((((((M.pure steps_736).bind fun x762 => asS x762).bind fun l765 => ((M.mapM (fun x764 => ((un2 x764).bind fun a763 => ((M.pure (.int 0)).bind fun x769 => (((M.pure a763.1).bind fun x767 => ((M.pure a763.2).bind fun x768 => subD x767 x768)).bind fun x770 => max2D x769 x770)))) l765).bind fun l766 => M.pure (.list l766))).bind fun x771 => sum1D x771).bind fun x784 => ((((((M.pure steps_736).bind fun x772 => asS x772).bind fun l775 => ((M.mapM (fun x774 => ((un2 x774).bind fun a773 => ((M.pure (.int 0)).bind fun x779 => (((M.pure a773.2).bind fun x777 => ((M.pure a773.1).bind fun x778 => subD x777 x778)).bind fun x780 => max2D x779 x780)))) l775).bind fun l776 => M.pure (.list l776))).bind fun x781 => sum1D x781).bind fun x782 => ((M.pure []).bind fun l783 => M.pure (x782 :: l783))).bind fun l785 => M.pure (x784 :: l785))).bind fun x786 => M.pure (.tuple x786)).bind fun x787 => m__law_same 12 x761 x787)).bind fun x788 => truthD x788).bind fun b789 => M.pure (!b789)).bind fun b790 => bif b790 then 
      ((M.pure (.bool false)).bind fun r791 => M.pure (Fl.rt r791)) else
    m_law_c2))
def m_law_c4 (needs_492 : D) (crew_502 : D) (first_491 : D) : M (Fl (Unit) (Unit)) :=
  ((((((M.pure needs_492).bind fun x713 => ((M.pure crew_502).bind fun x714 => m_idle_months x713 x714)).bind fun x715 => ((((((M.pure needs_492).bind fun x716 => lenD x716).bind fun x717 => ((asI x717).bind fun i718 => rngD 0 i718)).bind fun l721 => ((M.mapM (fun x720 => ((M.pure x720).bind fun a719 => ((M.pure (.int 0)).bind fun x729 => ((((M.pure crew_502).bind fun x723 => ((M.pure a719).bind fun x724 => ixD x723 x724)).bind fun x727 => (((M.pure needs_492).bind fun x725 => ((M.pure a719).bind fun x726 => ixD x725 x726)).bind fun x728 => subD x727 x728)).bind fun x730 => max2D x729 x730)))) l721).bind fun l722 => M.pure (.list l722))).bind fun x731 => sum1D x731).bind fun x732 => m__law_same 12 x715 x732)).bind fun x733 => truthD x733).bind fun b734 => M.pure (!b734)).bind fun b735 => bif b735 then 
      ((M.pure (.bool false)).bind fun r792 => M.pure (Fl.rt r792)) else
    (m_law_c3 crew_502 first_491))
def m_law_c5 (price_490 : D) (needs_492 : D) (crew_502 : D) (first_491 : D) : M (Fl (Unit) (Unit)) :=
  (((M.pure (.int 7)).bind fun x693 => m__law_next x693).bind fun many_692 => 
    ((((((M.pure price_490).bind fun x694 => ((M.pure many_692).bind fun x695 => m_worth_keeping x694 x695)).bind fun x696 => ((((M.pure many_692).bind fun x699 => (((M.pure price_490).bind fun x697 => ((M.pure (.int 2)).bind fun x698 => ixD x697 x698)).bind fun x700 => mulD x699 x700)).bind fun x707 => ((((M.pure price_490).bind fun x701 => ((M.pure (.int 0)).bind fun x702 => ixD x701 x702)).bind fun x705 => (((M.pure price_490).bind fun x703 => ((M.pure (.int 1)).bind fun x704 => ixD x703 x704)).bind fun x706 => addD x705 x706)).bind fun x708 => leD x707 x708)).bind fun x709 => m__law_says x696 x709)).bind fun x710 => truthD x710).bind fun b711 => M.pure (!b711)).bind fun b712 => bif b712 then 
      ((M.pure (.bool false)).bind fun r793 => M.pure (Fl.rt r793)) else
    (m_law_c4 needs_492 crew_502 first_491)))
def m_law_c6 (price_490 : D) (first_491 : D) (needs_492 : D) (s555 : D × D) (crew_502 : D) : M (Fl (Unit) (Unit)) :=
  (((M.pure price_490).bind fun x657 => ((M.pure first_491).bind fun x658 => (((((((((M.pure (.int 0)).bind fun x659 => ((M.pure []).bind fun l660 => M.pure (x659 :: l660))).bind fun x661 => M.pure (.tuple x661)).bind fun x662 => ((M.pure needs_492).bind fun x663 => addD x662 x663)).bind fun x664 => max1D x664).bind fun x665 => ((M.pure []).bind fun l666 => M.pure (x665 :: l666))).bind fun x667 => M.pure (.list x667)).bind fun x669 => (((M.pure needs_492).bind fun x668 => lenD x668).bind fun x670 => mulD x669 x670)).bind fun x671 => m__law_cost x657 x658 x671))).bind fun whole_656 => 
    (((((((M.pure price_490).bind fun x672 => ((M.pure first_491).bind fun x673 => ((M.pure needs_492).bind fun x674 => m_level x672 x673 x674))).bind fun x675 => ((M.pure whole_656).bind fun x676 => m__law_same 12 x675 x676)).bind fun x677 => truthD x677).bind fun b678 => M.pure (!b678)).bind fun b690 => bif b690 then M.pure true else (((((M.pure price_490).bind fun x679 => ((M.pure first_491).bind fun x680 => ((M.pure needs_492).bind fun x681 => m_steady_price x679 x680 x681))).bind fun x682 => (((M.pure whole_656).bind fun x685 => (((M.pure s555.1).bind fun x683 => ((M.pure (.int 0)).bind fun x684 => ixD x683 x684)).bind fun x686 => subD x685 x686)).bind fun x687 => m__law_same 12 x682 x687)).bind fun x688 => truthD x688).bind fun b689 => M.pure (!b689))).bind fun b691 => bif b691 then 
      ((M.pure (.bool false)).bind fun r794 => M.pure (Fl.rt r794)) else
    (m_law_c5 price_490 needs_492 crew_502 first_491)))
def m_law_r7 (price_490 : D) (first_491 : D) (needs_492 : D) (over_541 : D) (limit_542 : D) (crew_502 : D) (s555 : D × D) : M (Fl (Unit) (Unit)) :=
  (((((((M.pure price_490).bind fun x638 => ((M.pure first_491).bind fun x639 => ((M.pure needs_492).bind fun x640 => m_best_crew x638 x639 x640))).bind fun x641 => ((M.pure s555.1).bind fun x642 => m__law_same 12 x641 x642)).bind fun x643 => truthD x643).bind fun b644 => M.pure (!b644)).bind fun b654 => bif b654 then M.pure true else (((((M.pure price_490).bind fun x645 => ((M.pure first_491).bind fun x646 => ((M.pure needs_492).bind fun x647 => ((M.pure over_541).bind fun x648 => ((M.pure limit_542).bind fun x649 => m_with_over x645 x646 x647 x648 x649))))).bind fun x650 => ((M.pure s555.2).bind fun x651 => m__law_same 12 x650 x651)).bind fun x652 => truthD x652).bind fun b653 => M.pure (!b653))).bind fun b655 => bif b655 then 
      ((M.pure (.bool false)).bind fun r795 => M.pure (Fl.rt r795)) else
    (m_law_c6 price_490 first_491 needs_492 s555 crew_502))
def m_law_c8 (first_491 : D) (needs_492 : D) (price_490 : D) (crew_502 : D) : M (Fl (Unit) (Unit)) :=
  ((((((M.pure first_491).bind fun x533 => ((M.pure []).bind fun l534 => M.pure (x533 :: l534))).bind fun x535 => M.pure (.tuple x535)).bind fun x536 => ((M.pure needs_492).bind fun x537 => addD x536 x537)).bind fun x538 => max1D x538).bind fun top_532 => 
    (((M.pure (.int 5)).bind fun x539 => m__law_next x539).bind fun over_541 => (((M.pure (.int 3)).bind fun x540 => m__law_next x540).bind fun limit_542 => ((M.pure .none).bind fun best_543 => ((M.pure .none).bind fun cheap_544 => 
    ((((((((M.pure top_532).bind fun x545 => ((M.pure (.int 1)).bind fun x546 => addD x545 x546)).bind fun x547 => ((M.pure []).bind fun l548 => M.pure (x547 :: l548))).bind fun x549 => M.pure (.list x549)).bind fun x551 => (((M.pure needs_492).bind fun x550 => lenD x550).bind fun x552 => mulD x551 x552)).bind fun x553 => m__law_rows x553).bind fun x554 => asS x554).bind fun l797 => (M.fold (fun (s555 : D × D) x796 => ((M.pure x796).bind fun a556 => 
      (m_law_b1 needs_492 price_490 first_491 over_541 limit_542 s555 a556))) (best_543, cheap_544) l797).bind fun (s555 : D × D) =>
    (m_law_r7 price_490 first_491 needs_492 over_541 limit_542 crew_502 s555)))))))
def m_law_b9 (s477 : Unit) (a478 : D) : M (Fl (Unit) (Unit)) :=
  (((((M.pure (.int 6)).bind fun x479 => m__law_next x479).bind fun x486 => ((((M.pure (.int 6)).bind fun x480 => m__law_next x480).bind fun x484 => ((((M.pure (.int 4)).bind fun x481 => m__law_next x481).bind fun x482 => ((M.pure []).bind fun l483 => M.pure (x482 :: l483))).bind fun l485 => M.pure (x484 :: l485))).bind fun l487 => M.pure (x486 :: l487))).bind fun x488 => M.pure (.tuple x488)).bind fun price_490 => (((M.pure (.int 4)).bind fun x489 => m__law_next x489).bind fun first_491 => 
    ((((((M.pure (.int 5)).bind fun x493 => m__law_next x493).bind fun x494 => ((asI x494).bind fun i495 => rngD 0 i495)).bind fun l498 => ((M.mapM (fun x497 => ((M.pure x497).bind fun a496 => ((M.pure (.int 4)).bind fun x500 => m__law_next x500))) l498).bind fun l499 => M.pure (.list l499))).bind fun x501 => tupleD x501).bind fun needs_492 => 
    (((((M.pure needs_492).bind fun x503 => asS x503).bind fun l506 => ((M.mapM (fun x505 => ((M.pure x505).bind fun a504 => ((M.pure (.int 5)).bind fun x508 => m__law_next x508))) l506).bind fun l507 => M.pure (.list l507))).bind fun x509 => tupleD x509).bind fun crew_502 => 
    (((((((M.pure price_490).bind fun x510 => ((M.pure first_491).bind fun x511 => ((M.pure crew_502).bind fun x512 => m_cost_of_crew x510 x511 x512))).bind fun x513 => (((M.pure price_490).bind fun x514 => ((M.pure first_491).bind fun x515 => ((M.pure crew_502).bind fun x516 => m__law_cost x514 x515 x516))).bind fun x517 => m__law_same 12 x513 x517)).bind fun x518 => truthD x518).bind fun b519 => M.pure (!b519)).bind fun b530 => bif b530 then M.pure true else (((((M.pure price_490).bind fun x520 => ((M.pure first_491).bind fun x521 => ((M.pure needs_492).bind fun x522 => m_follow x520 x521 x522))).bind fun x523 => (((M.pure price_490).bind fun x524 => ((M.pure first_491).bind fun x525 => ((M.pure needs_492).bind fun x526 => m__law_cost x524 x525 x526))).bind fun x527 => m__law_same 12 x523 x527)).bind fun x528 => truthD x528).bind fun b529 => M.pure (!b529))).bind fun b531 => bif b531 then 
      ((M.pure (.bool false)).bind fun r798 => M.pure (Fl.rt r798)) else
    (m_law_c8 first_491 needs_492 price_490 crew_502))))))
def m_law_r10 (s477 : Unit) : M D :=
  (M.pure (.bool true))
def m_law : M D :=
  (((M.pure (.int 5)).bind fun x475 => ((asI x475).bind fun i476 => rngD 0 i476)).bind fun l800 => (M.foldF (fun (s477 : Unit) x799 => ((M.pure x799).bind fun a478 => 
    (m_law_b9 s477 a478))) () l800).bind (Fl.go (fun (s477 : Unit) =>
  (m_law_r10 s477)) (fun d => M.pure d)))
/-! ### and that they do -/
section
variable {P : Program} {w : World} {K : PySem.W.Frag} {mg : Str → Option Value} {base : Heap}
theorem fd_cost_of_crew (h : Has K mg "cost_of_crew" st_cost_of_crew) (hb_max : mg "max" = none) : FnD P w K mg base "cost_of_crew" 1 3 (mf_vvv m_cost_of_crew) :=
  fnd_vvv (k := 0) h sc_cost_of_crew rfl (by decide) (fun _ _ _ _ _ _ us hl => match us, hl with | [_, _, _], _ => rfl) fun price_ first_ crew_ =>
  (w_nf (Γ' := [some (.val price_), some (.val first_), some (.val crew_), none, none, none, none, none, none]) rfl (w_asg (we_var (i := 0) va_cost_of_crew_price rfl) (wg_tup3 (i := 3) (j := 4) (k := 5) sa_cost_of_crew_hire sa_cost_of_crew_fire sa_cost_of_crew_wage) fun t2 =>
  (w_nf (Γ' := [some (.val price_), some (.val first_), some (.val crew_), some (.val t2.1), some (.val t2.2.1), some (.val t2.2.2), none, none, none]) rfl (w_swp2 (oa := false) (ob := false) (i := 6) (j := 7) sa_cost_of_crew_found sa_cost_of_crew_now (by decide) lk_cost_of_crew_found lk_cost_of_crew_now we_int (we_var (i := 1) va_cost_of_crew_first rfl) rfl fun found_3 now_4 =>
  (w_nf (Γ' := [some (.val price_), some (.val first_), some (.val crew_), some (.val t2.1), some (.val t2.2.1), some (.val t2.2.2), some (.val found_3), some (.val now_4), none]) rfl (w_for (σt := D × D) (fun (s6 : D × D) => [some (.val price_), some (.val first_), some (.val crew_), some (.val t2.1), some (.val t2.2.1), some (.val t2.2.2), some (.val s6.1), some (.val s6.2), none]) (found_3, now_4) [true, true, true, true, true, true, true, true, false] (wi_seq (we_var (i := 2) va_cost_of_crew_crew rfl)) (wg_name (i := 8) sa_cost_of_crew_hands) rfl rfl
    (fun s6 a7 =>
    (w_nf (Γ' := [some (.val price_), some (.val first_), some (.val crew_), some (.val t2.1), some (.val t2.2.1), some (.val t2.2.2), some (.val s6.1), some (.val s6.2), some (.val a7)]) rfl (w_aug (i := 6) sa_cost_of_crew_found rfl iadd_ok (we_op add_ok (we_op add_ok (we_op mul_ok (we_var (i := 3) va_cost_of_crew_hire rfl).wb (we_c2B (blt_max lk_cost_of_crew_max hb_max) max2_ok we_int.wb (we_op sub_ok (we_var (i := 8) va_cost_of_crew_hands rfl).wb (we_var (i := 7) va_cost_of_crew_now rfl).wb).wb).wb).wb (we_op mul_ok (we_var (i := 4) va_cost_of_crew_fire rfl).wb (we_c2B (blt_max lk_cost_of_crew_max hb_max) max2_ok we_int.wb (we_op sub_ok (we_var (i := 7) va_cost_of_crew_now rfl).wb (we_var (i := 8) va_cost_of_crew_hands rfl).wb).wb).wb).wb).wb (we_op mul_ok (we_var (i := 5) va_cost_of_crew_wage rfl).wb (we_var (i := 8) va_cost_of_crew_hands rfl).wb).wb) fun found_27 =>
    (w_nf (Γ' := [some (.val price_), some (.val first_), some (.val crew_), some (.val t2.1), some (.val t2.2.1), some (.val t2.2.2), some (.val found_27), some (.val s6.2), some (.val a7)]) rfl (w_set (i := 7) sa_cost_of_crew_now (we_var (i := 8) va_cost_of_crew_hands rfl) fun now_28 =>
    (w_nf (Γ' := [some (.val price_), some (.val first_), some (.val crew_), some (.val t2.1), some (.val t2.2.1), some (.val t2.2.2), some (.val found_27), some (.val now_28), some (.val a7)]) rfl (w_nil [true, true, true, true, true, true, true, true, false] (r := (found_27, now_28)) rfl rfl)))))))
    (fun s6 =>
  (w_ret (we_var (i := 6) va_cost_of_crew_found rfl)))))))))
theorem fd_best_by (h : Has K mg "best_by" st_best_by) (hb_len : mg "len" = none) (hb_max : mg "max" = none) (hb_min : mg "min" = none) (hb_range : mg "range" = none) (hb_zip : mg "zip" = none) (d_cost_of_crew : FnD P w K mg base "cost_of_crew" 1 3 (mf_vvv m_cost_of_crew)) : FnD P w K mg base "best_by" 2 4 (mf_vvvv m_best_by) :=
  fnd_vvvv (k := 1) h sc_best_by rfl (by decide) (fun _ _ _ _ _ _ us hl => match us, hl with | [_, _, _, _], _ => rfl) fun price_ first_ lows_ costs_ =>
  (w_nf (Γ' := [some (.val price_), some (.val first_), some (.val lows_), some (.val costs_), none, none, none, none, none, none, none, none, none, none, none]) rfl (w_set (i := 5) sa_best_by_top (we_c1B (blt_max lk_best_by_max hb_max) max1_ok (we_op add_ok (we_lst (wa_cons (we_var (i := 1) va_best_by_first rfl) wa_nil) (Nat.le_of_ble_eq_true rfl)).wb (we_lc (own := [("row", 4)]) (wi_seq (we_var (i := 3) va_best_by_costs rfl)) (by dsimp only [Sg.blk]; decide +kernel) (wg_name (i := 4) (saL rfl (rel_loc rfl))) (by decide) (fun a36 => (we_nf (Γ' := [some (.val price_), some (.val first_), some (.val lows_), some (.val costs_), some (.val a36), none, none, none, none, none, none, none, none, none, none]) rfl (we_op sub_ok (we_c1B (blt_len (rel_glob rfl) hb_len) len_ok (we_var (i := 4) (vaL rfl (rel_loc rfl) nm_row) rfl).wb).wb we_int.wb)))).wb).wb) fun top_31 =>
  (w_nf (Γ' := [some (.val price_), some (.val first_), some (.val lows_), some (.val costs_), none, some (.val top_31), none, none, none, none, none, none, none, none, none]) rfl (w_set (i := 6) sa_best_by_best (we_disp [(_, _)] (wp_cons (we_var (i := 1) va_best_by_first rfl) (we_tup (wa_cons we_int (wa_cons (we_tup wa_nil (Nat.le_of_ble_eq_true rfl)) wa_nil)) (Nat.le_of_ble_eq_true rfl)) wp_nil)) fun best_46 =>
  (w_nf (Γ' := [some (.val price_), some (.val first_), some (.val lows_), some (.val costs_), none, some (.val top_31), some (.val best_46), none, none, none, none, none, none, none, none]) rfl (w_for (σt := D) (fun (s59 : D) => [some (.val price_), some (.val first_), some (.val lows_), some (.val costs_), none, some (.val top_31), some (.val s59), none, none, none, none, none, none, none, none]) best_46 [true, true, true, true, false, true, true, false, false, false, false, false, false, false, false] (wi_zipX (blt_zip lk_best_by_zip hb_zip) (we_var (i := 2) va_best_by_lows rfl) (we_var (i := 3) va_best_by_costs rfl)) (wg_tup2 (i := 7) (j := 4) sa_best_by_low sa_best_by_row) rfl rfl
    (fun s59 a60 =>
    (w_nf (Γ' := [some (.val price_), some (.val first_), some (.val lows_), some (.val costs_), some (.val a60.2), some (.val top_31), some (.val s59), some (.val a60.1), none, none, none, none, none, none, none]) rfl (w_setF (i := 8) sa_best_by_later wf_dict0 fun later_61 =>
    (w_nf (Γ' := [some (.val price_), some (.val first_), some (.val lows_), some (.val costs_), some (.val a60.2), some (.val top_31), some (.val s59), some (.val a60.1), some (.own later_61), none, none, none, none, none, none]) rfl (w_for (σt := D) (fun (s68 : D) => [some (.val price_), some (.val first_), some (.val lows_), some (.val costs_), some (.val a60.2), some (.val top_31), some (.val s59), some (.val a60.1), some (.own s68), none, none, none, none, none, none]) later_61 [true, true, true, true, true, true, true, true, true, false, false, false, false, false, false] (wi_range2 (blt_range lk_best_by_range hb_range) (we_var (i := 7) va_best_by_low rfl).wb (we_op add_ok (we_var (i := 5) va_best_by_top rfl).wb we_int.wb).wb) (wg_name (i := 9) sa_best_by_hands) rfl rfl
      (fun s68 a69 =>
      (w_nf (Γ' := [some (.val price_), some (.val first_), some (.val lows_), some (.val costs_), some (.val a60.2), some (.val top_31), some (.val s59), some (.val a60.1), some (.own s68), some (.val a69), none, none, none, none, none]) rfl (w_set (i := 10) sa_best_by_own (we_ife (wt_cmp lt_ok (we_var (i := 9) va_best_by_hands rfl).wb (we_c1B (blt_len lk_best_by_len hb_len) len_ok (we_var (i := 4) va_best_by_row rfl).wb).wb rfl) (we_ix ix_ok (we_var (i := 4) va_best_by_row rfl).wb (we_var (i := 9) va_best_by_hands rfl).wb fun _ _ => rfl) we_int) fun own_70 =>
      (w_nf (Γ' := [some (.val price_), some (.val first_), some (.val lows_), some (.val costs_), some (.val a60.2), some (.val top_31), some (.val s59), some (.val a60.1), some (.own s68), some (.val a69), some (.val own_70), none, none, none, none]) rfl (w_setF (i := 11) sa_best_by_rows wf_nil fun rows_78 =>
      (w_nf (Γ' := [some (.val price_), some (.val first_), some (.val lows_), some (.val costs_), some (.val a60.2), some (.val top_31), some (.val s59), some (.val a60.1), some (.own s68), some (.val a69), some (.val own_70), some (.own rows_78), none, none, none]) rfl (w_forK (i := 6) (σt := D) (fun (s79 : D) => [some (.val price_), some (.val first_), some (.val lows_), some (.val costs_), some (.val a60.2), some (.val top_31), some (.val s59), some (.val a60.1), some (.own s68), some (.val a69), some (.val own_70), some (.own s79), none, none, none]) rows_78 [true, true, true, true, true, true, true, true, true, true, true, true, false, false, false] va_best_by_best rfl (wg_name (i := 12) sa_best_by_now) rfl rfl
        (fun s79 a80 =>
        (w_nf (Γ' := [some (.val price_), some (.val first_), some (.val lows_), some (.val costs_), some (.val a60.2), some (.val top_31), some (.val s59), some (.val a60.1), some (.own s68), some (.val a69), some (.val own_70), some (.own s79), some (.val a80), none, none]) rfl (w_asg (we_ix ix_ok (we_var (i := 6) va_best_by_best rfl).wb (we_var (i := 12) va_best_by_now rfl).wb fun _ _ => rfl) (wg_tup2 (i := 13) (j := 14) sa_best_by_cost sa_best_by_crew) fun t84 =>
        (w_nf (Γ' := [some (.val price_), some (.val first_), some (.val lows_), some (.val costs_), some (.val a60.2), some (.val top_31), some (.val s59), some (.val a60.1), some (.own s68), some (.val a69), some (.val own_70), some (.own s79), some (.val a80), some (.val t84.1), some (.val t84.2)]) rfl (w_append (i := 11) va_best_by_rows rfl (we_tup (wa_cons (we_op add_ok (we_op add_ok (we_var (i := 13) va_best_by_cost rfl).wb (we_call_vvv d_cost_of_crew lk_best_by_cost_of_crew (Nat.le_of_ble_eq_true rfl) (we_var (i := 0) va_best_by_price rfl) (we_var (i := 12) va_best_by_now rfl) (we_tup (wa_cons (we_var (i := 9) va_best_by_hands rfl) wa_nil) (Nat.le_of_ble_eq_true rfl))).wb).wb (we_var (i := 10) va_best_by_own rfl).wb) (wa_cons (we_op add_ok (we_var (i := 14) va_best_by_crew rfl).wb (we_tup (wa_cons (we_var (i := 9) va_best_by_hands rfl) wa_nil) (Nat.le_of_ble_eq_true rfl)).wb) wa_nil)) (Nat.le_of_ble_eq_true rfl)) (fun rows_106 =>
        (w_nf (Γ' := [some (.val price_), some (.val first_), some (.val lows_), some (.val costs_), some (.val a60.2), some (.val top_31), some (.val s59), some (.val a60.1), some (.own s68), some (.val a69), some (.val own_70), some (.own rows_106), some (.val a80), some (.val t84.1), some (.val t84.2)]) rfl (w_nil [true, true, true, true, true, true, true, true, true, true, true, true, false, false, false] (r := rows_106) rfl rfl))) ⟨fun _ => rfl, fun _ => rfl, rfl, fun _ => rfl, fun _ => rfl, fun _ => rfl⟩)))))
        (fun s79 =>
      (w_dput (i := 8) va_best_by_later rfl (we_c1B (blt_min lk_best_by_min hb_min) min1_ok (wb_own (i := 11) va_best_by_rows rfl)) (we_var (i := 9) va_best_by_hands rfl) fun later_110 =>
      (w_nf (Γ' := [some (.val price_), some (.val first_), some (.val lows_), some (.val costs_), some (.val a60.2), some (.val top_31), some (.val s59), some (.val a60.1), some (.own later_110), some (.val a69), some (.val own_70), some (.own s79), none, none, none]) rfl (w_nil [true, true, true, true, true, true, true, true, true, false, false, false, false, false, false] (r := later_110) rfl rfl)))))))))))
      (fun s68 =>
    (w_frz 8 rfl (w_set (i := 6) sa_best_by_best (we_var (i := 8) va_best_by_later rfl) fun best_114 =>
    (w_nf (Γ' := [some (.val price_), some (.val first_), some (.val lows_), some (.val costs_), some (.val a60.2), some (.val top_31), some (.val best_114), some (.val a60.1), some (.val s68), none, none, none, none, none, none]) rfl (w_nil [true, true, true, true, false, true, true, false, false, false, false, false, false, false, false] (r := best_114) rfl rfl))))))))))
    (fun s59 =>
  (w_ret (we_c1B (blt_min lk_best_by_min hb_min) min1_ok (we_lcK (i := 6) (own := [("hands", 9)]) va_best_by_best rfl (by dsimp only [Sg.blk]; decide +kernel) (wg_name (i := 9) (saL rfl (rel_loc rfl))) (by decide) (fun a117 => (we_nf (Γ' := [some (.val price_), some (.val first_), some (.val lows_), some (.val costs_), none, some (.val top_31), some (.val s59), none, none, some (.val a117), none, none, none, none, none]) rfl (we_ix ix_ok (we_var (i := 6) (vaC rfl (rel_free rfl rfl lk_best_by_best) nm_best) rfl).wb (we_var (i := 9) (vaL rfl (rel_loc rfl) nm_hands) rfl).wb fun _ _ => rfl)))).wb)))))))))
theorem fd_best_crew (h : Has K mg "best_crew" st_best_crew) (d_best_by : FnD P w K mg base "best_by" 2 4 (mf_vvvv m_best_by)) : FnD P w K mg base "best_crew" 3 3 (mf_vvv m_best_crew) :=
  fnd_vvv (k := 2) h sc_best_crew rfl (by decide) (fun _ _ _ _ _ _ us hl => match us, hl with | [_, _, _], _ => rfl) fun price_ first_ needs_ =>
  (w_nf (Γ' := [some (.val price_), some (.val first_), some (.val needs_), none]) rfl (w_ret (we_call_vvvv d_best_by lk_best_crew_best_by (Nat.le_of_ble_eq_true rfl) (we_var (i := 0) va_best_crew_price rfl) (we_var (i := 1) va_best_crew_first rfl) (we_var (i := 2) va_best_crew_needs rfl) (we_lc (own := [("need", 3)]) (wi_seq (we_var (i := 2) va_best_crew_needs rfl)) (by dsimp only [Sg.blk]; decide +kernel) (wg_name (i := 3) (saL rfl (rel_loc rfl))) (by decide) (fun a130 => (we_nf (Γ' := [some (.val price_), some (.val first_), some (.val needs_), some (.val a130)]) rfl (we_op mul_ok (we_lst (wa_cons we_int wa_nil) (Nat.le_of_ble_eq_true rfl)).wb (we_op add_ok (we_var (i := 3) (vaL rfl (rel_loc rfl) nm_need) rfl).wb we_int.wb).wb)))))))
theorem fd_with_over (h : Has K mg "with_over" st_with_over) (hb_max : mg "max" = none) (hb_range : mg "range" = none) (d_best_by : FnD P w K mg base "best_by" 2 4 (mf_vvvv m_best_by)) : FnD P w K mg base "with_over" 3 5 (mf_vvvvv m_with_over) :=
  fnd_vvvvv (k := 2) h sc_with_over rfl (by decide) (fun _ _ _ _ _ _ us hl => match us, hl with | [_, _, _, _, _], _ => rfl) fun price_ first_ needs_ over_ limit_ =>
  (w_nf (Γ' := [some (.val price_), some (.val first_), some (.val needs_), some (.val over_), some (.val limit_), none, none, none]) rfl (w_setLc (i := 5) sa_with_over_costs ⟨rfl, lk_with_over_costs, by decide +kernel⟩ (own := [("need", 6)]) (wi_seq (we_var (i := 2) va_with_over_needs rfl)) (by dsimp only [Sg.blk]; decide +kernel) (wg_name (i := 6) (saC rfl (rel_cell rfl) rfl)) (by decide) (fun a144 => (we_nf (Γ' := [some (.val price_), some (.val first_), some (.val needs_), some (.val over_), some (.val limit_), none, some (.val a144), none]) rfl (we_lc (own := [("hands", 7)]) (wi_range1 (blt_range (rel_glob rfl) hb_range) (we_op add_ok (we_var (i := 6) (vaC rfl (rel_cell rfl) nm_need) rfl).wb we_int.wb).wb) (by dsimp only [Sg.blk]; decide +kernel) (wg_name (i := 7) (saL rfl (rel_loc rfl))) (by decide) (fun a152 => (we_nf (Γ' := [some (.val price_), some (.val first_), some (.val needs_), some (.val over_), some (.val limit_), none, some (.val a144), some (.val a152)]) rfl (we_op mul_ok (we_var (i := 3) (vaC rfl (rel_free rfl rfl (rel_free rfl rfl lk_with_over_over)) nm_over) rfl).wb (we_op sub_ok (we_var (i := 6) (vaC rfl (rel_free rfl rfl (rel_cell rfl)) nm_need) rfl).wb (we_var (i := 7) (vaL rfl (rel_loc rfl) nm_hands) rfl).wb).wb)))))) fun costs_142 =>
  (w_nf (Γ' := [some (.val price_), some (.val first_), some (.val needs_), some (.val over_), some (.val limit_), some (.val costs_142), none, none]) rfl (w_ret (we_call_vvvv d_best_by lk_with_over_best_by (Nat.le_of_ble_eq_true rfl) (we_var (i := 0) va_with_over_price rfl) (we_var (i := 1) va_with_over_first rfl) (we_lc (own := [("need", 6)]) (wi_seq (we_var (i := 2) va_with_over_needs rfl)) (by dsimp only [Sg.blk]; decide +kernel) (wg_name (i := 6) (saL rfl (rel_loc rfl))) (by decide) (fun a163 => (we_nf (Γ' := [some (.val price_), some (.val first_), some (.val needs_), some (.val over_), some (.val limit_), some (.val costs_142), some (.val a163), none]) rfl (we_c2B (blt_max (rel_glob rfl) hb_max) max2_ok we_int.wb (we_op sub_ok (we_var (i := 6) (vaL rfl (rel_loc rfl) nm_need) rfl).wb (we_var (i := 4) (vaC rfl (rel_free rfl rfl lk_with_over_limit) nm_limit) rfl).wb).wb)))) (we_var (i := 5) va_with_over_costs rfl))))))
theorem fd_follow (h : Has K mg "follow" st_follow) (d_cost_of_crew : FnD P w K mg base "cost_of_crew" 1 3 (mf_vvv m_cost_of_crew)) : FnD P w K mg base "follow" 2 3 (mf_vvv m_follow) :=
  fnd_vvv (k := 1) h sc_follow rfl (by decide) (fun _ _ _ _ _ _ us hl => match us, hl with | [_, _, _], _ => rfl) fun price_ first_ needs_ =>
  (w_nf (Γ' := [some (.val price_), some (.val first_), some (.val needs_)]) rfl (w_ret (we_call_vvv d_cost_of_crew lk_follow_cost_of_crew (Nat.le_of_ble_eq_true rfl) (we_var (i := 0) va_follow_price rfl) (we_var (i := 1) va_follow_first rfl) (we_var (i := 2) va_follow_needs rfl))))
theorem fd_level (h : Has K mg "level" st_level) (hb_len : mg "len" = none) (hb_max : mg "max" = none) (d_cost_of_crew : FnD P w K mg base "cost_of_crew" 1 3 (mf_vvv m_cost_of_crew)) : FnD P w K mg base "level" 2 3 (mf_vvv m_level) :=
  fnd_vvv (k := 1) h sc_level rfl (by decide) (fun _ _ _ _ _ _ us hl => match us, hl with | [_, _, _], _ => rfl) fun price_ first_ needs_ =>
  (w_nf (Γ' := [some (.val price_), some (.val first_), some (.val needs_)]) rfl (w_ret (we_call_vvv d_cost_of_crew lk_level_cost_of_crew (Nat.le_of_ble_eq_true rfl) (we_var (i := 0) va_level_price rfl) (we_var (i := 1) va_level_first rfl) (we_op mul2_ok (we_tup (wa_cons (we_c1B (blt_max lk_level_max hb_max) max1_ok (we_op add_ok (we_tup (wa_cons we_int wa_nil) (Nat.le_of_ble_eq_true rfl)).wb (we_var (i := 2) va_level_needs rfl).wb).wb) wa_nil) (Nat.le_of_ble_eq_true rfl)).wb (we_c1B (blt_len lk_level_len hb_len) len_ok (we_var (i := 2) va_level_needs rfl).wb).wb))))
theorem fd_worth_keeping (h : Has K mg "worth_keeping" st_worth_keeping) : FnD P w K mg base "worth_keeping" 1 2 (mf_vv m_worth_keeping) :=
  fnd_vv (k := 0) h sc_worth_keeping rfl (by decide) (fun _ _ _ _ _ _ us hl => match us, hl with | [_, _], _ => rfl) fun price_ many_ =>
  (w_nf (Γ' := [some (.val price_), some (.val many_), none, none, none]) rfl (w_asg (we_var (i := 0) va_worth_keeping_price rfl) (wg_tup3 (i := 2) (j := 3) (k := 4) sa_worth_keeping_hire sa_worth_keeping_fire sa_worth_keeping_wage) fun t192 =>
  (w_nf (Γ' := [some (.val price_), some (.val many_), some (.val t192.1), some (.val t192.2.1), some (.val t192.2.2)]) rfl (w_ret (we_cmp le_ok (we_op mul_ok (we_var (i := 1) va_worth_keeping_many rfl).wb (we_var (i := 4) va_worth_keeping_wage rfl).wb).wb (we_op add_ok (we_var (i := 2) va_worth_keeping_hire rfl).wb (we_var (i := 3) va_worth_keeping_fire rfl).wb).wb rfl)))))
theorem fd_idle_months (h : Has K mg "idle_months" st_idle_months) (hb_max : mg "max" = none) (hb_sum : mg "sum" = none) (hb_zip : mg "zip" = none) : FnD P w K mg base "idle_months" 1 2 (mf_vv m_idle_months) :=
  fnd_vv (k := 0) h sc_idle_months rfl (by decide) (fun _ _ _ _ _ _ us hl => match us, hl with | [_, _], _ => rfl) fun needs_ crew_ =>
  (w_nf (Γ' := [some (.val needs_), some (.val crew_), none, none]) rfl (w_ret (we_c1B (blt_sum lk_idle_months_sum hb_sum) sum1_ok (we_lc (own := [("need", 2), ("hands", 3)]) (wi_zip (blt_zip lk_idle_months_zip hb_zip) (we_var (i := 0) va_idle_months_needs rfl) (we_var (i := 1) va_idle_months_crew rfl)) (by dsimp only [Sg.blk]; decide +kernel) (wg_tup2 (i := 2) (j := 3) (saL rfl (rel_loc rfl)) (saL rfl (rel_loc rfl))) (by decide) (fun a201 => (we_nf (Γ' := [some (.val needs_), some (.val crew_), some (.val a201.1), some (.val a201.2)]) rfl (we_c2B (blt_max (rel_glob rfl) hb_max) max2_ok we_int.wb (we_op sub_ok (we_var (i := 3) (vaL rfl (rel_loc rfl) nm_hands) rfl).wb (we_var (i := 2) (vaL rfl (rel_loc rfl) nm_need) rfl).wb).wb)))).wb)))
theorem fd_ups (h : Has K mg "ups" st_ups) (hb_max : mg "max" = none) : FnD P w K mg base "ups" 1 2 (mf_vv m_ups) :=
  fnd_vv (k := 0) h sc_ups rfl (by decide) (fun _ _ _ _ _ _ us hl => match us, hl with | [_, _], _ => rfl) fun first_ crew_ =>
  (w_nf (Γ' := [some (.val first_), some (.val crew_), none, none, none, none]) rfl (w_swp3 (oa := false) (ob := false) (oc := false) (i := 2) (j := 3) (l := 4) sa_ups_hired sa_ups_gone sa_ups_now (by decide) (by decide) (by decide) lk_ups_hired lk_ups_gone lk_ups_now we_int we_int (we_var (i := 0) va_ups_first rfl) rfl fun hired_210 gone_211 now_212 =>
  (w_nf (Γ' := [some (.val first_), some (.val crew_), some (.val hired_210), some (.val gone_211), some (.val now_212), none]) rfl (w_for (σt := D × D × D) (fun (s214 : D × D × D) => [some (.val first_), some (.val crew_), some (.val s214.1), some (.val s214.2.1), some (.val s214.2.2), none]) (hired_210, gone_211, now_212) [true, true, true, true, true, false] (wi_seq (we_var (i := 1) va_ups_crew rfl)) (wg_name (i := 5) sa_ups_hands) rfl rfl
    (fun s214 a215 =>
    (w_nf (Γ' := [some (.val first_), some (.val crew_), some (.val s214.1), some (.val s214.2.1), some (.val s214.2.2), some (.val a215)]) rfl (w_swp3 (oa := false) (ob := false) (oc := false) (i := 2) (j := 3) (l := 4) sa_ups_hired sa_ups_gone sa_ups_now (by decide) (by decide) (by decide) lk_ups_hired lk_ups_gone lk_ups_now (we_op add_ok (we_var (i := 2) va_ups_hired rfl).wb (we_c2B (blt_max lk_ups_max hb_max) max2_ok we_int.wb (we_op sub_ok (we_var (i := 5) va_ups_hands rfl).wb (we_var (i := 4) va_ups_now rfl).wb).wb).wb) (we_op add_ok (we_var (i := 3) va_ups_gone rfl).wb (we_c2B (blt_max lk_ups_max hb_max) max2_ok we_int.wb (we_op sub_ok (we_var (i := 4) va_ups_now rfl).wb (we_var (i := 5) va_ups_hands rfl).wb).wb).wb) (we_var (i := 5) va_ups_hands rfl) rfl fun hired_228 gone_229 now_230 =>
    (w_nf (Γ' := [some (.val first_), some (.val crew_), some (.val hired_228), some (.val gone_229), some (.val now_230), some (.val a215)]) rfl (w_nil [true, true, true, true, true, false] (r := (hired_228, gone_229, now_230)) rfl rfl)))))
    (fun s214 =>
  (w_ret (we_tup (wa_cons (we_var (i := 2) va_ups_hired rfl) (wa_cons (we_var (i := 3) va_ups_gone rfl) wa_nil)) (Nat.le_of_ble_eq_true rfl))))))))
theorem fd_steady_price (h : Has K mg "steady_price" st_steady_price) (d_level : FnD P w K mg base "level" 2 3 (mf_vvv m_level)) (d_best_crew : FnD P w K mg base "best_crew" 3 3 (mf_vvv m_best_crew)) : FnD P w K mg base "steady_price" 4 3 (mf_vvv m_steady_price) :=
  fnd_vvv (k := 3) h sc_steady_price rfl (by decide) (fun _ _ _ _ _ _ us hl => match us, hl with | [_, _, _], _ => rfl) fun price_ first_ needs_ =>
  (w_nf (Γ' := [some (.val price_), some (.val first_), some (.val needs_)]) rfl (w_ret (we_op sub_ok (we_call_vvv d_level lk_steady_price_level (Nat.le_of_ble_eq_true rfl) (we_var (i := 0) va_steady_price_price rfl) (we_var (i := 1) va_steady_price_first rfl) (we_var (i := 2) va_steady_price_needs rfl)).wb (we_ix ix_ok (we_call_vvv d_best_crew lk_steady_price_best_crew (Nat.le_of_ble_eq_true rfl) (we_var (i := 0) va_steady_price_price rfl) (we_var (i := 1) va_steady_price_first rfl) (we_var (i := 2) va_steady_price_needs rfl)).wb we_int.wb fun _ _ => rfl).wb)))
theorem fd__law_draws (h : Has K mg "_law_draws" st__law_draws) (hb_abs : mg "abs" = none) (hb_int : mg "int" = none) (hb_len : mg "len" = none) (hb_range : mg "range" = none) : FnD P w K mg base "_law_draws" 1 2 (mf_sv m__law_draws) :=
  fnd_sv (k := 0) h sc__law_draws rfl (by decide) (fun _ _ _ _ _ _ us hl => match us, hl with | [_, _], _ => rfl) fun ns many_ =>
  (w_nf (Γ' := [some (.scr ns), some (.val many_), none, none, none, none, none, none]) rfl (w_setF (i := 2) sa__law_draws_draws wf_nil fun draws_248 =>
  (w_nf (Γ' := [some (.scr ns), some (.val many_), some (.own draws_248), none, none, none, none, none]) rfl (w_set (i := 3) sa__law_draws_mixed we_int fun mixed_249 =>
  (w_nf (Γ' := [some (.scr ns), some (.val many_), some (.own draws_248), some (.val mixed_249), none, none, none, none]) rfl (w_for (σt := D × D) (fun (s252 : D × D) => [some (.scr ns), some (.val many_), some (.own s252.1), some (.val s252.2), none, none, none, none]) (draws_248, mixed_249) [true, true, true, true, false, false, false, false] (wi_range1 (blt_range lk__law_draws_range hb_range) (we_lenScr (i := 0) va__law_draws_script rfl (blt_len lk__law_draws_len hb_len)).wb) (wg_name (i := 4) sa__law_draws_k) rfl rfl
    (fun s252 a253 =>
    (w_nf (Γ' := [some (.scr ns), some (.val many_), some (.own s252.1), some (.val s252.2), some (.val a253), none, none, none]) rfl (w_set (i := 5) sa__law_draws_cell (we_c1B (blt_abs lk__law_draws_abs hb_abs) abs_ok (we_c1T (blt_int lk__law_draws_int hb_int) int_ok (we_ixScr (i := 0) va__law_draws_script rfl (we_var (i := 4) va__law_draws_k rfl).wb fun _ _ => rfl).wb).wb) fun cell_254 =>
    (w_nf (Γ' := [some (.scr ns), some (.val many_), some (.own s252.1), some (.val s252.2), some (.val a253), some (.val cell_254), none, none]) rfl (w_set (i := 3) sa__law_draws_mixed (we_op mod_ok (we_c1T (blt_int lk__law_draws_int hb_int) int_ok (we_op add_ok (we_op add_ok (we_op mul_ok (we_var (i := 3) va__law_draws_mixed rfl).wb we_int.wb).wb (we_op mod_ok (we_var (i := 5) va__law_draws_cell rfl).wb we_int.wb).wb).wb (we_var (i := 4) va__law_draws_k rfl).wb).wb).wb we_int.wb) fun mixed_260 =>
    (w_nf (Γ' := [some (.scr ns), some (.val many_), some (.own s252.1), some (.val mixed_260), some (.val a253), some (.val cell_254), none, none]) rfl (w_set (i := 6) sa__law_draws_rest we_int fun rest_272 =>
    (w_nf (Γ' := [some (.scr ns), some (.val many_), some (.own s252.1), some (.val mixed_260), some (.val a253), some (.val cell_254), some (.val rest_272), none]) rfl (w_ifJ (g := (fun (s296 : D × D) => [some (.scr ns), some (.val many_), some (.own s296.1), some (.val mixed_260), some (.val a253), some (.val cell_254), some (.val s296.2), none])) (wt_cmp ge_ok (we_var (i := 5) va__law_draws_cell rfl).wb (we_op pow_ok we_int.wb we_int.wb).wb rfl)
      (w_set (i := 6) sa__law_draws_rest (we_var (i := 5) va__law_draws_cell rfl) fun rest_279 =>
      (w_nf (Γ' := [some (.scr ns), some (.val many_), some (.own s252.1), some (.val mixed_260), some (.val a253), some (.val cell_254), some (.val rest_279), none]) rfl (w_nil [true, true, true, true, true, true, true, false] (r := (s252.1, rest_279)) rfl rfl)))
      (w_append (i := 2) va__law_draws_draws rfl (we_op mod_ok (we_c1T (blt_int lk__law_draws_int hb_int) int_ok (we_var (i := 5) va__law_draws_cell rfl).wb).wb we_int.wb) (fun draws_284 =>
      (w_nf (Γ' := [some (.scr ns), some (.val many_), some (.own draws_284), some (.val mixed_260), some (.val a253), some (.val cell_254), some (.val rest_272), none]) rfl (w_append (i := 2) va__law_draws_draws rfl (we_op mod_ok (we_op mod_ok (we_c1T (blt_int lk__law_draws_int hb_int) int_ok (we_op add_ok (we_op mul_ok (we_var (i := 3) va__law_draws_mixed rfl).wb we_int.wb).wb we_int.wb).wb).wb we_int.wb).wb we_int.wb) (fun draws_295 =>
      (w_nf (Γ' := [some (.scr ns), some (.val many_), some (.own draws_295), some (.val mixed_260), some (.val a253), some (.val cell_254), some (.val rest_272), none]) rfl (w_nil [true, true, true, true, true, true, true, false] (r := (draws_295, rest_272)) rfl rfl))) ⟨fun _ => rfl, fun _ => rfl, rfl, fun _ => rfl, fun _ => rfl, fun _ => rfl⟩))) ⟨fun _ => rfl, fun _ => rfl, rfl, fun _ => rfl, fun _ => rfl, fun _ => rfl⟩)
      (fun s296 =>
    (w_for (σt := D × D) (fun (s299 : D × D) => [some (.scr ns), some (.val many_), some (.own s299.1), some (.val mixed_260), some (.val a253), some (.val cell_254), some (.val s299.2), none]) (s296.1, s296.2) [true, true, true, true, true, true, true, false] (wi_range1 (blt_range lk__law_draws_range hb_range) we_int.wb) (wg_name (i := 7) sa__law_draws_turn) rfl rfl
      (fun s299 a300 =>
      (w_nf (Γ' := [some (.scr ns), some (.val many_), some (.own s299.1), some (.val mixed_260), some (.val a253), some (.val cell_254), some (.val s299.2), some (.val a300)]) rfl (w_ifJ (g := (fun (s313 : D × D) => [some (.scr ns), some (.val many_), some (.own s313.1), some (.val mixed_260), some (.val a253), some (.val cell_254), some (.val s313.2), some (.val a300)])) (wt_cmp gt_ok (we_var (i := 6) va__law_draws_rest rfl).wb we_int.wb rfl)
        (w_append (i := 2) va__law_draws_draws rfl (we_op mod_ok (we_c1T (blt_int lk__law_draws_int hb_int) int_ok (we_var (i := 6) va__law_draws_rest rfl).wb).wb we_int.wb) (fun draws_309 =>
        (w_nf (Γ' := [some (.scr ns), some (.val many_), some (.own draws_309), some (.val mixed_260), some (.val a253), some (.val cell_254), some (.val s299.2), some (.val a300)]) rfl (w_set (i := 6) sa__law_draws_rest (we_op fdiv_ok (we_var (i := 6) va__law_draws_rest rfl).wb we_int.wb) fun rest_310 =>
        (w_nf (Γ' := [some (.scr ns), some (.val many_), some (.own draws_309), some (.val mixed_260), some (.val a253), some (.val cell_254), some (.val rest_310), some (.val a300)]) rfl (w_nil [true, true, true, true, true, true, true, true] (r := (draws_309, rest_310)) rfl rfl))))) ⟨fun _ => rfl, fun _ => rfl, rfl, fun _ => rfl, fun _ => rfl, fun _ => rfl⟩)
        (w_nil [true, true, true, true, true, true, true, true] (r := (s299.1, s299.2)) rfl rfl)
        (fun s313 =>
      (w_nil [true, true, true, true, true, true, true, false] (r := (s313.1, s313.2)) rfl rfl)))))
      (fun s299 =>
    (w_nil [true, true, true, true, false, false, false, false] (r := (s299.1, mixed_260)) rfl rfl)))))))))))))
    (fun s252 =>
  (w_for (σt := D × D) (fun (s318 : D × D) => [some (.scr ns), some (.val many_), some (.own s318.1), some (.val s318.2), none, none, none, none]) (s252.1, s252.2) [true, true, true, true, false, false, false, false] (wi_range1 (blt_range lk__law_draws_range hb_range) (we_var (i := 1) va__law_draws_many rfl).wb) (wg_name (i := 4) sa__law_draws_k) rfl rfl
    (fun s318 a319 =>
    (w_nf (Γ' := [some (.scr ns), some (.val many_), some (.own s318.1), some (.val s318.2), some (.val a319), none, none, none]) rfl (w_set (i := 3) sa__law_draws_mixed (we_op mod_ok (we_c1T (blt_int lk__law_draws_int hb_int) int_ok (we_op add_ok (we_op add_ok (we_op mul_ok (we_var (i := 3) va__law_draws_mixed rfl).wb we_int.wb).wb (we_var (i := 4) va__law_draws_k rfl).wb).wb we_int.wb).wb).wb we_int.wb) fun mixed_320 =>
    (w_nf (Γ' := [some (.scr ns), some (.val many_), some (.own s318.1), some (.val mixed_320), some (.val a319), none, none, none]) rfl (w_append (i := 2) va__law_draws_draws rfl (we_op mod_ok (we_c1T (blt_int lk__law_draws_int hb_int) int_ok (we_var (i := 3) va__law_draws_mixed rfl).wb).wb we_int.wb) (fun draws_334 =>
    (w_nf (Γ' := [some (.scr ns), some (.val many_), some (.own draws_334), some (.val mixed_320), some (.val a319), none, none, none]) rfl (w_nil [true, true, true, true, false, false, false, false] (r := (draws_334, mixed_320)) rfl rfl))) ⟨fun _ => rfl, fun _ => rfl, rfl, fun _ => rfl, fun _ => rfl, fun _ => rfl⟩)))))
    (fun s318 =>
  (w_ret (we_slice sl_ok (wb_own (i := 2) va__law_draws_draws rfl) wo_none (wo_some (we_var (i := 1) va__law_draws_many rfl)))))))))))))
theorem fd__law_next (h : Has K mg "_law_next" st__law_next) (hb_int : mg "int" = none) (hb_len : mg "len" = none) : FnD P w K mg base "_law_next" 1 2 (mf_wv m__law_next) :=
  next_fn h sc__law_next (fun _ _ _ _ _ _ us hl => match us, hl with | [_, _], _ => rfl) hb_len hb_int rfl rfl rfl rfl rfl
theorem fd__law_pick (h : Has K mg "_law_pick" st__law_pick) (hb_len : mg "len" = none) (d__law_next : FnD P w K mg base "_law_next" 1 2 (mf_wv m__law_next)) : FnD P w K mg base "_law_pick" 2 2 (mf_wv m__law_pick) :=
  fnd_wv (k := 1) h sc__law_pick rfl (by decide) (fun _ _ _ _ _ _ us hl => match us, hl with | [_, _], _ => rfl) fun rows_ =>
  (w_nf (Γ' := [some .drw, some (.val rows_)]) rfl (w_ret (we_ix ix_ok (we_var (i := 1) va__law_pick_rows rfl).wb (we_call_wv d__law_next lk__law_pick__law_next (Nat.le_of_ble_eq_true rfl) (wi := 0) va__law_pick_w rfl (we_c1B (blt_len lk__law_pick_len hb_len) len_ok (we_var (i := 1) va__law_pick_rows rfl).wb)).wb fun _ _ => rfl)))
theorem fd__law_says (h : Has K mg "_law_says" st__law_says) (hb_bool : mg "bool" = none) (hb_isinstance : mg "isinstance" = none) : FnD P w K mg base "_law_says" 1 2 (mf_vv m__law_says) :=
  fnd_vv (k := 0) h sc__law_says rfl (by decide) (fun _ _ _ _ _ _ us hl => match us, hl with | [_, _], _ => rfl) fun seen_ due_ =>
  (w_nf (Γ' := [some (.val seen_), some (.val due_)]) rfl (w_ret (we_and (we_isi (blt_isinstance lk__law_says_isinstance hb_isinstance) (blt_bool lk__law_says_bool hb_bool) (we_var (i := 0) va__law_says_seen rfl).wb) (we_one (we_cmp eq_ok (we_var (i := 0) va__law_says_seen rfl).wb (we_var (i := 1) va__law_says_due rfl).wb rfl)))))
theorem fd__law_same (h : Has K mg "_law_same" st__law_same) (hb_bool : mg "bool" = none) (hb_int : mg "int" = none) (hb_isinstance : mg "isinstance" = none) (hb_len : mg "len" = none) (hb_range : mg "range" = none) (hb_str : mg "str" = none) (hb_tuple : mg "tuple" = none) : ∀ n_ : Nat, FnD P w K mg base "_law_same" (1 + n_) 2 (mf_vv (m__law_same n_))
  | 0 => fnd_vv (k := 0) h sc__law_same rfl (by decide) (fun _ _ _ _ _ _ us hl => match us, hl with | [_, _], _ => rfl) fun _ _ => wfail rfl
  | n_ + 1 => have d__law_same := fd__law_same h hb_bool hb_int hb_isinstance hb_len hb_range hb_str hb_tuple n_
  fnd_vv (k := 1 + n_) h sc__law_same rfl (by decide) (fun _ _ _ _ _ _ us hl => match us, hl with | [_, _], _ => rfl) fun seen_ due_ =>
  (w_nf (Γ' := [some (.val seen_), some (.val due_), none]) rfl (w_ifR (wt_truth (we_isi (blt_isinstance lk__law_same_isinstance hb_isinstance) (blt_tuple lk__law_same_tuple hb_tuple) (we_var (i := 1) va__law_same_due rfl).wb).wb)
    (w_ifR (wt_ww (ww_or (wt_not (wt_truth (we_isi (blt_isinstance lk__law_same_isinstance hb_isinstance) (blt_tuple lk__law_same_tuple hb_tuple) (we_var (i := 0) va__law_same_seen rfl).wb).wb)) (ww_or1 (wt_cmp ne_ok (we_c1B (blt_len lk__law_same_len hb_len) len_ok (we_var (i := 0) va__law_same_seen rfl).wb).wb (we_c1B (blt_len lk__law_same_len hb_len) len_ok (we_var (i := 1) va__law_same_due rfl).wb).wb rfl))))
      (w_ret we_bl)
    (w_ret (we_cmp eq_ok (we_lcif (own := [("k", 2)]) (wi_range1 (blt_range lk__law_same_range hb_range) (we_c1B (blt_len lk__law_same_len hb_len) len_ok (we_var (i := 1) va__law_same_due rfl).wb).wb) (by dsimp only [Sg.blk]; decide +kernel) (wg_name (i := 2) (saL rfl (rel_loc rfl))) (by decide) (fun a369 => (wt_nf (Γ' := [some (.val seen_), some (.val due_), some (.val a369)]) rfl (wt_not (wt_truth (we_call_vv d__law_same (rel_glob rfl) (by dsimp only [Sg.blk]; omega) (we_ix ix_ok (we_var (i := 0) (vaC rfl (rel_free rfl rfl lk__law_same_seen) nm_seen) rfl).wb (we_var (i := 2) (vaL rfl (rel_loc rfl) nm_k) rfl).wb fun _ _ => rfl) (we_ix ix_ok (we_var (i := 1) (vaC rfl (rel_free rfl rfl lk__law_same_due) nm_due) rfl).wb (we_var (i := 2) (vaL rfl (rel_loc rfl) nm_k) rfl).wb fun _ _ => rfl)).wb)))) (fun a369 => (we_nf (Γ' := [some (.val seen_), some (.val due_), some (.val a369)]) rfl (we_var (i := 2) (vaL rfl (rel_loc rfl) nm_k) rfl)))).wb (we_lst wa_nil (Nat.le_of_ble_eq_true rfl)).wb rfl)))
  (w_ifR (wt_cmp is_ok (we_var (i := 1) va__law_same_due rfl).wb we_non.wb rfl)
    (w_ret (we_cmp is_ok (we_var (i := 0) va__law_same_seen rfl).wb we_non.wb rfl))
  (w_ifR (wt_truth (we_isi (blt_isinstance lk__law_same_isinstance hb_isinstance) (blt_str lk__law_same_str hb_str) (we_var (i := 1) va__law_same_due rfl).wb).wb)
    (w_ret (we_and (we_isi (blt_isinstance lk__law_same_isinstance hb_isinstance) (blt_str lk__law_same_str hb_str) (we_var (i := 0) va__law_same_seen rfl).wb) (we_one (we_cmp eq_ok (we_var (i := 0) va__law_same_seen rfl).wb (we_var (i := 1) va__law_same_due rfl).wb rfl))))
  (w_ret (we_and (we_isi (blt_isinstance lk__law_same_isinstance hb_isinstance) (blt_int lk__law_same_int hb_int) (we_var (i := 0) va__law_same_seen rfl).wb) (we_and (we_cmp eq_ok (we_isi (blt_isinstance lk__law_same_isinstance hb_isinstance) (blt_bool lk__law_same_bool hb_bool) (we_var (i := 0) va__law_same_seen rfl).wb).wb (we_isi (blt_isinstance lk__law_same_isinstance hb_isinstance) (blt_bool lk__law_same_bool hb_bool) (we_var (i := 1) va__law_same_due rfl).wb).wb rfl) (we_one (we_cmp eq_ok (we_var (i := 0) va__law_same_seen rfl).wb (we_var (i := 1) va__law_same_due rfl).wb rfl)))))))))
theorem fd__law_rows (h : Has K mg "_law_rows" st__law_rows) (hb_range : mg "range" = none) : FnD P w K mg base "_law_rows" 1 1 (mf_v m__law_rows) :=
  fnd_v (k := 0) h sc__law_rows rfl (by decide) (fun _ _ _ _ _ _ us hl => match us, hl with | [_], _ => rfl) fun sizes_ =>
  (w_nf (Γ' := [some (.val sizes_), none, none, none, none, none]) rfl (w_set (i := 1) sa__law_rows_found (we_lst (wa_cons (we_tup wa_nil (Nat.le_of_ble_eq_true rfl)) wa_nil) (Nat.le_of_ble_eq_true rfl)) fun found_411 =>
  (w_nf (Γ' := [some (.val sizes_), some (.val found_411), none, none, none, none]) rfl (w_for (σt := D) (fun (s417 : D) => [some (.val sizes_), some (.val s417), none, none, none, none]) found_411 [true, true, false, false, false, false] (wi_seq (we_var (i := 0) va__law_rows_sizes rfl)) (wg_name (i := 2) sa__law_rows_size) rfl rfl
    (fun s417 a418 =>
    (w_nf (Γ' := [some (.val sizes_), some (.val s417), some (.val a418), none, none, none]) rfl (w_set (i := 3) sa__law_rows_longer (we_lst wa_nil (Nat.le_of_ble_eq_true rfl)) fun longer_419 =>
    (w_nf (Γ' := [some (.val sizes_), some (.val s417), some (.val a418), some (.val longer_419), none, none]) rfl (w_for (σt := D) (fun (s422 : D) => [some (.val sizes_), some (.val s417), some (.val a418), some (.val s422), none, none]) longer_419 [true, true, true, true, false, false] (wi_seq (we_var (i := 1) va__law_rows_found rfl)) (wg_name (i := 4) sa__law_rows_row) rfl rfl
      (fun s422 a423 =>
      (w_nf (Γ' := [some (.val sizes_), some (.val s417), some (.val a418), some (.val s422), some (.val a423), none]) rfl (w_set (i := 3) sa__law_rows_longer (we_op add_ok (we_var (i := 3) va__law_rows_longer rfl).wb (we_lc (own := [("number", 5)]) (wi_range1 (blt_range lk__law_rows_range hb_range) (we_var (i := 2) va__law_rows_size rfl).wb) (by dsimp only [Sg.blk]; decide +kernel) (wg_name (i := 5) (saL rfl (rel_loc rfl))) (by decide) (fun a427 => (we_nf (Γ' := [some (.val sizes_), some (.val s417), some (.val a418), some (.val s422), some (.val a423), some (.val a427)]) rfl (we_op add_ok (we_var (i := 4) (vaC rfl (rel_free rfl rfl lk__law_rows_row) nm_row) rfl).wb (we_tup (wa_cons (we_var (i := 5) (vaL rfl (rel_loc rfl) nm_number) rfl) wa_nil) (Nat.le_of_ble_eq_true rfl)).wb)))).wb) fun longer_424 =>
      (w_nf (Γ' := [some (.val sizes_), some (.val s417), some (.val a418), some (.val longer_424), some (.val a423), none]) rfl (w_nil [true, true, true, true, false, false] (r := longer_424) rfl rfl)))))
      (fun s422 =>
    (w_set (i := 1) sa__law_rows_found (we_var (i := 3) va__law_rows_longer rfl) fun found_438 =>
    (w_nf (Γ' := [some (.val sizes_), some (.val found_438), some (.val a418), some (.val s422), none, none]) rfl (w_nil [true, true, false, false, false, false] (r := found_438) rfl rfl)))))))))
    (fun s417 =>
  (w_ret (we_var (i := 1) va__law_rows_found rfl)))))))
theorem fd__law_cost (h : Has K mg "_law_cost" st__law_cost) : FnD P w K mg base "_law_cost" 1 3 (mf_vvv m__law_cost) :=
  fnd_vvv (k := 0) h sc__law_cost rfl (by decide) (fun _ _ _ _ _ _ us hl => match us, hl with | [_, _, _], _ => rfl) fun price_ first_ crew_ =>
  (w_nf (Γ' := [some (.val price_), some (.val first_), some (.val crew_), none, none, none]) rfl (w_swp2 (oa := false) (ob := false) (i := 3) (j := 4) sa__law_cost_found sa__law_cost_now (by decide) lk__law_cost_found lk__law_cost_now we_int (we_var (i := 1) va__law_cost_first rfl) rfl fun found_443 now_444 =>
  (w_nf (Γ' := [some (.val price_), some (.val first_), some (.val crew_), some (.val found_443), some (.val now_444), none]) rfl (w_for (σt := D × D) (fun (s446 : D × D) => [some (.val price_), some (.val first_), some (.val crew_), some (.val s446.1), some (.val s446.2), none]) (found_443, now_444) [true, true, true, true, true, false] (wi_seq (we_var (i := 2) va__law_cost_crew rfl)) (wg_name (i := 5) sa__law_cost_hands) rfl rfl
    (fun s446 a447 =>
    (w_nf (Γ' := [some (.val price_), some (.val first_), some (.val crew_), some (.val s446.1), some (.val s446.2), some (.val a447)]) rfl (w_aug (i := 3) sa__law_cost_found rfl iadd_ok (we_ife (wt_cmp gt_ok (we_var (i := 5) va__law_cost_hands rfl).wb (we_var (i := 4) va__law_cost_now rfl).wb rfl) (we_op mul_ok (we_ix ix_ok (we_var (i := 0) va__law_cost_price rfl).wb we_int.wb fun _ _ => rfl).wb (we_op sub_ok (we_var (i := 5) va__law_cost_hands rfl).wb (we_var (i := 4) va__law_cost_now rfl).wb).wb) (we_op mul_ok (we_ix ix_ok (we_var (i := 0) va__law_cost_price rfl).wb we_int.wb fun _ _ => rfl).wb (we_op sub_ok (we_var (i := 4) va__law_cost_now rfl).wb (we_var (i := 5) va__law_cost_hands rfl).wb).wb)) fun found_465 =>
    (w_nf (Γ' := [some (.val price_), some (.val first_), some (.val crew_), some (.val found_465), some (.val s446.2), some (.val a447)]) rfl (w_aug (i := 3) sa__law_cost_found rfl iadd_ok (we_op mul_ok (we_ix ix_ok (we_var (i := 0) va__law_cost_price rfl).wb we_int.wb fun _ _ => rfl).wb (we_var (i := 5) va__law_cost_hands rfl).wb) fun found_471 =>
    (w_nf (Γ' := [some (.val price_), some (.val first_), some (.val crew_), some (.val found_471), some (.val s446.2), some (.val a447)]) rfl (w_set (i := 4) sa__law_cost_now (we_var (i := 5) va__law_cost_hands rfl) fun now_472 =>
    (w_nf (Γ' := [some (.val price_), some (.val first_), some (.val crew_), some (.val found_471), some (.val now_472), some (.val a447)]) rfl (w_nil [true, true, true, true, true, false] (r := (found_471, now_472)) rfl rfl)))))))))
    (fun s446 =>
  (w_ret (we_var (i := 3) va__law_cost_found rfl)))))))
theorem fd_law (hm : m_law fun d => d = .bool true) {f : Addr} {fd : FuncData} (F : Fun K "law" "law" st_law f fd) (hb_len : mg "len" = none) (hb_max : mg "max" = none) (hb_range : mg "range" = none) (hb_sum : mg "sum" = none) (hb_tuple : mg "tuple" = none) (d__law_draws : FnD P w K mg base "_law_draws" 1 2 (mf_sv m__law_draws)) (d__law_rows : FnD P w K mg base "_law_rows" 1 1 (mf_v m__law_rows)) (d__law_cost : FnD P w K mg base "_law_cost" 1 3 (mf_vvv m__law_cost)) (d__law_next : FnD P w K mg base "_law_next" 1 2 (mf_wv m__law_next)) (d__law_says : FnD P w K mg base "_law_says" 1 2 (mf_vv m__law_says)) (d__law_same : FnD P w K mg base "_law_same" 13 2 (mf_vv (m__law_same 12))) (d_worth_keeping : FnD P w K mg base "worth_keeping" 1 2 (mf_vv m_worth_keeping)) (d_idle_months : FnD P w K mg base "idle_months" 1 2 (mf_vv m_idle_months)) (d_ups : FnD P w K mg base "ups" 1 2 (mf_vv m_ups)) (d_cost_of_crew : FnD P w K mg base "cost_of_crew" 1 3 (mf_vvv m_cost_of_crew)) (d_follow : FnD P w K mg base "follow" 2 3 (mf_vvv m_follow)) (d_best_crew : FnD P w K mg base "best_crew" 3 3 (mf_vvv m_best_crew)) (d_with_over : FnD P w K mg base "with_over" 3 5 (mf_vvvvv m_with_over)) (d_level : FnD P w K mg base "level" 2 3 (mf_vvv m_level)) (d_steady_price : FnD P w K mg base "steady_price" 4 3 (mf_vvv m_steady_price)) : FnOk P w K mg base CX0 14 f fd ["script"] (spLaw K) :=
  law_fn (k := 13) (i := 1) (mcall := fun ns => (M.pure (.int 300)).bind fun x => m__law_draws ns x) (m := m_law) F sc_law (by decide) (by decide) (by decide) rfl sa_law_w (fun ns => we_call_sv (wi := 0) d__law_draws lk_law__law_draws (Nat.le_of_ble_eq_true rfl) va_law_script rfl we_int) (draws_ok 300)
  (w_nf (Γ' := [none, some .drw, none, none, none, none, none, none, none, none, none, none, none, none, none, none, none, none, none, none, none, none, none]) rfl (w_forF (σt := Unit) (fun (s477 : Unit) => [none, some .drw, none, none, none, none, none, none, none, none, none, none, none, none, none, none, none, none, none, none, none, none, none]) () [false, true, false, false, false, false, false, false, false, false, false, false, false, false, false, false, false, false, false, false, false, false, false] (wi_range1 (blt_range lk_law_range hb_range) we_int.wb) (wg_name (i := 2) sa_law_turn) rfl rfl
    (fun s477 a478 =>
    (w_nf (Γ' := [none, some .drw, some (.val a478), none, none, none, none, none, none, none, none, none, none, none, none, none, none, none, none, none, none, none, none]) rfl (w_par2 (oa := false) (ob := false) (.cons (i := 3) sa_law_price (.cons (i := 4) sa_law_first .nil)) (we_tup (wa_cons (we_call_wv d__law_next lk_law__law_next (Nat.le_of_ble_eq_true rfl) (wi := 1) va_law_w rfl we_int) (wa_cons (we_call_wv d__law_next lk_law__law_next (Nat.le_of_ble_eq_true rfl) (wi := 1) va_law_w rfl we_int) (wa_cons (we_call_wv d__law_next lk_law__law_next (Nat.le_of_ble_eq_true rfl) (wi := 1) va_law_w rfl we_int) wa_nil))) (Nat.le_of_ble_eq_true rfl)) (we_call_wv d__law_next lk_law__law_next (Nat.le_of_ble_eq_true rfl) (wi := 1) va_law_w rfl we_int) rfl rfl fun price_490 first_491 =>
    (w_nf (Γ' := [none, some .drw, some (.val a478), some (.val price_490), some (.val first_491), none, none, none, none, none, none, none, none, none, none, none, none, none, none, none, none, none, none]) rfl (w_set (i := 5) sa_law_needs (we_c1T (blt_tuple lk_law_tuple hb_tuple) tuple_ok (we_lc (own := [("k", 19)]) (wi_range1 (blt_range lk_law_range hb_range) (we_call_wv d__law_next lk_law__law_next (Nat.le_of_ble_eq_true rfl) (wi := 1) va_law_w rfl we_int).wb) (by dsimp only [Sg.blk]; decide +kernel) (wg_name (i := 19) (saL rfl (rel_loc rfl))) (by decide) (fun a496 => (we_nf (Γ' := [none, some .drw, some (.val a478), some (.val price_490), some (.val first_491), none, none, none, none, none, none, none, none, none, none, none, none, none, none, some (.val a496), none, none, none]) rfl (we_call_wv d__law_next (rel_glob rfl) (Nat.le_of_ble_eq_true rfl) (wi := 1) (vaC rfl (rel_free rfl rfl lk_law_w) nm_w) rfl we_int)))).wb) fun needs_492 =>
    (w_nf (Γ' := [none, some .drw, some (.val a478), some (.val price_490), some (.val first_491), some (.val needs_492), none, none, none, none, none, none, none, none, none, none, none, none, none, none, none, none, none]) rfl (w_set (i := 6) sa_law_crew (we_c1T (blt_tuple lk_law_tuple hb_tuple) tuple_ok (we_lc (own := [("need", 20)]) (wi_seq (we_var (i := 5) va_law_needs rfl)) (by dsimp only [Sg.blk]; decide +kernel) (wg_name (i := 20) (saL rfl (rel_loc rfl))) (by decide) (fun a504 => (we_nf (Γ' := [none, some .drw, some (.val a478), some (.val price_490), some (.val first_491), some (.val needs_492), none, none, none, none, none, none, none, none, none, none, none, none, none, none, some (.val a504), none, none]) rfl (we_call_wv d__law_next (rel_glob rfl) (Nat.le_of_ble_eq_true rfl) (wi := 1) (vaC rfl (rel_free rfl rfl lk_law_w) nm_w) rfl we_int)))).wb) fun crew_502 =>
    (w_nf (Γ' := [none, some .drw, some (.val a478), some (.val price_490), some (.val first_491), some (.val needs_492), some (.val crew_502), none, none, none, none, none, none, none, none, none, none, none, none, none, none, none, none]) rfl (w_ifE (ιA := Out.rt) (f := Fl.rt) (wt_ww (ww_or (wt_not (wt_truth (we_call_vv d__law_same lk_law__law_same (Nat.le_of_ble_eq_true rfl) (we_call_vvv d_cost_of_crew lk_law_cost_of_crew (Nat.le_of_ble_eq_true rfl) (we_var (i := 3) va_law_price rfl) (we_var (i := 4) va_law_first rfl) (we_var (i := 6) va_law_crew rfl)) (we_call_vvv d__law_cost lk_law__law_cost (Nat.le_of_ble_eq_true rfl) (we_var (i := 3) va_law_price rfl) (we_var (i := 4) va_law_first rfl) (we_var (i := 6) va_law_crew rfl))).wb)) (ww_or1 (wt_not (wt_truth (we_call_vv d__law_same lk_law__law_same (Nat.le_of_ble_eq_true rfl) (we_call_vvv d_follow lk_law_follow (Nat.le_of_ble_eq_true rfl) (we_var (i := 3) va_law_price rfl) (we_var (i := 4) va_law_first rfl) (we_var (i := 5) va_law_needs rfl)) (we_call_vvv d__law_cost lk_law__law_cost (Nat.le_of_ble_eq_true rfl) (we_var (i := 3) va_law_price rfl) (we_var (i := 4) va_law_first rfl) (we_var (i := 5) va_law_needs rfl))).wb)))))
      (w_ret we_bl)
    (w_set (i := 7) sa_law_top (we_c1B (blt_max lk_law_max hb_max) max1_ok (we_op add_ok (we_tup (wa_cons (we_var (i := 4) va_law_first rfl) wa_nil) (Nat.le_of_ble_eq_true rfl)).wb (we_var (i := 5) va_law_needs rfl).wb).wb) fun top_532 =>
    (w_nf (Γ' := [none, some .drw, some (.val a478), some (.val price_490), some (.val first_491), some (.val needs_492), some (.val crew_502), some (.val top_532), none, none, none, none, none, none, none, none, none, none, none, none, none, none, none]) rfl (w_par4 (oa := false) (ob := false) (oc := false) (od := false) (.cons (i := 8) sa_law_over (.cons (i := 9) sa_law_limit (.cons (i := 10) sa_law_best (.cons (i := 11) sa_law_cheap .nil)))) (we_call_wv d__law_next lk_law__law_next (Nat.le_of_ble_eq_true rfl) (wi := 1) va_law_w rfl we_int) (we_call_wv d__law_next lk_law__law_next (Nat.le_of_ble_eq_true rfl) (wi := 1) va_law_w rfl we_int) we_non we_non rfl rfl fun over_541 limit_542 best_543 cheap_544 =>
    (w_nf (Γ' := [none, some .drw, some (.val a478), some (.val price_490), some (.val first_491), some (.val needs_492), some (.val crew_502), some (.val top_532), some (.val over_541), some (.val limit_542), some (.val best_543), some (.val cheap_544), none, none, none, none, none, none, none, none, none, none, none]) rfl (w_for (σt := D × D) (fun (s555 : D × D) => [none, some .drw, some (.val a478), some (.val price_490), some (.val first_491), some (.val needs_492), some (.val crew_502), some (.val top_532), some (.val over_541), some (.val limit_542), some (.val s555.1), some (.val s555.2), none, none, none, none, none, none, none, none, none, none, none]) (best_543, cheap_544) [false, true, true, true, true, true, true, true, true, true, true, true, false, false, false, false, false, false, false, false, false, false, false] (wi_seq (we_call_v d__law_rows lk_law__law_rows (Nat.le_of_ble_eq_true rfl) (we_op mul_ok (we_lst (wa_cons (we_op add_ok (we_var (i := 7) va_law_top rfl).wb we_int.wb) wa_nil) (Nat.le_of_ble_eq_true rfl)).wb (we_c1B (blt_len lk_law_len hb_len) len_ok (we_var (i := 5) va_law_needs rfl).wb).wb))) (wg_name (i := 12) sa_law_row) rfl rfl
      (fun s555 a556 =>
      (w_nf (Γ' := [none, some .drw, some (.val a478), some (.val price_490), some (.val first_491), some (.val needs_492), some (.val crew_502), some (.val top_532), some (.val over_541), some (.val limit_542), some (.val s555.1), some (.val s555.2), some (.val a556), none, none, none, none, none, none, none, none, none, none]) rfl (w_setLc (i := 13) sa_law_lack ⟨rfl, lk_law_lack, by decide +kernel⟩ (own := [("k", 19)]) (wi_range1 (blt_range lk_law_range hb_range) (we_c1B (blt_len lk_law_len hb_len) len_ok (we_var (i := 5) va_law_needs rfl).wb).wb) (by dsimp only [Sg.blk]; decide +kernel) (wg_name (i := 19) (saL rfl (rel_loc rfl))) (by decide) (fun a561 => (we_nf (Γ' := [none, some .drw, some (.val a478), some (.val price_490), some (.val first_491), some (.val needs_492), some (.val crew_502), some (.val top_532), some (.val over_541), some (.val limit_542), some (.val s555.1), some (.val s555.2), some (.val a556), none, none, none, none, none, none, some (.val a561), none, none, none]) rfl (we_c2B (blt_max (rel_glob rfl) hb_max) max2_ok we_int.wb (we_op sub_ok (we_ix ix_ok (we_var (i := 5) (vaC rfl (rel_free rfl rfl lk_law_needs) nm_needs) rfl).wb (we_var (i := 19) (vaL rfl (rel_loc rfl) nm_k) rfl).wb fun _ _ => rfl).wb (we_ix ix_ok (we_var (i := 12) (vaC rfl (rel_free rfl rfl lk_law_row) nm_row) rfl).wb (we_var (i := 19) (vaL rfl (rel_loc rfl) nm_k) rfl).wb fun _ _ => rfl).wb).wb))) fun lack_557 =>
      (w_nf (Γ' := [none, some .drw, some (.val a478), some (.val price_490), some (.val first_491), some (.val needs_492), some (.val crew_502), some (.val top_532), some (.val over_541), some (.val limit_542), some (.val s555.1), some (.val s555.2), some (.val a556), some (.val lack_557), none, none, none, none, none, none, none, none, none]) rfl (w_set (i := 14) sa_law_own (we_call_vvv d__law_cost lk_law__law_cost (Nat.le_of_ble_eq_true rfl) (we_var (i := 3) va_law_price rfl) (we_var (i := 4) va_law_first rfl) (we_var (i := 12) va_law_row rfl)) fun own_573 =>
      (w_nf (Γ' := [none, some .drw, some (.val a478), some (.val price_490), some (.val first_491), some (.val needs_492), some (.val crew_502), some (.val top_532), some (.val over_541), some (.val limit_542), some (.val s555.1), some (.val s555.2), some (.val a556), some (.val lack_557), some (.val own_573), none, none, none, none, none, none, none, none]) rfl (w_ifJ (g := (fun (s606 : D) => [none, some .drw, some (.val a478), some (.val price_490), some (.val first_491), some (.val needs_492), some (.val crew_502), some (.val top_532), some (.val over_541), some (.val limit_542), some (.val s606), some (.val s555.2), some (.val a556), some (.val lack_557), some (.val own_573), none, none, none, none, none, none, none, none])) (wt_ww (ww_and (wt_cmp eq_ok (we_c1B (blt_max lk_law_max hb_max) max1_ok (we_op add_ok (we_lst (wa_cons we_int wa_nil) (Nat.le_of_ble_eq_true rfl)).wb (we_var (i := 13) va_law_lack rfl).wb).wb).wb we_int.wb rfl) (ww_and1 (wt_ww (ww_or (wt_cmp is_ok (we_var (i := 10) va_law_best rfl).wb we_non.wb rfl) (ww_or1 (wt_cmp lt_ok (we_tup (wa_cons (we_var (i := 14) va_law_own rfl) (wa_cons (we_var (i := 12) va_law_row rfl) wa_nil)) (Nat.le_of_ble_eq_true rfl)).wb (we_var (i := 10) va_law_best rfl).wb rfl)))))))
        (w_set (i := 10) sa_law_best (we_tup (wa_cons (we_var (i := 14) va_law_own rfl) (wa_cons (we_var (i := 12) va_law_row rfl) wa_nil)) (Nat.le_of_ble_eq_true rfl)) fun best_600 =>
        (w_nf (Γ' := [none, some .drw, some (.val a478), some (.val price_490), some (.val first_491), some (.val needs_492), some (.val crew_502), some (.val top_532), some (.val over_541), some (.val limit_542), some (.val best_600), some (.val s555.2), some (.val a556), some (.val lack_557), some (.val own_573), none, none, none, none, none, none, none, none]) rfl (w_nil [false, true, true, true, true, true, true, true, true, true, true, true, true, true, true, false, false, false, false, false, false, false, false] (r := best_600) rfl rfl)))
        (w_nil [false, true, true, true, true, true, true, true, true, true, true, true, true, true, true, false, false, false, false, false, false, false, false] (r := s555.1) rfl rfl)
        (fun s606 =>
      (w_set (i := 15) sa_law_more (we_tup (wa_cons (we_op add_ok (we_var (i := 14) va_law_own rfl).wb (we_op mul_ok (we_var (i := 8) va_law_over rfl).wb (we_c1B (blt_sum lk_law_sum hb_sum) sum1_ok (we_var (i := 13) va_law_lack rfl).wb).wb).wb) (wa_cons (we_var (i := 12) va_law_row rfl) wa_nil)) (Nat.le_of_ble_eq_true rfl)) fun more_607 =>
      (w_nf (Γ' := [none, some .drw, some (.val a478), some (.val price_490), some (.val first_491), some (.val needs_492), some (.val crew_502), some (.val top_532), some (.val over_541), some (.val limit_542), some (.val s606), some (.val s555.2), some (.val a556), some (.val lack_557), some (.val own_573), some (.val more_607), none, none, none, none, none, none, none]) rfl (w_ifJ (g := (fun (s637 : D) => [none, some .drw, some (.val a478), some (.val price_490), some (.val first_491), some (.val needs_492), some (.val crew_502), some (.val top_532), some (.val over_541), some (.val limit_542), some (.val s606), some (.val s637), some (.val a556), some (.val lack_557), some (.val own_573), some (.val more_607), none, none, none, none, none, none, none])) (wt_ww (ww_and (wt_cmp le_ok (we_c1B (blt_max lk_law_max hb_max) max1_ok (we_op add_ok (we_lst (wa_cons we_int wa_nil) (Nat.le_of_ble_eq_true rfl)).wb (we_var (i := 13) va_law_lack rfl).wb).wb).wb (we_var (i := 9) va_law_limit rfl).wb rfl) (ww_and1 (wt_ww (ww_or (wt_cmp is_ok (we_var (i := 11) va_law_cheap rfl).wb we_non.wb rfl) (ww_or1 (wt_cmp lt_ok (we_var (i := 15) va_law_more rfl).wb (we_var (i := 11) va_law_cheap rfl).wb rfl)))))))
        (w_set (i := 11) sa_law_cheap (we_var (i := 15) va_law_more rfl) fun cheap_636 =>
        (w_nf (Γ' := [none, some .drw, some (.val a478), some (.val price_490), some (.val first_491), some (.val needs_492), some (.val crew_502), some (.val top_532), some (.val over_541), some (.val limit_542), some (.val s606), some (.val cheap_636), some (.val a556), some (.val lack_557), some (.val own_573), some (.val more_607), none, none, none, none, none, none, none]) rfl (w_nil [false, true, true, true, true, true, true, true, true, true, true, true, true, true, true, true, false, false, false, false, false, false, false] (r := cheap_636) rfl rfl)))
        (w_nil [false, true, true, true, true, true, true, true, true, true, true, true, true, true, true, true, false, false, false, false, false, false, false] (r := s555.2) rfl rfl)
        (fun s637 =>
      (w_nil [false, true, true, true, true, true, true, true, true, true, true, true, false, false, false, false, false, false, false, false, false, false, false] (r := (s606, s637)) rfl rfl)))))))))))))
      (fun s555 =>
    (w_ifE (ιA := Out.rt) (f := Fl.rt) (wt_ww (ww_or (wt_not (wt_truth (we_call_vv d__law_same lk_law__law_same (Nat.le_of_ble_eq_true rfl) (we_call_vvv d_best_crew lk_law_best_crew (Nat.le_of_ble_eq_true rfl) (we_var (i := 3) va_law_price rfl) (we_var (i := 4) va_law_first rfl) (we_var (i := 5) va_law_needs rfl)) (we_var (i := 10) va_law_best rfl)).wb)) (ww_or1 (wt_not (wt_truth (we_call_vv d__law_same lk_law__law_same (Nat.le_of_ble_eq_true rfl) (we_call_vvvvv d_with_over lk_law_with_over (Nat.le_of_ble_eq_true rfl) (we_var (i := 3) va_law_price rfl) (we_var (i := 4) va_law_first rfl) (we_var (i := 5) va_law_needs rfl) (we_var (i := 8) va_law_over rfl) (we_var (i := 9) va_law_limit rfl)) (we_var (i := 11) va_law_cheap rfl)).wb)))))
      (w_ret we_bl)
    (w_set (i := 16) sa_law_whole (we_call_vvv d__law_cost lk_law__law_cost (Nat.le_of_ble_eq_true rfl) (we_var (i := 3) va_law_price rfl) (we_var (i := 4) va_law_first rfl) (we_op mul_ok (we_lst (wa_cons (we_c1B (blt_max lk_law_max hb_max) max1_ok (we_op add_ok (we_tup (wa_cons we_int wa_nil) (Nat.le_of_ble_eq_true rfl)).wb (we_var (i := 5) va_law_needs rfl).wb).wb) wa_nil) (Nat.le_of_ble_eq_true rfl)).wb (we_c1B (blt_len lk_law_len hb_len) len_ok (we_var (i := 5) va_law_needs rfl).wb).wb)) fun whole_656 =>
    (w_nf (Γ' := [none, some .drw, some (.val a478), some (.val price_490), some (.val first_491), some (.val needs_492), some (.val crew_502), some (.val top_532), some (.val over_541), some (.val limit_542), some (.val s555.1), some (.val s555.2), none, none, none, none, some (.val whole_656), none, none, none, none, none, none]) rfl (w_ifE (ιA := Out.rt) (f := Fl.rt) (wt_ww (ww_or (wt_not (wt_truth (we_call_vv d__law_same lk_law__law_same (Nat.le_of_ble_eq_true rfl) (we_call_vvv d_level lk_law_level (Nat.le_of_ble_eq_true rfl) (we_var (i := 3) va_law_price rfl) (we_var (i := 4) va_law_first rfl) (we_var (i := 5) va_law_needs rfl)) (we_var (i := 16) va_law_whole rfl)).wb)) (ww_or1 (wt_not (wt_truth (we_call_vv d__law_same lk_law__law_same (Nat.le_of_ble_eq_true rfl) (we_call_vvv d_steady_price lk_law_steady_price (Nat.le_of_ble_eq_true rfl) (we_var (i := 3) va_law_price rfl) (we_var (i := 4) va_law_first rfl) (we_var (i := 5) va_law_needs rfl)) (we_op sub_ok (we_var (i := 16) va_law_whole rfl).wb (we_ix ix_ok (we_var (i := 10) va_law_best rfl).wb we_int.wb fun _ _ => rfl).wb)).wb)))))
      (w_ret we_bl)
    (w_set (i := 17) sa_law_many (we_call_wv d__law_next lk_law__law_next (Nat.le_of_ble_eq_true rfl) (wi := 1) va_law_w rfl we_int) fun many_692 =>
    (w_nf (Γ' := [none, some .drw, some (.val a478), some (.val price_490), some (.val first_491), some (.val needs_492), some (.val crew_502), some (.val top_532), some (.val over_541), some (.val limit_542), some (.val s555.1), some (.val s555.2), none, none, none, none, some (.val whole_656), some (.val many_692), none, none, none, none, none]) rfl (w_ifE (ιA := Out.rt) (f := Fl.rt) (wt_not (wt_truth (we_call_vv d__law_says lk_law__law_says (Nat.le_of_ble_eq_true rfl) (we_call_vv d_worth_keeping lk_law_worth_keeping (Nat.le_of_ble_eq_true rfl) (we_var (i := 3) va_law_price rfl) (we_var (i := 17) va_law_many rfl)) (we_cmp le_ok (we_op mul_ok (we_var (i := 17) va_law_many rfl).wb (we_ix ix_ok (we_var (i := 3) va_law_price rfl).wb we_int.wb fun _ _ => rfl).wb).wb (we_op add_ok (we_ix ix_ok (we_var (i := 3) va_law_price rfl).wb we_int.wb fun _ _ => rfl).wb (we_ix ix_ok (we_var (i := 3) va_law_price rfl).wb we_int.wb fun _ _ => rfl).wb).wb rfl)).wb))
      (w_ret we_bl)
    (w_ifE (ιA := Out.rt) (f := Fl.rt) (wt_not (wt_truth (we_call_vv d__law_same lk_law__law_same (Nat.le_of_ble_eq_true rfl) (we_call_vv d_idle_months lk_law_idle_months (Nat.le_of_ble_eq_true rfl) (we_var (i := 5) va_law_needs rfl) (we_var (i := 6) va_law_crew rfl)) (we_c1B (blt_sum lk_law_sum hb_sum) sum1_ok (we_lc (own := [("k", 19)]) (wi_range1 (blt_range lk_law_range hb_range) (we_c1B (blt_len lk_law_len hb_len) len_ok (we_var (i := 5) va_law_needs rfl).wb).wb) (by dsimp only [Sg.blk]; decide +kernel) (wg_name (i := 19) (saL rfl (rel_loc rfl))) (by decide) (fun a719 => (we_nf (Γ' := [none, some .drw, some (.val a478), some (.val price_490), some (.val first_491), some (.val needs_492), some (.val crew_502), some (.val top_532), some (.val over_541), some (.val limit_542), some (.val s555.1), some (.val s555.2), none, none, none, none, some (.val whole_656), some (.val many_692), none, some (.val a719), none, none, none]) rfl (we_c2B (blt_max (rel_glob rfl) hb_max) max2_ok we_int.wb (we_op sub_ok (we_ix ix_ok (we_var (i := 6) (vaC rfl (rel_free rfl rfl lk_law_crew) nm_crew) rfl).wb (we_var (i := 19) (vaL rfl (rel_loc rfl) nm_k) rfl).wb fun _ _ => rfl).wb (we_ix ix_ok (we_var (i := 5) (vaC rfl (rel_free rfl rfl lk_law_needs) nm_needs) rfl).wb (we_var (i := 19) (vaL rfl (rel_loc rfl) nm_k) rfl).wb fun _ _ => rfl).wb).wb)))).wb)).wb))
      (w_ret we_bl)
    (w_setLc (i := 18) sa_law_steps ⟨rfl, lk_law_steps, by decide +kernel⟩ (own := [("k", 19)]) (wi_range1 (blt_range lk_law_range hb_range) (we_c1B (blt_len lk_law_len hb_len) len_ok (we_var (i := 6) va_law_crew rfl).wb).wb) (by dsimp only [Sg.blk]; decide +kernel) (wg_name (i := 19) (saL rfl (rel_loc rfl))) (by decide) (fun a740 => (we_nf (Γ' := [none, some .drw, some (.val a478), some (.val price_490), some (.val first_491), some (.val needs_492), some (.val crew_502), some (.val top_532), some (.val over_541), some (.val limit_542), some (.val s555.1), some (.val s555.2), none, none, none, none, some (.val whole_656), some (.val many_692), none, some (.val a740), none, none, none]) rfl (we_tup (wa_cons (we_ix ix_ok (we_var (i := 6) (vaC rfl (rel_free rfl rfl lk_law_crew) nm_crew) rfl).wb (we_var (i := 19) (vaL rfl (rel_loc rfl) nm_k) rfl).wb fun _ _ => rfl) (wa_cons (we_ife (wt_cmp gt_ok (we_var (i := 19) (vaL rfl (rel_loc rfl) nm_k) rfl).wb we_int.wb rfl) (we_ix ix_ok (we_var (i := 6) (vaC rfl (rel_free rfl rfl lk_law_crew) nm_crew) rfl).wb (we_op sub_ok (we_var (i := 19) (vaL rfl (rel_loc rfl) nm_k) rfl).wb we_int.wb).wb fun _ _ => rfl) (we_var (i := 4) (vaC rfl (rel_free rfl rfl lk_law_first) nm_first) rfl)) wa_nil)) (Nat.le_of_ble_eq_true rfl)))) fun steps_736 =>
    (w_nf (Γ' := [none, some .drw, some (.val a478), some (.val price_490), some (.val first_491), some (.val needs_492), some (.val crew_502), some (.val top_532), some (.val over_541), some (.val limit_542), some (.val s555.1), some (.val s555.2), none, none, none, none, some (.val whole_656), some (.val many_692), some (.val steps_736), none, none, none, none]) rfl (w_ifE (ιA := Out.rt) (f := Fl.rt) (wt_not (wt_truth (we_call_vv d__law_same lk_law__law_same (Nat.le_of_ble_eq_true rfl) (we_call_vv d_ups lk_law_ups (Nat.le_of_ble_eq_true rfl) (we_var (i := 4) va_law_first rfl) (we_var (i := 6) va_law_crew rfl)) (we_tup (wa_cons (we_c1B (blt_sum lk_law_sum hb_sum) sum1_ok (we_lc (own := [("a", 21), ("b", 22)]) (wi_seq (we_var (i := 18) va_law_steps rfl)) (by dsimp only [Sg.blk]; decide +kernel) (wg_tup2 (i := 21) (j := 22) (saL rfl (rel_loc rfl)) (saL rfl (rel_loc rfl))) (by decide) (fun a763 => (we_nf (Γ' := [none, some .drw, some (.val a478), some (.val price_490), some (.val first_491), some (.val needs_492), some (.val crew_502), some (.val top_532), some (.val over_541), some (.val limit_542), some (.val s555.1), some (.val s555.2), none, none, none, none, some (.val whole_656), some (.val many_692), some (.val steps_736), none, none, some (.val a763.1), some (.val a763.2)]) rfl (we_c2B (blt_max (rel_glob rfl) hb_max) max2_ok we_int.wb (we_op sub_ok (we_var (i := 21) (vaL rfl (rel_loc rfl) nm_a) rfl).wb (we_var (i := 22) (vaL rfl (rel_loc rfl) nm_b) rfl).wb).wb)))).wb) (wa_cons (we_c1B (blt_sum lk_law_sum hb_sum) sum1_ok (we_lc (own := [("a", 21), ("b", 22)]) (wi_seq (we_var (i := 18) va_law_steps rfl)) (by dsimp only [Sg.blk]; decide +kernel) (wg_tup2 (i := 21) (j := 22) (saL rfl (rel_loc rfl)) (saL rfl (rel_loc rfl))) (by decide) (fun a773 => (we_nf (Γ' := [none, some .drw, some (.val a478), some (.val price_490), some (.val first_491), some (.val needs_492), some (.val crew_502), some (.val top_532), some (.val over_541), some (.val limit_542), some (.val s555.1), some (.val s555.2), none, none, none, none, some (.val whole_656), some (.val many_692), some (.val steps_736), none, none, some (.val a773.1), some (.val a773.2)]) rfl (we_c2B (blt_max (rel_glob rfl) hb_max) max2_ok we_int.wb (we_op sub_ok (we_var (i := 22) (vaL rfl (rel_loc rfl) nm_b) rfl).wb (we_var (i := 21) (vaL rfl (rel_loc rfl) nm_a) rfl).wb).wb)))).wb) wa_nil)) (Nat.le_of_ble_eq_true rfl))).wb))
      (w_ret we_bl)
    (w_nil [false, true, false, false, false, false, false, false, false, false, false, false, false, false, false, false, false, false, false, false, false, false, false] (r := (Fl.nx ())) rfl rfl)))))))))))))))))))))))))))
    (fun s477 =>
  (w_ret we_bl)) (rt_ok (f := fun d => d)))) hm
end
end L37
namespace L37
open PySem PySem.Spec PyProof.Rows L2 Wp

/-! ### costs -/
abbrev Pr := Int × Int × Int
def prD (p : Pr) : D := .tuple [.int p.1, .int p.2.1, .int p.2.2]
structure Pr.Ok (p : Pr) : Prop where
  a0 : 0 ≤ p.1
  a1 : p.1 ≤ 10
  b0 : 0 ≤ p.2.1
  b1 : p.2.1 ≤ 10
  c0 : 0 ≤ p.2.2
  c1 : p.2.2 ≤ 10
def stp (p : Pr) (now h : Int) : Int := p.1 * max 0 (h - now) + p.2.1 * max 0 (now - h) + p.2.2 * h
def cst (p : Pr) : Int → List Int → Int
  | _, [] => 0
  | now, h :: t => stp p now h + cst p h t
def Lo (ns : List Int) : Prop := ∀ n ∈ ns, 0 ≤ n ∧ n ≤ 10
theorem fold_cst (p : Pr) : ∀ (crew : List Int) (c now : Int), (crew.foldl (fun (t : Int × Int) h => (t.1 + stp p t.2 h, h)) (c, now)).1 = c + cst p now crew
  | [], c, now => by simp [cst]
  | h :: t, c, now => by
    rw [List.foldl_cons, fold_cst p t]
    simp [cst]; omega
theorem sm {i : Int} (h1 : -1000000 ≤ i) (h2 : i ≤ 1000000) : small i := small_of (by omega) (by omega)
theorem e_cost {p : Pr} (hp : p.Ok) {now : Int} {crew : List Int} (h0 : 0 ≤ now ∧ now ≤ 10) (hc : Lo crew) : m_cost_of_crew (prD p) (.int now) (tI crew) = M.pure (.int (cst p now crew)) := by
  have a0 := hp.a0; have a1 := hp.a1; have b0 := hp.b0; have b1 := hp.b1; have c0 := hp.c0; have c1 := hp.c1
  simp (disch := first | assumption | rfl | omega | decide) only [mp_bind, m_assoc, m_opt, m_cond_pure, m_cond_bind, m_cond_t, m_cond_f, mapM_map, filM_map, fold_map, foldF_map, mapM_pure, filM_pure, fold_pure, asI_i, asB_b, asS_l, asS_t, seqOf_l, seqOf_t, addD_i, iaddD_i, subD_i, fdivD_i, modD_i, negD_i, absD_i, intD_i, max2D_i, min2D_i, ltD_i, leD_i, gtD_i, geD_i, eqD_i, neD_i, lenD_l, lenD_t, tupleD_l, tupleD_t, listD_l, listD_t, slD_l, slD_t, revD_l, truthD_b, truthD_n, ixD_l, ixD_t, un2_t, un3_t, un4_t, zipI_l, zipI_t, isD_n, isnD_n, isNone_n, isNone_i, isNone_b, isNone_s, isNone_l, isNone_t, m_eta, Bool.not_true, Bool.not_false, isL_list, atI_0, atI_1, atI_2, atI_3, c_t, c_f, m_needT, isi_tuple_n, isi_tuple_b, isi_tuple_i, isi_tuple_s, isi_tuple_l, isi_tuple_t, isi_list_n, isi_list_b, isi_list_i, isi_list_s, isi_list_l, isi_list_t, isi_dict_n, isi_dict_b, isi_dict_i, isi_dict_s, isi_dict_l, isi_dict_t, isi_str_n, isi_str_b, isi_str_i, isi_str_s, isi_str_l, isi_str_t, isi_bool_n, isi_bool_b, isi_bool_i, isi_bool_s, isi_bool_l, isi_bool_t, isi_int_n, isi_int_b, isi_int_i, isi_int_s, isi_int_l, isi_int_t, bind_run, pure_run, m_cost_of_crew, prD, tI]
  rw [fold_enc (fun t : Int × Int => ((.int t.1 : D), (.int t.2 : D))) (fun t h => (t.1 + stp p t.2 h, h)) (fun t _ => 0 ≤ t.2 ∧ t.2 ≤ 10) (t := (0, now)) 0 h0 (fun t n h hh ht => ?_)]
  · simp (disch := first | assumption | rfl | omega | decide) only [mp_bind, m_assoc, m_opt, m_cond_pure, m_cond_bind, m_cond_t, m_cond_f, mapM_map, filM_map, fold_map, foldF_map, mapM_pure, filM_pure, fold_pure, asI_i, asB_b, asS_l, asS_t, seqOf_l, seqOf_t, addD_i, iaddD_i, subD_i, fdivD_i, modD_i, negD_i, absD_i, intD_i, max2D_i, min2D_i, ltD_i, leD_i, gtD_i, geD_i, eqD_i, neD_i, lenD_l, lenD_t, tupleD_l, tupleD_t, listD_l, listD_t, slD_l, slD_t, revD_l, truthD_b, truthD_n, ixD_l, ixD_t, un2_t, un3_t, un4_t, zipI_l, zipI_t, isD_n, isnD_n, isNone_n, isNone_i, isNone_b, isNone_s, isNone_l, isNone_t, m_eta, Bool.not_true, Bool.not_false, isL_list, atI_0, atI_1, atI_2, atI_3, c_t, c_f, m_needT, isi_tuple_n, isi_tuple_b, isi_tuple_i, isi_tuple_s, isi_tuple_l, isi_tuple_t, isi_list_n, isi_list_b, isi_list_i, isi_list_s, isi_list_l, isi_list_t, isi_dict_n, isi_dict_b, isi_dict_i, isi_dict_s, isi_dict_l, isi_dict_t, isi_str_n, isi_str_b, isi_str_i, isi_str_s, isi_str_l, isi_str_t, isi_bool_n, isi_bool_b, isi_bool_i, isi_bool_s, isi_bool_l, isi_bool_t, isi_int_n, isi_int_b, isi_int_i, isi_int_s, isi_int_l, isi_int_t, bind_run, pure_run, fold_cst, Int.zero_add]
  · have := hc h hh
    refine ⟨?_, this⟩
    simp (disch := first | assumption | rfl | omega | decide) only [mp_bind, m_assoc, m_opt, m_cond_pure, m_cond_bind, m_cond_t, m_cond_f, mapM_map, filM_map, fold_map, foldF_map, mapM_pure, filM_pure, fold_pure, asI_i, asB_b, asS_l, asS_t, seqOf_l, seqOf_t, addD_i, iaddD_i, subD_i, fdivD_i, modD_i, negD_i, absD_i, intD_i, max2D_i, min2D_i, ltD_i, leD_i, gtD_i, geD_i, eqD_i, neD_i, lenD_l, lenD_t, tupleD_l, tupleD_t, listD_l, listD_t, slD_l, slD_t, revD_l, truthD_b, truthD_n, ixD_l, ixD_t, un2_t, un3_t, un4_t, zipI_l, zipI_t, isD_n, isnD_n, isNone_n, isNone_i, isNone_b, isNone_s, isNone_l, isNone_t, m_eta, Bool.not_true, Bool.not_false, isL_list, atI_0, atI_1, atI_2, atI_3, c_t, c_f, m_needT, isi_tuple_n, isi_tuple_b, isi_tuple_i, isi_tuple_s, isi_tuple_l, isi_tuple_t, isi_list_n, isi_list_b, isi_list_i, isi_list_s, isi_list_l, isi_list_t, isi_dict_n, isi_dict_b, isi_dict_i, isi_dict_s, isi_dict_l, isi_dict_t, isi_str_n, isi_str_b, isi_str_i, isi_str_s, isi_str_l, isi_str_t, isi_bool_n, isi_bool_b, isi_bool_i, isi_bool_s, isi_bool_l, isi_bool_t, isi_int_n, isi_int_b, isi_int_i, isi_int_s, isi_int_l, isi_int_t, bind_run, pure_run, mulD_s (sm (i := p.1) (by omega) (by omega)) (sm (i := max 0 (h - t.2)) (by omega) (by omega)), mulD_s (sm (i := p.2.1) (by omega) (by omega)) (sm (i := max 0 (t.2 - h)) (by omega) (by omega)), mulD_s (sm (i := p.2.2) (by omega) (by omega)) (sm (i := h) (by omega) (by omega))]
    rfl
theorem e_law_cost {p : Pr} (hp : p.Ok) {now : Int} {crew : List Int} (h0 : 0 ≤ now ∧ now ≤ 10) (hc : Lo crew) {c : D} (e : c = .tuple (crew.map .int) ∨ c = .list (crew.map .int)) : m__law_cost (prD p) (.int now) c = M.pure (.int (cst p now crew)) := by
  have a0 := hp.a0; have a1 := hp.a1; have b0 := hp.b0; have b1 := hp.b1; have c0 := hp.c0; have c1 := hp.c1
  have es : asS c = M.pure (crew.map .int) := by rcases e with rfl | rfl <;> simp (disch := first | assumption | rfl | omega | decide) only [mp_bind, m_assoc, m_opt, m_cond_pure, m_cond_bind, m_cond_t, m_cond_f, mapM_map, filM_map, fold_map, foldF_map, mapM_pure, filM_pure, fold_pure, asI_i, asB_b, asS_l, asS_t, seqOf_l, seqOf_t, addD_i, iaddD_i, subD_i, fdivD_i, modD_i, negD_i, absD_i, intD_i, max2D_i, min2D_i, ltD_i, leD_i, gtD_i, geD_i, eqD_i, neD_i, lenD_l, lenD_t, tupleD_l, tupleD_t, listD_l, listD_t, slD_l, slD_t, revD_l, truthD_b, truthD_n, ixD_l, ixD_t, un2_t, un3_t, un4_t, zipI_l, zipI_t, isD_n, isnD_n, isNone_n, isNone_i, isNone_b, isNone_s, isNone_l, isNone_t, m_eta, Bool.not_true, Bool.not_false, isL_list, atI_0, atI_1, atI_2, atI_3, c_t, c_f, m_needT, isi_tuple_n, isi_tuple_b, isi_tuple_i, isi_tuple_s, isi_tuple_l, isi_tuple_t, isi_list_n, isi_list_b, isi_list_i, isi_list_s, isi_list_l, isi_list_t, isi_dict_n, isi_dict_b, isi_dict_i, isi_dict_s, isi_dict_l, isi_dict_t, isi_str_n, isi_str_b, isi_str_i, isi_str_s, isi_str_l, isi_str_t, isi_bool_n, isi_bool_b, isi_bool_i, isi_bool_s, isi_bool_l, isi_bool_t, isi_int_n, isi_int_b, isi_int_i, isi_int_s, isi_int_l, isi_int_t, bind_run, pure_run]
  simp (disch := first | assumption | rfl | omega | decide) only [mp_bind, m_assoc, m_opt, m_cond_pure, m_cond_bind, m_cond_t, m_cond_f, mapM_map, filM_map, fold_map, foldF_map, mapM_pure, filM_pure, fold_pure, asI_i, asB_b, asS_l, asS_t, seqOf_l, seqOf_t, addD_i, iaddD_i, subD_i, fdivD_i, modD_i, negD_i, absD_i, intD_i, max2D_i, min2D_i, ltD_i, leD_i, gtD_i, geD_i, eqD_i, neD_i, lenD_l, lenD_t, tupleD_l, tupleD_t, listD_l, listD_t, slD_l, slD_t, revD_l, truthD_b, truthD_n, ixD_l, ixD_t, un2_t, un3_t, un4_t, zipI_l, zipI_t, isD_n, isnD_n, isNone_n, isNone_i, isNone_b, isNone_s, isNone_l, isNone_t, m_eta, Bool.not_true, Bool.not_false, isL_list, atI_0, atI_1, atI_2, atI_3, c_t, c_f, m_needT, isi_tuple_n, isi_tuple_b, isi_tuple_i, isi_tuple_s, isi_tuple_l, isi_tuple_t, isi_list_n, isi_list_b, isi_list_i, isi_list_s, isi_list_l, isi_list_t, isi_dict_n, isi_dict_b, isi_dict_i, isi_dict_s, isi_dict_l, isi_dict_t, isi_str_n, isi_str_b, isi_str_i, isi_str_s, isi_str_l, isi_str_t, isi_bool_n, isi_bool_b, isi_bool_i, isi_bool_s, isi_bool_l, isi_bool_t, isi_int_n, isi_int_b, isi_int_i, isi_int_s, isi_int_l, isi_int_t, bind_run, pure_run, m__law_cost, prD, es]
  rw [fold_enc (fun t : Int × Int => ((.int t.1 : D), (.int t.2 : D))) (fun t h => (t.1 + stp p t.2 h, h)) (fun t _ => 0 ≤ t.2 ∧ t.2 ≤ 10) (t := (0, now)) 0 h0 (fun t n h hh ht => ?_)]
  · simp (disch := first | assumption | rfl | omega | decide) only [mp_bind, m_assoc, m_opt, m_cond_pure, m_cond_bind, m_cond_t, m_cond_f, mapM_map, filM_map, fold_map, foldF_map, mapM_pure, filM_pure, fold_pure, asI_i, asB_b, asS_l, asS_t, seqOf_l, seqOf_t, addD_i, iaddD_i, subD_i, fdivD_i, modD_i, negD_i, absD_i, intD_i, max2D_i, min2D_i, ltD_i, leD_i, gtD_i, geD_i, eqD_i, neD_i, lenD_l, lenD_t, tupleD_l, tupleD_t, listD_l, listD_t, slD_l, slD_t, revD_l, truthD_b, truthD_n, ixD_l, ixD_t, un2_t, un3_t, un4_t, zipI_l, zipI_t, isD_n, isnD_n, isNone_n, isNone_i, isNone_b, isNone_s, isNone_l, isNone_t, m_eta, Bool.not_true, Bool.not_false, isL_list, atI_0, atI_1, atI_2, atI_3, c_t, c_f, m_needT, isi_tuple_n, isi_tuple_b, isi_tuple_i, isi_tuple_s, isi_tuple_l, isi_tuple_t, isi_list_n, isi_list_b, isi_list_i, isi_list_s, isi_list_l, isi_list_t, isi_dict_n, isi_dict_b, isi_dict_i, isi_dict_s, isi_dict_l, isi_dict_t, isi_str_n, isi_str_b, isi_str_i, isi_str_s, isi_str_l, isi_str_t, isi_bool_n, isi_bool_b, isi_bool_i, isi_bool_s, isi_bool_l, isi_bool_t, isi_int_n, isi_int_b, isi_int_i, isi_int_s, isi_int_l, isi_int_t, bind_run, pure_run, fold_cst, Int.zero_add]
  · have := hc h hh
    refine ⟨?_, this⟩
    simp (disch := first | assumption | rfl | omega | decide) only [mp_bind, m_assoc, m_opt, m_cond_pure, m_cond_bind, m_cond_t, m_cond_f, mapM_map, filM_map, fold_map, foldF_map, mapM_pure, filM_pure, fold_pure, asI_i, asB_b, asS_l, asS_t, seqOf_l, seqOf_t, addD_i, iaddD_i, subD_i, fdivD_i, modD_i, negD_i, absD_i, intD_i, max2D_i, min2D_i, ltD_i, leD_i, gtD_i, geD_i, eqD_i, neD_i, lenD_l, lenD_t, tupleD_l, tupleD_t, listD_l, listD_t, slD_l, slD_t, revD_l, truthD_b, truthD_n, ixD_l, ixD_t, un2_t, un3_t, un4_t, zipI_l, zipI_t, isD_n, isnD_n, isNone_n, isNone_i, isNone_b, isNone_s, isNone_l, isNone_t, m_eta, Bool.not_true, Bool.not_false, isL_list, atI_0, atI_1, atI_2, atI_3, c_t, c_f, m_needT, isi_tuple_n, isi_tuple_b, isi_tuple_i, isi_tuple_s, isi_tuple_l, isi_tuple_t, isi_list_n, isi_list_b, isi_list_i, isi_list_s, isi_list_l, isi_list_t, isi_dict_n, isi_dict_b, isi_dict_i, isi_dict_s, isi_dict_l, isi_dict_t, isi_str_n, isi_str_b, isi_str_i, isi_str_s, isi_str_l, isi_str_t, isi_bool_n, isi_bool_b, isi_bool_i, isi_bool_s, isi_bool_l, isi_bool_t, isi_int_n, isi_int_b, isi_int_i, isi_int_s, isi_int_l, isi_int_t, bind_run, pure_run, mulD_s (sm (i := p.1) (by omega) (by omega)) (sm (i := (h - t.2)) (by omega) (by omega)), mulD_s (sm (i := p.2.1) (by omega) (by omega)) (sm (i := (t.2 - h)) (by omega) (by omega)), mulD_s (sm (i := p.2.2) (by omega) (by omega)) (sm (i := h) (by omega) (by omega))]
    by_cases hlt : t.2 < h
    · have e1 : max 0 (h - t.2) = h - t.2 := by omega
      have e2 : max 0 (t.2 - h) = 0 := by omega
      simp [hlt, e1, e2, stp, Int.add_assoc]
    · have e1 : max 0 (h - t.2) = 0 := by omega
      have e2 : max 0 (t.2 - h) = t.2 - h := by omega
      simp [hlt, e1, e2, stp, Int.add_assoc]
theorem e_follow {p : Pr} (hp : p.Ok) {now : Int} {crew : List Int} (h0 : 0 ≤ now ∧ now ≤ 10) (hc : Lo crew) : m_follow (prD p) (.int now) (tI crew) = M.pure (.int (cst p now crew)) := by
  simp (disch := first | assumption | rfl | omega | decide) only [mp_bind, m_assoc, m_opt, m_cond_pure, m_cond_bind, m_cond_t, m_cond_f, mapM_map, filM_map, fold_map, foldF_map, mapM_pure, filM_pure, fold_pure, asI_i, asB_b, asS_l, asS_t, seqOf_l, seqOf_t, addD_i, iaddD_i, subD_i, fdivD_i, modD_i, negD_i, absD_i, intD_i, max2D_i, min2D_i, ltD_i, leD_i, gtD_i, geD_i, eqD_i, neD_i, lenD_l, lenD_t, tupleD_l, tupleD_t, listD_l, listD_t, slD_l, slD_t, revD_l, truthD_b, truthD_n, ixD_l, ixD_t, un2_t, un3_t, un4_t, zipI_l, zipI_t, isD_n, isnD_n, isNone_n, isNone_i, isNone_b, isNone_s, isNone_l, isNone_t, m_eta, Bool.not_true, Bool.not_false, isL_list, atI_0, atI_1, atI_2, atI_3, c_t, c_f, m_needT, isi_tuple_n, isi_tuple_b, isi_tuple_i, isi_tuple_s, isi_tuple_l, isi_tuple_t, isi_list_n, isi_list_b, isi_list_i, isi_list_s, isi_list_l, isi_list_t, isi_dict_n, isi_dict_b, isi_dict_i, isi_dict_s, isi_dict_l, isi_dict_t, isi_str_n, isi_str_b, isi_str_i, isi_str_s, isi_str_l, isi_str_t, isi_bool_n, isi_bool_b, isi_bool_i, isi_bool_s, isi_bool_l, isi_bool_t, isi_int_n, isi_int_b, isi_int_i, isi_int_s, isi_int_l, isi_int_t, bind_run, pure_run, m_follow, e_cost hp h0 hc]
def lvl (p : Pr) (now : Int) (needs : List Int) : Int := cst p now (List.replicate needs.length (maxI 0 needs))
theorem lo_max {needs : List Int} (hc : Lo needs) : 0 ≤ maxI 0 needs ∧ maxI 0 needs ≤ 10 := by
  obtain ⟨h1, h2⟩ := maxI_spec needs 0
  refine ⟨h2 0 (by simp), ?_⟩
  rcases List.mem_cons.mp h1 with e | e
  · omega
  · exact (hc _ e).2
theorem lo_rep {n : Nat} {x : Int} (h : 0 ≤ x ∧ x ≤ 10) : Lo (List.replicate n x) := fun y hy => by
  rw [(List.mem_replicate.mp hy).2]; exact h
theorem e_level {p : Pr} (hp : p.Ok) {now : Int} {needs : List Int} (h0 : 0 ≤ now ∧ now ≤ 10) (hc : Lo needs) (hl : needs.length ≤ 5) : m_level (prD p) (.int now) (tI needs) = M.pure (.int (lvl p now needs)) := by
  have e := e_cost hp h0 (lo_rep (n := needs.length) (lo_max hc))
  unfold tI at e
  rw [List.map_replicate] at e
  have h5 : ([(.int 0 : D)].length + (needs.map PyData.int).length) ≤ 16777216 := by simp; omega
  simp (disch := first | assumption | rfl | omega | decide) only [mp_bind, m_assoc, m_opt, m_cond_pure, m_cond_bind, m_cond_t, m_cond_f, mapM_map, filM_map, fold_map, foldF_map, mapM_pure, filM_pure, fold_pure, asI_i, asB_b, asS_l, asS_t, seqOf_l, seqOf_t, addD_i, iaddD_i, subD_i, fdivD_i, modD_i, negD_i, absD_i, intD_i, max2D_i, min2D_i, ltD_i, leD_i, gtD_i, geD_i, eqD_i, neD_i, lenD_l, lenD_t, tupleD_l, tupleD_t, listD_l, listD_t, slD_l, slD_t, revD_l, truthD_b, truthD_n, ixD_l, ixD_t, un2_t, un3_t, un4_t, zipI_l, zipI_t, isD_n, isnD_n, isNone_n, isNone_i, isNone_b, isNone_s, isNone_l, isNone_t, m_eta, Bool.not_true, Bool.not_false, isL_list, atI_0, atI_1, atI_2, atI_3, c_t, c_f, m_needT, isi_tuple_n, isi_tuple_b, isi_tuple_i, isi_tuple_s, isi_tuple_l, isi_tuple_t, isi_list_n, isi_list_b, isi_list_i, isi_list_s, isi_list_l, isi_list_t, isi_dict_n, isi_dict_b, isi_dict_i, isi_dict_s, isi_dict_l, isi_dict_t, isi_str_n, isi_str_b, isi_str_i, isi_str_s, isi_str_l, isi_str_t, isi_bool_n, isi_bool_b, isi_bool_i, isi_bool_s, isi_bool_l, isi_bool_t, isi_int_n, isi_int_b, isi_int_i, isi_int_s, isi_int_l, isi_int_t, bind_run, pure_run, m_level, tI, addD_t h5, List.singleton_append, max1_t, List.length_map]
  rw [mul2D_t (by simp; omega)]
  simp (disch := first | assumption | rfl | omega | decide) only [mp_bind, m_assoc, m_opt, m_cond_pure, m_cond_bind, m_cond_t, m_cond_f, mapM_map, filM_map, fold_map, foldF_map, mapM_pure, filM_pure, fold_pure, asI_i, asB_b, asS_l, asS_t, seqOf_l, seqOf_t, addD_i, iaddD_i, subD_i, fdivD_i, modD_i, negD_i, absD_i, intD_i, max2D_i, min2D_i, ltD_i, leD_i, gtD_i, geD_i, eqD_i, neD_i, lenD_l, lenD_t, tupleD_l, tupleD_t, listD_l, listD_t, slD_l, slD_t, revD_l, truthD_b, truthD_n, ixD_l, ixD_t, un2_t, un3_t, un4_t, zipI_l, zipI_t, isD_n, isnD_n, isNone_n, isNone_i, isNone_b, isNone_s, isNone_l, isNone_t, m_eta, Bool.not_true, Bool.not_false, isL_list, atI_0, atI_1, atI_2, atI_3, c_t, c_f, m_needT, isi_tuple_n, isi_tuple_b, isi_tuple_i, isi_tuple_s, isi_tuple_l, isi_tuple_t, isi_list_n, isi_list_b, isi_list_i, isi_list_s, isi_list_l, isi_list_t, isi_dict_n, isi_dict_b, isi_dict_i, isi_dict_s, isi_dict_l, isi_dict_t, isi_str_n, isi_str_b, isi_str_i, isi_str_s, isi_str_l, isi_str_t, isi_bool_n, isi_bool_b, isi_bool_i, isi_bool_s, isi_bool_l, isi_bool_t, isi_int_n, isi_int_b, isi_int_i, isi_int_s, isi_int_l, isi_int_t, bind_run, pure_run, rep_one, Int.toNat_natCast, e]
  rfl
theorem e_worth {p : Pr} (hp : p.Ok) {many : Int} (h : 0 ≤ many ∧ many ≤ 10) : m_worth_keeping (prD p) (.int many) = M.pure (.bool (decide (many * p.2.2 ≤ p.1 + p.2.1))) := by
  have a0 := hp.a0; have a1 := hp.a1; have b0 := hp.b0; have b1 := hp.b1; have c0 := hp.c0; have c1 := hp.c1
  simp (disch := first | assumption | rfl | omega | decide) only [mp_bind, m_assoc, m_opt, m_cond_pure, m_cond_bind, m_cond_t, m_cond_f, mapM_map, filM_map, fold_map, foldF_map, mapM_pure, filM_pure, fold_pure, asI_i, asB_b, asS_l, asS_t, seqOf_l, seqOf_t, addD_i, iaddD_i, subD_i, fdivD_i, modD_i, negD_i, absD_i, intD_i, max2D_i, min2D_i, ltD_i, leD_i, gtD_i, geD_i, eqD_i, neD_i, lenD_l, lenD_t, tupleD_l, tupleD_t, listD_l, listD_t, slD_l, slD_t, revD_l, truthD_b, truthD_n, ixD_l, ixD_t, un2_t, un3_t, un4_t, zipI_l, zipI_t, isD_n, isnD_n, isNone_n, isNone_i, isNone_b, isNone_s, isNone_l, isNone_t, m_eta, Bool.not_true, Bool.not_false, isL_list, atI_0, atI_1, atI_2, atI_3, c_t, c_f, m_needT, isi_tuple_n, isi_tuple_b, isi_tuple_i, isi_tuple_s, isi_tuple_l, isi_tuple_t, isi_list_n, isi_list_b, isi_list_i, isi_list_s, isi_list_l, isi_list_t, isi_dict_n, isi_dict_b, isi_dict_i, isi_dict_s, isi_dict_l, isi_dict_t, isi_str_n, isi_str_b, isi_str_i, isi_str_s, isi_str_l, isi_str_t, isi_bool_n, isi_bool_b, isi_bool_i, isi_bool_s, isi_bool_l, isi_bool_t, isi_int_n, isi_int_b, isi_int_i, isi_int_s, isi_int_l, isi_int_t, bind_run, pure_run, m_worth_keeping, prD, mulD_s (sm (i := many) (by omega) (by omega)) (sm (i := p.2.2) (by omega) (by omega))]
def idle (needs crew : List Int) : List Int := (needs.zip crew).map fun p => max 0 (p.2 - p.1)
theorem zipD_ints (xs ys : List Int) : zipD (xs.map .int) (ys.map .int) = (xs.zip ys).map fun p => .tuple [.int p.1, .int p.2] := by
  unfold zipD
  rw [List.zip_map, List.map_map]; rfl
theorem e_idle (needs crew : List Int) : m_idle_months (tI needs) (tI crew) = M.pure (.int (idle needs crew).sum) := by
  simp (disch := first | assumption | rfl | omega | decide) only [mp_bind, m_assoc, m_opt, m_cond_pure, m_cond_bind, m_cond_t, m_cond_f, mapM_map, filM_map, fold_map, foldF_map, mapM_pure, filM_pure, fold_pure, asI_i, asB_b, asS_l, asS_t, seqOf_l, seqOf_t, addD_i, iaddD_i, subD_i, fdivD_i, modD_i, negD_i, absD_i, intD_i, max2D_i, min2D_i, ltD_i, leD_i, gtD_i, geD_i, eqD_i, neD_i, lenD_l, lenD_t, tupleD_l, tupleD_t, listD_l, listD_t, slD_l, slD_t, revD_l, truthD_b, truthD_n, ixD_l, ixD_t, un2_t, un3_t, un4_t, zipI_l, zipI_t, isD_n, isnD_n, isNone_n, isNone_i, isNone_b, isNone_s, isNone_l, isNone_t, m_eta, Bool.not_true, Bool.not_false, isL_list, atI_0, atI_1, atI_2, atI_3, c_t, c_f, m_needT, isi_tuple_n, isi_tuple_b, isi_tuple_i, isi_tuple_s, isi_tuple_l, isi_tuple_t, isi_list_n, isi_list_b, isi_list_i, isi_list_s, isi_list_l, isi_list_t, isi_dict_n, isi_dict_b, isi_dict_i, isi_dict_s, isi_dict_l, isi_dict_t, isi_str_n, isi_str_b, isi_str_i, isi_str_s, isi_str_l, isi_str_t, isi_bool_n, isi_bool_b, isi_bool_i, isi_bool_s, isi_bool_l, isi_bool_t, isi_int_n, isi_int_b, isi_int_i, isi_int_s, isi_int_l, isi_int_t, bind_run, pure_run, m_idle_months, tI, zipD_ints]
  have : (needs.zip crew).map (fun p => (.int (max 0 (p.2 - p.1)) : D)) = (idle needs crew).map .int := by unfold idle; rw [List.map_map]; rfl
  simp (disch := first | assumption | rfl | omega | decide) only [mp_bind, m_assoc, m_opt, m_cond_pure, m_cond_bind, m_cond_t, m_cond_f, mapM_map, filM_map, fold_map, foldF_map, mapM_pure, filM_pure, fold_pure, asI_i, asB_b, asS_l, asS_t, seqOf_l, seqOf_t, addD_i, iaddD_i, subD_i, fdivD_i, modD_i, negD_i, absD_i, intD_i, max2D_i, min2D_i, ltD_i, leD_i, gtD_i, geD_i, eqD_i, neD_i, lenD_l, lenD_t, tupleD_l, tupleD_t, listD_l, listD_t, slD_l, slD_t, revD_l, truthD_b, truthD_n, ixD_l, ixD_t, un2_t, un3_t, un4_t, zipI_l, zipI_t, isD_n, isnD_n, isNone_n, isNone_i, isNone_b, isNone_s, isNone_l, isNone_t, m_eta, Bool.not_true, Bool.not_false, isL_list, atI_0, atI_1, atI_2, atI_3, c_t, c_f, m_needT, isi_tuple_n, isi_tuple_b, isi_tuple_i, isi_tuple_s, isi_tuple_l, isi_tuple_t, isi_list_n, isi_list_b, isi_list_i, isi_list_s, isi_list_l, isi_list_t, isi_dict_n, isi_dict_b, isi_dict_i, isi_dict_s, isi_dict_l, isi_dict_t, isi_str_n, isi_str_b, isi_str_i, isi_str_s, isi_str_l, isi_str_t, isi_bool_n, isi_bool_b, isi_bool_i, isi_bool_s, isi_bool_l, isi_bool_t, isi_int_n, isi_int_b, isi_int_i, isi_int_s, isi_int_l, isi_int_t, bind_run, pure_run, this, sum1_l]
/-! ### ups -/
def up : Int → List Int → Int
  | _, [] => 0
  | now, h :: t => max 0 (h - now) + up h t
def dn : Int → List Int → Int
  | _, [] => 0
  | now, h :: t => max 0 (now - h) + dn h t
theorem fold_up : ∀ (crew : List Int) (a b now : Int), crew.foldl (fun (t : Int × Int × Int) h => (t.1 + max 0 (h - t.2.2), t.2.1 + max 0 (t.2.2 - h), h)) (a, b, now) = (a + up now crew, b + dn now crew, (crew.foldl (fun _ h => h) now))
  | [], a, b, now => by simp [up, dn]
  | h :: t, a, b, now => by
    rw [List.foldl_cons, fold_up t]
    simp [up, dn]; omega
theorem e_ups (now : Int) (crew : List Int) : m_ups (.int now) (tI crew) = M.pure (tI [up now crew, dn now crew]) := by
  simp (disch := first | assumption | rfl | omega | decide) only [mp_bind, m_assoc, m_opt, m_cond_pure, m_cond_bind, m_cond_t, m_cond_f, mapM_map, filM_map, fold_map, foldF_map, mapM_pure, filM_pure, fold_pure, asI_i, asB_b, asS_l, asS_t, seqOf_l, seqOf_t, addD_i, iaddD_i, subD_i, fdivD_i, modD_i, negD_i, absD_i, intD_i, max2D_i, min2D_i, ltD_i, leD_i, gtD_i, geD_i, eqD_i, neD_i, lenD_l, lenD_t, tupleD_l, tupleD_t, listD_l, listD_t, slD_l, slD_t, revD_l, truthD_b, truthD_n, ixD_l, ixD_t, un2_t, un3_t, un4_t, zipI_l, zipI_t, isD_n, isnD_n, isNone_n, isNone_i, isNone_b, isNone_s, isNone_l, isNone_t, m_eta, Bool.not_true, Bool.not_false, isL_list, atI_0, atI_1, atI_2, atI_3, c_t, c_f, m_needT, isi_tuple_n, isi_tuple_b, isi_tuple_i, isi_tuple_s, isi_tuple_l, isi_tuple_t, isi_list_n, isi_list_b, isi_list_i, isi_list_s, isi_list_l, isi_list_t, isi_dict_n, isi_dict_b, isi_dict_i, isi_dict_s, isi_dict_l, isi_dict_t, isi_str_n, isi_str_b, isi_str_i, isi_str_s, isi_str_l, isi_str_t, isi_bool_n, isi_bool_b, isi_bool_i, isi_bool_s, isi_bool_l, isi_bool_t, isi_int_n, isi_int_b, isi_int_i, isi_int_s, isi_int_l, isi_int_t, bind_run, pure_run, m_ups, tI]
  rw [fold_enc (fun t : Int × Int × Int => ((.int t.1 : D), (.int t.2.1 : D), (.int t.2.2 : D))) (fun t h => (t.1 + max 0 (h - t.2.2), t.2.1 + max 0 (t.2.2 - h), h)) (fun _ _ => True) (t := (0, 0, now)) 0 trivial (fun t n h hh ht => ⟨by simp (disch := first | assumption | rfl | omega | decide) only [mp_bind, m_assoc, m_opt, m_cond_pure, m_cond_bind, m_cond_t, m_cond_f, mapM_map, filM_map, fold_map, foldF_map, mapM_pure, filM_pure, fold_pure, asI_i, asB_b, asS_l, asS_t, seqOf_l, seqOf_t, addD_i, iaddD_i, subD_i, fdivD_i, modD_i, negD_i, absD_i, intD_i, max2D_i, min2D_i, ltD_i, leD_i, gtD_i, geD_i, eqD_i, neD_i, lenD_l, lenD_t, tupleD_l, tupleD_t, listD_l, listD_t, slD_l, slD_t, revD_l, truthD_b, truthD_n, ixD_l, ixD_t, un2_t, un3_t, un4_t, zipI_l, zipI_t, isD_n, isnD_n, isNone_n, isNone_i, isNone_b, isNone_s, isNone_l, isNone_t, m_eta, Bool.not_true, Bool.not_false, isL_list, atI_0, atI_1, atI_2, atI_3, c_t, c_f, m_needT, isi_tuple_n, isi_tuple_b, isi_tuple_i, isi_tuple_s, isi_tuple_l, isi_tuple_t, isi_list_n, isi_list_b, isi_list_i, isi_list_s, isi_list_l, isi_list_t, isi_dict_n, isi_dict_b, isi_dict_i, isi_dict_s, isi_dict_l, isi_dict_t, isi_str_n, isi_str_b, isi_str_i, isi_str_s, isi_str_l, isi_str_t, isi_bool_n, isi_bool_b, isi_bool_i, isi_bool_s, isi_bool_l, isi_bool_t, isi_int_n, isi_int_b, isi_int_i, isi_int_s, isi_int_l, isi_int_t, bind_run, pure_run], trivial⟩)]
  simp (disch := first | assumption | rfl | omega | decide) only [mp_bind, m_assoc, m_opt, m_cond_pure, m_cond_bind, m_cond_t, m_cond_f, mapM_map, filM_map, fold_map, foldF_map, mapM_pure, filM_pure, fold_pure, asI_i, asB_b, asS_l, asS_t, seqOf_l, seqOf_t, addD_i, iaddD_i, subD_i, fdivD_i, modD_i, negD_i, absD_i, intD_i, max2D_i, min2D_i, ltD_i, leD_i, gtD_i, geD_i, eqD_i, neD_i, lenD_l, lenD_t, tupleD_l, tupleD_t, listD_l, listD_t, slD_l, slD_t, revD_l, truthD_b, truthD_n, ixD_l, ixD_t, un2_t, un3_t, un4_t, zipI_l, zipI_t, isD_n, isnD_n, isNone_n, isNone_i, isNone_b, isNone_s, isNone_l, isNone_t, m_eta, Bool.not_true, Bool.not_false, isL_list, atI_0, atI_1, atI_2, atI_3, c_t, c_f, m_needT, isi_tuple_n, isi_tuple_b, isi_tuple_i, isi_tuple_s, isi_tuple_l, isi_tuple_t, isi_list_n, isi_list_b, isi_list_i, isi_list_s, isi_list_l, isi_list_t, isi_dict_n, isi_dict_b, isi_dict_i, isi_dict_s, isi_dict_l, isi_dict_t, isi_str_n, isi_str_b, isi_str_i, isi_str_s, isi_str_l, isi_str_t, isi_bool_n, isi_bool_b, isi_bool_i, isi_bool_s, isi_bool_l, isi_bool_t, isi_int_n, isi_int_b, isi_int_i, isi_int_s, isi_int_l, isi_int_t, bind_run, pure_run, fold_up, Int.zero_add]
  rfl
end L37
namespace L37
open PySem PySem.Spec PyProof.Rows L2 Wp

/-! ### crews month by month -/
abbrev Res := Int × List Int
inductive Cr (p : Pr) (first top : Int) : List (Int × (Int → Int)) → Int → Res → Prop
  | nil : Cr p first top [] first (0, [])
  | snoc {st now a low ext h} : Cr p first top st now a → low ≤ h → h ≤ top → Cr p first top (st ++ [(low, ext)]) h (a.1 + stp p now h + ext h, a.2 ++ [h])
theorem Cr.inv {p : Pr} {first top : Int} {st : List (Int × (Int → Int))} {now : Int} {a : Res} (h : Cr p first top st now a) : (st = [] ∧ now = first ∧ a = (0, [])) ∨ ∃ st0 now0 a0 low ext, st = st0 ++ [(low, ext)] ∧ Cr p first top st0 now0 a0 ∧ low ≤ now ∧ now ≤ top ∧ a = (a0.1 + stp p now0 now + ext now, a0.2 ++ [now]) := by
  cases h with
  | nil => exact .inl ⟨rfl, rfl, rfl⟩
  | snoc c l1 l2 => exact .inr ⟨_, _, _, _, _, rfl, c, l1, l2, rfl⟩
theorem Cr.nil_inv {p : Pr} {first top : Int} {now : Int} {a : Res} (h : Cr p first top [] now a) : now = first ∧ a = (0, []) := by
  rcases h.inv with ⟨_, h1, h2⟩ | ⟨st0, _, _, _, _, e, _⟩
  · exact ⟨h1, h2⟩
  · simp at e
theorem Cr.len {p : Pr} {first top : Int} {st : List (Int × (Int → Int))} {now : Int} {a : Res} (h : Cr p first top st now a) : a.2.length = st.length := by
  induction h with
  | nil => rfl
  | snoc _ _ _ ih => simp [ih]
structure BestOk (p : Pr) (first top : Int) (st : List (Int × (Int → Int))) (es : List (Int × Res)) : Prop where
  nd : (es.map (·.1)).Nodup
  all : ∀ now a, Cr p first top st now a → ∃ q ∈ es, q.1 = now
  ok : ∀ q ∈ es, Cr p first top st q.1 q.2 ∧ ∀ a, Cr p first top st q.1 a → ltR a q.2 = false
  rg : ∀ q ∈ es, 0 ≤ q.1 ∧ q.1 ≤ 10
  ne : es ≠ []
  ln : es.length ≤ 20
def dR (es : List (Int × Res)) : D := dI (es.map fun q => (q.1, rD q.2))
/-- the ways into h -/
def into (p : Pr) (es : List (Int × Res)) (h own : Int) : List Res := es.map fun q => (q.2.1 + stp p q.1 h + own, q.2.2 ++ [h])
theorem ltR_step {a b : Res} {k h : Int} (e : a.2.length = b.2.length) (l : ltR a b = false) : ltR (a.1 + k, a.2 ++ [h]) (b.1 + k, b.2 ++ [h]) = false := by
  unfold ltR at l ⊢
  show (decide (a.1 + k < b.1 + k) || (decide (a.1 + k = b.1 + k) && ltI (a.2 ++ [h]) (b.2 ++ [h]))) = false
  rw [ltI_snoc h e]
  have e1 : decide (a.1 + k < b.1 + k) = decide (a.1 < b.1) := decide_eq_decide.mpr (by omega)
  have e2 : decide (a.1 + k = b.1 + k) = decide (a.1 = b.1) := decide_eq_decide.mpr (by omega)
  rw [e1, e2]; exact l
/-- the least of some -/
theorem least_ex : ∀ {xs : List Res}, xs ≠ [] → ∃ m ∈ xs, ∀ y ∈ xs, ltR y m = false
  | [], h => absurd rfl h
  | x :: xs, _ => by
    obtain ⟨h1, h2⟩ := minL_spec (ds := (x :: xs).map rD) (by simp)
    obtain ⟨m, hm, e⟩ := List.mem_map.mp h1
    refine ⟨m, hm, fun y hy => ?_⟩
    rw [← dlt_rD, e]
    exact h2 _ (List.mem_map.mpr ⟨y, hy, rfl⟩)
section
variable {p : Pr} {first top : Int} {st : List (Int × (Int → Int))} {es : List (Int × Res)}
theorem into_least (B : BestOk p first top st es) {low h : Int} {ext : Int → Int} (h1 : low ≤ h) (h2 : h ≤ top) {m : Res} (hm : m ∈ into p es h (ext h)) (hl : ∀ y ∈ into p es h (ext h), ltR y m = false) :
    Cr p first top (st ++ [(low, ext)]) h m ∧ ∀ a, Cr p first top (st ++ [(low, ext)]) h a → ltR a m = false := by
  constructor
  · obtain ⟨q, hq, rfl⟩ := List.mem_map.mp hm
    exact .snoc (B.ok q hq).1 h1 h2
  · intro a ha
    generalize hst : st ++ [(low, ext)] = st' at ha
    cases ha with
    | nil => simp at hst
    | snoc c l1 l2 =>
      rename_i st0 now a0 low0 ext0
      obtain ⟨e1, e2⟩ := List.append_inj' hst rfl
      subst e1
      simp at e2
      obtain ⟨rfl, rfl⟩ := e2
      obtain ⟨q, hq, rfl⟩ := B.all _ _ c
      obtain ⟨c1, c2⟩ := B.ok q hq
      have k := ltR_step (k := stp p q.1 h + ext h) (h := h) (by rw [c.len, c1.len]) (c2 a0 c)
      have k2 := hl _ (List.mem_map.mpr ⟨q, hq, rfl⟩)
      rw [← Int.add_assoc, ← Int.add_assoc] at k
      exact ltR_trans k k2
end
def rowD (r : List Int) : D := .list (r.map .int)
def extOf (r : List Int) : Int → Int := fun h => if h < (r.length : Int) then r.getD h.toNat 0 else 0
def stOf (s : Int × List Int) : Int × (Int → Int) := (s.1, extOf s.2)
theorem lookup_dR {es : List (Int × Res)} (nd : (es.map (·.1)).Nodup) {q : Int × Res} (h : q ∈ es) : (es.map fun q => (q.1, rD q.2)).lookup q.1 = some (rD q.2) := by
  have := lookup_memI (es := es.map fun q => (q.1, rD q.2)) (by rw [List.map_map]; exact nd) (p := (q.1, rD q.2)) (List.mem_map.mpr ⟨q, h, rfl⟩)
  exact this
theorem keys_dR {es : List (Int × Res)} : keysD (dR es) = M.pure (es.map fun q => .int q.1) := by
  unfold dR; rw [keysD_dI, List.map_map]; rfl
theorem ix_dR {p : Pr} {first top : Int} {st : List (Int × (Int → Int))} {es : List (Int × Res)} (B : BestOk p first top st es) {q : Int × Res} (h : q ∈ es) : ixD (dR es) (.int q.1) = M.pure (rD q.2) := by
  unfold dR; rw [ixD_dI, lookup_dR B.nd h, m_opt]
theorem atI_int {xs : List Int} {h : Int} (h0 : 0 ≤ h) (h1 : h < (xs.length : Int)) : atI (xs.map PyData.int) h = some (.int (xs.getD h.toNat 0)) := by
  have e : h = (h.toNat : Int) := by omega
  have hl : h.toNat < xs.length := by omega
  rw [e, Wp.atI_nat, List.getElem?_map, List.getElem?_eq_getElem hl, Int.toNat_natCast]
  simp [List.getD, List.getElem?_eq_getElem hl]
section
variable {p : Pr} (hp : p.Ok) {first top : Int} (h0 : 0 ≤ first ∧ first ≤ 10) (ht : top ≤ 10)
include hp h0 ht
theorem rows_eq {st : List (Int × (Int → Int))} {es : List (Int × Res)} (B : BestOk p first top st es) {h own : Int} (hh : 0 ≤ h ∧ h ≤ 10) (hst : st.length ≤ 5) :
    (M.fold (fun s79 x111 => (ixD (dR es) x111).bind fun x83 => (un2 x83).bind fun t84 => M.need (isL s79 = true) ((m_cost_of_crew (prD p) x111 (PyData.tuple [.int h])).bind fun x => (addD t84.fst x).bind fun x => (addD x (.int own)).bind fun x => (addD t84.snd (PyData.tuple [.int h])).bind fun x_4 => (appD s79 (PyData.tuple [x, x_4])).bind fun rows_106 => M.pure rows_106)) (PyData.list []) (es.map fun q => .int q.1)) = M.pure (.list ((into p es h own).map rD)) := by
  rw [fold_map, fold_app (fun q => rD (q.2.1 + stp p q.1 h + own, q.2.2 ++ [h])) (fun acc q hq hz => ?_) (by have := B.ln; simp; omega)]
  · rw [List.nil_append, into, List.map_map]; rfl
  · have e := e_cost hp (B.rg q hq) (crew := [h]) (fun n hn => by simp at hn; subst hn; exact hh)
    have hlen := (B.ok q hq).1.len
    simp (disch := first | assumption | rfl | omega | decide) only [mp_bind, m_assoc, m_opt, m_cond_pure, m_cond_bind, m_cond_t, m_cond_f, mapM_map, filM_map, fold_map, foldF_map, mapM_pure, filM_pure, fold_pure, asI_i, asB_b, asS_l, asS_t, seqOf_l, seqOf_t, addD_i, iaddD_i, subD_i, fdivD_i, modD_i, negD_i, absD_i, intD_i, max2D_i, min2D_i, ltD_i, leD_i, gtD_i, geD_i, eqD_i, neD_i, lenD_l, lenD_t, tupleD_l, tupleD_t, listD_l, listD_t, slD_l, slD_t, revD_l, truthD_b, truthD_n, ixD_l, ixD_t, un2_t, un3_t, un4_t, zipI_l, zipI_t, isD_n, isnD_n, isNone_n, isNone_i, isNone_b, isNone_s, isNone_l, isNone_t, m_eta, Bool.not_true, Bool.not_false, isL_list, atI_0, atI_1, atI_2, atI_3, c_t, c_f, m_needT, isi_tuple_n, isi_tuple_b, isi_tuple_i, isi_tuple_s, isi_tuple_l, isi_tuple_t, isi_list_n, isi_list_b, isi_list_i, isi_list_s, isi_list_l, isi_list_t, isi_dict_n, isi_dict_b, isi_dict_i, isi_dict_s, isi_dict_l, isi_dict_t, isi_str_n, isi_str_b, isi_str_i, isi_str_s, isi_str_l, isi_str_t, isi_bool_n, isi_bool_b, isi_bool_i, isi_bool_s, isi_bool_l, isi_bool_t, isi_int_n, isi_int_b, isi_int_i, isi_int_s, isi_int_l, isi_int_t, bind_run, pure_run, ix_dR B hq, rD, tI]
    unfold tI at e
    rw [List.map_cons, List.map_nil] at e
    simp (disch := first | assumption | rfl | omega | decide) only [mp_bind, m_assoc, m_opt, m_cond_pure, m_cond_bind, m_cond_t, m_cond_f, mapM_map, filM_map, fold_map, foldF_map, mapM_pure, filM_pure, fold_pure, asI_i, asB_b, asS_l, asS_t, seqOf_l, seqOf_t, addD_i, iaddD_i, subD_i, fdivD_i, modD_i, negD_i, absD_i, intD_i, max2D_i, min2D_i, ltD_i, leD_i, gtD_i, geD_i, eqD_i, neD_i, lenD_l, lenD_t, tupleD_l, tupleD_t, listD_l, listD_t, slD_l, slD_t, revD_l, truthD_b, truthD_n, ixD_l, ixD_t, un2_t, un3_t, un4_t, zipI_l, zipI_t, isD_n, isnD_n, isNone_n, isNone_i, isNone_b, isNone_s, isNone_l, isNone_t, m_eta, Bool.not_true, Bool.not_false, isL_list, atI_0, atI_1, atI_2, atI_3, c_t, c_f, m_needT, isi_tuple_n, isi_tuple_b, isi_tuple_i, isi_tuple_s, isi_tuple_l, isi_tuple_t, isi_list_n, isi_list_b, isi_list_i, isi_list_s, isi_list_l, isi_list_t, isi_dict_n, isi_dict_b, isi_dict_i, isi_dict_s, isi_dict_l, isi_dict_t, isi_str_n, isi_str_b, isi_str_i, isi_str_s, isi_str_l, isi_str_t, isi_bool_n, isi_bool_b, isi_bool_i, isi_bool_s, isi_bool_l, isi_bool_t, isi_int_n, isi_int_b, isi_int_i, isi_int_s, isi_int_l, isi_int_t, bind_run, pure_run, e, addD_t (xs := q.2.2.map PyData.int) (ys := [.int h]) (by simp; omega), appD_l hz]
    have e2 : (q.2.2 ++ [h]).map PyData.int = q.2.2.map PyData.int ++ [.int h] := by simp
    rw [e2]
    simp [cst]
theorem r_best_by {L : D} {sts : List (Int × List Int)} (hz : zipX L (.list (sts.map fun s => .list (s.2.map .int))) = M.pure (sts.map fun s => .tuple [.int s.1, .list (s.2.map .int)])) (hl : sts.length ≤ 5) (htop : top = maxI first (sts.map fun s => (s.2.length : Int) - 1)) (hlow : ∀ s ∈ sts, 0 ≤ s.1 ∧ s.1 ≤ top)
    {m : Res} (hm : ∃ now, Cr p first top (sts.map stOf) now m) (hmin : ∀ now a, Cr p first top (sts.map stOf) now a → ltR a m = false) : Ret (m_best_by (prD p) (.int first) L (.list (sts.map fun s => .list (s.2.map .int)))) (rD m) := by
  intro P hP
  have h5 : ([(.int first : D)].length + (sts.map fun s => (.int ((s.2.length : Int) - 1) : D)).length) ≤ 16777216 := by simp; omega
  have emap : (sts.map fun s => (.int ((s.2.length : Int) - 1) : D)) = (sts.map fun s => (s.2.length : Int) - 1).map .int := by rw [List.map_map]; rfl
  simp (disch := first | assumption | rfl | omega | decide) only [mp_bind, m_assoc, m_opt, m_cond_pure, m_cond_bind, m_cond_t, m_cond_f, mapM_map, filM_map, fold_map, foldF_map, mapM_pure, filM_pure, fold_pure, asI_i, asB_b, asS_l, asS_t, seqOf_l, seqOf_t, addD_i, iaddD_i, subD_i, fdivD_i, modD_i, negD_i, absD_i, intD_i, max2D_i, min2D_i, ltD_i, leD_i, gtD_i, geD_i, eqD_i, neD_i, lenD_l, lenD_t, tupleD_l, tupleD_t, listD_l, listD_t, slD_l, slD_t, revD_l, truthD_b, truthD_n, ixD_l, ixD_t, un2_t, un3_t, un4_t, zipI_l, zipI_t, isD_n, isnD_n, isNone_n, isNone_i, isNone_b, isNone_s, isNone_l, isNone_t, m_eta, Bool.not_true, Bool.not_false, isL_list, atI_0, atI_1, atI_2, atI_3, c_t, c_f, m_needT, isi_tuple_n, isi_tuple_b, isi_tuple_i, isi_tuple_s, isi_tuple_l, isi_tuple_t, isi_list_n, isi_list_b, isi_list_i, isi_list_s, isi_list_l, isi_list_t, isi_dict_n, isi_dict_b, isi_dict_i, isi_dict_s, isi_dict_l, isi_dict_t, isi_str_n, isi_str_b, isi_str_i, isi_str_s, isi_str_l, isi_str_t, isi_bool_n, isi_bool_b, isi_bool_i, isi_bool_s, isi_bool_l, isi_bool_t, isi_int_n, isi_int_b, isi_int_i, isi_int_s, isi_int_l, isi_int_t, bind_run, pure_run, m_best_by, hz, List.length_map, addD_l h5, List.singleton_append]
  rw [emap, max1_l, ← htop]
  simp (disch := first | assumption | rfl | omega | decide) only [mp_bind, m_assoc, m_opt, m_cond_pure, m_cond_bind, m_cond_t, m_cond_f, mapM_map, filM_map, fold_map, foldF_map, mapM_pure, filM_pure, fold_pure, asI_i, asB_b, asS_l, asS_t, seqOf_l, seqOf_t, addD_i, iaddD_i, subD_i, fdivD_i, modD_i, negD_i, absD_i, intD_i, max2D_i, min2D_i, ltD_i, leD_i, gtD_i, geD_i, eqD_i, neD_i, lenD_l, lenD_t, tupleD_l, tupleD_t, listD_l, listD_t, slD_l, slD_t, revD_l, truthD_b, truthD_n, ixD_l, ixD_t, un2_t, un3_t, un4_t, zipI_l, zipI_t, isD_n, isnD_n, isNone_n, isNone_i, isNone_b, isNone_s, isNone_l, isNone_t, m_eta, Bool.not_true, Bool.not_false, isL_list, atI_0, atI_1, atI_2, atI_3, c_t, c_f, m_needT, isi_tuple_n, isi_tuple_b, isi_tuple_i, isi_tuple_s, isi_tuple_l, isi_tuple_t, isi_list_n, isi_list_b, isi_list_i, isi_list_s, isi_list_l, isi_list_t, isi_dict_n, isi_dict_b, isi_dict_i, isi_dict_s, isi_dict_l, isi_dict_t, isi_str_n, isi_str_b, isi_str_i, isi_str_s, isi_str_l, isi_str_t, isi_bool_n, isi_bool_b, isi_bool_i, isi_bool_s, isi_bool_l, isi_bool_t, isi_int_n, isi_int_b, isi_int_i, isi_int_s, isi_int_l, isi_int_t, bind_run, pure_run]
  rw [m_need (by rfl)]
  simp (disch := first | assumption | rfl | omega | decide) only [mp_bind, m_assoc, m_opt, m_cond_pure, m_cond_bind, m_cond_t, m_cond_f, mapM_map, filM_map, fold_map, foldF_map, mapM_pure, filM_pure, fold_pure, asI_i, asB_b, asS_l, asS_t, seqOf_l, seqOf_t, addD_i, iaddD_i, subD_i, fdivD_i, modD_i, negD_i, absD_i, intD_i, max2D_i, min2D_i, ltD_i, leD_i, gtD_i, geD_i, eqD_i, neD_i, lenD_l, lenD_t, tupleD_l, tupleD_t, listD_l, listD_t, slD_l, slD_t, revD_l, truthD_b, truthD_n, ixD_l, ixD_t, un2_t, un3_t, un4_t, zipI_l, zipI_t, isD_n, isnD_n, isNone_n, isNone_i, isNone_b, isNone_s, isNone_l, isNone_t, m_eta, Bool.not_true, Bool.not_false, isL_list, atI_0, atI_1, atI_2, atI_3, c_t, c_f, m_needT, isi_tuple_n, isi_tuple_b, isi_tuple_i, isi_tuple_s, isi_tuple_l, isi_tuple_t, isi_list_n, isi_list_b, isi_list_i, isi_list_s, isi_list_l, isi_list_t, isi_dict_n, isi_dict_b, isi_dict_i, isi_dict_s, isi_dict_l, isi_dict_t, isi_str_n, isi_str_b, isi_str_i, isi_str_s, isi_str_l, isi_str_t, isi_bool_n, isi_bool_b, isi_bool_i, isi_bool_s, isi_bool_l, isi_bool_t, isi_int_n, isi_int_b, isi_int_i, isi_int_s, isi_int_l, isi_int_t, bind_run, pure_run, hz]
  refine fold_run (fun i s => ∃ es, s = dR es ∧ BestOk p first top ((sts.take i).map stOf) es) sts ⟨[(first, (0, []))], rfl, ?_⟩ (fun i hi s hI Q hQ => ?_) fun s hI => ?_
  · refine ⟨by simp, fun now a c => ?_, fun q hq => ?_, fun q hq => ?_, by simp, by simp⟩
    · have e0 : (sts.take 0).map stOf = [] := by simp
      rw [e0] at c
      exact ⟨(first, 0, []), List.mem_singleton.mpr rfl, c.nil_inv.1.symm⟩
    · simp at hq; subst hq
      have e0 : (sts.take 0).map stOf = [] := by simp
      rw [e0]
      refine ⟨.nil, fun a c => ?_⟩
      rw [c.nil_inv.2]
      show ltR ((0, []) : Res) (0, []) = false
      decide +kernel
    · simp at hq; subst hq; exact h0
  · obtain ⟨es, rfl, B⟩ := hI
    have hlo := hlow _ (List.getElem_mem hi)
    generalize hs : sts[i] = q at *
    obtain ⟨low, row⟩ := q
    have hstl : ((sts.take i).map stOf).length ≤ 5 := by simp; omega
    have etake : (sts.take (i + 1)).map stOf = (sts.take i).map stOf ++ [(low, extOf row)] := by
      rw [List.take_succ_eq_append_getElem hi, List.map_append, hs]; rfl
    simp (disch := first | assumption | rfl | omega | decide) only [mp_bind, m_assoc, m_opt, m_cond_pure, m_cond_bind, m_cond_t, m_cond_f, mapM_map, filM_map, fold_map, foldF_map, mapM_pure, filM_pure, fold_pure, asI_i, asB_b, asS_l, asS_t, seqOf_l, seqOf_t, addD_i, iaddD_i, subD_i, fdivD_i, modD_i, negD_i, absD_i, intD_i, max2D_i, min2D_i, ltD_i, leD_i, gtD_i, geD_i, eqD_i, neD_i, lenD_l, lenD_t, tupleD_l, tupleD_t, listD_l, listD_t, slD_l, slD_t, revD_l, truthD_b, truthD_n, ixD_l, ixD_t, un2_t, un3_t, un4_t, zipI_l, zipI_t, isD_n, isnD_n, isNone_n, isNone_i, isNone_b, isNone_s, isNone_l, isNone_t, m_eta, Bool.not_true, Bool.not_false, isL_list, atI_0, atI_1, atI_2, atI_3, c_t, c_f, m_needT, isi_tuple_n, isi_tuple_b, isi_tuple_i, isi_tuple_s, isi_tuple_l, isi_tuple_t, isi_list_n, isi_list_b, isi_list_i, isi_list_s, isi_list_l, isi_list_t, isi_dict_n, isi_dict_b, isi_dict_i, isi_dict_s, isi_dict_l, isi_dict_t, isi_str_n, isi_str_b, isi_str_i, isi_str_s, isi_str_l, isi_str_t, isi_bool_n, isi_bool_b, isi_bool_i, isi_bool_s, isi_bool_l, isi_bool_t, isi_int_n, isi_int_b, isi_int_i, isi_int_s, isi_int_l, isi_int_t, bind_run, pure_run, rngD_ab (a := low) (b := top + 1) (by omega) (by omega) (by omega) (by omega) (by omega)]
    refine fold_run (fun j s => ∃ es', s = dR es' ∧ es'.map (·.1) = (List.range j).map (fun (k : Nat) => low + (k : Int)) ∧ ∀ q ∈ es', Cr p first top ((sts.take i).map stOf ++ [(low, extOf row)]) q.1 q.2 ∧ ∀ a, Cr p first top ((sts.take i).map stOf ++ [(low, extOf row)]) q.1 a → ltR a q.2 = false) _ ⟨[], rfl, rfl, fun _ h => nomatch h⟩ (fun j hj s hJ Q2 hQ2 => ?_) fun s hJ => ?_
    · obtain ⟨es', rfl, hk, hc⟩ := hJ
      have hj' : j < (top + 1 - low).toNat := by simpa using hj
      have ej : (List.range (top + 1 - low).toNat)[j] = j := by simp
      rw [ej]
      have hh : 0 ≤ low + (j : Int) ∧ low + (j : Int) ≤ 10 := by omega
      obtain ⟨m', hm', hl'⟩ := least_ex (xs := into p es (low + (j : Int)) (extOf row (low + (j : Int)))) (by unfold into; simpa using B.ne)
      have fresh : low + (j : Int) ∉ (es'.map fun q => (q.1, rD q.2)).map (·.1) := by
        rw [List.map_map]
        show _ ∉ es'.map (·.1)
        rw [hk]
        simp
        intro x hx; omega
      have lnk : es'.length = j := by have := congrArg List.length hk; simpa using this
      have fin : ∀ own, own = extOf row (low + (j : Int)) → (M.fold (fun s79 x111 => (ixD (dR es) x111).bind fun x83 => (un2 x83).bind fun t84 => M.need (isL s79 = true) ((m_cost_of_crew (prD p) x111 (PyData.tuple [.int (low + (j : Int))])).bind fun x => (addD t84.fst x).bind fun x => (addD x (.int own)).bind fun x => (addD t84.snd (PyData.tuple [.int (low + (j : Int))])).bind fun x_4 => (appD s79 (PyData.tuple [x, x_4])).bind fun rows_106 => M.pure rows_106)) (PyData.list []) (es.map fun q => .int q.1)) (fun s79 => min1D s79 fun x108 => dputD (dR es') (.int (low + (j : Int))) x108 Q2) := by
        intro own ho
        subst ho
        rw [rows_eq hp h0 ht B hh hstl, pure_run, min1D_rD hm' hl', pure_run]
        unfold dR
        rw [dputD_dI fresh (by simp; omega), pure_run]
        refine hQ2 _ ⟨es' ++ [(low + (j : Int), m')], by simp [dR], ?_, fun q hq => ?_⟩
        · rw [List.map_append, hk, List.range_succ, List.map_append]; rfl
        · rcases List.mem_append.mp hq with hq | hq
          · exact hc q hq
          · simp at hq; subst hq
            exact into_least B (by omega) (by omega) hm' hl'
      simp (disch := first | assumption | rfl | omega | decide) only [mp_bind, m_assoc, m_opt, m_cond_pure, m_cond_bind, m_cond_t, m_cond_f, mapM_map, filM_map, fold_map, foldF_map, mapM_pure, filM_pure, fold_pure, asI_i, asB_b, asS_l, asS_t, seqOf_l, seqOf_t, addD_i, iaddD_i, subD_i, fdivD_i, modD_i, negD_i, absD_i, intD_i, max2D_i, min2D_i, ltD_i, leD_i, gtD_i, geD_i, eqD_i, neD_i, lenD_l, lenD_t, tupleD_l, tupleD_t, listD_l, listD_t, slD_l, slD_t, revD_l, truthD_b, truthD_n, ixD_l, ixD_t, un2_t, un3_t, un4_t, zipI_l, zipI_t, isD_n, isnD_n, isNone_n, isNone_i, isNone_b, isNone_s, isNone_l, isNone_t, m_eta, Bool.not_true, Bool.not_false, isL_list, atI_0, atI_1, atI_2, atI_3, c_t, c_f, m_needT, isi_tuple_n, isi_tuple_b, isi_tuple_i, isi_tuple_s, isi_tuple_l, isi_tuple_t, isi_list_n, isi_list_b, isi_list_i, isi_list_s, isi_list_l, isi_list_t, isi_dict_n, isi_dict_b, isi_dict_i, isi_dict_s, isi_dict_l, isi_dict_t, isi_str_n, isi_str_b, isi_str_i, isi_str_s, isi_str_l, isi_str_t, isi_bool_n, isi_bool_b, isi_bool_i, isi_bool_s, isi_bool_l, isi_bool_t, isi_int_n, isi_int_b, isi_int_i, isi_int_s, isi_int_l, isi_int_t, bind_run, pure_run, keys_dR]
      by_cases hlt : low + (j : Int) < (row.length : Int)
      · simp (disch := first | assumption | rfl | omega | decide) only [mp_bind, m_assoc, m_opt, m_cond_pure, m_cond_bind, m_cond_t, m_cond_f, mapM_map, filM_map, fold_map, foldF_map, mapM_pure, filM_pure, fold_pure, asI_i, asB_b, asS_l, asS_t, seqOf_l, seqOf_t, addD_i, iaddD_i, subD_i, fdivD_i, modD_i, negD_i, absD_i, intD_i, max2D_i, min2D_i, ltD_i, leD_i, gtD_i, geD_i, eqD_i, neD_i, lenD_l, lenD_t, tupleD_l, tupleD_t, listD_l, listD_t, slD_l, slD_t, revD_l, truthD_b, truthD_n, ixD_l, ixD_t, un2_t, un3_t, un4_t, zipI_l, zipI_t, isD_n, isnD_n, isNone_n, isNone_i, isNone_b, isNone_s, isNone_l, isNone_t, m_eta, Bool.not_true, Bool.not_false, isL_list, atI_0, atI_1, atI_2, atI_3, c_t, c_f, m_needT, isi_tuple_n, isi_tuple_b, isi_tuple_i, isi_tuple_s, isi_tuple_l, isi_tuple_t, isi_list_n, isi_list_b, isi_list_i, isi_list_s, isi_list_l, isi_list_t, isi_dict_n, isi_dict_b, isi_dict_i, isi_dict_s, isi_dict_l, isi_dict_t, isi_str_n, isi_str_b, isi_str_i, isi_str_s, isi_str_l, isi_str_t, isi_bool_n, isi_bool_b, isi_bool_i, isi_bool_s, isi_bool_l, isi_bool_t, isi_int_n, isi_int_b, isi_int_i, isi_int_s, isi_int_l, isi_int_t, bind_run, pure_run, decide_eq_true hlt, atI_int hh.1 hlt]
        have := fin _ (by unfold extOf; rw [if_pos hlt])
        rw [fold_map] at this
        exact this
      · simp (disch := first | assumption | rfl | omega | decide) only [mp_bind, m_assoc, m_opt, m_cond_pure, m_cond_bind, m_cond_t, m_cond_f, mapM_map, filM_map, fold_map, foldF_map, mapM_pure, filM_pure, fold_pure, asI_i, asB_b, asS_l, asS_t, seqOf_l, seqOf_t, addD_i, iaddD_i, subD_i, fdivD_i, modD_i, negD_i, absD_i, intD_i, max2D_i, min2D_i, ltD_i, leD_i, gtD_i, geD_i, eqD_i, neD_i, lenD_l, lenD_t, tupleD_l, tupleD_t, listD_l, listD_t, slD_l, slD_t, revD_l, truthD_b, truthD_n, ixD_l, ixD_t, un2_t, un3_t, un4_t, zipI_l, zipI_t, isD_n, isnD_n, isNone_n, isNone_i, isNone_b, isNone_s, isNone_l, isNone_t, m_eta, Bool.not_true, Bool.not_false, isL_list, atI_0, atI_1, atI_2, atI_3, c_t, c_f, m_needT, isi_tuple_n, isi_tuple_b, isi_tuple_i, isi_tuple_s, isi_tuple_l, isi_tuple_t, isi_list_n, isi_list_b, isi_list_i, isi_list_s, isi_list_l, isi_list_t, isi_dict_n, isi_dict_b, isi_dict_i, isi_dict_s, isi_dict_l, isi_dict_t, isi_str_n, isi_str_b, isi_str_i, isi_str_s, isi_str_l, isi_str_t, isi_bool_n, isi_bool_b, isi_bool_i, isi_bool_s, isi_bool_l, isi_bool_t, isi_int_n, isi_int_b, isi_int_i, isi_int_s, isi_int_l, isi_int_t, bind_run, pure_run, decide_eq_false hlt]
        have := fin _ (by unfold extOf; rw [if_neg hlt])
        rw [fold_map] at this
        exact this
    · obtain ⟨es', rfl, hk, hc⟩ := hJ
      refine hQ _ ⟨es', rfl, ?_⟩
      rw [etake]
      rw [List.length_range] at hk
      have memk : ∀ q ∈ es', low ≤ q.1 ∧ q.1 ≤ top := fun q hq => by
        have : q.1 ∈ es'.map (·.1) := List.mem_map.mpr ⟨q, hq, rfl⟩
        rw [hk] at this
        obtain ⟨k, hk1, e⟩ := List.mem_map.mp this
        have := List.mem_range.mp hk1
        omega
      refine ⟨?_, fun now a c => ?_, hc, fun q hq => by have := memk q hq; omega, fun e => ?_, ?_⟩
      · rw [hk]
        rw [List.Nodup, List.pairwise_map]
        exact List.Pairwise.imp (fun h e => h (by omega)) List.nodup_range
      · generalize hst : (sts.take i).map stOf ++ [(low, extOf row)] = st' at c
        cases c with
        | nil => simp at hst
        | snoc c l1 l2 =>
          rename_i st0 now0 a0 low0 ext0
          obtain ⟨e1, e2⟩ := List.append_inj' hst rfl
          simp at e2
          obtain ⟨rfl, rfl⟩ := e2
          have : now ∈ es'.map (·.1) := by
            rw [hk]
            refine List.mem_map.mpr ⟨(now - low).toNat, List.mem_range.mpr (by omega), by omega⟩
          obtain ⟨q, hq, e⟩ := List.mem_map.mp this
          exact ⟨q, hq, e⟩
      · rw [e] at hk
        have := congrArg List.length hk
        simp at this
        omega
      · have := congrArg List.length hk
        simp at this
        omega
  · obtain ⟨es, rfl, B⟩ := hI
    rw [List.take_length] at B
    simp (disch := first | assumption | rfl | omega | decide) only [mp_bind, m_assoc, m_opt, m_cond_pure, m_cond_bind, m_cond_t, m_cond_f, mapM_map, filM_map, fold_map, foldF_map, mapM_pure, filM_pure, fold_pure, asI_i, asB_b, asS_l, asS_t, seqOf_l, seqOf_t, addD_i, iaddD_i, subD_i, fdivD_i, modD_i, negD_i, absD_i, intD_i, max2D_i, min2D_i, ltD_i, leD_i, gtD_i, geD_i, eqD_i, neD_i, lenD_l, lenD_t, tupleD_l, tupleD_t, listD_l, listD_t, slD_l, slD_t, revD_l, truthD_b, truthD_n, ixD_l, ixD_t, un2_t, un3_t, un4_t, zipI_l, zipI_t, isD_n, isnD_n, isNone_n, isNone_i, isNone_b, isNone_s, isNone_l, isNone_t, m_eta, Bool.not_true, Bool.not_false, isL_list, atI_0, atI_1, atI_2, atI_3, c_t, c_f, m_needT, isi_tuple_n, isi_tuple_b, isi_tuple_i, isi_tuple_s, isi_tuple_l, isi_tuple_t, isi_list_n, isi_list_b, isi_list_i, isi_list_s, isi_list_l, isi_list_t, isi_dict_n, isi_dict_b, isi_dict_i, isi_dict_s, isi_dict_l, isi_dict_t, isi_str_n, isi_str_b, isi_str_i, isi_str_s, isi_str_l, isi_str_t, isi_bool_n, isi_bool_b, isi_bool_i, isi_bool_s, isi_bool_l, isi_bool_t, isi_int_n, isi_int_b, isi_int_i, isi_int_s, isi_int_l, isi_int_t, bind_run, pure_run, keys_dR]
    have efold : ∀ Q : List D → Prop, Q ((es.map (·.2)).map rD) → M.mapM (fun q : Int × Res => ixD (dR es) (.int q.1)) es Q := fun Q hQ => by
      rw [mapM_eq_of (fun q : Int × Res => rD q.2) fun q hq => ix_dR B hq, pure_run]
      rw [List.map_map] at hQ; exact hQ
    refine efold _ ?_
    obtain ⟨now, hc⟩ := hm
    obtain ⟨q, hq, rfl⟩ := B.all _ _ hc
    have hle := (B.ok q hq).2 m hc
    have hge := hmin _ _ (B.ok q hq).1
    have em := ltR_eq hle hge
    subst em
    rw [min1D_rD (m := q.2) (List.mem_map.mpr ⟨q, hq, rfl⟩) fun y hy => ?_]
    · exact hP
    · obtain ⟨q', hq', rfl⟩ := List.mem_map.mp hy
      exact hmin _ _ (B.ok q' hq').1
end
end L37
namespace L37
open PySem PySem.Spec PyProof.Rows L2 Wp

/-! ### crews as rows -/
def lastI (now : Int) (crew : List Int) : Int := crew.foldl (fun _ h => h) now
theorem cst_snoc (p : Pr) (h : Int) : ∀ (crew : List Int) (now : Int), cst p now (crew ++ [h]) = cst p now crew + stp p (lastI now crew) h
  | [], now => by simp [cst, lastI]
  | x :: crew, now => by
    have := cst_snoc p h crew x
    show stp p now x + cst p x (crew ++ [h]) = stp p now x + cst p x crew + stp p (lastI x crew) h
    omega
theorem lastI_snoc (now h : Int) (crew : List Int) : lastI now (crew ++ [h]) = h := by simp [lastI]
abbrev Stp := Int × (Int → Int)
def exts (st : List Stp) (crew : List Int) : Int := ((st.zip crew).map fun q => q.1.2 q.2).sum
def fits (top : Int) (st : List Stp) (crew : List Int) : Prop := ∀ q ∈ st.zip crew, q.1.1 ≤ q.2 ∧ q.2 ≤ top
section
variable {p : Pr} {first top : Int}
theorem Cr.fwd {st : List Stp} {now : Int} {a : Res} (h : Cr p first top st now a) : a.2.length = st.length ∧ fits top st a.2 ∧ a.1 = cst p first a.2 + exts st a.2 ∧ now = lastI first a.2 := by
  induction h with
  | nil => exact ⟨rfl, fun q hq => by simp at hq, rfl, rfl⟩
  | snoc c l1 l2 ih =>
    obtain ⟨h1, h2, h3, h4⟩ := ih
    refine ⟨by simp [h1], fun q hq => ?_, ?_, (lastI_snoc _ _ _).symm⟩
    · rw [List.zip_append h1.symm] at hq
      rcases List.mem_append.mp hq with hq | hq
      · exact h2 q hq
      · simp at hq; subst hq; exact ⟨l1, l2⟩
    · rw [cst_snoc]
      unfold exts at h3 ⊢
      rw [List.zip_append h1.symm, List.map_append, List.sum_append, ← h4]
      simp
      omega
theorem Cr.bwd : ∀ (n : Nat) (st : List Stp) (crew : List Int), st.length = n → crew.length = n → fits top st crew → Cr p first top st (lastI first crew) (cst p first crew + exts st crew, crew)
  | 0, st, crew, h1, h2, _ => by
    have e1 := List.eq_nil_of_length_eq_zero h1
    have e2 := List.eq_nil_of_length_eq_zero h2
    subst e1 e2
    exact .nil
  | n + 1, st, crew, h1, h2, h3 => by
    rcases List.eq_nil_or_concat st with e | ⟨st0, s, e⟩
    · subst e; simp at h1
    rcases List.eq_nil_or_concat crew with e' | ⟨crew0, h, e'⟩
    · subst e'; simp at h2
    rw [List.concat_eq_append] at e e'
    subst e e'
    have l1 : st0.length = n := by simpa using h1
    have l2 : crew0.length = n := by simpa using h2
    have hz : (st0 ++ [s]).zip (crew0 ++ [h]) = st0.zip crew0 ++ [(s, h)] := by rw [List.zip_append (by omega)]; rfl
    have f0 : fits top st0 crew0 := fun q hq => h3 q (by rw [hz]; exact List.mem_append_left _ hq)
    have fl := h3 (s, h) (by rw [hz]; simp)
    obtain ⟨low, ext⟩ := s
    have := Cr.snoc (ext := ext) (Cr.bwd n st0 crew0 l1 l2 f0) fl.1 fl.2
    rw [lastI_snoc, cst_snoc]
    have e3 : exts (st0 ++ [(low, ext)]) (crew0 ++ [h]) = exts st0 crew0 + ext h := by
      unfold exts; rw [hz, List.map_append, List.sum_append]; simp
    rw [e3]
    have e4 : cst p first crew0 + exts st0 crew0 + stp p (lastI first crew0) h + ext h = cst p first crew0 + stp p (lastI first crew0) h + (exts st0 crew0 + ext h) := by omega
    rw [← e4]
    exact this
end
theorem fold_encN {τ σ α : Type} (e : τ → σ) (g : τ → α → τ) (I : τ → Nat → Prop) {f : σ → α → M σ} {N : Nat} : ∀ {xs : List α} {t : τ} (n : Nat), n + xs.length = N → I t n → (∀ t n, n < N → ∀ x ∈ xs, I t n → f (e t) x = M.pure (e (g t x)) ∧ I (g t x) (n + 1)) → M.fold f (e t) xs = M.pure (e (xs.foldl g t))
  | [], _, _, _, _, _ => rfl
  | x :: xs, t, n, hn, hi, h => by
    rw [List.length_cons] at hn
    obtain ⟨h1, h2⟩ := h t n (by omega) x (by simp) hi
    show M.bind (f (e t) x) (fun s' => M.fold f s' xs) = _
    rw [h1, mp_bind, fold_encN e g I (n + 1) (by omega) h2 fun t n hn y hy => h t n hn y (by simp [hy])]
    rfl
/-! ### all rows -/
def rowsT (sizes : List Int) : List (List Int) := sizes.foldl (fun found size => found.flatMap fun row => (List.range size.toNat).map fun (i : Nat) => row ++ [(i : Int)]) [[]]
theorem rows_snoc (sizes : List Int) (size : Int) : rowsT (sizes ++ [size]) = (rowsT sizes).flatMap fun row => (List.range size.toNat).map fun (i : Nat) => row ++ [(i : Int)] := by
  unfold rowsT; rw [List.foldl_append]; rfl
theorem flat_len {α β : Type} {xs : List α} {f : α → List β} {k : Nat} (h : ∀ x ∈ xs, (f x).length = k) : (xs.flatMap f).length = xs.length * k := by
  induction xs with
  | nil => simp
  | cons x xs ih =>
    rw [List.flatMap_cons, List.length_append, ih fun y hy => h y (by simp [hy]), h x (by simp), List.length_cons, Nat.succ_mul]; omega
theorem e_rows {top : Int} (h0 : 0 ≤ top) (h1 : top ≤ 10) {n : Nat} (hn : n ≤ 5) : m__law_rows (.list (List.replicate n (.int (top + 1)))) = M.pure (.list ((rowsT (List.replicate n (top + 1))).map tI)) := by
  have er : List.replicate n (.int (top + 1) : D) = (List.replicate n (top + 1)).map .int := by rw [List.map_replicate]
  have key : ∀ k, (rowsT (List.replicate k (top + 1))).length = (top + 1).toNat ^ k := by
    intro k
    induction k with
    | zero => rfl
    | succ k ih =>
      rw [List.replicate_succ', rows_snoc, flat_len (k := (top + 1).toNat) (fun x _ => by simp), ih, Nat.pow_succ]
  have bound : ∀ k, k ≤ 5 → (top + 1).toNat ^ k ≤ 161051 := fun k hk => by
    have a1 : (top + 1).toNat ^ k ≤ 11 ^ k := Nat.pow_le_pow_left (by omega) k
    have a2 : 11 ^ k ≤ 11 ^ 5 := Nat.pow_le_pow_right (by omega) hk
    have a3 : 11 ^ 5 = 161051 := by decide
    omega
  rw [er]
  have fe := fold_encN (fun t : List (List Int) => (.list (t.map tI) : D)) (fun (found : List (List Int)) (size : Int) => found.flatMap fun row => (List.range size.toNat).map fun (i : Nat) => row ++ [(i : Int)]) (fun t k => t.length = (top + 1).toNat ^ k ∧ ∀ x ∈ t, x.length = k) (f := fun s x => (M.pure (.int x : D)).bind fun a => (M.pure (.list [])).bind fun l => ((M.pure s).bind fun x => asS x).bind fun l0 => M.fold (fun s y => (M.pure y).bind fun row => ((M.pure s).bind fun x => ((((M.pure a).bind fun x => (asI x).bind fun i => rngD 0 i).bind fun l => (M.mapM (fun x => (M.pure x).bind fun a => (M.pure row).bind fun x => ((((M.pure a).bind fun x => (M.pure []).bind fun l => M.pure (x :: l)).bind fun x => M.pure (.tuple x)).bind fun y => addD x y)) l).bind fun l => M.pure (.list l)).bind fun y => addD x y))) l l0) (N := n) (xs := List.replicate n (top + 1)) (t := [[]]) 0 (by simp) ⟨rfl, fun x hx => by simp at hx; subst hx; rfl⟩ (fun t k hk x hx ht => ?_)
  · simp (disch := first | assumption | rfl | omega | decide) only [mp_bind, m_assoc, m_opt, m_cond_pure, m_cond_bind, m_cond_t, m_cond_f, mapM_map, filM_map, fold_map, foldF_map, mapM_pure, filM_pure, fold_pure, asI_i, asB_b, asS_l, asS_t, seqOf_l, seqOf_t, addD_i, iaddD_i, subD_i, fdivD_i, modD_i, negD_i, absD_i, intD_i, max2D_i, min2D_i, ltD_i, leD_i, gtD_i, geD_i, eqD_i, neD_i, lenD_l, lenD_t, tupleD_l, tupleD_t, listD_l, listD_t, slD_l, slD_t, revD_l, truthD_b, truthD_n, ixD_l, ixD_t, un2_t, un3_t, un4_t, zipI_l, zipI_t, isD_n, isnD_n, isNone_n, isNone_i, isNone_b, isNone_s, isNone_l, isNone_t, m_eta, Bool.not_true, Bool.not_false, isL_list, atI_0, atI_1, atI_2, atI_3, c_t, c_f, m_needT, isi_tuple_n, isi_tuple_b, isi_tuple_i, isi_tuple_s, isi_tuple_l, isi_tuple_t, isi_list_n, isi_list_b, isi_list_i, isi_list_s, isi_list_l, isi_list_t, isi_dict_n, isi_dict_b, isi_dict_i, isi_dict_s, isi_dict_l, isi_dict_t, isi_str_n, isi_str_b, isi_str_i, isi_str_s, isi_str_l, isi_str_t, isi_bool_n, isi_bool_b, isi_bool_i, isi_bool_s, isi_bool_l, isi_bool_t, isi_int_n, isi_int_b, isi_int_i, isi_int_s, isi_int_l, isi_int_t, bind_run, pure_run, m__law_rows]
    have h0' : (.list (List.map tI [[]]) : D) = .list [.tuple []] := rfl
    simp (disch := first | assumption | rfl | omega | decide) only [mp_bind, m_assoc, m_opt, m_cond_pure, m_cond_bind, m_cond_t, m_cond_f, mapM_map, filM_map, fold_map, foldF_map, mapM_pure, filM_pure, fold_pure, asI_i, asB_b, asS_l, asS_t, seqOf_l, seqOf_t, addD_i, iaddD_i, subD_i, fdivD_i, modD_i, negD_i, absD_i, intD_i, max2D_i, min2D_i, ltD_i, leD_i, gtD_i, geD_i, eqD_i, neD_i, lenD_l, lenD_t, tupleD_l, tupleD_t, listD_l, listD_t, slD_l, slD_t, revD_l, truthD_b, truthD_n, ixD_l, ixD_t, un2_t, un3_t, un4_t, zipI_l, zipI_t, isD_n, isnD_n, isNone_n, isNone_i, isNone_b, isNone_s, isNone_l, isNone_t, m_eta, Bool.not_true, Bool.not_false, isL_list, atI_0, atI_1, atI_2, atI_3, c_t, c_f, m_needT, isi_tuple_n, isi_tuple_b, isi_tuple_i, isi_tuple_s, isi_tuple_l, isi_tuple_t, isi_list_n, isi_list_b, isi_list_i, isi_list_s, isi_list_l, isi_list_t, isi_dict_n, isi_dict_b, isi_dict_i, isi_dict_s, isi_dict_l, isi_dict_t, isi_str_n, isi_str_b, isi_str_i, isi_str_s, isi_str_l, isi_str_t, isi_bool_n, isi_bool_b, isi_bool_i, isi_bool_s, isi_bool_l, isi_bool_t, isi_int_n, isi_int_b, isi_int_i, isi_int_s, isi_int_l, isi_int_t, bind_run, pure_run, h0', m_eta] at fe
    simp (disch := first | assumption | rfl | omega | decide) only [mp_bind, m_assoc, m_opt, m_cond_pure, m_cond_bind, m_cond_t, m_cond_f, mapM_map, filM_map, fold_map, foldF_map, mapM_pure, filM_pure, fold_pure, asI_i, asB_b, asS_l, asS_t, seqOf_l, seqOf_t, addD_i, iaddD_i, subD_i, fdivD_i, modD_i, negD_i, absD_i, intD_i, max2D_i, min2D_i, ltD_i, leD_i, gtD_i, geD_i, eqD_i, neD_i, lenD_l, lenD_t, tupleD_l, tupleD_t, listD_l, listD_t, slD_l, slD_t, revD_l, truthD_b, truthD_n, ixD_l, ixD_t, un2_t, un3_t, un4_t, zipI_l, zipI_t, isD_n, isnD_n, isNone_n, isNone_i, isNone_b, isNone_s, isNone_l, isNone_t, m_eta, Bool.not_true, Bool.not_false, isL_list, atI_0, atI_1, atI_2, atI_3, c_t, c_f, m_needT, isi_tuple_n, isi_tuple_b, isi_tuple_i, isi_tuple_s, isi_tuple_l, isi_tuple_t, isi_list_n, isi_list_b, isi_list_i, isi_list_s, isi_list_l, isi_list_t, isi_dict_n, isi_dict_b, isi_dict_i, isi_dict_s, isi_dict_l, isi_dict_t, isi_str_n, isi_str_b, isi_str_i, isi_str_s, isi_str_l, isi_str_t, isi_bool_n, isi_bool_b, isi_bool_i, isi_bool_s, isi_bool_l, isi_bool_t, isi_int_n, isi_int_b, isi_int_i, isi_int_s, isi_int_l, isi_int_t, bind_run, pure_run, m_eta, fe]
    rfl
  · obtain ⟨ht, htl⟩ := ht
    have hx' := (List.mem_replicate.mp hx).2
    subst hx'
    have hb := bound k (by omega)
    have hb2 := bound (k + 1) (by omega)
    rw [Nat.pow_succ] at hb2
    refine ⟨?_, ?_, fun x hx => ?_⟩
    · simp (disch := first | assumption | rfl | omega | decide) only [mp_bind, m_assoc, m_opt, m_cond_pure, m_cond_bind, m_cond_t, m_cond_f, mapM_map, filM_map, fold_map, foldF_map, mapM_pure, filM_pure, fold_pure, asI_i, asB_b, asS_l, asS_t, seqOf_l, seqOf_t, addD_i, iaddD_i, subD_i, fdivD_i, modD_i, negD_i, absD_i, intD_i, max2D_i, min2D_i, ltD_i, leD_i, gtD_i, geD_i, eqD_i, neD_i, lenD_l, lenD_t, tupleD_l, tupleD_t, listD_l, listD_t, slD_l, slD_t, revD_l, truthD_b, truthD_n, ixD_l, ixD_t, un2_t, un3_t, un4_t, zipI_l, zipI_t, isD_n, isnD_n, isNone_n, isNone_i, isNone_b, isNone_s, isNone_l, isNone_t, m_eta, Bool.not_true, Bool.not_false, isL_list, atI_0, atI_1, atI_2, atI_3, c_t, c_f, m_needT, isi_tuple_n, isi_tuple_b, isi_tuple_i, isi_tuple_s, isi_tuple_l, isi_tuple_t, isi_list_n, isi_list_b, isi_list_i, isi_list_s, isi_list_l, isi_list_t, isi_dict_n, isi_dict_b, isi_dict_i, isi_dict_s, isi_dict_l, isi_dict_t, isi_str_n, isi_str_b, isi_str_i, isi_str_s, isi_str_l, isi_str_t, isi_bool_n, isi_bool_b, isi_bool_i, isi_bool_s, isi_bool_l, isi_bool_t, isi_int_n, isi_int_b, isi_int_i, isi_int_s, isi_int_l, isi_int_t, bind_run, pure_run, rngD_n (n := top + 1) (by omega) (by omega)]
      rw [fold_ext (fun row => (List.range (top + 1).toNat).map fun (i : Nat) => tI (row ++ [(i : Int)])) (fun acc row hrow hz => ?_) (by
        have e : (fun x : List Int => ((List.range (top + 1).toNat).map fun (i : Nat) => tI (x ++ [(i : Int)])).length) = fun _ => (top + 1).toNat := by funext x; simp
        rw [e, sum_const, ht]
        simp; omega)]
      · simp (disch := first | assumption | rfl | omega | decide) only [mp_bind, m_assoc, m_opt, m_cond_pure, m_cond_bind, m_cond_t, m_cond_f, mapM_map, filM_map, fold_map, foldF_map, mapM_pure, filM_pure, fold_pure, asI_i, asB_b, asS_l, asS_t, seqOf_l, seqOf_t, addD_i, iaddD_i, subD_i, fdivD_i, modD_i, negD_i, absD_i, intD_i, max2D_i, min2D_i, ltD_i, leD_i, gtD_i, geD_i, eqD_i, neD_i, lenD_l, lenD_t, tupleD_l, tupleD_t, listD_l, listD_t, slD_l, slD_t, revD_l, truthD_b, truthD_n, ixD_l, ixD_t, un2_t, un3_t, un4_t, zipI_l, zipI_t, isD_n, isnD_n, isNone_n, isNone_i, isNone_b, isNone_s, isNone_l, isNone_t, m_eta, Bool.not_true, Bool.not_false, isL_list, atI_0, atI_1, atI_2, atI_3, c_t, c_f, m_needT, isi_tuple_n, isi_tuple_b, isi_tuple_i, isi_tuple_s, isi_tuple_l, isi_tuple_t, isi_list_n, isi_list_b, isi_list_i, isi_list_s, isi_list_l, isi_list_t, isi_dict_n, isi_dict_b, isi_dict_i, isi_dict_s, isi_dict_l, isi_dict_t, isi_str_n, isi_str_b, isi_str_i, isi_str_s, isi_str_l, isi_str_t, isi_bool_n, isi_bool_b, isi_bool_i, isi_bool_s, isi_bool_l, isi_bool_t, isi_int_n, isi_int_b, isi_int_i, isi_int_s, isi_int_l, isi_int_t, bind_run, pure_run, List.nil_append, List.map_flatMap, List.map_map]
        rfl
      · have hr : row.length = k := htl row hrow
        have ea : ∀ i : Nat, addD (tI row) (.tuple [.int (i : Int)]) = M.pure (tI (row ++ [(i : Int)])) := fun i => by
          unfold tI
          rw [addD_t (by simp; omega)]
          simp
        rw [List.length_map, List.length_range] at hz
        simp (disch := first | assumption | rfl | omega | decide) only [mp_bind, m_assoc, m_opt, m_cond_pure, m_cond_bind, m_cond_t, m_cond_f, mapM_map, filM_map, fold_map, foldF_map, mapM_pure, filM_pure, fold_pure, asI_i, asB_b, asS_l, asS_t, seqOf_l, seqOf_t, addD_i, iaddD_i, subD_i, fdivD_i, modD_i, negD_i, absD_i, intD_i, max2D_i, min2D_i, ltD_i, leD_i, gtD_i, geD_i, eqD_i, neD_i, lenD_l, lenD_t, tupleD_l, tupleD_t, listD_l, listD_t, slD_l, slD_t, revD_l, truthD_b, truthD_n, ixD_l, ixD_t, un2_t, un3_t, un4_t, zipI_l, zipI_t, isD_n, isnD_n, isNone_n, isNone_i, isNone_b, isNone_s, isNone_l, isNone_t, m_eta, Bool.not_true, Bool.not_false, isL_list, atI_0, atI_1, atI_2, atI_3, c_t, c_f, m_needT, isi_tuple_n, isi_tuple_b, isi_tuple_i, isi_tuple_s, isi_tuple_l, isi_tuple_t, isi_list_n, isi_list_b, isi_list_i, isi_list_s, isi_list_l, isi_list_t, isi_dict_n, isi_dict_b, isi_dict_i, isi_dict_s, isi_dict_l, isi_dict_t, isi_str_n, isi_str_b, isi_str_i, isi_str_s, isi_str_l, isi_str_t, isi_bool_n, isi_bool_b, isi_bool_i, isi_bool_s, isi_bool_l, isi_bool_t, isi_int_n, isi_int_b, isi_int_i, isi_int_s, isi_int_l, isi_int_t, bind_run, pure_run, ea]
        rw [addD_l (by simp; omega)]
    · rw [flat_len (k := (top + 1).toNat) (fun x _ => by simp), ht, Nat.pow_succ]
    · obtain ⟨row, hrow, hx⟩ := List.mem_flatMap.mp hx
      obtain ⟨i, hi, rfl⟩ := List.mem_map.mp hx
      simp [htl row hrow]
end L37
namespace L37
open PySem PySem.Spec PyProof.Rows L2 Wp

theorem mem_rows {top : Int} (h0 : 0 ≤ top) : ∀ (n : Nat) (row : List Int), row ∈ rowsT (List.replicate n (top + 1)) ↔ row.length = n ∧ ∀ x ∈ row, 0 ≤ x ∧ x ≤ top
  | 0, row => by
    show row ∈ [[]] ↔ _
    constructor
    · intro h; simp at h; subst h; exact ⟨rfl, fun x h => nomatch h⟩
    · intro h; rw [List.eq_nil_of_length_eq_zero h.1]; simp
  | n + 1, row => by
    rw [List.replicate_succ', rows_snoc, List.mem_flatMap]
    constructor
    · rintro ⟨r, hr, h⟩
      obtain ⟨i, hi, rfl⟩ := List.mem_map.mp h
      have := List.mem_range.mp hi
      obtain ⟨h1, h2⟩ := (mem_rows h0 n r).mp hr
      refine ⟨by simp [h1], fun x hx => ?_⟩
      rcases List.mem_append.mp hx with hx | hx
      · exact h2 x hx
      · simp at hx; subst hx; omega
    · rintro ⟨h1, h2⟩
      rcases List.eq_nil_or_concat row with e | ⟨r, i, e⟩
      · subst e; simp at h1
      rw [List.concat_eq_append] at e
      subst e
      have hi := h2 i (by simp)
      refine ⟨r, (mem_rows h0 n r).mpr ⟨by simpa using h1, fun x hx => h2 x (by simp [hx])⟩, List.mem_map.mpr ⟨i.toNat, List.mem_range.mpr (by omega), ?_⟩⟩
      have : (i.toNat : Int) = i := by omega
      rw [this]
def oD : Option Res → D
  | none => .none
  | some r => rD r
def updO (o : Option Res) (q : Bool) (r : Res) : Option Res := if (q && (match o with | none => true | some m => ltR r m)) = true then some r else o
theorem ltD_rD {a b : Res} : ltD (rD a) (rD b) = M.pure (.bool (ltR a b)) := by
  have h : cmpOk (rD a) (rD b) = true := by
    unfold cmpOk
    rw [alike_rD, sh_rD, sh_rD]; rfl
  rw [← dlt_rD]
  exact funext fun P => propext ⟨fun x => x.2, fun x => ⟨h, x⟩⟩
theorem ltD_rD' {a : Res} {c : Int} {row : List Int} : ltD (.tuple [.int c, tI row]) (rD a) = M.pure (.bool (ltR (c, row) a)) := ltD_rD (a := (c, row))
theorem isNone_rD {a : Res} : isNoneD (rD a) = false := rfl
def lk (needs row : List Int) : List Int := (needs.zip row).map fun q => max 0 (q.1 - q.2)
theorem range_zip {β : Type} {f : Int → Int → β} {xs ys : List Int} (h : ys.length = xs.length) : (List.range xs.length).map (fun k => f (xs.getD k 0) (ys.getD k 0)) = (xs.zip ys).map fun p => f p.1 p.2 := by
  refine List.ext_getElem (by simp [h]) fun i h1 h2 => ?_
  have hi : i < xs.length := by simpa using h1
  have hj : i < ys.length := by omega
  simp [List.getD, hi, hj]
theorem ix_tI {xs : List Int} {k : Nat} (h : k < xs.length) : ixD (tI xs) (.int (k : Int)) = M.pure (.int (xs.getD k 0)) := by
  unfold tI
  rw [ixD_t, atI_int (by omega) (by omega), m_opt, Int.toNat_natCast]
theorem e_lack {needs row : List Int} (hl : row.length = needs.length) (hn : needs.length ≤ 5) {f : Int → Int → Int} : (M.mapM (fun x562 : D => (ixD (tI needs) x562).bind fun x569 => (ixD (tI row) x562).bind fun x570 => (subD x569 x570).bind fun x => max2D (.int 0) x) ((List.range needs.length).map fun (i : Nat) => .int (i : Int))) = M.pure ((lk needs row).map .int) := by
  rw [mapM_map, mapM_eq_of (fun k : Nat => (.int (max 0 (needs.getD k 0 - row.getD k 0)) : D)) fun k hk => ?_]
  · rw [range_zip (f := fun a b => (.int (max 0 (a - b)) : D)) hl, lk, List.map_map]; rfl
  · have hk' := List.mem_range.mp hk
    simp (disch := first | assumption | rfl | omega | decide) only [mp_bind, m_assoc, m_opt, m_cond_pure, m_cond_bind, m_cond_t, m_cond_f, mapM_map, filM_map, fold_map, foldF_map, mapM_pure, filM_pure, fold_pure, asI_i, asB_b, asS_l, asS_t, seqOf_l, seqOf_t, addD_i, iaddD_i, subD_i, fdivD_i, modD_i, negD_i, absD_i, intD_i, max2D_i, min2D_i, ltD_i, leD_i, gtD_i, geD_i, eqD_i, neD_i, lenD_l, lenD_t, tupleD_l, tupleD_t, listD_l, listD_t, slD_l, slD_t, revD_l, truthD_b, truthD_n, ixD_l, ixD_t, un2_t, un3_t, un4_t, zipI_l, zipI_t, isD_n, isnD_n, isNone_n, isNone_i, isNone_b, isNone_s, isNone_l, isNone_t, m_eta, Bool.not_true, Bool.not_false, isL_list, atI_0, atI_1, atI_2, atI_3, c_t, c_f, m_needT, isi_tuple_n, isi_tuple_b, isi_tuple_i, isi_tuple_s, isi_tuple_l, isi_tuple_t, isi_list_n, isi_list_b, isi_list_i, isi_list_s, isi_list_l, isi_list_t, isi_dict_n, isi_dict_b, isi_dict_i, isi_dict_s, isi_dict_l, isi_dict_t, isi_str_n, isi_str_b, isi_str_i, isi_str_s, isi_str_l, isi_str_t, isi_bool_n, isi_bool_b, isi_bool_i, isi_bool_s, isi_bool_l, isi_bool_t, isi_int_n, isi_int_b, isi_int_i, isi_int_s, isi_int_l, isi_int_t, bind_run, pure_run, ix_tI hk', ix_tI (xs := row) (k := k) (by omega)]
section
variable {p : Pr} (hp : p.Ok) {first : Int} (h0 : 0 ≤ first ∧ first ≤ 10)
include hp h0
theorem e_b1 {needs row : List Int} (hn : needs.length ≤ 5) (hl : row.length = needs.length) (hln : Lo needs) (hlr : Lo row) {over limit : Int} (ho : 0 ≤ over ∧ over ≤ 10) (b c : Option Res) :
    m_law_b1 (tI needs) (prD p) (.int first) (.int over) (.int limit) (oD b, oD c) (tI row) = M.pure (oD (updO b (decide (maxI 0 (lk needs row) = 0)) (cst p first row, row)), oD (updO c (decide (maxI 0 (lk needs row) ≤ limit)) (cst p first row + over * (lk needs row).sum, row))) := by
  have el := e_lack hl hn (f := fun a b => a)
  have elen : lenD (tI needs) = M.pure (.int needs.length) := by unfold tI; rw [lenD_t, List.length_map]
  have ec := e_law_cost hp h0 hlr (c := tI row) (.inl rfl)
  have h5 : ([(.int 0 : D)].length + ((lk needs row).map PyData.int).length) ≤ 16777216 := by simp [lk]; omega
  have hs : 0 ≤ (lk needs row).sum ∧ (lk needs row).sum ≤ 10 * ((lk needs row).length : Int) := by
    have : ∀ xs : List Int, (∀ x ∈ xs, 0 ≤ x ∧ x ≤ 10) → 0 ≤ xs.sum ∧ xs.sum ≤ 10 * (xs.length : Int) := fun xs => by
      induction xs with
      | nil => intro _; simp
      | cons x xs ih =>
        intro h
        have h1 := h x (by simp)
        have h2 := ih fun y hy => h y (by simp [hy])
        rw [List.sum_cons, List.length_cons]
        omega
    refine this _ fun x hx => ?_
    obtain ⟨q, hq, rfl⟩ := List.mem_map.mp hx
    have h1 := hln q.1 (List.of_mem_zip hq).1
    have h2 := hlr q.2 (List.of_mem_zip hq).2
    omega
  have hll : (lk needs row).length ≤ 5 := by simp [lk]; omega
  simp (disch := first | assumption | rfl | omega | decide) only [mp_bind, m_assoc, m_opt, m_cond_pure, m_cond_bind, m_cond_t, m_cond_f, mapM_map, filM_map, fold_map, foldF_map, mapM_pure, filM_pure, fold_pure, asI_i, asB_b, asS_l, asS_t, seqOf_l, seqOf_t, addD_i, iaddD_i, subD_i, fdivD_i, modD_i, negD_i, absD_i, intD_i, max2D_i, min2D_i, ltD_i, leD_i, gtD_i, geD_i, eqD_i, neD_i, lenD_l, lenD_t, tupleD_l, tupleD_t, listD_l, listD_t, slD_l, slD_t, revD_l, truthD_b, truthD_n, ixD_l, ixD_t, un2_t, un3_t, un4_t, zipI_l, zipI_t, isD_n, isnD_n, isNone_n, isNone_i, isNone_b, isNone_s, isNone_l, isNone_t, m_eta, Bool.not_true, Bool.not_false, isL_list, atI_0, atI_1, atI_2, atI_3, c_t, c_f, m_needT, isi_tuple_n, isi_tuple_b, isi_tuple_i, isi_tuple_s, isi_tuple_l, isi_tuple_t, isi_list_n, isi_list_b, isi_list_i, isi_list_s, isi_list_l, isi_list_t, isi_dict_n, isi_dict_b, isi_dict_i, isi_dict_s, isi_dict_l, isi_dict_t, isi_str_n, isi_str_b, isi_str_i, isi_str_s, isi_str_l, isi_str_t, isi_bool_n, isi_bool_b, isi_bool_i, isi_bool_s, isi_bool_l, isi_bool_t, isi_int_n, isi_int_b, isi_int_i, isi_int_s, isi_int_l, isi_int_t, bind_run, pure_run, m_law_b1, elen, rngD_n (n := (needs.length : Int)) (by omega) (by omega), Int.toNat_natCast, el, ec, addD_l h5, List.singleton_append, max1_l, sum1_l, mulD_s (sm (i := over) (by omega) (by omega)) (sm (i := (lk needs row).sum) (by omega) (by omega))]
  generalize decide (maxI 0 (lk needs row) = 0) = q1
  generalize decide (maxI 0 (lk needs row) ≤ limit) = q2
  generalize cst p first row + over * (lk needs row).sum = c2
  generalize cst p first row = c1
  have e1 : ∀ c : Int, (.tuple [.int c, tI row] : D) = rD (c, row) := fun _ => rfl
  have n0 : oD none = .none := rfl
  have n1 : ∀ r, oD (some r) = rD r := fun _ => rfl
  have n2 : ∀ (z : Bool) (r v : Res), oD (if z = true then some r else some v) = bif z then rD r else rD v := fun z r v => by cases z <;> rfl
  cases b <;> cases c <;> cases q1 <;> cases q2 <;> simp (disch := first | assumption | rfl | omega | decide) only [mp_bind, m_assoc, m_opt, m_cond_pure, m_cond_bind, m_cond_t, m_cond_f, mapM_map, filM_map, fold_map, foldF_map, mapM_pure, filM_pure, fold_pure, asI_i, asB_b, asS_l, asS_t, seqOf_l, seqOf_t, addD_i, iaddD_i, subD_i, fdivD_i, modD_i, negD_i, absD_i, intD_i, max2D_i, min2D_i, ltD_i, leD_i, gtD_i, geD_i, eqD_i, neD_i, lenD_l, lenD_t, tupleD_l, tupleD_t, listD_l, listD_t, slD_l, slD_t, revD_l, truthD_b, truthD_n, ixD_l, ixD_t, un2_t, un3_t, un4_t, zipI_l, zipI_t, isD_n, isnD_n, isNone_n, isNone_i, isNone_b, isNone_s, isNone_l, isNone_t, m_eta, Bool.not_true, Bool.not_false, isL_list, atI_0, atI_1, atI_2, atI_3, c_t, c_f, m_needT, isi_tuple_n, isi_tuple_b, isi_tuple_i, isi_tuple_s, isi_tuple_l, isi_tuple_t, isi_list_n, isi_list_b, isi_list_i, isi_list_s, isi_list_l, isi_list_t, isi_dict_n, isi_dict_b, isi_dict_i, isi_dict_s, isi_dict_l, isi_dict_t, isi_str_n, isi_str_b, isi_str_i, isi_str_s, isi_str_l, isi_str_t, isi_bool_n, isi_bool_b, isi_bool_i, isi_bool_s, isi_bool_l, isi_bool_t, isi_int_n, isi_int_b, isi_int_i, isi_int_s, isi_int_l, isi_int_t, bind_run, pure_run, n0, n1, n2, updO, e1, isNone_rD, ltD_rD, Bool.false_and, Bool.true_and, if_true, Bool.false_eq_true, if_false, reduceIte] <;> (try rfl)
end
end L37
namespace L37
open PySem PySem.Spec PyProof.Rows L2 Wp

structure MinOf (f : List Int → Res) (q : List Int → Bool) (rows : List (List Int)) (o : Option Res) : Prop where
  no : o = none → ∀ row ∈ rows, q row = false
  yes : ∀ m, o = some m → (∃ row ∈ rows, q row = true ∧ f row = m) ∧ ∀ row ∈ rows, q row = true → ltR (f row) m = false
theorem MinOf.step {f : List Int → Res} {q : List Int → Bool} {rows : List (List Int)} {o : Option Res} (h : MinOf f q rows o) (row : List Int) : MinOf f q (rows ++ [row]) (updO o (q row) (f row)) := by
  have irr : ∀ r : Res, ltR r r = false := fun r => by rw [← dlt_rD]; exact dlt_irrefl _
  unfold updO
  cases hq : q row with
  | false =>
    rw [Bool.false_and, if_neg Bool.false_ne_true]
    refine ⟨fun e r hr => ?_, fun m e => ?_⟩
    · rcases List.mem_append.mp hr with hr | hr
      · exact h.no e r hr
      · simp at hr; subst hr; exact hq
    · obtain ⟨⟨r, h1, h2, h3⟩, h4⟩ := h.yes m e
      refine ⟨⟨r, by simp [h1], h2, h3⟩, fun r hr hqr => ?_⟩
      rcases List.mem_append.mp hr with hr | hr
      · exact h4 r hr hqr
      · simp at hr; subst hr; rw [hq] at hqr; cases hqr
  | true =>
    rw [Bool.true_and]
    cases o with
    | none =>
      rw [if_pos rfl]
      refine ⟨fun e => (nomatch e), fun m e => ?_⟩
      cases e
      refine ⟨⟨row, by simp, hq, rfl⟩, fun r hr hqr => ?_⟩
      rcases List.mem_append.mp hr with hr | hr
      · have := h.no rfl r hr
        rw [hqr] at this; cases this
      · simp at hr; subst hr; exact irr _
    | some v =>
      obtain ⟨⟨r0, h1, h2, h3⟩, h4⟩ := h.yes v rfl
      cases hl : ltR (f row) v with
      | true =>
        rw [if_pos hl]
        refine ⟨fun e => (nomatch e), fun m e => ?_⟩
        cases e
        refine ⟨⟨row, by simp, hq, rfl⟩, fun r hr hqr => ?_⟩
        rcases List.mem_append.mp hr with hr | hr
        · have a := h4 r hr hqr
          have b : ltR v (f row) = false := by rw [← dlt_rD] at hl ⊢; exact dlt_asymm hl
          exact ltR_trans a b
        · simp at hr; subst hr; exact irr _
      | false =>
        rw [if_neg (show ¬ (ltR (f row) v = true) by rw [hl]; exact Bool.false_ne_true)]
        refine ⟨fun e => (nomatch e), fun m e => ?_⟩
        cases e
        refine ⟨⟨r0, by simp [h1], h2, h3⟩, fun r hr hqr => ?_⟩
        rcases List.mem_append.mp hr with hr | hr
        · exact h4 r hr hqr
        · simp at hr; subst hr; exact hl
theorem okS_tI {n : Nat} {xs : List Int} (h : xs.length ≤ 16777216) : okS (n + 2) (tI xs) = true := by
  unfold tI
  rw [okS, decide_eq_true (by simpa using h), okSA_of]
  · rfl
  · intro x hx
    obtain ⟨i, _, rfl⟩ := List.mem_map.mp hx
    rw [okS]
theorem okS_rD {n : Nat} {a : Res} (h : a.2.length ≤ 16777216) : okS (n + 3) (rD a) = true := by
  unfold rD
  rw [okS, decide_eq_true (by simp), okSA, okS, okSA, okS_tI h, okSA]; rfl
theorem okS_int {n : Nat} {i : Int} : okS (n + 1) (.int i) = true := by rw [okS]
/-! ### the steps of the two crews -/
def st1 (needs : List Int) : List (Int × List Int) := needs.map fun n => (n, List.replicate (n + 1).toNat 0)
def st2 (over limit : Int) (needs : List Int) : List (Int × List Int) := needs.map fun n => (max 0 (n - limit), (List.range (n + 1).toNat).map fun (i : Nat) => over * (n - (i : Int)))
theorem zip_st {sts : List (Int × List Int)} : zipD (sts.map fun s => .int s.1) (sts.map fun s => .list (s.2.map .int)) = sts.map fun s => .tuple [.int s.1, .list (s.2.map .int)] := by
  unfold zipD
  rw [List.zip_map', List.map_map]; rfl
theorem lens_st1 {needs : List Int} (h : Lo needs) : (st1 needs).map (fun s => (s.2.length : Int) - 1) = needs := by
  unfold st1
  rw [List.map_map]
  conv => rhs; rw [← List.map_id needs]
  refine List.map_congr_left fun n hn => ?_
  have := h n hn
  simp
  omega
theorem lens_st2 {needs : List Int} {over limit : Int} (h : Lo needs) : (st2 over limit needs).map (fun s => (s.2.length : Int) - 1) = needs := by
  unfold st2
  rw [List.map_map]
  conv => rhs; rw [← List.map_id needs]
  refine List.map_congr_left fun n hn => ?_
  have := h n hn
  simp
  omega
theorem ext_rep {k : Nat} {h : Int} : extOf (List.replicate k 0) h = 0 := by
  unfold extOf
  split
  · rw [List.getD_eq_getElem?_getD, List.getElem?_replicate]; split <;> rfl
  · rfl
theorem ext_over {over n h : Int} (hn : 0 ≤ n) (h0 : 0 ≤ h) : extOf ((List.range (n + 1).toNat).map fun (i : Nat) => over * (n - (i : Int))) h = over * max 0 (n - h) := by
  unfold extOf
  simp only [List.length_map, List.length_range]
  by_cases hlt : h < ((n + 1).toNat : Int)
  · rw [if_pos hlt]
    have hk : h.toNat < (n + 1).toNat := by omega
    have e : max 0 (n - h) = n - (h.toNat : Int) := by omega
    simp [List.getD, hk, e]
  · rw [if_neg hlt]
    have e : max 0 (n - h) = 0 := by omega
    rw [e]; simp
theorem exts_st1 (needs crew : List Int) : exts ((st1 needs).map stOf) crew = 0 := by
  unfold exts
  have : ∀ xs : List Int, (∀ x ∈ xs, x = 0) → xs.sum = 0 := fun xs => by
    induction xs with
    | nil => intro _; rfl
    | cons x xs ih => intro h; rw [List.sum_cons, h x (by simp), ih fun y hy => h y (by simp [hy])]; rfl
  refine this _ fun x hx => ?_
  obtain ⟨q, hq, rfl⟩ := List.mem_map.mp hx
  have := (List.of_mem_zip hq).1
  obtain ⟨s, hs, e⟩ := List.mem_map.mp this
  obtain ⟨n, hn, rfl⟩ := List.mem_map.mp hs
  rw [← e]
  exact ext_rep
theorem exts_st2 {over limit : Int} : ∀ (needs crew : List Int), Lo needs → (∀ x ∈ crew, 0 ≤ x) → exts ((st2 over limit needs).map stOf) crew = over * (lk needs crew).sum
  | [], crew, _, _ => by simp [exts, st2, lk]
  | n :: needs, [], _, _ => by simp [exts, st2, lk]
  | n :: needs, c :: crew, h1, h2 => by
    have := exts_st2 (over := over) (limit := limit) needs crew (fun x hx => h1 x (by simp [hx])) fun x hx => h2 x (by simp [hx])
    have e := ext_over (over := over) (h1 n (by simp)).1 (h2 c (by simp))
    show extOf _ c + exts ((st2 over limit needs).map stOf) crew = over * (max 0 (n - c) + (lk needs crew).sum)
    rw [this, e, Int.mul_add]
theorem fits_st {top : Int} {g : Int → Int × List Int} (needs crew : List Int) : fits top ((needs.map g).map stOf) crew ↔ ∀ q ∈ needs.zip crew, (g q.1).1 ≤ q.2 ∧ q.2 ≤ top := by
  unfold fits
  rw [List.map_map]
  have e : (needs.map (stOf ∘ g)).zip crew = (needs.zip crew).map fun q => ((stOf ∘ g) q.1, q.2) := by
    rw [← List.map_id crew, List.zip_map]
    simp [Prod.map]
  rw [e]
  constructor
  · intro h q hq; exact h _ (List.mem_map.mpr ⟨q, hq, rfl⟩)
  · intro h q hq
    obtain ⟨r, hr, rfl⟩ := List.mem_map.mp hq
    exact h r hr
theorem max_lk {needs row : List Int} {k : Int} (hk : 0 ≤ k) : maxI 0 (lk needs row) ≤ k ↔ ∀ q ∈ needs.zip row, q.1 - q.2 ≤ k := by
  obtain ⟨h1, h2⟩ := maxI_spec (lk needs row) 0
  constructor
  · intro h q hq
    have := h2 (max 0 (q.1 - q.2)) (List.mem_cons_of_mem _ (List.mem_map.mpr ⟨q, hq, rfl⟩))
    omega
  · intro h
    rcases List.mem_cons.mp h1 with e | e
    · omega
    · obtain ⟨q, hq, e⟩ := List.mem_map.mp e
      have := h q hq
      omega
theorem max_lk0 {needs row : List Int} : maxI 0 (lk needs row) = 0 ↔ ∀ q ∈ needs.zip row, q.1 ≤ q.2 := by
  have h := max_lk (needs := needs) (row := row) (k := 0) (by omega)
  have h2 := (maxI_spec (lk needs row) 0).2 0 (by simp)
  constructor
  · intro e q hq
    have := h.mp (by omega) q hq
    omega
  · intro e
    have := h.mpr fun q hq => by have := e q hq; omega
    omega
/-- both parts of a pair in a zip -/
theorem zip_all {xs ys : List Int} (hl : ys.length = xs.length) {P : Int → Prop} (h : ∀ q ∈ xs.zip ys, P q.2) : ∀ y ∈ ys, P y := by
  intro y hy
  obtain ⟨i, hi, e⟩ := List.mem_iff_getElem.mp hy
  have hi' : i < xs.length := by omega
  have : (xs[i], ys[i]) ∈ xs.zip ys := List.mem_iff_getElem.mpr ⟨i, by simp; omega, by simp⟩
  rw [← e]
  exact h _ this
section
variable {p : Pr} (hp : p.Ok) {first : Int} (h0 : 0 ≤ first ∧ first ≤ 3) {needs : List Int} (hn : needs.length ≤ 5) (hln : ∀ x ∈ needs, 0 ≤ x ∧ x ≤ 3)
include hp h0 hn hln
theorem top_bd : 0 ≤ maxI first needs ∧ maxI first needs ≤ 3 ∧ ∀ x ∈ needs, x ≤ maxI first needs := by
  obtain ⟨h1, h2⟩ := maxI_spec needs first
  refine ⟨by have := h2 first (by simp); omega, ?_, fun x hx => h2 x (by simp [hx])⟩
  rcases List.mem_cons.mp h1 with e | e
  · omega
  · exact (hln _ e).2
theorem r_best_crew {m : Res} (h : MinOf (fun row => (cst p first row, row)) (fun row => decide (maxI 0 (lk needs row) = 0)) (rowsT (List.replicate needs.length (maxI first needs + 1))) (some m)) : Ret (m_best_crew (prD p) (.int first) (tI needs)) (rD m) := by
  intro P hP
  obtain ⟨t0, t1, t2⟩ := top_bd hp h0 hn hln
  have hLo : Lo needs := fun x hx => by have := hln x hx; omega
  have eC : needs.map (fun n => (.list (List.replicate (n + 1).toNat (.int 0)) : D)) = (st1 needs).map fun s => .list (s.2.map .int) := by
    unfold st1; rw [List.map_map]; exact List.map_congr_left fun n _ => by simp
  have eL : needs.map PyData.int = (st1 needs).map fun s => .int s.1 := by unfold st1; rw [List.map_map]; rfl
  simp (disch := first | assumption | rfl | omega | decide) only [mp_bind, m_assoc, m_opt, m_cond_pure, m_cond_bind, m_cond_t, m_cond_f, mapM_map, filM_map, fold_map, foldF_map, mapM_pure, filM_pure, fold_pure, asI_i, asB_b, asS_l, asS_t, seqOf_l, seqOf_t, addD_i, iaddD_i, subD_i, fdivD_i, modD_i, negD_i, absD_i, intD_i, max2D_i, min2D_i, ltD_i, leD_i, gtD_i, geD_i, eqD_i, neD_i, lenD_l, lenD_t, tupleD_l, tupleD_t, listD_l, listD_t, slD_l, slD_t, revD_l, truthD_b, truthD_n, ixD_l, ixD_t, un2_t, un3_t, un4_t, zipI_l, zipI_t, isD_n, isnD_n, isNone_n, isNone_i, isNone_b, isNone_s, isNone_l, isNone_t, m_eta, Bool.not_true, Bool.not_false, isL_list, atI_0, atI_1, atI_2, atI_3, c_t, c_f, m_needT, isi_tuple_n, isi_tuple_b, isi_tuple_i, isi_tuple_s, isi_tuple_l, isi_tuple_t, isi_list_n, isi_list_b, isi_list_i, isi_list_s, isi_list_l, isi_list_t, isi_dict_n, isi_dict_b, isi_dict_i, isi_dict_s, isi_dict_l, isi_dict_t, isi_str_n, isi_str_b, isi_str_i, isi_str_s, isi_str_l, isi_str_t, isi_bool_n, isi_bool_b, isi_bool_i, isi_bool_s, isi_bool_l, isi_bool_t, isi_int_n, isi_int_b, isi_int_i, isi_int_s, isi_int_l, isi_int_t, bind_run, pure_run, m_best_crew, tI]
  rw [mapM_eq_of (fun n : Int => (.list (List.replicate (n + 1).toNat (.int 0)) : D)) fun n hn' => ?_]
  · simp (disch := first | assumption | rfl | omega | decide) only [mp_bind, m_assoc, m_opt, m_cond_pure, m_cond_bind, m_cond_t, m_cond_f, mapM_map, filM_map, fold_map, foldF_map, mapM_pure, filM_pure, fold_pure, asI_i, asB_b, asS_l, asS_t, seqOf_l, seqOf_t, addD_i, iaddD_i, subD_i, fdivD_i, modD_i, negD_i, absD_i, intD_i, max2D_i, min2D_i, ltD_i, leD_i, gtD_i, geD_i, eqD_i, neD_i, lenD_l, lenD_t, tupleD_l, tupleD_t, listD_l, listD_t, slD_l, slD_t, revD_l, truthD_b, truthD_n, ixD_l, ixD_t, un2_t, un3_t, un4_t, zipI_l, zipI_t, isD_n, isnD_n, isNone_n, isNone_i, isNone_b, isNone_s, isNone_l, isNone_t, m_eta, Bool.not_true, Bool.not_false, isL_list, atI_0, atI_1, atI_2, atI_3, c_t, c_f, m_needT, isi_tuple_n, isi_tuple_b, isi_tuple_i, isi_tuple_s, isi_tuple_l, isi_tuple_t, isi_list_n, isi_list_b, isi_list_i, isi_list_s, isi_list_l, isi_list_t, isi_dict_n, isi_dict_b, isi_dict_i, isi_dict_s, isi_dict_l, isi_dict_t, isi_str_n, isi_str_b, isi_str_i, isi_str_s, isi_str_l, isi_str_t, isi_bool_n, isi_bool_b, isi_bool_i, isi_bool_s, isi_bool_l, isi_bool_t, isi_int_n, isi_int_b, isi_int_i, isi_int_s, isi_int_l, isi_int_t, bind_run, pure_run, eC]
    have hb := r_best_by hp (first := first) (top := maxI first needs) (by omega) (by omega) (L := .tuple (needs.map .int)) (sts := st1 needs) (by rw [zipX_tl, eL, zip_st]) (by simp [st1]; omega) (by rw [lens_st1 hLo]) (fun s hs => by
      obtain ⟨n, hn', rfl⟩ := List.mem_map.mp hs
      exact ⟨(hln n hn').1, t2 n hn'⟩) (m := m)
    obtain ⟨⟨row, h1, h2, h3⟩, h4⟩ := h.yes m rfl
    obtain ⟨r1, r2⟩ := (mem_rows t0 _ _).mp h1
    have q1 := max_lk0.mp (of_decide_eq_true h2)
    refine hb ?_ ?_ P hP
    · refine ⟨lastI first row, ?_⟩
      have c := Cr.bwd (p := p) (first := first) (top := maxI first needs) needs.length ((st1 needs).map stOf) row (by simp [st1]) r1 ((fits_st needs row).mpr fun q hq => ⟨q1 q hq, (r2 _ (List.of_mem_zip hq).2).2⟩)
      rw [exts_st1, Int.add_zero] at c
      rw [← h3]; exact c
    · intro now a c
      obtain ⟨c1, c2, c3, c4⟩ := c.fwd
      rw [exts_st1, Int.add_zero] at c3
      have f := (fits_st needs a.2).mp c2
      have hl : a.2.length = needs.length := by rw [c1]; simp [st1]
      have ha : a = (cst p first a.2, a.2) := Prod.ext c3 rfl
      rw [ha]
      refine h4 a.2 ((mem_rows t0 _ _).mpr ⟨hl, ?_⟩) (decide_eq_true (max_lk0.mpr fun q hq => (f q hq).1))
      refine zip_all (xs := needs) hl fun q hq => ?_
      have := f q hq
      have := (hln q.1 (List.of_mem_zip hq).1).1
      exact ⟨by have : q.1 ≤ q.2 := (f q hq).1
                omega, (f q hq).2⟩
  · have := hln n hn'
    simp (disch := first | assumption | rfl | omega | decide) only [mp_bind, m_assoc, m_opt, m_cond_pure, m_cond_bind, m_cond_t, m_cond_f, mapM_map, filM_map, fold_map, foldF_map, mapM_pure, filM_pure, fold_pure, asI_i, asB_b, asS_l, asS_t, seqOf_l, seqOf_t, addD_i, iaddD_i, subD_i, fdivD_i, modD_i, negD_i, absD_i, intD_i, max2D_i, min2D_i, ltD_i, leD_i, gtD_i, geD_i, eqD_i, neD_i, lenD_l, lenD_t, tupleD_l, tupleD_t, listD_l, listD_t, slD_l, slD_t, revD_l, truthD_b, truthD_n, ixD_l, ixD_t, un2_t, un3_t, un4_t, zipI_l, zipI_t, isD_n, isnD_n, isNone_n, isNone_i, isNone_b, isNone_s, isNone_l, isNone_t, m_eta, Bool.not_true, Bool.not_false, isL_list, atI_0, atI_1, atI_2, atI_3, c_t, c_f, m_needT, isi_tuple_n, isi_tuple_b, isi_tuple_i, isi_tuple_s, isi_tuple_l, isi_tuple_t, isi_list_n, isi_list_b, isi_list_i, isi_list_s, isi_list_l, isi_list_t, isi_dict_n, isi_dict_b, isi_dict_i, isi_dict_s, isi_dict_l, isi_dict_t, isi_str_n, isi_str_b, isi_str_i, isi_str_s, isi_str_l, isi_str_t, isi_bool_n, isi_bool_b, isi_bool_i, isi_bool_s, isi_bool_l, isi_bool_t, isi_int_n, isi_int_b, isi_int_i, isi_int_s, isi_int_l, isi_int_t, bind_run, pure_run, mulD_l (xs := [(.int 0 : D)]) (k := n + 1) ⟨by omega, by omega, by simp; omega⟩, rep_one]
theorem r_with_over {over limit : Int} (ho : 0 ≤ over ∧ over ≤ 10) (hli : 0 ≤ limit ∧ limit ≤ 10) {m : Res} (h : MinOf (fun row => (cst p first row + over * (lk needs row).sum, row)) (fun row => decide (maxI 0 (lk needs row) ≤ limit)) (rowsT (List.replicate needs.length (maxI first needs + 1))) (some m)) : Ret (m_with_over (prD p) (.int first) (tI needs) (.int over) (.int limit)) (rD m) := by
  intro P hP
  obtain ⟨t0, t1, t2⟩ := top_bd hp h0 hn hln
  have hLo : Lo needs := fun x hx => by have := hln x hx; omega
  have eC : needs.map (fun n => (.list ((List.range (n + 1).toNat).map fun (i : Nat) => .int (over * (n - (i : Int)))) : D)) = (st2 over limit needs).map fun s => .list (s.2.map .int) := by
    unfold st2; rw [List.map_map]; exact List.map_congr_left fun n _ => by simp [Function.comp_def]
  have eL : needs.map (fun n => (.int (max 0 (n - limit)) : D)) = (st2 over limit needs).map fun s => .int s.1 := by unfold st2; rw [List.map_map]; rfl
  simp (disch := first | assumption | rfl | omega | decide) only [mp_bind, m_assoc, m_opt, m_cond_pure, m_cond_bind, m_cond_t, m_cond_f, mapM_map, filM_map, fold_map, foldF_map, mapM_pure, filM_pure, fold_pure, asI_i, asB_b, asS_l, asS_t, seqOf_l, seqOf_t, addD_i, iaddD_i, subD_i, fdivD_i, modD_i, negD_i, absD_i, intD_i, max2D_i, min2D_i, ltD_i, leD_i, gtD_i, geD_i, eqD_i, neD_i, lenD_l, lenD_t, tupleD_l, tupleD_t, listD_l, listD_t, slD_l, slD_t, revD_l, truthD_b, truthD_n, ixD_l, ixD_t, un2_t, un3_t, un4_t, zipI_l, zipI_t, isD_n, isnD_n, isNone_n, isNone_i, isNone_b, isNone_s, isNone_l, isNone_t, m_eta, Bool.not_true, Bool.not_false, isL_list, atI_0, atI_1, atI_2, atI_3, c_t, c_f, m_needT, isi_tuple_n, isi_tuple_b, isi_tuple_i, isi_tuple_s, isi_tuple_l, isi_tuple_t, isi_list_n, isi_list_b, isi_list_i, isi_list_s, isi_list_l, isi_list_t, isi_dict_n, isi_dict_b, isi_dict_i, isi_dict_s, isi_dict_l, isi_dict_t, isi_str_n, isi_str_b, isi_str_i, isi_str_s, isi_str_l, isi_str_t, isi_bool_n, isi_bool_b, isi_bool_i, isi_bool_s, isi_bool_l, isi_bool_t, isi_int_n, isi_int_b, isi_int_i, isi_int_s, isi_int_l, isi_int_t, bind_run, pure_run, m_with_over, tI]
  rw [mapM_eq_of (fun n : Int => (.list ((List.range (n + 1).toNat).map fun (i : Nat) => .int (over * (n - (i : Int)))) : D)) fun n hn' => ?_]
  · simp (disch := first | assumption | rfl | omega | decide) only [mp_bind, m_assoc, m_opt, m_cond_pure, m_cond_bind, m_cond_t, m_cond_f, mapM_map, filM_map, fold_map, foldF_map, mapM_pure, filM_pure, fold_pure, asI_i, asB_b, asS_l, asS_t, seqOf_l, seqOf_t, addD_i, iaddD_i, subD_i, fdivD_i, modD_i, negD_i, absD_i, intD_i, max2D_i, min2D_i, ltD_i, leD_i, gtD_i, geD_i, eqD_i, neD_i, lenD_l, lenD_t, tupleD_l, tupleD_t, listD_l, listD_t, slD_l, slD_t, revD_l, truthD_b, truthD_n, ixD_l, ixD_t, un2_t, un3_t, un4_t, zipI_l, zipI_t, isD_n, isnD_n, isNone_n, isNone_i, isNone_b, isNone_s, isNone_l, isNone_t, m_eta, Bool.not_true, Bool.not_false, isL_list, atI_0, atI_1, atI_2, atI_3, c_t, c_f, m_needT, isi_tuple_n, isi_tuple_b, isi_tuple_i, isi_tuple_s, isi_tuple_l, isi_tuple_t, isi_list_n, isi_list_b, isi_list_i, isi_list_s, isi_list_l, isi_list_t, isi_dict_n, isi_dict_b, isi_dict_i, isi_dict_s, isi_dict_l, isi_dict_t, isi_str_n, isi_str_b, isi_str_i, isi_str_s, isi_str_l, isi_str_t, isi_bool_n, isi_bool_b, isi_bool_i, isi_bool_s, isi_bool_l, isi_bool_t, isi_int_n, isi_int_b, isi_int_i, isi_int_s, isi_int_l, isi_int_t, bind_run, pure_run, eC, eL]
    have hb := r_best_by hp (first := first) (top := maxI first needs) (by omega) (by omega) (L := .list ((st2 over limit needs).map fun s => .int s.1)) (sts := st2 over limit needs) (by rw [zipX_ll, zip_st]) (by simp [st2]; omega) (by rw [lens_st2 hLo]) (fun s hs => by
      obtain ⟨n, hn', rfl⟩ := List.mem_map.mp hs
      have := t2 n hn'
      show 0 ≤ max 0 (n - limit) ∧ max 0 (n - limit) ≤ _
      omega) (m := m)
    obtain ⟨⟨row, h1, h2, h3⟩, h4⟩ := h.yes m rfl
    obtain ⟨r1, r2⟩ := (mem_rows t0 _ _).mp h1
    have q1 := (max_lk (by omega)).mp (of_decide_eq_true h2)
    refine hb ?_ ?_ P hP
    · refine ⟨lastI first row, ?_⟩
      have c := Cr.bwd (p := p) (first := first) (top := maxI first needs) needs.length ((st2 over limit needs).map stOf) row (by simp [st2]) r1 ((fits_st needs row).mpr fun q hq => by
        have := q1 q hq
        have := r2 _ (List.of_mem_zip hq).2
        show max 0 (q.1 - limit) ≤ q.2 ∧ _
        omega)
      rw [exts_st2 needs row hLo fun x hx => (r2 x hx).1] at c
      rw [← h3]; exact c
    · intro now a c
      obtain ⟨c1, c2, c3, c4⟩ := c.fwd
      have f := (fits_st needs a.2).mp c2
      have hl : a.2.length = needs.length := by rw [c1]; simp [st2]
      have hpos : ∀ x ∈ a.2, 0 ≤ x ∧ x ≤ maxI first needs := zip_all (xs := needs) hl fun q hq => by
        have : max 0 (q.1 - limit) ≤ q.2 := (f q hq).1
        exact ⟨by omega, (f q hq).2⟩
      rw [exts_st2 needs a.2 hLo fun x hx => (hpos x hx).1] at c3
      have ha : a = (cst p first a.2 + over * (lk needs a.2).sum, a.2) := Prod.ext c3 rfl
      rw [ha]
      refine h4 a.2 ((mem_rows t0 _ _).mpr ⟨hl, hpos⟩) (decide_eq_true ((max_lk (by omega)).mpr fun q hq => ?_))
      have : max 0 (q.1 - limit) ≤ q.2 := (f q hq).1
      omega
  · have := hln n hn'
    simp (disch := first | assumption | rfl | omega | decide) only [mp_bind, m_assoc, m_opt, m_cond_pure, m_cond_bind, m_cond_t, m_cond_f, mapM_map, filM_map, fold_map, foldF_map, mapM_pure, filM_pure, fold_pure, asI_i, asB_b, asS_l, asS_t, seqOf_l, seqOf_t, addD_i, iaddD_i, subD_i, fdivD_i, modD_i, negD_i, absD_i, intD_i, max2D_i, min2D_i, ltD_i, leD_i, gtD_i, geD_i, eqD_i, neD_i, lenD_l, lenD_t, tupleD_l, tupleD_t, listD_l, listD_t, slD_l, slD_t, revD_l, truthD_b, truthD_n, ixD_l, ixD_t, un2_t, un3_t, un4_t, zipI_l, zipI_t, isD_n, isnD_n, isNone_n, isNone_i, isNone_b, isNone_s, isNone_l, isNone_t, m_eta, Bool.not_true, Bool.not_false, isL_list, atI_0, atI_1, atI_2, atI_3, c_t, c_f, m_needT, isi_tuple_n, isi_tuple_b, isi_tuple_i, isi_tuple_s, isi_tuple_l, isi_tuple_t, isi_list_n, isi_list_b, isi_list_i, isi_list_s, isi_list_l, isi_list_t, isi_dict_n, isi_dict_b, isi_dict_i, isi_dict_s, isi_dict_l, isi_dict_t, isi_str_n, isi_str_b, isi_str_i, isi_str_s, isi_str_l, isi_str_t, isi_bool_n, isi_bool_b, isi_bool_i, isi_bool_s, isi_bool_l, isi_bool_t, isi_int_n, isi_int_b, isi_int_i, isi_int_s, isi_int_l, isi_int_t, bind_run, pure_run, rngD_n (n := n + 1) (by omega) (by omega)]
    rw [mapM_eq_of (fun i : Nat => (.int (over * (n - (i : Int))) : D)) fun i hi => ?_]
    · simp (disch := first | assumption | rfl | omega | decide) only [mp_bind, m_assoc, m_opt, m_cond_pure, m_cond_bind, m_cond_t, m_cond_f, mapM_map, filM_map, fold_map, foldF_map, mapM_pure, filM_pure, fold_pure, asI_i, asB_b, asS_l, asS_t, seqOf_l, seqOf_t, addD_i, iaddD_i, subD_i, fdivD_i, modD_i, negD_i, absD_i, intD_i, max2D_i, min2D_i, ltD_i, leD_i, gtD_i, geD_i, eqD_i, neD_i, lenD_l, lenD_t, tupleD_l, tupleD_t, listD_l, listD_t, slD_l, slD_t, revD_l, truthD_b, truthD_n, ixD_l, ixD_t, un2_t, un3_t, un4_t, zipI_l, zipI_t, isD_n, isnD_n, isNone_n, isNone_i, isNone_b, isNone_s, isNone_l, isNone_t, m_eta, Bool.not_true, Bool.not_false, isL_list, atI_0, atI_1, atI_2, atI_3, c_t, c_f, m_needT, isi_tuple_n, isi_tuple_b, isi_tuple_i, isi_tuple_s, isi_tuple_l, isi_tuple_t, isi_list_n, isi_list_b, isi_list_i, isi_list_s, isi_list_l, isi_list_t, isi_dict_n, isi_dict_b, isi_dict_i, isi_dict_s, isi_dict_l, isi_dict_t, isi_str_n, isi_str_b, isi_str_i, isi_str_s, isi_str_l, isi_str_t, isi_bool_n, isi_bool_b, isi_bool_i, isi_bool_s, isi_bool_l, isi_bool_t, isi_int_n, isi_int_b, isi_int_i, isi_int_s, isi_int_l, isi_int_t, bind_run, pure_run]
    · have := List.mem_range.mp hi
      simp (disch := first | assumption | rfl | omega | decide) only [mp_bind, m_assoc, m_opt, m_cond_pure, m_cond_bind, m_cond_t, m_cond_f, mapM_map, filM_map, fold_map, foldF_map, mapM_pure, filM_pure, fold_pure, asI_i, asB_b, asS_l, asS_t, seqOf_l, seqOf_t, addD_i, iaddD_i, subD_i, fdivD_i, modD_i, negD_i, absD_i, intD_i, max2D_i, min2D_i, ltD_i, leD_i, gtD_i, geD_i, eqD_i, neD_i, lenD_l, lenD_t, tupleD_l, tupleD_t, listD_l, listD_t, slD_l, slD_t, revD_l, truthD_b, truthD_n, ixD_l, ixD_t, un2_t, un3_t, un4_t, zipI_l, zipI_t, isD_n, isnD_n, isNone_n, isNone_i, isNone_b, isNone_s, isNone_l, isNone_t, m_eta, Bool.not_true, Bool.not_false, isL_list, atI_0, atI_1, atI_2, atI_3, c_t, c_f, m_needT, isi_tuple_n, isi_tuple_b, isi_tuple_i, isi_tuple_s, isi_tuple_l, isi_tuple_t, isi_list_n, isi_list_b, isi_list_i, isi_list_s, isi_list_l, isi_list_t, isi_dict_n, isi_dict_b, isi_dict_i, isi_dict_s, isi_dict_l, isi_dict_t, isi_str_n, isi_str_b, isi_str_i, isi_str_s, isi_str_l, isi_str_t, isi_bool_n, isi_bool_b, isi_bool_i, isi_bool_s, isi_bool_l, isi_bool_t, isi_int_n, isi_int_b, isi_int_i, isi_int_s, isi_int_l, isi_int_t, bind_run, pure_run, mulD_s (sm (i := over) (by omega) (by omega)) (sm (i := n - (i : Int)) (by omega) (by omega))]
end
end L37
namespace L37
open PySem PySem.Spec PyProof.Rows L2 Wp

/-! ### the law's own sums -/
def prs : Int → List Int → List (Int × Int)
  | _, [] => []
  | now, h :: t => (h, now) :: prs h t
theorem prs_range : ∀ (crew : List Int) (first : Int), (List.range crew.length).map (fun k => (crew.getD k 0, if 0 < k then crew.getD (k - 1) 0 else first)) = prs first crew
  | [], _ => rfl
  | h :: t, first => by
    rw [List.length_cons, List.range_succ_eq_map, List.map_cons, List.map_map, prs, ← prs_range t h]
    refine List.cons_eq_cons.mpr ⟨by simp, List.map_congr_left fun k _ => ?_⟩
    simp only [Function.comp]
    refine Prod.ext (by simp) ?_
    cases k with
    | zero => simp
    | succ k => simp
theorem up_prs : ∀ (crew : List Int) (first : Int), ((prs first crew).map fun q => max 0 (q.1 - q.2)).sum = up first crew
  | [], _ => rfl
  | h :: t, first => by
    show max 0 (h - first) + ((prs h t).map fun q => max 0 (q.1 - q.2)).sum = _
    rw [up_prs t h]; rfl
theorem dn_prs : ∀ (crew : List Int) (first : Int), ((prs first crew).map fun q => max 0 (q.2 - q.1)).sum = dn first crew
  | [], _ => rfl
  | h :: t, first => by
    show max 0 (first - h) + ((prs h t).map fun q => max 0 (q.2 - q.1)).sum = _
    rw [dn_prs t h]; rfl
theorem len_tI {xs : List Int} : lenD (tI xs) = M.pure (.int xs.length) := by unfold tI; rw [lenD_t, List.length_map]
section
variable {p : Pr} (hp : p.Ok) {first : Int} (h0 : 0 ≤ first ∧ first ≤ 3) {needs crew : List Int} (hn : needs.length ≤ 4) (hln : ∀ x ∈ needs, 0 ≤ x ∧ x ≤ 3) (hc : crew.length = needs.length) (hlc : ∀ x ∈ crew, 0 ≤ x ∧ x ≤ 4)
include hp h0 hn hln hc hlc
theorem t_c3 : m_law_c3 (tI crew) (.int first) = M.pure (Fl.nx ()) := by
  have e : (M.mapM (fun x741 : D => (M.pure x741).bind fun a740 => (ixD (tI crew) a740).bind fun x756 => ((gtD a740 (.int 0)).bind fun z748 => asB z748).bind fun b753 => (cond b753 ((subD a740 (.int 1)).bind fun x752 => ixD (tI crew) x752) (M.pure (.int first))).bind fun x754 => M.pure (PyData.tuple [x756, x754])) ((List.range crew.length).map fun (i : Nat) => .int (i : Int))) = M.pure ((prs first crew).map fun q => .tuple [.int q.1, .int q.2]) := by
    rw [mapM_map, mapM_eq_of (fun k : Nat => (.tuple [.int (crew.getD k 0), .int (if 0 < k then crew.getD (k - 1) 0 else first)] : D)) fun k hk => ?_]
    · rw [← prs_range, List.map_map]; rfl
    · have hk' := List.mem_range.mp hk
      simp (disch := first | assumption | rfl | omega | decide) only [mp_bind, m_assoc, m_opt, m_cond_pure, m_cond_bind, m_cond_t, m_cond_f, mapM_map, filM_map, fold_map, foldF_map, mapM_pure, filM_pure, fold_pure, asI_i, asB_b, asS_l, asS_t, seqOf_l, seqOf_t, addD_i, iaddD_i, subD_i, fdivD_i, modD_i, negD_i, absD_i, intD_i, max2D_i, min2D_i, ltD_i, leD_i, gtD_i, geD_i, eqD_i, neD_i, lenD_l, lenD_t, tupleD_l, tupleD_t, listD_l, listD_t, slD_l, slD_t, revD_l, truthD_b, truthD_n, ixD_l, ixD_t, un2_t, un3_t, un4_t, zipI_l, zipI_t, isD_n, isnD_n, isNone_n, isNone_i, isNone_b, isNone_s, isNone_l, isNone_t, m_eta, Bool.not_true, Bool.not_false, isL_list, atI_0, atI_1, atI_2, atI_3, c_t, c_f, m_needT, isi_tuple_n, isi_tuple_b, isi_tuple_i, isi_tuple_s, isi_tuple_l, isi_tuple_t, isi_list_n, isi_list_b, isi_list_i, isi_list_s, isi_list_l, isi_list_t, isi_dict_n, isi_dict_b, isi_dict_i, isi_dict_s, isi_dict_l, isi_dict_t, isi_str_n, isi_str_b, isi_str_i, isi_str_s, isi_str_l, isi_str_t, isi_bool_n, isi_bool_b, isi_bool_i, isi_bool_s, isi_bool_l, isi_bool_t, isi_int_n, isi_int_b, isi_int_i, isi_int_s, isi_int_l, isi_int_t, bind_run, pure_run, ix_tI hk']
      by_cases h : 0 < k
      · have e1 : (k : Int) - 1 = ((k - 1 : Nat) : Int) := by omega
        simp (disch := first | assumption | rfl | omega | decide) only [mp_bind, m_assoc, m_opt, m_cond_pure, m_cond_bind, m_cond_t, m_cond_f, mapM_map, filM_map, fold_map, foldF_map, mapM_pure, filM_pure, fold_pure, asI_i, asB_b, asS_l, asS_t, seqOf_l, seqOf_t, addD_i, iaddD_i, subD_i, fdivD_i, modD_i, negD_i, absD_i, intD_i, max2D_i, min2D_i, ltD_i, leD_i, gtD_i, geD_i, eqD_i, neD_i, lenD_l, lenD_t, tupleD_l, tupleD_t, listD_l, listD_t, slD_l, slD_t, revD_l, truthD_b, truthD_n, ixD_l, ixD_t, un2_t, un3_t, un4_t, zipI_l, zipI_t, isD_n, isnD_n, isNone_n, isNone_i, isNone_b, isNone_s, isNone_l, isNone_t, m_eta, Bool.not_true, Bool.not_false, isL_list, atI_0, atI_1, atI_2, atI_3, c_t, c_f, m_needT, isi_tuple_n, isi_tuple_b, isi_tuple_i, isi_tuple_s, isi_tuple_l, isi_tuple_t, isi_list_n, isi_list_b, isi_list_i, isi_list_s, isi_list_l, isi_list_t, isi_dict_n, isi_dict_b, isi_dict_i, isi_dict_s, isi_dict_l, isi_dict_t, isi_str_n, isi_str_b, isi_str_i, isi_str_s, isi_str_l, isi_str_t, isi_bool_n, isi_bool_b, isi_bool_i, isi_bool_s, isi_bool_l, isi_bool_t, isi_int_n, isi_int_b, isi_int_i, isi_int_s, isi_int_l, isi_int_t, bind_run, pure_run, decide_eq_true (show (0 : Int) < (k : Int) by omega), e1, ix_tI (xs := crew) (k := k - 1) (by omega), if_pos h]
      · simp (disch := first | assumption | rfl | omega | decide) only [mp_bind, m_assoc, m_opt, m_cond_pure, m_cond_bind, m_cond_t, m_cond_f, mapM_map, filM_map, fold_map, foldF_map, mapM_pure, filM_pure, fold_pure, asI_i, asB_b, asS_l, asS_t, seqOf_l, seqOf_t, addD_i, iaddD_i, subD_i, fdivD_i, modD_i, negD_i, absD_i, intD_i, max2D_i, min2D_i, ltD_i, leD_i, gtD_i, geD_i, eqD_i, neD_i, lenD_l, lenD_t, tupleD_l, tupleD_t, listD_l, listD_t, slD_l, slD_t, revD_l, truthD_b, truthD_n, ixD_l, ixD_t, un2_t, un3_t, un4_t, zipI_l, zipI_t, isD_n, isnD_n, isNone_n, isNone_i, isNone_b, isNone_s, isNone_l, isNone_t, m_eta, Bool.not_true, Bool.not_false, isL_list, atI_0, atI_1, atI_2, atI_3, c_t, c_f, m_needT, isi_tuple_n, isi_tuple_b, isi_tuple_i, isi_tuple_s, isi_tuple_l, isi_tuple_t, isi_list_n, isi_list_b, isi_list_i, isi_list_s, isi_list_l, isi_list_t, isi_dict_n, isi_dict_b, isi_dict_i, isi_dict_s, isi_dict_l, isi_dict_t, isi_str_n, isi_str_b, isi_str_i, isi_str_s, isi_str_l, isi_str_t, isi_bool_n, isi_bool_b, isi_bool_i, isi_bool_s, isi_bool_l, isi_bool_t, isi_int_n, isi_int_b, isi_int_i, isi_int_s, isi_int_l, isi_int_t, bind_run, pure_run, decide_eq_false (show ¬ (0 : Int) < (k : Int) by omega), if_neg h]
  simp (disch := first | assumption | rfl | omega | decide) only [mp_bind, m_assoc, m_opt, m_cond_pure, m_cond_bind, m_cond_t, m_cond_f, mapM_map, filM_map, fold_map, foldF_map, mapM_pure, filM_pure, fold_pure, asI_i, asB_b, asS_l, asS_t, seqOf_l, seqOf_t, addD_i, iaddD_i, subD_i, fdivD_i, modD_i, negD_i, absD_i, intD_i, max2D_i, min2D_i, ltD_i, leD_i, gtD_i, geD_i, eqD_i, neD_i, lenD_l, lenD_t, tupleD_l, tupleD_t, listD_l, listD_t, slD_l, slD_t, revD_l, truthD_b, truthD_n, ixD_l, ixD_t, un2_t, un3_t, un4_t, zipI_l, zipI_t, isD_n, isnD_n, isNone_n, isNone_i, isNone_b, isNone_s, isNone_l, isNone_t, m_eta, Bool.not_true, Bool.not_false, isL_list, atI_0, atI_1, atI_2, atI_3, c_t, c_f, m_needT, isi_tuple_n, isi_tuple_b, isi_tuple_i, isi_tuple_s, isi_tuple_l, isi_tuple_t, isi_list_n, isi_list_b, isi_list_i, isi_list_s, isi_list_l, isi_list_t, isi_dict_n, isi_dict_b, isi_dict_i, isi_dict_s, isi_dict_l, isi_dict_t, isi_str_n, isi_str_b, isi_str_i, isi_str_s, isi_str_l, isi_str_t, isi_bool_n, isi_bool_b, isi_bool_i, isi_bool_s, isi_bool_l, isi_bool_t, isi_int_n, isi_int_b, isi_int_i, isi_int_s, isi_int_l, isi_int_t, bind_run, pure_run, mp_bind] at e
  have e1 : (prs first crew).map (fun q => (.int (max 0 (q.1 - q.2)) : D)) = ((prs first crew).map fun q => max 0 (q.1 - q.2)).map .int := by rw [List.map_map]; rfl
  have e2 : (prs first crew).map (fun q => (.int (max 0 (q.2 - q.1)) : D)) = ((prs first crew).map fun q => max 0 (q.2 - q.1)).map .int := by rw [List.map_map]; rfl
  have e3 : (.tuple [.int (up first crew), .int (dn first crew)] : D) = tI [up first crew, dn first crew] := rfl
  simp (disch := first | assumption | rfl | omega | decide) only [mp_bind, m_assoc, m_opt, m_cond_pure, m_cond_bind, m_cond_t, m_cond_f, mapM_map, filM_map, fold_map, foldF_map, mapM_pure, filM_pure, fold_pure, asI_i, asB_b, asS_l, asS_t, seqOf_l, seqOf_t, addD_i, iaddD_i, subD_i, fdivD_i, modD_i, negD_i, absD_i, intD_i, max2D_i, min2D_i, ltD_i, leD_i, gtD_i, geD_i, eqD_i, neD_i, lenD_l, lenD_t, tupleD_l, tupleD_t, listD_l, listD_t, slD_l, slD_t, revD_l, truthD_b, truthD_n, ixD_l, ixD_t, un2_t, un3_t, un4_t, zipI_l, zipI_t, isD_n, isnD_n, isNone_n, isNone_i, isNone_b, isNone_s, isNone_l, isNone_t, m_eta, Bool.not_true, Bool.not_false, isL_list, atI_0, atI_1, atI_2, atI_3, c_t, c_f, m_needT, isi_tuple_n, isi_tuple_b, isi_tuple_i, isi_tuple_s, isi_tuple_l, isi_tuple_t, isi_list_n, isi_list_b, isi_list_i, isi_list_s, isi_list_l, isi_list_t, isi_dict_n, isi_dict_b, isi_dict_i, isi_dict_s, isi_dict_l, isi_dict_t, isi_str_n, isi_str_b, isi_str_i, isi_str_s, isi_str_l, isi_str_t, isi_bool_n, isi_bool_b, isi_bool_i, isi_bool_s, isi_bool_l, isi_bool_t, isi_int_n, isi_int_b, isi_int_i, isi_int_s, isi_int_l, isi_int_t, bind_run, pure_run, m_law_c3, len_tI, rngD_n (n := (crew.length : Int)) (by omega) (by omega), Int.toNat_natCast, e, e1, e2, sum1_l, up_prs, dn_prs, e_ups, e3, e_same 12 _ (okS_tI (n := 10) (xs := [up first crew, dn first crew]) (by simp)), m_law_c2]
theorem t_c4 : m_law_c4 (tI needs) (tI crew) (.int first) = M.pure (Fl.nx ()) := by
  have e : (M.mapM (fun x : D => (ixD (tI crew) x).bind fun a => (ixD (tI needs) x).bind fun b => (subD a b).bind fun y => max2D (.int 0) y) ((List.range needs.length).map fun (i : Nat) => .int (i : Int))) = M.pure ((idle needs crew).map .int) := by
    rw [mapM_map, mapM_eq_of (fun k : Nat => (.int (max 0 (crew.getD k 0 - needs.getD k 0)) : D)) fun k hk => ?_]
    · rw [range_zip (f := fun a b => (.int (max 0 (b - a)) : D)) hc, idle, List.map_map]; rfl
    · have hk' := List.mem_range.mp hk
      simp (disch := first | assumption | rfl | omega | decide) only [mp_bind, m_assoc, m_opt, m_cond_pure, m_cond_bind, m_cond_t, m_cond_f, mapM_map, filM_map, fold_map, foldF_map, mapM_pure, filM_pure, fold_pure, asI_i, asB_b, asS_l, asS_t, seqOf_l, seqOf_t, addD_i, iaddD_i, subD_i, fdivD_i, modD_i, negD_i, absD_i, intD_i, max2D_i, min2D_i, ltD_i, leD_i, gtD_i, geD_i, eqD_i, neD_i, lenD_l, lenD_t, tupleD_l, tupleD_t, listD_l, listD_t, slD_l, slD_t, revD_l, truthD_b, truthD_n, ixD_l, ixD_t, un2_t, un3_t, un4_t, zipI_l, zipI_t, isD_n, isnD_n, isNone_n, isNone_i, isNone_b, isNone_s, isNone_l, isNone_t, m_eta, Bool.not_true, Bool.not_false, isL_list, atI_0, atI_1, atI_2, atI_3, c_t, c_f, m_needT, isi_tuple_n, isi_tuple_b, isi_tuple_i, isi_tuple_s, isi_tuple_l, isi_tuple_t, isi_list_n, isi_list_b, isi_list_i, isi_list_s, isi_list_l, isi_list_t, isi_dict_n, isi_dict_b, isi_dict_i, isi_dict_s, isi_dict_l, isi_dict_t, isi_str_n, isi_str_b, isi_str_i, isi_str_s, isi_str_l, isi_str_t, isi_bool_n, isi_bool_b, isi_bool_i, isi_bool_s, isi_bool_l, isi_bool_t, isi_int_n, isi_int_b, isi_int_i, isi_int_s, isi_int_l, isi_int_t, bind_run, pure_run, ix_tI hk', ix_tI (xs := crew) (k := k) (by omega)]
  simp (disch := first | assumption | rfl | omega | decide) only [mp_bind, m_assoc, m_opt, m_cond_pure, m_cond_bind, m_cond_t, m_cond_f, mapM_map, filM_map, fold_map, foldF_map, mapM_pure, filM_pure, fold_pure, asI_i, asB_b, asS_l, asS_t, seqOf_l, seqOf_t, addD_i, iaddD_i, subD_i, fdivD_i, modD_i, negD_i, absD_i, intD_i, max2D_i, min2D_i, ltD_i, leD_i, gtD_i, geD_i, eqD_i, neD_i, lenD_l, lenD_t, tupleD_l, tupleD_t, listD_l, listD_t, slD_l, slD_t, revD_l, truthD_b, truthD_n, ixD_l, ixD_t, un2_t, un3_t, un4_t, zipI_l, zipI_t, isD_n, isnD_n, isNone_n, isNone_i, isNone_b, isNone_s, isNone_l, isNone_t, m_eta, Bool.not_true, Bool.not_false, isL_list, atI_0, atI_1, atI_2, atI_3, c_t, c_f, m_needT, isi_tuple_n, isi_tuple_b, isi_tuple_i, isi_tuple_s, isi_tuple_l, isi_tuple_t, isi_list_n, isi_list_b, isi_list_i, isi_list_s, isi_list_l, isi_list_t, isi_dict_n, isi_dict_b, isi_dict_i, isi_dict_s, isi_dict_l, isi_dict_t, isi_str_n, isi_str_b, isi_str_i, isi_str_s, isi_str_l, isi_str_t, isi_bool_n, isi_bool_b, isi_bool_i, isi_bool_s, isi_bool_l, isi_bool_t, isi_int_n, isi_int_b, isi_int_i, isi_int_s, isi_int_l, isi_int_t, bind_run, pure_run, mp_bind] at e
  simp (disch := first | assumption | rfl | omega | decide) only [mp_bind, m_assoc, m_opt, m_cond_pure, m_cond_bind, m_cond_t, m_cond_f, mapM_map, filM_map, fold_map, foldF_map, mapM_pure, filM_pure, fold_pure, asI_i, asB_b, asS_l, asS_t, seqOf_l, seqOf_t, addD_i, iaddD_i, subD_i, fdivD_i, modD_i, negD_i, absD_i, intD_i, max2D_i, min2D_i, ltD_i, leD_i, gtD_i, geD_i, eqD_i, neD_i, lenD_l, lenD_t, tupleD_l, tupleD_t, listD_l, listD_t, slD_l, slD_t, revD_l, truthD_b, truthD_n, ixD_l, ixD_t, un2_t, un3_t, un4_t, zipI_l, zipI_t, isD_n, isnD_n, isNone_n, isNone_i, isNone_b, isNone_s, isNone_l, isNone_t, m_eta, Bool.not_true, Bool.not_false, isL_list, atI_0, atI_1, atI_2, atI_3, c_t, c_f, m_needT, isi_tuple_n, isi_tuple_b, isi_tuple_i, isi_tuple_s, isi_tuple_l, isi_tuple_t, isi_list_n, isi_list_b, isi_list_i, isi_list_s, isi_list_l, isi_list_t, isi_dict_n, isi_dict_b, isi_dict_i, isi_dict_s, isi_dict_l, isi_dict_t, isi_str_n, isi_str_b, isi_str_i, isi_str_s, isi_str_l, isi_str_t, isi_bool_n, isi_bool_b, isi_bool_i, isi_bool_s, isi_bool_l, isi_bool_t, isi_int_n, isi_int_b, isi_int_i, isi_int_s, isi_int_l, isi_int_t, bind_run, pure_run, m_law_c4, e_idle, len_tI, rngD_n (n := (needs.length : Int)) (by omega) (by omega), Int.toNat_natCast, e, sum1_l, e_same 12 _ (okS_int (n := 11)), t_c3 hp h0 hn hln hc hlc]
theorem t_c5 : Ret (m_law_c5 (prD p) (tI needs) (tI crew) (.int first)) (Fl.nx ()) := by
  intro P hP
  have a0 := hp.a0; have a1 := hp.a1; have b0 := hp.b0; have b1 := hp.b1; have c0 := hp.c0; have c1 := hp.c1
  simp (disch := first | assumption | rfl | omega | decide) only [mp_bind, m_assoc, m_opt, m_cond_pure, m_cond_bind, m_cond_t, m_cond_f, mapM_map, filM_map, fold_map, foldF_map, mapM_pure, filM_pure, fold_pure, asI_i, asB_b, asS_l, asS_t, seqOf_l, seqOf_t, addD_i, iaddD_i, subD_i, fdivD_i, modD_i, negD_i, absD_i, intD_i, max2D_i, min2D_i, ltD_i, leD_i, gtD_i, geD_i, eqD_i, neD_i, lenD_l, lenD_t, tupleD_l, tupleD_t, listD_l, listD_t, slD_l, slD_t, revD_l, truthD_b, truthD_n, ixD_l, ixD_t, un2_t, un3_t, un4_t, zipI_l, zipI_t, isD_n, isnD_n, isNone_n, isNone_i, isNone_b, isNone_s, isNone_l, isNone_t, m_eta, Bool.not_true, Bool.not_false, isL_list, atI_0, atI_1, atI_2, atI_3, c_t, c_f, m_needT, isi_tuple_n, isi_tuple_b, isi_tuple_i, isi_tuple_s, isi_tuple_l, isi_tuple_t, isi_list_n, isi_list_b, isi_list_i, isi_list_s, isi_list_l, isi_list_t, isi_dict_n, isi_dict_b, isi_dict_i, isi_dict_s, isi_dict_l, isi_dict_t, isi_str_n, isi_str_b, isi_str_i, isi_str_s, isi_str_l, isi_str_t, isi_bool_n, isi_bool_b, isi_bool_i, isi_bool_s, isi_bool_l, isi_bool_t, isi_int_n, isi_int_b, isi_int_i, isi_int_s, isi_int_l, isi_int_t, bind_run, pure_run, m_law_c5]
  refine draw_run (by omega) fun many m0 m1 => ?_
  have ew := e_worth hp (many := many) (by omega)
  unfold prD at ew
  simp (disch := first | assumption | rfl | omega | decide) only [mp_bind, m_assoc, m_opt, m_cond_pure, m_cond_bind, m_cond_t, m_cond_f, mapM_map, filM_map, fold_map, foldF_map, mapM_pure, filM_pure, fold_pure, asI_i, asB_b, asS_l, asS_t, seqOf_l, seqOf_t, addD_i, iaddD_i, subD_i, fdivD_i, modD_i, negD_i, absD_i, intD_i, max2D_i, min2D_i, ltD_i, leD_i, gtD_i, geD_i, eqD_i, neD_i, lenD_l, lenD_t, tupleD_l, tupleD_t, listD_l, listD_t, slD_l, slD_t, revD_l, truthD_b, truthD_n, ixD_l, ixD_t, un2_t, un3_t, un4_t, zipI_l, zipI_t, isD_n, isnD_n, isNone_n, isNone_i, isNone_b, isNone_s, isNone_l, isNone_t, m_eta, Bool.not_true, Bool.not_false, isL_list, atI_0, atI_1, atI_2, atI_3, c_t, c_f, m_needT, isi_tuple_n, isi_tuple_b, isi_tuple_i, isi_tuple_s, isi_tuple_l, isi_tuple_t, isi_list_n, isi_list_b, isi_list_i, isi_list_s, isi_list_l, isi_list_t, isi_dict_n, isi_dict_b, isi_dict_i, isi_dict_s, isi_dict_l, isi_dict_t, isi_str_n, isi_str_b, isi_str_i, isi_str_s, isi_str_l, isi_str_t, isi_bool_n, isi_bool_b, isi_bool_i, isi_bool_s, isi_bool_l, isi_bool_t, isi_int_n, isi_int_b, isi_int_i, isi_int_s, isi_int_l, isi_int_t, bind_run, pure_run, prD, ew, mulD_s (sm (i := many) (by omega) (by omega)) (sm (i := p.2.2) (by omega) (by omega)), e_says]
  have := t_c4 hp h0 hn hln hc hlc
  simp (disch := first | assumption | rfl | omega | decide) only [mp_bind, m_assoc, m_opt, m_cond_pure, m_cond_bind, m_cond_t, m_cond_f, mapM_map, filM_map, fold_map, foldF_map, mapM_pure, filM_pure, fold_pure, asI_i, asB_b, asS_l, asS_t, seqOf_l, seqOf_t, addD_i, iaddD_i, subD_i, fdivD_i, modD_i, negD_i, absD_i, intD_i, max2D_i, min2D_i, ltD_i, leD_i, gtD_i, geD_i, eqD_i, neD_i, lenD_l, lenD_t, tupleD_l, tupleD_t, listD_l, listD_t, slD_l, slD_t, revD_l, truthD_b, truthD_n, ixD_l, ixD_t, un2_t, un3_t, un4_t, zipI_l, zipI_t, isD_n, isnD_n, isNone_n, isNone_i, isNone_b, isNone_s, isNone_l, isNone_t, m_eta, Bool.not_true, Bool.not_false, isL_list, atI_0, atI_1, atI_2, atI_3, c_t, c_f, m_needT, isi_tuple_n, isi_tuple_b, isi_tuple_i, isi_tuple_s, isi_tuple_l, isi_tuple_t, isi_list_n, isi_list_b, isi_list_i, isi_list_s, isi_list_l, isi_list_t, isi_dict_n, isi_dict_b, isi_dict_i, isi_dict_s, isi_dict_l, isi_dict_t, isi_str_n, isi_str_b, isi_str_i, isi_str_s, isi_str_l, isi_str_t, isi_bool_n, isi_bool_b, isi_bool_i, isi_bool_s, isi_bool_l, isi_bool_t, isi_int_n, isi_int_b, isi_int_i, isi_int_s, isi_int_l, isi_int_t, bind_run, pure_run, this]
  exact hP
theorem t_c6 {m : Res} {c : D} (h : MinOf (fun row => (cst p first row, row)) (fun row => decide (maxI 0 (lk needs row) = 0)) (rowsT (List.replicate needs.length (maxI first needs + 1))) (some m)) : Ret (m_law_c6 (prD p) (.int first) (tI needs) (rD m, c) (tI crew)) (Fl.nx ()) := by
  intro P hP
  have hLo : Lo needs := fun x hx => by have := hln x hx; omega
  have lm := lo_max hLo
  have el := e_level hp (now := first) (needs := needs) (by omega) hLo (by omega)
  have ew := e_law_cost hp (now := first) (crew := List.replicate needs.length (maxI 0 needs)) (by omega) (lo_rep lm) (c := .list (List.replicate needs.length (.int (maxI 0 needs)))) (.inr (by rw [List.map_replicate]))
  have h5 : ([(.int 0 : D)].length + (needs.map PyData.int).length) ≤ 16777216 := by simp; omega
  have es : ∀ Q : D → Prop, Q (.int (lvl p first needs - m.1)) → m_steady_price (prD p) (.int first) (tI needs) Q := fun Q hQ => by
    simp (disch := first | assumption | rfl | omega | decide) only [mp_bind, m_assoc, m_opt, m_cond_pure, m_cond_bind, m_cond_t, m_cond_f, mapM_map, filM_map, fold_map, foldF_map, mapM_pure, filM_pure, fold_pure, asI_i, asB_b, asS_l, asS_t, seqOf_l, seqOf_t, addD_i, iaddD_i, subD_i, fdivD_i, modD_i, negD_i, absD_i, intD_i, max2D_i, min2D_i, ltD_i, leD_i, gtD_i, geD_i, eqD_i, neD_i, lenD_l, lenD_t, tupleD_l, tupleD_t, listD_l, listD_t, slD_l, slD_t, revD_l, truthD_b, truthD_n, ixD_l, ixD_t, un2_t, un3_t, un4_t, zipI_l, zipI_t, isD_n, isnD_n, isNone_n, isNone_i, isNone_b, isNone_s, isNone_l, isNone_t, m_eta, Bool.not_true, Bool.not_false, isL_list, atI_0, atI_1, atI_2, atI_3, c_t, c_f, m_needT, isi_tuple_n, isi_tuple_b, isi_tuple_i, isi_tuple_s, isi_tuple_l, isi_tuple_t, isi_list_n, isi_list_b, isi_list_i, isi_list_s, isi_list_l, isi_list_t, isi_dict_n, isi_dict_b, isi_dict_i, isi_dict_s, isi_dict_l, isi_dict_t, isi_str_n, isi_str_b, isi_str_i, isi_str_s, isi_str_l, isi_str_t, isi_bool_n, isi_bool_b, isi_bool_i, isi_bool_s, isi_bool_l, isi_bool_t, isi_int_n, isi_int_b, isi_int_i, isi_int_s, isi_int_l, isi_int_t, bind_run, pure_run, m_steady_price, el]
    refine r_best_crew hp h0 (by omega) hln h _ ?_
    simp (disch := first | assumption | rfl | omega | decide) only [mp_bind, m_assoc, m_opt, m_cond_pure, m_cond_bind, m_cond_t, m_cond_f, mapM_map, filM_map, fold_map, foldF_map, mapM_pure, filM_pure, fold_pure, asI_i, asB_b, asS_l, asS_t, seqOf_l, seqOf_t, addD_i, iaddD_i, subD_i, fdivD_i, modD_i, negD_i, absD_i, intD_i, max2D_i, min2D_i, ltD_i, leD_i, gtD_i, geD_i, eqD_i, neD_i, lenD_l, lenD_t, tupleD_l, tupleD_t, listD_l, listD_t, slD_l, slD_t, revD_l, truthD_b, truthD_n, ixD_l, ixD_t, un2_t, un3_t, un4_t, zipI_l, zipI_t, isD_n, isnD_n, isNone_n, isNone_i, isNone_b, isNone_s, isNone_l, isNone_t, m_eta, Bool.not_true, Bool.not_false, isL_list, atI_0, atI_1, atI_2, atI_3, c_t, c_f, m_needT, isi_tuple_n, isi_tuple_b, isi_tuple_i, isi_tuple_s, isi_tuple_l, isi_tuple_t, isi_list_n, isi_list_b, isi_list_i, isi_list_s, isi_list_l, isi_list_t, isi_dict_n, isi_dict_b, isi_dict_i, isi_dict_s, isi_dict_l, isi_dict_t, isi_str_n, isi_str_b, isi_str_i, isi_str_s, isi_str_l, isi_str_t, isi_bool_n, isi_bool_b, isi_bool_i, isi_bool_s, isi_bool_l, isi_bool_t, isi_int_n, isi_int_b, isi_int_i, isi_int_s, isi_int_l, isi_int_t, bind_run, pure_run, rD]
    exact hQ
  have eadd : addD (.tuple [.int 0]) (tI needs) = M.pure (.tuple (.int 0 :: needs.map .int)) := by unfold tI; rw [addD_t h5]; rfl
  simp (disch := first | assumption | rfl | omega | decide) only [mp_bind, m_assoc, m_opt, m_cond_pure, m_cond_bind, m_cond_t, m_cond_f, mapM_map, filM_map, fold_map, foldF_map, mapM_pure, filM_pure, fold_pure, asI_i, asB_b, asS_l, asS_t, seqOf_l, seqOf_t, addD_i, iaddD_i, subD_i, fdivD_i, modD_i, negD_i, absD_i, intD_i, max2D_i, min2D_i, ltD_i, leD_i, gtD_i, geD_i, eqD_i, neD_i, lenD_l, lenD_t, tupleD_l, tupleD_t, listD_l, listD_t, slD_l, slD_t, revD_l, truthD_b, truthD_n, ixD_l, ixD_t, un2_t, un3_t, un4_t, zipI_l, zipI_t, isD_n, isnD_n, isNone_n, isNone_i, isNone_b, isNone_s, isNone_l, isNone_t, m_eta, Bool.not_true, Bool.not_false, isL_list, atI_0, atI_1, atI_2, atI_3, c_t, c_f, m_needT, isi_tuple_n, isi_tuple_b, isi_tuple_i, isi_tuple_s, isi_tuple_l, isi_tuple_t, isi_list_n, isi_list_b, isi_list_i, isi_list_s, isi_list_l, isi_list_t, isi_dict_n, isi_dict_b, isi_dict_i, isi_dict_s, isi_dict_l, isi_dict_t, isi_str_n, isi_str_b, isi_str_i, isi_str_s, isi_str_l, isi_str_t, isi_bool_n, isi_bool_b, isi_bool_i, isi_bool_s, isi_bool_l, isi_bool_t, isi_int_n, isi_int_b, isi_int_i, isi_int_s, isi_int_l, isi_int_t, bind_run, pure_run, m_law_c6, eadd, max1_t, len_tI, mulD_l (xs := [(.int (maxI 0 needs) : D)]) (k := (needs.length : Int)) ⟨by omega, by omega, by simp; omega⟩, rep_one, Int.toNat_natCast, ew, el]
  have e0 : cst p first (List.replicate needs.length (maxI 0 needs)) = lvl p first needs := rfl
  simp (disch := first | assumption | rfl | omega | decide) only [mp_bind, m_assoc, m_opt, m_cond_pure, m_cond_bind, m_cond_t, m_cond_f, mapM_map, filM_map, fold_map, foldF_map, mapM_pure, filM_pure, fold_pure, asI_i, asB_b, asS_l, asS_t, seqOf_l, seqOf_t, addD_i, iaddD_i, subD_i, fdivD_i, modD_i, negD_i, absD_i, intD_i, max2D_i, min2D_i, ltD_i, leD_i, gtD_i, geD_i, eqD_i, neD_i, lenD_l, lenD_t, tupleD_l, tupleD_t, listD_l, listD_t, slD_l, slD_t, revD_l, truthD_b, truthD_n, ixD_l, ixD_t, un2_t, un3_t, un4_t, zipI_l, zipI_t, isD_n, isnD_n, isNone_n, isNone_i, isNone_b, isNone_s, isNone_l, isNone_t, m_eta, Bool.not_true, Bool.not_false, isL_list, atI_0, atI_1, atI_2, atI_3, c_t, c_f, m_needT, isi_tuple_n, isi_tuple_b, isi_tuple_i, isi_tuple_s, isi_tuple_l, isi_tuple_t, isi_list_n, isi_list_b, isi_list_i, isi_list_s, isi_list_l, isi_list_t, isi_dict_n, isi_dict_b, isi_dict_i, isi_dict_s, isi_dict_l, isi_dict_t, isi_str_n, isi_str_b, isi_str_i, isi_str_s, isi_str_l, isi_str_t, isi_bool_n, isi_bool_b, isi_bool_i, isi_bool_s, isi_bool_l, isi_bool_t, isi_int_n, isi_int_b, isi_int_i, isi_int_s, isi_int_l, isi_int_t, bind_run, pure_run, e0, e_same 12 _ (okS_int (n := 11))]
  refine es _ ?_
  simp (disch := first | assumption | rfl | omega | decide) only [mp_bind, m_assoc, m_opt, m_cond_pure, m_cond_bind, m_cond_t, m_cond_f, mapM_map, filM_map, fold_map, foldF_map, mapM_pure, filM_pure, fold_pure, asI_i, asB_b, asS_l, asS_t, seqOf_l, seqOf_t, addD_i, iaddD_i, subD_i, fdivD_i, modD_i, negD_i, absD_i, intD_i, max2D_i, min2D_i, ltD_i, leD_i, gtD_i, geD_i, eqD_i, neD_i, lenD_l, lenD_t, tupleD_l, tupleD_t, listD_l, listD_t, slD_l, slD_t, revD_l, truthD_b, truthD_n, ixD_l, ixD_t, un2_t, un3_t, un4_t, zipI_l, zipI_t, isD_n, isnD_n, isNone_n, isNone_i, isNone_b, isNone_s, isNone_l, isNone_t, m_eta, Bool.not_true, Bool.not_false, isL_list, atI_0, atI_1, atI_2, atI_3, c_t, c_f, m_needT, isi_tuple_n, isi_tuple_b, isi_tuple_i, isi_tuple_s, isi_tuple_l, isi_tuple_t, isi_list_n, isi_list_b, isi_list_i, isi_list_s, isi_list_l, isi_list_t, isi_dict_n, isi_dict_b, isi_dict_i, isi_dict_s, isi_dict_l, isi_dict_t, isi_str_n, isi_str_b, isi_str_i, isi_str_s, isi_str_l, isi_str_t, isi_bool_n, isi_bool_b, isi_bool_i, isi_bool_s, isi_bool_l, isi_bool_t, isi_int_n, isi_int_b, isi_int_i, isi_int_s, isi_int_l, isi_int_t, bind_run, pure_run, rD, e_same 12 _ (okS_int (n := 11))]
  exact t_c5 hp h0 hn hln hc hlc P hP
theorem t_c8 : Ret (m_law_c8 (.int first) (tI needs) (prD p) (tI crew)) (Fl.nx ()) := by
  intro P hP
  obtain ⟨t0, t1, t2⟩ := top_bd hp h0 (by omega) hln
  have hLo : Lo needs := fun x hx => by have := hln x hx; omega
  have h5 : ([(.int first : D)].length + (needs.map PyData.int).length) ≤ 16777216 := by simp; omega
  have eadd : addD (.tuple [.int first]) (tI needs) = M.pure (.tuple (.int first :: needs.map .int)) := by unfold tI; rw [addD_t h5]; rfl
  simp (disch := first | assumption | rfl | omega | decide) only [mp_bind, m_assoc, m_opt, m_cond_pure, m_cond_bind, m_cond_t, m_cond_f, mapM_map, filM_map, fold_map, foldF_map, mapM_pure, filM_pure, fold_pure, asI_i, asB_b, asS_l, asS_t, seqOf_l, seqOf_t, addD_i, iaddD_i, subD_i, fdivD_i, modD_i, negD_i, absD_i, intD_i, max2D_i, min2D_i, ltD_i, leD_i, gtD_i, geD_i, eqD_i, neD_i, lenD_l, lenD_t, tupleD_l, tupleD_t, listD_l, listD_t, slD_l, slD_t, revD_l, truthD_b, truthD_n, ixD_l, ixD_t, un2_t, un3_t, un4_t, zipI_l, zipI_t, isD_n, isnD_n, isNone_n, isNone_i, isNone_b, isNone_s, isNone_l, isNone_t, m_eta, Bool.not_true, Bool.not_false, isL_list, atI_0, atI_1, atI_2, atI_3, c_t, c_f, m_needT, isi_tuple_n, isi_tuple_b, isi_tuple_i, isi_tuple_s, isi_tuple_l, isi_tuple_t, isi_list_n, isi_list_b, isi_list_i, isi_list_s, isi_list_l, isi_list_t, isi_dict_n, isi_dict_b, isi_dict_i, isi_dict_s, isi_dict_l, isi_dict_t, isi_str_n, isi_str_b, isi_str_i, isi_str_s, isi_str_l, isi_str_t, isi_bool_n, isi_bool_b, isi_bool_i, isi_bool_s, isi_bool_l, isi_bool_t, isi_int_n, isi_int_b, isi_int_i, isi_int_s, isi_int_l, isi_int_t, bind_run, pure_run, m_law_c8, eadd, max1_t]
  refine draw_run (by omega) fun over o0 o1 => ?_
  refine draw_run (by omega) fun limit l0 l1 => ?_
  simp (disch := first | assumption | rfl | omega | decide) only [mp_bind, m_assoc, m_opt, m_cond_pure, m_cond_bind, m_cond_t, m_cond_f, mapM_map, filM_map, fold_map, foldF_map, mapM_pure, filM_pure, fold_pure, asI_i, asB_b, asS_l, asS_t, seqOf_l, seqOf_t, addD_i, iaddD_i, subD_i, fdivD_i, modD_i, negD_i, absD_i, intD_i, max2D_i, min2D_i, ltD_i, leD_i, gtD_i, geD_i, eqD_i, neD_i, lenD_l, lenD_t, tupleD_l, tupleD_t, listD_l, listD_t, slD_l, slD_t, revD_l, truthD_b, truthD_n, ixD_l, ixD_t, un2_t, un3_t, un4_t, zipI_l, zipI_t, isD_n, isnD_n, isNone_n, isNone_i, isNone_b, isNone_s, isNone_l, isNone_t, m_eta, Bool.not_true, Bool.not_false, isL_list, atI_0, atI_1, atI_2, atI_3, c_t, c_f, m_needT, isi_tuple_n, isi_tuple_b, isi_tuple_i, isi_tuple_s, isi_tuple_l, isi_tuple_t, isi_list_n, isi_list_b, isi_list_i, isi_list_s, isi_list_l, isi_list_t, isi_dict_n, isi_dict_b, isi_dict_i, isi_dict_s, isi_dict_l, isi_dict_t, isi_str_n, isi_str_b, isi_str_i, isi_str_s, isi_str_l, isi_str_t, isi_bool_n, isi_bool_b, isi_bool_i, isi_bool_s, isi_bool_l, isi_bool_t, isi_int_n, isi_int_b, isi_int_i, isi_int_s, isi_int_l, isi_int_t, bind_run, pure_run, len_tI, mulD_l (xs := [(.int (maxI first needs + 1) : D)]) (k := (needs.length : Int)) ⟨by omega, by omega, by simp; omega⟩, rep_one, Int.toNat_natCast, e_rows t0 (show maxI first needs ≤ 10 by omega) (n := needs.length) (by omega)]
  generalize hR : rowsT (List.replicate needs.length (maxI first needs + 1)) = R
  refine fold_run (fun i s => ∃ b c, s = (oD b, oD c) ∧ MinOf (fun row => (cst p first row, row)) (fun row => decide (maxI 0 (lk needs row) = 0)) (R.take i) b ∧ MinOf (fun row => (cst p first row + over * (lk needs row).sum, row)) (fun row => decide (maxI 0 (lk needs row) ≤ limit)) (R.take i) c) R ⟨none, none, rfl, ⟨fun _ r hr => by simp at hr, fun m e => nomatch e⟩, ⟨fun _ r hr => by simp at hr, fun m e => nomatch e⟩⟩ (fun i hi s hI Q hQ => ?_) fun s hI => ?_
  · obtain ⟨b, c, rfl, hb, hc'⟩ := hI
    have hm : R[i] ∈ rowsT (List.replicate needs.length (maxI first needs + 1)) := by rw [hR]; exact List.getElem_mem hi
    obtain ⟨r1, r2⟩ := (mem_rows t0 _ _).mp hm
    rw [e_b1 hp (by omega) (by omega) r1 hLo (fun x hx => by have := r2 x hx; omega) (by omega)]
    refine hQ _ ⟨_, _, rfl, ?_, ?_⟩
    · rw [List.take_succ_eq_append_getElem hi]; exact hb.step _
    · rw [List.take_succ_eq_append_getElem hi]; exact hc'.step _
  · obtain ⟨b, c, rfl, hb, hc'⟩ := hI
    rw [List.take_length] at hb hc'
    have hin : List.replicate needs.length (maxI first needs) ∈ R := by
      rw [← hR]
      refine (mem_rows t0 _ _).mpr ⟨by simp, fun x hx => ?_⟩
      rw [(List.mem_replicate.mp hx).2]; omega
    have hq0 : maxI 0 (lk needs (List.replicate needs.length (maxI first needs))) = 0 := max_lk0.mpr fun q hq => by
      have e := (List.mem_replicate.mp (List.of_mem_zip hq).2).2
      rw [e]; exact t2 _ (List.of_mem_zip hq).1
    have lens : ∀ row ∈ R, row.length = needs.length := fun row hr => ((mem_rows t0 _ _).mp (hR ▸ hr)).1
    cases b with
    | none => have := hb.no rfl _ hin; rw [hq0] at this; simp at this
    | some mb =>
      cases c with
      | none => have := hc'.no rfl _ hin; rw [hq0] at this; simp at this; omega
      | some mc =>
        have lb : mb.2.length ≤ 16777216 := by
          obtain ⟨⟨row, h1, h2, h3⟩, _⟩ := hb.yes mb rfl
          rw [← h3, lens row h1]; omega
        have lc : mc.2.length ≤ 16777216 := by
          obtain ⟨⟨row, h1, h2, h3⟩, _⟩ := hc'.yes mc rfl
          rw [← h3, lens row h1]; omega
        rw [← hR] at hb hc'
        show m_law_r7 (prD p) (.int first) (tI needs) (.int over) (.int limit) (tI crew) (rD mb, rD mc) P
        simp (disch := first | assumption | rfl | omega | decide) only [mp_bind, m_assoc, m_opt, m_cond_pure, m_cond_bind, m_cond_t, m_cond_f, mapM_map, filM_map, fold_map, foldF_map, mapM_pure, filM_pure, fold_pure, asI_i, asB_b, asS_l, asS_t, seqOf_l, seqOf_t, addD_i, iaddD_i, subD_i, fdivD_i, modD_i, negD_i, absD_i, intD_i, max2D_i, min2D_i, ltD_i, leD_i, gtD_i, geD_i, eqD_i, neD_i, lenD_l, lenD_t, tupleD_l, tupleD_t, listD_l, listD_t, slD_l, slD_t, revD_l, truthD_b, truthD_n, ixD_l, ixD_t, un2_t, un3_t, un4_t, zipI_l, zipI_t, isD_n, isnD_n, isNone_n, isNone_i, isNone_b, isNone_s, isNone_l, isNone_t, m_eta, Bool.not_true, Bool.not_false, isL_list, atI_0, atI_1, atI_2, atI_3, c_t, c_f, m_needT, isi_tuple_n, isi_tuple_b, isi_tuple_i, isi_tuple_s, isi_tuple_l, isi_tuple_t, isi_list_n, isi_list_b, isi_list_i, isi_list_s, isi_list_l, isi_list_t, isi_dict_n, isi_dict_b, isi_dict_i, isi_dict_s, isi_dict_l, isi_dict_t, isi_str_n, isi_str_b, isi_str_i, isi_str_s, isi_str_l, isi_str_t, isi_bool_n, isi_bool_b, isi_bool_i, isi_bool_s, isi_bool_l, isi_bool_t, isi_int_n, isi_int_b, isi_int_i, isi_int_s, isi_int_l, isi_int_t, bind_run, pure_run, m_law_r7]
        refine r_best_crew hp h0 (by omega) hln hb _ ?_
        simp (disch := first | assumption | rfl | omega | decide) only [mp_bind, m_assoc, m_opt, m_cond_pure, m_cond_bind, m_cond_t, m_cond_f, mapM_map, filM_map, fold_map, foldF_map, mapM_pure, filM_pure, fold_pure, asI_i, asB_b, asS_l, asS_t, seqOf_l, seqOf_t, addD_i, iaddD_i, subD_i, fdivD_i, modD_i, negD_i, absD_i, intD_i, max2D_i, min2D_i, ltD_i, leD_i, gtD_i, geD_i, eqD_i, neD_i, lenD_l, lenD_t, tupleD_l, tupleD_t, listD_l, listD_t, slD_l, slD_t, revD_l, truthD_b, truthD_n, ixD_l, ixD_t, un2_t, un3_t, un4_t, zipI_l, zipI_t, isD_n, isnD_n, isNone_n, isNone_i, isNone_b, isNone_s, isNone_l, isNone_t, m_eta, Bool.not_true, Bool.not_false, isL_list, atI_0, atI_1, atI_2, atI_3, c_t, c_f, m_needT, isi_tuple_n, isi_tuple_b, isi_tuple_i, isi_tuple_s, isi_tuple_l, isi_tuple_t, isi_list_n, isi_list_b, isi_list_i, isi_list_s, isi_list_l, isi_list_t, isi_dict_n, isi_dict_b, isi_dict_i, isi_dict_s, isi_dict_l, isi_dict_t, isi_str_n, isi_str_b, isi_str_i, isi_str_s, isi_str_l, isi_str_t, isi_bool_n, isi_bool_b, isi_bool_i, isi_bool_s, isi_bool_l, isi_bool_t, isi_int_n, isi_int_b, isi_int_i, isi_int_s, isi_int_l, isi_int_t, bind_run, pure_run, e_same 12 _ (okS_rD (n := 9) lb)]
        refine r_with_over hp h0 (by omega) hln (by omega) (by omega) hc' _ ?_
        simp (disch := first | assumption | rfl | omega | decide) only [mp_bind, m_assoc, m_opt, m_cond_pure, m_cond_bind, m_cond_t, m_cond_f, mapM_map, filM_map, fold_map, foldF_map, mapM_pure, filM_pure, fold_pure, asI_i, asB_b, asS_l, asS_t, seqOf_l, seqOf_t, addD_i, iaddD_i, subD_i, fdivD_i, modD_i, negD_i, absD_i, intD_i, max2D_i, min2D_i, ltD_i, leD_i, gtD_i, geD_i, eqD_i, neD_i, lenD_l, lenD_t, tupleD_l, tupleD_t, listD_l, listD_t, slD_l, slD_t, revD_l, truthD_b, truthD_n, ixD_l, ixD_t, un2_t, un3_t, un4_t, zipI_l, zipI_t, isD_n, isnD_n, isNone_n, isNone_i, isNone_b, isNone_s, isNone_l, isNone_t, m_eta, Bool.not_true, Bool.not_false, isL_list, atI_0, atI_1, atI_2, atI_3, c_t, c_f, m_needT, isi_tuple_n, isi_tuple_b, isi_tuple_i, isi_tuple_s, isi_tuple_l, isi_tuple_t, isi_list_n, isi_list_b, isi_list_i, isi_list_s, isi_list_l, isi_list_t, isi_dict_n, isi_dict_b, isi_dict_i, isi_dict_s, isi_dict_l, isi_dict_t, isi_str_n, isi_str_b, isi_str_i, isi_str_s, isi_str_l, isi_str_t, isi_bool_n, isi_bool_b, isi_bool_i, isi_bool_s, isi_bool_l, isi_bool_t, isi_int_n, isi_int_b, isi_int_i, isi_int_s, isi_int_l, isi_int_t, bind_run, pure_run, e_same 12 _ (okS_rD (n := 9) lc)]
        exact t_c6 hp h0 hn hln hc hlc hb P hP
end
theorem t_b9 (a : D) : Ret (m_law_b9 () a) (Fl.nx ()) := by
  intro P hP
  simp (disch := first | assumption | rfl | omega | decide) only [mp_bind, m_assoc, m_opt, m_cond_pure, m_cond_bind, m_cond_t, m_cond_f, mapM_map, filM_map, fold_map, foldF_map, mapM_pure, filM_pure, fold_pure, asI_i, asB_b, asS_l, asS_t, seqOf_l, seqOf_t, addD_i, iaddD_i, subD_i, fdivD_i, modD_i, negD_i, absD_i, intD_i, max2D_i, min2D_i, ltD_i, leD_i, gtD_i, geD_i, eqD_i, neD_i, lenD_l, lenD_t, tupleD_l, tupleD_t, listD_l, listD_t, slD_l, slD_t, revD_l, truthD_b, truthD_n, ixD_l, ixD_t, un2_t, un3_t, un4_t, zipI_l, zipI_t, isD_n, isnD_n, isNone_n, isNone_i, isNone_b, isNone_s, isNone_l, isNone_t, m_eta, Bool.not_true, Bool.not_false, isL_list, atI_0, atI_1, atI_2, atI_3, c_t, c_f, m_needT, isi_tuple_n, isi_tuple_b, isi_tuple_i, isi_tuple_s, isi_tuple_l, isi_tuple_t, isi_list_n, isi_list_b, isi_list_i, isi_list_s, isi_list_l, isi_list_t, isi_dict_n, isi_dict_b, isi_dict_i, isi_dict_s, isi_dict_l, isi_dict_t, isi_str_n, isi_str_b, isi_str_i, isi_str_s, isi_str_l, isi_str_t, isi_bool_n, isi_bool_b, isi_bool_i, isi_bool_s, isi_bool_l, isi_bool_t, isi_int_n, isi_int_b, isi_int_i, isi_int_s, isi_int_l, isi_int_t, bind_run, pure_run, m_law_b9]
  refine draw_run (by omega) fun x x0 x1 => ?_
  refine draw_run (by omega) fun y y0 y1 => ?_
  refine draw_run (by omega) fun z z0 z1 => ?_
  refine draw_run (by omega) fun first f0 f1 => ?_
  refine draw_run (by omega) fun n n0 n1 => ?_
  simp (disch := first | assumption | rfl | omega | decide) only [mp_bind, m_assoc, m_opt, m_cond_pure, m_cond_bind, m_cond_t, m_cond_f, mapM_map, filM_map, fold_map, foldF_map, mapM_pure, filM_pure, fold_pure, asI_i, asB_b, asS_l, asS_t, seqOf_l, seqOf_t, addD_i, iaddD_i, subD_i, fdivD_i, modD_i, negD_i, absD_i, intD_i, max2D_i, min2D_i, ltD_i, leD_i, gtD_i, geD_i, eqD_i, neD_i, lenD_l, lenD_t, tupleD_l, tupleD_t, listD_l, listD_t, slD_l, slD_t, revD_l, truthD_b, truthD_n, ixD_l, ixD_t, un2_t, un3_t, un4_t, zipI_l, zipI_t, isD_n, isnD_n, isNone_n, isNone_i, isNone_b, isNone_s, isNone_l, isNone_t, m_eta, Bool.not_true, Bool.not_false, isL_list, atI_0, atI_1, atI_2, atI_3, c_t, c_f, m_needT, isi_tuple_n, isi_tuple_b, isi_tuple_i, isi_tuple_s, isi_tuple_l, isi_tuple_t, isi_list_n, isi_list_b, isi_list_i, isi_list_s, isi_list_l, isi_list_t, isi_dict_n, isi_dict_b, isi_dict_i, isi_dict_s, isi_dict_l, isi_dict_t, isi_str_n, isi_str_b, isi_str_i, isi_str_s, isi_str_l, isi_str_t, isi_bool_n, isi_bool_b, isi_bool_i, isi_bool_s, isi_bool_l, isi_bool_t, isi_int_n, isi_int_b, isi_int_i, isi_int_s, isi_int_l, isi_int_t, bind_run, pure_run, rngD_n (n := n) (by omega) (by omega)]
  refine mapM_drawn (Q := fun i => 0 ≤ i ∧ i < 4) (fun x _ R hR => draw_run (by omega) fun r r0 r1 => hR r ⟨r0, r1⟩) fun needs hl hq => ?_
  have hl' : needs.length ≤ 4 := by simp at hl; omega
  simp (disch := first | assumption | rfl | omega | decide) only [mp_bind, m_assoc, m_opt, m_cond_pure, m_cond_bind, m_cond_t, m_cond_f, mapM_map, filM_map, fold_map, foldF_map, mapM_pure, filM_pure, fold_pure, asI_i, asB_b, asS_l, asS_t, seqOf_l, seqOf_t, addD_i, iaddD_i, subD_i, fdivD_i, modD_i, negD_i, absD_i, intD_i, max2D_i, min2D_i, ltD_i, leD_i, gtD_i, geD_i, eqD_i, neD_i, lenD_l, lenD_t, tupleD_l, tupleD_t, listD_l, listD_t, slD_l, slD_t, revD_l, truthD_b, truthD_n, ixD_l, ixD_t, un2_t, un3_t, un4_t, zipI_l, zipI_t, isD_n, isnD_n, isNone_n, isNone_i, isNone_b, isNone_s, isNone_l, isNone_t, m_eta, Bool.not_true, Bool.not_false, isL_list, atI_0, atI_1, atI_2, atI_3, c_t, c_f, m_needT, isi_tuple_n, isi_tuple_b, isi_tuple_i, isi_tuple_s, isi_tuple_l, isi_tuple_t, isi_list_n, isi_list_b, isi_list_i, isi_list_s, isi_list_l, isi_list_t, isi_dict_n, isi_dict_b, isi_dict_i, isi_dict_s, isi_dict_l, isi_dict_t, isi_str_n, isi_str_b, isi_str_i, isi_str_s, isi_str_l, isi_str_t, isi_bool_n, isi_bool_b, isi_bool_i, isi_bool_s, isi_bool_l, isi_bool_t, isi_int_n, isi_int_b, isi_int_i, isi_int_s, isi_int_l, isi_int_t, bind_run, pure_run]
  refine mapM_drawn (Q := fun i => 0 ≤ i ∧ i < 5) (fun x _ R hR => draw_run (by omega) fun r r0 r1 => hR r ⟨r0, r1⟩) fun crew hc hqc => ?_
  have hc' : crew.length = needs.length := by simpa using hc
  have hp : Pr.Ok (x, y, z) := ⟨x0, by show x ≤ 10; omega, y0, by show y ≤ 10; omega, z0, by show z ≤ 10; omega⟩
  have hLn : Lo needs := fun i hi => by have := hq i hi; omega
  have hLc : Lo crew := fun i hi => by have := hqc i hi; omega
  have e1 := e_cost hp (now := first) (by omega) hLc
  have e2 := e_law_cost hp (now := first) (by omega) hLc (c := tI crew) (.inl rfl)
  have e3 := e_follow hp (now := first) (by omega) hLn
  have e4 := e_law_cost hp (now := first) (by omega) hLn (c := tI needs) (.inl rfl)
  unfold prD tI at e1 e2 e3 e4
  simp (disch := first | assumption | rfl | omega | decide) only [mp_bind, m_assoc, m_opt, m_cond_pure, m_cond_bind, m_cond_t, m_cond_f, mapM_map, filM_map, fold_map, foldF_map, mapM_pure, filM_pure, fold_pure, asI_i, asB_b, asS_l, asS_t, seqOf_l, seqOf_t, addD_i, iaddD_i, subD_i, fdivD_i, modD_i, negD_i, absD_i, intD_i, max2D_i, min2D_i, ltD_i, leD_i, gtD_i, geD_i, eqD_i, neD_i, lenD_l, lenD_t, tupleD_l, tupleD_t, listD_l, listD_t, slD_l, slD_t, revD_l, truthD_b, truthD_n, ixD_l, ixD_t, un2_t, un3_t, un4_t, zipI_l, zipI_t, isD_n, isnD_n, isNone_n, isNone_i, isNone_b, isNone_s, isNone_l, isNone_t, m_eta, Bool.not_true, Bool.not_false, isL_list, atI_0, atI_1, atI_2, atI_3, c_t, c_f, m_needT, isi_tuple_n, isi_tuple_b, isi_tuple_i, isi_tuple_s, isi_tuple_l, isi_tuple_t, isi_list_n, isi_list_b, isi_list_i, isi_list_s, isi_list_l, isi_list_t, isi_dict_n, isi_dict_b, isi_dict_i, isi_dict_s, isi_dict_l, isi_dict_t, isi_str_n, isi_str_b, isi_str_i, isi_str_s, isi_str_l, isi_str_t, isi_bool_n, isi_bool_b, isi_bool_i, isi_bool_s, isi_bool_l, isi_bool_t, isi_int_n, isi_int_b, isi_int_i, isi_int_s, isi_int_l, isi_int_t, bind_run, pure_run, e1, e2, e3, e4, e_same 12 _ (okS_int (n := 11))]
  exact t_c8 hp (first := first) (by omega) hl' (fun i hi => by have := hq i hi; omega) hc' (fun i hi => by have := hqc i hi; omega) P hP
theorem law_ok : m_law fun d => d = .bool true := by
  simp (disch := first | assumption | rfl | omega | decide) only [mp_bind, m_assoc, m_opt, m_cond_pure, m_cond_bind, m_cond_t, m_cond_f, mapM_map, filM_map, fold_map, foldF_map, mapM_pure, filM_pure, fold_pure, asI_i, asB_b, asS_l, asS_t, seqOf_l, seqOf_t, addD_i, iaddD_i, subD_i, fdivD_i, modD_i, negD_i, absD_i, intD_i, max2D_i, min2D_i, ltD_i, leD_i, gtD_i, geD_i, eqD_i, neD_i, lenD_l, lenD_t, tupleD_l, tupleD_t, listD_l, listD_t, slD_l, slD_t, revD_l, truthD_b, truthD_n, ixD_l, ixD_t, un2_t, un3_t, un4_t, zipI_l, zipI_t, isD_n, isnD_n, isNone_n, isNone_i, isNone_b, isNone_s, isNone_l, isNone_t, m_eta, Bool.not_true, Bool.not_false, isL_list, atI_0, atI_1, atI_2, atI_3, c_t, c_f, m_needT, isi_tuple_n, isi_tuple_b, isi_tuple_i, isi_tuple_s, isi_tuple_l, isi_tuple_t, isi_list_n, isi_list_b, isi_list_i, isi_list_s, isi_list_l, isi_list_t, isi_dict_n, isi_dict_b, isi_dict_i, isi_dict_s, isi_dict_l, isi_dict_t, isi_str_n, isi_str_b, isi_str_i, isi_str_s, isi_str_l, isi_str_t, isi_bool_n, isi_bool_b, isi_bool_i, isi_bool_s, isi_bool_l, isi_bool_t, isi_int_n, isi_int_b, isi_int_i, isi_int_s, isi_int_l, isi_int_t, bind_run, pure_run, m_law, rngD_n (n := 5) (by omega) (by omega)]
  refine foldF_unit (fun x _ Q hQ => t_b9 _ Q hQ) ?_
  show m_law_r10 () _
  simp (disch := first | assumption | rfl | omega | decide) only [mp_bind, m_assoc, m_opt, m_cond_pure, m_cond_bind, m_cond_t, m_cond_f, mapM_map, filM_map, fold_map, foldF_map, mapM_pure, filM_pure, fold_pure, asI_i, asB_b, asS_l, asS_t, seqOf_l, seqOf_t, addD_i, iaddD_i, subD_i, fdivD_i, modD_i, negD_i, absD_i, intD_i, max2D_i, min2D_i, ltD_i, leD_i, gtD_i, geD_i, eqD_i, neD_i, lenD_l, lenD_t, tupleD_l, tupleD_t, listD_l, listD_t, slD_l, slD_t, revD_l, truthD_b, truthD_n, ixD_l, ixD_t, un2_t, un3_t, un4_t, zipI_l, zipI_t, isD_n, isnD_n, isNone_n, isNone_i, isNone_b, isNone_s, isNone_l, isNone_t, m_eta, Bool.not_true, Bool.not_false, isL_list, atI_0, atI_1, atI_2, atI_3, c_t, c_f, m_needT, isi_tuple_n, isi_tuple_b, isi_tuple_i, isi_tuple_s, isi_tuple_l, isi_tuple_t, isi_list_n, isi_list_b, isi_list_i, isi_list_s, isi_list_l, isi_list_t, isi_dict_n, isi_dict_b, isi_dict_i, isi_dict_s, isi_dict_l, isi_dict_t, isi_str_n, isi_str_b, isi_str_i, isi_str_s, isi_str_l, isi_str_t, isi_bool_n, isi_bool_b, isi_bool_i, isi_bool_s, isi_bool_l, isi_bool_t, isi_int_n, isi_int_b, isi_int_i, isi_int_s, isi_int_l, isi_int_t, bind_run, pure_run, m_law_r10]
end L37
namespace L37
open PySem PySem.Spec PyProof.Rows L2 Wp
theorem all_mk {w : World} {K : PySem.W.Frag} {mg : Str → Option Value} {fa : Addr} (hb_abs : mg "abs" = none) (hb_bool : mg "bool" = none) (hb_int : mg "int" = none) (hb_isinstance : mg "isinstance" = none) (hb_len : mg "len" = none) (hb_max : mg "max" = none) (hb_min : mg "min" = none) (hb_range : mg "range" = none) (hb_str : mg "str" = none) (hb_sum : mg "sum" = none) (hb_tuple : mg "tuple" = none) (hb_zip : mg "zip" = none) (h_cost_of_crew : Has K mg "cost_of_crew" st_cost_of_crew) (h_best_by : Has K mg "best_by" st_best_by) (h_best_crew : Has K mg "best_crew" st_best_crew) (h_with_over : Has K mg "with_over" st_with_over) (h_follow : Has K mg "follow" st_follow) (h_level : Has K mg "level" st_level) (h_worth_keeping : Has K mg "worth_keeping" st_worth_keeping) (h_idle_months : Has K mg "idle_months" st_idle_months) (h_ups : Has K mg "ups" st_ups) (h_steady_price : Has K mg "steady_price" st_steady_price) (h__law_draws : Has K mg "_law_draws" st__law_draws) (h__law_next : Has K mg "_law_next" st__law_next) (h__law_pick : Has K mg "_law_pick" st__law_pick) (h__law_says : Has K mg "_law_says" st__law_says) (h__law_same : Has K mg "_law_same" st__law_same) (h__law_rows : Has K mg "_law_rows" st__law_rows) (h__law_cost : Has K mg "_law_cost" st__law_cost) (hl : HasL K st_law fa) :
    ∃ fd : FuncData, (∀ (s : Shared) (v : Value), BindsTo s fd ⟨[v], []⟩ [("script", v)]) ∧ ∀ base : Heap, K.In base → base.Ns mainGlobals mg → FnOk PySem.Challenge.rw_worksplanned_k37_hired_and_let_go.prog w K mg base CX0 14 fa fd ["script"] (spLaw K) := by
  obtain ⟨fd, hb, F⟩ := hl
  refine ⟨fd, hb, fun base _ _ => ?_⟩
  have d_cost_of_crew := fd_cost_of_crew (P := PySem.Challenge.pw_worksplanned_k37_hired_and_let_go) (w := w) (base := base) h_cost_of_crew hb_max
  have d_best_by := fd_best_by (P := PySem.Challenge.pw_worksplanned_k37_hired_and_let_go) (w := w) (base := base) h_best_by hb_len hb_max hb_min hb_range hb_zip d_cost_of_crew
  have d_best_crew := fd_best_crew (P := PySem.Challenge.pw_worksplanned_k37_hired_and_let_go) (w := w) (base := base) h_best_crew d_best_by
  have d_with_over := fd_with_over (P := PySem.Challenge.pw_worksplanned_k37_hired_and_let_go) (w := w) (base := base) h_with_over hb_max hb_range d_best_by
  have d_follow := fd_follow (P := PySem.Challenge.pw_worksplanned_k37_hired_and_let_go) (w := w) (base := base) h_follow d_cost_of_crew
  have d_level := fd_level (P := PySem.Challenge.pw_worksplanned_k37_hired_and_let_go) (w := w) (base := base) h_level hb_len hb_max d_cost_of_crew
  have d_worth_keeping := fd_worth_keeping (P := PySem.Challenge.pw_worksplanned_k37_hired_and_let_go) (w := w) (base := base) h_worth_keeping 
  have d_idle_months := fd_idle_months (P := PySem.Challenge.pw_worksplanned_k37_hired_and_let_go) (w := w) (base := base) h_idle_months hb_max hb_sum hb_zip
  have d_ups := fd_ups (P := PySem.Challenge.pw_worksplanned_k37_hired_and_let_go) (w := w) (base := base) h_ups hb_max
  have d_steady_price := fd_steady_price (P := PySem.Challenge.pw_worksplanned_k37_hired_and_let_go) (w := w) (base := base) h_steady_price d_level d_best_crew
  have d__law_draws := fd__law_draws (P := PySem.Challenge.pw_worksplanned_k37_hired_and_let_go) (w := w) (base := base) h__law_draws hb_abs hb_int hb_len hb_range
  have d__law_next := fd__law_next (P := PySem.Challenge.pw_worksplanned_k37_hired_and_let_go) (w := w) (base := base) h__law_next hb_int hb_len
  have d__law_pick := fd__law_pick (P := PySem.Challenge.pw_worksplanned_k37_hired_and_let_go) (w := w) (base := base) h__law_pick hb_len d__law_next
  have d__law_says := fd__law_says (P := PySem.Challenge.pw_worksplanned_k37_hired_and_let_go) (w := w) (base := base) h__law_says hb_bool hb_isinstance
  have d__law_same := fd__law_same (P := PySem.Challenge.pw_worksplanned_k37_hired_and_let_go) (w := w) (base := base) h__law_same hb_bool hb_int hb_isinstance hb_len hb_range hb_str hb_tuple 12
  have d__law_rows := fd__law_rows (P := PySem.Challenge.pw_worksplanned_k37_hired_and_let_go) (w := w) (base := base) h__law_rows hb_range
  have d__law_cost := fd__law_cost (P := PySem.Challenge.pw_worksplanned_k37_hired_and_let_go) (w := w) (base := base) h__law_cost 
  exact fd_law law_ok F hb_len hb_max hb_range hb_sum hb_tuple d__law_draws d__law_rows d__law_cost d__law_next d__law_says d__law_same d_worth_keeping d_idle_months d_ups d_cost_of_crew d_follow d_best_crew d_with_over d_level d_steady_price
end L37
open PySem PySem.W PyProof.Rows
set_option maxHeartbeats 0 in
theorem PySem.Challenge.cw_worksplanned_k37_hired_and_let_go_holds : PySem.Challenge.rw_worksplanned_k37_hired_and_let_go.Holds := by
  w_on; o_law; k_head; (case hw => w_witness2)
  k_fill
  refine L2.walk_of (l := PySem.Challenge.rw_worksplanned_k37_hired_and_let_go) (n := 63) (k := 14) (x := "script") (CX := fun _ => L2.CX0) (sp := fun w => Wp.spLaw _) rfl (by decide) rfl ⟨rfl, by decide, by decide⟩ (fun w h Y => PySem.W.kIn_of Y) ?F (fun _ _ a ns hl _ hS => ⟨a, ns, rfl, hS, hl, fun _ => rfl⟩) (fun _ _ _ _ _ h => h)
  case F =>
    intro w mg fa h KX G hmg
    refine' L37.all_mk ?hb_abs ?hb_bool ?hb_int ?hb_isinstance ?hb_len ?hb_max ?hb_min ?hb_range ?hb_str ?hb_sum ?hb_tuple ?hb_zip ?h_cost_of_crew ?h_best_by ?h_best_crew ?h_with_over ?h_follow ?h_level ?h_worth_keeping ?h_idle_months ?h_ups ?h_steady_price ?h__law_draws ?h__law_next ?h__law_pick ?h__law_says ?h__law_same ?h__law_rows ?h__law_cost ?zlaw
    (case hb_abs => exact PySem.W.mg_none_of KX G (by k_is))
    (case hb_bool => exact PySem.W.mg_none_of KX G (by k_is))
    (case hb_int => exact PySem.W.mg_none_of KX G (by k_is))
    (case hb_isinstance => exact PySem.W.mg_none_of KX G (by k_is))
    (case hb_len => exact PySem.W.mg_none_of KX G (by k_is))
    (case hb_max => exact PySem.W.mg_none_of KX G (by k_is))
    (case hb_min => exact PySem.W.mg_none_of KX G (by k_is))
    (case hb_range => exact PySem.W.mg_none_of KX G (by k_is))
    (case hb_str => exact PySem.W.mg_none_of KX G (by k_is))
    (case hb_sum => exact PySem.W.mg_none_of KX G (by k_is))
    (case hb_tuple => exact PySem.W.mg_none_of KX G (by k_is))
    (case hb_zip => exact PySem.W.mg_none_of KX G (by k_is))
    (case h_cost_of_crew => (refine' Wp.has_mk KX G ?a ?l ?c ?k); (case a => k_is); (case l => k_is); (case c => k_is); (case k => k_is))
    (case h_best_by => (refine' Wp.has_mk KX G ?a ?l ?c ?k); (case a => k_is); (case l => k_is); (case c => k_is); (case k => k_is))
    (case h_best_crew => (refine' Wp.has_mk KX G ?a ?l ?c ?k); (case a => k_is); (case l => k_is); (case c => k_is); (case k => k_is))
    (case h_with_over => (refine' Wp.has_mk KX G ?a ?l ?c ?k); (case a => k_is); (case l => k_is); (case c => k_is); (case k => k_is))
    (case h_follow => (refine' Wp.has_mk KX G ?a ?l ?c ?k); (case a => k_is); (case l => k_is); (case c => k_is); (case k => k_is))
    (case h_level => (refine' Wp.has_mk KX G ?a ?l ?c ?k); (case a => k_is); (case l => k_is); (case c => k_is); (case k => k_is))
    (case h_worth_keeping => (refine' Wp.has_mk KX G ?a ?l ?c ?k); (case a => k_is); (case l => k_is); (case c => k_is); (case k => k_is))
    (case h_idle_months => (refine' Wp.has_mk KX G ?a ?l ?c ?k); (case a => k_is); (case l => k_is); (case c => k_is); (case k => k_is))
    (case h_ups => (refine' Wp.has_mk KX G ?a ?l ?c ?k); (case a => k_is); (case l => k_is); (case c => k_is); (case k => k_is))
    (case h_steady_price => (refine' Wp.has_mk KX G ?a ?l ?c ?k); (case a => k_is); (case l => k_is); (case c => k_is); (case k => k_is))
    (case h__law_draws => (refine' Wp.has_mk KX G ?a ?l ?c ?k); (case a => k_is); (case l => k_is); (case c => k_is); (case k => k_is))
    (case h__law_next => (refine' Wp.has_mk KX G ?a ?l ?c ?k); (case a => k_is); (case l => k_is); (case c => k_is); (case k => k_is))
    (case h__law_pick => (refine' Wp.has_mk KX G ?a ?l ?c ?k); (case a => k_is); (case l => k_is); (case c => k_is); (case k => k_is))
    (case h__law_says => (refine' Wp.has_mk KX G ?a ?l ?c ?k); (case a => k_is); (case l => k_is); (case c => k_is); (case k => k_is))
    (case h__law_same => (refine' Wp.has_mk KX G ?a ?l ?c ?k); (case a => k_is); (case l => k_is); (case c => k_is); (case k => k_is))
    (case h__law_rows => (refine' Wp.has_mk KX G ?a ?l ?c ?k); (case a => k_is); (case l => k_is); (case c => k_is); (case k => k_is))
    (case h__law_cost => (refine' Wp.has_mk KX G ?a ?l ?c ?k); (case a => k_is); (case l => k_is); (case c => k_is); (case k => k_is))
    (case zlaw => (refine' Wp.hasL_mk KX G hmg ?a ?l ?c ?k ?b); (case a => k_is); (case l => k_is); (case c => k_is); (case k => k_is); (case b => exact fun s v => .of_eq rfl))
