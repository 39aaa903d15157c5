import PyProof.Rows.All
import Wide.All
import OpenK.AllK
import Wide.FinOn
import HandS.ForMost
import HandS.TupAny
import HandS.TupLe
import HandS.Deep
import HandS.Conv
import KE.SortData
import KE.DataCmp
import HandS.Zip
import HandS.Wide
import HandS.IsInst
import HandS.Style
import HandS.Strs
import HandS.More
import KE.DataMinMax
import HandS.TupMul
import KE.KTupSum
import PySem.Challenge.RW_worksplanned_k33_when_all_can_meet
set_option Elab.async false
set_option linter.all false
set_option maxRecDepth 100000
set_option maxHeartbeats 4000000
/-! The walk over data: values by what they stand for, statements by what they do to names. -/
namespace Wp
open PySem PySem.Spec PyProof.Rows L2

abbrev D := PyData

/-! ### what a run may give: a wish is granted for all outcomes -/
abbrev M (α : Type) := (α → Prop) → Prop
namespace M
variable {α β : Type}
def pure (a : α) : M α := fun P => P a
def bind (m : M α) (k : α → M β) : M β := fun P => m fun x => k x P
def fail : M α := fun _ => False
def opt (o : Option α) : M α := fun P => ∃ x, o = some x ∧ P x
def need (c : Prop) (m : M α) : M α := fun P => c ∧ m P
def draw (n : Int) : M D := fun P => 0 < n ∧ ∀ r : Int, 0 ≤ r → r < n → P (.int r)
def mapM (f : α → M β) : List α → M (List β)
  | [] => pure []
  | x :: xs => bind (f x) fun y => bind (mapM f xs) fun ys => pure (y :: ys)
def filM (f : α → M (Option β)) : List α → M (List β)
  | [] => pure []
  | x :: xs => bind (f x) fun o => bind (filM f xs) fun ys => pure (match o with | some y => y :: ys | none => ys)
def fold {σ : Type} (f : σ → α → M σ) : σ → List α → M σ
  | s, [] => pure s
  | s, x :: xs => bind (f s x) fun s' => fold f s' xs
end M

/-- how a block ends -/
inductive Fl (α β : Type) where
  | nx (a : α) | rt (d : D) | bk (b : β) | ct (b : β)
def M.foldF {α σ : Type} (f : σ → α → M (Fl σ σ)) : σ → List α → M (Fl σ Empty)
  | s, [] => M.pure (.nx s)
  | s, x :: xs => M.bind (f s x) fun r => match r with
    | .nx s' => M.foldF f s' xs
    | .ct s' => M.foldF f s' xs
    | .bk s' => M.pure (.nx s')
    | .rt d => M.pure (.rt d)
/-- n turns of a while at most -/
def M.iter {σ : Type} (c : σ → M Bool) (f : σ → M σ) : Nat → σ → M σ
  | 0, _ => M.fail
  | n + 1, s => M.bind (c s) fun b => bif b then M.bind (f s) fun s' => M.iter c f n s' else M.pure s
def M.while_ {σ : Type} (c : σ → M Bool) (f : σ → M σ) (s : σ) : M σ := fun P => ∃ n, M.iter c f n s P

/-! ### keys -/
def keyD : Key → D
  | .inl i => .int i
  | .inr x => .str x
def keyT (k : List Key) : D := .tuple (k.map keyD)

/-! ### what stands for a datum -/
mutual
inductive Rp (K : PySem.W.Frag) (G : Hp) : V → D → Prop
  | non : Rp K G .non .none
  | bl (b : Bool) : Rp K G (.bl b) (.bool b)
  | int (i : Int) : Rp K G (.int i) (.int i)
  | str (x : Str) : Rp K G (.str x) (.str x)
  | lst {a : Addr} {xs : List V} {ds : List D} : Rd G a (.lst xs) → RpA K G xs ds → ds.length ≤ sizeLine → Rp K G (.ref a) (.list ds)
  | tup {a : Addr} {xs : List V} {ds : List D} : SqT K G a xs → RpA K G xs ds → ds.length ≤ sizeLine → Rp K G (.ref a) (.tuple ds)
  | dK {a : Addr} {kvs : List (Key × V)} {es : List (D × D)} : G a = some (.dK kvs) → RpK K G kvs es → es.length ≤ sizeLine → Rp K G (.ref a) (.dict es)
  | dT {a : Addr} {kvs : List (List Key × V)} {es : List (D × D)} : G a = some (.dT kvs) → RpT K G kvs es → es.length < sizeLine → Rp K G (.ref a) (.dict ((.none, .none) :: es))
inductive RpA (K : PySem.W.Frag) (G : Hp) : List V → List D → Prop
  | nil : RpA K G [] []
  | cons {v : V} {vs : List V} {d : D} {ds : List D} : Rp K G v d → RpA K G vs ds → RpA K G (v :: vs) (d :: ds)
inductive RpK (K : PySem.W.Frag) (G : Hp) : List (Key × V) → List (D × D) → Prop
  | nil : RpK K G [] []
  | cons {k : Key} {v : V} {vs : List (Key × V)} {d : D} {ds : List (D × D)} : Rp K G v d → RpK K G vs ds → RpK K G ((k, v) :: vs) ((keyD k, d) :: ds)
inductive RpT (K : PySem.W.Frag) (G : Hp) : List (List Key × V) → List (D × D) → Prop
  | nil : RpT K G [] []
  | cons {k : List Key} {v : V} {vs : List (List Key × V)} {d : D} {ds : List (D × D)} : Rp K G v d → RpT K G vs ds → RpT K G ((k, v) :: vs) ((keyT k, d) :: ds)
end

/-- what may be read in the one may be read in the other -/
def Le (G H : Hp) : Prop := ∀ a u, Rd G a u → Rd H a u
theorem Le.refl (G : Hp) : Le G G := fun _ _ h => h
theorem Le.trans {A B C : Hp} (h : Le A B) (k : Le B C) : Le A C := fun a u q => k a u (h a u q)
theorem Le.of_same {G H : Hp} (s : Same G H) : Le G H := fun a u h => by
  rcases h with h | ⟨o, h⟩
  · exact .inl (s _ _ h)
  · exact .inr ⟨o, s _ _ h⟩
theorem Le.sqL {K : PySem.W.Frag} {G H : Hp} {a : Addr} {xs : List V} (l : Le G H) (h : SqL K G a xs) : SqL K H a xs := by
  rcases h with h | h
  · exact .inl (l _ _ h)
  · exact .inr h
theorem Le.sqT {K : PySem.W.Frag} {G H : Hp} {a : Addr} {xs : List V} (l : Le G H) (h : SqT K G a xs) : SqT K H a xs := by
  rcases h with h | h
  · exact .inl (l _ _ h)
  · exact .inr h
theorem Le.none {G H : Hp} {a : Addr} (l : Le G H) (h : H a = none) : G a = none := by
  cases q : G a with
  | none => rfl
  | some u =>
    rcases l a u (.inl q) with r | ⟨o, r⟩ <;> (rw [h] at r; cases r)

section
variable {K : PySem.W.Frag} {G H : Hp}
mutual
theorem Rp.le (l : Same G H) : ∀ (d : D) {v : V}, Rp K G v d → Rp K H v d
  | .none, _, .non => .non
  | .bool _, _, .bl b => .bl b
  | .int _, _, .int i => .int i
  | .str _, _, .str x => .str x
  | .list ds, _, .lst s a z => .lst ((Le.of_same l) _ _ s) (RpA.le l ds a) z
  | .tuple ds, _, .tup s a z => .tup ((Le.of_same l).sqT s) (RpA.le l ds a) z
  | .dict es, _, .dK s a z => .dK (l _ _ s) (RpK.le l es a) z
  | .dict (_ :: es), _, .dT s a z => .dT (l _ _ s) (RpT.le l es a) z
theorem RpA.le (l : Same G H) : ∀ (ds : List D) {vs : List V}, RpA K G vs ds → RpA K H vs ds
  | [], _, .nil => .nil
  | d :: ds, _, .cons h t => .cons (Rp.le l d h) (RpA.le l ds t)
theorem RpK.le (l : Same G H) : ∀ (ds : List (D × D)) {vs : List (Key × V)}, RpK K G vs ds → RpK K H vs ds
  | [], _, .nil => .nil
  | (_, d) :: ds, _, .cons h t => .cons (Rp.le l d h) (RpK.le l ds t)
theorem RpT.le (l : Same G H) : ∀ (ds : List (D × D)) {vs : List (List Key × V)}, RpT K G vs ds → RpT K H vs ds
  | [], _, .nil => .nil
  | (_, d) :: ds, _, .cons h t => .cons (Rp.le l d h) (RpT.le l ds t)
end
theorem RpA.length : ∀ {vs : List V} {ds : List D}, RpA K G vs ds → vs.length = ds.length
  | _, _, .nil => rfl
  | _, _, .cons _ t => congrArg (· + 1) t.length
theorem RpA.get : ∀ {vs : List V} {ds : List D} {i : Nat} {v : V}, RpA K G vs ds → vs[i]? = some v → ∃ d, ds[i]? = some d ∧ Rp K G v d
  | _, _, _, _, .nil, e => by simp at e
  | _, _, 0, _, .cons r _, e => by simp at e; subst e; exact ⟨_, rfl, r⟩
  | _, _, i + 1, v, .cons _ t, e => by
    obtain ⟨d, h1, h2⟩ := t.get (i := i) (v := v) (by simpa using e)
    exact ⟨d, by simpa using h1, h2⟩
theorem RpA.getD : ∀ {vs : List V} {ds : List D} {i : Nat} {d : D}, RpA K G vs ds → ds[i]? = some d → ∃ v, vs[i]? = some v ∧ Rp K G v d
  | _, _, _, _, .nil, e => by simp at e
  | _, _, 0, _, .cons r _, e => by simp at e; subst e; exact ⟨_, rfl, r⟩
  | _, _, i + 1, v, .cons _ t, e => by
    obtain ⟨d, h1, h2⟩ := t.getD (i := i) (d := v) (by simpa using e)
    exact ⟨d, by simpa using h1, h2⟩
theorem RpA.append : ∀ {vs ws : List V} {ds es : List D}, RpA K G vs ds → RpA K G ws es → RpA K G (vs ++ ws) (ds ++ es)
  | _, _, _, _, .nil, s => s
  | _, _, _, _, .cons r t, s => .cons r (t.append s)
theorem RpA.take : ∀ {vs : List V} {ds : List D} (n : Nat), RpA K G vs ds → RpA K G (vs.take n) (ds.take n)
  | _, _, 0, _ => by simpa using RpA.nil
  | _, _, _ + 1, .nil => .nil
  | _, _, n + 1, .cons r t => .cons r (t.take n)
theorem RpA.drop : ∀ {vs : List V} {ds : List D} (n : Nat), RpA K G vs ds → RpA K G (vs.drop n) (ds.drop n)
  | _, _, 0, r => r
  | _, _, _ + 1, .nil => .nil
  | _, _, n + 1, .cons _ t => t.drop n
theorem RpA.set {v : V} {d : D} (r : Rp K G v d) : ∀ {vs : List V} {ds : List D} (n : Nat), RpA K G vs ds → RpA K G (vs.set n v) (ds.set n d)
  | _, _, _, .nil => .nil
  | _, _, 0, .cons _ t => .cons r t
  | _, _, n + 1, .cons q t => .cons q (RpA.set r n t)
end

/-- the parts of an object that is one's own -/
inductive RpO (K : PySem.W.Frag) (G : Hp) : HO → D → Prop
  | lst {xs : List V} {ds : List D} : RpA K G xs ds → ds.length ≤ sizeLine → RpO K G (.lst xs) (.list ds)
  | dK {kvs : List (Key × V)} {es : List (D × D)} : RpK K G kvs es → es.length ≤ sizeLine → RpO K G (.dK kvs) (.dict es)
  | dT {kvs : List (List Key × V)} {es : List (D × D)} : RpT K G kvs es → es.length < sizeLine → RpO K G (.dT kvs) (.dict ((.none, .none) :: es))
theorem RpO.le {K : PySem.W.Frag} {G G' : Hp} (l : Same G G') {u : HO} {d : D} (h : RpO K G u d) : RpO K G' u d := by
  cases h with
  | lst a z => exact .lst (a.le l) z
  | dK a z => exact .dK (a.le l) z
  | dT a z => exact .dT (a.le l) z

/-! ### the state -/
/-- the dict that the draws come from -/
def drwO (vd : V) (at_ : Int) : HO := .dK [(.inr ("draws" : Str), vd), (.inr ("at" : Str), .int at_)]
structure DrawOk (K : PySem.W.Frag) (G H : Hp) (o : Addr) : Prop where
  g : G o = none
  h : ∃ (vd : V) (ds : List Int) (at_ : Int), H o = some (drwO vd at_) ∧ Rp K G vd (.list (ds.map .int)) ∧ 0 ≤ at_
/-- how the known and the whole heap may grow -/
structure Ext (ω : Option Addr) (K : PySem.W.Frag) (G H G' H' : Hp) : Prop where
  gg : Same G G'
  hh : ∀ a u, some a ≠ ω → H a = some u → H' a = some u
  le : Le G' H'
  fr : ∀ a u, H a = some u → G a = none → G' a = none
  dr : ∀ o, ω = some o → DrawOk K G' H' o
section
variable {ω : Option Addr} {K : PySem.W.Frag} {G H G' H' G1 H1 G2 H2 : Hp}
theorem Ext.trans (a : Ext ω K G H G1 H1) (b : Ext ω K G1 H1 G2 H2) : Ext ω K G H G2 H2 where
  gg := a.gg.trans b.gg
  hh := fun x u n h => b.hh x u n (a.hh x u n h)
  le := b.le
  fr := fun x u h n => by
    by_cases e : some x = ω
    · obtain ⟨_, _, _, _, h', _⟩ := a.dr x e.symm
      exact b.fr x _ h' (a.fr x u h n)
    · exact b.fr x u (a.hh x u e h) (a.fr x u h n)
  dr := b.dr
theorem Ext.self (a : Ext ω K G H G1 H1) : Ext ω K G1 H1 G1 H1 := ⟨Same.refl _, fun _ _ _ h => h, a.le, fun _ _ _ h => h, a.dr⟩
/-- a new object, frozen at once -/
theorem Ext.new {p : Addr} {o : HO} (a : Ext ω K G H G H) (n : H p = none) : Ext ω K G H (upd G p o) (upd H p o) where
  gg := fun b u e => by rw [upd_ne (ne_of_none e (a.le.none n))]; exact e
  hh := fun b u _ e => by rw [upd_ne (ne_of_none e n)]; exact e
  le := fun b u e => by
    by_cases hb : b = p
    · subst hb
      rcases e with e | ⟨q, e⟩
      · rw [upd_same] at e; exact .inl (by rw [upd_same]; exact e)
      · rw [upd_same] at e; exact .inr ⟨q, by rw [upd_same]; exact e⟩
    · have e' : Rd G b u := by
        rcases e with e | ⟨q, e⟩
        · rw [upd_ne hb] at e; exact .inl e
        · rw [upd_ne hb] at e; exact .inr ⟨q, e⟩
      rcases a.le b u e' with r | ⟨q, r⟩
      · exact .inl (by rw [upd_ne hb]; exact r)
      · exact .inr ⟨q, by rw [upd_ne hb]; exact r⟩
  fr := fun b u e h => by rw [upd_ne (ne_of_none e n)]; exact h
  dr := fun b e => by
    obtain ⟨g, vd, ds, at_, h1, h2, h3⟩ := a.dr b e
    have hb : b ≠ p := ne_of_none h1 n
    refine ⟨by rw [upd_ne hb]; exact g, vd, ds, at_, by rw [upd_ne hb]; exact h1, h2.le ?_, h3⟩
    exact fun c u e => by rw [upd_ne (ne_of_none e (a.le.none n))]; exact e
/-- a new object, not frozen -/
theorem Ext.lay {p : Addr} {o : HO} (a : Ext ω K G H G H) (n : H p = none) : Ext ω K G H G (upd H p o) where
  gg := Same.refl _
  hh := fun b u _ e => by rw [upd_ne (ne_of_none e n)]; exact e
  le := fun b u e => by
    rcases a.le b u e with r | ⟨q, r⟩
    · exact .inl (by rw [upd_ne (ne_of_none r n)]; exact r)
    · exact .inr ⟨q, by rw [upd_ne (ne_of_none r n)]; exact r⟩
  fr := fun b u e h => h
  dr := fun b e => by
    obtain ⟨g, vd, ds, at_, h1, h2, h3⟩ := a.dr b e
    exact ⟨g, vd, ds, at_, by rw [upd_ne (ne_of_none h1 n)]; exact h1, h2, h3⟩
end

/-- what a name holds -/
inductive Ct where
  | val (d : D) | own (d : D) | drw | scr (ns : List Int)
abbrev En := List (Option Ct)
def CtOk (ω : Option Addr) (K : PySem.W.Frag) (H0 G H : Hp) : Ct → V → Prop
  | .val d, v => Rp K G v d
  | .own d, v => ∃ o u, v = .ref o ∧ some o ≠ ω ∧ H o = some u ∧ G o = none ∧ H0 o = none ∧ RpO K G u d
  | .drw, v => ∃ o, v = .ref o ∧ ω = some o
  | .scr ns, v => ∃ a, v = .ref a ∧ SqL K G a (ns.map V.int)
structure EnvOk (ω : Option Addr) (K : PySem.W.Frag) (G0 H0 : Hp) (Γ : En) (σ : L2.St) (G H : Hp) : Prop where
  ext : Ext ω K G0 H0 G H
  ln : σ.length = Γ.length
  sl : ∀ (i : Nat) c, Γ[i]? = some (some c) → ∃ v, σ[i]? = some (some v) ∧ CtOk ω K H0 G H c v
  ds : ∀ (i j : Nat) d e v, Γ[i]? = some (some (.own d)) → Γ[j]? = some (some (.own e)) → σ[i]? = some (some v) → σ[j]? = some (some v) → i = j
section
variable {ω : Option Addr} {K : PySem.W.Frag} {G0 H0 G H G' H' : Hp} {Γ Γ' : En} {σ σ' : L2.St}
theorem CtOk.ext {c : Ct} {v : V} (h : CtOk ω K H0 G H c v) (e : Ext ω K G H G' H') : CtOk ω K H0 G' H' c v := by
  cases c with
  | val d => exact Rp.le (e.gg) d h
  | own d =>
    obtain ⟨o, u, h1, h2, h3, h4, h5, h6⟩ := h
    exact ⟨o, u, h1, h2, e.hh o u h2 h3, e.fr o u h3 h4, h5, h6.le (e.gg)⟩
  | drw => exact h
  | scr ns => obtain ⟨a, h1, h2⟩ := h; exact ⟨a, h1, (Le.of_same e.gg).sqL h2⟩
theorem EnvOk.step (E : EnvOk ω K G0 H0 Γ σ G H) (e : Ext ω K G H G' H') : EnvOk ω K G0 H0 Γ σ G' H' :=
  ⟨E.ext.trans e, E.ln, fun i c h => let ⟨v, h1, h2⟩ := E.sl i c h; ⟨v, h1, h2.ext e⟩, E.ds⟩
theorem EnvOk.self (E : EnvOk ω K G0 H0 Γ σ G H) : Ext ω K G H G H := E.ext.self
theorem getElem?_set_some {α : Type} {l : List (Option α)} {i j : Nat} {x : Option α} {c : α} (h : (l.set i x)[j]? = some (some c)) : (j = i ∧ x = some c ∧ i < l.length) ∨ (j ≠ i ∧ l[j]? = some (some c)) := by
  by_cases e : j = i
  · subst e
    by_cases hi : j < l.length
    · rw [List.getElem?_set_self hi] at h
      exact .inl ⟨rfl, Option.some.inj h, hi⟩
    · rw [List.getElem?_eq_none (by simpa using hi)] at h; cases h
  · rw [List.getElem?_set_ne (Ne.symm e)] at h
    exact .inr ⟨e, h⟩
/-- a name is stored -/
theorem EnvOk.put (E : EnvOk ω K G0 H0 Γ σ G H) {i : Nat} {v : V} {c : Ct} (hc : CtOk ω K H0 G H c v) (hd : ∀ d, c = .own d → ∀ j e, j ≠ i → Γ[j]? = some (some (.own e)) → σ[j]? ≠ some (some v)) :
    EnvOk ω K G0 H0 (Γ.set i (some c)) (σ.set i (some v)) G H where
  ext := E.ext
  ln := by simpa using E.ln
  sl := fun j c' h => by
    rcases getElem?_set_some h with ⟨rfl, e, hi⟩ | ⟨e, h⟩
    · cases e
      exact ⟨v, by rw [List.getElem?_set_self (by rw [E.ln]; exact hi)], hc⟩
    · obtain ⟨v', h1, h2⟩ := E.sl j c' h
      exact ⟨v', by rw [List.getElem?_set_ne (Ne.symm e)]; exact h1, h2⟩
  ds := fun a b d e w ha hb sa sb => by
    rcases getElem?_set_some ha with ⟨rfl, ea, hi⟩ | ⟨na, ha'⟩
    · cases ea
      rcases getElem?_set_some hb with ⟨rfl, _, _⟩ | ⟨nb, hb⟩
      · rfl
      · rw [List.getElem?_set_self (by rw [E.ln]; exact hi)] at sa
        rw [List.getElem?_set_ne (Ne.symm nb)] at sb
        cases sa
        exact absurd sb (hd d rfl b e nb hb)
    · rcases getElem?_set_some hb with ⟨rfl, eb, hi⟩ | ⟨nb, hb'⟩
      · cases eb
        rw [List.getElem?_set_self (by rw [E.ln]; exact hi)] at sb
        rw [List.getElem?_set_ne (Ne.symm na)] at sa
        cases sb
        exact absurd sa (hd e rfl a d na ha')
      · rw [List.getElem?_set_ne (Ne.symm na)] at sa
        rw [List.getElem?_set_ne (Ne.symm nb)] at sb
        exact E.ds a b d e w ha' hb' sa sb
theorem EnvOk.putV (E : EnvOk ω K G0 H0 Γ σ G H) {i : Nat} {v : V} {d : D} (hc : Rp K G v d) : EnvOk ω K G0 H0 (Γ.set i (some (.val d))) (σ.set i (some v)) G H :=
  E.put (c := .val d) hc fun _ e => nomatch e
/-- a name is forgotten -/
theorem EnvOk.wipe1 (E : EnvOk ω K G0 H0 Γ σ G H) (i : Nat) : EnvOk ω K G0 H0 (Γ.set i none) (σ.set i none) G H where
  ext := E.ext
  ln := by simpa using E.ln
  sl := fun j c' h => by
    rcases getElem?_set_some h with ⟨rfl, e, hi⟩ | ⟨e, h⟩
    · cases e
    · obtain ⟨v', h1, h2⟩ := E.sl j c' h
      exact ⟨v', by rw [List.getElem?_set_ne (Ne.symm e)]; exact h1, h2⟩
  ds := fun a b d e w ha hb sa sb => by
    rcases getElem?_set_some ha with ⟨rfl, ea, hi⟩ | ⟨na, ha⟩
    · cases ea
    · rcases getElem?_set_some hb with ⟨rfl, eb, hi⟩ | ⟨nb, hb⟩
      · cases eb
      · rw [List.getElem?_set_ne (Ne.symm na)] at sa
        rw [List.getElem?_set_ne (Ne.symm nb)] at sb
        exact E.ds a b d e w ha hb sa sb
def wipeE (Γ : En) : List Nat → En
  | [] => Γ
  | v :: vs => (wipeE Γ vs).set v none
theorem EnvOk.wipe (E : EnvOk ω K G0 H0 Γ σ G H) : ∀ vs : List Nat, EnvOk ω K G0 H0 (wipeE Γ vs) (L2.wipe σ vs) G H
  | [] => E
  | v :: vs => (E.wipe vs).wipe1 v
/-- weaker: some names are forgotten -/
def maskE : List Bool → En → En
  | b :: bs, c :: cs => (bif b then c else none) :: maskE bs cs
  | _, _ => []
theorem maskE_get : ∀ {bs : List Bool} {Γ : En} {i : Nat} {c : Ct}, (maskE bs Γ)[i]? = some (some c) → Γ[i]? = some (some c)
  | [], _, _, _, h => by simp [maskE] at h
  | _ :: _, [], _, _, h => by simp [maskE] at h
  | b :: bs, x :: cs, 0, c, h => by
    cases b
    · simp [maskE] at h
    · simpa [maskE] using h
  | b :: bs, x :: cs, i + 1, c, h => by
    have h' : (maskE bs cs)[i]? = some (some c) := by simpa [maskE] using h
    simpa using maskE_get h'
theorem EnvOk.weak (E : EnvOk ω K G0 H0 Γ σ G H) (hl : Γ'.length = Γ.length) (w : ∀ (i : Nat) c, Γ'[i]? = some (some c) → Γ[i]? = some (some c)) : EnvOk ω K G0 H0 Γ' σ G H :=
  ⟨E.ext, by rw [E.ln, hl], fun i c h => E.sl i c (w i c h), fun i j d e v hi hj => E.ds i j d e v (w _ _ hi) (w _ _ hj)⟩
/-- what one owns is frozen -/
theorem EnvOk.freeze (E : EnvOk ω K G0 H0 Γ σ G H) {i : Nat} {d : D} (hi : Γ[i]? = some (some (.own d))) : ∃ G', Same G G' ∧ EnvOk ω K G0 H0 (Γ.set i (some (.val d))) σ G' H := by
  obtain ⟨v, hv, o, u, rfl, ho, hu, hg, h0, hr⟩ := E.sl i _ hi
  have sm : Same G (upd G o u) := fun b w e => by rw [upd_ne (ne_of_none e hg)]; exact e
  have le : Le (upd G o u) H := fun b w e => by
    by_cases hb : b = o
    · subst hb
      rcases e with e | ⟨q, e⟩
      · rw [upd_same] at e; cases e; exact .inl hu
      · rw [upd_same] at e; cases e; cases hr
    · refine E.ext.le b w ?_
      rcases e with e | ⟨q, e⟩
      · rw [upd_ne hb] at e; exact .inl e
      · rw [upd_ne hb] at e; exact .inr ⟨q, e⟩
  have hR : Rp K (upd G o u) (.ref o) d := by
    cases hr with
    | lst a z => exact .lst (.inl upd_same) (a.le (sm)) z
    | dK a z => exact .dK upd_same (a.le (sm)) z
    | dT a z => exact .dT upd_same (a.le (sm)) z
  refine ⟨upd G o u, sm, ⟨E.ext.gg.trans sm, E.ext.hh, le, fun a w e n => ?_, fun b e => ?_⟩, by simpa using E.ln, fun j c h => ?_, fun a b da db w ha hb sa sb => ?_⟩
  · rw [upd_ne (fun z => by rw [z, h0] at e; cases e)]
    exact E.ext.fr a w e n
  · obtain ⟨g, vd, ds, at_, h1, h2, h3⟩ := E.ext.dr b e
    have hb : b ≠ o := fun z => ho (by rw [← z, e])
    exact ⟨by rw [upd_ne hb]; exact g, vd, ds, at_, h1, h2.le (sm), h3⟩
  · rcases getElem?_set_some h with ⟨rfl, e, hl⟩ | ⟨ne, h⟩
    · cases e
      exact ⟨.ref o, hv, hR⟩
    · obtain ⟨v', h1, h2⟩ := E.sl j c h
      refine ⟨v', h1, ?_⟩
      cases c with
      | val e => exact Rp.le (sm) e h2
      | own e =>
        obtain ⟨o', u', rfl, q2, q3, q4, q5, q6⟩ := h2
        refine ⟨o', u', rfl, q2, q3, ?_, q5, q6.le (sm)⟩
        rw [upd_ne (fun z => ne (E.ds j i e d (.ref o) h hi (by rw [← z]; exact h1) hv))]
        exact q4
      | drw => exact h2
      | scr ns => obtain ⟨a, g1, g2⟩ := h2; exact ⟨a, g1, (Le.of_same sm).sqL g2⟩
  · rcases getElem?_set_some ha with ⟨rfl, ea, _⟩ | ⟨_, ha⟩
    · cases ea
    · rcases getElem?_set_some hb with ⟨rfl, eb, _⟩ | ⟨_, hb⟩
      · cases eb
      · exact E.ds a b da db w ha hb sa sb
end
end Wp
namespace Wp
open PySem PySem.Spec PyProof.Rows L2

/-! ### where a piece of the text stands -/
structure Sg where
  P : Program
  w : World
  K : PySem.W.Frag
  mg : Str → Option Value
  base : Heap
  N : List Str
  sc : Scope
  k : Nat
  fn : Str → Bool
structure Sg.Of (S : Sg) (X : Cx) : Prop where
  prog : X.prog = S.P
  w : X.w = S.w
  K : X.K = S.K
  mg : X.mg = S.mg
  base : X.base = S.base
  N : X.N = S.N
  sc : X.env.scope = S.sc
  calm : X.calm = true
  room : Room S.k X.A
  xe : X.xe = fun _ _ => False
  fn : X.fn = S.fn
  nd : S.N.Nodup
abbrev Sg.blk (S : Sg) (scope : Scope) : Sg := { S with sc := relS scope S.sc, fn := fun x => scope.names.lookup x == some .cell }
theorem Sg.Of.blk {S : Sg} {X : Cx} (h : S.Of X) (s : Shared) (H : Hp) (scope : Scope) (C : Addr) (cl : List (Str × Addr)) (fp : List Addr) : (S.blk scope).Of (X.blk s H scope (compEnvC scope cl C X.env) fp) where
  prog := h.prog
  w := h.w
  K := h.K
  mg := h.mg
  base := h.base
  N := h.N
  sc := by show relS scope X.env.scope = relS scope S.sc; rw [h.sc]
  calm := h.calm
  room := h.room
  xe := rfl
  fn := rfl
  nd := h.nd

section
variable (S : Sg)
def RE (e : Expr) : TE := fun σ H Q => ∃ t, (∀ X, S.Of X → PE X e t) ∧ t σ H Q
def RT (e : Expr) : TT := fun σ H Q => ∃ t, (∀ X, S.Of X → PT X e t) ∧ t σ H Q
def RA (es : List Expr) : TA := fun σ H Q => ∃ t, (∀ X, S.Of X → PA X es t) ∧ t σ H Q
def RS (st : List Stmt) : TS := fun D σ H => ∃ t, (∀ X, S.Of X → PSs X st t) ∧ t D σ H
def RG (tg : Expr) : TG := fun v σ H Q => ∃ t, (∀ X, S.Of X → PG X tg t) ∧ t v σ H Q
def RI (tg it : Expr) : TI := fun σ H R => ∃ t, (∀ X, S.Of X → PI X tg it t) ∧ t σ H R
def RTs (es : List Expr) : TT := fun σ H Q => ∃ t, (∀ X, S.Of X → PTs X es t) ∧ t σ H Q
def ROp (f : Value → Value → Sem Value) : R2 := fun x y H Q => ∃ r, (∀ X, S.Of X → OpR X f r) ∧ r x y H Q
def RUn (f : Value → Sem Value) : V → Hp → VK → Prop := fun x H Q => ∃ r, (∀ X, S.Of X → UnR X f r) ∧ r x H Q
def RIx : R2 := fun x y H Q => ∃ r, (∀ X, S.Of X → IxR X r) ∧ r x y H Q
def RCall (f : Value) : List V → Hp → VK → Prop := fun xs H Q => ∃ r, (∀ X, S.Of X → CallR X f r) ∧ r xs H Q
def RMt (id : String) : V → List V → Hp → VK → Prop := fun x xs H Q => ∃ r, (∀ X, S.Of X → MtR X id r) ∧ r x xs H Q
def RSl : V → Option Int → Option Int → Hp → VK → Prop := fun x a b H Q => ∃ r, (∀ X, S.Of X → SlR X r) ∧ r x a b H Q
end
section
variable {S : Sg} {X : Cx} (hX : S.Of X)
include hX
theorem RE.pe (e : Expr) : PE X e (RE S e) := ⟨fun pins s σ H Q I ⟨t, h, q⟩ => (h X hX).run pins s σ H Q I q⟩
theorem RT.pt (e : Expr) : PT X e (RT S e) := ⟨fun pins s σ H Q I ⟨t, h, q⟩ => (h X hX).run pins s σ H Q I q⟩
theorem RA.pa (es : List Expr) : PA X es (RA S es) := ⟨fun pos pins s σ H Q I ⟨t, h, q⟩ => (h X hX).run pos pins s σ H Q I q⟩
theorem RS.ps (st : List Stmt) : PSs X st (RS S st) := ⟨fun pins s σ H D I ⟨t, h, q⟩ => (h X hX).run pins s σ H D I q⟩
theorem RG.pg (e : Expr) : PG X e (RG S e) := ⟨fun pins s σ H v u Q I r ⟨t, h, q⟩ => (h X hX).run pins s σ H v u Q I r q⟩
theorem RI.pi (tg it : Expr) : PI X tg it (RI S tg it) := ⟨fun pins s σ H R I ⟨t, h, q⟩ => (h X hX).run pins s σ H R I q⟩
theorem RTs.pts (es : List Expr) : PTs X es (RTs S es) := ⟨fun pins s σ H Q I ⟨t, h, q⟩ => (h X hX).run pins s σ H Q I q⟩
theorem ROp.op (f : Value → Value → Sem Value) : OpR X f (ROp S f) := fun pins s σ H x y v u Q I rx ry ⟨r, h, q⟩ => h X hX pins s σ H x y v u Q I rx ry q
theorem RUn.un (f : Value → Sem Value) : UnR X f (RUn S f) := fun pins s σ H x v Q I rx ⟨r, h, q⟩ => h X hX pins s σ H x v Q I rx q
theorem RIx.ix : IxR X (RIx S) := fun value slice pins s σ H x y v u Q I rx ry ⟨r, h, q⟩ hs => h X hX value slice pins s σ H x y v u Q I rx ry q hs
theorem RCall.call (f : Value) : CallR X f (RCall S f) := fun pins s σ H xs us Q I rx ⟨r, h, q⟩ => h X hX pins s σ H xs us Q I rx q
theorem RMt.mt (id : String) : MtR X id (RMt S id) := fun pins s σ H x xs v us Q I rx rs ⟨r, h, q⟩ => h X hX pins s σ H x xs v us Q I rx rs q
theorem RSl.sl : SlR X (RSl S) := fun pins s σ H x v vl vu lo hi sl Q I rx hs pl pu ⟨r, h, q⟩ => h X hX pins s σ H x v vl vu lo hi sl Q I rx hs pl pu q
end

/-! ### what a value stands for now -/
/-- its top may be one's own -/
def Rb (ω : Option Addr) (K : PySem.W.Frag) (G H : Hp) (v : V) (d : D) : Prop :=
  Rp K G v d ∨ ∃ o u, v = .ref o ∧ some o ≠ ω ∧ H o = some u ∧ RpO K G u d
section
variable {ω : Option Addr} {K : PySem.W.Frag} {G0 H0 G H G' H' : Hp} {Γ Γ' : En} {σ σ' : L2.St} {v : V} {d : D}
theorem Rp.ext (h : Rp K G v d) (e : Ext ω K G H G' H') : Rp K G' v d := Rp.le (e.gg) d h
theorem RpA.ext {vs : List V} {ds : List D} (h : RpA K G vs ds) (e : Ext ω K G H G' H') : RpA K G' vs ds := RpA.le (e.gg) ds h
theorem Rb.ext (h : Rb ω K G H v d) (e : Ext ω K G H G' H') : Rb ω K G' H' v d := by
  rcases h with h | ⟨o, u, h1, h2, h3, h4⟩
  · exact .inl (h.ext e)
  · exact .inr ⟨o, u, h1, h2, e.hh o u h2 h3, h4.le (e.gg)⟩
theorem Rb.list {ds : List D} (h : Rb ω K G H v (.list ds)) (l : Le G H) : ∃ a xs, v = .ref a ∧ Rd H a (.lst xs) ∧ RpA K G xs ds ∧ ds.length ≤ sizeLine := by
  rcases h with h | ⟨o, u, h1, h2, h3, h4⟩
  · cases h with
    | lst s a z => exact ⟨_, _, rfl, l _ _ s, a, z⟩
  · cases h4 with
    | lst a z => exact ⟨o, _, h1, .inl h3, a, z⟩
theorem Rb.tup {ds : List D} (h : Rb ω K G H v (.tuple ds)) (l : Le G H) : ∃ a xs, v = .ref a ∧ SqT K H a xs ∧ RpA K G xs ds ∧ ds.length ≤ sizeLine := by
  rcases h with h | ⟨o, u, h1, h2, h3, h4⟩
  · cases h with
    | tup s a z => exact ⟨_, _, rfl, l.sqT s, a, z⟩
  · cases h4
theorem Rb.non (h : Rb ω K G H v .none) : v = .non := by
  rcases h with h | ⟨o, u, h1, h2, h3, h4⟩
  · cases h; rfl
  · cases h4
theorem Rb.bl {b : Bool} (h : Rb ω K G H v (.bool b)) : v = .bl b := by
  rcases h with h | ⟨o, u, h1, h2, h3, h4⟩
  · cases h; rfl
  · cases h4
theorem Rb.int {i : Int} (h : Rb ω K G H v (.int i)) : v = .int i := by
  rcases h with h | ⟨o, u, h1, h2, h3, h4⟩
  · cases h; rfl
  · cases h4
theorem Rb.str {x : Str} (h : Rb ω K G H v (.str x)) : v = .str x := by
  rcases h with h | ⟨o, u, h1, h2, h3, h4⟩
  · cases h; rfl
  · cases h4
end

/-! ### the judgements -/
section
variable (S : Sg) (Γ : En)
def WE (e : Expr) (m : M D) : Prop := ∀ (ω : Option Addr) (G0 H0 : Hp) (σ : L2.St) (G H : Hp) (P : D → Prop) (Q : VK), EnvOk ω S.K G0 H0 Γ σ G H → m P →
  (∀ d v G' H', P d → Ext ω S.K G H G' H' → Rp S.K G' v d → Q v H') → RE S e σ H Q
/-- its top may be one's own: to be looked at, not kept -/
def WB (e : Expr) (m : M D) : Prop := ∀ (ω : Option Addr) (G0 H0 : Hp) (σ : L2.St) (G H : Hp) (P : D → Prop) (Q : VK), EnvOk ω S.K G0 H0 Γ σ G H → m P →
  (∀ d v G' H', P d → Ext ω S.K G H G' H' → Rb ω S.K G' H' v d → Q v H') → RE S e σ H Q
def WT (e : Expr) (m : M Bool) : Prop := ∀ (ω : Option Addr) (G0 H0 : Hp) (σ : L2.St) (G H : Hp) (P : Bool → Prop) (Q : Bool → Hp → Prop), EnvOk ω S.K G0 H0 Γ σ G H → m P →
  (∀ b G' H', P b → Ext ω S.K G H G' H' → Q b H') → RT S e σ H Q
/-- what an argument stands for -/
def WA (es : List Expr) (m : M (List D)) : Prop := ∀ (ω : Option Addr) (G0 H0 : Hp) (σ : L2.St) (G H : Hp) (P : List D → Prop) (Q : List V → Hp → Prop), EnvOk ω S.K G0 H0 Γ σ G H → m P →
  (∀ ds vs G' H', P ds → Ext ω S.K G H G' H' → RpA S.K G' vs ds → ds.length = es.length → Q vs H') → RA S es σ H Q
end
inductive Out where
  | nx (Γ : En) | rt (d : D) | bk (Γ : En) | ct (Γ : En)
def Post (ω : Option Addr) (K : PySem.W.Frag) (G0 H0 : Hp) (Dn : Ends) : Out → Prop
  | .nx Γ => ∀ σ' G' H', EnvOk ω K G0 H0 Γ σ' G' H' → Dn.nx σ' H'
  | .rt d => ∀ v G' H', Ext ω K G0 H0 G' H' → Rp K G' v d → Dn.rt v H'
  | .bk Γ => ∀ σ' G' H', EnvOk ω K G0 H0 Γ σ' G' H' → Dn.bk σ' H'
  | .ct Γ => ∀ σ' G' H', EnvOk ω K G0 H0 Γ σ' G' H' → Dn.ct σ' H'
/-- a block, by what it comes to -/
def W {ρ : Type} (S : Sg) (Γ : En) (sts : List Stmt) (m : M ρ) (ι : ρ → Out) : Prop := ∀ (ω : Option Addr) (G0 H0 : Hp) (σ : L2.St) (G H : Hp) (P : ρ → Prop) (Dn : Ends), EnvOk ω S.K G0 H0 Γ σ G H → m P →
  (∀ r, P r → Post ω S.K G0 H0 Dn (ι r)) → RS S sts Dn σ H

section
variable {S : Sg} {Γ : En} {e a b : Expr} {m ma mb : M D} {pos : Pos}
theorem WE.wb (h : WE S Γ e m) : WB S Γ e m := fun ω G0 H0 σ G H P Q E hm q => h ω G0 H0 σ G H P Q E hm fun d v G' H' hP x r => q d v G' H' hP x (.inl r)

/-! ### names and constants -/
structure VarAt (S : Sg) (i : Nat) (x : Str) : Prop where
  n : S.N[i]? = some x
  v : Vis S.sc x
  d : (x == ("__debug__" : Str)) = false
  c : (x == ("__classdict__" : Str)) = false
theorem we_var {i : Nat} {x : Str} {d : D} (h : VarAt S i x) (hi : Γ[i]? = some (some (.val d))) : WE S Γ (.Name x pos) (M.pure d) := by
  intro ω G0 H0 σ G H P Q E hm q
  obtain ⟨v, h1, h2⟩ := E.sl i _ hi
  exact ⟨tVar i, fun X hX => pe_var (by rw [hX.N]; exact h.n) (by rw [hX.sc]; exact h.v) h.d h.c, v, h1, q d v G H hm E.self h2⟩
theorem wb_own {i : Nat} {x : Str} {d : D} (h : VarAt S i x) (hi : Γ[i]? = some (some (.own d))) : WB S Γ (.Name x pos) (M.pure d) := by
  intro ω G0 H0 σ G H P Q E hm q
  obtain ⟨v, h1, o, u, rfl, h2, h3, h4, h5, h6⟩ := E.sl i _ hi
  exact ⟨tVar i, fun X hX => pe_var (by rw [hX.N]; exact h.n) (by rw [hX.sc]; exact h.v) h.d h.c, .ref o, h1, q d _ G H hm E.self (.inr ⟨o, u, rfl, h2, h3, h6⟩)⟩
theorem we_int {i : Int} {j} : WE S Γ (.Constant (.int i) j pos) (M.pure (.int i)) := fun ω G0 H0 σ G H P Q E hm q => ⟨_, fun X hX => pe_int, q _ _ G H hm E.self (.int i)⟩
theorem we_bl {i : Bool} {j} : WE S Γ (.Constant (.bool i) j pos) (M.pure (.bool i)) := fun ω G0 H0 σ G H P Q E hm q => ⟨_, fun X hX => pe_bl, q _ _ G H hm E.self (.bl i)⟩
theorem we_non {j} : WE S Γ (.Constant .none j pos) (M.pure .none) := fun ω G0 H0 σ G H P Q E hm q => ⟨_, fun X hX => pe_non, q _ _ G H hm E.self .non⟩
theorem we_str {x : Str} {j} : WE S Γ (.Constant (.str x) j pos) (M.pure (.str x)) := fun ω G0 H0 σ G H P Q E hm q => ⟨_, fun X hX => pe_str, q _ _ G H hm E.self (.str x)⟩

/-! ### operators -/
def OpOk (S : Sg) (g : Value → Value → Sem Value) (f : D → D → M D) : Prop := ∀ (ω : Option Addr) (G H : Hp) (x y : D) (v u : V) (P : D → Prop) (Q : VK), Ext ω S.K G H G H → Rb ω S.K G H v x → Rb ω S.K G H u y → f x y P →
  (∀ d v' G' H', P d → Ext ω S.K G H G' H' → Rp S.K G' v' d → Q v' H') → ROp S g v u H Q
def UnOk (S : Sg) (g : Value → Sem Value) (f : D → M D) : Prop := ∀ (ω : Option Addr) (G H : Hp) (x : D) (v : V) (P : D → Prop) (Q : VK), Ext ω S.K G H G H → Rb ω S.K G H v x → f x P →
  (∀ d v' G' H', P d → Ext ω S.K G H G' H' → Rp S.K G' v' d → Q v' H') → RUn S g v H Q
def IxOk (S : Sg) (f : D → D → M D) : Prop := ∀ (ω : Option Addr) (G H : Hp) (x y : D) (v u : V) (P : D → Prop) (Q : VK), Ext ω S.K G H G H → Rb ω S.K G H v x → Rb ω S.K G H u y → f x y P →
  (∀ d v' G' H', P d → Ext ω S.K G H G' H' → Rp S.K G' v' d → Q v' H') → RIx S v u H Q
def C1Ok (S : Sg) (g : Value) (f : D → M D) : Prop := ∀ (ω : Option Addr) (G H : Hp) (x : D) (v : V) (P : D → Prop) (Q : VK), Ext ω S.K G H G H → Rb ω S.K G H v x → f x P →
  (∀ d v' G' H', P d → Ext ω S.K G H G' H' → Rp S.K G' v' d → Q v' H') → RCall S g [v] H Q
def C2Ok (S : Sg) (g : Value) (f : D → D → M D) : Prop := ∀ (ω : Option Addr) (G H : Hp) (x y : D) (v u : V) (P : D → Prop) (Q : VK), Ext ω S.K G H G H → Rb ω S.K G H v x → Rb ω S.K G H u y → f x y P →
  (∀ d v' G' H', P d → Ext ω S.K G H G' H' → Rp S.K G' v' d → Q v' H') → RCall S g [v, u] H Q
/-- two operands, from the left -/
theorem two {R : V → V → Hp → Prop} (ha : WB S Γ a ma) (hb : WB S Γ b mb) {f : D → D → M D} {ω : Option Addr} {G0 H0 G H : Hp} {σ : L2.St} {P : D → Prop} (E : EnvOk ω S.K G0 H0 Γ σ G H) (hm : ma (fun x => mb (fun y => f x y P)))
    (h : ∀ x y v u G' H', Ext ω S.K G H G' H' → Rb ω S.K G' H' v x → Rb ω S.K G' H' u y → f x y P → R v u H') : RE S a σ H fun v H1 => RE S b σ H1 fun u H2 => R v u H2 := by
  refine ha ω G0 H0 σ G H _ _ E hm fun x v G1 H1 hx e1 r1 => ?_
  refine hb ω G0 H0 σ G1 H1 _ _ (E.step e1) hx fun y u G2 H2 hy e2 r2 => ?_
  exact h x y v u G2 H2 (e1.trans e2) (r1.ext e2) r2 hy
theorem we_op {op : Operator} {f : D → D → M D} (ho : OpOk S (binaryOp op) f) (ha : WB S Γ a ma) (hb : WB S Γ b mb) : WE S Γ (.BinOp a op b pos) (ma.bind fun x => mb.bind fun y => f x y) := by
  intro ω G0 H0 σ G H P Q E hm q
  refine ⟨_, fun X hX => pe_op (ROp.op hX _) (RE.pe hX a) (RE.pe hX b), two ha hb E hm fun x y v u G' H' e r1 r2 hf => ?_⟩
  exact ho ω G' H' x y v u P Q e.self r1 r2 hf fun d v' G2 H2 hP e2 r => q d v' G2 H2 hP (e.trans e2) r
theorem we_un {op : UnaryOp} {f : D → M D} (ho : UnOk S (unaryOp op) f) (ha : WB S Γ a ma) : WE S Γ (.UnaryOp op a pos) (ma.bind fun x => f x) := by
  intro ω G0 H0 σ G H P Q E hm q
  refine ⟨_, fun X hX => pe_un (RUn.un hX _) (RE.pe hX a), ha ω G0 H0 σ G H _ _ E hm fun x v G' H' hf e r1 => ?_⟩
  exact ho ω G' H' x v P Q e.self r1 hf fun d v' G2 H2 hP e2 r => q d v' G2 H2 hP (e.trans e2) r
theorem we_cmp {op : CmpOp} {f : D → D → M D} (ho : OpOk S (compareOp op) f) (ha : WB S Γ a ma) (hb : WB S Γ b mb) (hm : behindInMarks op b = false) : WE S Γ (.Compare a [op] [b] pos) (ma.bind fun x => mb.bind fun y => f x y) := by
  intro ω G0 H0 σ G H P Q E hp q
  refine ⟨_, fun X hX => pe_cmpR (ROp.op hX _) (RE.pe hX a) (RE.pe hX b) hm, two ha hb E hp fun x y v u G' H' e r1 r2 hf => ?_⟩
  exact ho ω G' H' x y v u P Q e.self r1 r2 hf fun d v' G2 H2 hP e2 r => q d v' G2 H2 hP (e.trans e2) r
theorem we_ix {f : D → D → M D} (ho : IxOk S f) (ha : WB S Γ a ma) (hb : WB S Γ b mb) (hs : PlainIx b) : WE S Γ (.Subscript a b pos) (ma.bind fun x => mb.bind fun y => f x y) := by
  intro ω G0 H0 σ G H P Q E hp q
  refine ⟨_, fun X hX => pe_ix (RIx.ix hX) (RE.pe hX a) (RE.pe hX b) hs, two ha hb E hp fun x y v u G' H' e r1 r2 hf => ?_⟩
  exact ho ω G' H' x y v u P Q e.self r1 r2 hf fun d v' G2 H2 hP e2 r => q d v' G2 H2 hP (e.trans e2) r

/-! ### calls of built-ins -/
structure BltAt (S : Sg) (x : Str) (val : Value) : Prop where
  g : S.sc.names.lookup x = some .globalImplicit
  m : S.mg x = none
  v : bootBuiltins x = some val
  n : x ≠ "__name__"
  d : (x == ("__debug__" : Str)) = false
theorem gl_of {X : Cx} {x : Str} (hX : S.Of X) (h : S.sc.names.lookup x = some .globalImplicit) : Gl X x := by
  show X.env.scope.names.lookup x = _
  rw [hX.sc]; exact h
theorem ra_one {σ : L2.St} {H : Hp} {Q : List V → Hp → Prop} (h : RE S a σ H fun v H1 => Q [v] H1) (hs : ∀ env, starEach [a] env = (false, eval a env) :: starEach [] env) : RA S [a] σ H Q :=
  ⟨_, fun X hX => pa_cons (RE.pe hX a) pa_nil (hs _), h⟩
theorem we_c1B {id : String} {x : Str} {p : Pos} {f : D → M D} (hb : BltAt S x (.builtin id)) (ho : C1Ok S (.builtin id) f) (ha : WB S Γ a ma) (he : ∀ env, starEach [a] env = (false, eval a env) :: starEach [] env := by intro _; rfl)
    : WE S Γ (.Call (.Name x p) [a] [] pos) (ma.bind fun x => f x) := by
  intro ω G0 H0 σ G H P Q E hm q
  refine ⟨_, fun X hX => pe_callB (RCall.call hX _) (gl_of hX hb.g) (by rw [hX.mg]; exact hb.m) hb.v (pa_cons (RE.pe hX a) pa_nil (he _)) hb.n hb.d (he _) rfl, ?_⟩
  refine ha ω G0 H0 σ G H _ _ E hm fun x v G' H' hf e r1 => ?_
  exact ho ω G' H' x v P Q e.self r1 hf fun d v' G2 H2 hP e2 r => q d v' G2 H2 hP (e.trans e2) r
theorem we_c1T {T : String} {x : Str} {p : Pos} {f : D → M D} (hb : BltAt S x (.type T)) (ho : C1Ok S (.type T) f) (ha : WB S Γ a ma) (he : ∀ env, starEach [a] env = (false, eval a env) :: starEach [] env := by intro _; rfl)
    : WE S Γ (.Call (.Name x p) [a] [] pos) (ma.bind fun x => f x) := by
  intro ω G0 H0 σ G H P Q E hm q
  refine ⟨_, fun X hX => pe_callTy (RCall.call hX _) (gl_of hX hb.g) (by rw [hX.mg]; exact hb.m) hb.v (pa_cons (RE.pe hX a) pa_nil (he _)) hb.n hb.d (he _) rfl, ?_⟩
  refine ha ω G0 H0 σ G H _ _ E hm fun x v G' H' hf e r1 => ?_
  exact ho ω G' H' x v P Q e.self r1 hf fun d v' G2 H2 hP e2 r => q d v' G2 H2 hP (e.trans e2) r
theorem we_c2B {id : String} {x : Str} {p : Pos} {f : D → D → M D} (hb : BltAt S x (.builtin id)) (ho : C2Ok S (.builtin id) f) (ha : WB S Γ a ma) (hb2 : WB S Γ b mb)
    (he : ∀ env, starEach [a, b] env = (false, eval a env) :: starEach [b] env := by intro _; rfl) (he2 : ∀ env, starEach [b] env = (false, eval b env) :: starEach [] env := by intro _; rfl)
    : WE S Γ (.Call (.Name x p) [a, b] [] pos) (ma.bind fun x => mb.bind fun y => f x y) := by
  intro ω G0 H0 σ G H P Q E hm q
  refine ⟨_, fun X hX => pe_callB (RCall.call hX _) (gl_of hX hb.g) (by rw [hX.mg]; exact hb.m) hb.v (pa_cons (RE.pe hX a) (pa_cons (RE.pe hX b) pa_nil (he2 _)) (he _)) hb.n hb.d (he _) (by rw [he2]; rfl), ?_⟩
  show RE S a σ H fun v H1 => RE S b σ H1 fun u H2 => _
  refine two ha hb2 E hm fun x y v u G' H' e r1 r2 hf => ?_
  exact ho ω G' H' x y v u P Q e.self r1 r2 hf fun d v' G2 H2 hP e2 r => q d v' G2 H2 hP (e.trans e2) r

/-! ### displays -/
theorem wa_nil : WA S Γ [] (M.pure []) := fun ω G0 H0 σ G H P Q E hm q => ⟨_, fun X hX => pa_nil, q [] [] G H hm E.self .nil rfl⟩
theorem wa_cons {es : List Expr} {ms : M (List D)} (ha : WE S Γ a ma) (hs : WA S Γ es ms) (he : ∀ env, starEach (a :: es) env = (false, eval a env) :: starEach es env := by intro _; rfl) :
    WA S Γ (a :: es) (ma.bind fun x => ms.bind fun xs => M.pure (x :: xs)) := by
  intro ω G0 H0 σ G H P Q E hm q
  refine ⟨_, fun X hX => pa_cons (RE.pe hX a) (RA.pa hX es) (he _), ?_⟩
  refine ha ω G0 H0 σ G H _ _ E hm fun x v G1 H1 hx e1 r1 => ?_
  refine hs ω G0 H0 σ G1 H1 _ _ (E.step e1) hx fun xs vs G2 H2 hy e2 r2 l2 => ?_
  exact q (x :: xs) (v :: vs) G2 H2 hy (e1.trans e2) (.cons (r1.ext e2) r2) (congrArg (· + 1) l2)
theorem we_tup {es : List Expr} {ms : M (List D)} {k} (hs : WA S Γ es ms) (hl : es.length ≤ 1000 := by decide) : WE S Γ (.Tuple es k pos) (ms.bind fun ds => M.pure (.tuple ds)) := by
  intro ω G0 H0 σ G H P Q E hm q
  refine ⟨_, fun X hX => pe_tup (RA.pa hX es), ?_⟩
  refine hs ω G0 H0 σ G H _ _ E hm fun ds vs G1 H1 hx e1 r1 hd => ?_
  have z : ds.length ≤ sizeLine := by rw [hd]; exact Nat.le_of_lt (small1000 hl)
  refine ⟨by rw [r1.length]; exact z, fun p np => ?_⟩
  exact q _ _ _ _ hx (e1.trans (e1.self.new np)) (.tup (.inl (.inl upd_same)) (r1.ext (e1.self.new (o := .tup vs) np)) z)
theorem we_lst {es : List Expr} {ms : M (List D)} (hs : WA S Γ es ms) (hl : es.length ≤ 1000 := by decide) : WE S Γ (.List es pos) (ms.bind fun ds => M.pure (.list ds)) := by
  intro ω G0 H0 σ G H P Q E hm q
  refine ⟨_, fun X hX => pe_lst (RA.pa hX es), ?_⟩
  refine hs ω G0 H0 σ G H _ _ E hm fun ds vs G1 H1 hx e1 r1 hd => ?_
  have z : ds.length ≤ sizeLine := by rw [hd]; exact Nat.le_of_lt (small1000 hl)
  refine ⟨by rw [r1.length]; exact z, fun p np => ?_⟩
  exact q _ _ _ _ hx (e1.trans (e1.self.new np)) (.lst (.inl upd_same) (r1.ext (e1.self.new (o := .lst vs) np)) z)
end
end Wp
namespace Wp
open PySem PySem.Spec PyProof.Rows L2

/-! ### tests -/
def asB : D → M Bool
  | .bool b => M.pure b
  | _ => M.fail
def truthD : D → M Bool
  | .none => M.pure false
  | .bool b => M.pure b
  | .int i => M.pure (i != 0)
  | .list xs => M.pure (!xs.isEmpty)
  | .tuple xs => M.pure (!xs.isEmpty)
  | _ => M.fail
section
variable (S : Sg)
def RW (e : Expr) : TT := fun σ H Q => ∃ t, (∀ X, S.Of X → PW X e t) ∧ t σ H Q
theorem RW.pw {S : Sg} {X : Cx} (hX : S.Of X) (e : Expr) : PW X e (RW S e) := ⟨fun wh pins s σ H Q I ⟨t, h, q⟩ => (h X hX).run wh pins s σ H Q I q⟩
def WW (Γ : En) (e : Expr) (m : M Bool) : Prop := ∀ (ω : Option Addr) (G0 H0 : Hp) (σ : L2.St) (G H : Hp) (P : Bool → Prop) (Q : Bool → Hp → Prop), EnvOk ω S.K G0 H0 Γ σ G H → m P →
  (∀ b G' H', P b → Ext ω S.K G H G' H' → Q b H') → RW S e σ H Q
end
section
variable {S : Sg} {Γ : En} {e a b c : Expr} {m ma mb mc : M D} {ta tb tc : M Bool} {pos : Pos} {rest : List Expr}
theorem wt_truth (ha : WB S Γ a ma) (he : ∀ env whole, isTrue a env whole = (do let v ← whole; standAt a.pos; holding [v] (truthy v)) := by intro _ _; rfl) : WT S Γ a (ma.bind fun x => truthD x) := by
  intro ω G0 H0 σ G H P Q E hm q
  refine ⟨_, fun X hX => hX.K ▸ pt_truth (RE.pe hX a) (he _), ?_⟩
  refine ha ω G0 H0 σ G H _ _ E hm fun x v G1 H1 hx e1 r1 => ?_
  cases x with
  | none => cases r1.non; exact ⟨false, rfl, q _ _ _ hx e1⟩
  | bool k => cases r1.bl; exact ⟨k, rfl, q _ _ _ hx e1⟩
  | int k => cases r1.int; exact ⟨_, rfl, q _ _ _ hx e1⟩
  | str _ => exact False.elim hx
  | dict _ => exact False.elim hx
  | list ds =>
    obtain ⟨p, xs, rfl, s, r, z⟩ := r1.list e1.le
    refine ⟨!xs.isEmpty, .inl ⟨xs, .inl s, rfl⟩, q _ _ _ ?_ e1⟩
    have e : xs.isEmpty = ds.isEmpty := by cases r <;> rfl
    rw [e]; exact hx
  | tuple ds =>
    obtain ⟨p, xs, rfl, s, r, z⟩ := r1.tup e1.le
    refine ⟨!xs.isEmpty, .inr (.inl ⟨xs, s, rfl⟩), q _ _ _ ?_ e1⟩
    have e : xs.isEmpty = ds.isEmpty := by cases r <;> rfl
    rw [e]; exact hx
theorem wt_cmp {op : CmpOp} {f : D → D → M D} (ho : OpOk S (compareOp op) f) (ha : WB S Γ a ma) (hb : WB S Γ b mb) (hm : behindInMarks op b = false) : WT S Γ (.Compare a [op] [b] pos) (ma.bind fun x => mb.bind fun y => (f x y).bind fun z => asB z) := by
  intro ω G0 H0 σ G H P Q E hp q
  refine ⟨_, fun X hX => pt_cmpR (ROp.op hX _) (RE.pe hX a) (RE.pe hX b) hm, ?_⟩
  refine two (f := fun x y => (f x y).bind fun z => fun P' => asB z P) (P := fun _ => True) ha hb E hp fun x y v u G' H' e r1 r2 hf => ?_
  refine ho ω G' H' x y v u (fun z => asB z P) _ e.self r1 r2 hf fun d v' G2 H2 hP e2 r => ?_
  cases r <;> first | exact False.elim hP | exact ⟨_, rfl, q _ _ _ hP (e.trans e2)⟩
theorem wt_not (ha : WT S Γ a ta) : WT S Γ (.UnaryOp .Not a pos) (ta.bind fun x => M.pure (!x)) := by
  intro ω G0 H0 σ G H P Q E hp q
  exact ⟨_, fun X hX => pt_not (RT.pt hX a), ha ω G0 H0 σ G H _ _ E hp fun k G1 H1 h e1 => q _ _ _ h e1⟩
theorem wt_ww (h : WW S Γ a ta) : WT S Γ a ta := by
  intro ω G0 H0 σ G H P Q E hp q
  obtain ⟨t, h1, h2⟩ := h ω G0 H0 σ G H P Q E hp q
  exact ⟨t, fun X hX => (h1 X hX).pt, h2⟩
theorem ww_and1 (ha : WT S Γ a ta) : WW S Γ (.BoolOp .And [a] pos) ta := by
  intro ω G0 H0 σ G H P Q E hp q
  exact ⟨_, fun X hX => pw_and1 (RT.pt hX a), ha ω G0 H0 σ G H P Q E hp q⟩
theorem ww_or1 (ha : WT S Γ a ta) : WW S Γ (.BoolOp .Or [a] pos) ta := by
  intro ω G0 H0 σ G H P Q E hp q
  exact ⟨_, fun X hX => pw_or1 (RT.pt hX a), ha ω G0 H0 σ G H P Q E hp q⟩
theorem ww_and (ha : WT S Γ a ta) (hb : WW S Γ (.BoolOp .And (b :: rest) pos) tb) : WW S Γ (.BoolOp .And (a :: b :: rest) pos) (ta.bind fun x => bif x then tb else M.pure false) := by
  intro ω G0 H0 σ G H P Q E hp q
  refine ⟨_, fun X hX => pw_and (RT.pt hX a) (RW.pw hX _), ha ω G0 H0 σ G H _ _ E hp fun k G1 H1 h e1 => ?_⟩
  cases k with
  | true => rw [if_pos rfl]; exact hb ω G0 H0 σ G1 H1 P Q (E.step e1) h fun b G' H' hP e2 => q b G' H' hP (e1.trans e2)
  | false => rw [if_neg Bool.false_ne_true]; exact q _ _ _ h e1
theorem ww_or (ha : WT S Γ a ta) (hb : WW S Γ (.BoolOp .Or (b :: rest) pos) tb) : WW S Γ (.BoolOp .Or (a :: b :: rest) pos) (ta.bind fun x => bif x then M.pure true else tb) := by
  intro ω G0 H0 σ G H P Q E hp q
  refine ⟨_, fun X hX => pw_or (RT.pt hX a) (RW.pw hX _), ha ω G0 H0 σ G H _ _ E hp fun k G1 H1 h e1 => ?_⟩
  cases k with
  | false => rw [if_neg Bool.false_ne_true]; exact hb ω G0 H0 σ G1 H1 P Q (E.step e1) h fun b G' H' hP e2 => q b G' H' hP (e1.trans e2)
  | true => rw [if_pos rfl]; exact q _ _ _ h e1

/-! ### and, or, not as values; a if t else b; chains -/
theorem we_not (ha : WE S Γ a ma) : WE S Γ (.UnaryOp .Not a pos) (ma.bind fun x => (asB x).bind fun k => M.pure (.bool (!k))) := by
  intro ω G0 H0 σ G H P Q E hp q
  refine ⟨_, fun X hX => pe_not (RE.pe hX a), ha ω G0 H0 σ G H _ _ E hp fun x v G1 H1 h e1 r1 => ?_⟩
  cases r1 <;> first | exact False.elim h | exact ⟨_, rfl, q _ _ _ _ h e1 (.bl _)⟩
theorem we_one {op} (ha : WE S Γ a ma) : WE S Γ (.BoolOp op [a] pos) ma := by
  intro ω G0 H0 σ G H P Q E hp q
  exact ⟨_, fun X hX => pe_one (RE.pe hX a), ha ω G0 H0 σ G H P Q E hp q⟩
theorem we_and (ha : WE S Γ a ma) (hb : WE S Γ (.BoolOp .And (b :: rest) pos) mb) : WE S Γ (.BoolOp .And (a :: b :: rest) pos) (ma.bind fun x => (asB x).bind fun k => bif k then mb else M.pure (.bool false)) := by
  intro ω G0 H0 σ G H P Q E hp q
  refine ⟨_, fun X hX => pe_and (RE.pe hX a) (RE.pe hX _), ha ω G0 H0 σ G H _ _ E hp fun x v G1 H1 h e1 r1 => ?_⟩
  cases r1 with
  | bl k =>
    refine ⟨k, rfl, ?_⟩
    cases k with
    | true => rw [if_pos rfl]; exact hb ω G0 H0 σ G1 H1 P Q (E.step e1) h fun d v G' H' hP e2 r => q d v G' H' hP (e1.trans e2) r
    | false => rw [if_neg Bool.false_ne_true]; exact q _ _ _ _ h e1 (.bl _)
  | _ => exact False.elim h
theorem we_or (ha : WE S Γ a ma) (hb : WE S Γ (.BoolOp .Or (b :: rest) pos) mb) : WE S Γ (.BoolOp .Or (a :: b :: rest) pos) (ma.bind fun x => (asB x).bind fun k => bif k then M.pure (.bool true) else mb) := by
  intro ω G0 H0 σ G H P Q E hp q
  refine ⟨_, fun X hX => pe_or (RE.pe hX a) (RE.pe hX _), ha ω G0 H0 σ G H _ _ E hp fun x v G1 H1 h e1 r1 => ?_⟩
  cases r1 with
  | bl k =>
    refine ⟨k, rfl, ?_⟩
    cases k with
    | false => rw [if_neg Bool.false_ne_true]; exact hb ω G0 H0 σ G1 H1 P Q (E.step e1) h fun d v G' H' hP e2 r => q d v G' H' hP (e1.trans e2) r
    | true => rw [if_pos rfl]; exact q _ _ _ _ h e1 (.bl _)
  | _ => exact False.elim h
theorem we_ife (hc : WT S Γ c tc) (ha : WE S Γ a ma) (hb : WE S Γ b mb) : WE S Γ (.IfExp c a b pos) (tc.bind fun k => bif k then ma else mb) := by
  intro ω G0 H0 σ G H P Q E hp q
  refine ⟨_, fun X hX => pe_ifExp (RT.pt hX c) (RE.pe hX a) (RE.pe hX b), hc ω G0 H0 σ G H _ _ E hp fun k G1 H1 h e1 => ?_⟩
  cases k with
  | true => rw [if_pos rfl]; exact ha ω G0 H0 σ G1 H1 P Q (E.step e1) h fun d v G' H' hP e2 r => q d v G' H' hP (e1.trans e2) r
  | false => rw [if_neg Bool.false_ne_true]; exact hb ω G0 H0 σ G1 H1 P Q (E.step e1) h fun d v G' H' hP e2 r => q d v G' H' hP (e1.trans e2) r
theorem chain_go {op op' : CmpOp} {f f' : D → D → M D} (ho : OpOk S (compareOp op) f) (ho' : OpOk S (compareOp op') f') (ha : WB S Γ a ma) (hb : WB S Γ b mb) (hc : WB S Γ c mc) {ω : Option Addr} {G0 H0 : Hp} {σ : L2.St} {G H : Hp} {P : D → Prop} {Q : VK}
    (E : EnvOk ω S.K G0 H0 Γ σ G H) (hp : (ma.bind fun x => mb.bind fun y => (f x y).bind fun z => (asB z).bind fun k => bif k then mc.bind fun w => f' y w else M.pure (.bool false)) P)
    (q : ∀ d v G' H', P d → Ext ω S.K G H G' H' → Rp S.K G' v d → Q v H') : tChain (ROp S (compareOp op)) (ROp S (compareOp op')) (RE S a) (RE S b) (RE S c) σ H Q := by
  refine two (f := fun x y => (f x y).bind fun z => (asB z).bind fun k => bif k then mc.bind fun w => f' y w else M.pure (.bool false)) ha hb E hp fun x y v u G' H' e r1 r2 hf => ?_
  refine ho ω G' H' x y v u (fun z => asB z (fun k => (bif k then mc.bind fun w => f' y w else M.pure (.bool false)) P)) _ e.self r1 r2 hf fun d v' G2 H2 hP e2 r => ?_
  cases r with
  | bl k =>
    refine ⟨k, rfl, ?_⟩
    cases k with
    | false => rw [if_neg Bool.false_ne_true]; exact q _ _ _ _ hP (e.trans e2) (.bl _)
    | true =>
      rw [if_pos rfl]
      refine hc ω G0 H0 σ G2 H2 _ _ (E.step (e.trans e2)) hP fun w v3 G3 H3 h3 e3 r3 => ?_
      exact ho' ω G3 H3 y w u v3 P Q e3.self ((r2.ext e2).ext e3) r3 h3 fun d v4 G4 H4 hP e4 r4 => q d v4 G4 H4 hP (((e.trans e2).trans e3).trans e4) r4
  | _ => exact False.elim hP
theorem we_chain {op op' : CmpOp} {f f' : D → D → M D} (ho : OpOk S (compareOp op) f) (ho' : OpOk S (compareOp op') f') (ha : WB S Γ a ma) (hb : WB S Γ b mb) (hc : WB S Γ c mc) (hm : lastMarks [op, op'] [b, c] = false) :
    WE S Γ (.Compare a [op, op'] [b, c] pos) (ma.bind fun x => mb.bind fun y => (f x y).bind fun z => (asB z).bind fun k => bif k then mc.bind fun w => f' y w else M.pure (.bool false)) :=
  fun ω G0 H0 σ G H P Q E hp q => ⟨_, fun X hX => pe_chain (ROp.op hX _) (ROp.op hX _) (RE.pe hX a) (RE.pe hX b) (RE.pe hX c) hm, chain_go ho ho' ha hb hc E hp q⟩
theorem wt_chain {op op' : CmpOp} {f f' : D → D → M D} (ho : OpOk S (compareOp op) f) (ho' : OpOk S (compareOp op') f') (ha : WB S Γ a ma) (hb : WB S Γ b mb) (hc : WB S Γ c mc) (hm : lastMarks [op, op'] [b, c] = false) :
    WT S Γ (.Compare a [op, op'] [b, c] pos) ((ma.bind fun x => mb.bind fun y => (f x y).bind fun z => (asB z).bind fun k => bif k then mc.bind fun w => f' y w else M.pure (.bool false)).bind fun z => asB z) :=
  fun ω G0 H0 σ G H P Q E hp q => ⟨_, fun X hX => pt_chain (ROp.op hX _) (ROp.op hX _) (RE.pe hX a) (RE.pe hX b) (RE.pe hX c) hm, chain_go ho ho' ha hb hc (P := fun z => asB z P) E hp fun d v G' H' hP e r => by
    cases r <;> first | exact False.elim hP | exact ⟨_, rfl, q _ _ _ hP e⟩⟩

/-! ### slices -/
def asI : D → M Int
  | .int i => M.pure i
  | _ => M.fail
def RO (S : Sg) (e : Option Expr) : TO := fun σ H Q => ∃ t, (∀ X, S.Of X → PO X e t) ∧ t σ H Q
theorem RO.po {X : Cx} (hX : S.Of X) (e : Option Expr) : PO X e (RO S e) := ⟨fun pins s σ H Q I ⟨t, h, q⟩ => (h X hX).run pins s σ H Q I q⟩
def WO (S : Sg) (Γ : En) (e : Option Expr) (m : M (Option Int)) : Prop := ∀ (ω : Option Addr) (G0 H0 : Hp) (σ : L2.St) (G H : Hp) (P : Option Int → Prop) (Q : Option Int → Hp → Prop), EnvOk ω S.K G0 H0 Γ σ G H → m P →
  (∀ b G' H', P b → Ext ω S.K G H G' H' → Q b H') → RO S e σ H Q
theorem wo_none : WO S Γ none (M.pure none) := fun ω G0 H0 σ G H P Q E hp q => ⟨_, fun X hX => po_none, q _ _ _ hp E.self⟩
theorem wo_some (ha : WE S Γ a ma) : WO S Γ (some a) (ma.bind fun x => (asI x).bind fun i => M.pure (some i)) := by
  intro ω G0 H0 σ G H P Q E hp q
  refine ⟨_, fun X hX => po_some (RE.pe hX a), ha ω G0 H0 σ G H _ _ E hp fun x v G1 H1 h e1 r1 => ?_⟩
  cases r1 <;> first | exact False.elim h | exact ⟨_, rfl, q _ _ _ h e1⟩
def SlOk (S : Sg) (f : D → Option Int → Option Int → M D) : Prop := ∀ (ω : Option Addr) (G H : Hp) (x : D) (v : V) (lo hi : Option Int) (P : D → Prop) (Q : VK), Ext ω S.K G H G H → Rb ω S.K G H v x → f x lo hi P →
  (∀ d v' G' H', P d → Ext ω S.K G H G' H' → Rp S.K G' v' d → Q v' H') → RSl S v lo hi H Q
theorem we_slice {f : D → Option Int → Option Int → M D} {lo hi : Option Expr} {ml mh : M (Option Int)} {p2 : Pos} (hs : SlOk S f) (ha : WB S Γ a ma) (hl : WO S Γ lo ml) (hh : WO S Γ hi mh) :
    WE S Γ (.Subscript a (.Slice lo hi none p2) pos) (ma.bind fun x => ml.bind fun l => mh.bind fun h => f x l h) := by
  intro ω G0 H0 σ G H P Q E hp q
  refine ⟨_, fun X hX => pe_slice (RSl.sl hX) (RE.pe hX a) (RO.po hX lo) (RO.po hX hi), ha ω G0 H0 σ G H _ _ E hp fun x v G1 H1 h1 e1 r1 => ?_⟩
  refine hl ω G0 H0 σ G1 H1 _ _ (E.step e1) h1 fun l G2 H2 h2 e2 => ?_
  refine hh ω G0 H0 σ G2 H2 _ _ ((E.step e1).step e2) h2 fun u G3 H3 h3 e3 => ?_
  exact hs ω G3 H3 x v l u P Q e3.self ((r1.ext e2).ext e3) h3 fun d v' G' H' hP e4 r => q d v' G' H' hP (((e1.trans e2).trans e3).trans e4) r
end

/-! ### defs -/
inductive ArgsOk (ω : Option Addr) (K : PySem.W.Frag) (G : Hp) : List V → List Ct → Prop
  | nil : ArgsOk ω K G [] []
  | val {v : V} {vs : List V} {d : D} {cs : List Ct} : Rp K G v d → ArgsOk ω K G vs cs → ArgsOk ω K G (v :: vs) (.val d :: cs)
  | scr {a : Addr} {ns : List Int} {vs : List V} {cs : List Ct} : SqL K G a (ns.map V.int) → ArgsOk ω K G vs cs → ArgsOk ω K G (.ref a :: vs) (.scr ns :: cs)
  | drw {o : Addr} {vs : List V} {cs : List Ct} : ω = some o → ArgsOk ω K G vs cs → ArgsOk ω K G (.ref o :: vs) (.drw :: cs)
theorem ArgsOk.ext {ω : Option Addr} {K : PySem.W.Frag} {G H G' H' : Hp} {vs : List V} {cs : List Ct} (h : ArgsOk ω K G vs cs) (e : Ext ω K G H G' H') : ArgsOk ω K G' vs cs := by
  induction h with
  | nil => exact .nil
  | val r _ ih => exact .val (r.ext e) ih
  | drw r _ ih => exact .drw r ih
  | scr r _ ih => exact .scr ((Le.of_same e.gg).sqL r) ih
theorem ArgsOk.length {ω : Option Addr} {K : PySem.W.Frag} {G : Hp} {vs : List V} {cs : List Ct} (h : ArgsOk ω K G vs cs) : vs.length = cs.length := by
  induction h with
  | nil => rfl
  | val r _ ih => exact congrArg (· + 1) ih
  | drw r _ ih => exact congrArg (· + 1) ih
  | scr r _ ih => exact congrArg (· + 1) ih
theorem ArgsOk.at_ {ω : Option Addr} {K : PySem.W.Frag} {G H0 H : Hp} {vs : List V} {cs : List Ct} (h : ArgsOk ω K G vs cs) : ∀ (i : Nat) c, cs[i]? = some c → ∃ v, vs[i]? = some v ∧ CtOk ω K H0 G H c v ∧ ∀ d, c ≠ .own d := by
  induction h with
  | nil => intro i c h; simp at h
  | val r _ ih =>
    intro i c h
    cases i with
    | zero => simp at h; subst h; exact ⟨_, rfl, r, fun _ e => nomatch e⟩
    | succ i => simpa using ih i c (by simpa using h)
  | scr r _ ih =>
    intro i c h
    cases i with
    | zero => simp at h; subst h; exact ⟨_, rfl, ⟨_, rfl, r⟩, fun _ e => nomatch e⟩
    | succ i => simpa using ih i c (by simpa using h)
  | drw r _ ih =>
    intro i c h
    cases i with
    | zero => simp at h; subst h; exact ⟨_, rfl, ⟨_, rfl, r⟩, fun _ e => nomatch e⟩
    | succ i => simpa using ih i c (by simpa using h)
def spD (K : PySem.W.Frag) (n : Nat) (mf : List Ct → M D) : Sp := fun vs H Q _ => vs.length = n ∧ ∃ (ω : Option Addr) (cs : List Ct) (G : Hp) (P : D → Prop), mf cs P ∧ ArgsOk ω K G vs cs ∧ Ext ω K G H G H ∧
  ∀ d v G' H', P d → Ext ω K G H G' H' → Rp K G' v d → Q v H'
structure FnD (P : Program) (w : World) (K : PySem.W.Frag) (mg : Str → Option Value) (base : Heap) (x : Str) (j n : Nat) (mf : List Ct → M D) : Prop where
  ex : ∃ (f : Addr) (fd : FuncData) (ps : List Str), FnOk P w K mg base CX0 j f fd ps (spD K n mf) ∧ mg x = some (.ref f) ∧ PySem.W.keepIn K (.ref f) = true ∧ Binds K fd ps []
theorem start_get {N : List Str} {vs : List V} {i : Nat} {v : V} (h : vs[i]? = some v) : (L2.start N vs)[i]? = some (some v) := by
  obtain ⟨hi, e⟩ := List.getElem?_eq_some_iff.mp h
  unfold L2.start
  rw [List.getElem?_append_left (by simpa using hi), List.getElem?_map, h]
  rfl
/-- a def keeps its promise by its body -/
theorem fn_ok {P : Program} {w : World} {K : PySem.W.Frag} {mg : Str → Option Value} {base : Heap} {x qual : Str} {st : Stmt} {f : Addr} {fd : FuncData} {N ps : List Str} {k n : Nat} {mf : List Ct → M D} (F : Fun K x qual st f fd) (Sc : FnScope N ps (defScope st)) (hn : ps.length = n) (hN : n ≤ N.length)
    (hb : ∀ cs : List Ct, cs.length = n → W ⟨P, w, K, mg, base, N, defScope st, k, fun _ => true⟩ (cs.map some ++ List.replicate (N.length - n) none) (defBody st) (mf cs) Out.rt) : FnOk P w K mg base CX0 (k + 1) f fd ps (spD K n mf) := by
  refine F.ok Sc (fun vs H Q E h => by rw [hn]; exact h.1) (fun cdv A outer s H vs Q E hr h => ?_)
  obtain ⟨hl, ω, cs, G, P', hm, ha, hx, q⟩ := h
  have hcl : cs.length = n := by rw [← ha.length]; exact hl
  refine ⟨RS ⟨P, w, K, mg, base, N, defScope st, k, fun _ => true⟩ (defBody st), RS.ps ⟨rfl, rfl, rfl, rfl, rfl, rfl, rfl, rfl, hr, rfl, rfl, Sc.nd⟩ _, ?_⟩
  refine hb cs hcl ω G H (L2.start N vs) G H P' _ ⟨hx, ?_, fun i c h => ?_, fun i j d e v hi _ _ _ => ?_⟩ hm fun r hP v G' H' e rr => q r v G' H' hP e rr
  · unfold L2.start
    simp only [List.length_append, List.length_map, List.length_replicate]
    omega
  · by_cases hi : i < cs.length
    · rw [List.getElem?_append_left (by simpa using hi), List.getElem?_map] at h
      obtain ⟨c', e1, e2⟩ := Option.map_eq_some_iff.mp h
      cases e2
      obtain ⟨v, h1, h2, _⟩ := ha.at_ (H0 := H) (H := H) i c e1
      exact ⟨v, start_get h1, h2⟩
    · rw [List.getElem?_append_right (by simpa using hi)] at h
      have := List.mem_of_getElem? h
      rw [List.mem_replicate] at this
      cases this.2
  · exfalso
    by_cases hi' : i < cs.length
    · rw [List.getElem?_append_left (by simpa using hi'), List.getElem?_map] at hi
      obtain ⟨c', e1, e2⟩ := Option.map_eq_some_iff.mp hi
      cases e2
      obtain ⟨v, h1, h2, h3⟩ := ha.at_ (H0 := H) (H := H) i _ e1
      exact h3 d rfl
    · rw [List.getElem?_append_right (by simpa using hi')] at hi
      have := List.mem_of_getElem? hi
      rw [List.mem_replicate] at this
      cases this.2
section
variable {S : Sg} {Γ : En} {e a b c : Expr} {m ma mb mc : M D} {ta tb tc : M Bool} {pos : Pos} {es rest : List Expr}
def WC (S : Sg) (Γ : En) (es : List Expr) (m : M (List Ct)) : Prop := ∀ (ω : Option Addr) (G0 H0 : Hp) (σ : L2.St) (G H : Hp) (P : List Ct → Prop) (Q : List V → Hp → Prop), EnvOk ω S.K G0 H0 Γ σ G H → m P →
  (∀ cs vs G' H', P cs → Ext ω S.K G H G' H' → ArgsOk ω S.K G' vs cs → cs.length = es.length → Q vs H') → RA S es σ H Q
theorem wc_nil : WC S Γ [] (M.pure []) := fun ω G0 H0 σ G H P Q E hm q => ⟨_, fun X hX => pa_nil, q [] [] G H hm E.self .nil rfl⟩
theorem wc_val {ms : M (List Ct)} (ha : WE S Γ a ma) (hs : WC S Γ es ms) (he : ∀ env, starEach (a :: es) env = (false, eval a env) :: starEach es env := by intro _; rfl) :
    WC S Γ (a :: es) (ma.bind fun x => ms.bind fun xs => M.pure (.val x :: xs)) := by
  intro ω G0 H0 σ G H P Q E hm q
  refine ⟨_, fun X hX => pa_cons (RE.pe hX a) (RA.pa hX es) (he _), ?_⟩
  refine ha ω G0 H0 σ G H _ _ E hm fun x v G1 H1 hx e1 r1 => ?_
  refine hs ω G0 H0 σ G1 H1 _ _ (E.step e1) hx fun xs vs G2 H2 hy e2 r2 l2 => ?_
  exact q (.val x :: xs) (v :: vs) G2 H2 hy (e1.trans e2) (.val (r1.ext e2) r2) (congrArg (· + 1) l2)
theorem wc_drw {ms : M (List Ct)} {i : Nat} {x : Str} (h : VarAt S i x) (hi : Γ[i]? = some (some .drw)) (hs : WC S Γ es ms) (he : ∀ env, starEach (.Name x pos :: es) env = (false, eval (.Name x pos) env) :: starEach es env := by intro _; rfl) :
    WC S Γ (.Name x pos :: es) (ms.bind fun xs => M.pure (.drw :: xs)) := by
  intro ω G0 H0 σ G H P Q E hm q
  obtain ⟨v, h1, o, rfl, ho⟩ := E.sl i _ hi
  refine ⟨_, fun X hX => pa_cons (pe_var (i := i) (by rw [hX.N]; exact h.n) (by rw [hX.sc]; exact h.v) h.d h.c) (RA.pa hX es) (he _), .ref o, h1, ?_⟩
  refine hs ω G0 H0 σ G H _ _ E hm fun xs vs G2 H2 hy e2 r2 l2 => ?_
  exact q (.drw :: xs) (.ref o :: vs) G2 H2 hy e2 (.drw ho r2) (congrArg (· + 1) l2)
theorem wc_scr {ms : M (List Ct)} {i : Nat} {x : Str} {ns : List Int} (h : VarAt S i x) (hi : Γ[i]? = some (some (.scr ns))) (hs : WC S Γ es ms) (he : ∀ env, starEach (.Name x pos :: es) env = (false, eval (.Name x pos) env) :: starEach es env := by intro _; rfl) :
    WC S Γ (.Name x pos :: es) (ms.bind fun xs => M.pure (.scr ns :: xs)) := by
  intro ω G0 H0 σ G H P Q E hm q
  obtain ⟨v, h1, o, rfl, ho⟩ := E.sl i _ hi
  refine ⟨_, fun X hX => pa_cons (pe_var (i := i) (by rw [hX.N]; exact h.n) (by rw [hX.sc]; exact h.v) h.d h.c) (RA.pa hX es) (he _), .ref o, h1, ?_⟩
  refine hs ω G0 H0 σ G H _ _ E hm fun xs vs G2 H2 hy e2 r2 l2 => ?_
  exact q (.scr ns :: xs) (.ref o :: vs) G2 H2 hy e2 (.scr ((Le.of_same e2.gg).sqL ho) r2) (congrArg (· + 1) l2)
theorem we_call {x : Str} {j n : Nat} {mf : List Ct → M D} {p : Pos} {ms : M (List Ct)} (F : FnD S.P S.w S.K S.mg S.base x j n mf) (hg : S.sc.names.lookup x = some .globalImplicit) (hj : j ≤ S.k) (hl : (a :: es).length = n) (hs : WC S Γ (a :: es) ms)
    (hdb : (x == ("__debug__" : Str)) = false) (he : ∀ env, starEach (a :: es) env = (false, eval a env) :: starEach es env := by intro _; rfl) (hpl : ∀ env, (backTo pos (starEach es env)).any (·.1) = false := by intro _; rfl) :
    WE S Γ (.Call (.Name x p) (a :: es) [] pos) (ms.bind fun cs => mf cs) := by
  intro ω G0 H0 σ G H P Q E hm q
  obtain ⟨f, fd, ps, F, hmg, hk, hb⟩ := F.ex
  refine ⟨_, fun X hX => pe_call (X := X) (CX := CX0) (sp := spD S.K n mf) (dvs := []) (ds := []) (E := E0) (by rw [hX.prog, hX.w, hX.K, hX.mg, hX.base]; exact F.mono hj) hX.room (gl_of hX hg) (by rw [hX.mg]; exact hmg) (by rw [hX.K]; exact hk) (by rw [hX.K]; exact hb) .nil pass0 (RA.pa hX (a :: es)) hdb (he _) (hpl _), ?_⟩
  refine hs ω G0 H0 σ G H _ _ E hm fun cs vs G1 H1 hc e1 r1 l1 => ?_
  have l2 := r1.length
  show spD S.K n mf (vs ++ []) H1 Q E0
  rw [List.append_nil]
  exact ⟨by omega, ω, cs, G1, P, hc, r1, e1.self, fun d v G' H' hP e2 r => q d v G' H' hP (e1.trans e2) r⟩
end

/-! ### blocks -/
section
variable {ρ : Type} {S : Sg} {Γ Γ' : En} {e a b c : Expr} {m ma mb mc : M D} {ta tb tc : M Bool} {pos pos' : Pos} {es : List Expr} {rest A B : List Stmt} {ι : ρ → Out}
theorem rs_cons {st : Stmt} {sts : List Stmt} {t : TS} {D : Ends} {σ : L2.St} {H : Hp} (h : ∀ X, S.Of X → PS X st t) (q : t { D with nx := RS S sts D } σ H) : RS S (st :: sts) D σ H :=
  ⟨_, fun X hX => pss_cons (h X hX) (RS.ps hX sts), q⟩
/-- the end of a block; names may be forgotten -/
theorem w_nil (ks : List Bool) {r : ρ} (hr : ι r = .nx (maskE ks Γ) := by rfl) (hl : ks.length = Γ.length := by rfl) : W S Γ [] (M.pure r) ι := by
  intro ω G0 H0 σ G H P Dn E hm q
  refine ⟨_, fun X hX => pss_nil, ?_⟩
  have z := q r hm
  rw [hr] at z
  refine z σ G H (E.weak ?_ fun i c h => maskE_get h)
  have : ∀ (ks : List Bool) (Γ : En), ks.length = Γ.length → (maskE ks Γ).length = Γ.length := by
    intro ks
    induction ks with
    | nil => intro Γ h; cases Γ <;> simp_all [maskE]
    | cons k ks ih => intro Γ h; cases Γ <;> simp_all [maskE]
  exact this ks Γ hl
theorem w_ret (he : WE S Γ e me) : W S Γ (.Return (some e) pos :: rest) me Out.rt := by
  intro ω G0 H0 σ G H P Dn E hm q
  refine rs_cons (fun X hX => ps_ret (RE.pe hX e)) (he ω G0 H0 σ G H P _ E hm fun d v G1 H1 hP e1 r1 => ?_)
  exact q d hP v G1 H1 (E.ext.trans e1) r1
/-- return out of a loop's turn, or where the block's kind of end is another -/
theorem w_retF {f : D → ρ} (he : WE S Γ e me) (hf : ∀ d, ι (f d) = .rt d := by intro _; rfl) : W S Γ (.Return (some e) pos :: rest) (me.bind fun d => M.pure (f d)) ι := by
  intro ω G0 H0 σ G H P Dn E hm q
  refine rs_cons (fun X hX => ps_ret (RE.pe hX e)) (he ω G0 H0 σ G H _ _ E hm fun d v G1 H1 hP e1 r1 => ?_)
  have z := q (f d) hP
  rw [hf d] at z
  exact z v G1 H1 (E.ext.trans e1) r1
/-- a block's outcome told otherwise -/
theorem w_map {ρ' : Type} {ι' : ρ' → Out} {m : M ρ} {f : ρ → ρ'} {sts : List Stmt} (h : W S Γ sts m ι) (hf : ∀ r, ι' (f r) = ι r := by intro _; rfl) : W S Γ sts (m.bind fun r => M.pure (f r)) ι' := by
  intro ω G0 H0 σ G H P Dn E hm q
  refine h ω G0 H0 σ G H _ Dn E hm fun r hr => ?_
  rw [← hf r]
  exact q (f r) hr
theorem w_cont (ks : List Bool) {r : ρ} (hr : ι r = .ct (maskE ks Γ) := by rfl) (hl : ks.length = Γ.length := by rfl) : W S Γ (.Continue pos :: rest) (M.pure r) ι := by
  intro ω G0 H0 σ G H P Dn E hm q
  refine rs_cons (fun X hX => ps_continue) ?_
  have z := q r hm
  rw [hr] at z
  refine z σ G H (E.weak ?_ fun i c h => maskE_get h)
  have : ∀ (ks : List Bool) (Γ : En), ks.length = Γ.length → (maskE ks Γ).length = Γ.length := by
    intro ks
    induction ks with
    | nil => intro Γ h; cases Γ <;> simp_all [maskE]
    | cons k ks ih => intro Γ h; cases Γ <;> simp_all [maskE]
  exact this ks Γ hl
theorem w_brk (ks : List Bool) {r : ρ} (hr : ι r = .bk (maskE ks Γ) := by rfl) (hl : ks.length = Γ.length := by rfl) : W S Γ (.Break pos :: rest) (M.pure r) ι := by
  intro ω G0 H0 σ G H P Dn E hm q
  refine rs_cons (fun X hX => ps_break) ?_
  have z := q r hm
  rw [hr] at z
  refine z σ G H (E.weak ?_ fun i c h => maskE_get h)
  have : ∀ (ks : List Bool) (Γ : En), ks.length = Γ.length → (maskE ks Γ).length = Γ.length := by
    intro ks
    induction ks with
    | nil => intro Γ h; cases Γ <;> simp_all [maskE]
    | cons k ks ih => intro Γ h; cases Γ <;> simp_all [maskE]
  exact this ks Γ hl
structure SetAt (S : Sg) (i : Nat) (x : Str) : Prop where
  n : S.N[i]? = some x
  l : Loc S.sc x
  f : S.fn x = true ∨ S.sc.names.lookup x = some .local
theorem SetAt.fx {X : Cx} {i : Nat} {x : Str} (h : SetAt S i x) (hX : S.Of X) : X.fn x = true ∨ X.env.scope.names.lookup x = some .local := by
  rw [hX.fn, hX.sc]; exact h.f
/-- x = e -/
theorem w_set {i : Nat} {x : Str} {k : D → M ρ} (hx : SetAt S i x) (he : WE S Γ e me) (hk : ∀ d, W S (Γ.set i (some (.val d))) rest (k d) ι) (hs : ∀ env, swapsWith e (some (.Name x pos')) pos.line env = pure false := by intro _; rfl) :
    W S Γ (.Assign [.Name x pos'] e pos :: rest) (me.bind k) ι := by
  intro ω G0 H0 σ G H P Dn E hm q
  refine rs_cons (fun X hX => ps_set (i := i) (by rw [hX.N]; exact hX.nd) (by rw [hX.N]; exact hx.n) (by rw [hX.sc]; exact hx.l) (RE.pe hX e) (hs _) (hx.fx hX)) ?_
  refine he ω G0 H0 σ G H _ _ E hm fun d v G1 H1 hP e1 r1 => ?_
  exact hk d ω G0 H0 _ G1 H1 P Dn ((E.step e1).putV r1) hP q
/-- x = e, another's own thing at last -/
theorem w_expr {k : D → M ρ} (he : WE S Γ e me) (hk : ∀ d, W S Γ rest (k d) ι) (hs : ∀ env, swapsWith e none pos.line env = pure false := by intro _; rfl) : W S Γ (.Expr e pos :: rest) (me.bind k) ι := by
  intro ω G0 H0 σ G H P Dn E hm q
  refine rs_cons (fun X hX => ps_expr (RE.pe hX e) (hs _)) ?_
  refine he ω G0 H0 σ G H _ _ E hm fun d v G1 H1 hP e1 r1 => ?_
  exact hk d ω G0 H0 _ G1 H1 P Dn (E.step e1) hP q
theorem w_pass {m : M ρ} (hk : W S Γ rest m ι) : W S Γ (.Pass pos :: rest) m ι := fun ω G0 H0 σ G H P Dn E hm q =>
  rs_cons (fun X hX => ps_pass) (hk ω G0 H0 σ G H P Dn E hm q)
theorem w_frz (i : Nat) {d : D} {sts : List Stmt} {m : M ρ} (hi : Γ[i]? = some (some (.own d))) (h : W S (Γ.set i (some (.val d))) sts m ι) : W S Γ sts m ι := by
  intro ω G0 H0 σ G H P Dn E hm q
  obtain ⟨G', _, E'⟩ := E.freeze hi
  exact h ω G0 H0 σ G' H P Dn E' hm q
/-- what follows a way's end -/
def Goes (S : Sg) (rest : List Stmt) (ι : ρ → Out) (m : M ρ) : Out → Prop
  | .nx Γ' => W S Γ' rest m ι
  | o => ∃ r', m = M.pure r' ∧ ι r' = o
theorem goes_post {ρA : Type} {ιA : ρA → Out} {kA : ρA → M ρ} {sts : List Stmt} {mA : M ρA} (ha : W S Γ sts mA ιA) (hk : ∀ r, Goes S rest ι (kA r) (ιA r)) {ω : Option Addr} {G0 H0 G H : Hp} {σ : L2.St} {P : ρ → Prop} {Dn : Ends} (E : EnvOk ω S.K G0 H0 Γ σ G H) (hm : (mA.bind kA) P)
    (q : ∀ r, P r → Post ω S.K G0 H0 Dn (ι r)) : RS S sts { Dn with nx := RS S rest Dn } σ H := by
  refine ha ω G0 H0 σ G H _ _ E hm fun r hr => ?_
  have g := hk r
  generalize ιA r = o at g
  cases o with
  | nx Γ' => exact fun σ' G' H' E' => g ω G0 H0 σ' G' H' P Dn E' hr q
  | rt d =>
    obtain ⟨r', e1, e2⟩ := g
    rw [e1] at hr
    have z := q r' hr
    rw [e2] at z
    exact z
  | bk Γ' =>
    obtain ⟨r', e1, e2⟩ := g
    rw [e1] at hr
    have z := q r' hr
    rw [e2] at z
    exact z
  | ct Γ' =>
    obtain ⟨r', e1, e2⟩ := g
    rw [e1] at hr
    have z := q r' hr
    rw [e2] at z
    exact z
theorem w_if {ρA ρB : Type} {ιA : ρA → Out} {ιB : ρB → Out} {mA : M ρA} {mB : M ρB} {kA : ρA → M ρ} {kB : ρB → M ρ} (hc : WT S Γ c tc) (ha : W S Γ A mA ιA) (hb : W S Γ B mB ιB) (hA : ∀ r, Goes S rest ι (kA r) (ιA r)) (hB : ∀ r, Goes S rest ι (kB r) (ιB r)) :
    W S Γ (.If c A B pos :: rest) (tc.bind fun k => bif k then mA.bind kA else mB.bind kB) ι := by
  intro ω G0 H0 σ G H P Dn E hm q
  refine rs_cons (fun X hX => ps_if (RT.pt hX c) (RS.ps hX A) (RS.ps hX B)) ?_
  refine hc ω G0 H0 σ G H _ _ E hm fun k G1 H1 hk e1 => ?_
  cases k with
  | true => rw [if_pos rfl]; exact goes_post ha hA (E.step e1) hk q
  | false => rw [if_neg Bool.false_ne_true]; exact goes_post hb hB (E.step e1) hk q
/-- a block of nothing -/
theorem w_none : W S Γ [] (M.pure ()) (fun _ => Out.nx Γ) := fun ω G0 H0 σ G H P Dn E hm q => ⟨_, fun X hX => pss_nil, q () hm σ G H E⟩
/-- if c: (returns) -/
theorem w_ifR {m1 m2 : M D} (hc : WT S Γ c tc) (ha : W S Γ A m1 Out.rt) (hr : W S Γ rest m2 Out.rt) : W S Γ (.If c A [] pos :: rest) (tc.bind fun k => bif k then m1 else m2) Out.rt :=
  w_if (mA := m1) (mB := M.pure ()) (kA := M.pure) (kB := fun _ => m2) hc ha w_none (fun r => ⟨r, rfl, rfl⟩) fun _ => hr
/-- if c: (leaves), its end told otherwise -/
theorem w_ifE {ρA : Type} {ιA : ρA → Out} {m1 : M ρA} {m2 : M ρ} {f : ρA → ρ} (hc : WT S Γ c tc) (ha : W S Γ A m1 ιA) (hr : W S Γ rest m2 ι) (hf : ∀ r, ι (f r) = ιA r := by intro _; rfl) (hn : ∀ r Γ', ιA r ≠ .nx Γ' := by intro _ _ e; cases e) :
    W S Γ (.If c A [] pos :: rest) (tc.bind fun k => bif k then m1.bind fun r => M.pure (f r) else m2) ι :=
  w_if (mA := m1) (mB := M.pure ()) (kA := fun r => M.pure (f r)) (kB := fun _ => m2) hc ha w_none (fun r => by
    have h := hn r
    have e := hf r
    generalize ιA r = o at h e
    cases o with
    | nx Γ' => exact absurd rfl (h Γ')
    | _ => exact ⟨_, rfl, e⟩) fun _ => hr
/-- both ways meet -/
theorem w_ifJ {α : Type} {m1 m2 : M α} {g : α → En} {k : α → M ρ} (hc : WT S Γ c tc) (ha : W S Γ A m1 (fun x => .nx (g x))) (hb : W S Γ B m2 (fun x => .nx (g x))) (hr : ∀ x, W S (g x) rest (k x) ι) :
    W S Γ (.If c A B pos :: rest) ((tc.bind fun b => bif b then m1 else m2).bind k) ι := by
  intro ω G0 H0 σ G H P Dn E hm q
  refine w_if (mA := m1) (mB := m2) (kA := k) (kB := k) hc ha hb hr hr ω G0 H0 σ G H P Dn E ?_ q
  refine (show tc _ from ?_)
  have hm' : tc (fun b => (bif b then m1 else m2) fun x => k x P) := hm
  have : (fun b => (bif b then m1 else m2) fun x => k x P) = fun b => (bif b then m1.bind k else m2.bind k) P := by funext b; cases b <;> rfl
  rw [this] at hm'
  exact hm'
/-- the last statement: nothing follows -/
theorem w_ifL {m1 m2 : M ρ} (hc : WT S Γ c tc) (ha : W S Γ A m1 ι) (hb : W S Γ B m2 ι) : W S Γ [.If c A B pos] (tc.bind fun k => bif k then m1 else m2) ι := by
  intro ω G0 H0 σ G H P Dn E hm q
  refine ⟨_, fun X hX => pss_one (ps_if (RT.pt hX c) (RS.ps hX A) (RS.ps hX B)), ?_⟩
  refine hc ω G0 H0 σ G H _ _ E hm fun k G1 H1 hk e1 => ?_
  cases k with
  | true => rw [if_pos rfl]; exact ha ω G0 H0 σ G1 H1 P Dn (E.step e1) hk q
  | false => rw [if_neg Bool.false_ne_true]; exact hb ω G0 H0 σ G1 H1 P Dn (E.step e1) hk q
/-- if c: A else: B, then rest; A leaves (as told by f), B goes on -/
theorem w_ifER {ρA ρB : Type} {ιA : ρA → Out} {ιB : ρB → Out} {m1 : M ρA} {m2 : M ρB} {k : ρB → M ρ} {f : ρA → ρ} (hc : WT S Γ c tc) (ha : W S Γ A m1 ιA) (hb : W S Γ B m2 ιB) (hr : ∀ r, Goes S rest ι (k r) (ιB r)) (hf : ∀ r, ι (f r) = ιA r := by intro _; rfl) (hn : ∀ r Γ', ιA r ≠ .nx Γ' := by intro _ _ e; cases e) :
    W S Γ (.If c A B pos :: rest) (tc.bind fun k' => bif k' then m1.bind fun r => M.pure (f r) else m2.bind k) ι :=
  w_if (mA := m1) (mB := m2) (kA := fun r => M.pure (f r)) (kB := k) hc ha hb (fun r => by
    have h := hn r
    have e := hf r
    generalize ιA r = o at h e
    cases o with
    | nx Γ' => exact absurd rfl (h Γ')
    | _ => exact ⟨_, rfl, e⟩) hr
end
end Wp
namespace Wp
open PySem PySem.Spec PyProof.Rows L2

/-! ### what a loop walks -/
/-- wherever the known heap has grown from G1 (and, where the walked thing may be one's own, the heap from H1), the iterator gives the items of ds -/
def aOf (ω : Option Addr) (own : Bool) : Addr → Prop := fun b => own = true ∧ some b ≠ ω
structure ItOk (ω : Option Addr) (K : PySem.W.Frag) (A : Addr → Prop) (J : It) (ds : List D) (G1 H1 : Hp) : Prop where
  ln : ds.length ≤ sizeLine
  go : ∀ i Gc Hc, Same G1 Gc → Ext ω K Gc Hc Gc Hc → (∀ a u, A a → H1 a = some u → Hc a = some u) → i < ds.length → J.go i Hc
  stop : ∀ Gc Hc, Same G1 Gc → Ext ω K Gc Hc Gc Hc → (∀ a u, A a → H1 a = some u → Hc a = some u) → J.stop ds.length Hc
  yld : ∀ i Gc Hc v H' (hi : i < ds.length), Same G1 Gc → Ext ω K Gc Hc Gc Hc → (∀ a u, A a → H1 a = some u → Hc a = some u) → J.yld i Hc v H' → ∃ G', Ext ω K Gc Hc G' H' ∧ Rp K G' v ds[i]
def WI (S : Sg) (Γ : En) (own : Bool) (tg it : Expr) (m : M (List D)) : Prop := ∀ (ω : Option Addr) (G0 H0 : Hp) (σ : L2.St) (G H : Hp) (P : List D → Prop) (R : It → Hp → Prop), EnvOk ω S.K G0 H0 Γ σ G H → m P →
  (∀ ds J G' H', P ds → Ext ω S.K G H G' H' → ItOk ω S.K (aOf ω own) J ds G' H' → R J H') → RI S tg it σ H R
theorem ItOk.own {ω : Option Addr} {K : PySem.W.Frag} {A B : Addr → Prop} {J : It} {ds : List D} {G1 H1 : Hp} (h : ItOk ω K A J ds G1 H1) (hA : ∀ b, A b → B b) : ItOk ω K B J ds G1 H1 :=
  ⟨h.ln, fun i Gc Hc a b z => h.go i Gc Hc a b (fun c u q => z c u (hA c q)), fun Gc Hc a b z => h.stop Gc Hc a b (fun c u q => z c u (hA c q)), fun i Gc Hc v H' hi a b z => h.yld i Gc Hc v H' hi a b (fun c u q => z c u (hA c q))⟩
section
variable {S : Sg} {Γ : En} {ow : Bool} {tg it e a b c : Expr} {m ma mb mc : M D} {ms : M (List D)} {pos : Pos}
theorem WI.own (h : WI S Γ false tg it ms) : WI S Γ true tg it ms := fun ω G0 H0 σ G H P R E hm q => h ω G0 H0 σ G H P R E hm fun ds J G' H' hP e i => q ds J G' H' hP e (i.own fun b h => ⟨rfl, h.2⟩)
def asL : D → M (List D)
  | .list ds => M.pure ds
  | _ => M.fail
def asT : D → M (List D)
  | .tuple ds => M.pure ds
  | _ => M.fail
theorem it_list {ω : Option Addr} {K : PySem.W.Frag} {G1 H1 : Hp} {p : Addr} {xs : List V} {ds : List D} {A : Addr → Prop} (r : RpA K G1 xs ds) (z : ds.length ≤ sizeLine) (s : ∀ Gc Hc, Same G1 Gc → Ext ω K Gc Hc Gc Hc → (∀ a u, A a → H1 a = some u → Hc a = some u) → SqL K Hc p xs) : ItOk ω K A (Itl K p) ds G1 H1 where
  ln := z
  go := fun i Gc Hc h1 h2 h3 hi => by
    have hl := r.length
    exact ⟨xs, xs[i], s Gc Hc h1 h2 h3, List.getElem?_eq_getElem (by omega)⟩
  stop := fun Gc Hc h1 h2 h3 => ⟨xs, s Gc Hc h1 h2 h3, by rw [r.length]; exact Nat.le_refl _⟩
  yld := fun i Gc Hc v H' hi h1 h2 h3 y => by
    obtain ⟨rfl, y⟩ := y
    obtain ⟨d, e1, e2⟩ := r.get (y xs (s Gc _ h1 h2 h3))
    rw [List.getElem?_eq_getElem hi] at e1
    cases e1
    exact ⟨Gc, h2, Rp.le (h1) _ e2⟩
theorem it_tup {ω : Option Addr} {K : PySem.W.Frag} {G1 H1 : Hp} {p : Addr} {xs : List V} {ds : List D} {A : Addr → Prop} (r : RpA K G1 xs ds) (z : ds.length ≤ sizeLine) (s : ∀ Gc Hc, Same G1 Gc → Ext ω K Gc Hc Gc Hc → (∀ a u, A a → H1 a = some u → Hc a = some u) → SqT K Hc p xs) : ItOk ω K A (Itt K p) ds G1 H1 where
  ln := z
  go := fun i Gc Hc h1 h2 h3 hi => by
    have hl := r.length
    exact ⟨xs, xs[i], s Gc Hc h1 h2 h3, List.getElem?_eq_getElem (by omega)⟩
  stop := fun Gc Hc h1 h2 h3 => ⟨xs, s Gc Hc h1 h2 h3, by rw [r.length]; exact Nat.le_refl _⟩
  yld := fun i Gc Hc v H' hi h1 h2 h3 y => by
    obtain ⟨rfl, y⟩ := y
    obtain ⟨d, e1, e2⟩ := r.get (y xs (s Gc _ h1 h2 h3))
    rw [List.getElem?_eq_getElem hi] at e1
    cases e1
    exact ⟨Gc, h2, Rp.le (h1) _ e2⟩
theorem sq_frz {K : PySem.W.Frag} {ω : Option Addr} {G1 Gc Hc : Hp} {p : Addr} {xs : List V} (s : SqL K G1 p xs) (h1 : Same G1 Gc) (h2 : Ext ω K Gc Hc Gc Hc) : SqL K Hc p xs := h2.le.sqL ((Le.of_same h1).sqL s)
theorem sqt_frz {K : PySem.W.Frag} {ω : Option Addr} {G1 Gc Hc : Hp} {p : Addr} {xs : List V} (s : SqT K G1 p xs) (h1 : Same G1 Gc) (h2 : Ext ω K Gc Hc Gc Hc) : SqT K Hc p xs := h2.le.sqT ((Le.of_same h1).sqT s)
/-- over a list -/
theorem wi_list (he : WE S Γ e m) : WI S Γ ow tg e (m.bind fun x => asL x) := by
  intro ω G0 H0 σ G H P R E hm q
  refine ⟨_, fun X hX => hX.K ▸ pi_list (RE.pe hX e), he ω G0 H0 σ G H _ _ E hm fun d v G' H' hP e1 r => ?_⟩
  cases r with
  | lst s r z => exact ⟨_, rfl, ⟨_, .inl (e1.le _ _ s)⟩, q _ _ G' H' hP e1 (it_list r z fun Gc Hc h1 h2 _ => sq_frz (.inl s) h1 h2)⟩
  | _ => exact False.elim hP
theorem wi_tup (he : WE S Γ e m) : WI S Γ ow tg e (m.bind fun x => asT x) := by
  intro ω G0 H0 σ G H P R E hm q
  refine ⟨_, fun X hX => hX.K ▸ pi_tup (RE.pe hX e), he ω G0 H0 σ G H _ _ E hm fun d v G' H' hP e1 r => ?_⟩
  cases r with
  | tup s r z => exact ⟨_, rfl, ⟨_, e1.le.sqT s⟩, q _ _ G' H' hP e1 (it_tup r z fun Gc Hc h1 h2 _ => sqt_frz s h1 h2)⟩
  | _ => exact False.elim hP
/-- over a list of one's own -/
theorem wi_own (he : WB S Γ e m) : WI S Γ true tg e (m.bind fun x => asL x) := by
  intro ω G0 H0 σ G H P R E hm q
  refine ⟨_, fun X hX => hX.K ▸ pi_list (RE.pe hX e), he ω G0 H0 σ G H _ _ E hm fun d v G' H' hP e1 r => ?_⟩
  cases d with
  | list ds =>
    rcases r with r | ⟨o, u, h1, h2, h3, h4⟩
    · cases r with
      | lst s r z => exact ⟨_, rfl, ⟨_, .inl (e1.le _ _ s)⟩, q _ _ G' H' hP e1 (it_list r z fun Gc Hc h1 h2 _ => sq_frz (.inl s) h1 h2)⟩
    · cases h4 with
      | lst a z => exact ⟨o, h1, ⟨_, .inl (.inl h3)⟩, q _ _ G' H' hP e1 (it_list a z fun Gc Hc g1 g2 g3 => .inl (.inl (g3 o _ ⟨rfl, h2⟩ h3)))⟩
  | _ => exact False.elim hP
def rangeD (lo hi : Int) : List D := (List.range (hi - lo).toNat).map fun (i : Nat) => .int (lo + (i : Nat))
theorem it_range {ω : Option Addr} {K : PySem.W.Frag} {G1 H1 : Hp} {lo hi : Int} {A : Addr → Prop} (h : (hi - lo).toNat ≤ sizeLine) : ItOk ω K A (Itr lo (hi - lo).toNat) (rangeD lo hi) G1 H1 where
  ln := by simpa [rangeD] using h
  go := fun i Gc Hc h1 h2 h3 hi' => by
    simp [rangeD] at hi'
    show i < (hi - lo).toNat
    omega
  stop := fun Gc Hc h1 h2 h3 => by show _ ≤ _; simp [rangeD]
  yld := fun i Gc Hc v H' hi h1 h2 h3 y => by
    obtain ⟨rfl, y⟩ := y
    refine ⟨Gc, h2, ?_⟩
    have : (rangeD lo _)[i] = .int (lo + (i : Nat)) := by simp [rangeD]
    rw [this, y]
    exact .int _
def rngD (lo hi : Int) : M (List D) := M.need (-4611686018427387904 ≤ lo ∧ lo < 4611686018427387904 ∧ -4611686018427387904 ≤ hi ∧ hi < 4611686018427387904 ∧ hi - lo ≤ 16777216) (M.pure (rangeD lo hi))
theorem wi_range1 {p : Pos} (hb : BltAt S "range" (.type "range")) (ha : WB S Γ a ma) (hs : ∀ env, starEach [a] env = [(false, eval a env)] := by intro _; rfl) : WI S Γ ow tg (.Call (.Name "range" p) [a] [] pos) (ma.bind fun x => (asI x).bind fun i => rngD 0 i) := by
  intro ω G0 H0 σ G H P R E hm q
  refine ⟨_, fun X hX => pi_range1 (gl_of hX hb.g) (by rw [hX.mg]; exact hb.m) (pa_cons (RE.pe hX a) pa_nil (hs _)) (hs _), ?_⟩
  refine ha ω G0 H0 σ G H _ _ E hm fun x v G1 H1 hx e1 r1 => ?_
  cases x with
  | int i =>
    cases r1.int
    obtain ⟨⟨h1, h2, h3, h4, h5⟩, hx⟩ := hx
    refine ⟨i, rfl, by omega, by omega, ?_⟩
    have e : i.toNat = (i - 0).toNat := by simp
    rw [e]
    exact q _ _ G1 H1 hx e1 (it_range (by rw [sizeLine_eq]; omega))
  | _ => exact False.elim hx
theorem wi_range2 {p : Pos} (hb : BltAt S "range" (.type "range")) (ha : WB S Γ a ma) (hb2 : WB S Γ b mb) (hs : ∀ env, starEach [a, b] env = [(false, eval a env), (false, eval b env)] := by intro _; rfl) (hs2 : ∀ env, starEach [b] env = [(false, eval b env)] := by intro _; rfl) :
    WI S Γ ow tg (.Call (.Name "range" p) [a, b] [] pos) (ma.bind fun x => mb.bind fun y => (asI x).bind fun i => (asI y).bind fun j => rngD i j) := by
  intro ω G0 H0 σ G H P R E hm q
  refine ⟨_, fun X hX => pi_range2 (gl_of hX hb.g) (by rw [hX.mg]; exact hb.m) (pa_cons (RE.pe hX a) (pa_cons (RE.pe hX b) pa_nil (hs2 _)) (by rw [hs, hs2])) (hs _) (hs2 _), ?_⟩
  show RE S a σ H fun v H1 => RE S b σ H1 fun u H2 => _
  refine two (f := fun x y => fun P' => ((asI x).bind fun i => (asI y).bind fun j => rngD i j) P) (P := fun _ => True) ha hb2 E hm fun x y v u G1 H1 e1 r1 r2 hx => ?_
  cases x with
  | int i =>
    cases y with
    | int j =>
      cases r1.int
      cases r2.int
      obtain ⟨⟨h1, h2, h3, h4, h5⟩, hx⟩ := hx
      exact ⟨i, j, rfl, ⟨by omega, by omega, by omega, by omega⟩, q _ _ G1 H1 hx e1 (it_range (by rw [sizeLine_eq]; omega))⟩
    | _ => exact False.elim hx
  | _ => exact False.elim hx

/-! ### targets -/
theorem wipe_set_in {i : Nat} {x : Option V} : ∀ {vs : List Nat} {σ : L2.St}, i ∈ vs → L2.wipe (σ.set i x) vs = L2.wipe σ vs
  | [], _, h => by cases h
  | v :: vs, σ, h => by
    show (L2.wipe (σ.set i x) vs).set v none = (L2.wipe σ vs).set v none
    by_cases hv : i ∈ vs
    · rw [wipe_set_in hv]
    · have e : v = i := by
        rcases List.mem_cons.mp h with h | h
        · exact h.symm
        · exact absurd h hv
      subst e
      have out : ∀ {vs : List Nat} {σ : L2.St}, v ∉ vs → L2.wipe (σ.set v x) vs = (L2.wipe σ vs).set v x := by
        intro vs
        induction vs with
        | nil => intro σ _; rfl
        | cons w ws ih =>
          intro σ hn
          simp only [List.mem_cons, not_or] at hn
          show (L2.wipe (σ.set v x) ws).set w none = ((L2.wipe σ ws).set w none).set v x
          rw [ih hn.2, List.set_comm _ _ hn.1]
      rw [out hv, List.set_set]
theorem wipe_wipe : ∀ {vs : List Nat} {σ : L2.St}, L2.wipe (L2.wipe σ vs) vs = L2.wipe σ vs
  | [], _ => rfl
  | v :: vs, σ => by
    show (L2.wipe ((L2.wipe σ vs).set v none) vs).set v none = (L2.wipe σ vs).set v none
    by_cases hv : v ∈ vs
    · rw [wipe_set_in hv, wipe_wipe]
    · have out : ∀ {vs : List Nat} {σ : L2.St}, v ∉ vs → L2.wipe (σ.set v none) vs = (L2.wipe σ vs).set v none := by
        intro vs
        induction vs with
        | nil => intro σ _; rfl
        | cons w ws ih =>
          intro σ hn
          simp only [List.mem_cons, not_or] at hn
          show (L2.wipe (σ.set v none) ws).set w none = ((L2.wipe σ ws).set w none).set v none
          rw [ih hn.2, List.set_comm _ _ hn.1]
      rw [out hv, wipe_wipe, List.set_set]
/-- a target: what it takes a datum apart into, what it stores, where -/
def WG {α : Type} (S : Sg) (tg : Expr) (dec : D → M α) (g : α → En → En) (ts : List Nat) : Prop := ∀ (ω : Option Addr) (G0 H0 : Hp) (Γ : En) (σ : L2.St) (G H : Hp) (v : V) (d : D) (P : α → Prop) (Q : L2.St → Hp → Prop), EnvOk ω S.K G0 H0 Γ σ G H → Rp S.K G v d → dec d P →
  (∀ a σ', P a → EnvOk ω S.K G0 H0 (g a Γ) σ' G H → (∀ vs, (∀ i ∈ ts, i ∈ vs) → L2.wipe σ' vs = L2.wipe σ vs) → Q σ' H) → RG S tg v σ H Q
theorem wg_name {i : Nat} {x : Str} (hx : SetAt S i x) : WG S (.Name x pos) M.pure (fun d Γ => Γ.set i (some (.val d))) [i] := by
  intro ω G0 H0 Γ σ G H v d P Q E r hm q
  exact ⟨_, fun X hX => pg_name (i := i) (by rw [hX.N]; exact hX.nd) (by rw [hX.N]; exact hx.n) (by rw [hX.sc]; exact hx.l) (hx.fx hX), q d _ hm (E.putV r) fun vs h => wipe_set_in (h i (by simp))⟩
def un2 : D → M (D × D)
  | .tuple [a, b] => M.pure (a, b)
  | _ => M.fail
def un3 : D → M (D × D × D)
  | .tuple [a, b, c] => M.pure (a, b, c)
  | _ => M.fail
def un4 : D → M (D × D × D × D)
  | .tuple [a, b, c, d] => M.pure (a, b, c, d)
  | _ => M.fail
variable {p1 p2 p3 p4 : Pos} {kk : Nat}
theorem wg_tup2 {i j : Nat} {x y : Str} (hx : SetAt S i x) (hy : SetAt S j y) : WG S (.Tuple [.Name x p1, .Name y p2] kk pos) un2 (fun d Γ => (Γ.set i (some (.val d.1))).set j (some (.val d.2))) [i, j] := by
  intro ω G0 H0 Γ σ G H v d P Q E r hm q
  match d, hm with
  | .tuple [a, b], hm =>
    refine ⟨gTup S.K 2 (gCons (gName i) (gCons (gName j) gNil)), fun X hX => by
      have hnd : X.N.Nodup := by rw [hX.N]; exact hX.nd
      have h := pg_tup (X := X) (k := kk) (pos := pos) hX.calm (pgs_cons (pg_name (X := X) (i := i) (pos := p1) hnd (by rw [hX.N]; exact hx.n) (by rw [hX.sc]; exact hx.l) (hx.fx hX)) (pgs_cons (pg_name (X := X) (i := j) (pos := p2) hnd (by rw [hX.N]; exact hy.n) (by rw [hX.sc]; exact hy.l) (hy.fx hX)) pgs_nil))
      rw [hX.K] at h; exact h, ?_⟩
    cases r with
    | tup s a z =>
      cases a with
      | cons r1 a => cases a with
        | cons r2 a => cases a; exact ⟨_, _, rfl, E.ext.le.sqT s, rfl, _, _, rfl, _, _, rfl, rfl, q (_, _) _ hm ((E.putV r1).putV r2) fun vs h => by rw [wipe_set_in (h j (by simp)), wipe_set_in (h i (by simp))]⟩
theorem wg_tup3 {i j k : Nat} {x y z : Str} (hx : SetAt S i x) (hy : SetAt S j y) (hz : SetAt S k z) : WG S (.Tuple [.Name x p1, .Name y p2, .Name z p3] kk pos) un3 (fun d Γ => ((Γ.set i (some (.val d.1))).set j (some (.val d.2.1))).set k (some (.val d.2.2))) [i, j, k] := by
  intro ω G0 H0 Γ σ G H v d P Q E r hm q
  match d, hm with
  | .tuple [a, b, c], hm =>
    refine ⟨gTup S.K 3 (gCons (gName i) (gCons (gName j) (gCons (gName k) gNil))), fun X hX => by
      have hnd : X.N.Nodup := by rw [hX.N]; exact hX.nd
      have h := pg_tup (X := X) (k := kk) (pos := pos) hX.calm (pgs_cons (pg_name (X := X) (i := i) (pos := p1) hnd (by rw [hX.N]; exact hx.n) (by rw [hX.sc]; exact hx.l) (hx.fx hX)) (pgs_cons (pg_name (X := X) (i := j) (pos := p2) hnd (by rw [hX.N]; exact hy.n) (by rw [hX.sc]; exact hy.l) (hy.fx hX)) (pgs_cons (pg_name (X := X) (i := k) (pos := p3) hnd (by rw [hX.N]; exact hz.n) (by rw [hX.sc]; exact hz.l) (hz.fx hX)) pgs_nil)))
      rw [hX.K] at h; exact h, ?_⟩
    cases r with
    | tup s a z =>
      cases a with
      | cons r1 a => cases a with
        | cons r2 a => cases a with
          | cons r3 a => cases a; exact ⟨_, _, rfl, E.ext.le.sqT s, rfl, _, _, rfl, _, _, rfl, _, _, rfl, rfl, q (_, _, _) _ hm (((E.putV r1).putV r2).putV r3) fun vs h => by rw [wipe_set_in (h k (by simp)), wipe_set_in (h j (by simp)), wipe_set_in (h i (by simp))]⟩
theorem wg_tup4 {i j k l : Nat} {x y z w : Str} (hx : SetAt S i x) (hy : SetAt S j y) (hz : SetAt S k z) (hw : SetAt S l w) : WG S (.Tuple [.Name x p1, .Name y p2, .Name z p3, .Name w p4] kk pos) un4 (fun d Γ => (((Γ.set i (some (.val d.1))).set j (some (.val d.2.1))).set k (some (.val d.2.2.1))).set l (some (.val d.2.2.2))) [i, j, k, l] := by
  intro ω G0 H0 Γ σ G H v d P Q E r hm q
  match d, hm with
  | .tuple [a, b, c, d], hm =>
    refine ⟨gTup S.K 4 (gCons (gName i) (gCons (gName j) (gCons (gName k) (gCons (gName l) gNil)))), fun X hX => by
      have hnd : X.N.Nodup := by rw [hX.N]; exact hX.nd
      have h := pg_tup (X := X) (k := kk) (pos := pos) hX.calm (pgs_cons (pg_name (X := X) (i := i) (pos := p1) hnd (by rw [hX.N]; exact hx.n) (by rw [hX.sc]; exact hx.l) (hx.fx hX)) (pgs_cons (pg_name (X := X) (i := j) (pos := p2) hnd (by rw [hX.N]; exact hy.n) (by rw [hX.sc]; exact hy.l) (hy.fx hX)) (pgs_cons (pg_name (X := X) (i := k) (pos := p3) hnd (by rw [hX.N]; exact hz.n) (by rw [hX.sc]; exact hz.l) (hz.fx hX)) (pgs_cons (pg_name (X := X) (i := l) (pos := p4) hnd (by rw [hX.N]; exact hw.n) (by rw [hX.sc]; exact hw.l) (hw.fx hX)) pgs_nil))))
      rw [hX.K] at h; exact h, ?_⟩
    cases r with
    | tup s a z =>
      cases a with
      | cons r1 a => cases a with
        | cons r2 a => cases a with
          | cons r3 a => cases a with
            | cons r4 a => cases a; exact ⟨_, _, rfl, E.ext.le.sqT s, rfl, _, _, rfl, _, _, rfl, _, _, rfl, _, _, rfl, rfl, q (_, _, _, _) _ hm ((((E.putV r1).putV r2).putV r3).putV r4) fun vs h => by rw [wipe_set_in (h l (by simp)), wipe_set_in (h k (by simp)), wipe_set_in (h j (by simp)), wipe_set_in (h i (by simp))]⟩
end
end Wp
namespace Wp
open PySem PySem.Spec PyProof.Rows L2

section
variable {ω : Option Addr} {K : PySem.W.Frag} {G H G' H' : Hp} {d : Addr} {o : HO}
theorem Ext.poke (x : Ext ω K G H G' H') (nD : H d = none) (gD : G' d = none) (hω : some d ≠ ω) : Ext ω K G H G' (upd H' d o) where
  gg := x.gg
  hh := fun a u n e => by rw [upd_ne (ne_of_none e nD)]; exact x.hh a u n e
  le := fun a u e => by
    have ha : a ≠ d := fun z => by
      subst z
      rcases e with e | ⟨q, e⟩ <;> (rw [gD] at e; cases e)
    rcases x.le a u e with r | ⟨q, r⟩
    · exact .inl (by rw [upd_ne ha]; exact r)
    · exact .inr ⟨q, by rw [upd_ne ha]; exact r⟩
  fr := x.fr
  dr := fun b e => by
    obtain ⟨g, vd, ds, at_, h1, h2, h3⟩ := x.dr b e
    have hb : b ≠ d := fun z => hω (by rw [← z, e])
    exact ⟨g, vd, ds, at_, by rw [upd_ne hb]; exact h1, h2, h3⟩
theorem Ext.frz (x : Ext ω K G H G' H') (nD : H d = none) (hD : H' d = some o) (hm : ∀ q u, o ≠ .frz q u) (gD : G' d = none) (hω : some d ≠ ω) : Ext ω K G H (upd G' d o) H' where
  gg := fun a u e => by
    have ha : a ≠ d := fun z => by subst z; have := x.gg a u e; rw [gD] at this; cases this
    rw [upd_ne ha]; exact x.gg a u e
  hh := x.hh
  le := fun a u e => by
    by_cases ha : a = d
    · subst ha
      rcases e with e | ⟨q, e⟩
      · rw [upd_same] at e; cases e; exact .inl hD
      · rw [upd_same] at e; cases e; exact absurd rfl (hm q u)
    · refine x.le a u ?_
      rcases e with e | ⟨q, e⟩
      · rw [upd_ne ha] at e; exact .inl e
      · rw [upd_ne ha] at e; exact .inr ⟨q, e⟩
  fr := fun a u e n => by rw [upd_ne (ne_of_none e nD)]; exact x.fr a u e n
  dr := fun b e => by
    obtain ⟨g, vd, ds, at_, h1, h2, h3⟩ := x.dr b e
    have hb : b ≠ d := fun z => hω (by rw [← z, e])
    refine ⟨by rw [upd_ne hb]; exact g, vd, ds, at_, h1, h2.le (fun c u e => ?_), h3⟩
    rw [upd_ne (ne_of_none e gD)]; exact e
end

/-! ### list comprehensions -/
section
variable {S : Sg} {Γ : En} {e a b c elt tg iter : Expr} {ifs : List Expr} {m ma mb mc : M D} {ms : M (List D)} {pos : Pos} {scope : Scope} {own : List (Str × Nat)} {α : Type} {dec : D → M α} {g : α → En → En} {ts : List Nat} {tc : α → M Bool} {f : α → M D}
def WTs (S : Sg) (Γ : En) (es : List Expr) (m : M Bool) : Prop := ∀ (ω : Option Addr) (G0 H0 : Hp) (σ : L2.St) (G H : Hp) (P : Bool → Prop) (Q : Bool → Hp → Prop), EnvOk ω S.K G0 H0 Γ σ G H → m P →
  (∀ b G' H', P b → Ext ω S.K G H G' H' → Q b H') → RTs S es σ H Q
theorem wts_nil : WTs S Γ [] (M.pure true) := fun ω G0 H0 σ G H P Q E hm q => ⟨_, fun X hX => pts_nil, q _ _ _ hm E.self⟩
theorem wts_one {t : M Bool} (h : WT S Γ a t) : WTs S Γ [a] t := fun ω G0 H0 σ G H P Q E hm q => ⟨_, fun X hX => pts_one (RT.pt hX a), h ω G0 H0 σ G H P Q E hm q⟩
abbrev turnM {α : Type} (dec : D → M α) (tc : α → M Bool) (f : α → M D) : D → M (Option D) := fun x => (dec x).bind fun a => (tc a).bind fun b => bif b then (f a).bind fun y => M.pure (some y) else M.pure none
theorem lc_go {wi : TI} (hg : WG (S.blk scope) tg dec g ts) (hts : ∀ i ∈ ts, i ∈ own.map (·.2)) (ht : ∀ a, WTs (S.blk scope) (g a (wipeE Γ (own.map (·.2)))) ifs (tc a)) (he : ∀ a, WE (S.blk scope) (g a (wipeE Γ (own.map (·.2)))) elt (f a))
    {ω : Option Addr} {G0 H0 : Hp} {σ : L2.St} {G H : Hp} {P : D → Prop} {Q : VK} (E : EnvOk ω S.K G0 H0 Γ σ G H)
    (hi : ∀ (P' : List D → Prop) (R : It → Hp → Prop), ms P' → (∀ ds J G' H', P' ds → Ext ω S.K G H G' H' → ItOk ω S.K (aOf ω true) J ds G' H' → R J H') → wi σ H R) (hm : (ms.bind fun xs => (M.filM (turnM dec tc f) xs).bind fun ys => M.pure (.list ys)) P)
    (q : ∀ d v G' H', P d → Ext ω S.K G H G' H' → Rp S.K G' v d → Q v H') : tLc wi (RG (S.blk scope) tg) (RTs (S.blk scope) ifs) (RE (S.blk scope) elt) (own.map (·.2)) σ H Q := by
  generalize hvs : own.map (·.2) = vs at *
  refine hi _ _ hm fun ds J G1 H1 hP e1 it => ?_
  intro Dd nD
  have hω : some Dd ≠ ω := fun z => by
    obtain ⟨_, _, _, _, h, _⟩ := e1.dr Dd z.symm
    rw [nD] at h; cases h
  refine ⟨fun i m H => m = ds.length - i ∧ i ≤ ds.length ∧ ∃ Gc acc ads, Ext ω S.K G1 H1 Gc H ∧ H Dd = some (.lst acc) ∧ Gc Dd = none ∧ RpA S.K Gc acc ads ∧ ads.length ≤ i ∧ M.filM (turnM dec tc f) (ds.drop i) (fun ys => P (.list (ads ++ ys))),
    ⟨ds.length, by simp, Nat.zero_le _, G1, [], [], e1.self.lay nD, upd_same, e1.le.none nD, .nil, Nat.le_refl _, hP⟩, ?_⟩
  rintro i m H ⟨rfl, hi', Gc, acc, ads, x1, hD, gD, ra, la, wp⟩
  have ge : ∀ a u, aOf ω true a → H1 a = some u → H a = some u := fun a u h => x1.hh a u h.2
  by_cases hlt : i < ds.length
  · refine .inr ⟨it.go i Gc H x1.gg x1.self ge hlt, fun H => ∃ Gc acc ads, Ext ω S.K G1 H1 Gc H ∧ H Dd = some (.lst acc) ∧ Gc Dd = none ∧ RpA S.K Gc acc ads ∧ ads.length ≤ i + 1 ∧ M.filM (turnM dec tc f) (ds.drop (i + 1)) (fun ys => P (.list (ads ++ ys))), fun H' hN => ⟨ds.length - (i + 1), by omega, rfl, hlt, hN⟩, fun v H' y => ?_⟩
    obtain ⟨G2, e2, r2⟩ := it.yld i Gc H v H' hlt x1.gg x1.self ge y
    have E2 : EnvOk ω S.K G0 H0 (wipeE Γ vs) (L2.wipe σ vs) G2 H' := (E.step (e1.trans (x1.trans e2))).wipe vs
    rw [List.drop_eq_getElem_cons hlt] at wp
    refine hg ω G0 H0 (wipeE Γ vs) (L2.wipe σ vs) G2 H' v ds[i] _ _ E2 r2 wp fun a σ2 ha E3 hw => ⟨(hw vs hts).trans wipe_wipe, ?_⟩
    refine ht a ω G0 H0 σ2 G2 H' _ _ E3 ha fun b G4 H4 hb e4 => ?_
    have x4 : Ext ω S.K G1 H1 G4 H4 := (x1.trans e2).trans e4
    have hD4 : H4 Dd = some (.lst acc) := e4.hh _ _ hω (e2.hh _ _ hω hD)
    have gD4 : G4 Dd = none := e4.fr _ _ (e2.hh _ _ hω hD) (e2.fr _ _ hD gD)
    have ra4 : RpA S.K G4 acc ads := (ra.ext e2).ext e4
    cases b with
    | false =>
      rw [if_neg Bool.false_ne_true]
      exact ⟨G4, acc, ads, x4, hD4, gD4, ra4, by omega, hb⟩
    | true =>
      rw [if_pos rfl]
      refine he a ω G0 H0 σ2 G4 H4 _ _ (E3.step e4) hb fun y v5 G5 H5 hy e5 r5 => ?_
      have hD5 := e5.hh _ _ hω hD4
      have gD5 := e5.fr _ _ hD4 gD4
      refine ⟨acc, hD5, ?_, G5, acc ++ [v5], ads ++ [y], (x4.trans e5).poke nD gD5 hω, upd_same, gD5, (ra4.ext e5).append (.cons r5 .nil), by simp; omega, ?_⟩
      · have := ra.length
        have := it.ln
        omega
      · have z : (fun ys => P (.list ((ads ++ [y]) ++ ys))) = fun ys => P (.list (ads ++ y :: ys)) := by funext ys; simp
        rw [z]; exact hy
  · have ei : i = ds.length := by omega
    subst ei
    rw [List.drop_length] at wp
    have wp' : P (.list (ads ++ [])) := wp
    rw [List.append_nil] at wp'
    refine .inl ⟨it.stop Gc H x1.gg x1.self ge, q _ _ (upd Gc Dd (.lst acc)) H wp' (e1.trans (x1.frz nD hD (fun _ _ z => nomatch z) gD hω)) ?_⟩
    refine .lst (.inl upd_same) (RpA.le (fun c u e => ?_) _ ra) (Nat.le_trans la it.ln)
    rw [upd_ne (ne_of_none e gD)]; exact e
theorem filM_some {f : D → M D} : ∀ xs : List D, M.filM (fun x => (f x).bind fun y => M.pure (some y)) xs = M.mapM f xs
  | [] => rfl
  | x :: xs => by
    show (M.bind ((f x).bind fun y => M.pure (some y)) fun o => M.bind (M.filM _ xs) fun ys => M.pure (match o with | some y => y :: ys | none => ys)) = M.bind (f x) fun y => M.bind (M.mapM f xs) fun ys => M.pure (y :: ys)
    rw [filM_some xs]
    rfl
/-- [elt for tg in iter if c] -/
theorem we_lcif (hi : WI S Γ true tg iter ms) (ok : blkC S.N S.sc scope own = true) (hg : WG (S.blk scope) tg dec g ts) (hts : ∀ i ∈ ts, i ∈ own.map (·.2)) (ht : ∀ a, WT (S.blk scope) (g a (wipeE Γ (own.map (·.2)))) c (tc a)) (he : ∀ a, WE (S.blk scope) (g a (wipeE Γ (own.map (·.2)))) elt (f a))
    (hs : ∀ env x, foldedSetIterable iter env x = pure x := by intro _ _; rfl) :
    WE S Γ (.ListComp elt [⟨tg, iter, [c], 0⟩] scope pos) (ms.bind fun xs => (M.filM (fun x => (dec x).bind fun a => (tc a).bind fun b => bif b then (f a).bind fun y => M.pure (some y) else M.pure none) xs).bind fun ys => M.pure (.list ys)) := by
  intro ω G0 H0 σ G H P Q E hm q
  exact ⟨_, fun X hX => pe_lc hX.calm (by rw [hX.N]; exact hX.nd) (RI.pi hX tg iter) (blkOk_by (own := own) (by rw [hX.N, hX.sc]; exact ok)) (fun s H C cl fp => RG.pg (hX.blk s H scope C cl fp) tg) (fun s H C cl fp => RTs.pts (hX.blk s H scope C cl fp) [c]) (fun s H C cl fp => RE.pe (hX.blk s H scope C cl fp) elt) (hs _),
    lc_go hg hts (fun a => wts_one (ht a)) he E (fun P' R h1 h2 => hi ω G0 H0 σ G H P' R E h1 h2) hm q⟩
theorem mapM_eq {α : Type} {dec : D → M α} {f : α → M D} (xs : List D) : M.filM (turnM dec (fun _ => M.pure true) f) xs = M.mapM (fun x => (dec x).bind fun a => f a) xs := by
  rw [← filM_some]
  rfl
/-- [elt for tg in iter] -/
theorem we_lc (hi : WI S Γ true tg iter ms) (ok : blkC S.N S.sc scope own = true) (hg : WG (S.blk scope) tg dec g ts) (hts : ∀ i ∈ ts, i ∈ own.map (·.2)) (he : ∀ a, WE (S.blk scope) (g a (wipeE Γ (own.map (·.2)))) elt (f a))
    (hs : ∀ env x, foldedSetIterable iter env x = pure x := by intro _ _; rfl) :
    WE S Γ (.ListComp elt [⟨tg, iter, [], 0⟩] scope pos) (ms.bind fun xs => (M.mapM (fun x => (dec x).bind fun a => f a) xs).bind fun ys => M.pure (.list ys)) := by
  intro ω G0 H0 σ G H P Q E hm q
  refine ⟨_, fun X hX => pe_lc hX.calm (by rw [hX.N]; exact hX.nd) (RI.pi hX tg iter) (blkOk_by (own := own) (by rw [hX.N, hX.sc]; exact ok)) (fun s H C cl fp => RG.pg (hX.blk s H scope C cl fp) tg) (fun s H C cl fp => RTs.pts (hX.blk s H scope C cl fp) []) (fun s H C cl fp => RE.pe (hX.blk s H scope C cl fp) elt) (hs _),
    lc_go hg hts (tc := fun _ => M.pure true) (fun a => wts_nil) he E (fun P' R h1 h2 => hi ω G0 H0 σ G H P' R E h1 h2) ?_ q⟩
  have z : (fun xs => (M.filM (turnM dec (fun _ => M.pure true) f) xs).bind fun ys => M.pure (PyData.list ys)) = fun xs => (M.mapM (fun x => (dec x).bind fun a => f a) xs).bind fun ys => M.pure (PyData.list ys) := by
    funext xs; rw [mapM_eq]
  rw [z]; exact hm
/-- y = [..] on one line, y a plain local -/
structure SwapAt (S : Sg) (y : Str) (scope : Scope) : Prop where
  k : S.sc.kind = .function
  l : S.sc.names.lookup y = some .local
  s : (scope.names.any fun (n, k) => n == y && (k == .local || k == .cell)) = false
theorem w_setLc {ρ : Type} {ι : ρ → Out} {k : D → M ρ} {i : Nat} {y : Str} {rest : List Stmt} {py spos : Pos} (hy : SetAt S i y) (sw : SwapAt S y scope) (hi : WI S Γ true tg iter ms) (ok : blkC S.N S.sc scope own = true) (hg : WG (S.blk scope) tg dec g ts) (hts : ∀ i ∈ ts, i ∈ own.map (·.2)) (he : ∀ a, WE (S.blk scope) (g a (wipeE Γ (own.map (·.2)))) elt (f a))
    (hk : ∀ d, W S (Γ.set i (some (.val d))) rest (k d) ι) (hs : ∀ env x, foldedSetIterable iter env x = pure x := by intro _ _; rfl) (hl : (py.line == pos.line) = true := by rfl) :
    W S Γ (.Assign [.Name y py] (.ListComp elt [⟨tg, iter, [], 0⟩] scope pos) spos :: rest) ((ms.bind fun xs => (M.mapM (fun x => (dec x).bind fun a => f a) xs).bind fun ys => M.pure (.list ys)).bind k) ι := by
  intro ω G0 H0 σ G H P Dn E hm q
  refine rs_cons (fun X hX => ps_setLc (i := i) hX.calm (by rw [hX.N]; exact hX.nd) (by rw [hX.N]; exact hy.n) (by rw [hX.sc]; exact sw.l) (sw_true (by rw [hX.sc]; exact sw.k) (by rw [hX.sc]; exact sw.l) hl sw.s) (RI.pi hX tg iter) (blkOk_by (own := own) (by rw [hX.N, hX.sc]; exact ok)) (fun s H C cl fp => RG.pg (hX.blk s H scope C cl fp) tg) (fun s H C cl fp => RTs.pts (hX.blk s H scope C cl fp) []) (fun s H C cl fp => RE.pe (hX.blk s H scope C cl fp) elt) (hs _)) ?_
  refine lc_go hg hts (tc := fun _ => M.pure true) (P := fun d => k d P) (fun a => wts_nil) he E (fun P' R h1 h2 => hi ω G0 H0 σ G H P' R E h1 h2) ?_ fun d v G1 H1 hP e1 r1 => hk d ω G0 H0 _ G1 H1 P Dn ((E.step e1).putV r1) hP q
  have z : (fun xs => (M.filM (turnM dec (fun _ => M.pure true) f) xs).bind fun ys => M.pure (PyData.list ys)) = fun xs => (M.mapM (fun x => (dec x).bind fun a => f a) xs).bind fun ys => M.pure (PyData.list ys) := by
    funext xs; rw [mapM_eq]
  rw [z]; exact hm
theorem w_setLcif {ρ : Type} {ι : ρ → Out} {k : D → M ρ} {i : Nat} {y : Str} {rest : List Stmt} {py spos : Pos} (hy : SetAt S i y) (sw : SwapAt S y scope) (hi : WI S Γ true tg iter ms) (ok : blkC S.N S.sc scope own = true) (hg : WG (S.blk scope) tg dec g ts) (hts : ∀ i ∈ ts, i ∈ own.map (·.2)) (ht : ∀ a, WT (S.blk scope) (g a (wipeE Γ (own.map (·.2)))) c (tc a)) (he : ∀ a, WE (S.blk scope) (g a (wipeE Γ (own.map (·.2)))) elt (f a))
    (hk : ∀ d, W S (Γ.set i (some (.val d))) rest (k d) ι) (hs : ∀ env x, foldedSetIterable iter env x = pure x := by intro _ _; rfl) (hl : (py.line == pos.line) = true := by rfl) :
    W S Γ (.Assign [.Name y py] (.ListComp elt [⟨tg, iter, [c], 0⟩] scope pos) spos :: rest) ((ms.bind fun xs => (M.filM (fun x => (dec x).bind fun a => (tc a).bind fun b => bif b then (f a).bind fun y => M.pure (some y) else M.pure none) xs).bind fun ys => M.pure (.list ys)).bind k) ι := by
  intro ω G0 H0 σ G H P Dn E hm q
  refine rs_cons (fun X hX => ps_setLc (i := i) hX.calm (by rw [hX.N]; exact hX.nd) (by rw [hX.N]; exact hy.n) (by rw [hX.sc]; exact sw.l) (sw_true (by rw [hX.sc]; exact sw.k) (by rw [hX.sc]; exact sw.l) hl sw.s) (RI.pi hX tg iter) (blkOk_by (own := own) (by rw [hX.N, hX.sc]; exact ok)) (fun s H C cl fp => RG.pg (hX.blk s H scope C cl fp) tg) (fun s H C cl fp => RTs.pts (hX.blk s H scope C cl fp) [c]) (fun s H C cl fp => RE.pe (hX.blk s H scope C cl fp) elt) (hs _)) ?_
  exact lc_go hg hts (P := fun d => k d P) (fun a => wts_one (ht a)) he E (fun P' R h1 h2 => hi ω G0 H0 σ G H P' R E h1 h2) hm fun d v G1 H1 hP e1 r1 => hk d ω G0 H0 _ G1 H1 P Dn ((E.step e1).putV r1) hP q
end

/-! ### for -/
section
variable {S : Sg} {Γ : En} {e a b c tg iter : Expr} {m ma mb mc : M D} {ms : M (List D)} {pos : Pos} {α σt ρ : Type} {dec : D → M α} {g : α → En → En} {ts : List Nat} {body rest : List Stmt} {ι : ρ → Out}
def flO {σt : Type} (gs : σt → En) : Fl σt σt → Out
  | .nx s => .nx (gs s)
  | .rt d => .rt d
  | .bk s => .bk (gs s)
  | .ct s => .ct (gs s)
def Fl.go {σt ρ : Type} (k : σt → M ρ) (kr : D → M ρ) : Fl σt Empty → M ρ
  | .nx s => k s
  | .rt d => kr d
  | .bk e => nomatch e
  | .ct e => nomatch e
theorem maskE_length : ∀ (ks : List Bool) (Γ : En), ks.length = Γ.length → (maskE ks Γ).length = Γ.length
  | [], Γ, h => by cases Γ <;> simp_all [maskE]
  | k :: ks, [], h => by simp at h
  | k :: ks, c :: Γ, h => by
    show (maskE ks Γ).length + 1 = Γ.length + 1
    rw [maskE_length ks Γ (by simpa using h)]
theorem EnvOk.mask {ω : Option Addr} {K : PySem.W.Frag} {G0 H0 G H : Hp} {Γ : En} {σ : L2.St} (E : EnvOk ω K G0 H0 Γ σ G H) (ks : List Bool) (hl : ks.length = Γ.length) : EnvOk ω K G0 H0 (maskE ks Γ) σ G H := E.weak (maskE_length ks Γ hl) fun i c h => maskE_get h
theorem EnvOk.rebase {ω : Option Addr} {K : PySem.W.Frag} {G0 H0 G H : Hp} {Γ : En} {σ : L2.St} (E : EnvOk ω K G0 H0 Γ σ G H) : EnvOk ω K G H0 Γ σ G H := ⟨⟨Same.refl _, E.ext.hh, E.ext.le, fun _ _ _ h => h, E.ext.dr⟩, E.ln, E.sl, E.ds⟩
theorem Ext.unbase {ω : Option Addr} {K : PySem.W.Frag} {G0 H0 G1 H1 G H : Hp} (a : Ext ω K G0 H0 G1 H1) (x : Ext ω K G1 H0 G H) : Ext ω K G0 H0 G H := ⟨a.gg.trans x.gg, x.hh, x.le, fun b u e n => x.fr b u e (a.fr b u e n), x.dr⟩
theorem EnvOk.unbase {ω : Option Addr} {K : PySem.W.Frag} {G0 H0 G1 H1 G H : Hp} {Γ : En} {σ : L2.St} (a : Ext ω K G0 H0 G1 H1) (E : EnvOk ω K G1 H0 Γ σ G H) : EnvOk ω K G0 H0 Γ σ G H := ⟨a.unbase E.ext, E.ln, E.sl, E.ds⟩
/-- how a return out of a loop goes on -/
def RtOk (ι : ρ → Out) (kr : D → M ρ) : Prop := ∀ d P, kr d P → ∃ r, P r ∧ ι r = .rt d
theorem rt_ok {f : D → ρ} (h : ∀ d, ι (f d) = .rt d := by intro _; rfl) : RtOk ι (fun d => M.pure (f d)) := fun d P hp => ⟨f d, hp, h d⟩
theorem rt_none : RtOk ι (fun _ => M.fail) := fun d P hp => hp.elim
/-- the loop, behind what it walks -/
theorem for_core {fb : σt → α → M (Fl σt σt)} {k : σt → M ρ} {kr : D → M ρ} (gs : σt → En) {s0 : σt} (hg : WG S tg dec g ts) (hb : ∀ s a, W S (g a (gs s)) body (fb s a) (flO gs)) {A : Addr → Prop} {J : It} {ds : List D} {ω : Option Addr} {G1 H1 H0b : Hp} {σ : L2.St} {P : ρ → Prop} {Dn : Ends}
    (it : ItOk ω S.K A J ds G1 H1) (E1 : EnvOk ω S.K G1 H0b (gs s0) σ G1 H1) (per : ∀ (Γ' : En) σ' Gc Hc, EnvOk ω S.K G1 H0b Γ' σ' Gc Hc → ∀ b u, A b → H1 b = some u → Hc b = some u)
    (hP : (M.foldF (fun s x => (dec x).bind fun a => fb s a) s0 ds) (fun r => Fl.go k kr r P))
    (hnx : ∀ s σ' G' H', EnvOk ω S.K G1 H0b (gs s) σ' G' H' → k s P → Dn.nx σ' H') (hrt : ∀ d v G' H', kr d P → Ext ω S.K G1 H0b G' H' → Rp S.K G' v d → Dn.rt v H') :
    ∃ W : Nat → Nat → L2.St → Hp → Prop, (∃ m, W 0 m σ H1) ∧ ∀ i m σ H, W i m σ H →
      (J.stop i H ∧ Dn.nx σ H) ∨ (J.go i H ∧ ∃ N : L2.St → Hp → Prop, (∀ σ' H', N σ' H' → ∃ m', m' < m ∧ W (i + 1) m' σ' H') ∧ ∀ x H', J.yld i H x H' → RG S tg x σ H' fun σ2 H2 => RS S body { Dn with nx := N, ct := N, bk := Dn.nx } σ2 H2) := by
  refine ⟨fun i m σ H => m = ds.length - i ∧ i ≤ ds.length ∧ ∃ s G, EnvOk ω S.K G1 H0b (gs s) σ G H ∧ M.foldF (fun s x => (dec x).bind fun a => fb s a) s (ds.drop i) (fun r => Fl.go k kr r P), ⟨ds.length, by simp, Nat.zero_le _, s0, G1, E1, hP⟩, ?_⟩
  rintro i m σ H ⟨rfl, hi', s, Gc, Ec, wp⟩
  by_cases hlt : i < ds.length
  · refine .inr ⟨it.go i Gc H Ec.ext.gg Ec.self (per _ _ _ _ Ec) hlt, fun σ H => ∃ s G, EnvOk ω S.K G1 H0b (gs s) σ G H ∧ M.foldF (fun s x => (dec x).bind fun a => fb s a) s (ds.drop (i + 1)) (fun r => Fl.go k kr r P), fun σ' H' hN => ⟨ds.length - (i + 1), by omega, rfl, hlt, hN⟩, fun v H' y => ?_⟩
    obtain ⟨G2, e2, r2⟩ := it.yld i Gc H v H' hlt Ec.ext.gg Ec.self (per _ _ _ _ Ec) y
    rw [List.drop_eq_getElem_cons hlt] at wp
    refine hg ω G1 H0b (gs s) σ G2 H' v ds[i] _ _ (Ec.step e2) r2 wp fun a σ2 ha E3 _ => ?_
    refine hb s a ω G1 H0b σ2 G2 H' _ _ E3 ha fun r hr' => ?_
    cases r with
    | nx s' => exact fun σ' G' H' E' => ⟨s', G', E', hr'⟩
    | ct s' => exact fun σ' G' H' E' => ⟨s', G', E', hr'⟩
    | bk s' => exact fun σ' G' H' E' => hnx s' σ' G' H' E' hr'
    | rt d => exact fun v' G' H' e' r' => hrt d v' G' H' hr' e' r'
  · have ei : i = ds.length := by omega
    subst ei
    rw [List.drop_length] at wp
    exact .inl ⟨it.stop Gc H Ec.ext.gg Ec.self (per _ _ _ _ Ec), hnx s σ Gc H Ec wp⟩
theorem w_forF {fb : σt → α → M (Fl σt σt)} {k : σt → M ρ} {kr : D → M ρ} (gs : σt → En) (s0 : σt) (ks : List Bool) (hi : WI S Γ false tg iter ms) (hg : WG S tg dec g ts) (h0 : gs s0 = maskE ks Γ) (hl : ks.length = Γ.length) (hb : ∀ s a, W S (g a (gs s)) body (fb s a) (flO gs)) (hr : ∀ s, W S (gs s) rest (k s) ι)
    (hf : RtOk ι kr) (hs : ∀ env x, foldedSetIterable iter env x = pure x := by intro _ _; rfl) :
    W S Γ (.For tg iter body [] pos :: rest) (ms.bind fun xs => (M.foldF (fun s x => (dec x).bind fun a => fb s a) s0 xs).bind (Fl.go k kr)) ι := by
  intro ω G0 H0 σ G H P Dn E hm q
  refine rs_cons (fun X hX => ps_for (by rw [hX.xe]; exact PassesOwn.never) hX.calm (RI.pi hX tg iter) (RG.pg hX tg) (RS.ps hX body) (hs _)) ?_
  refine hi ω G0 H0 σ G H _ _ E hm fun ds J G1 H1 hP e1 it => ?_
  have E1 := E.step e1
  have x1 := E1.ext
  refine for_core gs (s0 := s0) hg hb (Dn := { Dn with nx := RS S rest Dn }) it (by rw [h0]; exact E1.rebase.mask ks hl) (fun Γ' σ' Gc Hc _ b u hA => absurd hA.1 Bool.false_ne_true) hP (fun s σ' G' H' E' hk => hr s ω G0 H0 σ' G' H' P Dn (E'.unbase x1) hk q) fun d v G' H' hk e' r' => ?_
  obtain ⟨r, h1, h2⟩ := hf d P hk
  have z := q r h1
  rw [h2] at z
  exact z v G' H' (x1.unbase e') r'
theorem foldF_nx {α σt ρ : Type} {f : σt → α → M σt} {k : σt → M ρ} {kr : D → M ρ} : ∀ (xs : List α) (s : σt), (M.foldF (fun s x => (f s x).bind fun s' => M.pure (.nx s')) s xs).bind (Fl.go k kr) = (M.fold f s xs).bind k
  | [], s => rfl
  | x :: xs, s => by
    funext P
    show (f s x) (fun s' => M.foldF (fun s x => (f s x).bind fun s' => M.pure (.nx s')) s' xs (fun r => Fl.go k kr r P)) = (f s x) (fun s' => M.fold f s' xs (fun s => k s P))
    have : (fun s' => M.foldF (fun s x => (f s x).bind fun s' => M.pure (.nx s')) s' xs (fun r => Fl.go k kr r P)) = fun s' => M.fold f s' xs (fun s => k s P) := by
      funext s'
      exact congrFun (foldF_nx xs s') P
    rw [this]
/-- a for whose turns all go to their ends -/
theorem w_for {fb : σt → α → M σt} {k : σt → M ρ} (gs : σt → En) (s0 : σt) (ks : List Bool) (hi : WI S Γ false tg iter ms) (hg : WG S tg dec g ts) (h0 : gs s0 = maskE ks Γ) (hl : ks.length = Γ.length) (hb : ∀ s a, W S (g a (gs s)) body (fb s a) (fun s' => .nx (gs s'))) (hr : ∀ s, W S (gs s) rest (k s) ι)
    (hs : ∀ env x, foldedSetIterable iter env x = pure x := by intro _ _; rfl) :
    W S Γ (.For tg iter body [] pos :: rest) (ms.bind fun xs => (M.fold (fun s x => (dec x).bind fun a => fb s a) s0 xs).bind k) ι := by
  have h := w_forF (ι := ι) (pos := pos) (fb := fun s a => (fb s a).bind fun s' => M.pure (.nx s')) (k := k) (kr := fun _ => M.fail) gs s0 ks hi hg h0 hl (fun s a => w_map (hb s a)) hr rt_none hs
  have z : (ms.bind fun xs => (M.fold (fun s x => (dec x).bind fun a => fb s a) s0 xs).bind k) = ms.bind fun xs => (M.foldF (fun s x => (dec x).bind fun a => (fb s a).bind fun s' => M.pure (.nx s')) s0 xs).bind (Fl.go k fun _ => M.fail) := by
    have : (fun xs => (M.fold (fun s x => (dec x).bind fun a => fb s a) s0 xs).bind k) = fun xs => (M.foldF (fun s x => (dec x).bind fun a => (fb s a).bind fun s' => M.pure (.nx s')) s0 xs).bind (Fl.go k fun _ => M.fail) := by
      funext xs
      exact (foldF_nx (f := fun s x => (dec x).bind fun a => fb s a) xs s0).symm
    rw [this]
  rw [z]
  exact h

/-! ### while -/
theorem w_while {tc : σt → M Bool} {fb : σt → M σt} {k : σt → M ρ} (gs : σt → En) (s0 : σt) (ks : List Bool) (h0 : gs s0 = maskE ks Γ) (hl : ks.length = Γ.length) (hc : ∀ s, WT S (gs s) c (tc s)) (hb : ∀ s, W S (gs s) body (fb s) (fun s' => .nx (gs s'))) (hr : ∀ s, W S (gs s) rest (k s) ι) :
    W S Γ (.While c body [] pos :: rest) ((M.while_ tc fb s0).bind k) ι := by
  intro ω G0 H0 σ G H P Dn E hm q
  refine rs_cons (fun X hX => ps_while (by rw [hX.xe]; exact PassesOwn.never) (RT.pt hX c) (RS.ps hX body)) ?_
  obtain ⟨n, hn⟩ := hm
  refine ⟨fun n σ H => ∃ s G, EnvOk ω S.K G0 H0 (gs s) σ G H ∧ M.iter tc fb n s (fun r => k r P), ⟨n, s0, G, by rw [h0]; exact E.mask ks hl, hn⟩, ?_⟩
  rintro m σ H ⟨s, Gc, Ec, wp⟩
  cases m with
  | zero => exact False.elim wp
  | succ m =>
    refine hc s ω G0 H0 σ Gc H _ _ Ec wp fun b G1 H1 hb1 e1 => ?_
    cases b with
    | true =>
      rw [if_pos rfl]
      refine ⟨fun σ H => ∃ s G, EnvOk ω S.K G0 H0 (gs s) σ G H ∧ M.iter tc fb m s (fun r => k r P), fun σ' H' hN => ⟨m, Nat.lt_succ_self m, hN⟩, ?_⟩
      exact hb s ω G0 H0 σ G1 H1 _ _ (Ec.step e1) hb1 fun r hr' σ' G' H' E' => ⟨r, G', E', hr'⟩
    | false =>
      rw [if_neg Bool.false_ne_true]
      exact hr s ω G0 H0 σ G1 H1 P Dn (Ec.step e1) hb1 q
end
end Wp
namespace Wp
open PySem PySem.Spec PyProof.Rows L2

section
variable {S : Sg}
/-! ### ints -/
def addD : D → D → M D
  | .int i, .int j => M.pure (.int (i + j))
  | .str x, .str y => M.need (x.length + y.length ≤ 16777216) (M.pure (.str (x ++ y)))
  | .list xs, .list ys => M.need (xs.length + ys.length ≤ 16777216) (M.pure (.list (xs ++ ys)))
  | .tuple xs, .tuple ys => M.need (xs.length + ys.length ≤ 16777216) (M.pure (.tuple (xs ++ ys)))
  | _, _ => M.fail
def subD : D → D → M D
  | .int i, .int j => M.pure (.int (i - j))
  | _, _ => M.fail
/-- a number that is not too great -/
def small (i : Int) : Prop := -1606938044258990275541962092341162602522202993782792835301376 < i ∧ i < 1606938044258990275541962092341162602522202993782792835301376
theorem small_pow {i : Int} (h : small i) : i.natAbs < 2 ^ 200 := by
  have e : (2 : Nat) ^ 200 = 1606938044258990275541962092341162602522202993782792835301376 := by decide
  rw [e]
  unfold small at h
  omega
def mulD : D → D → M D
  | .int i, .int j => M.need (small i ∧ small j) (M.pure (.int (i * j)))
  | .list xs, .int k => M.need (-1000000 ≤ k ∧ k ≤ 1000000 ∧ xs.length * k.toNat ≤ 16777216) (M.pure (.list (List.replicate k.toNat xs).flatten))
  | _, _ => M.fail
def fdivD : D → D → M D
  | .int i, .int j => M.need ((0 < j ∧ small j) ∨ (j < 0 ∧ -1073741824 < j)) (M.pure (.int (i.fdiv j)))
  | _, _ => M.fail
def modD : D → D → M D
  | .int i, .int j => M.need (j ≠ 0) (M.pure (.int (i.fmod j)))
  | _, _ => M.fail
def powD : D → D → M D
  | .int i, .int j => M.need (0 ≤ j ∧ j ≤ 1000 ∧ i.natAbs < 2 ^ 64) (M.pure (.int (i ^ j.toNat)))
  | _, _ => M.fail
def negD : D → M D
  | .int i => M.pure (.int (-i))
  | _ => M.fail
theorem RpA.nil_iff {K : PySem.W.Frag} {G : Hp} {xs : List V} {ds : List D} (r : RpA K G xs ds) : xs = [] ↔ ds = [] := by
  cases r <;> simp
theorem rd_list {X : Cx} {pins : List (Addr × Obj)} {σ : L2.St} {H : Hp} {s : Shared} {l : Addr} {xs : List V} (I : L2.Inv X pins σ H s) (h : Rd H l (.lst xs)) : xs.length ≤ sizeLine ∧ ∃ (its : List Value) (n : Nat), Vals xs its ∧ s.heap.get? l = some { cls := .type "list", data := .seq its.toArray n } := h.ok I.hok
theorem op_catL {X : Cx} : OpR X (binaryOp .Add) (fun x y H Q => ∃ l b xs zs, x = .ref l ∧ y = .ref b ∧ Rd H l (.lst xs) ∧ Rd H b (.lst zs) ∧ xs.length + zs.length ≤ sizeLine ∧ ∀ p, H p = none → Q (.ref p) (upd H p (.lst (xs ++ zs)))) := by
  intro pins s σ H x y v u Q I rx ry h
  obtain ⟨l, b, xs, zs, rfl, rfl, hH, hB, hz, q⟩ := h
  cases rx
  cases ry
  obtain ⟨z, its, n, r, e⟩ := rd_list I hH
  obtain ⟨z2, its2, n2, r2, e2⟩ := rd_list I hB
  have hl := r.length
  have hl2 := r2.length
  refine PySem.P.add_list e e2 ?_ (by rw [List.size_toArray, List.size_toArray]; omega)
  have ea : its.toArray ++ its2.toArray = (its ++ its2).toArray := by simp
  rw [ea]
  exact ⟨.ref _, _, I.lnew (t' := s.toks) (r.append r2) (by rw [List.length_append]; omega), rfl, q _ I.fresh⟩
/-- a list times an int -/
theorem op_repL {X : Cx} : OpR X (binaryOp .Mult) (fun x y H Q => ∃ l k xs, x = .ref l ∧ y = .int k ∧ Rd H l (.lst xs) ∧ -(2 ^ 63) ≤ k ∧ k < 2 ^ 63 ∧ xs.length * k.toNat ≤ sizeLine ∧
    ∀ p, H p = none → Q (.ref p) (upd H p (.lst (List.replicate k.toNat xs).flatten))) := by
  intro pins s σ H x y v u Q I rx ry h
  obtain ⟨l, k, xs, rfl, rfl, hH, h1, h2, hz, q⟩ := h
  rcases hH with hH | ⟨o, hH⟩
  · exact op_rep pins s σ H _ _ v u Q I rx ry ⟨l, k, xs, rfl, rfl, hH, h1, h2, hz, q⟩
  · cases rx
    obtain ⟨t, rfl⟩ := ry
    obtain ⟨z, its, n, r, e⟩ := rd_list I (.inr ⟨o, hH⟩)
    have hl := r.length
    have hlen : its.toArray.size * k.toNat ≤ sizeLine := by rw [List.size_toArray, ← hl]; exact hz
    have hcap : ¬ its.toArray.size * k.toNat > (2 ^ 63 - 1) / 8 := by
      have : (sizeLine : Nat) ≤ (2 ^ 63 - 1) / 8 := by decide
      omega
    have hfit : ¬ (!Builtin.List.listFitsIndex k) = true := by
      rw [fitsIndex_both h1 h2]
      exact Bool.false_ne_true
    have hlong : ¬ Builtin.List.listTooLong (its.toArray.size * k.toNat) = true := by
      rw [notLongL hlen]
      exact Bool.false_ne_true
    have hnew : List.foldl (fun x1 x2 => x1 ++ x2) #[] (List.replicate (if its.toArray.isEmpty = true then 0 else k.toNat) its.toArray) = (List.replicate k.toNat its).flatten.toArray := by
      have f0 : ∀ m : Nat, List.foldl (fun x1 x2 => x1 ++ x2) #[] (List.replicate m its.toArray) = (List.replicate m its).flatten.toArray := fun m => by
        have := foldl_rep its m []
        rw [List.nil_append] at this
        exact this
      rw [f0]
      cases its with
      | nil => simp
      | cons a r' => rw [if_neg (by simp)]
    refine wpAny_binaryOp_repeat_ref (T := "list") (U := "int") (by decide) ⟨_, e, rfl⟩ (fun s' => typeIs_int s' k t) noFill_list_mul PySem.F.fills_int_mul PySem.F.slot_int_rmul repeat_list PySem.F.slot_int_index.lookup
      (call_meets PySem.F.slot_int_rmul (typeIs_int s k t) PySem.F.entry_int_rmul (PySem.F.args_int_rmul_2 _ _) (int___rmul___int_list k t l its.toArray n)
        ⟨e, rfl, ⟨_, e, rfl⟩, call_meets PySem.F.slot_list_mul ⟨_, e, rfl⟩ PySem.F.entry_list_mul (PySem.F.args_list_mul_2 _ _) (AutoListH.list___mul___list_int_3 l its.toArray n k t hfit hcap hlong) ⟨e, ?_⟩⟩)
    rw [hnew]
    exact ⟨.ref _, _, I.lnew (t' := s.toks) (r.rep k.toNat) (by rw [PyProof.Rows.lm_len_rep_flat, Nat.mul_comm]; exact hz), rfl, q _ I.fresh⟩
theorem RpA.rep {K : PySem.W.Frag} {G : Hp} {xs : List V} {ds : List D} (r : RpA K G xs ds) : ∀ k : Nat, RpA K G (List.replicate k xs).flatten (List.replicate k ds).flatten
  | 0 => .nil
  | k + 1 => by
    rw [List.replicate_succ, List.replicate_succ, List.flatten_cons, List.flatten_cons]
    exact r.append (r.rep k)
theorem line_le {n : Nat} (h : n ≤ 16777216) : n ≤ sizeLine := by rw [sizeLine_eq]; exact h
theorem new_lst {ω : Option Addr} {K : PySem.W.Frag} {G H : Hp} {p : Addr} {xs : List V} {ds : List D} (e : Ext ω K G H G H) (np : H p = none) (r : RpA K G xs ds) (z : ds.length ≤ sizeLine) : Ext ω K G H (upd G p (.lst xs)) (upd H p (.lst xs)) ∧ Rp K (upd G p (.lst xs)) (.ref p) (.list ds) :=
  ⟨e.new np, .lst (.inl upd_same) (r.ext (e.new (o := .lst xs) np)) z⟩
theorem new_tup {ω : Option Addr} {K : PySem.W.Frag} {G H : Hp} {p : Addr} {xs : List V} {ds : List D} (e : Ext ω K G H G H) (np : H p = none) (r : RpA K G xs ds) (z : ds.length ≤ sizeLine) : Ext ω K G H (upd G p (.tup xs)) (upd H p (.tup xs)) ∧ Rp K (upd G p (.tup xs)) (.ref p) (.tuple ds) :=
  ⟨e.new np, .tup (.inl (.inl upd_same)) (r.ext (e.new (o := .tup xs) np)) z⟩
theorem rb_tup {ω : Option Addr} {K : PySem.W.Frag} {G H : Hp} {v : V} {ds : List D} (h : Rb ω K G H v (.tuple ds)) : Rp K G v (.tuple ds) := by
  rcases h with h | ⟨o, u, h1, h2, h3, h4⟩
  · exact h
  · cases h4
theorem add_ok : OpOk S (binaryOp .Add) addD := by
  intro ω G H x y v u P Q e rx ry hf q
  cases x with
  | int i => cases y with
    | int j => cases rx.int; cases ry.int; exact ⟨_, fun X hX => op_add, i, j, rfl, rfl, q _ _ _ _ hf e (.int _)⟩
    | _ => exact hf.elim
  | str i => cases y with
    | str j => cases rx.str; cases ry.str; exact ⟨_, fun X hX => op_add_str, i, j, rfl, rfl, line_le hf.1, q _ _ _ _ hf.2 e (.str _)⟩
    | _ => exact hf.elim
  | list xs => cases y with
    | list ys =>
      obtain ⟨a, as, rfl, s1, r1, _⟩ := rx.list e.le
      obtain ⟨b, bs, rfl, s2, r2, _⟩ := ry.list e.le
      have h1 := r1.length
      have h2 := r2.length
      have z := line_le hf.1
      refine ⟨_, fun X hX => op_catL, a, b, as, bs, rfl, rfl, s1, s2, by omega, fun p np => ?_⟩
      obtain ⟨e2, r⟩ := new_lst e np (r1.append r2) (by rw [List.length_append]; exact z)
      exact q _ _ _ _ hf.2 e2 r
    | _ => exact hf.elim
  | tuple xs => cases y with
    | tuple ys =>
      obtain ⟨a, as, rfl, s1, r1, _⟩ := rx.tup e.le
      obtain ⟨b, bs, rfl, s2, r2, _⟩ := ry.tup e.le
      have h1 := r1.length
      have h2 := r2.length
      have z := line_le hf.1
      refine ⟨rCatA S.K, fun X hX => hX.K ▸ op_catA, a, b, as, bs, rfl, rfl, s1, s2, by omega, fun h => ?_, fun h h' => ?_, fun _ _ p np => ?_⟩
      · have h' := r1.nil_iff.mp h
        subst h'
        exact q _ _ _ _ hf.2 e (rb_tup ry)
      · have h' := r2.nil_iff.mp h'
        subst h'
        have hf2 := hf.2
        rw [List.append_nil] at hf2
        exact q _ _ _ _ hf2 e (rb_tup rx)
      · obtain ⟨e2, r⟩ := new_tup e np (r1.append r2) (by rw [List.length_append]; exact z)
        exact q _ _ _ _ hf.2 e2 r
    | _ => exact hf.elim
  | _ => exact hf.elim
theorem sub_ok : OpOk S (binaryOp .Sub) subD := by
  intro ω G H x y v u P Q e rx ry hf q
  cases x with
  | int i => cases y with
    | int j => cases rx.int; cases ry.int; exact ⟨_, fun X hX => op_sub, i, j, rfl, rfl, q _ _ _ _ hf e (.int _)⟩
    | _ => exact hf.elim
  | _ => exact hf.elim
theorem mul_ok : OpOk S (binaryOp .Mult) mulD := by
  intro ω G H x y v u P Q e rx ry hf q
  cases x with
  | int i => cases y with
    | int j => cases rx.int; cases ry.int; exact ⟨_, fun X hX => op_mulW, i, j, rfl, rfl, wide_mul (small_pow hf.1.1) (small_pow hf.1.2) (by decide) (by decide) (by decide), q _ _ _ _ hf.2 e (.int _)⟩
    | _ => exact hf.elim
  | list xs => cases y with
    | int k =>
      cases ry.int
      obtain ⟨a, as, rfl, s1, r1, _⟩ := rx.list e.le
      obtain ⟨⟨h1, h2, h3⟩, hf⟩ := hf
      have hl := r1.length
      have z := line_le h3
      refine ⟨_, fun X hX => op_repL, a, k, as, rfl, rfl, s1, by omega, by omega, by rw [hl]; exact z, fun p np => ?_⟩
      obtain ⟨e2, r⟩ := new_lst e np (r1.rep k.toNat) (by rw [PyProof.Rows.lm_len_rep_flat, Nat.mul_comm]; exact z)
      exact q _ _ _ _ hf e2 r
    | _ => exact hf.elim
  | _ => exact hf.elim
theorem fdiv_ok : OpOk S (binaryOp .FloorDiv) fdivD := by
  intro ω G H x y v u P Q e rx ry hf q
  cases x with
  | int i => cases y with
    | int j =>
      cases rx.int; cases ry.int
      obtain ⟨h, hf⟩ := hf
      rcases h with ⟨h1, h2⟩ | ⟨h1, h2⟩
      · refine ⟨_, fun X hX => op_fdivW, i, j, rfl, rfl, wide_div h1 (small_pow h2) (by decide) (by decide), ?_⟩
        show Q (.int (i / j)) H
        rw [← Int.fdiv_eq_ediv_of_nonneg i (by omega : 0 ≤ j)]
        exact q _ _ _ _ hf e (.int _)
      · exact ⟨_, fun X hX => op_fdivN, i, j, rfl, rfl, ⟨by omega, by omega⟩, q _ _ _ _ hf e (.int _)⟩
    | _ => exact hf.elim
  | _ => exact hf.elim
theorem mod_ok : OpOk S (binaryOp .Mod) modD := by
  intro ω G H x y v u P Q e rx ry hf q
  cases x with
  | int i => cases y with
    | int j => cases rx.int; cases ry.int; exact ⟨_, fun X hX => op_modN, i, j, rfl, rfl, hf.1, q _ _ _ _ hf.2 e (.int _)⟩
    | _ => exact hf.elim
  | _ => exact hf.elim
theorem pow_ok : OpOk S (binaryOp .Pow) powD := by
  intro ω G H x y v u P Q e rx ry hf q
  cases x with
  | int i => cases y with
    | int j => cases rx.int; cases ry.int; exact ⟨_, fun X hX => op_pow, i, j, rfl, rfl, ⟨hf.1.1, by have := hf.1.2.1; omega, hf.1.2.2⟩, q _ _ _ _ hf.2 e (.int _)⟩
    | _ => exact hf.elim
  | _ => exact hf.elim
theorem neg_ok : UnOk S (unaryOp .USub) negD := by
  intro ω G H x v P Q e rx hf q
  cases x with
  | int i => cases rx.int; exact ⟨_, fun X hX => un_neg, i, rfl, q _ _ _ _ hf e (.int _)⟩
  | _ => exact hf.elim

/-! ### comparisons -/
/-! data without dicts, nested at most n deep -/
mutual
def sh : Nat → D → Bool
  | _, .none => true
  | _, .bool _ => true
  | _, .int _ => true
  | _, .str x => PyData.strOk x
  | 0, .list _ => false
  | n + 1, .list xs => shA n xs
  | 0, .tuple _ => false
  | n + 1, .tuple xs => shA n xs
  | _, .dict _ => false
def shA : Nat → List D → Bool
  | _, [] => true
  | n, x :: xs => sh n x && shA n xs
end
mutual
theorem sh_lay : ∀ (d : D) (n : Nat), sh n d = true → d.canLay0 = true ∧ d.depth ≤ n
  | .none, n, _ => by simp [PyData.canLay0, PyData.depth]
  | .bool _, n, _ => by simp [PyData.canLay0, PyData.depth]
  | .int _, n, _ => by simp [PyData.canLay0, PyData.depth]
  | .str x, n, h => by
    cases n <;> (simp [sh] at h; simp [PyData.canLay0, PyData.depth, h])
  | .list xs, 0, h => by simp [sh] at h
  | .list xs, n + 1, h => by
    have h' : shA n xs = true := by simpa [sh] using h
    have := shA_lay xs n h'
    simp [PyData.canLay0, PyData.depth, this]
  | .tuple xs, 0, h => by simp [sh] at h
  | .tuple xs, n + 1, h => by
    have h' : shA n xs = true := by simpa [sh] using h
    have := shA_lay xs n h'
    simp [PyData.canLay0, PyData.depth, this]
  | .dict _, n, h => by cases n <;> simp [sh] at h
theorem shA_lay : ∀ (xs : List D) (n : Nat), shA n xs = true → PyData.canLayAll0 xs = true ∧ PyData.depthAll xs ≤ n
  | [], n, _ => by simp [PyData.canLayAll0, PyData.depthAll]
  | x :: xs, n, h => by
    have h' : sh n x = true ∧ shA n xs = true := by simpa [shA] using h
    have h1 := sh_lay x n h'.1
    have h2 := shA_lay xs n h'.2
    simp [PyData.canLayAll0, PyData.depthAll, h1, h2]
    omega
end
theorem sh_shaped {d : D} (h : sh 16 d = true) : SeqAt.shaped d = true := by
  have := sh_lay d 16 h
  unfold SeqAt.shaped
  rw [this.1, decide_eq_true (by omega)]
  rfl
mutual
theorem Rp.dp {K : PySem.W.Frag} {G H : Hp} (l : Le G H) : ∀ (d : D) {v : V}, PyData.canLay0 d = true → Rp K G v d → Dp K H v d
  | .none, _, _, .non => .non
  | .bool _, _, _, .bl b => .bl b
  | .int _, _, _, .int i => .int i
  | .str _, _, _, .str x => .str x
  | .list ds, _, h, .lst s a z => .lst (.inl (l _ _ s)) (RpA.dp l ds (by simpa [PyData.canLay0] using h) a)
  | .tuple ds, _, h, .tup s a z => .tup (l.sqT s) (RpA.dp l ds (by simpa [PyData.canLay0] using h) a)
  | .dict es, _, h, _ => by simp [PyData.canLay0] at h
theorem RpA.dp {K : PySem.W.Frag} {G H : Hp} (l : Le G H) : ∀ (ds : List D) {vs : List V}, PyData.canLayAll0 ds = true → RpA K G vs ds → DpAll K H vs ds
  | [], _, _, .nil => .nil
  | d :: ds, _, h, .cons r t => .cons (Rp.dp l d (by have := h; simp [PyData.canLayAll0] at this; exact this.1) r) (RpA.dp l ds (by have := h; simp [PyData.canLayAll0] at this; exact this.2) t)
end
theorem Rb.dp {ω : Option Addr} {K : PySem.W.Frag} {G H : Hp} (l : Le G H) {d : D} {v : V} (h : PyData.canLay0 d = true) (r : Rb ω K G H v d) : Dp K H v d := by
  rcases r with r | ⟨o, u, rfl, h2, h3, h4⟩
  · exact r.dp l d h
  · cases h4 with
    | lst a z => exact .lst (.inl (.inl h3)) (a.dp l _ (by simpa [PyData.canLay0] using h))
    | dK a z => simp [PyData.canLay0] at h
    | dT a z => simp [PyData.canLay0] at h
def eqD (x y : D) : M D := M.need ((sh 16 x && sh 16 y) = true) (M.pure (.bool (PyData.eqv x y)))
def neD (x y : D) : M D := M.need ((sh 16 x && sh 16 y) = true) (M.pure (.bool (!PyData.eqv x y)))
theorem eq_ok : OpOk S (compareOp .Eq) eqD := by
  intro ω G H x y v u P Q e rx ry hf q
  obtain ⟨h, hf⟩ := hf
  rw [Bool.and_eq_true] at h
  have s1 := sh_shaped h.1
  have s2 := sh_shaped h.2
  exact ⟨rEqD S.K, fun X hX => hX.K ▸ op_eqD hX.room.units, x, y, rx.dp e.le (SeqAt.canLay_of_shaped s1), ry.dp e.le (SeqAt.canLay_of_shaped s2), s1, s2, q _ _ _ _ hf e (.bl _)⟩
theorem ne_ok : OpOk S (compareOp .NotEq) neD := by
  intro ω G H x y v u P Q e rx ry hf q
  obtain ⟨h, hf⟩ := hf
  rw [Bool.and_eq_true] at h
  have s1 := sh_shaped h.1
  have s2 := sh_shaped h.2
  exact ⟨rNeD S.K, fun X hX => hX.K ▸ op_neD hX.room.units, x, y, rx.dp e.le (SeqAt.canLay_of_shaped s1), ry.dp e.le (SeqAt.canLay_of_shaped s2), s1, s2, q _ _ _ _ hf e (.bl _)⟩
/-! order -/
open PySem.W in
/-- may be put in order: alike, not None, nested at most 16 deep -/
def cmpOk (x y : D) : Bool := alike x y && sh 16 x && sh 16 y && (match x with | .none => false | _ => true)
open PySem.W in
def ltD : D → D → M D
  | .int i, .int j => M.pure (.bool (decide (i < j)))
  | x, y => M.need (cmpOk x y = true) (M.pure (.bool (dataLt x y)))
open PySem.W in
def leD : D → D → M D
  | .int i, .int j => M.pure (.bool (decide (i ≤ j)))
  | x, y => M.need (cmpOk x y = true) (M.pure (.bool (!dataLt y x)))
open PySem.W in
def gtD : D → D → M D
  | .int i, .int j => M.pure (.bool (decide (j < i)))
  | x, y => M.need (cmpOk x y = true) (M.pure (.bool (dataLt y x)))
open PySem.W in
def geD : D → D → M D
  | .int i, .int j => M.pure (.bool (decide (j ≤ i)))
  | x, y => M.need (cmpOk x y = true) (M.pure (.bool (!dataLt x y)))
theorem room_cmp {X : Cx} {k : Nat} {d e : D} (hr : Room k X.A) (h1 : sh 16 d = true) (h2 : sh 16 e = true) : X.A.units + min d.depth e.depth < cLine := by
  have := (sh_lay d 16 h1).2
  have := hr.un
  omega
theorem cmpOk_parts {x y : D} (h : cmpOk x y = true) : PySem.W.alike x y = true ∧ sh 16 x = true ∧ sh 16 y = true ∧ x ≠ .none := by
  unfold cmpOk at h
  simp only [Bool.and_eq_true] at h
  refine ⟨h.1.1.1, h.1.1.2, h.1.2, fun e => ?_⟩
  subst e
  simp at h
def rCmpD (K : PySem.W.Frag) (g : D → D → Bool) : R2 := fun x y H Q => ∃ d e, Dp K H x d ∧ Dp K H y e ∧ cmpOk d e = true ∧ Q (.bl (g d e)) H
theorem op_ltD {X : Cx} {k : Nat} (hr : Room k X.A) : OpR X (compareOp .Lt) (rCmpD X.K (fun d e => PySem.W.dataLt d e)) := by
  intro pins s σ H x y v u Q I rx ry h
  obtain ⟨d, e, hd, he, hc, q⟩ := h
  obtain ⟨h1, h2, h3, h4⟩ := cmpOk_parts hc
  obtain ⟨as, r1⟩ := Dp.reads I d x v hd rx
  obtain ⟨bs, r2⟩ := Dp.reads I e y u he ry
  exact PySem.W.lt_data r1 r2 h1 h4 (room_cmp hr h2 h3) ⟨.bl _, H, I, rfl, q⟩
theorem op_leD {X : Cx} {k : Nat} (hr : Room k X.A) : OpR X (compareOp .LtE) (rCmpD X.K (fun d e => !PySem.W.dataLt e d)) := by
  intro pins s σ H x y v u Q I rx ry h
  obtain ⟨d, e, hd, he, hc, q⟩ := h
  obtain ⟨h1, h2, h3, h4⟩ := cmpOk_parts hc
  obtain ⟨as, r1⟩ := Dp.reads I d x v hd rx
  obtain ⟨bs, r2⟩ := Dp.reads I e y u he ry
  exact PySem.W.le_data r1 r2 h1 h4 (room_cmp hr h2 h3) ⟨.bl _, H, I, rfl, q⟩
theorem op_gtD {X : Cx} {k : Nat} (hr : Room k X.A) : OpR X (compareOp .Gt) (rCmpD X.K (fun d e => PySem.W.dataLt e d)) := by
  intro pins s σ H x y v u Q I rx ry h
  obtain ⟨d, e, hd, he, hc, q⟩ := h
  obtain ⟨h1, h2, h3, h4⟩ := cmpOk_parts hc
  obtain ⟨as, r1⟩ := Dp.reads I d x v hd rx
  obtain ⟨bs, r2⟩ := Dp.reads I e y u he ry
  exact PySem.W.gt_data r1 r2 h1 h4 (room_cmp hr h2 h3) ⟨.bl _, H, I, rfl, q⟩
theorem op_geD {X : Cx} {k : Nat} (hr : Room k X.A) : OpR X (compareOp .GtE) (rCmpD X.K (fun d e => !PySem.W.dataLt d e)) := by
  intro pins s σ H x y v u Q I rx ry h
  obtain ⟨d, e, hd, he, hc, q⟩ := h
  obtain ⟨h1, h2, h3, h4⟩ := cmpOk_parts hc
  obtain ⟨as, r1⟩ := Dp.reads I d x v hd rx
  obtain ⟨bs, r2⟩ := Dp.reads I e y u he ry
  exact PySem.W.ge_data r1 r2 h1 h4 (room_cmp hr h2 h3) ⟨.bl _, H, I, rfl, q⟩
theorem ltD_cases {x y : D} {P : D → Prop} (h : ltD x y P) : (∃ i j, x = .int i ∧ y = .int j ∧ P (.bool (decide (i < j)))) ∨ (cmpOk x y = true ∧ P (.bool (PySem.W.dataLt x y))) := by
  unfold ltD at h
  split at h
  · exact .inl ⟨_, _, rfl, rfl, h⟩
  · exact .inr h
theorem lt_ok : OpOk S (compareOp .Lt) ltD := by
  intro ω G H x y v u P Q e rx ry hf q
  rcases ltD_cases hf with ⟨i, j, rfl, rfl, hf⟩ | ⟨hc, hf⟩
  · cases rx.int; cases ry.int; exact ⟨_, fun X hX => op_lt, i, j, rfl, rfl, q _ _ _ _ hf e (.bl _)⟩
  · obtain ⟨h1, h2, h3, h4⟩ := cmpOk_parts hc
    exact ⟨rCmpD S.K _, fun X hX => hX.K ▸ op_ltD hX.room, x, y, rx.dp e.le (sh_lay x 16 h2).1, ry.dp e.le (sh_lay y 16 h3).1, hc, q _ _ _ _ hf e (.bl _)⟩
theorem leD_cases {x y : D} {P : D → Prop} (h : leD x y P) : (∃ i j, x = .int i ∧ y = .int j ∧ P (.bool (decide (i ≤ j)))) ∨ (cmpOk x y = true ∧ P (.bool (!PySem.W.dataLt y x))) := by
  unfold leD at h
  split at h
  · exact .inl ⟨_, _, rfl, rfl, h⟩
  · exact .inr h
theorem le_ok : OpOk S (compareOp .LtE) leD := by
  intro ω G H x y v u P Q e rx ry hf q
  rcases leD_cases hf with ⟨i, j, rfl, rfl, hf⟩ | ⟨hc, hf⟩
  · cases rx.int; cases ry.int; exact ⟨_, fun X hX => op_le, i, j, rfl, rfl, q _ _ _ _ hf e (.bl _)⟩
  · obtain ⟨h1, h2, h3, h4⟩ := cmpOk_parts hc
    exact ⟨rCmpD S.K _, fun X hX => hX.K ▸ op_leD hX.room, x, y, rx.dp e.le (sh_lay x 16 h2).1, ry.dp e.le (sh_lay y 16 h3).1, hc, q _ _ _ _ hf e (.bl _)⟩
theorem gtD_cases {x y : D} {P : D → Prop} (h : gtD x y P) : (∃ i j, x = .int i ∧ y = .int j ∧ P (.bool (decide (j < i)))) ∨ (cmpOk x y = true ∧ P (.bool (PySem.W.dataLt y x))) := by
  unfold gtD at h
  split at h
  · exact .inl ⟨_, _, rfl, rfl, h⟩
  · exact .inr h
theorem gt_ok : OpOk S (compareOp .Gt) gtD := by
  intro ω G H x y v u P Q e rx ry hf q
  rcases gtD_cases hf with ⟨i, j, rfl, rfl, hf⟩ | ⟨hc, hf⟩
  · cases rx.int; cases ry.int; exact ⟨_, fun X hX => op_gt, i, j, rfl, rfl, q _ _ _ _ hf e (.bl _)⟩
  · obtain ⟨h1, h2, h3, h4⟩ := cmpOk_parts hc
    exact ⟨rCmpD S.K _, fun X hX => hX.K ▸ op_gtD hX.room, x, y, rx.dp e.le (sh_lay x 16 h2).1, ry.dp e.le (sh_lay y 16 h3).1, hc, q _ _ _ _ hf e (.bl _)⟩
theorem geD_cases {x y : D} {P : D → Prop} (h : geD x y P) : (∃ i j, x = .int i ∧ y = .int j ∧ P (.bool (decide (j ≤ i)))) ∨ (cmpOk x y = true ∧ P (.bool (!PySem.W.dataLt x y))) := by
  unfold geD at h
  split at h
  · exact .inl ⟨_, _, rfl, rfl, h⟩
  · exact .inr h
theorem ge_ok : OpOk S (compareOp .GtE) geD := by
  intro ω G H x y v u P Q e rx ry hf q
  rcases geD_cases hf with ⟨i, j, rfl, rfl, hf⟩ | ⟨hc, hf⟩
  · cases rx.int; cases ry.int; exact ⟨_, fun X hX => op_ge, i, j, rfl, rfl, q _ _ _ _ hf e (.bl _)⟩
  · obtain ⟨h1, h2, h3, h4⟩ := cmpOk_parts hc
    exact ⟨rCmpD S.K _, fun X hX => hX.K ▸ op_geD hX.room, x, y, rx.dp e.le (sh_lay x 16 h2).1, ry.dp e.le (sh_lay y 16 h3).1, hc, q _ _ _ _ hf e (.bl _)⟩
/-- is None, is True -/
def isD : D → D → M D
  | .none, .none => M.pure (.bool true)
  | _, .none => M.pure (.bool false)
  | .bool a, .bool b => M.pure (.bool (decide (a = b)))
  | _, _ => M.fail
def isnD (x y : D) : M D := (isD x y).bind fun z => match z with
  | .bool b => M.pure (.bool (!b))
  | _ => M.fail
def isNoneD : D → Bool
  | .none => true
  | _ => false
theorem rb_non {ω : Option Addr} {K : PySem.W.Frag} {G H : Hp} {v : V} {d : D} (r : Rb ω K G H v d) : decide (v = .non) = isNoneD d := by
  rcases r with r | ⟨o, u, rfl, h2, h3, h4⟩
  · cases r <;> rfl
  · cases h4 <;> rfl
theorem isD_cases {x y : D} {P : D → Prop} (h : isD x y P) : (y = .none ∧ P (.bool (isNoneD x))) ∨ ∃ a b, x = .bool a ∧ y = .bool b ∧ P (.bool (decide (a = b))) := by
  cases y with
  | none => cases x <;> exact .inl ⟨rfl, h⟩
  | bool b => cases x with
    | bool a => exact .inr ⟨a, b, rfl, rfl, h⟩
    | _ => exact h.elim
  | _ => cases x <;> exact h.elim
theorem is_ok : OpOk S (compareOp .Is) isD := by
  intro ω G H x y v u P Q e rx ry hf q
  rcases isD_cases hf with ⟨rfl, hf'⟩ | ⟨a, b, rfl, rfl, hf'⟩
  · refine ⟨_, fun X hX => op_isN, ry.non, ?_⟩
    rw [rb_non rx]
    exact q _ _ _ _ hf' e (.bl _)
  · cases rx.bl; cases ry.bl
    exact ⟨_, fun X hX => op_is_bl, a, b, rfl, rfl, q _ _ _ _ hf' e (.bl _)⟩
theorem isn_ok : OpOk S (compareOp .IsNot) isnD := by
  intro ω G H x y v u P Q e rx ry hf q
  rcases isD_cases hf with ⟨rfl, hf'⟩ | ⟨a, b, rfl, rfl, hf'⟩
  · refine ⟨_, fun X hX => op_notN, ry.non, ?_⟩
    rw [rb_non rx]
    exact q _ _ _ _ hf' e (.bl _)
  · cases rx.bl; cases ry.bl
    exact ⟨_, fun X hX => op_isnot_bl, a, b, rfl, rfl, q _ _ _ _ hf' e (.bl _)⟩
end
end Wp
namespace Wp
open PySem PySem.Spec PyProof.Rows L2

section
variable {S : Sg}
/-! ### subscripts -/
def kD : D → Bool
  | .int _ => true
  | .str _ => true
  | _ => false
def lookD (es : List (D × D)) (k : D) : Option D := (es.find? fun p => PyData.eqv p.1 k).map (·.2)
def ixD : D → D → M D
  | .list xs, .int i => M.opt (atI xs i)
  | .tuple xs, .int i => M.opt (atI xs i)
  | .str x, .int i => M.need (x.length ≤ 16777216) (M.opt ((atI x.cps.toList i).map fun c => .str ⟨#[c]⟩))
  | .dict es, k => M.need (kD k = true) (M.opt (lookD es k))
  | _, _ => M.fail
theorem keyD_kD {k : D} (h : kD k = true) : ∃ c : Key, k = keyD c := by
  cases k with
  | int i => exact ⟨.inl i, rfl⟩
  | str x => exact ⟨.inr x, rfl⟩
  | _ => simp [kD] at h
theorem eqv_keyD (a b : Key) : PyData.eqv (keyD a) (keyD b) = decide (a = b) := by
  cases a with
  | inl i => cases b with
    | inl j => by_cases h : i = j <;> simp [keyD, PyData.eqv, h]
    | inr y => simp [keyD, PyData.eqv]
  | inr x => cases b with
    | inl j => simp [keyD, PyData.eqv]
    | inr y => by_cases h : x = y <;> simp [keyD, PyData.eqv, h]
theorem look_rel {K : PySem.W.Frag} {G : Hp} {kvs : List (Key × V)} {es : List (D × D)} (r : RpK K G kvs es) (k : Key) : (∀ d, lookD es (keyD k) = some d → ∃ v, valV kvs k = some v ∧ Rp K G v d) ∧ (lookD es (keyD k) = none → valV kvs k = none) := by
  match r with
  | .nil => exact ⟨fun d h => by simp [lookD] at h, fun _ => rfl⟩
  | .cons (k := c) (v := v) (d := d) (ds := ds) (vs := vs) r t =>
    have ih := look_rel t k
    unfold lookD at *
    by_cases e : c = k
    · subst e
      have h1 : PyData.eqv (keyD c) (keyD c) = true := by rw [eqv_keyD]; simp
      simp only [List.find?_cons, h1]
      refine ⟨fun d' h => ?_, fun h => by simp at h⟩
      simp at h; subst h
      exact ⟨v, valV_pos rfl, r⟩
    · have h1 : PyData.eqv (keyD c) (keyD k) = false := by rw [eqv_keyD]; simp [e]
      simp only [List.find?_cons, h1]
      rw [valV_neg (p := (c, v)) e]
      exact ih
theorem kV_rel {ω : Option Addr} {K : PySem.W.Frag} {G H : Hp} {v : V} {k : Key} (r : Rb ω K G H v (keyD k)) : v = kV k := by
  cases k with
  | inl i => exact r.int
  | inr x => exact r.str
theorem ix_dict {X : Cx} (hu : X.A.units + 1 < cLine) : IxR X (fun x y H Q => ∃ a v, x = .ref a ∧ DGet H a y (some v) ∧ Q v H) := by
  intro value slice pins s σ H x y v u Q I rx ry h hs
  obtain ⟨a, z, rfl, g, q⟩ := h
  cases rx
  exact tail_any (dict_typeIs I g) PySem.F.slot_dict_getitem.lookup (d_getItem hu I g ry fun w' s3 I3 rw' => ⟨z, H, I3, rw', q⟩) hs
theorem atI_rel {K : PySem.W.Frag} {G : Hp} {xs : List V} {ds : List D} (r : RpA K G xs ds) {i : Int} {d : D} (h : atI ds i = some d) : ∃ v, atI xs i = some v ∧ Rp K G v d := by
  unfold atI at *
  rw [r.length]
  cases e : ixN ds.length i with
  | none => rw [e] at h; cases h
  | some j => rw [e] at h; exact r.getD h
theorem noT {ω : Option Addr} {K : PySem.W.Frag} {G H : Hp} {v : V} {es : List (D × D)} (r : Rb ω K G H v (.dict es)) (l : Le G H) : ∃ a, v = .ref a ∧ es.length ≤ sizeLine ∧ ((∃ kvs, Rd H a (.dK kvs) ∧ RpK K G kvs es) ∨ ∃ kvs es', es = (.none, .none) :: es' ∧ Rd H a (.dT kvs) ∧ RpT K G kvs es') := by
  rcases r with h | ⟨o, u, h1, h2, h3, h4⟩
  · cases h with
    | dK s a z => exact ⟨_, rfl, z, .inl ⟨_, l _ _ (.inl s), a⟩⟩
    | dT s a z => exact ⟨_, rfl, z, .inr ⟨_, _, rfl, l _ _ (.inl s), a⟩⟩
  · cases h4 with
    | dK a z => exact ⟨o, h1, z, .inl ⟨_, .inl h3, a⟩⟩
    | dT a z => exact ⟨o, h1, z, .inr ⟨_, _, rfl, .inl h3, a⟩⟩
def marked : List (D × D) → Bool
  | (.none, _) :: _ => true
  | _ => false
theorem look_T {K : PySem.W.Frag} {G : Hp} (c : Key) : ∀ {kvs : List (List Key × V)} {es : List (D × D)}, RpT K G kvs es → lookD es (keyD c) = none
  | _, _, .nil => rfl
  | _, _, .cons r t => by
    have ih := look_T c t
    unfold lookD at *
    have h1 : ∀ k : List Key, PyData.eqv (keyT k) (keyD c) = false := fun k => by cases c <;> simp [keyT, keyD, PyData.eqv]
    rw [List.find?_cons, h1]
    exact ih
theorem ix_ok : IxOk S ixD := by
  intro ω G H x y v u P Q e rx ry hf q
  cases x with
  | list xs => cases y with
    | int i =>
      cases ry.int
      obtain ⟨d, h1, h2⟩ := hf
      obtain ⟨a, as, rfl, s1, r1, _⟩ := rx.list e.le
      obtain ⟨v, h3, r⟩ := atI_rel r1 h1
      exact ⟨rIxL S.K, fun X hX => hX.K ▸ ix_list, a, as, i, v, rfl, rfl, .inl s1, h3, q _ _ _ _ h2 e r⟩
    | _ => exact hf.elim
  | tuple xs => cases y with
    | int i =>
      cases ry.int
      obtain ⟨d, h1, h2⟩ := hf
      obtain ⟨a, as, rfl, s1, r1, _⟩ := rx.tup e.le
      obtain ⟨v, h3, r⟩ := atI_rel r1 h1
      exact ⟨rIxT S.K, fun X hX => hX.K ▸ ix_tup, a, as, i, v, rfl, rfl, s1, h3, q _ _ _ _ h2 e r⟩
    | _ => exact hf.elim
  | str x => cases y with
    | int i =>
      cases ry.int; cases rx.str
      obtain ⟨hl, d, h1, h2⟩ := hf
      obtain ⟨c, h3, h4⟩ := Option.map_eq_some_iff.mp h1
      subst h4
      exact ⟨rIxS, fun X hX => ix_str, x, i, c, rfl, rfl, line_le hl, h3, q _ _ _ _ h2 e (.str _)⟩
    | _ => exact hf.elim
  | dict es =>
    obtain ⟨hk, d, h1, h2⟩ := hf
    obtain ⟨c, rfl⟩ := keyD_kD hk
    obtain ⟨a, rfl, _, ⟨kvs, s1, r1⟩ | ⟨kvs, es', rfl, _, _⟩⟩ := noT rx e.le
    · obtain ⟨v, h3, r⟩ := (look_rel r1 c).1 d h1
      exact ⟨_, fun X hX => ix_dict (hu_of hX.room), a, v, rfl, .inl ⟨kvs, c, s1, kV_rel ry, h3.symm⟩, q _ _ _ _ h2 e r⟩
    · have : lookD ((PyData.none, PyData.none) :: es') (keyD c) = lookD es' (keyD c) := by
        unfold lookD
        rw [List.find?_cons, show PyData.eqv .none (keyD c) = false by cases c <;> simp [keyD, PyData.eqv]]
      rw [this, look_T c (by assumption)] at h1
      cases h1
  | _ => exact hf.elim

/-! ### in -/
def inD : D → D → M D
  | x, .list ys => M.need ((sh 16 x && shA 16 ys) = true) (M.pure (.bool (ys.any fun z => PyData.eqv z x)))
  | x, .tuple ys => M.need ((sh 16 x && shA 16 ys) = true) (M.pure (.bool (ys.any fun z => PyData.eqv z x)))
  | k, .dict es => M.need ((kD k && !marked es) = true) (M.pure (.bool (lookD es k).isSome))
  | _, _ => M.fail
def ninD (x y : D) : M D := (inD x y).bind fun z => match z with
  | .bool b => M.pure (.bool (!b))
  | _ => M.fail
theorem room_in {X : Cx} {ds : List D} {d : D} (hr : Room k X.A) (h1 : sh 16 d = true) (h2 : shA 16 ds = true) : X.A.units + 1 + min (PyData.depthAll ds) d.depth < cLine := by
  have := (sh_lay d 16 h1).2
  have := hr.un
  omega
theorem in_seqD {X : Cx} (hr : Room k X.A) : OpR X (compareOp .In) (fun x y H Q => ∃ d ds, Dp X.K H x d ∧ (Dp X.K H y (.list ds) ∨ Dp X.K H y (.tuple ds)) ∧ sh 16 d = true ∧ shA 16 ds = true ∧ Q (.bl (ds.any fun z => PyData.eqv z d)) H) := by
  intro pins s σ H x y v u Q I rx ry h
  obtain ⟨d, ds, hd, he, sd, se, q⟩ := h
  obtain ⟨as, r1⟩ := Dp.reads I d x v hd rx
  rcases he with he | he
  · obtain ⟨bs, r2⟩ := Dp.reads I (.list ds) y u he ry
    exact SeqAt.in_list_reads r2 r1 (shA_lay ds 16 se).1 (sh_lay d 16 sd).1 (room_in hr sd se) ⟨.bl _, H, I, rfl, q⟩
  · obtain ⟨bs, r2⟩ := Dp.reads I (.tuple ds) y u he ry
    exact SeqAt.in_tuple_reads r2 r1 (shA_lay ds 16 se).1 (sh_lay d 16 sd).1 (room_in hr sd se) ⟨.bl _, H, I, rfl, q⟩
theorem nin_seqD {X : Cx} (hr : Room k X.A) : OpR X (compareOp .NotIn) (fun x y H Q => ∃ d ds, Dp X.K H x d ∧ (Dp X.K H y (.list ds) ∨ Dp X.K H y (.tuple ds)) ∧ sh 16 d = true ∧ shA 16 ds = true ∧ Q (.bl (!ds.any fun z => PyData.eqv z d)) H) := by
  intro pins s σ H x y v u Q I rx ry h
  obtain ⟨d, ds, hd, he, sd, se, q⟩ := h
  obtain ⟨as, r1⟩ := Dp.reads I d x v hd rx
  rcases he with he | he
  · obtain ⟨bs, r2⟩ := Dp.reads I (.list ds) y u he ry
    exact SeqAt.notIn_list_reads r2 r1 (shA_lay ds 16 se).1 (sh_lay d 16 sd).1 (room_in hr sd se) ⟨.bl _, H, I, rfl, q⟩
  · obtain ⟨bs, r2⟩ := Dp.reads I (.tuple ds) y u he ry
    exact SeqAt.notIn_tuple_reads r2 r1 (shA_lay ds 16 se).1 (sh_lay d 16 sd).1 (room_in hr sd se) ⟨.bl _, H, I, rfl, q⟩
theorem in_dictD {X : Cx} (hu : X.A.units + 1 < cLine) : OpR X (compareOp .In) (fun x y H Q => ∃ a o, y = .ref a ∧ DGet H a x o ∧ Q (.bl o.isSome) H) := by
  intro pins s σ H x y v u Q I rx ry h
  obtain ⟨a, o, rfl, g, q⟩ := h
  cases ry
  exact d_in hu I g rx fun s3 I3 => ⟨.bl o.isSome, H, I3, rfl, q⟩
theorem nin_dictD {X : Cx} (hu : X.A.units + 1 < cLine) : OpR X (compareOp .NotIn) (fun x y H Q => ∃ a o, y = .ref a ∧ DGet H a x o ∧ Q (.bl (!o.isSome)) H) := by
  intro pins s σ H x y v u Q I rx ry h
  obtain ⟨a, o, rfl, g, q⟩ := h
  cases ry
  exact d_notIn hu I g rx fun s3 I3 => ⟨.bl (!o.isSome), H, I3, rfl, q⟩
theorem in_cases {ω : Option Addr} {G H : Hp} {x y : D} {v u : V} {P : D → Prop} (e : Ext ω S.K G H G H) (rx : Rb ω S.K G H v x) (ry : Rb ω S.K G H u y) (hf : inD x y P) :
    (∃ ds, (y = .list ds ∨ y = .tuple ds) ∧ Dp S.K H v x ∧ (Dp S.K H u (.list ds) ∨ Dp S.K H u (.tuple ds)) ∧ sh 16 x = true ∧ shA 16 ds = true ∧ P (.bool (ds.any fun z => PyData.eqv z x))) ∨
    ∃ a o, u = .ref a ∧ DGet H a v o ∧ P (.bool o.isSome) := by
  cases y with
  | list ds =>
    obtain ⟨h, hf⟩ := hf
    rw [Bool.and_eq_true] at h
    exact .inl ⟨ds, .inl rfl, rx.dp e.le (sh_lay x 16 h.1).1, .inl (ry.dp e.le (by simp [PyData.canLay0, (shA_lay ds 16 h.2).1])), h.1, h.2, hf⟩
  | tuple ds =>
    obtain ⟨h, hf⟩ := hf
    rw [Bool.and_eq_true] at h
    exact .inl ⟨ds, .inr rfl, rx.dp e.le (sh_lay x 16 h.1).1, .inr (ry.dp e.le (by simp [PyData.canLay0, (shA_lay ds 16 h.2).1])), h.1, h.2, hf⟩
  | dict es =>
    obtain ⟨h, hf⟩ := hf
    rw [Bool.and_eq_true] at h
    obtain ⟨c, rfl⟩ := keyD_kD h.1
    obtain ⟨a, rfl, _, ⟨kvs, s1, r1⟩ | ⟨kvs, es', rfl, _, _⟩⟩ := noT ry e.le
    · refine .inr ⟨a, valV kvs c, rfl, .inl ⟨kvs, c, s1, kV_rel rx, rfl⟩, ?_⟩
      have hl := look_rel r1 c
      cases q : lookD es (keyD c) with
      | none => rw [hl.2 q]; rw [q] at hf; exact hf
      | some d => obtain ⟨v, h3, _⟩ := hl.1 d q; rw [h3]; rw [q] at hf; exact hf
    · simp [marked] at h
  | _ => exact hf.elim
theorem in_ok : OpOk S (compareOp .In) inD := by
  intro ω G H x y v u P Q e rx ry hf q
  rcases in_cases e rx ry hf with ⟨ds, _, h1, h2, h3, h4, h5⟩ | ⟨a, o, rfl, g, h5⟩
  · exact ⟨fun x y H Q => ∃ d ds, Dp S.K H x d ∧ (Dp S.K H y (.list ds) ∨ Dp S.K H y (.tuple ds)) ∧ sh 16 d = true ∧ shA 16 ds = true ∧ Q (.bl (ds.any fun z => PyData.eqv z d)) H, fun X hX => hX.K ▸ in_seqD hX.room, x, ds, h1, h2, h3, h4, q _ _ _ _ h5 e (.bl _)⟩
  · exact ⟨_, fun X hX => in_dictD (hu_of hX.room), a, o, rfl, g, q _ _ _ _ h5 e (.bl _)⟩
theorem nin_ok : OpOk S (compareOp .NotIn) ninD := by
  intro ω G H x y v u P Q e rx ry hf q
  rcases in_cases e rx ry hf with ⟨ds, _, h1, h2, h3, h4, h5⟩ | ⟨a, o, rfl, g, h5⟩
  · exact ⟨fun x y H Q => ∃ d ds, Dp S.K H x d ∧ (Dp S.K H y (.list ds) ∨ Dp S.K H y (.tuple ds)) ∧ sh 16 d = true ∧ shA 16 ds = true ∧ Q (.bl (!ds.any fun z => PyData.eqv z d)) H, fun X hX => hX.K ▸ nin_seqD hX.room, x, ds, h1, h2, h3, h4, q _ _ _ _ h5 e (.bl _)⟩
  · exact ⟨_, fun X hX => nin_dictD (hu_of hX.room), a, o, rfl, g, q _ _ _ _ h5 e (.bl _)⟩

/-! ### slices -/
/-- the items of xs[lo:hi] -/
def cutD (xs : List D) (lo hi : Option Int) : List D := (xs.drop (HT.sIx xs.length 0 lo)).take (HT.sIx xs.length xs.length hi - HT.sIx xs.length 0 lo)
def slD : D → Option Int → Option Int → M D
  | .list xs, lo, hi => M.pure (.list (cutD xs lo hi))
  | .tuple xs, lo, hi => M.pure (.tuple (cutD xs lo hi))
  | _, _, _ => M.fail
theorem cut_rel {K : PySem.W.Frag} {G : Hp} {xs : List V} {ds : List D} (r : RpA K G xs ds) (lo hi : Option Int) : RpA K G (cutV xs lo hi) (cutD ds lo hi) := by
  unfold cutV cutD
  rw [r.length]
  exact (r.drop _).take _
theorem cut_len (ds : List D) (lo hi : Option Int) : (cutD ds lo hi).length ≤ ds.length := by
  unfold cutD
  simp only [List.length_take, List.length_drop]
  omega
theorem cut_whole {ds : List D} {lo hi : Option Int} (h : HT.sIx ds.length 0 lo = 0 ∧ HT.sIx ds.length ds.length hi = ds.length) : cutD ds lo hi = ds := by
  unfold cutD
  rw [h.1, h.2]
  simp
theorem sl_ok : SlOk S slD := by
  intro ω G H x v lo hi P Q e rx hf q
  cases x with
  | list ds =>
    obtain ⟨a, as, rfl, s1, r1, z⟩ := rx.list e.le
    refine ⟨rSlL S.K, fun X hX => hX.K ▸ sl_list, a, as, rfl, .inl s1, fun p np => ?_⟩
    obtain ⟨e2, r⟩ := new_lst e np (cut_rel r1 lo hi) (Nat.le_trans (cut_len ds lo hi) z)
    exact q _ _ _ _ hf e2 r
  | tuple ds =>
    obtain ⟨a, as, rfl, s1, r1, z⟩ := rx.tup e.le
    refine ⟨rSlA S.K, fun X hX => hX.K ▸ sl_tupA, a, as, rfl, s1, fun h => ?_, fun _ p np => ?_⟩
    · rw [r1.length] at h
      have hf2 : P (.tuple (cutD ds lo hi)) := hf
      rw [cut_whole h] at hf2
      exact q _ _ _ _ hf2 e (rb_tup rx)
    · obtain ⟨e2, r⟩ := new_tup e np (cut_rel r1 lo hi) (Nat.le_trans (cut_len ds lo hi) z)
      exact q _ _ _ _ hf e2 r
  | _ => exact hf.elim
/-- xs[::-1] -/
def revD : D → M D
  | .list xs => M.pure (.list xs.reverse)
  | _ => M.fail
theorem RpA.reverse {K : PySem.W.Frag} {G : Hp} : ∀ {xs : List V} {ds : List D}, RpA K G xs ds → RpA K G xs.reverse ds.reverse
  | _, _, .nil => .nil
  | _, _, .cons r t => by rw [List.reverse_cons, List.reverse_cons]; exact t.reverse.append (.cons r .nil)
theorem we_rev {Γ : En} {a : Expr} {ma : M D} {k : Nat} {p1 p2 p3 pos : Pos} (ha : WB S Γ a ma) : WE S Γ (.Subscript a (.Slice none none (some (.UnaryOp .USub (.Constant (.int 1) k p1) p2)) p3) pos) (ma.bind fun x => revD x) := by
  intro ω G0 H0 σ G H P Q E hm q
  refine ⟨tRevL S.K (RE S a), fun X hX => hX.K ▸ pe_revL (RE.pe hX a), ha ω G0 H0 σ G H _ _ E hm fun x v G1 H1 hx e1 r1 => ?_⟩
  cases x with
  | list ds =>
    obtain ⟨a, as, rfl, s1, r1, z⟩ := r1.list e1.le
    refine ⟨a, as, rfl, .inl s1, fun p np => ?_⟩
    obtain ⟨e2, r⟩ := new_lst e1.self np r1.reverse (by rw [List.length_reverse]; exact z)
    exact q _ _ _ _ hx (e1.trans e2) r
  | _ => exact hx.elim

/-! ### built-ins of one argument -/
def lenD : D → M D
  | .list xs => M.pure (.int xs.length)
  | .tuple xs => M.pure (.int xs.length)
  | .str x => M.need (x.length ≤ 16777216) (M.pure (.int x.length))
  | .dict es => M.need (marked es = false) (M.pure (.int es.length))
  | _ => M.fail
theorem RpK.length {K : PySem.W.Frag} {G : Hp} : ∀ {kvs : List (Key × V)} {es : List (D × D)}, RpK K G kvs es → kvs.length = es.length
  | _, _, .nil => rfl
  | _, _, .cons _ t => congrArg (· + 1) t.length
theorem call_lenD' {X : Cx} : CallR X (.builtin "len") (fun xs H Q => ∃ d kvs, xs = [.ref d] ∧ Rd H d (.dK kvs) ∧ Q (.int kvs.length) H) := by
  intro pins s σ H xs us Q I r h
  obtain ⟨d, kvs, rfl, hd, q⟩ := h
  obtain ⟨u, rfl, rx⟩ := vals1 r
  cases rx
  exact d_len I hd fun t s' I' => ⟨.int _, H, I', ⟨t, rfl⟩, q⟩
theorem len_ok : C1Ok S (.builtin "len") lenD := by
  intro ω G H x v P Q e rx hf q
  cases x with
  | list ds =>
    obtain ⟨a, as, rfl, s1, r1, z⟩ := rx.list e.le
    have hf2 : P (.int as.length) := by rw [r1.length]; exact hf
    exact ⟨_, fun X hX => hX.K ▸ call_len_seq, a, as, rfl, .inl (.inl s1), q _ _ _ _ hf2 e (.int _)⟩
  | tuple ds =>
    obtain ⟨a, as, rfl, s1, r1, z⟩ := rx.tup e.le
    have hf2 : P (.int as.length) := by rw [r1.length]; exact hf
    exact ⟨fun xs H Q => ∃ p ys, xs = [.ref p] ∧ (SqL S.K H p ys ∨ SqT S.K H p ys) ∧ Q (.int ys.length) H, fun X hX => hX.K ▸ call_len_seq, a, as, rfl, .inr s1, q _ _ _ _ hf2 e (.int _)⟩
  | str x => cases rx.str; exact ⟨_, fun X hX => call_len_str, x, rfl, line_le hf.1, q _ _ _ _ hf.2 e (.int _)⟩
  | dict es =>
    obtain ⟨a, rfl, _, ⟨kvs, s1, r1⟩ | ⟨kvs, es', rfl, _, _⟩⟩ := noT rx e.le
    · have hf2 : P (.int kvs.length) := by rw [r1.length]; exact hf.2
      exact ⟨_, fun X hX => call_lenD', a, kvs, rfl, s1, q _ _ _ _ hf2 e (.int _)⟩
    · have := hf.1; simp [marked] at this
  | _ => exact hf.elim
def intD : D → M D
  | .int i => M.pure (.int i)
  | .bool b => M.pure (.int (if b then 1 else 0))
  | _ => M.fail
theorem int_ok : C1Ok S (.type "int") intD := by
  intro ω G H x v P Q e rx hf q
  cases x with
  | int i => cases rx.int; exact ⟨_, fun X hX => call_int1, .inl ⟨i, rfl, q _ _ _ _ hf e (.int _)⟩⟩
  | bool b => cases rx.bl; exact ⟨_, fun X hX => call_int1, .inr ⟨b, rfl, q _ _ _ _ hf e (.int _)⟩⟩
  | _ => exact hf.elim
def absD : D → M D
  | .int i => M.pure (.int (if i < 0 then -i else i))
  | _ => M.fail
theorem abs_ok : C1Ok S (.builtin "abs") absD := by
  intro ω G H x v P Q e rx hf q
  cases x with
  | int i => cases rx.int; exact ⟨_, fun X hX => call_abs, i, rfl, q _ _ _ _ hf e (.int _)⟩
  | _ => exact hf.elim
def max2D : D → D → M D
  | .int i, .int j => M.pure (.int (max i j))
  | _, _ => M.fail
def min2D : D → D → M D
  | .int i, .int j => M.pure (.int (min i j))
  | _, _ => M.fail
theorem max2_ok : C2Ok S (.builtin "max") max2D := by
  intro ω G H x y v u P Q e rx ry hf q
  cases x with
  | int i => cases y with
    | int j =>
      cases rx.int; cases ry.int
      refine ⟨_, fun X hX => call_max2 hX.calm, i, j, rfl, ?_⟩
      have h : (if j > i then j else i) = max i j := by by_cases h : j > i <;> simp [h] <;> omega
      rw [h]; exact q _ _ _ _ hf e (.int _)
    | _ => exact hf.elim
  | _ => exact hf.elim
theorem min2_ok : C2Ok S (.builtin "min") min2D := by
  intro ω G H x y v u P Q e rx ry hf q
  cases x with
  | int i => cases y with
    | int j =>
      cases rx.int; cases ry.int
      refine ⟨_, fun X hX => call_min2 hX.calm, i, j, rfl, ?_⟩
      have h : (if j < i then j else i) = min i j := by by_cases h : j < i <;> simp [h] <;> omega
      rw [h]; exact q _ _ _ _ hf e (.int _)
    | _ => exact hf.elim
  | _ => exact hf.elim
/-- the ints of a list of ints -/
def asInts : List D → Option (List Int)
  | [] => some []
  | .int i :: ds => (asInts ds).map (i :: ·)
  | _ :: _ => none
theorem asInts_map : ∀ ns : List Int, asInts (ns.map .int) = some ns
  | [] => rfl
  | n :: ns => by simp [asInts, asInts_map ns]
theorem asInts_some : ∀ {ds : List D} {ns : List Int}, asInts ds = some ns → ds = ns.map .int
  | [], ns, h => by simp [asInts] at h; subst h; rfl
  | d :: ds, ns, h => by
    cases d with
    | int i =>
      obtain ⟨ms, h1, h2⟩ := Option.map_eq_some_iff.mp (show (asInts ds).map (i :: ·) = some ns from h)
      subst h2
      rw [asInts_some h1]; rfl
    | _ => simp [asInts] at h
theorem RpA.ints {K : PySem.W.Frag} {G : Hp} : ∀ {ns : List Int} {xs : List V}, RpA K G xs (ns.map .int) → xs = ns.map V.int
  | [], _, .nil => rfl
  | n :: ns, _, .cons r t => by cases r; rw [t.ints]; rfl
def sumD : D → M D
  | .list ds => (M.opt (asInts ds)).bind fun ns => M.pure (.int ns.sum)
  | _ => M.fail
theorem sum_ok : C1Ok S (.builtin "sum") sumD := by
  intro ω G H x v P Q e rx hf q
  cases x with
  | list ds =>
    obtain ⟨ns, h1, hf⟩ := hf
    obtain ⟨a, as, rfl, s1, r1, z⟩ := rx.list e.le
    have e2 := asInts_some h1
    subst e2
    have e3 := r1.ints
    subst e3
    exact ⟨rSum S.K, fun X hX => hX.K ▸ cr_sum hX.calm, a, ns, rfl, .inl s1, q _ _ _ _ hf e (.int _)⟩
  | _ => exact hf.elim
def tupleD : D → M D
  | .list ds => M.pure (.tuple ds)
  | .tuple ds => M.pure (.tuple ds)
  | _ => M.fail
theorem tuple_ok : C1Ok S (.type "tuple") tupleD := by
  intro ω G H x v P Q e rx hf q
  cases x with
  | list ds =>
    obtain ⟨a, as, rfl, s1, r1, z⟩ := rx.list e.le
    refine ⟨_, fun X hX => hX.K ▸ call_tuple_of, a, as, rfl, .inl ⟨.inl s1, fun p np => ?_⟩⟩
    obtain ⟨e2, r⟩ := new_tup e np r1 z
    exact q _ _ _ _ hf e2 r
  | tuple ds =>
    obtain ⟨a, as, rfl, s1, r1, z⟩ := rx.tup e.le
    exact ⟨fun xs H Q => ∃ p ys, xs = [.ref p] ∧ ((SqL S.K H p ys ∧ ∀ l, H l = none → Q (.ref l) (upd H l (.tup ys))) ∨ (SqT S.K H p ys ∧ Q (.ref p) H)), fun X hX => hX.K ▸ call_tuple_of, a, as, rfl, .inr ⟨s1, q _ _ _ _ hf e (rb_tup rx)⟩⟩
  | _ => exact hf.elim
def listD : D → M D
  | .list ds => M.pure (.list ds)
  | .tuple ds => M.pure (.list ds)
  | _ => M.fail
theorem list_ok : C1Ok S (.type "list") listD := by
  intro ω G H x v P Q e rx hf q
  cases x with
  | list ds =>
    obtain ⟨a, as, rfl, s1, r1, z⟩ := rx.list e.le
    refine ⟨_, fun X hX => hX.K ▸ call_list_of, a, as, rfl, .inl (.inl s1), fun p np => ?_⟩
    obtain ⟨e2, r⟩ := new_lst e np r1 z
    exact q _ _ _ _ hf e2 r
  | tuple ds =>
    obtain ⟨a, as, rfl, s1, r1, z⟩ := rx.tup e.le
    refine ⟨fun xs H Q => ∃ p ys, xs = [.ref p] ∧ (SqL S.K H p ys ∨ SqT S.K H p ys) ∧ ∀ l, H l = none → Q (.ref l) (upd H l (.lst ys)), fun X hX => hX.K ▸ call_list_of, a, as, rfl, .inr s1, fun p np => ?_⟩
    obtain ⟨e2, r⟩ := new_lst e np r1 z
    exact q _ _ _ _ hf e2 r
  | _ => exact hf.elim
/-- isinstance(x, T), T a built-in type -/
def tyD : D → String
  | .none => "NoneType"
  | .bool _ => "bool"
  | .int _ => "int"
  | .str _ => "str"
  | .list _ => "list"
  | .tuple _ => "tuple"
  | .dict _ => "dict"
def plainD : D → Bool
  | .dict es => !marked es
  | _ => true
def isiD (T : String) (x : D) : M D := M.need (plainD x = true) ((M.opt (kitB (tyD x) T)).bind fun b => M.pure (.bool b))
theorem tyX_of {ω : Option Addr} {K : PySem.W.Frag} {G H : Hp} {v : V} {d : D} (l : Le G H) (r : Rb ω K G H v d) (h : plainD d = true) : TyX K H v (.type (tyD d)) := by
  cases d with
  | none => cases r.non; exact .base .non
  | bool b => cases r.bl; exact .base (.bl b)
  | int b => cases r.int; exact .base (.int b)
  | str b => cases r.str; exact .base (.str b)
  | list ds =>
    obtain ⟨a, as, rfl, s1, r1, z⟩ := r.list l
    rcases s1 with s1 | ⟨o, s1⟩
    · exact .base (.lst s1)
    · exact .base (.frz s1)
  | tuple ds =>
    obtain ⟨a, as, rfl, s1, r1, z⟩ := r.tup l
    rcases s1 with (s1 | ⟨o, s1⟩) | ⟨o, its, n, h1, h2, _⟩
    · exact .base (.tup s1)
    · exact .fTuple s1
    · exact .kTuple h1 h2
  | dict es =>
    obtain ⟨a, rfl, _, ⟨kvs, s1, r1⟩ | ⟨kvs, es', rfl, s1, _⟩⟩ := noT r l
    · rcases s1 with s1 | ⟨o, s1⟩
      · exact .base (.dK s1)
      · exact .fDict s1
    · simp [plainD, marked] at h
theorem we_isi {Γ : En} {a : Expr} {ma : M D} {x t : Str} {T : String} {p p2 pos : Pos} (hb : BltAt S x (.builtin "isinstance")) (ht : BltAt S t (.type T)) (ha : WB S Γ a ma) (he : ∀ env, starEach [a, .Name t p2] env = (false, eval a env) :: starEach [.Name t p2] env := by intro _; rfl) :
    WE S Γ (.Call (.Name x p) [a, .Name t p2] [] pos) (ma.bind fun x => isiD T x) := by
  intro ω G0 H0 σ G H P Q E hm q
  refine ⟨_, fun X hX => hX.K ▸ pe_callB call_isi (gl_of hX hb.g) (by rw [hX.mg]; exact hb.m) hb.v (pa_cons (RE.pe hX a) (pa_cons (pe_bltn (v := .ty T) (gl_of hX ht.g) (by rw [hX.mg]; exact ht.m) ht.v rfl ht.n ht.d) pa_nil) (he _)) hb.n hb.d (he _) rfl, ?_⟩
  refine ha ω G0 H0 σ G H _ _ E hm fun d v G1 H1 hx e1 r1 => ?_
  obtain ⟨h1, b, h2, h3⟩ := hx
  exact ⟨v, .ty T, _, _, b, rfl, .ty T, tyX_of e1.le r1 h1, kit_ty h2, q _ _ _ _ h3 e1 (.bl b)⟩
end
end Wp
namespace Wp
open PySem PySem.Spec PyProof.Rows L2

section
variable {ω : Option Addr} {K : PySem.W.Frag} {G0 H0 G H G' H' : Hp} {Γ Γ' : En} {σ σ' : L2.St}
theorem EnvOk.fresh0 (E : EnvOk ω K G0 H0 Γ σ G H) {p : Addr} (hp : H p = none) : some p ≠ ω ∧ H0 p = none := by
  have h1 : some p ≠ ω := fun z => by
    obtain ⟨_, _, _, _, h, _⟩ := E.ext.dr p z.symm
    rw [hp] at h; cases h
  refine ⟨h1, ?_⟩
  cases q : H0 p with
  | none => rfl
  | some u => have := E.ext.hh p u h1 q; rw [hp] at this; cases this
/-- something new of one's own is stored -/
theorem EnvOk.putO (E : EnvOk ω K G0 H0 Γ σ G H) (e : Ext ω K G H G' H') {i : Nat} {p : Addr} {u : HO} {d : D} (hp : H p = none) (hG : G' p = none) (hH : H' p = some u) (r : RpO K G' u d) : EnvOk ω K G0 H0 (Γ.set i (some (.own d))) (σ.set i (some (.ref p))) G' H' := by
  obtain ⟨h1, h2⟩ := E.fresh0 hp
  refine (E.step e).put (c := .own d) ⟨p, u, rfl, h1, hH, hG, h2, r⟩ fun _ _ j e' hj hΓ hs => ?_
  obtain ⟨v, hv, o, u', rfl, _, ho, _⟩ := E.sl j _ hΓ
  rw [hv] at hs
  cases hs
  rw [hp] at ho; cases ho
/-- one's own is changed -/
theorem EnvOk.updO (E : EnvOk ω K G0 H0 Γ σ G H) {i : Nat} {o : Addr} {u' : HO} {d d' : D} (hi : Γ[i]? = some (some (.own d))) (hs : σ[i]? = some (some (.ref o))) (r : RpO K G u' d') : EnvOk ω K G0 H0 (Γ.set i (some (.own d'))) σ G (upd H o u') := by
  obtain ⟨v, hv, o', u, rfl, h1, h2, h3, h4, h5⟩ := E.sl i _ hi
  rw [hs] at hv
  cases hv
  refine ⟨⟨E.ext.gg, fun a w n e => ?_, fun a w e => ?_, E.ext.fr, fun b e => ?_⟩, by simpa using E.ln, fun j c h => ?_, fun a b da db w ha hb sa sb => ?_⟩
  · rw [upd_ne (fun z => by subst z; rw [h4] at e; cases e)]; exact E.ext.hh a w n e
  · have ha : a ≠ o := fun z => by
      subst z
      rcases e with e | ⟨q, e⟩ <;> (rw [h3] at e; cases e)
    rcases E.ext.le a w e with r | ⟨q, r⟩
    · exact .inl (by rw [upd_ne ha]; exact r)
    · exact .inr ⟨q, by rw [upd_ne ha]; exact r⟩
  · obtain ⟨g, vd, ds, at_, q1, q2, q3⟩ := E.ext.dr b e
    have hb : b ≠ o := fun z => h1 (by rw [← z, e])
    exact ⟨g, vd, ds, at_, by rw [upd_ne hb]; exact q1, q2, q3⟩
  · rcases getElem?_set_some h with ⟨rfl, e, hl⟩ | ⟨ne, h⟩
    · cases e
      exact ⟨.ref o, hs, o, u', rfl, h1, upd_same, h3, h4, r⟩
    · obtain ⟨v', g1, g2⟩ := E.sl j c h
      refine ⟨v', g1, ?_⟩
      cases c with
      | val e => exact g2
      | drw => exact g2
      | scr ns => exact g2
      | own e =>
        obtain ⟨o2, u2, rfl, q2, q3, q4, q5, q6⟩ := g2
        refine ⟨o2, u2, rfl, q2, ?_, q4, q5, q6⟩
        rw [upd_ne (fun z => ne (E.ds j i e d (.ref o) h hi (by rw [← z]; exact g1) hs))]
        exact q3
  · rcases getElem?_set_some ha with ⟨rfl, ea, _⟩ | ⟨na, ha'⟩
    · rcases getElem?_set_some hb with ⟨rfl, eb, _⟩ | ⟨nb, hb'⟩
      · rfl
      · exact E.ds _ _ d db w hi hb' sa sb
    · rcases getElem?_set_some hb with ⟨rfl, eb, _⟩ | ⟨nb, hb'⟩
      · exact E.ds _ _ da d w ha' hi sa sb
      · exact E.ds _ _ da db w ha' hb' sa sb
end

/-! ### something new of one's own -/
def WF (S : Sg) (Γ : En) (e : Expr) (m : M D) : Prop := ∀ (ω : Option Addr) (G0 H0 : Hp) (σ : L2.St) (G H : Hp) (P : D → Prop) (Q : VK), EnvOk ω S.K G0 H0 Γ σ G H → m P →
  (∀ d p u G' H', P d → Ext ω S.K G H G' H' → H p = none → G' p = none → H' p = some u → RpO S.K G' u d → Q (.ref p) H') → RE S e σ H Q
section
variable {S : Sg} {Γ Γ' : En} {e a b c e1 e2 e3 : Expr} {m ma mb mc me : M D} {pos pos' : Pos} {es : List Expr} {rest : List Stmt} {ρ : Type} {ι : ρ → Out}
theorem wf_lst {ms : M (List D)} (hs : WA S Γ es ms) (hl : es.length ≤ 1000 := by decide) : WF S Γ (.List es pos) (ms.bind fun ds => M.pure (.list ds)) := by
  intro ω G0 H0 σ G H P Q E hm q
  refine ⟨_, fun X hX => pe_lst (RA.pa hX es), ?_⟩
  refine hs ω G0 H0 σ G H _ _ E hm fun ds vs G1 H1 hx e1 r1 hd => ?_
  have z : ds.length ≤ sizeLine := by rw [hd]; exact Nat.le_of_lt (small1000 hl)
  refine ⟨by rw [r1.length]; exact z, fun p np => ?_⟩
  have hp : H p = none := by
    cases q : H p with
    | none => rfl
    | some u =>
      by_cases hω : some p = ω
      · obtain ⟨_, _, _, _, h, _⟩ := e1.dr p hω.symm
        rw [np] at h; cases h
      · have := e1.hh p u hω q; rw [np] at this; cases this
  exact q _ p _ G1 _ hx (e1.trans (e1.self.lay np)) hp (e1.le.none np) upd_same (.lst r1 z)
theorem wf_nil : WF S Γ (.List [] pos) (M.pure (.list [])) := fun ω G0 H0 σ G H P Q E hm q => wf_lst (pos := pos) wa_nil (by decide) ω G0 H0 σ G H P Q E hm q
theorem wf_dict0 : WF S Γ (.Dict [] [] pos) (M.pure (.dict [])) := by
  intro ω G0 H0 σ G H P Q E hm q
  exact ⟨_, fun X hX => pe_dnewK, fun p np => q _ p _ G _ hm (E.self.lay np) np (E.ext.le.none np) upd_same (.dK .nil (Nat.zero_le _))⟩
/-- x = something new, of one's own -/
theorem w_setF {i : Nat} {x : Str} {k : D → M ρ} (hx : SetAt S i x) (he : WF S Γ e me) (hk : ∀ d, W S (Γ.set i (some (.own d))) rest (k d) ι) (hs : ∀ env, swapsWith e (some (.Name x pos')) pos.line env = pure false := by intro _; rfl) :
    W S Γ (.Assign [.Name x pos'] e pos :: rest) (me.bind k) ι := by
  intro ω G0 H0 σ G H P Dn E hm q
  refine rs_cons (fun X hX => ps_set (i := i) (by rw [hX.N]; exact hX.nd) (by rw [hX.N]; exact hx.n) (by rw [hX.sc]; exact hx.l) (RE.pe hX e) (hs _) (hx.fx hX)) ?_
  refine he ω G0 H0 σ G H _ _ E hm fun d p u G1 H1 hP e1 h1 h2 h3 r1 => ?_
  exact hk d ω G0 H0 _ G1 H1 P Dn (E.putO e1 h1 h2 h3 r1) hP q

end

/-! ### several at once -/
/-- data, and new things of one's own (unlike one another) -/
inductive CtsOk (ω : Option Addr) (K : PySem.W.Frag) (H G' H' : Hp) : List V → List Ct → Prop
  | nil : CtsOk ω K H G' H' [] []
  | val {v : V} {vs : List V} {d : D} {cs : List Ct} : Rp K G' v d → CtsOk ω K H G' H' vs cs → CtsOk ω K H G' H' (v :: vs) (.val d :: cs)
  | own {p : Addr} {u : HO} {vs : List V} {d : D} {cs : List Ct} : H p = none → G' p = none → H' p = some u → RpO K G' u d → (∀ (j : Nat) e, cs[j]? = some (.own e) → vs[j]? ≠ some (.ref p)) → CtsOk ω K H G' H' vs cs → CtsOk ω K H G' H' (.ref p :: vs) (.own d :: cs)
theorem CtsOk.length {ω : Option Addr} {K : PySem.W.Frag} {H G' H' : Hp} {vs : List V} {cs : List Ct} (h : CtsOk ω K H G' H' vs cs) : vs.length = cs.length := by
  induction h with
  | nil => rfl
  | val _ _ ih => exact congrArg (· + 1) ih
  | own _ _ _ _ _ _ ih => exact congrArg (· + 1) ih
theorem CtsOk.fresh {ω : Option Addr} {K : PySem.W.Frag} {H G' H' : Hp} {vs : List V} {cs : List Ct} (h : CtsOk ω K H G' H' vs cs) : ∀ (j : Nat) e, cs[j]? = some (.own e) → ∃ p, vs[j]? = some (.ref p) ∧ H p = none := by
  induction h with
  | nil => intro j e h; simp at h
  | val _ _ ih => intro j e h; cases j with
    | zero => simp at h
    | succ j => simpa using ih j e (by simpa using h)
  | own h1 _ _ _ _ _ ih => intro j e h; cases j with
    | zero => exact ⟨_, rfl, h1⟩
    | succ j => simpa using ih j e (by simpa using h)
/-- the heap has grown further, ahead of it -/
theorem CtsOk.later {ω : Option Addr} {K : PySem.W.Frag} {H H1 G1 G' H' : Hp} {vs : List V} {cs : List Ct} (e : Ext ω K G1 H G1 H1) (h : CtsOk ω K H1 G' H' vs cs) : CtsOk ω K H G' H' vs cs := by
  induction h with
  | nil => exact .nil
  | val r _ ih => exact .val r ih
  | own h1 h2 h3 h4 h5 _ ih =>
    refine .own ?_ h2 h3 h4 h5 ih
    rename_i p _ _ _ _ _
    cases q : H p with
    | none => rfl
    | some u =>
      by_cases hω : some p = ω
      · obtain ⟨_, _, _, _, h, _⟩ := e.dr p hω.symm
        rw [h1] at h; cases h
      · have := e.hh p u hω q; rw [h1] at this; cases this
def setAll : L2.St → List Nat → List V → L2.St
  | σ, i :: is, v :: vs => setAll (σ.set i (some v)) is vs
  | σ, _, _ => σ
def setAllE : En → List Nat → List Ct → En
  | Γ, i :: is, c :: cs => setAllE (Γ.set i (some c)) is cs
  | Γ, _, _ => Γ
theorem EnvOk.puts {ω : Option Addr} {K : PySem.W.Frag} {G0 H0 H G' H' : Hp} {vs : List V} {cs : List Ct} (h : CtsOk ω K H G' H' vs cs) : ∀ {Γ : En} {σ : L2.St} (is : List Nat), EnvOk ω K G0 H0 Γ σ G' H' → (∀ p, H p = none → some p ≠ ω ∧ H0 p = none) → is.length = vs.length →
    (∀ (j : Nat) d v, Γ[j]? = some (some (.own d)) → σ[j]? = some (some v) → ∀ (k : Nat) e, cs[k]? = some (.own e) → vs[k]? ≠ some v) → EnvOk ω K G0 H0 (setAllE Γ is cs) (setAll σ is vs) G' H' := by
  induction h with
  | nil => intro Γ σ is E _ hl _; cases is <;> exact E
  | val r t ih =>
    intro Γ σ is E hf hl hd
    cases is with
    | nil => simp at hl
    | cons i is =>
      refine ih is (E.putV r) hf (by simpa using hl) fun j d w h1 h2 k e h3 => ?_
      rcases getElem?_set_some h1 with ⟨rfl, z, _⟩ | ⟨ne, h1⟩
      · cases z
      · rw [List.getElem?_set_ne (Ne.symm ne)] at h2
        have := hd j d w h1 h2 (k + 1) e (by simpa using h3)
        simpa using this
  | own h1 h2 h3 h4 h5 t ih =>
    intro Γ σ is E hf hl hd
    cases is with
    | nil => simp at hl
    | cons i is =>
      obtain ⟨f1, f2⟩ := hf _ h1
      refine ih is (E.put (c := .own _) ⟨_, _, rfl, f1, h3, h2, f2, h4⟩ fun d _ j e ne hΓ hs => ?_) hf (by simpa using hl) fun j d w g1 g2 k e g3 => ?_
      · exact hd j e _ hΓ hs 0 _ rfl rfl
      · rcases getElem?_set_some g1 with ⟨rfl, z, hi⟩ | ⟨ne, g1⟩
        · rw [List.getElem?_set_self (by rw [E.ln]; exact hi)] at g2
          cases g2
          exact h5 k e g3
        · rw [List.getElem?_set_ne (Ne.symm ne)] at g2
          have := hd j d w g1 g2 (k + 1) e (by simpa using g3)
          simpa using this
theorem EnvOk.putsN {ω : Option Addr} {K : PySem.W.Frag} {G0 H0 G H G' H' : Hp} {Γ : En} {σ : L2.St} {vs : List V} {cs : List Ct} (E : EnvOk ω K G0 H0 Γ σ G H) (e : Ext ω K G H G' H') (h : CtsOk ω K H G' H' vs cs) (is : List Nat) (hl : is.length = vs.length) : EnvOk ω K G0 H0 (setAllE Γ is cs) (setAll σ is vs) G' H' :=
  EnvOk.puts h is (E.step e) (fun p hp => E.fresh0 hp) hl fun j d v h1 h2 k e' h3 h4 => by
    obtain ⟨p, g1, g2⟩ := h.fresh k e' h3
    rw [g1] at h4
    obtain ⟨w, hw, o, u', rfl, _, ho, _⟩ := E.sl j _ h1
    rw [h2] at hw
    cases hw
    cases h4
    rw [g2] at ho; cases ho
theorem CtsOk.lay {ω : Option Addr} {K : PySem.W.Frag} {H G' H' : Hp} {vs : List V} {cs : List Ct} {p : Addr} {o : HO} (h : CtsOk ω K H G' H' vs cs) (np : H' p = none) : CtsOk ω K H G' (upd H' p o) vs cs := by
  induction h with
  | nil => exact .nil
  | val r _ ih => exact .val r ih
  | own h1 h2 h3 h4 h5 _ ih => exact .own h1 h2 (by rw [upd_ne (ne_of_none h3 np)]; exact h3) h4 h5 ih
def WX (S : Sg) (Γ : En) (es : List Expr) (m : M (List Ct)) : Prop := ∀ (ω : Option Addr) (G0 H0 : Hp) (σ : L2.St) (G H : Hp) (P : List Ct → Prop) (Q : List V → Hp → Prop), EnvOk ω S.K G0 H0 Γ σ G H → m P →
  (∀ cs vs G' H', P cs → Ext ω S.K G H G' H' → CtsOk ω S.K H G' H' vs cs → cs.length = es.length → Q vs H') → RA S es σ H Q
def ctB : Bool → D → Ct
  | true, d => .own d
  | false, d => .val d
/-- an expression whose value is a datum (false), or something new of one's own (true) -/
def WL (S : Sg) (Γ : En) : Bool → Expr → M D → Prop
  | true, e, m => WF S Γ e m
  | false, e, m => WE S Γ e m
/-- names at their slots -/
inductive TgsAt (S : Sg) : List Expr → List Nat → Prop
  | nil : TgsAt S [] []
  | cons {x : Str} {p : Pos} {i : Nat} {es : List Expr} {is : List Nat} : SetAt S i x → TgsAt S es is → TgsAt S (.Name x p :: es) (i :: is)
def env0 (sc : Scope) : Env := { scope := sc, locals := 0, globals := 0, cells := [] }
theorem swapped_congr {env env' : Env} (ts : List Expr) (v : Expr) (h : env.scope = env'.scope) : swappedStores ts v env = swappedStores ts v env' := by
  unfold swappedStores Env.kindOf Env.blockKind
  rw [h]
section
variable {S : Sg} {Γ Γ' : En} {e a b c e1 e2 e3 : Expr} {m ma mb mc md me : M D} {pos pos' : Pos} {es : List Expr} {rest : List Stmt} {ρ : Type} {ι : ρ → Out}
theorem wx_nil : WX S Γ [] (M.pure []) := fun ω G0 H0 σ G H P Q E hm q => ⟨_, fun X hX => pa_nil, q [] [] G H hm E.self .nil rfl⟩
theorem CtsOk.ext {ω : Option Addr} {K : PySem.W.Frag} {H G' H' G2 H2 : Hp} {vs : List V} {cs : List Ct} (h : CtsOk ω K H G' H' vs cs) (e : Ext ω K G' H' G2 H2) (hω : ∀ p, H p = none → some p ≠ ω) : CtsOk ω K H G2 H2 vs cs := by
  induction h with
  | nil => exact .nil
  | val r _ ih => exact .val (r.ext e) ih
  | own h1 h2 h3 h4 h5 _ ih => exact .own h1 (e.fr _ _ h3 h2) (e.hh _ _ (hω _ h1) h3) (h4.le (e.gg)) h5 ih
theorem wx_cons {o : Bool} {ms : M (List Ct)} (ha : WL S Γ o a ma) (hs : WX S Γ es ms) (he : ∀ env, starEach (a :: es) env = (false, eval a env) :: starEach es env := by intro _; rfl) :
    WX S Γ (a :: es) (ma.bind fun x => ms.bind fun xs => M.pure (ctB o x :: xs)) := by
  intro ω G0 H0 σ G H P Q E hm q
  refine ⟨_, fun X hX => pa_cons (RE.pe hX a) (RA.pa hX es) (he _), ?_⟩
  cases o with
  | false =>
    refine ha ω G0 H0 σ G H _ _ E hm fun x v G1 H1 hx e1 r1 => ?_
    refine hs ω G0 H0 σ G1 H1 _ _ (E.step e1) hx fun xs vs G2 H2 hy e2 r2 l2 => ?_
    refine q (.val x :: xs) (v :: vs) G2 H2 hy (e1.trans e2) (.val (r1.ext e2) (r2.later (G1 := G1) ⟨Same.refl _, e1.hh, e1.le, fun _ _ _ h => h, e1.dr⟩)) (congrArg (· + 1) l2)
  | true =>
    refine ha ω G0 H0 σ G H _ _ E hm fun x p u G1 H1 hx e1 g1 g2 g3 r1 => ?_
    refine hs ω G0 H0 σ G1 H1 _ _ (E.step e1) hx fun xs vs G2 H2 hy e2 r2 l2 => ?_
    have hω := (E.fresh0 g1).1
    refine q (.own x :: xs) (.ref p :: vs) G2 H2 hy (e1.trans e2) (.own g1 (e2.fr _ _ g3 g2) (e2.hh _ _ hω g3) (r1.le (e2.gg)) (fun j e h1 h2 => ?_) (r2.later (G1 := G1) ⟨Same.refl _, e1.hh, e1.le, fun _ _ _ h => h, e1.dr⟩)) (congrArg (· + 1) l2)
    obtain ⟨p', k1, k2⟩ := r2.fresh j e h1
    rw [h2] at k1
    cases k1
    rw [g3] at k2; cases k2
def RGs (S : Sg) (es : List Expr) : TGs := fun vs σ H Q => ∃ t, (∀ X, S.Of X → PGs X es t) ∧ t vs σ H Q
theorem RGs.pgs {X : Cx} (hX : S.Of X) (es : List Expr) : PGs X es (RGs S es) := ⟨fun pins s σ H vs us Q I r ⟨t, h, q⟩ => (h X hX).run pins s σ H vs us Q I r q⟩
theorem tgs_ok {es : List Expr} {is : List Nat} (h : TgsAt S es is) : ∀ (vs : List V) (σ : L2.St) (H : Hp) (Q : L2.St → Hp → Prop), vs.length = es.length → Q (setAll σ is vs) H → RGs S es vs σ H Q := by
  induction h with
  | nil => intro vs σ H Q hl q; cases vs with
    | nil => exact ⟨_, fun X hX => pgs_nil, rfl, q⟩
    | cons _ _ => simp at hl
  | cons hx t ih =>
    intro vs σ H Q hl q
    cases vs with
    | nil => simp at hl
    | cons v vs =>
      exact ⟨_, fun X hX => pgs_cons (pg_name (by rw [hX.N]; exact hX.nd) (by rw [hX.N]; exact hx.n) (by rw [hX.sc]; exact hx.l) (hx.fx hX)) (RGs.pgs hX _) (by rfl), v, vs, rfl, ih vs _ H Q (by simpa using hl) q⟩
theorem TgsAt.length {es : List Expr} {is : List Nat} (h : TgsAt S es is) : is.length = es.length := by
  induction h with
  | nil => rfl
  | cons _ _ ih => exact congrArg (· + 1) ih
/-- a, b, .. = x, y, .. through a tuple -/
theorem w_parN {ts : List Expr} {is : List Nat} {ms : M (List Ct)} {k : List Ct → M ρ} {kt k2 : Nat} {pt pt2 : Pos} (ht : TgsAt S ts is) (hs : WX S Γ es ms) (hl : ts.length = es.length) (hl2 : es.length ≤ 1000)
    (hw : swappedStores [.Tuple ts kt pt] (.Tuple es k2 pt2) (env0 S.sc) = pure none) (hk : ∀ cs, W S (setAllE Γ is cs) rest (k cs) ι)
    (hn : ∀ env, (assignEach ts env).length = ts.length := by intro _; rfl) (hst : ∀ env, (assignEach ts env).findIdx? (·.1) = none := by intro _; rfl) :
    W S Γ (.Assign [.Tuple ts kt pt] (.Tuple es k2 pt2) pos :: rest) (ms.bind k) ι := by
  intro ω G0 H0 σ G H P Dn E hm q
  refine rs_cons (t := tAsg (tTup (RA S es)) (gTup S.K ts.length (RGs S ts))) (fun X hX => by
    have h := ps_asg (X := X) (pos := pos) (pe_tup (x1 := k2) (pos := pt2) (RA.pa hX es)) (pg_tup (X := X) (k := kt) (pos := pt) hX.calm (RGs.pgs hX ts) (hn _) (hst _)) rfl (by rw [swapped_congr _ _ (show X.env.scope = (env0 S.sc).scope from hX.sc)]; exact hw)
    rw [hX.K] at h; exact h) ?_
  refine hs ω G0 H0 σ G H _ _ E hm fun cs vs G1 H1 hx e1 r1 l1 => ?_
  have lv := r1.length
  refine ⟨by rw [lv, l1]; exact Nat.le_of_lt (small1000 hl2), fun p np => ⟨p, vs, rfl, .inl (.inl upd_same), by omega, ?_⟩⟩
  refine tgs_ok ht vs σ _ _ (by omega) ?_
  have hp : H p = none := by
    cases q : H p with
    | none => rfl
    | some u =>
      by_cases hω : some p = ω
      · obtain ⟨_, _, _, _, h, _⟩ := e1.dr p hω.symm
        rw [np] at h; cases h
      · have := e1.hh p u hω q; rw [np] at this; cases this
  refine hk cs ω G0 H0 _ G1 _ P Dn (E.putsN (e1.trans (e1.self.lay (o := .tup vs) np)) (r1.lay np) is (by rw [ht.length]; omega)) hx q
/-- a, b = x, y: plain locals, swapped on the stack -/
theorem w_sw2 {i j : Nat} {x y : Str} {ms : M (List Ct)} {k : List Ct → M ρ} {px py pt pt2 : Pos} {kt k2 : Nat} (hx : SetAt S i x) (hy : SetAt S j y) (hij : i ≠ j) (lx : S.sc.names.lookup x = some .local) (ly : S.sc.names.lookup y = some .local) (hs : WX S Γ [a, b] ms)
    (hw : swappedStores [.Tuple [.Name x px, .Name y py] kt pt] (.Tuple [a, b] k2 pt2) (env0 S.sc) = pure (some [x, y])) (hk : ∀ cs, W S (setAllE Γ [i, j] cs) rest (k cs) ι) :
    W S Γ (.Assign [.Tuple [.Name x px, .Name y py] kt pt] (.Tuple [a, b] k2 pt2) pos :: rest) (ms.bind k) ι := by
  intro ω G0 H0 σ G H P Dn E hm q
  refine rs_cons (fun X hX => ps_par (i := i) (j := j) hX.calm (by rw [hX.N]; exact hX.nd) (by rw [hX.N]; exact hx.n) (by rw [hX.N]; exact hy.n) hij (by rw [hX.sc]; exact lx) (by rw [hX.sc]; exact ly) (RA.pa hX [a, b]) (by rw [swapped_congr _ _ (show X.env.scope = (env0 S.sc).scope from hX.sc)]; exact hw)) ?_
  refine hs ω G0 H0 σ G H _ _ E hm fun cs vs G1 H1 hx' e1 r1 l1 => ?_
  have lv := r1.length
  match vs, lv.trans l1 with
  | [v, w], _ =>
    refine ⟨v, w, rfl, ?_⟩
    exact hk cs ω G0 H0 _ G1 H1 P Dn (E.putsN e1 r1 [i, j] rfl) hx' q
theorem w_sw3 {i j l : Nat} {x y z : Str} {ms : M (List Ct)} {k : List Ct → M ρ} {px py pz pt pt2 : Pos} {kt k2 : Nat} (hx : SetAt S i x) (hy : SetAt S j y) (hz : SetAt S l z) (hij : i ≠ j) (hil : i ≠ l) (hjl : j ≠ l) (lx : S.sc.names.lookup x = some .local) (ly : S.sc.names.lookup y = some .local) (lz : S.sc.names.lookup z = some .local) (hs : WX S Γ [a, b, c] ms)
    (hw : swappedStores [.Tuple [.Name x px, .Name y py, .Name z pz] kt pt] (.Tuple [a, b, c] k2 pt2) (env0 S.sc) = pure (some [x, y, z])) (hk : ∀ cs, W S (setAllE Γ [i, j, l] cs) rest (k cs) ι) :
    W S Γ (.Assign [.Tuple [.Name x px, .Name y py, .Name z pz] kt pt] (.Tuple [a, b, c] k2 pt2) pos :: rest) (ms.bind k) ι := by
  intro ω G0 H0 σ G H P Dn E hm q
  refine rs_cons (fun X hX => ps_par3 (i := i) (j := j) (l := l) hX.calm (by rw [hX.N]; exact hX.nd) (by rw [hX.N]; exact hx.n) (by rw [hX.N]; exact hy.n) (by rw [hX.N]; exact hz.n) hij hil hjl (by rw [hX.sc]; exact lx) (by rw [hX.sc]; exact ly) (by rw [hX.sc]; exact lz) (RA.pa hX [a, b, c]) (by rw [swapped_congr _ _ (show X.env.scope = (env0 S.sc).scope from hX.sc)]; exact hw)) ?_
  refine hs ω G0 H0 σ G H _ _ E hm fun cs vs G1 H1 hx' e1 r1 l1 => ?_
  have lv := r1.length
  match vs, lv.trans l1 with
  | [v, w, u], _ =>
    refine ⟨v, w, u, rfl, ?_⟩
    exact hk cs ω G0 H0 _ G1 H1 P Dn (E.putsN e1 r1 [i, j, l] rfl) hx' q

/-! the same, told datum by datum -/
def Ct.dat : Ct → D
  | .val d => d
  | .own d => d
  | .drw => .none
  | .scr _ => .none
theorem dat_ctB (o : Bool) (x : D) : (ctB o x).dat = x := by cases o <;> rfl
def k2D (oa ob : Bool) (k : D → D → M ρ) : List Ct → M ρ
  | [c1, c2] => M.need (c1 = ctB oa c1.dat ∧ c2 = ctB ob c2.dat) (k c1.dat c2.dat)
  | _ => M.fail
def k3D (oa ob oc : Bool) (k : D → D → D → M ρ) : List Ct → M ρ
  | [c1, c2, c3] => M.need (c1 = ctB oa c1.dat ∧ c2 = ctB ob c2.dat ∧ c3 = ctB oc c3.dat) (k c1.dat c2.dat c3.dat)
  | _ => M.fail
def k4D (oa ob oc od : Bool) (k : D → D → D → D → M ρ) : List Ct → M ρ
  | [c1, c2, c3, c4] => M.need (c1 = ctB oa c1.dat ∧ c2 = ctB ob c2.dat ∧ c3 = ctB oc c3.dat ∧ c4 = ctB od c4.dat) (k c1.dat c2.dat c3.dat c4.dat)
  | _ => M.fail
def k5D (oa ob oc od oe : Bool) (k : D → D → D → D → D → M ρ) : List Ct → M ρ
  | [c1, c2, c3, c4, c5] => M.need (c1 = ctB oa c1.dat ∧ c2 = ctB ob c2.dat ∧ c3 = ctB oc c3.dat ∧ c4 = ctB od c4.dat ∧ c5 = ctB oe c5.dat) (k c1.dat c2.dat c3.dat c4.dat c5.dat)
  | _ => M.fail
theorem k2D_eq {oa ob : Bool} {k : D → D → M ρ} (x y : D) : k2D oa ob k [ctB oa x, ctB ob y] = k x y := by
  funext P; simp [k2D, M.need, dat_ctB]
theorem k3D_eq {oa ob oc : Bool} {k : D → D → D → M ρ} (x y z : D) : k3D oa ob oc k [ctB oa x, ctB ob y, ctB oc z] = k x y z := by
  funext P; simp [k3D, M.need, dat_ctB]
theorem k4D_eq {oa ob oc od : Bool} {k : D → D → D → D → M ρ} (x y z u : D) : k4D oa ob oc od k [ctB oa x, ctB ob y, ctB oc z, ctB od u] = k x y z u := by
  funext P; simp [k4D, M.need, dat_ctB]
theorem k5D_eq {oa ob oc od oe : Bool} {k : D → D → D → D → D → M ρ} (x y z u v : D) : k5D oa ob oc od oe k [ctB oa x, ctB ob y, ctB oc z, ctB od u, ctB oe v] = k x y z u v := by
  funext P; simp [k5D, M.need, dat_ctB]
theorem w_need {c : Prop} {sts : List Stmt} {m : M ρ} (h : c → W S Γ sts m ι) : W S Γ sts (M.need c m) ι := fun ω G0 H0 σ G H P Dn E hm q => h hm.1 ω G0 H0 σ G H P Dn E hm.2 q
theorem w_fail {sts : List Stmt} : W S Γ sts M.fail ι := fun ω G0 H0 σ G H P Dn E hm q => hm.elim
theorem k2D_w {oa ob : Bool} {k : D → D → M ρ} {is : List Nat} (hk : ∀ x y, W S (setAllE Γ is [ctB oa x, ctB ob y]) rest (k x y) ι) (cs : List Ct) : W S (setAllE Γ is cs) rest (k2D oa ob k cs) ι := by
  match cs with
  | [c1, c2] =>
    refine w_need fun h => ?_
    have := hk c1.dat c2.dat
    rw [← h.1, ← h.2] at this
    exact this
  | [] => exact w_fail
  | [_] => exact w_fail
  | _ :: _ :: _ :: _ => exact w_fail
theorem k3D_w {oa ob oc : Bool} {k : D → D → D → M ρ} {is : List Nat} (hk : ∀ x y z, W S (setAllE Γ is [ctB oa x, ctB ob y, ctB oc z]) rest (k x y z) ι) (cs : List Ct) : W S (setAllE Γ is cs) rest (k3D oa ob oc k cs) ι := by
  match cs with
  | [c1, c2, c3] =>
    refine w_need fun h => ?_
    have := hk c1.dat c2.dat c3.dat
    rw [← h.1, ← h.2.1, ← h.2.2] at this
    exact this
  | [] => exact w_fail
  | [_] => exact w_fail
  | [_, _] => exact w_fail
  | _ :: _ :: _ :: _ :: _ => exact w_fail
theorem k4D_w {oa ob oc od : Bool} {k : D → D → D → D → M ρ} {is : List Nat} (hk : ∀ x y z u, W S (setAllE Γ is [ctB oa x, ctB ob y, ctB oc z, ctB od u]) rest (k x y z u) ι) (cs : List Ct) : W S (setAllE Γ is cs) rest (k4D oa ob oc od k cs) ι := by
  match cs with
  | [c1, c2, c3, c4] =>
    refine w_need fun h => ?_
    have := hk c1.dat c2.dat c3.dat c4.dat
    rw [← h.1, ← h.2.1, ← h.2.2.1, ← h.2.2.2] at this
    exact this
  | [] => exact w_fail
  | [_] => exact w_fail
  | [_, _] => exact w_fail
  | [_, _, _] => exact w_fail
  | _ :: _ :: _ :: _ :: _ :: _ => exact w_fail
theorem k5D_w {oa ob oc od oe : Bool} {k : D → D → D → D → D → M ρ} {is : List Nat} (hk : ∀ x y z u v, W S (setAllE Γ is [ctB oa x, ctB ob y, ctB oc z, ctB od u, ctB oe v]) rest (k x y z u v) ι) (cs : List Ct) : W S (setAllE Γ is cs) rest (k5D oa ob oc od oe k cs) ι := by
  match cs with
  | [c1, c2, c3, c4, c5] =>
    refine w_need fun h => ?_
    have := hk c1.dat c2.dat c3.dat c4.dat c5.dat
    rw [← h.1, ← h.2.1, ← h.2.2.1, ← h.2.2.2.1, ← h.2.2.2.2] at this
    exact this
  | [] => exact w_fail
  | [_] => exact w_fail
  | [_, _] => exact w_fail
  | [_, _, _] => exact w_fail
  | [_, _, _, _] => exact w_fail
  | _ :: _ :: _ :: _ :: _ :: _ :: _ => exact w_fail
/-- the same block by an equal mirror -/
theorem w_eq {sts : List Stmt} {m m' : M ρ} (e : m' = m) (h : W S Γ sts m ι) : W S Γ sts m' ι := by rw [e]; exact h
variable {ts : List Expr} {is : List Nat} {kt kk : Nat} {pt pt2 px py pz : Pos} {oa ob oc od oe : Bool} {a1 a2 a3 a4 a5 : Expr} {m1 m2 m3 m4 m5 : M D}
theorem w_par2 {k : D → D → M ρ} (ht : TgsAt S ts is) (h1 : WL S Γ oa a1 m1) (h2 : WL S Γ ob a2 m2) (hl : ts.length = 2) (hw : swappedStores [.Tuple ts kt pt] (.Tuple [a1, a2] kk pt2) (env0 S.sc) = pure none)
    (hk : ∀ x y, W S (setAllE Γ is [ctB oa x, ctB ob y]) rest (k x y) ι)
    (e1 : ∀ env, starEach [a1, a2] env = (false, eval a1 env) :: starEach [a2] env := by intro _; rfl) (e2 : ∀ env, starEach [a2] env = (false, eval a2 env) :: starEach [] env := by intro _; rfl)
    (hn : ∀ env, (assignEach ts env).length = ts.length := by intro _; rfl) (hst : ∀ env, (assignEach ts env).findIdx? (·.1) = none := by intro _; rfl) :
    W S Γ (.Assign [.Tuple ts kt pt] (.Tuple [a1, a2] kk pt2) pos :: rest) (m1.bind fun x => m2.bind fun y => k x y) ι := by
  refine w_eq ?_ (w_parN ht (wx_cons h1 (wx_cons h2 wx_nil e2) e1) hl (by show 2 ≤ 1000; decide) hw (k2D_w hk) hn hst)
  simp only [← k2D_eq (oa := oa) (ob := ob) (k := k)]
  rfl
theorem w_par3 {k : D → D → D → M ρ} (ht : TgsAt S ts is) (h1 : WL S Γ oa a1 m1) (h2 : WL S Γ ob a2 m2) (h3 : WL S Γ oc a3 m3) (hl : ts.length = 3) (hw : swappedStores [.Tuple ts kt pt] (.Tuple [a1, a2, a3] kk pt2) (env0 S.sc) = pure none)
    (hk : ∀ x y z, W S (setAllE Γ is [ctB oa x, ctB ob y, ctB oc z]) rest (k x y z) ι)
    (e1 : ∀ env, starEach [a1, a2, a3] env = (false, eval a1 env) :: starEach [a2, a3] env := by intro _; rfl) (e2 : ∀ env, starEach [a2, a3] env = (false, eval a2 env) :: starEach [a3] env := by intro _; rfl) (e3 : ∀ env, starEach [a3] env = (false, eval a3 env) :: starEach [] env := by intro _; rfl)
    (hn : ∀ env, (assignEach ts env).length = ts.length := by intro _; rfl) (hst : ∀ env, (assignEach ts env).findIdx? (·.1) = none := by intro _; rfl) :
    W S Γ (.Assign [.Tuple ts kt pt] (.Tuple [a1, a2, a3] kk pt2) pos :: rest) (m1.bind fun x => m2.bind fun y => m3.bind fun z => k x y z) ι := by
  refine w_eq ?_ (w_parN ht (wx_cons h1 (wx_cons h2 (wx_cons h3 wx_nil e3) e2) e1) hl (by show 3 ≤ 1000; decide) hw (k3D_w hk) hn hst)
  simp only [← k3D_eq (oa := oa) (ob := ob) (oc := oc) (k := k)]
  rfl
theorem w_par4 {k : D → D → D → D → M ρ} (ht : TgsAt S ts is) (h1 : WL S Γ oa a1 m1) (h2 : WL S Γ ob a2 m2) (h3 : WL S Γ oc a3 m3) (h4 : WL S Γ od a4 m4) (hl : ts.length = 4) (hw : swappedStores [.Tuple ts kt pt] (.Tuple [a1, a2, a3, a4] kk pt2) (env0 S.sc) = pure none)
    (hk : ∀ x y z u, W S (setAllE Γ is [ctB oa x, ctB ob y, ctB oc z, ctB od u]) rest (k x y z u) ι)
    (e1 : ∀ env, starEach [a1, a2, a3, a4] env = (false, eval a1 env) :: starEach [a2, a3, a4] env := by intro _; rfl) (e2 : ∀ env, starEach [a2, a3, a4] env = (false, eval a2 env) :: starEach [a3, a4] env := by intro _; rfl) (e3 : ∀ env, starEach [a3, a4] env = (false, eval a3 env) :: starEach [a4] env := by intro _; rfl) (e4 : ∀ env, starEach [a4] env = (false, eval a4 env) :: starEach [] env := by intro _; rfl)
    (hn : ∀ env, (assignEach ts env).length = ts.length := by intro _; rfl) (hst : ∀ env, (assignEach ts env).findIdx? (·.1) = none := by intro _; rfl) :
    W S Γ (.Assign [.Tuple ts kt pt] (.Tuple [a1, a2, a3, a4] kk pt2) pos :: rest) (m1.bind fun x => m2.bind fun y => m3.bind fun z => m4.bind fun u => k x y z u) ι := by
  refine w_eq ?_ (w_parN ht (wx_cons h1 (wx_cons h2 (wx_cons h3 (wx_cons h4 wx_nil e4) e3) e2) e1) hl (by show 4 ≤ 1000; decide) hw (k4D_w hk) hn hst)
  simp only [← k4D_eq (oa := oa) (ob := ob) (oc := oc) (od := od) (k := k)]
  rfl
theorem w_par5 {k : D → D → D → D → D → M ρ} (ht : TgsAt S ts is) (h1 : WL S Γ oa a1 m1) (h2 : WL S Γ ob a2 m2) (h3 : WL S Γ oc a3 m3) (h4 : WL S Γ od a4 m4) (h5 : WL S Γ oe a5 m5) (hl : ts.length = 5) (hw : swappedStores [.Tuple ts kt pt] (.Tuple [a1, a2, a3, a4, a5] kk pt2) (env0 S.sc) = pure none)
    (hk : ∀ x y z u v, W S (setAllE Γ is [ctB oa x, ctB ob y, ctB oc z, ctB od u, ctB oe v]) rest (k x y z u v) ι)
    (e1 : ∀ env, starEach [a1, a2, a3, a4, a5] env = (false, eval a1 env) :: starEach [a2, a3, a4, a5] env := by intro _; rfl) (e2 : ∀ env, starEach [a2, a3, a4, a5] env = (false, eval a2 env) :: starEach [a3, a4, a5] env := by intro _; rfl) (e3 : ∀ env, starEach [a3, a4, a5] env = (false, eval a3 env) :: starEach [a4, a5] env := by intro _; rfl) (e4 : ∀ env, starEach [a4, a5] env = (false, eval a4 env) :: starEach [a5] env := by intro _; rfl) (e5 : ∀ env, starEach [a5] env = (false, eval a5 env) :: starEach [] env := by intro _; rfl)
    (hn : ∀ env, (assignEach ts env).length = ts.length := by intro _; rfl) (hst : ∀ env, (assignEach ts env).findIdx? (·.1) = none := by intro _; rfl) :
    W S Γ (.Assign [.Tuple ts kt pt] (.Tuple [a1, a2, a3, a4, a5] kk pt2) pos :: rest) (m1.bind fun x => m2.bind fun y => m3.bind fun z => m4.bind fun u => m5.bind fun v => k x y z u v) ι := by
  refine w_eq ?_ (w_parN ht (wx_cons h1 (wx_cons h2 (wx_cons h3 (wx_cons h4 (wx_cons h5 wx_nil e5) e4) e3) e2) e1) hl (by show 5 ≤ 1000; decide) hw (k5D_w hk) hn hst)
  simp only [← k5D_eq (oa := oa) (ob := ob) (oc := oc) (od := od) (oe := oe) (k := k)]
  rfl
theorem w_swp2 {i j : Nat} {x y : Str} {k : D → D → M ρ} (hx : SetAt S i x) (hy : SetAt S j y) (hij : i ≠ j) (lx : S.sc.names.lookup x = some .local) (ly : S.sc.names.lookup y = some .local) (h1 : WL S Γ oa a1 m1) (h2 : WL S Γ ob a2 m2)
    (hw : swappedStores [.Tuple [.Name x px, .Name y py] kt pt] (.Tuple [a1, a2] kk pt2) (env0 S.sc) = pure (some [x, y])) (hk : ∀ x y, W S (setAllE Γ [i, j] [ctB oa x, ctB ob y]) rest (k x y) ι)
    (e1 : ∀ env, starEach [a1, a2] env = (false, eval a1 env) :: starEach [a2] env := by intro _; rfl) (e2 : ∀ env, starEach [a2] env = (false, eval a2 env) :: starEach [] env := by intro _; rfl) :
    W S Γ (.Assign [.Tuple [.Name x px, .Name y py] kt pt] (.Tuple [a1, a2] kk pt2) pos :: rest) (m1.bind fun x => m2.bind fun y => k x y) ι := by
  refine w_eq ?_ (w_sw2 hx hy hij lx ly (wx_cons h1 (wx_cons h2 wx_nil e2) e1) hw (k2D_w hk))
  simp only [← k2D_eq (oa := oa) (ob := ob) (k := k)]
  rfl
theorem w_swp3 {i j l : Nat} {x y z : Str} {k : D → D → D → M ρ} (hx : SetAt S i x) (hy : SetAt S j y) (hz : SetAt S l z) (hij : i ≠ j) (hil : i ≠ l) (hjl : j ≠ l) (lx : S.sc.names.lookup x = some .local) (ly : S.sc.names.lookup y = some .local) (lz : S.sc.names.lookup z = some .local) (h1 : WL S Γ oa a1 m1) (h2 : WL S Γ ob a2 m2) (h3 : WL S Γ oc a3 m3)
    (hw : swappedStores [.Tuple [.Name x px, .Name y py, .Name z pz] kt pt] (.Tuple [a1, a2, a3] kk pt2) (env0 S.sc) = pure (some [x, y, z])) (hk : ∀ x y z, W S (setAllE Γ [i, j, l] [ctB oa x, ctB ob y, ctB oc z]) rest (k x y z) ι)
    (e1 : ∀ env, starEach [a1, a2, a3] env = (false, eval a1 env) :: starEach [a2, a3] env := by intro _; rfl) (e2 : ∀ env, starEach [a2, a3] env = (false, eval a2 env) :: starEach [a3] env := by intro _; rfl) (e3 : ∀ env, starEach [a3] env = (false, eval a3 env) :: starEach [] env := by intro _; rfl) :
    W S Γ (.Assign [.Tuple [.Name x px, .Name y py, .Name z pz] kt pt] (.Tuple [a1, a2, a3] kk pt2) pos :: rest) (m1.bind fun x => m2.bind fun y => m3.bind fun z => k x y z) ι := by
  refine w_eq ?_ (w_sw3 hx hy hz hij hil hjl lx ly lz (wx_cons h1 (wx_cons h2 (wx_cons h3 wx_nil e3) e2) e1) hw (k3D_w hk))
  simp only [← k3D_eq (oa := oa) (ob := ob) (oc := oc) (k := k)]
  rfl
/-- a, b = e: e a tuple -/
theorem w_asg {α : Type} {tg : Expr} {dec : D → M α} {g : α → En → En} {us : List Nat} {k : α → M ρ} (he : WE S Γ e me) (hg : WG S tg dec g us) (hk : ∀ a, W S (g a Γ) rest (k a) ι)
    (hs : ∀ env, swapsWithSole [tg] e pos.line env = pure false := by intro _; rfl) (hw : ∀ env, swappedStores [tg] e env = pure none := by intro _; rfl)
    (h1 : ∀ env, (assignEach [tg] env).map (·.2) = [assign tg env] := by intro _; rfl) : W S Γ (.Assign [tg] e pos :: rest) (me.bind fun d => (dec d).bind fun a => k a) ι := by
  intro ω G0 H0 σ G H P Dn E hm q
  refine rs_cons (fun X hX => ps_asg (RE.pe hX e) (RG.pg hX tg) (hs _) (hw _) (h1 _)) ?_
  refine he ω G0 H0 σ G H _ _ E hm fun d v G1 H1 hP e1 r1 => ?_
  exact hg ω G0 H0 Γ σ G1 H1 v d _ _ (E.step e1) r1 hP fun a σ' ha E' _ => hk a ω G0 H0 σ' G1 H1 P Dn E' ha q
end
end Wp
namespace Wp
open PySem PySem.Spec PyProof.Rows L2

section
variable {S : Sg} {Γ Γ' : En} {e a b c e1 e2 e3 : Expr} {m ma mb mc md me : M D} {pos pos' apos cpos npos : Pos} {es : List Expr} {rest : List Stmt} {ρ : Type} {ι : ρ → Out}
/-! ### x op= e -/
def IpOk (S : Sg) (op : Operator) (f : D → D → M D) : Prop := OpOk S (inplaceOp op) f
def iaddD : D → D → M D
  | .int i, .int j => M.pure (.int (i + j))
  | .str x, .str y => M.need (x.length + y.length ≤ 16777216) (M.pure (.str (x ++ y)))
  | _, _ => M.fail
theorem iadd_ok : IpOk S .Add iaddD := by
  intro ω G H x y v u P Q e rx ry hf q
  cases x with
  | int i => cases y with
    | int j => cases rx.int; cases ry.int; exact ⟨_, fun X hX => iop_add, i, j, rfl, rfl, q _ _ _ _ hf e (.int _)⟩
    | _ => exact hf.elim
  | str i => cases y with
    | str j => cases rx.str; cases ry.str; exact ⟨_, fun X hX => iop_add_str, i, j, rfl, rfl, line_le hf.1, q _ _ _ _ hf.2 e (.str _)⟩
    | _ => exact hf.elim
  | _ => exact hf.elim
theorem isub_ok : IpOk S .Sub subD := by
  intro ω G H x y v u P Q e rx ry hf q
  cases x with
  | int i => cases y with
    | int j => cases rx.int; cases ry.int; exact ⟨_, fun X hX => iop_sub, i, j, rfl, rfl, q _ _ _ _ hf e (.int _)⟩
    | _ => exact hf.elim
  | _ => exact hf.elim
theorem w_aug {i : Nat} {x : Str} {op : Operator} {f : D → D → M D} {d : D} {k : D → M ρ} (hx : SetAt S i x) (hi : Γ[i]? = some (some (.val d))) (ho : IpOk S op f) (he : WE S Γ e me) (hk : ∀ z, W S (Γ.set i (some (.val z))) rest (k z) ι) :
    W S Γ (.AugAssign (.Name x pos') op e pos :: rest) (me.bind fun y => (f d y).bind k) ι := by
  intro ω G0 H0 σ G H P Dn E hm q
  refine rs_cons (fun X hX => ps_aug (i := i) (ti := ROp S (inplaceOp op)) (by rw [hX.N]; exact hX.nd) (by rw [hX.N]; exact hx.n) (by rw [hX.sc]; exact hx.l) (RE.pe hX e) (fun pins s σ H x y v u Q I r1 r2 h => ROp.op hX _ pins s σ H x y v u Q I r1 r2 h) (hx.fx hX)) ?_
  obtain ⟨v, h1, h2⟩ := E.sl i _ hi
  refine ⟨v, h1, he ω G0 H0 σ G H _ _ E hm fun y u G1 H1 hP e1 r1 => ?_⟩
  refine ho ω G1 H1 d y v u _ _ e1.self (.inl (Rp.ext h2 e1)) (.inl r1) hP fun z w G2 H2 hz e2 r2 => ?_
  exact hk z ω G0 H0 _ G2 H2 P Dn ((E.step (e1.trans e2)).putV r2) hz q

/-! ### what changes one's own -/
def appD : D → D → M D
  | .list ds, y => M.need (ds.length < 16777216) (M.pure (.list (ds ++ [y])))
  | _, _ => M.fail
def isL : D → Bool
  | .list _ => true
  | _ => false
def isDi : D → Bool
  | .dict _ => true
  | _ => false
theorem own_list {ω : Option Addr} {K : PySem.W.Frag} {G0 H0 G H : Hp} {σ : L2.St} {i : Nat} {d : D} (E : EnvOk ω K G0 H0 Γ σ G H) (hi : Γ[i]? = some (some (.own d))) (hd : isL d = true) : ∃ o xs ds, σ[i]? = some (some (.ref o)) ∧ d = .list ds ∧ H o = some (.lst xs) ∧ RpA K G xs ds ∧ ds.length ≤ sizeLine := by
  obtain ⟨v, hv, o, u, rfl, g1, g2, g3, g4, g5⟩ := E.sl i _ hi
  cases g5 with
  | lst r z => exact ⟨o, _, _, hv, rfl, g2, r, z⟩
  | _ => simp [isL] at hd
structure Meth1 (o : Expr) (nm : Str) (apos : Pos) (e : Expr) (cpos : Pos) : Prop where
  base : ∀ env, attributeBase o nm env (eval o env) = eval o env
  few : ∀ env, ((backTo cpos (starEach [e] env)).all (fun x => !x.1) && (backToKw cpos (keywordEach [] env)).all (fun x => x.1.isSome)
      && decide ([e].length + ([] : List Keyword).length + (if ([] : List Keyword).isEmpty then 0 else 1) < 30)) = true
  line : (apos.endLine == cpos.line) = true
  star : ∀ env, starEach [e] env = (false, eval e env) :: starEach [] env
  plain : ∀ env, (backTo cpos (starEach [] env)).any (·.1) = false
  trees : ∀ env, backTo cpos (starEach [e] env) = [(false, eval e env)]
theorem w_append {i : Nat} {x : Str} {d : D} {k : D → M ρ} (hx : VarAt S i x) (hi : Γ[i]? = some (some (.own d))) (he : WE S Γ e me) (hk : ∀ z, W S (Γ.set i (some (.own z))) rest (k z) ι)
    (hm1 : Meth1 (.Name x npos) "append" apos e cpos) (hs : ∀ env, swapsWith (.Call (.Attribute (.Name x npos) "append" apos) [e] [] cpos) none pos.line env = pure false := by intro _; rfl) :
    W S Γ (.Expr (.Call (.Attribute (.Name x npos) "append" apos) [e] [] cpos) pos :: rest) (M.need (isL d = true) (me.bind fun y => (appD d y).bind k)) ι := by
  intro ω G0 H0 σ G H P Dn E hm q
  obtain ⟨hd, hm⟩ := hm
  refine rs_cons (t := tDrop (tBM S.K "list" rAppend (tVar i) (tCons (RE S e) tNil))) (fun X hX => by
    have h := ps_expr (X := X) (pos := pos) (pe_bm PySem.F.plainAttrs_list PySem.F.slot_list_append PySem.F.type_list_append (mt_append) (pe_var (i := i) (pos := npos) (by rw [hX.N]; exact hx.n) (by rw [hX.sc]; exact hx.v) hx.d hx.c) (pa_cons (RE.pe hX e) pa_nil (hm1.star _)) (hm1.base _) (hm1.few _) hm1.line (hm1.star _) (hm1.plain _)) (hs _)
    rw [hX.K] at h; exact h) ?_
  obtain ⟨o, xs, ds, hv, rfl, g2, _, _⟩ := own_list E hi hd
  refine ⟨.ref o, hv, .inl ⟨rfl, _, .inl (.inl g2)⟩, ?_⟩
  refine he ω G0 H0 σ G H _ _ E hm fun y u' G1 H1 hP e1 r1 => ?_
  have E1 := E.step e1
  obtain ⟨o', xs', ds', hv', hq, g2', r, z⟩ := own_list E1 hi hd
  rw [hv] at hv'
  cases hv'
  cases hq
  obtain ⟨hl, hP⟩ := hP
  have hl' := r.length
  refine ⟨o, xs', u', rfl, rfl, g2', by rw [sizeLine_eq]; omega, ?_⟩
  exact hk _ ω G0 H0 σ G1 _ P Dn (E1.updO hi hv (.lst (r.append (.cons r1 .nil)) (by rw [sizeLine_eq]; simp; omega))) hP q
/-- x.extend(e), e a list -/
def extD : D → D → M D
  | .list ds, .list ys => M.need (ds.length + ys.length ≤ 16777216) (M.pure (.list (ds ++ ys)))
  | _, _ => M.fail
theorem mt_extendL {X : Cx} : MtM X "list.extend" (fun x vs H Q => ∃ l b xs zs, x = .ref l ∧ vs = [.ref b] ∧ H l = some (.lst xs) ∧ Rd H b (.lst zs) ∧ xs.length + zs.length ≤ sizeLine ∧ Q .non (upd H l (.lst (xs ++ zs)))) := by
  intro pins s σ H x vs v us Q I rx rv h
  obtain ⟨l, b, xs, zs, rfl, rfl, hH, hB, hz, q⟩ := h
  cases rx
  obtain ⟨u, rfl, ru⟩ := rv.one
  cases ru
  obtain ⟨z, its, n, r, hl, e⟩ := I.lstM hH
  obtain ⟨z2, its2, n2, r2, e2⟩ := rd_list I hB
  have hl2 := r2.length
  have hsz : its.toArray.size + its2.toArray.size ≤ sizeLine := by rw [List.size_toArray, List.size_toArray]; omega
  have hlong : ¬ (!its.toArray.isEmpty && Builtin.List.listTooLong (its.toArray.size + its2.toArray.size)) = true := by
    rw [notLongL hsz, Bool.and_false]
    exact Bool.false_ne_true
  refine call_meets PySem.F.slot_list_extend ⟨_, e, rfl⟩ PySem.F.entry_list_extend (PySem.F.args_list_extend_2 _ _)
    (AutoSeq1.list_extend_list_list_0 l its.toArray n b its2.toArray n2 hlong (by rw [List.size_toArray]; omega) (by omega)) ⟨e, e2, ?_⟩
  refine ⟨.non, _, I.lset (its' := its ++ its2) hH e (by simp) (r.append r2) ?_, rfl, q⟩
  rw [List.length_append]
  omega
theorem w_extend {i : Nat} {x : Str} {d : D} {k : D → M ρ} (hx : VarAt S i x) (hi : Γ[i]? = some (some (.own d))) (he : WE S Γ e me) (hk : ∀ z, W S (Γ.set i (some (.own z))) rest (k z) ι)
    (hm1 : Meth1 (.Name x npos) "extend" apos e cpos) (hs : ∀ env, swapsWith (.Call (.Attribute (.Name x npos) "extend" apos) [e] [] cpos) none pos.line env = pure false := by intro _; rfl) :
    W S Γ (.Expr (.Call (.Attribute (.Name x npos) "extend" apos) [e] [] cpos) pos :: rest) (M.need (isL d = true) (me.bind fun y => (extD d y).bind k)) ι := by
  intro ω G0 H0 σ G H P Dn E hm q
  obtain ⟨hd, hm⟩ := hm
  refine rs_cons (t := tDrop (tBM S.K "list" (fun x vs H Q => ∃ l b xs zs, x = .ref l ∧ vs = [.ref b] ∧ H l = some (.lst xs) ∧ Rd H b (.lst zs) ∧ xs.length + zs.length ≤ sizeLine ∧ Q .non (upd H l (.lst (xs ++ zs)))) (tVar i) (tCons (RE S e) tNil))) (fun X hX => by
    have h := ps_expr (X := X) (pos := pos) (pe_bm PySem.F.plainAttrs_list PySem.F.slot_list_extend PySem.F.type_list_extend (mt_extendL) (pe_var (i := i) (pos := npos) (by rw [hX.N]; exact hx.n) (by rw [hX.sc]; exact hx.v) hx.d hx.c) (pa_cons (RE.pe hX e) pa_nil (hm1.star _)) (hm1.base _) (hm1.few _) hm1.line (hm1.star _) (hm1.plain _)) (hs _)
    rw [hX.K] at h; exact h) ?_
  obtain ⟨o, xs, ds, hv, rfl, g2, _, _⟩ := own_list E hi hd
  refine ⟨.ref o, hv, .inl ⟨rfl, _, .inl (.inl g2)⟩, ?_⟩
  refine he ω G0 H0 σ G H _ _ E hm fun y u' G1 H1 hP e1 r1 => ?_
  have E1 := E.step e1
  obtain ⟨o', xs', ds', hv', hq, g2', r, z⟩ := own_list E1 hi hd
  rw [hv] at hv'
  cases hv'
  cases hq
  cases y with
  | list ys =>
    obtain ⟨hl, hP⟩ := hP
    cases r1 with
    | lst s1 ra za =>
      have hl' := r.length
      have hl2 := ra.length
      refine ⟨o, _, xs', _, rfl, rfl, g2', e1.le _ _ s1, by rw [sizeLine_eq]; omega, ?_⟩
      exact hk _ ω G0 H0 σ G1 _ P Dn (E1.updO hi hv (.lst (r.append ra) (by rw [sizeLine_eq]; simp; omega))) hP q
  | _ => exact hP.elim

/-- x[k] = v, x a list of one's own -/
def lputD : D → D → D → M D
  | .list ds, .int i, v => (M.opt (ixN ds.length i)).bind fun j => M.pure (.list (ds.set j v))
  | _, _, _ => M.fail
theorem w_lput {i : Nat} {x : Str} {d : D} {k : D → M ρ} {spos : Pos} (hx : VarAt S i x) (hi : Γ[i]? = some (some (.own d))) (hv : WE S Γ e me) (ha : WE S Γ a ma) (hk : ∀ z, W S (Γ.set i (some (.own z))) rest (k z) ι)
    (hs : ∀ env, swapsWithSole [.Subscript (.Name x npos) a spos] e pos.line env = pure false := by intro _; rfl) (hw : ∀ env, swappedStores [.Subscript (.Name x npos) a spos] e env = pure none := by intro _; rfl)
    (h1 : ∀ env, (assignEach [.Subscript (.Name x npos) a spos] env).map (·.2) = [assign (.Subscript (.Name x npos) a spos) env] := by intro _; rfl)
    (hsub : ∀ env v, assign (.Subscript (.Name x npos) a spos) env v = (do
      let ov ← holding [v] (eval (.Name x npos) env)
      let iv ← holding [v, ov] (eval a env)
      standAt spos
      holding [v, ov, iv] (setItem ov iv v)
      release [v, ov, iv] []) := by intro _ _; rfl) :
    W S Γ (.Assign [.Subscript (.Name x npos) a spos] e pos :: rest) (M.need (isL d = true) (me.bind fun v => ma.bind fun j => (lputD d j v).bind k)) ι := by
  intro ω G0 H0 σ G H P Dn E hm q
  obtain ⟨hd, hm⟩ := hm
  refine rs_cons (fun X hX => ps_asg (RE.pe hX e) (pg_sub (pe_var (i := i) (by rw [hX.N]; exact hx.n) (by rw [hX.sc]; exact hx.v) hx.d hx.c) (RE.pe hX a) set_list (hsub _)) (hs _) (hw _) (h1 _)) ?_
  refine hv ω G0 H0 σ G H _ _ E hm fun y u' G1 H1 hP e1 r1 => ?_
  have E1 := E.step e1
  obtain ⟨o, xs, ds, hv, rfl, g2, _, _⟩ := own_list E1 hi hd
  refine ⟨.ref o, hv, ha ω G0 H0 σ G1 H1 _ _ E1 hP fun j w G2 H2 hj e2 r2 => ?_⟩
  have E2 := E1.step e2
  obtain ⟨o', xs', ds', hv', hq, g2', r, z⟩ := own_list E2 hi hd
  rw [hv] at hv'
  cases hv'
  cases hq
  cases r2 with
  | int jj =>
    obtain ⟨n, hn, hP⟩ := hj
    refine ⟨o, xs', jj, n, rfl, rfl, g2', by rw [r.length]; exact hn, ?_⟩
    exact hk _ ω G0 H0 σ G2 _ P Dn (E2.updO hi hv (.lst (RpA.set (r1.ext e2) n r) (by simpa using z))) hP q
  | _ => exact hj.elim

/-! ### dicts -/
def putD (es : List (D × D)) (k v : D) : List (D × D) := if (es.any fun p => PyData.eqv p.1 k) = true then es.map (fun p => if PyData.eqv p.1 k = true then (p.1, v) else p) else es ++ [(k, v)]
theorem any_rel {K : PySem.W.Frag} {G : Hp} (k : Key) : ∀ {kvs : List (Key × V)} {es : List (D × D)}, RpK K G kvs es → (es.any fun p => PyData.eqv p.1 (keyD k)) = kvs.any fun kv => decide (kv.1 = k)
  | _, _, .nil => rfl
  | _, _, .cons (k := c) r t => by rw [List.any_cons, List.any_cons, any_rel k t, eqv_keyD]
theorem map_rel {K : PySem.W.Frag} {G : Hp} (k : Key) {v : V} {d : D} (rv : Rp K G v d) : ∀ {kvs : List (Key × V)} {es : List (D × D)}, RpK K G kvs es → RpK K G (kvs.map fun kv => if kv.1 = k then (kv.1, v) else kv) (es.map fun p => if PyData.eqv p.1 (keyD k) = true then (p.1, d) else p)
  | _, _, .nil => .nil
  | _, _, .cons (k := c) r t => by
    rw [List.map_cons, List.map_cons]
    simp only [eqv_keyD]
    by_cases h : c = k
    · subst h
      simp only [decide_true, if_true]
      exact .cons rv (map_rel c rv t)
    · simp only [h, decide_false, if_false, Bool.false_eq_true]
      exact .cons r (map_rel k rv t)
theorem app_rel {K : PySem.W.Frag} {G : Hp} (k : Key) {v : V} {d : D} (rv : Rp K G v d) : ∀ {kvs : List (Key × V)} {es : List (D × D)}, RpK K G kvs es → RpK K G (kvs ++ [(k, v)]) (es ++ [(keyD k, d)])
  | _, _, .nil => .cons rv .nil
  | _, _, .cons r t => .cons r (app_rel k rv t)
theorem put_rel {K : PySem.W.Frag} {G : Hp} {kvs : List (Key × V)} {es : List (D × D)} (r : RpK K G kvs es) (k : Key) {v : V} {d : D} (rv : Rp K G v d) : RpK K G (putK kvs k v) (putD es (keyD k) d) := by
  unfold putK putD
  rw [any_rel k r]
  by_cases h : (kvs.any fun kv => decide (kv.1 = k)) = true
  · rw [if_pos h, if_pos h]; exact map_rel k rv r
  · rw [if_neg h, if_neg h]; exact app_rel k rv r
theorem putD_len (es : List (D × D)) (k v : D) : (putD es k v).length ≤ es.length + 1 := by
  unfold putD
  split
  · simp
  · simp
def dputD : D → D → D → M D
  | .dict es, k, v => M.need (kD k = true ∧ marked es = false ∧ es.length < 16777216) (M.pure (.dict (putD es k v)))
  | _, _, _ => M.fail
theorem own_dict {ω : Option Addr} {K : PySem.W.Frag} {G0 H0 G H : Hp} {σ : L2.St} {i : Nat} {es : List (D × D)} (E : EnvOk ω K G0 H0 Γ σ G H) (hi : Γ[i]? = some (some (.own (.dict es)))) (hd : marked es = false) : ∃ o kvs, σ[i]? = some (some (.ref o)) ∧ H o = some (.dK kvs) ∧ RpK K G kvs es ∧ es.length ≤ sizeLine := by
  obtain ⟨v, hv, o, u, rfl, g1, g2, g3, g4, g5⟩ := E.sl i _ hi
  cases g5 with
  | dK r z => exact ⟨o, _, hv, g2, r, z⟩
  | dT r z => simp [marked] at hd
/-- d[k] = v, d a dict of one's own -/
theorem w_dput {i : Nat} {x : Str} {d : D} {k : D → M ρ} {spos : Pos} (hx : VarAt S i x) (hi : Γ[i]? = some (some (.own d))) (hv : WE S Γ e me) (ha : WE S Γ a ma) (hk : ∀ z, W S (Γ.set i (some (.own z))) rest (k z) ι)
    (hs : ∀ env, swapsWith e (some (.Subscript (.Name x npos) a spos)) pos.line env = pure false := by intro _; rfl) :
    W S Γ (.Assign [.Subscript (.Name x npos) a spos] e pos :: rest) (me.bind fun v => ma.bind fun j => (dputD d j v).bind k) ι := by
  intro ω G0 H0 σ G H P Dn E hm q
  refine rs_cons (fun X hX => ps_dput (hu_of hX.room) (pe_var (i := i) (by rw [hX.N]; exact hx.n) (by rw [hX.sc]; exact hx.v) hx.d hx.c) (RE.pe hX a) (RE.pe hX e) (hs _)) ?_
  refine hv ω G0 H0 σ G H _ _ E hm fun y u' G1 H1 hP e1 r1 => ?_
  have E1 := E.step e1
  obtain ⟨v0, hv0, _⟩ := E1.sl i _ hi
  refine ⟨v0, hv0, ha ω G0 H0 σ G1 H1 _ _ E1 hP fun j w G2 H2 hj e2 r2 => ?_⟩
  have E2 := E1.step e2
  cases d with
  | dict es =>
    obtain ⟨⟨h1, h2, h3⟩, hP⟩ := hj
    obtain ⟨c, rfl⟩ := keyD_kD h1
    obtain ⟨o, kvs, hv, g2, r, z⟩ := own_dict E2 hi h2
    rw [hv] at hv0
    cases hv0
    have hw := kV_rel (ω := ω) (H := H2) (.inl r2)
    subst hw
    refine ⟨o, _, rfl, DPut.k g2 (by rw [r.length, sizeLine_eq]; exact h3), ?_⟩
    refine hk _ ω G0 H0 σ G2 _ P Dn (E2.updO hi hv (.dK (put_rel r c (r1.ext e2)) ?_)) hP q
    have := putD_len es (keyD c) y
    rw [sizeLine_eq]
    omega
  | _ => exact hj.elim
/-- d.get(k, x), d.get(k) -/
def get2D : D → D → D → M D
  | .dict es, k, x => M.need (kD k = true ∧ marked es = false) (M.pure ((lookD es k).getD x))
  | _, _, _ => M.fail
theorem dict_get {ω : Option Addr} {K : PySem.W.Frag} {G H : Hp} {v u : V} {es : List (D × D)} {k : D} (l : Le G H) (r : Rb ω K G H v (.dict es)) (h1 : kD k = true) (h2 : marked es = false) (rk : Rb ω K G H u k) : ∃ a kvs, v = .ref a ∧ Rd H a (.dK kvs) ∧ ∃ o, DGet H a u o ∧ (∀ d, lookD es k = some d → ∃ w, o = some w ∧ Rp K G w d) ∧ (lookD es k = none → o = none) := by
  obtain ⟨c, rfl⟩ := keyD_kD h1
  obtain ⟨a, rfl, _, ⟨kvs, s1, r1⟩ | ⟨kvs, es', rfl, _, _⟩⟩ := noT r l
  · have hl := look_rel r1 c
    exact ⟨a, kvs, rfl, s1, valV kvs c, .inl ⟨kvs, c, s1, kV_rel rk, rfl⟩, hl.1, hl.2⟩
  · simp [marked] at h2
theorem we_get2 {o : Expr} {mo mk mx : M D} {apos cpos : Pos} (ho : WE S Γ o mo) (hk : WE S Γ a mk) (hx : WE S Γ b mx) (hm2 : ∀ X : Cx, M2 X o "get" apos a b cpos) : WE S Γ (.Call (.Attribute o "get" apos) [a, b] [] cpos) (mo.bind fun d => M.need ((isDi d && plainD d) = true) (mk.bind fun k => mx.bind fun x => get2D d k x)) := by
  intro ω G0 H0 σ G H P Q E hm q
  refine ⟨_, fun X hX => pe_dget2 (hu_of hX.room) (RE.pe hX o) (RE.pe hX a) (RE.pe hX b) (hm2 X), ?_⟩
  refine ho ω G0 H0 σ G H _ _ E hm fun d v G1 H1 ⟨hd, hP⟩ e1 r1 => ?_
  cases d with
  | dict es =>
    have hmk : marked es = false := by simpa [isDi, plainD] using hd
    obtain ⟨a', rfl, _, hcase⟩ := noT (ω := ω) (.inl r1) e1.le
    refine ⟨a', rfl, ?_, ?_⟩
    · rcases hcase with ⟨kvs, s1, _⟩ | ⟨kvs, es', _, s1, _⟩
      · exact .inl ⟨_, s1⟩
      · exact .inr ⟨_, s1⟩
    refine hk ω G0 H0 σ G1 H1 _ _ (E.step e1) hP fun k u G2 H2 hP2 e2 r2 => ?_
    refine hx ω G0 H0 σ G2 H2 _ _ ((E.step e1).step e2) hP2 fun x w G3 H3 hP3 e3 r3 => ?_
    obtain ⟨⟨h1, h2⟩, hP3⟩ := hP3
    obtain ⟨a2, kvs, hq, s1, oo, g, g1, g2⟩ := dict_get (ω := ω) e3.le (.inl ((r1.ext e2).ext e3)) h1 h2 (.inl (r2.ext e3))
    cases hq
    refine ⟨oo, g, ?_⟩
    cases hlk : lookD es k with
    | none => rw [g2 hlk]; rw [hlk] at hP3; exact q _ _ _ _ hP3 ((e1.trans e2).trans e3) r3
    | some d => obtain ⟨w', rfl, rw'⟩ := g1 d hlk; rw [hlk] at hP3; exact q _ _ _ _ hP3 ((e1.trans e2).trans e3) rw'
  | _ => simp [isDi] at hd
theorem we_get1 {o : Expr} {mo mk : M D} {apos cpos : Pos} (ho : WE S Γ o mo) (hk : WE S Γ a mk) (hm2 : ∀ X : Cx, M1 X o "get" apos a cpos) : WE S Γ (.Call (.Attribute o "get" apos) [a] [] cpos) (mo.bind fun d => M.need ((isDi d && plainD d) = true) (mk.bind fun k => get2D d k .none)) := by
  intro ω G0 H0 σ G H P Q E hm q
  refine ⟨_, fun X hX => pe_dget1 (hu_of hX.room) (RE.pe hX o) (RE.pe hX a) (hm2 X), ?_⟩
  refine ho ω G0 H0 σ G H _ _ E hm fun d v G1 H1 ⟨hd, hP⟩ e1 r1 => ?_
  cases d with
  | dict es =>
    have hmk : marked es = false := by simpa [isDi, plainD] using hd
    obtain ⟨a', rfl, _, hcase⟩ := noT (ω := ω) (.inl r1) e1.le
    refine ⟨a', rfl, ?_, ?_⟩
    · rcases hcase with ⟨kvs, s1, _⟩ | ⟨kvs, es', _, s1, _⟩
      · exact .inl ⟨_, s1⟩
      · exact .inr ⟨_, s1⟩
    refine hk ω G0 H0 σ G1 H1 _ _ (E.step e1) hP fun k u G2 H2 hP3 e2 r2 => ?_
    obtain ⟨⟨h1, h2⟩, hP3⟩ := hP3
    obtain ⟨a2, kvs, hq, s1, oo, g, g1, g2⟩ := dict_get (ω := ω) e2.le (.inl (r1.ext e2)) h1 h2 (.inl r2)
    cases hq
    refine ⟨oo, g, ?_⟩
    cases hlk : lookD es k with
    | none => rw [g2 hlk]; rw [hlk] at hP3; exact q _ _ _ _ hP3 (e1.trans e2) .non
    | some d => obtain ⟨w', rfl, rw'⟩ := g1 d hlk; rw [hlk] at hP3; exact q _ _ _ _ hP3 (e1.trans e2) rw'
  | _ => simp [isDi] at hd
/-- dict(xs), xs a list of pairs -/
def pairsD : List D → Option (List (D × D))
  | [] => some []
  | .tuple [k, v] :: ds => if kD k = true then (pairsD ds).map ((k, v) :: ·) else none
  | _ :: _ => none
def mergeD (es more : List (D × D)) : List (D × D) := more.foldl (fun acc p => putD acc p.1 p.2) es
def dictD : D → M D
  | .list ds => (M.opt (pairsD ds)).bind fun ps => M.pure (.dict (mergeD [] ps))
  | _ => M.fail
theorem pairs_rel {ω : Option Addr} {K : PySem.W.Frag} {G H : Hp} (l : Le G H) : ∀ {ds : List D} {xs : List V} {ps : List (D × D)}, RpA K G xs ds → pairsD ds = some ps → ∃ as kvs, xs = as.map V.ref ∧ Paired (fun p kv => SqT K H p [kV kv.1, kv.2]) as kvs ∧ RpK K G kvs ps
  | [], _, ps, .nil, h => by
    simp [pairsD] at h; subst h
    exact ⟨[], [], rfl, .nil, .nil⟩
  | d :: ds, _, ps, .cons r t, h => by
    match d, r, h with
    | .tuple [k, v], .tup (a := a) s ra z, h =>
      by_cases hk : kD k = true
      · simp only [pairsD, hk, if_true] at h
        obtain ⟨ps', h1, h2⟩ := Option.map_eq_some_iff.mp h
        subst h2
        obtain ⟨as, kvs, rfl, h3, h4⟩ := pairs_rel (ω := ω) l t h1
        obtain ⟨c, rfl⟩ := keyD_kD hk
        cases ra with
        | cons r1 ra => cases ra with
          | cons r2 ra =>
            cases ra
            have := kV_rel (ω := ω) (H := H) (.inl r1)
            subst this
            exact ⟨a :: as, (c, _) :: kvs, rfl, .cons (l.sqT s) h3, .cons r2 h4⟩
      · simp [pairsD, hk] at h
theorem merge_rel {K : PySem.W.Frag} {G : Hp} : ∀ {more : List (Key × V)} {ps : List (D × D)} {kvs : List (Key × V)} {es : List (D × D)}, RpK K G more ps → RpK K G kvs es → RpK K G (mergeK kvs more) (mergeD es ps)
  | _, _, _, _, .nil, r => r
  | _, _, kvs, es, .cons (k := c) (v := v) (vs := vs) (d := d) (ds := ds) rv t, r => (merge_rel t (put_rel r c rv) : RpK K G (mergeK (putK kvs c v) vs) (mergeD (putD es (keyD c) d) ds))
theorem mergeD_len : ∀ (more es : List (D × D)), (mergeD es more).length ≤ es.length + more.length
  | [], es => Nat.le_refl _
  | p :: ps, es => by
    have h1 := mergeD_len ps (putD es p.1 p.2)
    have h2 := putD_len es p.1 p.2
    show (mergeD (putD es p.1 p.2) ps).length ≤ es.length + (ps.length + 1)
    omega
theorem dict_ok : C1Ok S (.type "dict") dictD := by
  intro ω G H x v P Q e rx hf q
  cases x with
  | list ds =>
    obtain ⟨ps, h1, hf⟩ := hf
    obtain ⟨a, as, rfl, s1, r1, z⟩ := rx.list e.le
    obtain ⟨bs, kvs, rfl, h2, h3⟩ := pairs_rel (ω := ω) e.le r1 h1
    refine ⟨fun xs H Q => ∃ (a : Addr) (ps : List Addr) (kvs : List (Key × V)), xs = [.ref a] ∧ SqL S.K H a (ps.map V.ref) ∧ Paired (fun p kv => SqT S.K H p [kV kv.1, kv.2]) ps kvs ∧
      ∀ p, H p = none → Q (.ref p) (upd H p (.dK (mergeK [] kvs))), fun X hX => hX.K ▸ call_dictP hX.calm, a, bs, kvs, rfl, .inl s1, h2, fun p np => ?_⟩
    have e2 := e.new (o := .dK (mergeK [] kvs)) np
    have hl := h3.length
    have hl2 := Paired.length h2
    have hl3 := r1.length
    refine q _ _ _ _ hf e2 (.dK upd_same (RpK.le (e2.gg) _ (merge_rel h3 .nil)) ?_)
    have := mergeD_len ps []
    rw [List.length_map] at hl3
    simp at this
    omega
  | _ => exact hf.elim
end
end Wp
namespace Wp
open PySem PySem.Spec PyProof.Rows L2

/-! ### loops over a dict's keys -/
section
variable {ω : Option Addr} {K : PySem.W.Frag} {G0 H0 G H G' H' : Hp} {Γ Γ' : En} {σ σ' : L2.St} {a : Addr} {u : HO} {od : Obj}
theorem notfrz {u : HO} (mu : Mut (some u)) : ∀ q w, u ≠ .frz q w := fun q w e => by subst e; exact mu
theorem Ext.notω (x : Ext ω K G0 H0 G H) (hG : G a = some u) : some a ≠ ω := fun z => by
  have := (x.dr a z.symm).g
  rw [hG] at this; cases this
theorem Ext.locked (x : Ext ω K G0 H0 G H) (hH : H a = some u) (hG : G a = some u) (mu : Mut (some u)) : Ext ω K G (upd H0 a (.frz od u)) G (upd H a (.frz od u)) where
  gg := Same.refl _
  hh := fun b w n e => by
    by_cases hb : b = a
    · subst hb; rw [upd_same] at e ⊢; exact e
    · rw [upd_ne hb] at e ⊢; exact x.hh b w n e
  le := fun b w e => by
    by_cases hb : b = a
    · subst hb
      rcases x.le b w e with r | ⟨q, r⟩
      · rw [hH] at r; cases r; exact .inr ⟨od, upd_same⟩
      · rw [hH] at r; cases r; exact absurd rfl (notfrz mu q w)
    · rcases x.le b w e with r | ⟨q, r⟩
      · exact .inl (by rw [upd_ne hb]; exact r)
      · exact .inr ⟨q, by rw [upd_ne hb]; exact r⟩
  fr := fun b w e n => n
  dr := fun b e => by
    obtain ⟨g, vd, ds, at_, h1, h2, h3⟩ := x.dr b e
    have hb : b ≠ a := fun z => x.notω hG (by rw [← z, e])
    exact ⟨g, vd, ds, at_, by rw [upd_ne hb]; exact h1, h2, h3⟩
theorem EnvOk.locked (E : EnvOk ω K G0 H0 Γ σ G H) (hH : H a = some u) (hG : G a = some u) (mu : Mut (some u)) : EnvOk ω K G (upd H0 a (.frz od u)) Γ σ G (upd H a (.frz od u)) :=
  ⟨E.ext.locked hH hG mu, E.ln, fun i c h => by
    obtain ⟨v, h1, h2⟩ := E.sl i c h
    refine ⟨v, h1, ?_⟩
    cases c with
    | val d => exact h2
    | drw => exact h2
    | scr ns => exact h2
    | own d =>
      obtain ⟨o, w, rfl, g1, g2, g3, g4, g5⟩ := h2
      have ho : o ≠ a := fun z => by subst z; rw [hG] at g3; cases g3
      exact ⟨o, w, rfl, g1, by rw [upd_ne ho]; exact g2, g3, by rw [upd_ne ho]; exact g4, g5⟩, E.ds⟩
theorem EnvOk.islocked (E : EnvOk ω K G0 H0 Γ σ G H) (hH : H a = some (.frz od u)) (hG : ∃ w, G a = some w) : EnvOk ω K G (upd H0 a (.frz od u)) Γ σ G H :=
  ⟨⟨Same.refl _, fun b w n e => by
    by_cases hb : b = a
    · subst hb; rw [upd_same] at e; rw [hH]; exact e
    · rw [upd_ne hb] at e; exact E.ext.hh b w n e, E.ext.le, fun _ _ _ n => n, E.ext.dr⟩, E.ln, fun i c h => by
    obtain ⟨v, h1, h2⟩ := E.sl i c h
    refine ⟨v, h1, ?_⟩
    cases c with
    | val d => exact h2
    | drw => exact h2
    | scr ns => exact h2
    | own d =>
      obtain ⟨o, w, rfl, g1, g2, g3, g4, g5⟩ := h2
      have ho : o ≠ a := fun z => by subst z; obtain ⟨w', hG⟩ := hG; rw [hG] at g3; cases g3
      exact ⟨o, w, rfl, g1, g2, g3, by rw [upd_ne ho]; exact g4, g5⟩, E.ds⟩
theorem rd_only {G : Hp} {a : Addr} {u w : HO} (mu : Mut (some u)) (h : G a = some u) (r : Rd G a w) : w = u := by
  rcases r with r | ⟨q, r⟩
  · rw [h] at r; cases r; rfl
  · rw [h] at r; cases r; exact absurd rfl (notfrz mu q w)
/-- unlocked again: an expression's growth -/
theorem Ext.unlockE (x : Ext ω K G (upd H a (.frz od u)) G' H') (hH : H a = some u) (hG : G a = some u) (mu : Mut (some u)) (hω : some a ≠ ω) : Ext ω K G H G' (upd H' a u) where
  gg := x.gg
  hh := fun b w n e => by
    by_cases hb : b = a
    · subst hb; rw [hH] at e; rw [upd_same]; exact e
    · rw [upd_ne hb]; exact x.hh b w n (by rw [upd_ne hb]; exact e)
  le := fun b w e => by
    by_cases hb : b = a
    · subst hb
      rw [rd_only mu (x.gg _ _ hG) e]
      exact .inl upd_same
    · rcases x.le b w e with r | ⟨q, r⟩
      · exact .inl (by rw [upd_ne hb]; exact r)
      · exact .inr ⟨q, by rw [upd_ne hb]; exact r⟩
  fr := fun b w e n => by
    by_cases hb : b = a
    · subst hb; rw [hG] at n; cases n
    · exact x.fr b w (by rw [upd_ne hb]; exact e) n
  dr := fun b e => by
    obtain ⟨g, vd, ds, at_, h1, h2, h3⟩ := x.dr b e
    have hb : b ≠ a := fun z => hω (by rw [← z, e])
    exact ⟨g, vd, ds, at_, by rw [upd_ne hb]; exact h1, h2, h3⟩
/-- .. behind a loop -/
theorem Ext.unlockS (x0 : Ext ω K G0 H0 G H) (x : Ext ω K G (upd H0 a (.frz od u)) G' H') (hH : H a = some u) (hG : G a = some u) (mu : Mut (some u)) : Ext ω K G0 H0 G' (upd H' a u) where
  gg := x0.gg.trans x.gg
  hh := fun b w n e => by
    by_cases hb : b = a
    · subst hb
      have := x0.hh _ _ n e
      rw [hH] at this; rw [upd_same]; exact this
    · rw [upd_ne hb]; exact x.hh b w n (by rw [upd_ne hb]; exact e)
  le := fun b w e => by
    by_cases hb : b = a
    · subst hb
      rw [rd_only mu (x.gg _ _ hG) e]
      exact .inl upd_same
    · rcases x.le b w e with r | ⟨q, r⟩
      · exact .inl (by rw [upd_ne hb]; exact r)
      · exact .inr ⟨q, by rw [upd_ne hb]; exact r⟩
  fr := fun b w e n => by
    have n' := x0.fr b w e n
    by_cases hb : b = a
    · subst hb; rw [hG] at n'; cases n'
    · exact x.fr b w (by rw [upd_ne hb]; exact e) n'
  dr := fun b e => by
    obtain ⟨g, vd, ds, at_, h1, h2, h3⟩ := x.dr b e
    have hb : b ≠ a := fun z => x0.notω hG (by rw [← z, e])
    exact ⟨g, vd, ds, at_, by rw [upd_ne hb]; exact h1, h2, h3⟩
theorem EnvOk.unlockS (x0 : Ext ω K G0 H0 G H) (E : EnvOk ω K G (upd H0 a (.frz od u)) Γ σ G' H') (hH : H a = some u) (hG : G a = some u) (mu : Mut (some u)) : H' a = some (.frz od u) ∧ EnvOk ω K G0 H0 Γ σ G' (upd H' a u) :=
  ⟨E.ext.hh a _ (x0.notω hG) upd_same, x0.unlockS E.ext hH hG mu, E.ln, fun i c h => by
    obtain ⟨v, h1, h2⟩ := E.sl i c h
    refine ⟨v, h1, ?_⟩
    cases c with
    | val d => exact h2
    | drw => exact h2
    | scr ns => exact h2
    | own d =>
      obtain ⟨o, w, rfl, g1, g2, g3, g4, g5⟩ := h2
      have ho : o ≠ a := fun z => by subst z; have := E.ext.gg _ _ hG; rw [this] at g3; cases g3
      exact ⟨o, w, rfl, g1, by rw [upd_ne ho]; exact g2, g3, by rw [upd_ne ho] at g4; exact g4, g5⟩, E.ds⟩
theorem EnvOk.islockedS (x0 : Ext ω K G0 H0 G H) (E : EnvOk ω K G (upd H0 a (.frz od u)) Γ σ G' H') (hH : H a = some (.frz od u)) (hG : ∃ w, G a = some w) : EnvOk ω K G0 H0 Γ σ G' H' :=
  ⟨⟨x0.gg.trans E.ext.gg, fun b w n e => by
    by_cases hb : b = a
    · subst hb
      have := x0.hh _ _ n e
      rw [hH] at this; cases this
      exact E.ext.hh _ _ n upd_same
    · exact E.ext.hh b w n (by rw [upd_ne hb]; exact e), E.ext.le, fun b w e n => by
    have n' := x0.fr b w e n
    by_cases hb : b = a
    · subst hb; obtain ⟨w', hG⟩ := hG; rw [hG] at n'; cases n'
    · exact E.ext.fr b w (by rw [upd_ne hb]; exact e) n', E.ext.dr⟩, E.ln, fun i c h => by
    obtain ⟨v, h1, h2⟩ := E.sl i c h
    refine ⟨v, h1, ?_⟩
    cases c with
    | val d => exact h2
    | drw => exact h2
    | scr ns => exact h2
    | own d =>
      obtain ⟨o, w, rfl, g1, g2, g3, g4, g5⟩ := h2
      have ho : o ≠ a := fun z => by subst z; obtain ⟨w', hG⟩ := hG; have := E.ext.gg _ _ hG; rw [this] at g3; cases g3
      exact ⟨o, w, rfl, g1, g2, g3, by rw [upd_ne ho] at g4; exact g4, g5⟩, E.ds⟩
end
section
variable {S : Sg} {Γ : En} {e a b c elt tg iter : Expr} {ifs : List Expr} {m ma mb mc : M D} {ms : M (List D)} {pos ipos : Pos} {scope : Scope} {own : List (Str × Nat)} {α : Type} {dec : D → M α} {g : α → En → En} {ts : List Nat} {tc : α → M Bool} {f : α → M D}
def keysD : D → M (List D)
  | .dict es => M.need (marked es = false) (M.pure (es.map (·.1)))
  | _ => M.fail
theorem RpK.key {K : PySem.W.Frag} {G : Hp} : ∀ {kvs : List (Key × V)} {es : List (D × D)} {i : Nat} {k : Key} {v : V}, RpK K G kvs es → kvs[i]? = some (k, v) → (es.map (·.1))[i]? = some (keyD k)
  | _, _, _, _, _, .nil, e => by simp at e
  | _, _, 0, _, _, .cons _ _, e => by simp at e; simp [e.1]
  | _, _, i + 1, k, v, .cons _ t, e => by simpa using t.key (i := i) (k := k) (v := v) (by simpa using e)
theorem keyD_rp {K : PySem.W.Frag} {G : Hp} (k : Key) : Rp K G (kV k) (keyD k) := by cases k <;> constructor
theorem it_keys {ω : Option Addr} {K : PySem.W.Frag} {A : Addr → Prop} {G1 H1 : Hp} {p : Addr} {od : Obj} {kvs : List (Key × V)} {es : List (D × D)} (r : RpK K G1 kvs es) (z : es.length ≤ sizeLine) (hA : A p) (h1 : H1 p = some (.frz od (.dK kvs))) : ItOk ω K A (Itk p od kvs) (es.map (·.1)) G1 H1 where
  ln := by simpa using z
  go := fun i Gc Hc _ _ h3 hi => ⟨h3 p _ hA h1, by rw [r.length]; simpa using hi⟩
  stop := fun Gc Hc _ _ h3 => ⟨h3 p _ hA h1, by rw [r.length]; simp⟩
  yld := fun i Gc Hc v H' hi _ h2 h3 y => by
    obtain ⟨rfl, k, w, h4, rfl⟩ := y
    have e1 := r.key h4
    rw [List.getElem?_eq_getElem hi] at e1
    have e2 := Option.some.inj e1
    rw [e2]
    exact ⟨Gc, h2, keyD_rp k⟩
theorem var_dict {i : Nat} {d : D} {ω : Option Addr} {G0 H0 G H : Hp} {σ : L2.St} (E : EnvOk ω S.K G0 H0 Γ σ G H) (hi : Γ[i]? = some (some (.val d))) {P : List D → Prop} (h : keysD d P) : ∃ a kvs es, d = .dict es ∧ σ[i]? = some (some (.ref a)) ∧ G a = some (.dK kvs) ∧ RpK S.K G kvs es ∧ es.length ≤ sizeLine ∧ P (es.map (·.1)) := by
  obtain ⟨v, h1, h2⟩ := E.sl i _ hi
  cases d with
  | dict es =>
    obtain ⟨hm, h⟩ := h
    cases h2 with
    | dK s r z => exact ⟨_, _, es, rfl, h1, s, r, z, h⟩
    | dT s r z => simp [marked] at hm
  | _ => exact h.elim
/-- [elt for tg in d (if c)], d a dict by its name -/
theorem lcK_go {i : Nat} {x : Str} {d : D} (hx : VarAt S i x) (hi : Γ[i]? = some (some (.val d))) (hg : WG (S.blk scope) tg dec g ts) (hts : ∀ i ∈ ts, i ∈ own.map (·.2)) (ok : blkC S.N S.sc scope own = true) (ht : ∀ a, WTs (S.blk scope) (g a (wipeE Γ (own.map (·.2)))) ifs (tc a)) (he : ∀ a, WE (S.blk scope) (g a (wipeE Γ (own.map (·.2)))) elt (f a))
    {ω : Option Addr} {G0 H0 : Hp} {σ : L2.St} {G H : Hp} {P : D → Prop} {Q : VK} (E : EnvOk ω S.K G0 H0 Γ σ G H) (hm : ((keysD d).bind fun xs => (M.filM (turnM dec tc f) xs).bind fun ys => M.pure (.list ys)) P)
    (q : ∀ d v G' H', P d → Ext ω S.K G H G' H' → Rp S.K G' v d → Q v H') (hs : ∀ env x', foldedSetIterable (.Name x ipos) env x' = pure x' := by intro _ _; rfl) : RE S (.ListComp elt [⟨tg, .Name x ipos, ifs, 0⟩] scope pos) σ H Q := by
  have pl : ∀ X, S.Of X → PE X (.ListComp elt [⟨tg, .Name x ipos, ifs, 0⟩] scope pos) (tLc (iKeys (tVar i)) (RG (S.blk scope) tg) (RTs (S.blk scope) ifs) (RE (S.blk scope) elt) (own.map (·.2))) := fun X hX =>
    pe_lc hX.calm (by rw [hX.N]; exact hX.nd) (pi_keys (pe_var (i := i) (by rw [hX.N]; exact hx.n) (by rw [hX.sc]; exact hx.v) hx.d hx.c)) (blkOk_by (own := own) (by rw [hX.N, hX.sc]; exact ok)) (fun s H C cl fp => RG.pg (hX.blk s H scope C cl fp) tg) (fun s H C cl fp => RTs.pts (hX.blk s H scope C cl fp) ifs) (fun s H C cl fp => RE.pe (hX.blk s H scope C cl fp) elt) (hs _)
  obtain ⟨a, kvs, es, rfl, hv, hG, r, z, _⟩ := var_dict E hi (P := fun _ => True) (by cases d <;> first | exact hm.elim | exact ⟨hm.1, trivial⟩)
  have hR := E.ext.le a _ (.inl hG)
  have hω := E.ext.notω hG
  rcases hR with hH | ⟨o, hH⟩
  · -- not locked yet
    refine ⟨_, fun X hX => pe_lock (pl X hX), a, .dK kvs, hH, trivial, fun od => ?_⟩
    have El := E.locked (od := od) hH hG trivial
    refine lc_go hg hts ht he El (fun P' R h1 h2 => ?_) hm fun d v G' H' hP e1 r1 => ?_
    · obtain ⟨hmk, h1⟩ := h1
      exact ⟨.ref a, hv, a, od, rfl, .inl ⟨kvs, upd_same, h2 _ _ G _ h1 El.self (it_keys r z ⟨rfl, hω⟩ upd_same)⟩⟩
    · refine ⟨e1.hh a _ hω upd_same, q d v G' _ hP (e1.unlockE hH hG trivial hω) r1⟩
  · have El := E.islocked hH ⟨_, hG⟩
    refine ⟨_, pl, ?_⟩
    refine lc_go hg hts ht he El (fun P' R h1 h2 => ?_) hm q
    obtain ⟨hmk, h1⟩ := h1
    exact ⟨.ref a, hv, a, o, rfl, .inl ⟨kvs, hH, h2 _ _ G _ h1 El.self (it_keys r z ⟨rfl, hω⟩ hH)⟩⟩
theorem keysD_ok {d : D} {P : List D → Prop} (h : keysD d P) : keysD d fun _ => True := by cases d <;> first | exact h.elim | exact ⟨h.1, trivial⟩
theorem we_lcKif {i : Nat} {x : Str} {d : D} (hx : VarAt S i x) (hi : Γ[i]? = some (some (.val d))) (ok : blkC S.N S.sc scope own = true) (hg : WG (S.blk scope) tg dec g ts) (hts : ∀ i ∈ ts, i ∈ own.map (·.2)) (ht : ∀ a, WT (S.blk scope) (g a (wipeE Γ (own.map (·.2)))) c (tc a)) (he : ∀ a, WE (S.blk scope) (g a (wipeE Γ (own.map (·.2)))) elt (f a)) :
    WE S Γ (.ListComp elt [⟨tg, .Name x ipos, [c], 0⟩] scope pos) ((keysD d).bind fun xs => (M.filM (fun x => (dec x).bind fun a => (tc a).bind fun b => bif b then (f a).bind fun y => M.pure (some y) else M.pure none) xs).bind fun ys => M.pure (.list ys)) :=
  fun ω G0 H0 σ G H P Q E hm q => lcK_go hx hi hg hts ok (fun a => wts_one (ht a)) he E hm q
theorem we_lcK {i : Nat} {x : Str} {d : D} (hx : VarAt S i x) (hi : Γ[i]? = some (some (.val d))) (ok : blkC S.N S.sc scope own = true) (hg : WG (S.blk scope) tg dec g ts) (hts : ∀ i ∈ ts, i ∈ own.map (·.2)) (he : ∀ a, WE (S.blk scope) (g a (wipeE Γ (own.map (·.2)))) elt (f a)) :
    WE S Γ (.ListComp elt [⟨tg, .Name x ipos, [], 0⟩] scope pos) ((keysD d).bind fun xs => (M.mapM (fun x => (dec x).bind fun a => f a) xs).bind fun ys => M.pure (.list ys)) := by
  intro ω G0 H0 σ G H P Q E hm q
  refine lcK_go hx hi hg hts ok (tc := fun _ => M.pure true) (fun a => wts_nil) he E ?_ q
  have z : (fun xs => (M.filM (turnM dec (fun _ => M.pure true) f) xs).bind fun ys => M.pure (PyData.list ys)) = fun xs => (M.mapM (fun x => (dec x).bind fun a => f a) xs).bind fun ys => M.pure (PyData.list ys) := by
    funext xs; rw [mapM_eq]
  rw [z]; exact hm
variable {ρ σt : Type} {ι : ρ → Out} {rest body : List Stmt}
/-- y = [.. for tg in d ..] on one line -/
theorem setLcK_go {k : D → M ρ} {i j : Nat} {x y : Str} {d : D} {py spos : Pos} (hy : SetAt S j y) (sw : SwapAt S y scope) (hx : VarAt S i x) (hi : Γ[i]? = some (some (.val d))) (hg : WG (S.blk scope) tg dec g ts) (hts : ∀ i ∈ ts, i ∈ own.map (·.2)) (ok : blkC S.N S.sc scope own = true) (ht : ∀ a, WTs (S.blk scope) (g a (wipeE Γ (own.map (·.2)))) ifs (tc a)) (he : ∀ a, WE (S.blk scope) (g a (wipeE Γ (own.map (·.2)))) elt (f a))
    (hk : ∀ d, W S (Γ.set j (some (.val d))) rest (k d) ι) (hs : ∀ env x', foldedSetIterable (.Name x ipos) env x' = pure x' := by intro _ _; rfl) (hl : (py.line == pos.line) = true := by rfl) :
    W S Γ (.Assign [.Name y py] (.ListComp elt [⟨tg, .Name x ipos, ifs, 0⟩] scope pos) spos :: rest) (((keysD d).bind fun xs => (M.filM (turnM dec tc f) xs).bind fun ys => M.pure (.list ys)).bind k) ι := by
  intro ω G0 H0 σ G H P Dn E hm q
  have pl : ∀ X, S.Of X → PS X (.Assign [.Name y py] (.ListComp elt [⟨tg, .Name x ipos, ifs, 0⟩] scope pos) spos) (tAsg (tLc (iKeys (tVar i)) (RG (S.blk scope) tg) (RTs (S.blk scope) ifs) (RE (S.blk scope) elt) (own.map (·.2))) (gName j)) := fun X hX =>
    ps_setLc (i := j) hX.calm (by rw [hX.N]; exact hX.nd) (by rw [hX.N]; exact hy.n) (by rw [hX.sc]; exact sw.l) (sw_true (by rw [hX.sc]; exact sw.k) (by rw [hX.sc]; exact sw.l) hl sw.s) (pi_keys (pe_var (i := i) (by rw [hX.N]; exact hx.n) (by rw [hX.sc]; exact hx.v) hx.d hx.c)) (blkOk_by (own := own) (by rw [hX.N, hX.sc]; exact ok)) (fun s H C cl fp => RG.pg (hX.blk s H scope C cl fp) tg) (fun s H C cl fp => RTs.pts (hX.blk s H scope C cl fp) ifs) (fun s H C cl fp => RE.pe (hX.blk s H scope C cl fp) elt) (hs _)
  obtain ⟨a, kvs, es, rfl, hv, hG, r, z, _⟩ := var_dict E hi (P := fun _ => True) (by cases d <;> first | exact hm.elim | exact ⟨hm.1, trivial⟩)
  have hR := E.ext.le a _ (.inl hG)
  have hω := E.ext.notω hG
  rcases hR with hH | ⟨o, hH⟩
  · refine rs_cons (fun X hX => ps_lock (pl X hX)) ⟨a, .dK kvs, hH, trivial, fun od => ?_⟩
    have El := E.locked (od := od) hH hG trivial
    refine lc_go hg hts ht he El (P := fun d => k d P) (fun P' R h1 h2 => ?_) hm fun d v G' H' hP e1 r1 => ?_
    · obtain ⟨hmk, h1⟩ := h1
      exact ⟨.ref a, hv, a, od, rfl, .inl ⟨kvs, upd_same, h2 _ _ G _ h1 El.self (it_keys r z ⟨rfl, hω⟩ upd_same)⟩⟩
    · exact ⟨e1.hh a _ hω upd_same, hk d ω G0 H0 _ G' _ P Dn ((E.step (e1.unlockE hH hG trivial hω)).putV r1) hP q⟩
  · have El := E.islocked hH ⟨_, hG⟩
    refine rs_cons pl ?_
    refine lc_go hg hts ht he El (P := fun d => k d P) (fun P' R h1 h2 => ?_) hm fun d v G' H' hP e1 r1 => ?_
    · obtain ⟨hmk, h1⟩ := h1
      exact ⟨.ref a, hv, a, o, rfl, .inl ⟨kvs, hH, h2 _ _ G _ h1 El.self (it_keys r z ⟨rfl, hω⟩ hH)⟩⟩
    · exact hk d ω G0 H0 _ G' _ P Dn ((E.step e1).putV r1) hP q
theorem w_setLcKif {k : D → M ρ} {i j : Nat} {x y : Str} {d : D} {py spos : Pos} (hy : SetAt S j y) (sw : SwapAt S y scope) (hx : VarAt S i x) (hi : Γ[i]? = some (some (.val d))) (ok : blkC S.N S.sc scope own = true) (hg : WG (S.blk scope) tg dec g ts) (hts : ∀ i ∈ ts, i ∈ own.map (·.2)) (ht : ∀ a, WT (S.blk scope) (g a (wipeE Γ (own.map (·.2)))) c (tc a)) (he : ∀ a, WE (S.blk scope) (g a (wipeE Γ (own.map (·.2)))) elt (f a))
    (hk : ∀ d, W S (Γ.set j (some (.val d))) rest (k d) ι) (hl : (py.line == pos.line) = true := by rfl) :
    W S Γ (.Assign [.Name y py] (.ListComp elt [⟨tg, .Name x ipos, [c], 0⟩] scope pos) spos :: rest) (((keysD d).bind fun xs => (M.filM (fun x => (dec x).bind fun a => (tc a).bind fun b => bif b then (f a).bind fun y => M.pure (some y) else M.pure none) xs).bind fun ys => M.pure (.list ys)).bind k) ι :=
  setLcK_go hy sw hx hi hg hts ok (fun a => wts_one (ht a)) he hk (hl := hl)
theorem w_setLcK {k : D → M ρ} {i j : Nat} {x y : Str} {d : D} {py spos : Pos} (hy : SetAt S j y) (sw : SwapAt S y scope) (hx : VarAt S i x) (hi : Γ[i]? = some (some (.val d))) (ok : blkC S.N S.sc scope own = true) (hg : WG (S.blk scope) tg dec g ts) (hts : ∀ i ∈ ts, i ∈ own.map (·.2)) (he : ∀ a, WE (S.blk scope) (g a (wipeE Γ (own.map (·.2)))) elt (f a))
    (hk : ∀ d, W S (Γ.set j (some (.val d))) rest (k d) ι) (hl : (py.line == pos.line) = true := by rfl) :
    W S Γ (.Assign [.Name y py] (.ListComp elt [⟨tg, .Name x ipos, [], 0⟩] scope pos) spos :: rest) (((keysD d).bind fun xs => (M.mapM (fun x => (dec x).bind fun a => f a) xs).bind fun ys => M.pure (.list ys)).bind k) ι := by
  refine w_eq ?_ (setLcK_go (tc := fun _ => M.pure true) hy sw hx hi hg hts ok (fun a => wts_nil) he hk (hl := hl))
  have z : (fun xs => (M.filM (turnM dec (fun _ => M.pure true) f) xs).bind fun ys => M.pure (PyData.list ys)) = fun xs => (M.mapM (fun x => (dec x).bind fun a => f a) xs).bind fun ys => M.pure (PyData.list ys) := by
    funext xs; rw [mapM_eq]
  rw [z]
/-- for tg in d: .. -/
theorem w_forFK {fb : σt → α → M (Fl σt σt)} {k : σt → M ρ} {kr : D → M ρ} {i : Nat} {x : Str} {d : D} (gs : σt → En) (s0 : σt) (ks : List Bool) (hx : VarAt S i x) (hi : Γ[i]? = some (some (.val d))) (hg : WG S tg dec g ts) (h0 : gs s0 = maskE ks Γ) (hl : ks.length = Γ.length) (hb : ∀ s a, W S (g a (gs s)) body (fb s a) (flO gs)) (hr : ∀ s, W S (gs s) rest (k s) ι)
    (hf : RtOk ι kr) (hs : ∀ env x', foldedSetIterable (.Name x ipos) env x' = pure x' := by intro _ _; rfl) :
    W S Γ (.For tg (.Name x ipos) body [] pos :: rest) ((keysD d).bind fun xs => (M.foldF (fun s x => (dec x).bind fun a => fb s a) s0 xs).bind (Fl.go k kr)) ι := by
  intro ω G0 H0 σ G H P Dn E hm q
  have pl : ∀ X, S.Of X → PS X (.For tg (.Name x ipos) body [] pos) (tFor (iKeys (tVar i)) (RG S tg) (RS S body)) := fun X hX =>
    ps_for (by rw [hX.xe]; exact PassesOwn.never) hX.calm (pi_keys (pe_var (i := i) (by rw [hX.N]; exact hx.n) (by rw [hX.sc]; exact hx.v) hx.d hx.c)) (RG.pg hX tg) (RS.ps hX body) (hs _)
  obtain ⟨a, kvs, es, rfl, hv, hG, r, z, hm⟩ := var_dict E hi hm
  have hR := E.ext.le a _ (.inl hG)
  have hω := E.ext.notω hG
  have per : ∀ {od : Obj} {H1 : Hp}, H1 a = some (.frz od (.dK kvs)) → ∀ (Γ' : En) σ' Gc Hc, EnvOk ω S.K G (upd H0 a (.frz od (.dK kvs))) Γ' σ' Gc Hc → ∀ b u, b = a → H1 b = some u → Hc b = some u := fun h1 Γ' σ' Gc Hc E' b u hb hu => by
    subst hb
    rw [h1] at hu; cases hu
    exact E'.ext.hh b _ hω upd_same
  rcases hR with hH | ⟨o, hH⟩
  · refine rs_cons (fun X hX => ps_lock (pl X hX)) ⟨a, .dK kvs, hH, trivial, fun od => ?_⟩
    have El := E.locked (od := od) hH hG trivial
    refine ⟨.ref a, hv, a, od, rfl, .inl ⟨kvs, upd_same, ?_⟩⟩
    refine for_core (S := S) gs (s0 := s0) (A := fun b => b = a) hg hb (it_keys r z rfl upd_same) (by rw [h0]; exact El.mask ks hl) (per upd_same) hm (fun s σ' G' H' E' hk => ?_) fun d v G' H' hk e' r' => ?_
    · obtain ⟨h1, E2⟩ := E'.unlockS E.ext hH hG trivial
      exact ⟨h1, hr s ω G0 H0 σ' G' _ P Dn E2 hk q⟩
    · obtain ⟨r0, h1, h2⟩ := hf d P hk
      have zz := q r0 h1
      rw [h2] at zz
      exact ⟨e'.hh a _ hω upd_same, zz v G' _ (Ext.unlockS E.ext e' hH hG trivial) r'⟩
  · have El := E.islocked hH ⟨_, hG⟩
    refine rs_cons pl ⟨.ref a, hv, a, o, rfl, .inl ⟨kvs, hH, ?_⟩⟩
    refine for_core (S := S) gs (s0 := s0) (A := fun b => b = a) hg hb (it_keys r z rfl hH) (by rw [h0]; exact El.mask ks hl) (per hH) hm (fun s σ' G' H' E' hk => ?_) fun d v G' H' hk e' r' => ?_
    · exact hr s ω G0 H0 σ' G' _ P Dn (E'.islockedS E.ext hH ⟨_, hG⟩) hk q
    · obtain ⟨r0, h1, h2⟩ := hf d P hk
      have zz := q r0 h1
      rw [h2] at zz
      refine zz v G' _ ?_ r'
      exact (EnvOk.islockedS (Γ := []) (σ := []) E.ext ⟨e', rfl, fun i c h => by simp at h, fun i j d e v h => by simp at h⟩ hH ⟨_, hG⟩).ext
theorem w_forK {fb : σt → α → M σt} {k : σt → M ρ} {i : Nat} {x : Str} {d : D} (gs : σt → En) (s0 : σt) (ks : List Bool) (hx : VarAt S i x) (hi : Γ[i]? = some (some (.val d))) (hg : WG S tg dec g ts) (h0 : gs s0 = maskE ks Γ) (hl : ks.length = Γ.length) (hb : ∀ s a, W S (g a (gs s)) body (fb s a) (fun s' => .nx (gs s'))) (hr : ∀ s, W S (gs s) rest (k s) ι) :
    W S Γ (.For tg (.Name x ipos) body [] pos :: rest) ((keysD d).bind fun xs => (M.fold (fun s x => (dec x).bind fun a => fb s a) s0 xs).bind k) ι := by
  have h := w_forFK (ι := ι) (pos := pos) (ipos := ipos) (fb := fun s a => (fb s a).bind fun s' => M.pure (.nx s')) (k := k) (kr := fun _ => M.fail) gs s0 ks hx hi hg h0 hl (fun s a => w_map (hb s a)) hr rt_none
  have z : ((keysD d).bind fun xs => (M.fold (fun s x => (dec x).bind fun a => fb s a) s0 xs).bind k) = (keysD d).bind fun xs => (M.foldF (fun s x => (dec x).bind fun a => (fb s a).bind fun s' => M.pure (.nx s')) s0 xs).bind (Fl.go k fun _ => M.fail) := by
    have : (fun xs => (M.fold (fun s x => (dec x).bind fun a => fb s a) s0 xs).bind k) = fun xs => (M.foldF (fun s x => (dec x).bind fun a => (fb s a).bind fun s' => M.pure (.nx s')) s0 xs).bind (Fl.go k fun _ => M.fail) := by
      funext xs
      exact (foldF_nx (f := fun s x => (dec x).bind fun a => fb s a) xs s0).symm
    rw [this]
  rw [z]
  exact h

/-! ### sorted, min, max, all, any -/
open PySem.W in
/-- alike, none of them None, nested at most 16 deep, all tuples with something in them or no tuples -/
def sortable (ds : List D) : Bool := (ds.all fun x => ds.all fun y => alike x y) && shA 16 ds && (ds.all (fun d => match d with | .tuple (_ :: _) => true | _ => false) || ds.all fun d => match d with | .tuple _ => false | .none => false | _ => true)
open PySem.W in
def sortL (ds : List D) : List D := ds.mergeSort (dataLe false id)
def sortedD : D → M D
  | .list ds => M.need (sortable ds = true) (M.pure (.list (sortL ds)))
  | .dict es => M.need (marked es = false ∧ sortable (es.map (·.1)) = true) (M.pure (.list (sortL (es.map (·.1)))))
  | _ => M.fail
open PySem.W in
theorem sortable_ok {ds : List D} (h : sortable ds = true) : AllAlike (ds.map id) ∧ Sortable (ds.map id) ∧ PyData.canLayAll0 ds = true ∧ PyData.depthAll ds ≤ 16 := by
  unfold sortable at h
  simp only [Bool.and_eq_true, Bool.or_eq_true, List.all_eq_true] at h
  obtain ⟨⟨h1, h2⟩, h3⟩ := h
  have h4 := shA_lay ds 16 h2
  refine ⟨fun d hd d' hd' => ?_, ?_, h4.1, h4.2⟩
  · rw [List.map_id] at hd hd'
    exact h1 d hd d' hd'
  · rw [List.map_id]
    rcases h3 with h3 | h3
    · refine .inl fun d hd => ?_
      have := h3 d hd
      cases d with
      | tuple xs => cases xs with
        | nil => simp at this
        | cons x r => exact ⟨x, r, rfl⟩
      | _ => simp at this
    · refine .inr fun d hd => ?_
      have := h3 d hd
      cases d <;> simp_all
theorem dp_mem : ∀ {ds : List D} {d : D}, d ∈ ds → d.depth ≤ PyData.depthAll ds
  | [], _, h => by cases h
  | x :: xs, d, h => by
    rcases List.mem_cons.mp h with rfl | h
    · simp [PyData.depthAll]; omega
    · have := dp_mem h; simp [PyData.depthAll]; omega
open PySem.W in
theorem each_of {X : Cx} {pins : List (Addr × Obj)} {σ : L2.St} {G H : Hp} {s : Shared} (I : L2.Inv X pins σ H s) (l : Le G H) : ∀ {ds : List D} {xs : List V} {us : List Value}, RpA X.K G xs ds → Vals xs us → PyData.canLayAll0 ds = true →
    EachIs (fun v d => ∃ x, RelV x v ∧ Rp X.K G x d) us ds ∧ EachIs (fun v d => ∃ as, Reads s.heap v (id d) as) us ds
  | _, _, _, .nil, .nil, _ => ⟨.nil, .nil⟩
  | d :: ds, _, _, .cons r t, .cons rv tv, h => by
    have h' : d.canLay0 = true ∧ PyData.canLayAll0 ds = true := by simpa [PyData.canLayAll0] using h
    obtain ⟨e1, e2⟩ := each_of I l t tv h'.2
    exact ⟨.cons ⟨_, rv, r⟩ e1, .cons (Dp.reads I d _ _ (r.dp l d h'.1) rv) e2⟩
open PySem.W in
theorem each_back {K : PySem.W.Frag} {G : Hp} : ∀ {us : List Value} {ds : List D}, EachIs (fun v d => ∃ x, RelV x v ∧ Rp K G x d) us ds → ∃ xs, Vals xs us ∧ RpA K G xs ds
  | _, _, .nil => ⟨[], .nil, .nil⟩
  | _, _, .cons ⟨x, h1, h2⟩ t => by
    obtain ⟨xs, h3, h4⟩ := each_back t
    exact ⟨x :: xs, .cons h1 h3, .cons h2 h4⟩
open PySem.W in
theorem call_sortedL {X : Cx} {k : Nat} (hr : Room k X.A) : CallR X (.builtin "sorted") (fun xs H Q => ∃ a G ds ys, xs = [.ref a] ∧ Rd H a (.lst ys) ∧ Le G H ∧ RpA X.K G ys ds ∧ sortable ds = true ∧ ∀ p zs, H p = none → RpA X.K G zs (sortL ds) → Q (.ref p) (upd H p (.lst zs))) := by
  intro pins s σ H vs us Q I r h
  obtain ⟨a, G, ds, ys, rfl, hs, l, ra, hd, q⟩ := h
  obtain ⟨its, rv, hl, hlen⟩ := I.list (.inl hs)
  rw [Vals.ref1 r]
  obtain ⟨h1, h2, h3, h4⟩ := sortable_ok hd
  obtain ⟨e1, e2⟩ := each_of I l ra rv h3
  have hn := ra.length
  refine sorted_data (bs := ds) (enc := id) (R := fun v d => ∃ x, RelV x v ∧ Rp X.K G x d) hl.isList e1 e2 h1 h2 (by omega) (fun d hd' => ?_) fun out ho eo => ?_
  · have := dp_mem hd'
    have := hr.un
    show X.A.units + 2 + d.depth < cLine
    omega
  · obtain ⟨zs, v1, r1⟩ := each_back eo
    obtain ⟨ep, he'⟩ := PyProof.Rows.sortedAll_at s.heap its out.toArray
    have hz := v1.length
    exact ⟨.ref _, upd H (s.heap.objs.size + 1) (.lst zs), I.laid (t' := s.toks) (fun _ _ => PyProof.Rows.sortedAll_old) (Nat.le_succ _) ⟨by omega, out, ep, v1, he'⟩, rfl, q _ zs (I.hok.fresh (Nat.le_succ _)) r1⟩
theorem sortL_len (ds : List D) : (sortL ds).length = ds.length := by unfold sortL; simp
open PySem.W in
theorem call_sortedK {X : Cx} {k : Nat} (hcalm : X.calm = true) (hr : Room k X.A) : CallR X (.builtin "sorted") (fun xs H Q => ∃ a G es kvs, xs = [.ref a] ∧ Rd H a (.dK kvs) ∧ Le G H ∧ RpK X.K G kvs es ∧ sortable (es.map (·.1)) = true ∧ ∀ p zs, H p = none → RpA X.K G zs (sortL (es.map (·.1))) → Q (.ref p) (upd H p (.lst zs))) := by
  intro pins s σ H xs us Q I r h
  obtain ⟨a, G, es, kvs, rfl, hd, l, ra, hso, q⟩ := h
  obtain ⟨u, rfl, rx⟩ := vals1 r
  cases rx
  obtain ⟨z, lo, vs, rel, dd⟩ := dk_rd I.hok hd
  obtain ⟨ep, hat⟩ := dd.dictAt
  have hl : vs.length = kvs.length := rel.length.symm
  have h16 : vs.length ≤ sizeLine := by rw [hl]; exact z
  obtain ⟨h1, h2, h3, h4⟩ := sortable_ok hso
  have hn := ra.length
  refine Calls.call_function_entry PyProof.Rows.kind_sorted PyProof.Rows.plain_sorted PyProof.Rows.entry_sorted (PyProof.Rows.args_sorted1 _) ?_
  unfold Builtin.«sorted»
  refine wpAny_bind (m := checkCount "sorted" 1 1 _) (wpAny_pure ?_)
  refine wpAny_bind (PySem.W.kdu_collect (A := X.A.in1) (PySem.W.kdl_dict (knd := mixKind X.prog X.w) (kvs := vs) (ep := ep) lo) (I.ok.hd hcalm) hat h16 fun h' tk acc hk hacc => ?_)
  have hal : acc.toList.length = kvs.length := by rw [Array.length_toList, hacc.1, hl]
  have I1 : L2.Inv X pins σ H { s with heap := h', toks := tk } := I.kept hk
  have hv : Vals (kvs.map fun kv => kV kv.1) acc.toList := vals_of_at (by rw [List.length_map, hal]) fun j x u hx hu => by
    obtain ⟨k, y, e1, e2⟩ := hacc.2 j u (by rw [← Array.getElem?_toList]; exact hu)
    have e3 : (vs.map (·.1))[j]? = some k := by rw [List.getElem?_map, e1]; all_goals rfl
    rw [← rel.keys, List.getElem?_map] at e3
    rw [List.getElem?_map] at hx
    cases e4 : kvs[j]? with
    | none => rw [e4] at e3; cases e3
    | some p =>
      rw [e4] at e3 hx
      have e5 : p.1 = k := Option.some.inj e3
      have e6 : kV p.1 = x := Option.some.inj hx
      rw [← e6, e5]
      exact keyIs_rel e2
  have hrp : RpA X.K G (kvs.map fun kv => kV kv.1) (es.map (·.1)) := by
    have : ∀ {kvs : List (Key × V)} {es : List (D × D)}, RpK X.K G kvs es → RpA X.K G (kvs.map fun kv => kV kv.1) (es.map (·.1)) := by
      intro kvs
      induction kvs with
      | nil => intro es r; cases r; exact .nil
      | cons p ps ih => intro es r; cases r with
        | cons rv t => exact .cons (keyD_rp _) (ih t)
    exact this ra
  obtain ⟨e1, e2⟩ := each_of I1 l hrp hv h3
  refine wpAny_bind (wpAny_newList ?_ (by rw [hal]; exact z))
  have hoL : (h'.push (seqObj "list" acc.toList.toArray 0)).get? h'.objs.size = some (seqObj "list" acc.toList.toArray 0) := Heap.get?_push_size _ rfl
  show wpAny _ _ _ _ _ { s with heap := h'.push (seqObj "list" acc.toList.toArray 0), toks := tk }
  have e2' : EachIs (fun v d => ∃ as, Reads (h'.push (seqObj "list" acc.toList.toArray 0)) v (id d) as ∧ h'.objs.size ∉ as) acc.toList (es.map (·.1)) := by
    have hflat : ∀ {us : List Value} {ds : List D}, (∀ d ∈ ds, kD d = true) → EachIs (fun v d => ∃ as, Reads h' v (id d) as) us ds → EachIs (fun v d => ∃ as, Reads (h'.push (seqObj "list" acc.toList.toArray 0)) v (id d) as ∧ h'.objs.size ∉ as) us ds := by
      intro us ds hk' e
      induction e with
      | nil => exact .nil
      | cons h t ih =>
        rename_i a b as bs
        refine .cons ?_ (ih fun d hd => hk' d (List.mem_cons_of_mem _ hd))
        obtain ⟨as', h⟩ := h
        have := hk' b List.mem_cons_self
        cases b with
        | int i => cases h; exact ⟨_, .int _ _, by simp⟩
        | str x => cases h; exact ⟨_, .str _ _, by simp⟩
        | _ => simp [kD] at this
    refine hflat (fun d hd' => ?_) e2
    obtain ⟨p, hp, rfl⟩ := List.mem_map.mp hd'
    have : ∀ {kvs : List (Key × V)} {es : List (D × D)}, RpK X.K G kvs es → ∀ p ∈ es, kD p.1 = true := by
      intro kvs
      induction kvs with
      | nil => intro es r; cases r; intro p hp; cases hp
      | cons q qs ih => intro es r; cases r with
        | cons rv t =>
          intro p hp
          rcases List.mem_cons.mp hp with rfl | hp
          · rename_i k _ _ _; cases k <;> rfl
          · exact ih t p hp
    exact this ra p hp
  refine wpAny_bind (wpAny_holding (list_sort_data (s := { s with heap := h'.push (seqObj "list" acc.toList.toArray 0), toks := tk }) (bs := es.map (·.1)) (enc := id) (R := fun v d => ∃ x, RelV x v ∧ Rp X.K G x d) hoL e1 e2' h1 h2 (by rw [List.length_map, ← hn]; exact z) (fun d hd' => ?_) fun out ho eo => ?_))
  · have := dp_mem hd'
    have := hr.un
    show X.A.units + 1 + 1 + d.depth < cLine
    omega
  · obtain ⟨zs, v1, r1⟩ := each_back eo
    obtain ⟨e', he'⟩ := PyProof.Rows.sortedHeap_at (vs := acc.toList) (out := out.toArray) hoL
    have hz := v1.length
    rw [List.length_map] at ho
    refine wpAny_pure ⟨_, rfl, .ref h'.objs.size, upd H h'.objs.size (.lst zs), I1.laid (t' := tk) (fun b u e => ?_) (Nat.le_refl _)
      (show ObjOk X.prog X.w _ _ _ (.lst zs) from ⟨by omega, out, e', v1, he'⟩), rfl, q _ zs (I1.hok.fresh (Nat.le_refl _)) r1⟩
    have hb : b < h'.objs.size := Heap.lt_size e
    rw [PyProof.Rows.sortedHeap_old (Nat.ne_of_lt hb) (by rw [size_push']; exact Nat.lt_succ_of_lt hb)]
    exact Heap.get?_push_of_some _ e
theorem sorted_ok : C1Ok S (.builtin "sorted") sortedD := by
  intro ω G H x v P Q e rx hf q
  cases x with
  | list ds =>
    obtain ⟨hs, hf⟩ := hf
    obtain ⟨a, as, rfl, s1, r1, z⟩ := rx.list e.le
    refine ⟨fun xs H Q => ∃ a G ds ys, xs = [.ref a] ∧ Rd H a (.lst ys) ∧ Le G H ∧ RpA S.K G ys ds ∧ sortable ds = true ∧ ∀ p zs, H p = none → RpA S.K G zs (sortL ds) → Q (.ref p) (upd H p (.lst zs)), fun X hX => hX.K ▸ call_sortedL hX.room, a, G, ds, as, rfl, s1, e.le, r1, hs, fun p zs np rz => ?_⟩
    obtain ⟨e2, r⟩ := new_lst e np rz (by rw [sortL_len]; exact z)
    exact q _ _ _ _ hf e2 r
  | dict es =>
    obtain ⟨⟨hm, hs⟩, hf⟩ := hf
    obtain ⟨a, rfl, z, ⟨kvs, s1, r1⟩ | ⟨kvs, es', rfl, _, _⟩⟩ := noT rx e.le
    · refine ⟨fun xs H Q => ∃ a G es kvs, xs = [.ref a] ∧ Rd H a (.dK kvs) ∧ Le G H ∧ RpK S.K G kvs es ∧ sortable (es.map (·.1)) = true ∧ ∀ p zs, H p = none → RpA S.K G zs (sortL (es.map (·.1))) → Q (.ref p) (upd H p (.lst zs)), fun X hX => hX.K ▸ call_sortedK hX.calm hX.room, a, G, es, kvs, rfl, s1, e.le, r1, hs, fun p zs np rz => ?_⟩
      obtain ⟨e2, r⟩ := new_lst e np rz (by rw [sortL_len, List.length_map]; exact z)
      exact q _ _ _ _ hf e2 r
    · simp [marked] at hm
  | _ => exact hf.elim
def maxD : D → M D
  | .list ds => (M.opt (asInts ds)).bind fun ns => (M.opt ns.max?).bind fun m => M.pure (.int m)
  | _ => M.fail
def minD : D → M D
  | .list ds => (M.opt (asInts ds)).bind fun ns => (M.opt ns.min?).bind fun m => M.pure (.int m)
  | _ => M.fail
theorem max_ok : C1Ok S (.builtin "max") maxD := by
  intro ω G H x v P Q e rx hf q
  cases x with
  | list ds =>
    obtain ⟨ns, h1, m, h2, hf⟩ := hf
    obtain ⟨a, as, rfl, s1, r1, z⟩ := rx.list e.le
    have e2 := asInts_some h1
    subst e2
    have e3 := r1.ints
    subst e3
    have hne : 0 < ns.length := by cases ns <;> simp_all
    refine ⟨rMax S.K, fun X hX => hX.K ▸ cr_max hX.calm, a, ns, rfl, .inl s1, hne, fun m' hm hle => ?_⟩
    have h3 := List.max?_eq_some_iff.mp h2
    have : m' = m := Int.le_antisymm (h3.2 m' hm) (hle m h3.1)
    rw [this]
    exact q _ _ _ _ hf e (.int _)
  | _ => exact hf.elim
theorem min_ok : C1Ok S (.builtin "min") minD := by
  intro ω G H x v P Q e rx hf q
  cases x with
  | list ds =>
    obtain ⟨ns, h1, m, h2, hf⟩ := hf
    obtain ⟨a, as, rfl, s1, r1, z⟩ := rx.list e.le
    have e2 := asInts_some h1
    subst e2
    have e3 := r1.ints
    subst e3
    have hne : 0 < ns.length := by cases ns <;> simp_all
    refine ⟨rMin S.K, fun X hX => hX.K ▸ cr_min hX.calm, a, ns, rfl, .inl s1, hne, fun m' hm hle => ?_⟩
    have h3 := List.min?_eq_some_iff.mp h2
    have : m' = m := Int.le_antisymm (hle m h3.1) (h3.2 m' hm)
    rw [this]
    exact q _ _ _ _ hf e (.int _)
  | _ => exact hf.elim
def asBls : List D → Option (List Bool)
  | [] => some []
  | .bool i :: ds => (asBls ds).map (i :: ·)
  | _ :: _ => none
theorem asBls_map : ∀ ns : List Bool, asBls (ns.map .bool) = some ns
  | [] => rfl
  | n :: ns => by simp [asBls, asBls_map ns]
theorem asBls_some : ∀ {ds : List D} {ns : List Bool}, asBls ds = some ns → ds = ns.map .bool
  | [], ns, h => by simp [asBls] at h; subst h; rfl
  | d :: ds, ns, h => by
    cases d with
    | bool i =>
      obtain ⟨ms, h1, h2⟩ := Option.map_eq_some_iff.mp (show (asBls ds).map (i :: ·) = some ns from h)
      subst h2
      rw [asBls_some h1]; rfl
    | _ => simp [asBls] at h
theorem RpA.bls {K : PySem.W.Frag} {G : Hp} : ∀ {ns : List Bool} {xs : List V}, RpA K G xs (ns.map .bool) → xs = ns.map V.bl
  | [], _, .nil => rfl
  | n :: ns, _, .cons r t => by cases r; rw [t.bls]; rfl
def allD : D → M D
  | .list ds => (M.opt (asBls ds)).bind fun bs => M.pure (.bool (bs.all id))
  | _ => M.fail
def anyD : D → M D
  | .list ds => (M.opt (asBls ds)).bind fun bs => M.pure (.bool (bs.any id))
  | _ => M.fail
theorem all_ok : C1Ok S (.builtin "all") allD := by
  intro ω G H x v P Q e rx hf q
  cases x with
  | list ds =>
    obtain ⟨ns, h1, hf⟩ := hf
    obtain ⟨a, as, rfl, s1, r1, z⟩ := rx.list e.le
    have e2 := asBls_some h1
    subst e2
    have e3 := r1.bls
    subst e3
    exact ⟨rAll S.K, fun X hX => hX.K ▸ cr_all hX.calm, a, ns, rfl, .inl s1, q _ _ _ _ hf e (.bl _)⟩
  | _ => exact hf.elim
theorem any_ok : C1Ok S (.builtin "any") anyD := by
  intro ω G H x v P Q e rx hf q
  cases x with
  | list ds =>
    obtain ⟨ns, h1, hf⟩ := hf
    obtain ⟨a, as, rfl, s1, r1, z⟩ := rx.list e.le
    have e2 := asBls_some h1
    subst e2
    have e3 := r1.bls
    subst e3
    exact ⟨rAny S.K, fun X hX => hX.K ▸ cr_any hX.calm, a, ns, rfl, .inl s1, q _ _ _ _ hf e (.bl _)⟩
  | _ => exact hf.elim
/-- a module's constant: a tuple of ints, texts .. that stands in the written part -/
structure GlobAt (S : Sg) (x : Str) (u : Value) : Prop where
  g : S.sc.names.lookup x = some .globalImplicit
  m : S.mg x = some u
  d : (x == ("__debug__" : Str)) = false
theorem we_glob {x : Str} {u : Value} {v : V} {d : D} (h : GlobAt S x u) (r : RelV v u) (rp : ∀ G, Rp S.K G v d) : WE S Γ (.Name x pos) (M.pure d) := fun ω G0 H0 σ G H P Q E hm q =>
  ⟨_, fun X hX => pe_glob (gl_of hX h.g) (by rw [hX.mg]; exact h.m) r h.d, q _ _ G H hm E.self (rp G)⟩
end
end Wp
namespace Wp
open PySem PySem.Spec PyProof.Rows L2

/-! ### the script, as it is -/
section
variable {S : Sg} {Γ : En} {a b : Expr} {ma mb : M D} {pos p p2 : Pos}
theorem we_lenScr {i : Nat} {x : Str} {ns : List Int} (h : VarAt S i x) (hi : Γ[i]? = some (some (.scr ns))) (hb : BltAt S "len" (.builtin "len")) (he : ∀ env, starEach [.Name x p2] env = (false, eval (.Name x p2) env) :: starEach [] env := by intro _; rfl) :
    WE S Γ (.Call (.Name "len" p) [.Name x p2] [] pos) (M.pure (.int ns.length)) := by
  intro ω G0 H0 σ G H P Q E hm q
  obtain ⟨v, h1, o, rfl, ho⟩ := E.sl i _ hi
  refine ⟨_, fun X hX => pe_callB (RCall.call hX _) (gl_of hX hb.g) (by rw [hX.mg]; exact hb.m) hb.v (pa_cons (pe_var (i := i) (by rw [hX.N]; exact h.n) (by rw [hX.sc]; exact h.v) h.d h.c) pa_nil (he _)) hb.n hb.d (he _) rfl, .ref o, h1, ?_⟩
  refine ⟨fun xs H Q => ∃ p ys, xs = [.ref p] ∧ (SqL S.K H p ys ∨ SqT S.K H p ys) ∧ Q (.int ys.length) H, fun X hX => hX.K ▸ call_len_seq, o, ns.map V.int, rfl, .inl (E.ext.le.sqL ho), ?_⟩
  rw [List.length_map]
  exact q _ _ _ _ hm E.self (.int _)
theorem we_ixScr {i : Nat} {x : Str} {ns : List Int} (h : VarAt S i x) (hi : Γ[i]? = some (some (.scr ns))) (hb : WB S Γ b mb) (hs : PlainIx b) :
    WE S Γ (.Subscript (.Name x p) b pos) (mb.bind fun y => (asI y).bind fun k => (M.opt (atI ns k)).bind fun z => M.pure (.int z)) := by
  intro ω G0 H0 σ G H P Q E hm q
  obtain ⟨v, h1, o, rfl, ho⟩ := E.sl i _ hi
  refine ⟨_, fun X hX => pe_ix (RIx.ix hX) (pe_var (i := i) (by rw [hX.N]; exact h.n) (by rw [hX.sc]; exact h.v) h.d h.c) (RE.pe hX b) hs, .ref o, h1, ?_⟩
  refine hb ω G0 H0 σ G H _ _ E hm fun y u G1 H1 hy e1 r1 => ?_
  cases y with
  | int k =>
    cases r1.int
    obtain ⟨z, hz, hP⟩ := hy
    refine ⟨rIxL S.K, fun X hX => hX.K ▸ ix_list, o, ns.map V.int, k, .int z, rfl, rfl, e1.le.sqL ((Le.of_same e1.gg).sqL ho), ?_, q _ _ _ _ hP e1 (.int _)⟩
    unfold atI at hz ⊢
    simp only [List.length_map, List.getElem?_map] at hz ⊢
    cases hq : ixN ns.length k with
    | none => rw [hq] at hz; cases hz
    | some j =>
      rw [hq] at hz
      show Option.map V.int ns[j]? = _
      rw [show ns[j]? = some z from hz]
      rfl
  | _ => exact hy.elim
end

/-! ### the law's own call -/
def spLaw (K : PySem.W.Frag) : Sp := fun vs H Q _ => ∃ (a : Addr) (ns : List Int), vs = [.ref a] ∧ SqL K H a (ns.map V.int) ∧ ns.length ≤ 63 ∧ ∀ H', Q (.bl true) H'
def wDict (callE : Expr) (p2 p3 p4 p5 : Pos) (j1 j2 j3 : Nat) : Expr := .Dict [some (.Constant (.str ("draws" : Str)) j1 p2), some (.Constant (.str ("at" : Str)) j2 p3)] [callE, .Constant (.int 0) j3 p4] p5
theorem law_fn {P : Program} {w : World} {K : PySem.W.Frag} {mg : Str → Option Value} {base : Heap} {x qual : Str} {st : Stmt} {f : Addr} {fd : FuncData} {N : List Str} {k i : Nat} {callE : Expr} {rest : List Stmt} {mcall : List Int → M D} {m : M D} {wn : Str} {p1 p2 p3 p4 p5 p6 : Pos} {j1 j2 j3 : Nat}
    (F : Fun K x qual st f fd) (Sc : FnScope N ["script"] (defScope st)) (hN : 1 ≤ N.length) (hi0 : i ≠ 0) (hi : i < N.length) (hb : defBody st = .Assign [.Name wn p1] (wDict callE p2 p3 p4 p5 j1 j2 j3) p6 :: rest)
    (hw : SetAt ⟨P, w, K, mg, base, N, defScope st, k, fun _ => true⟩ i wn) (hcall : ∀ ns, WE ⟨P, w, K, mg, base, N, defScope st, k, fun _ => true⟩ (some (.scr ns) :: List.replicate (N.length - 1) none) callE (mcall ns))
    (hdr : ∀ ns : List Int, ns.length ≤ 63 → mcall ns fun d => ∃ ds : List Int, d = .list (ds.map .int))
    (hrest : W ⟨P, w, K, mg, base, N, defScope st, k, fun _ => true⟩ ((List.replicate N.length none).set i (some .drw)) rest m Out.rt) (hm : m fun d => d = .bool true)
    (hs : ∀ env, swapsWith (wDict callE p2 p3 p4 p5 j1 j2 j3) (some (.Name wn p1)) p6.line env = pure false := by intro _; rfl) :
    FnOk P w K mg base CX0 (k + 1) f fd ["script"] (spLaw K) := by
  refine F.ok Sc (fun vs H Q E h => by obtain ⟨a, ns, rfl, _⟩ := h; rfl) (fun cdv A outer s H vs Q E hr h => ?_)
  obtain ⟨a, ns, rfl, hS, hlen, q⟩ := h
  generalize hSg : (⟨P, w, K, mg, base, N, defScope st, k, fun _ => true⟩ : Sg) = S at *
  have hOf : S.Of (cxOf CX0 P w K mg base N qual (defScope st) f cdv A outer s H E).nox := by
    subst hSg; exact ⟨rfl, rfl, rfl, rfl, rfl, rfl, rfl, rfl, hr, rfl, rfl, Sc.nd⟩
  have hK : S.K = K := by subst hSg; rfl
  have hSN : S.N = N := by subst hSg; rfl
  refine ⟨RS S (defBody st), RS.ps hOf _, ?_⟩
  rw [hb]
  refine rs_cons (fun X hX => ps_set (i := i) (by rw [hX.N]; exact hX.nd) (by rw [hX.N]; exact hw.n) (by rw [hX.sc]; exact hw.l) (pe_disp (pps_cons pe_str (RE.pe hX callE) (pps_cons pe_str pe_int pps_nil)) rfl rfl (by simp) (by show 2 ≤ 15; decide)) (hs _) (hw.fx hX)) ?_
  intro p np
  have E0 : Ext none S.K H H H H := ⟨Same.refl _, fun _ _ _ h => h, Le.refl _, fun _ _ _ h => h, fun _ h => nomatch h⟩
  have E1 := E0.lay (o := .dK []) np
  have lnσ : (L2.start N [V.ref a]).length = N.length := by
    unfold L2.start
    simp only [List.length_append, List.length_map, List.length_replicate, List.length_cons, List.length_nil]
    omega
  have Ev : EnvOk none S.K H (upd H p (.dK [])) (some (.scr ns) :: List.replicate (N.length - 1) none) (L2.start N [V.ref a]) H (upd H p (.dK [])) := by
    refine ⟨E1.self, ?_, fun j c hj => ?_, fun j j' d e v h1 _ _ _ => ?_⟩
    · rw [lnσ]; simp only [List.length_cons, List.length_replicate]; omega
    · cases j with
      | zero => simp at hj; subst hj; exact ⟨.ref a, start_get rfl, a, rfl, hK ▸ hS⟩
      | succ j =>
        have := List.mem_of_getElem? (by simpa using hj : (List.replicate (N.length - 1) (none : Option Ct))[j]? = some (some c))
        rw [List.mem_replicate] at this
        cases this.2
    · cases j with
      | zero => simp at h1
      | succ j =>
        have := List.mem_of_getElem? (by simpa using h1 : (List.replicate (N.length - 1) (none : Option Ct))[j]? = some (some (.own d)))
        rw [List.mem_replicate] at this
        cases this.2
  show RE S callE _ _ _
  refine hcall ns none H _ _ H _ _ _ Ev (hdr ns hlen) fun d vd G2 H2 hd e2 r2 => ?_
  obtain ⟨ds, rfl⟩ := hd
  have hp2 : H2 p = some (.dK []) := e2.hh p _ (by intro h; cases h) upd_same
  have gp2 : G2 p = none := e2.fr p _ upd_same np
  refine ⟨hp2, [(.inr ("draws" : Str), vd), (.inr ("at" : Str), .int 0)], rfl, by simp, ?_⟩
  show RS S rest _ _ _
  have em : mergeK [] [(.inr ("draws" : Str), vd), (.inr ("at" : Str), V.int 0)] = [(.inr ("draws" : Str), vd), (.inr ("at" : Str), .int 0)] := rfl
  rw [em]
  have eX : Ext (some p) S.K G2 (upd H2 p (drwO vd 0)) G2 (upd H2 p (drwO vd 0)) := by
    refine ⟨Same.refl _, fun _ _ _ h => h, fun b u e => ?_, fun _ _ _ h => h, fun o ho => ?_⟩
    · have hb : b ≠ p := fun z => by
        subst z
        rcases e with e | ⟨q, e⟩ <;> (rw [gp2] at e; cases e)
      rcases e2.le b u e with r | ⟨q, r⟩
      · exact .inl (by rw [upd_ne hb]; exact r)
      · exact .inr ⟨q, by rw [upd_ne hb]; exact r⟩
    · cases ho
      exact ⟨gp2, vd, ds, 0, upd_same, r2, Int.le_refl _⟩
  refine hrest (some p) G2 _ _ G2 _ _ _ ⟨eX, ?_, fun j c hj => ?_, fun j j' d e v h1 _ _ _ => ?_⟩ hm fun d hd v G' H' e' r' => ?_
  · simp only [List.length_set, List.length_replicate]; exact lnσ
  · rcases getElem?_set_some hj with ⟨rfl, e, hl⟩ | ⟨_, hj⟩
    · cases e
      exact ⟨.ref p, by rw [List.getElem?_set_self (by rw [lnσ]; exact hi)], p, rfl, rfl⟩
    · have := List.mem_of_getElem? hj
      rw [List.mem_replicate] at this
      cases this.2
  · rcases getElem?_set_some h1 with ⟨rfl, e, hl⟩ | ⟨_, hj⟩
    · cases e
    · have := List.mem_of_getElem? hj
      rw [List.mem_replicate] at this
      cases this.2
  · subst hd
    cases r'
    exact q H'
end Wp
namespace Wp
open PySem PySem.Spec PyProof.Rows L2

/-! ### built-ins at their names -/
section
variable {S : Sg}

theorem blt_len (g : S.sc.names.lookup ("len" : Str) = some .globalImplicit) (m : S.mg ("len" : Str) = none) : BltAt S ("len" : Str) (.builtin "len") := ⟨g, m, rfl, by decide, rfl⟩
theorem blt_abs (g : S.sc.names.lookup ("abs" : Str) = some .globalImplicit) (m : S.mg ("abs" : Str) = none) : BltAt S ("abs" : Str) (.builtin "abs") := ⟨g, m, rfl, by decide, rfl⟩
theorem blt_max (g : S.sc.names.lookup ("max" : Str) = some .globalImplicit) (m : S.mg ("max" : Str) = none) : BltAt S ("max" : Str) (.builtin "max") := ⟨g, m, rfl, by decide, rfl⟩
theorem blt_min (g : S.sc.names.lookup ("min" : Str) = some .globalImplicit) (m : S.mg ("min" : Str) = none) : BltAt S ("min" : Str) (.builtin "min") := ⟨g, m, rfl, by decide, rfl⟩
theorem blt_sum (g : S.sc.names.lookup ("sum" : Str) = some .globalImplicit) (m : S.mg ("sum" : Str) = none) : BltAt S ("sum" : Str) (.builtin "sum") := ⟨g, m, rfl, by decide, rfl⟩
theorem blt_sorted (g : S.sc.names.lookup ("sorted" : Str) = some .globalImplicit) (m : S.mg ("sorted" : Str) = none) : BltAt S ("sorted" : Str) (.builtin "sorted") := ⟨g, m, rfl, by decide, rfl⟩
theorem blt_all (g : S.sc.names.lookup ("all" : Str) = some .globalImplicit) (m : S.mg ("all" : Str) = none) : BltAt S ("all" : Str) (.builtin "all") := ⟨g, m, rfl, by decide, rfl⟩
theorem blt_any (g : S.sc.names.lookup ("any" : Str) = some .globalImplicit) (m : S.mg ("any" : Str) = none) : BltAt S ("any" : Str) (.builtin "any") := ⟨g, m, rfl, by decide, rfl⟩
theorem blt_isinstance (g : S.sc.names.lookup ("isinstance" : Str) = some .globalImplicit) (m : S.mg ("isinstance" : Str) = none) : BltAt S ("isinstance" : Str) (.builtin "isinstance") := ⟨g, m, rfl, by decide, rfl⟩
theorem blt_int (g : S.sc.names.lookup ("int" : Str) = some .globalImplicit) (m : S.mg ("int" : Str) = none) : BltAt S ("int" : Str) (.type "int") := ⟨g, m, rfl, by decide, rfl⟩
theorem blt_tuple (g : S.sc.names.lookup ("tuple" : Str) = some .globalImplicit) (m : S.mg ("tuple" : Str) = none) : BltAt S ("tuple" : Str) (.type "tuple") := ⟨g, m, rfl, by decide, rfl⟩
theorem blt_list (g : S.sc.names.lookup ("list" : Str) = some .globalImplicit) (m : S.mg ("list" : Str) = none) : BltAt S ("list" : Str) (.type "list") := ⟨g, m, rfl, by decide, rfl⟩
theorem blt_dict (g : S.sc.names.lookup ("dict" : Str) = some .globalImplicit) (m : S.mg ("dict" : Str) = none) : BltAt S ("dict" : Str) (.type "dict") := ⟨g, m, rfl, by decide, rfl⟩
theorem blt_range (g : S.sc.names.lookup ("range" : Str) = some .globalImplicit) (m : S.mg ("range" : Str) = none) : BltAt S ("range" : Str) (.type "range") := ⟨g, m, rfl, by decide, rfl⟩
theorem blt_bool (g : S.sc.names.lookup ("bool" : Str) = some .globalImplicit) (m : S.mg ("bool" : Str) = none) : BltAt S ("bool" : Str) (.type "bool") := ⟨g, m, rfl, by decide, rfl⟩
theorem blt_str (g : S.sc.names.lookup ("str" : Str) = some .globalImplicit) (m : S.mg ("str" : Str) = none) : BltAt S ("str" : Str) (.type "str") := ⟨g, m, rfl, by decide, rfl⟩
theorem blt_set (g : S.sc.names.lookup ("set" : Str) = some .globalImplicit) (m : S.mg ("set" : Str) = none) : BltAt S ("set" : Str) (.type "set") := ⟨g, m, rfl, by decide, rfl⟩
theorem blt_zip (g : S.sc.names.lookup ("zip" : Str) = some .globalImplicit) (m : S.mg ("zip" : Str) = none) : BltAt S ("zip" : Str) (.type "zip") := ⟨g, m, rfl, by decide, rfl⟩
theorem blt_enumerate (g : S.sc.names.lookup ("enumerate" : Str) = some .globalImplicit) (m : S.mg ("enumerate" : Str) = none) : BltAt S ("enumerate" : Str) (.type "enumerate") := ⟨g, m, rfl, by decide, rfl⟩
theorem blt_reversed (g : S.sc.names.lookup ("reversed" : Str) = some .globalImplicit) (m : S.mg ("reversed" : Str) = none) : BltAt S ("reversed" : Str) (.type "reversed") := ⟨g, m, rfl, by decide, rfl⟩
end

/-! ### calls, by the number of arguments -/
def mf_v (m : D → M D) : List Ct → M D
  | [.val a] => m a
  | _ => M.fail
def mf_vv (m : D → D → M D) : List Ct → M D
  | [.val a, .val b] => m a b
  | _ => M.fail
def mf_vvv (m : D → D → D → M D) : List Ct → M D
  | [.val a, .val b, .val c] => m a b c
  | _ => M.fail
def mf_vvvv (m : D → D → D → D → M D) : List Ct → M D
  | [.val a, .val b, .val c, .val d] => m a b c d
  | _ => M.fail
def mf_vvvvv (m : D → D → D → D → D → M D) : List Ct → M D
  | [.val a, .val b, .val c, .val d, .val e] => m a b c d e
  | _ => M.fail
def mf_vvvvvv (m : D → D → D → D → D → D → M D) : List Ct → M D
  | [.val a, .val b, .val c, .val d, .val e, .val f] => m a b c d e f
  | _ => M.fail
def mf_w (m : M D) : List Ct → M D
  | [.drw] => m 
  | _ => M.fail
def mf_wv (m : D → M D) : List Ct → M D
  | [.drw, .val b] => m b
  | _ => M.fail
def mf_wvv (m : D → D → M D) : List Ct → M D
  | [.drw, .val b, .val c] => m b c
  | _ => M.fail
def mf_wvvv (m : D → D → D → M D) : List Ct → M D
  | [.drw, .val b, .val c, .val d] => m b c d
  | _ => M.fail
def mf_wvvvv (m : D → D → D → D → M D) : List Ct → M D
  | [.drw, .val b, .val c, .val d, .val e] => m b c d e
  | _ => M.fail
def mf_wvvvvv (m : D → D → D → D → D → M D) : List Ct → M D
  | [.drw, .val b, .val c, .val d, .val e, .val f] => m b c d e f
  | _ => M.fail
def mf_sv (m : List Int → D → M D) : List Ct → M D
  | [.scr ns, .val b] => m ns b
  | _ => M.fail
section
variable {S : Sg} {Γ : En} {pos p p2 : Pos} {x : Str} {j : Nat}

theorem we_call_v {m : D → M D} {ea : Expr} {ma : M D} (F : FnD S.P S.w S.K S.mg S.base x j 1 (mf_v m)) (hg : S.sc.names.lookup x = some .globalImplicit) (hj : j ≤ S.k) (ha : WE S Γ ea ma) (hdb : (x == ("__debug__" : Str)) = false := by rfl) (s0 : ∀ env, starEach [ea] env = (false, eval (ea) env) :: starEach [] env := by intro _; rfl) (hpl : ∀ env, (backTo pos (starEach [] env)).any (·.1) = false := by intro _; rfl) :
    WE S Γ (.Call (.Name x p) [ea] [] pos) (ma.bind fun a => m a) := we_call F hg hj rfl (wc_val ha wc_nil s0) hdb s0 hpl
theorem we_call_vv {m : D → D → M D} {ea eb : Expr} {ma mb : M D} (F : FnD S.P S.w S.K S.mg S.base x j 2 (mf_vv m)) (hg : S.sc.names.lookup x = some .globalImplicit) (hj : j ≤ S.k) (ha : WE S Γ ea ma) (hb : WE S Γ eb mb) (hdb : (x == ("__debug__" : Str)) = false := by rfl) (s0 : ∀ env, starEach [ea, eb] env = (false, eval (ea) env) :: starEach [eb] env := by intro _; rfl) (s1 : ∀ env, starEach [eb] env = (false, eval (eb) env) :: starEach [] env := by intro _; rfl) (hpl : ∀ env, (backTo pos (starEach [eb] env)).any (·.1) = false := by intro _; rfl) :
    WE S Γ (.Call (.Name x p) [ea, eb] [] pos) (ma.bind fun a => mb.bind fun b => m a b) := we_call F hg hj rfl (wc_val ha (wc_val hb wc_nil s1) s0) hdb s0 hpl
theorem we_call_vvv {m : D → D → D → M D} {ea eb ec : Expr} {ma mb mc : M D} (F : FnD S.P S.w S.K S.mg S.base x j 3 (mf_vvv m)) (hg : S.sc.names.lookup x = some .globalImplicit) (hj : j ≤ S.k) (ha : WE S Γ ea ma) (hb : WE S Γ eb mb) (hc : WE S Γ ec mc) (hdb : (x == ("__debug__" : Str)) = false := by rfl) (s0 : ∀ env, starEach [ea, eb, ec] env = (false, eval (ea) env) :: starEach [eb, ec] env := by intro _; rfl) (s1 : ∀ env, starEach [eb, ec] env = (false, eval (eb) env) :: starEach [ec] env := by intro _; rfl) (s2 : ∀ env, starEach [ec] env = (false, eval (ec) env) :: starEach [] env := by intro _; rfl) (hpl : ∀ env, (backTo pos (starEach [eb, ec] env)).any (·.1) = false := by intro _; rfl) :
    WE S Γ (.Call (.Name x p) [ea, eb, ec] [] pos) (ma.bind fun a => mb.bind fun b => mc.bind fun c => m a b c) := we_call F hg hj rfl (wc_val ha (wc_val hb (wc_val hc wc_nil s2) s1) s0) hdb s0 hpl
theorem we_call_vvvv {m : D → D → D → D → M D} {ea eb ec ed : Expr} {ma mb mc md : M D} (F : FnD S.P S.w S.K S.mg S.base x j 4 (mf_vvvv m)) (hg : S.sc.names.lookup x = some .globalImplicit) (hj : j ≤ S.k) (ha : WE S Γ ea ma) (hb : WE S Γ eb mb) (hc : WE S Γ ec mc) (hd : WE S Γ ed md) (hdb : (x == ("__debug__" : Str)) = false := by rfl) (s0 : ∀ env, starEach [ea, eb, ec, ed] env = (false, eval (ea) env) :: starEach [eb, ec, ed] env := by intro _; rfl) (s1 : ∀ env, starEach [eb, ec, ed] env = (false, eval (eb) env) :: starEach [ec, ed] env := by intro _; rfl) (s2 : ∀ env, starEach [ec, ed] env = (false, eval (ec) env) :: starEach [ed] env := by intro _; rfl) (s3 : ∀ env, starEach [ed] env = (false, eval (ed) env) :: starEach [] env := by intro _; rfl) (hpl : ∀ env, (backTo pos (starEach [eb, ec, ed] env)).any (·.1) = false := by intro _; rfl) :
    WE S Γ (.Call (.Name x p) [ea, eb, ec, ed] [] pos) (ma.bind fun a => mb.bind fun b => mc.bind fun c => md.bind fun d => m a b c d) := we_call F hg hj rfl (wc_val ha (wc_val hb (wc_val hc (wc_val hd wc_nil s3) s2) s1) s0) hdb s0 hpl
theorem we_call_vvvvv {m : D → D → D → D → D → M D} {ea eb ec ed ee : Expr} {ma mb mc md me : M D} (F : FnD S.P S.w S.K S.mg S.base x j 5 (mf_vvvvv m)) (hg : S.sc.names.lookup x = some .globalImplicit) (hj : j ≤ S.k) (ha : WE S Γ ea ma) (hb : WE S Γ eb mb) (hc : WE S Γ ec mc) (hd : WE S Γ ed md) (he : WE S Γ ee me) (hdb : (x == ("__debug__" : Str)) = false := by rfl) (s0 : ∀ env, starEach [ea, eb, ec, ed, ee] env = (false, eval (ea) env) :: starEach [eb, ec, ed, ee] env := by intro _; rfl) (s1 : ∀ env, starEach [eb, ec, ed, ee] env = (false, eval (eb) env) :: starEach [ec, ed, ee] env := by intro _; rfl) (s2 : ∀ env, starEach [ec, ed, ee] env = (false, eval (ec) env) :: starEach [ed, ee] env := by intro _; rfl) (s3 : ∀ env, starEach [ed, ee] env = (false, eval (ed) env) :: starEach [ee] env := by intro _; rfl) (s4 : ∀ env, starEach [ee] env = (false, eval (ee) env) :: starEach [] env := by intro _; rfl) (hpl : ∀ env, (backTo pos (starEach [eb, ec, ed, ee] env)).any (·.1) = false := by intro _; rfl) :
    WE S Γ (.Call (.Name x p) [ea, eb, ec, ed, ee] [] pos) (ma.bind fun a => mb.bind fun b => mc.bind fun c => md.bind fun d => me.bind fun e => m a b c d e) := we_call F hg hj rfl (wc_val ha (wc_val hb (wc_val hc (wc_val hd (wc_val he wc_nil s4) s3) s2) s1) s0) hdb s0 hpl
theorem we_call_vvvvvv {m : D → D → D → D → D → D → M D} {ea eb ec ed ee ef : Expr} {ma mb mc md me mf : M D} (F : FnD S.P S.w S.K S.mg S.base x j 6 (mf_vvvvvv m)) (hg : S.sc.names.lookup x = some .globalImplicit) (hj : j ≤ S.k) (ha : WE S Γ ea ma) (hb : WE S Γ eb mb) (hc : WE S Γ ec mc) (hd : WE S Γ ed md) (he : WE S Γ ee me) (hf : WE S Γ ef mf) (hdb : (x == ("__debug__" : Str)) = false := by rfl) (s0 : ∀ env, starEach [ea, eb, ec, ed, ee, ef] env = (false, eval (ea) env) :: starEach [eb, ec, ed, ee, ef] env := by intro _; rfl) (s1 : ∀ env, starEach [eb, ec, ed, ee, ef] env = (false, eval (eb) env) :: starEach [ec, ed, ee, ef] env := by intro _; rfl) (s2 : ∀ env, starEach [ec, ed, ee, ef] env = (false, eval (ec) env) :: starEach [ed, ee, ef] env := by intro _; rfl) (s3 : ∀ env, starEach [ed, ee, ef] env = (false, eval (ed) env) :: starEach [ee, ef] env := by intro _; rfl) (s4 : ∀ env, starEach [ee, ef] env = (false, eval (ee) env) :: starEach [ef] env := by intro _; rfl) (s5 : ∀ env, starEach [ef] env = (false, eval (ef) env) :: starEach [] env := by intro _; rfl) (hpl : ∀ env, (backTo pos (starEach [eb, ec, ed, ee, ef] env)).any (·.1) = false := by intro _; rfl) :
    WE S Γ (.Call (.Name x p) [ea, eb, ec, ed, ee, ef] [] pos) (ma.bind fun a => mb.bind fun b => mc.bind fun c => md.bind fun d => me.bind fun e => mf.bind fun f => m a b c d e f) := we_call F hg hj rfl (wc_val ha (wc_val hb (wc_val hc (wc_val hd (wc_val he (wc_val hf wc_nil s5) s4) s3) s2) s1) s0) hdb s0 hpl
theorem we_call_w {m : M D} {wi : Nat} {wx : Str} (F : FnD S.P S.w S.K S.mg S.base x j 1 (mf_w m)) (hg : S.sc.names.lookup x = some .globalImplicit) (hj : j ≤ S.k) (hw : VarAt S wi wx) (hwi : Γ[wi]? = some (some .drw)) (hdb : (x == ("__debug__" : Str)) = false := by rfl) (s0 : ∀ env, starEach [.Name wx p2] env = (false, eval (.Name wx p2) env) :: starEach [] env := by intro _; rfl) (hpl : ∀ env, (backTo pos (starEach [] env)).any (·.1) = false := by intro _; rfl) :
    WE S Γ (.Call (.Name x p) [.Name wx p2] [] pos) (m) := we_call F hg hj rfl (wc_drw hw hwi wc_nil s0) hdb s0 hpl
theorem we_call_wv {m : D → M D} {eb : Expr} {mb : M D} {wi : Nat} {wx : Str} (F : FnD S.P S.w S.K S.mg S.base x j 2 (mf_wv m)) (hg : S.sc.names.lookup x = some .globalImplicit) (hj : j ≤ S.k) (hw : VarAt S wi wx) (hwi : Γ[wi]? = some (some .drw)) (hb : WE S Γ eb mb) (hdb : (x == ("__debug__" : Str)) = false := by rfl) (s0 : ∀ env, starEach [.Name wx p2, eb] env = (false, eval (.Name wx p2) env) :: starEach [eb] env := by intro _; rfl) (s1 : ∀ env, starEach [eb] env = (false, eval (eb) env) :: starEach [] env := by intro _; rfl) (hpl : ∀ env, (backTo pos (starEach [eb] env)).any (·.1) = false := by intro _; rfl) :
    WE S Γ (.Call (.Name x p) [.Name wx p2, eb] [] pos) (mb.bind fun b => m b) := we_call F hg hj rfl (wc_drw hw hwi (wc_val hb wc_nil s1) s0) hdb s0 hpl
theorem we_call_wvv {m : D → D → M D} {eb ec : Expr} {mb mc : M D} {wi : Nat} {wx : Str} (F : FnD S.P S.w S.K S.mg S.base x j 3 (mf_wvv m)) (hg : S.sc.names.lookup x = some .globalImplicit) (hj : j ≤ S.k) (hw : VarAt S wi wx) (hwi : Γ[wi]? = some (some .drw)) (hb : WE S Γ eb mb) (hc : WE S Γ ec mc) (hdb : (x == ("__debug__" : Str)) = false := by rfl) (s0 : ∀ env, starEach [.Name wx p2, eb, ec] env = (false, eval (.Name wx p2) env) :: starEach [eb, ec] env := by intro _; rfl) (s1 : ∀ env, starEach [eb, ec] env = (false, eval (eb) env) :: starEach [ec] env := by intro _; rfl) (s2 : ∀ env, starEach [ec] env = (false, eval (ec) env) :: starEach [] env := by intro _; rfl) (hpl : ∀ env, (backTo pos (starEach [eb, ec] env)).any (·.1) = false := by intro _; rfl) :
    WE S Γ (.Call (.Name x p) [.Name wx p2, eb, ec] [] pos) (mb.bind fun b => mc.bind fun c => m b c) := we_call F hg hj rfl (wc_drw hw hwi (wc_val hb (wc_val hc wc_nil s2) s1) s0) hdb s0 hpl
theorem we_call_wvvv {m : D → D → D → M D} {eb ec ed : Expr} {mb mc md : M D} {wi : Nat} {wx : Str} (F : FnD S.P S.w S.K S.mg S.base x j 4 (mf_wvvv m)) (hg : S.sc.names.lookup x = some .globalImplicit) (hj : j ≤ S.k) (hw : VarAt S wi wx) (hwi : Γ[wi]? = some (some .drw)) (hb : WE S Γ eb mb) (hc : WE S Γ ec mc) (hd : WE S Γ ed md) (hdb : (x == ("__debug__" : Str)) = false := by rfl) (s0 : ∀ env, starEach [.Name wx p2, eb, ec, ed] env = (false, eval (.Name wx p2) env) :: starEach [eb, ec, ed] env := by intro _; rfl) (s1 : ∀ env, starEach [eb, ec, ed] env = (false, eval (eb) env) :: starEach [ec, ed] env := by intro _; rfl) (s2 : ∀ env, starEach [ec, ed] env = (false, eval (ec) env) :: starEach [ed] env := by intro _; rfl) (s3 : ∀ env, starEach [ed] env = (false, eval (ed) env) :: starEach [] env := by intro _; rfl) (hpl : ∀ env, (backTo pos (starEach [eb, ec, ed] env)).any (·.1) = false := by intro _; rfl) :
    WE S Γ (.Call (.Name x p) [.Name wx p2, eb, ec, ed] [] pos) (mb.bind fun b => mc.bind fun c => md.bind fun d => m b c d) := we_call F hg hj rfl (wc_drw hw hwi (wc_val hb (wc_val hc (wc_val hd wc_nil s3) s2) s1) s0) hdb s0 hpl
theorem we_call_wvvvv {m : D → D → D → D → M D} {eb ec ed ee : Expr} {mb mc md me : M D} {wi : Nat} {wx : Str} (F : FnD S.P S.w S.K S.mg S.base x j 5 (mf_wvvvv m)) (hg : S.sc.names.lookup x = some .globalImplicit) (hj : j ≤ S.k) (hw : VarAt S wi wx) (hwi : Γ[wi]? = some (some .drw)) (hb : WE S Γ eb mb) (hc : WE S Γ ec mc) (hd : WE S Γ ed md) (he : WE S Γ ee me) (hdb : (x == ("__debug__" : Str)) = false := by rfl) (s0 : ∀ env, starEach [.Name wx p2, eb, ec, ed, ee] env = (false, eval (.Name wx p2) env) :: starEach [eb, ec, ed, ee] env := by intro _; rfl) (s1 : ∀ env, starEach [eb, ec, ed, ee] env = (false, eval (eb) env) :: starEach [ec, ed, ee] env := by intro _; rfl) (s2 : ∀ env, starEach [ec, ed, ee] env = (false, eval (ec) env) :: starEach [ed, ee] env := by intro _; rfl) (s3 : ∀ env, starEach [ed, ee] env = (false, eval (ed) env) :: starEach [ee] env := by intro _; rfl) (s4 : ∀ env, starEach [ee] env = (false, eval (ee) env) :: starEach [] env := by intro _; rfl) (hpl : ∀ env, (backTo pos (starEach [eb, ec, ed, ee] env)).any (·.1) = false := by intro _; rfl) :
    WE S Γ (.Call (.Name x p) [.Name wx p2, eb, ec, ed, ee] [] pos) (mb.bind fun b => mc.bind fun c => md.bind fun d => me.bind fun e => m b c d e) := we_call F hg hj rfl (wc_drw hw hwi (wc_val hb (wc_val hc (wc_val hd (wc_val he wc_nil s4) s3) s2) s1) s0) hdb s0 hpl
theorem we_call_wvvvvv {m : D → D → D → D → D → M D} {eb ec ed ee ef : Expr} {mb mc md me mf : M D} {wi : Nat} {wx : Str} (F : FnD S.P S.w S.K S.mg S.base x j 6 (mf_wvvvvv m)) (hg : S.sc.names.lookup x = some .globalImplicit) (hj : j ≤ S.k) (hw : VarAt S wi wx) (hwi : Γ[wi]? = some (some .drw)) (hb : WE S Γ eb mb) (hc : WE S Γ ec mc) (hd : WE S Γ ed md) (he : WE S Γ ee me) (hf : WE S Γ ef mf) (hdb : (x == ("__debug__" : Str)) = false := by rfl) (s0 : ∀ env, starEach [.Name wx p2, eb, ec, ed, ee, ef] env = (false, eval (.Name wx p2) env) :: starEach [eb, ec, ed, ee, ef] env := by intro _; rfl) (s1 : ∀ env, starEach [eb, ec, ed, ee, ef] env = (false, eval (eb) env) :: starEach [ec, ed, ee, ef] env := by intro _; rfl) (s2 : ∀ env, starEach [ec, ed, ee, ef] env = (false, eval (ec) env) :: starEach [ed, ee, ef] env := by intro _; rfl) (s3 : ∀ env, starEach [ed, ee, ef] env = (false, eval (ed) env) :: starEach [ee, ef] env := by intro _; rfl) (s4 : ∀ env, starEach [ee, ef] env = (false, eval (ee) env) :: starEach [ef] env := by intro _; rfl) (s5 : ∀ env, starEach [ef] env = (false, eval (ef) env) :: starEach [] env := by intro _; rfl) (hpl : ∀ env, (backTo pos (starEach [eb, ec, ed, ee, ef] env)).any (·.1) = false := by intro _; rfl) :
    WE S Γ (.Call (.Name x p) [.Name wx p2, eb, ec, ed, ee, ef] [] pos) (mb.bind fun b => mc.bind fun c => md.bind fun d => me.bind fun e => mf.bind fun f => m b c d e f) := we_call F hg hj rfl (wc_drw hw hwi (wc_val hb (wc_val hc (wc_val hd (wc_val he (wc_val hf wc_nil s5) s4) s3) s2) s1) s0) hdb s0 hpl
theorem we_call_sv {m : List Int → D → M D} {eb : Expr} {mb : M D} {wi : Nat} {wx : Str} {ns : List Int} (F : FnD S.P S.w S.K S.mg S.base x j 2 (mf_sv m)) (hg : S.sc.names.lookup x = some .globalImplicit) (hj : j ≤ S.k) (hw : VarAt S wi wx) (hwi : Γ[wi]? = some (some (.scr ns))) (hb : WE S Γ eb mb) (hdb : (x == ("__debug__" : Str)) = false := by rfl) (s0 : ∀ env, starEach [.Name wx p2, eb] env = (false, eval (.Name wx p2) env) :: starEach [eb] env := by intro _; rfl) (s1 : ∀ env, starEach [eb] env = (false, eval (eb) env) :: starEach [] env := by intro _; rfl) (hpl : ∀ env, (backTo pos (starEach [eb] env)).any (·.1) = false := by intro _; rfl) :
    WE S Γ (.Call (.Name x p) [.Name wx p2, eb] [] pos) (mb.bind fun b => m ns b) := we_call F hg hj rfl (wc_scr hw hwi (wc_val hb wc_nil s1) s0) hdb s0 hpl
end

/-! ### defs, by the number of arguments -/
section
variable {P : Program} {w : World} {K : PySem.W.Frag} {mg : Str → Option Value} {base : Heap} {x qual : Str} {st : Stmt} {f : Addr} {fd : FuncData} {N ps : List Str} {k : Nat}
/-- a def of the text as it stands behind the top -/
def Has (K : PySem.W.Frag) (mg : Str → Option Value) (x : Str) (st : Stmt) : Prop := ∃ f fd, Fun K x x st f fd ∧ mg x = some (.ref f)
theorem fnd {n : Nat} {mf : List Ct → M D} (h : Has K mg x st) (Sc : FnScope N ps (defScope st)) (hn : ps.length = n) (hN : n ≤ N.length)
    (hbind : ∀ (kV doc pm : Value) (an : Option Addr) (cdv ct : Value) (us : List Value), us.length = ps.length → bindArgs (PySem.W.fnOf x x (defArgs st) (defBody st) (defScope st) .none kV doc pm an cdv ct) ⟨us, []⟩ = pure (ps.zip us))
    (hb : ∀ cs : List Ct, cs.length = n → W ⟨P, w, K, mg, base, N, defScope st, k, fun _ => true⟩ (cs.map some ++ List.replicate (N.length - n) none) (defBody st) (mf cs) Out.rt) : FnD P w K mg base x (k + 1) n mf := by
  obtain ⟨f, fd, F, hm⟩ := h
  exact ⟨⟨f, fd, ps, fn_ok F Sc hn hN hb, hm, F.kp, F.binds hbind⟩⟩
theorem wfail {S : Sg} {Γ : En} {sts : List Stmt} {ρ : Type} {ι : ρ → Out} {m : M ρ} (h : m = M.fail) : W S Γ sts m ι := by rw [h]; exact w_fail

theorem fnd_v {m : D → M D} (h : Has K mg x st) (Sc : FnScope N ps (defScope st)) (hn : ps.length = 1) (hN : 1 ≤ N.length)
    (hbind : ∀ (kV doc pm : Value) (an : Option Addr) (cdv ct : Value) (us : List Value), us.length = ps.length → bindArgs (PySem.W.fnOf x x (defArgs st) (defBody st) (defScope st) .none kV doc pm an cdv ct) ⟨us, []⟩ = pure (ps.zip us))
    (hb : ∀ a, W ⟨P, w, K, mg, base, N, defScope st, k, fun _ => true⟩ ([some (.val a)] ++ List.replicate (N.length - 1) none) (defBody st) (m a) Out.rt) : FnD P w K mg base x (k + 1) 1 (mf_v m) := by
  refine fnd h Sc hn hN hbind fun cs hl => ?_
  unfold mf_v
  split
  · exact hb _
  · exact w_fail
theorem fnd_vv {m : D → D → M D} (h : Has K mg x st) (Sc : FnScope N ps (defScope st)) (hn : ps.length = 2) (hN : 2 ≤ N.length)
    (hbind : ∀ (kV doc pm : Value) (an : Option Addr) (cdv ct : Value) (us : List Value), us.length = ps.length → bindArgs (PySem.W.fnOf x x (defArgs st) (defBody st) (defScope st) .none kV doc pm an cdv ct) ⟨us, []⟩ = pure (ps.zip us))
    (hb : ∀ a b, W ⟨P, w, K, mg, base, N, defScope st, k, fun _ => true⟩ ([some (.val a), some (.val b)] ++ List.replicate (N.length - 2) none) (defBody st) (m a b) Out.rt) : FnD P w K mg base x (k + 1) 2 (mf_vv m) := by
  refine fnd h Sc hn hN hbind fun cs hl => ?_
  unfold mf_vv
  split
  · exact hb _ _
  · exact w_fail
theorem fnd_vvv {m : D → D → D → M D} (h : Has K mg x st) (Sc : FnScope N ps (defScope st)) (hn : ps.length = 3) (hN : 3 ≤ N.length)
    (hbind : ∀ (kV doc pm : Value) (an : Option Addr) (cdv ct : Value) (us : List Value), us.length = ps.length → bindArgs (PySem.W.fnOf x x (defArgs st) (defBody st) (defScope st) .none kV doc pm an cdv ct) ⟨us, []⟩ = pure (ps.zip us))
    (hb : ∀ a b c, W ⟨P, w, K, mg, base, N, defScope st, k, fun _ => true⟩ ([some (.val a), some (.val b), some (.val c)] ++ List.replicate (N.length - 3) none) (defBody st) (m a b c) Out.rt) : FnD P w K mg base x (k + 1) 3 (mf_vvv m) := by
  refine fnd h Sc hn hN hbind fun cs hl => ?_
  unfold mf_vvv
  split
  · exact hb _ _ _
  · exact w_fail
theorem fnd_vvvv {m : D → D → D → D → M D} (h : Has K mg x st) (Sc : FnScope N ps (defScope st)) (hn : ps.length = 4) (hN : 4 ≤ N.length)
    (hbind : ∀ (kV doc pm : Value) (an : Option Addr) (cdv ct : Value) (us : List Value), us.length = ps.length → bindArgs (PySem.W.fnOf x x (defArgs st) (defBody st) (defScope st) .none kV doc pm an cdv ct) ⟨us, []⟩ = pure (ps.zip us))
    (hb : ∀ a b c d, W ⟨P, w, K, mg, base, N, defScope st, k, fun _ => true⟩ ([some (.val a), some (.val b), some (.val c), some (.val d)] ++ List.replicate (N.length - 4) none) (defBody st) (m a b c d) Out.rt) : FnD P w K mg base x (k + 1) 4 (mf_vvvv m) := by
  refine fnd h Sc hn hN hbind fun cs hl => ?_
  unfold mf_vvvv
  split
  · exact hb _ _ _ _
  · exact w_fail
theorem fnd_vvvvv {m : D → D → D → D → D → M D} (h : Has K mg x st) (Sc : FnScope N ps (defScope st)) (hn : ps.length = 5) (hN : 5 ≤ N.length)
    (hbind : ∀ (kV doc pm : Value) (an : Option Addr) (cdv ct : Value) (us : List Value), us.length = ps.length → bindArgs (PySem.W.fnOf x x (defArgs st) (defBody st) (defScope st) .none kV doc pm an cdv ct) ⟨us, []⟩ = pure (ps.zip us))
    (hb : ∀ a b c d e, W ⟨P, w, K, mg, base, N, defScope st, k, fun _ => true⟩ ([some (.val a), some (.val b), some (.val c), some (.val d), some (.val e)] ++ List.replicate (N.length - 5) none) (defBody st) (m a b c d e) Out.rt) : FnD P w K mg base x (k + 1) 5 (mf_vvvvv m) := by
  refine fnd h Sc hn hN hbind fun cs hl => ?_
  unfold mf_vvvvv
  split
  · exact hb _ _ _ _ _
  · exact w_fail
theorem fnd_vvvvvv {m : D → D → D → D → D → D → M D} (h : Has K mg x st) (Sc : FnScope N ps (defScope st)) (hn : ps.length = 6) (hN : 6 ≤ N.length)
    (hbind : ∀ (kV doc pm : Value) (an : Option Addr) (cdv ct : Value) (us : List Value), us.length = ps.length → bindArgs (PySem.W.fnOf x x (defArgs st) (defBody st) (defScope st) .none kV doc pm an cdv ct) ⟨us, []⟩ = pure (ps.zip us))
    (hb : ∀ a b c d e f, W ⟨P, w, K, mg, base, N, defScope st, k, fun _ => true⟩ ([some (.val a), some (.val b), some (.val c), some (.val d), some (.val e), some (.val f)] ++ List.replicate (N.length - 6) none) (defBody st) (m a b c d e f) Out.rt) : FnD P w K mg base x (k + 1) 6 (mf_vvvvvv m) := by
  refine fnd h Sc hn hN hbind fun cs hl => ?_
  unfold mf_vvvvvv
  split
  · exact hb _ _ _ _ _ _
  · exact w_fail
theorem fnd_w {m : M D} (h : Has K mg x st) (Sc : FnScope N ps (defScope st)) (hn : ps.length = 1) (hN : 1 ≤ N.length)
    (hbind : ∀ (kV doc pm : Value) (an : Option Addr) (cdv ct : Value) (us : List Value), us.length = ps.length → bindArgs (PySem.W.fnOf x x (defArgs st) (defBody st) (defScope st) .none kV doc pm an cdv ct) ⟨us, []⟩ = pure (ps.zip us))
    (hb : W ⟨P, w, K, mg, base, N, defScope st, k, fun _ => true⟩ ([some .drw] ++ List.replicate (N.length - 1) none) (defBody st) (m ) Out.rt) : FnD P w K mg base x (k + 1) 1 (mf_w m) := by
  refine fnd h Sc hn hN hbind fun cs hl => ?_
  unfold mf_w
  split
  · exact hb 
  · exact w_fail
theorem fnd_wv {m : D → M D} (h : Has K mg x st) (Sc : FnScope N ps (defScope st)) (hn : ps.length = 2) (hN : 2 ≤ N.length)
    (hbind : ∀ (kV doc pm : Value) (an : Option Addr) (cdv ct : Value) (us : List Value), us.length = ps.length → bindArgs (PySem.W.fnOf x x (defArgs st) (defBody st) (defScope st) .none kV doc pm an cdv ct) ⟨us, []⟩ = pure (ps.zip us))
    (hb : ∀ b, W ⟨P, w, K, mg, base, N, defScope st, k, fun _ => true⟩ ([some .drw, some (.val b)] ++ List.replicate (N.length - 2) none) (defBody st) (m b) Out.rt) : FnD P w K mg base x (k + 1) 2 (mf_wv m) := by
  refine fnd h Sc hn hN hbind fun cs hl => ?_
  unfold mf_wv
  split
  · exact hb _
  · exact w_fail
theorem fnd_wvv {m : D → D → M D} (h : Has K mg x st) (Sc : FnScope N ps (defScope st)) (hn : ps.length = 3) (hN : 3 ≤ N.length)
    (hbind : ∀ (kV doc pm : Value) (an : Option Addr) (cdv ct : Value) (us : List Value), us.length = ps.length → bindArgs (PySem.W.fnOf x x (defArgs st) (defBody st) (defScope st) .none kV doc pm an cdv ct) ⟨us, []⟩ = pure (ps.zip us))
    (hb : ∀ b c, W ⟨P, w, K, mg, base, N, defScope st, k, fun _ => true⟩ ([some .drw, some (.val b), some (.val c)] ++ List.replicate (N.length - 3) none) (defBody st) (m b c) Out.rt) : FnD P w K mg base x (k + 1) 3 (mf_wvv m) := by
  refine fnd h Sc hn hN hbind fun cs hl => ?_
  unfold mf_wvv
  split
  · exact hb _ _
  · exact w_fail
theorem fnd_wvvv {m : D → D → D → M D} (h : Has K mg x st) (Sc : FnScope N ps (defScope st)) (hn : ps.length = 4) (hN : 4 ≤ N.length)
    (hbind : ∀ (kV doc pm : Value) (an : Option Addr) (cdv ct : Value) (us : List Value), us.length = ps.length → bindArgs (PySem.W.fnOf x x (defArgs st) (defBody st) (defScope st) .none kV doc pm an cdv ct) ⟨us, []⟩ = pure (ps.zip us))
    (hb : ∀ b c d, W ⟨P, w, K, mg, base, N, defScope st, k, fun _ => true⟩ ([some .drw, some (.val b), some (.val c), some (.val d)] ++ List.replicate (N.length - 4) none) (defBody st) (m b c d) Out.rt) : FnD P w K mg base x (k + 1) 4 (mf_wvvv m) := by
  refine fnd h Sc hn hN hbind fun cs hl => ?_
  unfold mf_wvvv
  split
  · exact hb _ _ _
  · exact w_fail
theorem fnd_wvvvv {m : D → D → D → D → M D} (h : Has K mg x st) (Sc : FnScope N ps (defScope st)) (hn : ps.length = 5) (hN : 5 ≤ N.length)
    (hbind : ∀ (kV doc pm : Value) (an : Option Addr) (cdv ct : Value) (us : List Value), us.length = ps.length → bindArgs (PySem.W.fnOf x x (defArgs st) (defBody st) (defScope st) .none kV doc pm an cdv ct) ⟨us, []⟩ = pure (ps.zip us))
    (hb : ∀ b c d e, W ⟨P, w, K, mg, base, N, defScope st, k, fun _ => true⟩ ([some .drw, some (.val b), some (.val c), some (.val d), some (.val e)] ++ List.replicate (N.length - 5) none) (defBody st) (m b c d e) Out.rt) : FnD P w K mg base x (k + 1) 5 (mf_wvvvv m) := by
  refine fnd h Sc hn hN hbind fun cs hl => ?_
  unfold mf_wvvvv
  split
  · exact hb _ _ _ _
  · exact w_fail
theorem fnd_wvvvvv {m : D → D → D → D → D → M D} (h : Has K mg x st) (Sc : FnScope N ps (defScope st)) (hn : ps.length = 6) (hN : 6 ≤ N.length)
    (hbind : ∀ (kV doc pm : Value) (an : Option Addr) (cdv ct : Value) (us : List Value), us.length = ps.length → bindArgs (PySem.W.fnOf x x (defArgs st) (defBody st) (defScope st) .none kV doc pm an cdv ct) ⟨us, []⟩ = pure (ps.zip us))
    (hb : ∀ b c d e f, W ⟨P, w, K, mg, base, N, defScope st, k, fun _ => true⟩ ([some .drw, some (.val b), some (.val c), some (.val d), some (.val e), some (.val f)] ++ List.replicate (N.length - 6) none) (defBody st) (m b c d e f) Out.rt) : FnD P w K mg base x (k + 1) 6 (mf_wvvvvv m) := by
  refine fnd h Sc hn hN hbind fun cs hl => ?_
  unfold mf_wvvvvv
  split
  · exact hb _ _ _ _ _
  · exact w_fail
theorem fnd_sv {m : List Int → D → M D} (h : Has K mg x st) (Sc : FnScope N ps (defScope st)) (hn : ps.length = 2) (hN : 2 ≤ N.length)
    (hbind : ∀ (kV doc pm : Value) (an : Option Addr) (cdv ct : Value) (us : List Value), us.length = ps.length → bindArgs (PySem.W.fnOf x x (defArgs st) (defBody st) (defScope st) .none kV doc pm an cdv ct) ⟨us, []⟩ = pure (ps.zip us))
    (hb : ∀ ns b, W ⟨P, w, K, mg, base, N, defScope st, k, fun _ => true⟩ ([some (.scr ns), some (.val b)] ++ List.replicate (N.length - 2) none) (defBody st) (m ns b) Out.rt) : FnD P w K mg base x (k + 1) 2 (mf_sv m) := by
  refine fnd h Sc hn hN hbind fun cs hl => ?_
  unfold mf_sv
  split
  · exact hb _ _
  · exact w_fail
end

/-! ### an if whose ways leave or go on -/
section
variable {ρ : Type} {S : Sg} {Γ : En} {c tg e : Expr} {tc : M Bool} {m : M D} {pos : Pos} {rest A B : List Stmt} {ι : ρ → Out} {ow : Bool}
def flO2 {α β : Type} (g : α → En) (gs : β → En) : Fl α β → Out
  | .nx s => .nx (g s)
  | .rt d => .rt d
  | .bk s => .bk (gs s)
  | .ct s => .ct (gs s)
def Fl.goB {α β ρ : Type} (k : α → M ρ) (kr : D → ρ) (kb kc : β → ρ) : Fl α β → M ρ
  | .nx s => k s
  | .rt d => M.pure (kr d)
  | .bk s => M.pure (kb s)
  | .ct s => M.pure (kc s)
theorem w_ifG {α β : Type} {m1 m2 : M (Fl α β)} {k : α → M ρ} {kr : D → ρ} {kb kc : β → ρ} (g : α → En) (gs : β → En) (hc : WT S Γ c tc) (ha : W S Γ A m1 (flO2 g gs)) (hb : W S Γ B m2 (flO2 g gs)) (hr : ∀ x, W S (g x) rest (k x) ι)
    (h1 : ∀ d, ι (kr d) = .rt d) (h2 : ∀ s, ι (kb s) = .bk (gs s)) (h3 : ∀ s, ι (kc s) = .ct (gs s)) :
    W S Γ (.If c A B pos :: rest) ((tc.bind fun b => bif b then m1 else m2).bind (Fl.goB k kr kb kc)) ι := by
  have go : ∀ r : Fl α β, Goes S rest ι (Fl.goB k kr kb kc r) (flO2 g gs r) := fun r => by
    cases r with
    | nx s => exact hr s
    | rt d => exact ⟨kr d, rfl, h1 d⟩
    | bk s => exact ⟨kb s, rfl, h2 s⟩
    | ct s => exact ⟨kc s, rfl, h3 s⟩
  intro ω G0 H0 σ G H P Dn E hm q
  refine w_if (mA := m1) (mB := m2) (kA := Fl.goB k kr kb kc) (kB := Fl.goB k kr kb kc) hc ha hb go go ω G0 H0 σ G H P Dn E ?_ q
  have hm' : tc (fun b => (bif b then m1 else m2) fun x => Fl.goB k kr kb kc x P) := hm
  have : (fun b => (bif b then m1 else m2) fun x => Fl.goB k kr kb kc x P) = fun b => (bif b then m1.bind (Fl.goB k kr kb kc) else m2.bind (Fl.goB k kr kb kc)) P := by funext b; cases b <;> rfl
  rw [this] at hm'
  exact hm'
/-! ### lookups -/
def Nm (x : Str) : Prop := (x == ("__debug__" : Str)) = false ∧ (x == ("__classdict__" : Str)) = false
theorem vaL {i : Nat} {x : Str} (n : S.N[i]? = some x) (l : S.sc.names.lookup x = some .local) (m : Nm x) : VarAt S i x := ⟨n, .inl l, m.1, m.2⟩
theorem vaC {i : Nat} {x : Str} (n : S.N[i]? = some x) (l : S.sc.names.lookup x = some .cell) (m : Nm x) : VarAt S i x := ⟨n, .inr (.inl l), m.1, m.2⟩
theorem saL {i : Nat} {x : Str} (n : S.N[i]? = some x) (l : S.sc.names.lookup x = some .local) : SetAt S i x := ⟨n, .inl l, .inr l⟩
theorem saC {i : Nat} {x : Str} (n : S.N[i]? = some x) (l : S.sc.names.lookup x = some .cell) (f : S.fn x = true) : SetAt S i x := ⟨n, .inr l, .inl f⟩
theorem look_map {f : Str → NameKind → NameKind} (x : Str) : ∀ (ns : List (Str × NameKind)), (ns.map fun (n, k) => (n, f n k)).lookup x = (ns.lookup x).map (f x)
  | [] => rfl
  | (n, k) :: ns => by
    simp only [List.map_cons, List.lookup_cons]
    by_cases h : (x == n) = true
    · have e : x = n := by simpa using h
      subst e; simp
    · simp only [h, look_map x ns]
theorem rel_look {scope sc : Scope} {x : Str} : (relS scope sc).names.lookup x = (scope.names.lookup x).map fun k => if (k == .free && sc.kind == .function && sc.names.lookup x == some .cell) then .cell else k := by
  rw [← look_map (f := fun n k => if (k == .free && sc.kind == .function && sc.names.lookup n == some .cell) then .cell else k)]
  show List.lookup x (scope.names.map _) = _
  congr 1
  refine List.map_congr_left fun ⟨n, k⟩ _ => ?_
  show (if _ then _ else _) = _
  split <;> simp_all
theorem rel_free {scope sc : Scope} {x : Str} (l : scope.names.lookup x = some .free) (k : sc.kind = .function) (c : sc.names.lookup x = some .cell) : (relS scope sc).names.lookup x = some .cell := by
  rw [rel_look, l, k, c]; rfl
theorem rel_loc {scope sc : Scope} {x : Str} (l : scope.names.lookup x = some .local) : (relS scope sc).names.lookup x = some .local := by rw [rel_look, l]; rfl
theorem rel_cell {scope sc : Scope} {x : Str} (l : scope.names.lookup x = some .cell) : (relS scope sc).names.lookup x = some .cell := by rw [rel_look, l]; rfl
theorem rel_glob {scope sc : Scope} {x : Str} (l : scope.names.lookup x = some .globalImplicit) : (relS scope sc).names.lookup x = some .globalImplicit := by rw [rel_look, l]; rfl
theorem w_nf {ρ : Type} {S : Sg} {Γ Γ' : En} {sts : List Stmt} {m : M ρ} {ι : ρ → Out} (h : Γ = Γ') (k : W S Γ' sts m ι) : W S Γ sts m ι := h ▸ k
theorem we_nf {S : Sg} {Γ Γ' : En} {e : Expr} {m : M D} (h : Γ = Γ') (k : WE S Γ' e m) : WE S Γ e m := h ▸ k
theorem wt_nf {S : Sg} {Γ Γ' : En} {e : Expr} {m : M Bool} (h : Γ = Γ') (k : WT S Γ' e m) : WT S Γ e m := h ▸ k
/-! ### a module's constants -/
def GlC (K : PySem.W.Frag) (mg : Str → Option Value) (x : Str) (d : D) : Prop := ∃ u v, mg x = some u ∧ RelV v u ∧ ∀ G, Rp K G v d
theorem we_glc {Γ : En} {x : Str} {d : D} {pos : Pos} (h : GlC S.K S.mg x d) (g : S.sc.names.lookup x = some .globalImplicit) (hd : (x == ("__debug__" : Str)) = false := by rfl) : WE S Γ (.Name x pos) (M.pure d) := by
  obtain ⟨u, v, h1, h2, h3⟩ := h
  exact we_glob ⟨g, h1, hd⟩ h2 h3
/-! ### lists and tuples walked alike -/
def asS : D → M (List D)
  | .list ds => M.pure ds
  | .tuple ds => M.pure ds
  | _ => M.fail
theorem pi_seqA {X : Cx} {l : Expr} {tl : TE} (hl : PE X l tl) : PI X tg l (fun σ H R => tl σ H fun x H1 => (∃ a, x = .ref a ∧ (∃ xs, SqL X.K H1 a xs) ∧ R (Itl X.K a) H1) ∨ ∃ a, x = .ref a ∧ (∃ xs, SqT X.K H1 a xs) ∧ R (Itt X.K a) H1) := by
  refine ⟨fun pins s σ H R I h => ?_⟩
  refine thn (hl.run pins s σ H _ I h) fun v s1 ⟨x, H1, I1, r1, q1⟩ => ?_
  rcases q1 with ⟨a, e, ⟨xs, hq⟩, q⟩ | ⟨a, e, ⟨xs, hq⟩, q⟩
  · subst e
    cases r1
    obtain ⟨its, rv, p, hz⟩ := I1.list hq
    refine wpAny_pyIter_list p.isList ?_
    refine ⟨s1.heap.objs.size, [s1.heap.objs.size], _, _, H1, rfl, I1.kept (t' := s1.toks) fun b o e => Heap.get?_push_of_some _ e, turn_list a _, ⟨_, Heap.get?_push_size _ rfl, rfl, rfl⟩, fun b hb => ?_, q⟩
    have e : b = s1.heap.objs.size := by simpa using hb
    subst e
    exact I1.fpOk (Nat.le_refl _) (I1.hok.fresh (Nat.le_refl _))
  · subst e
    cases r1
    obtain ⟨its, rv, p, hz⟩ := I1.tuple hq
    refine wpAny_pyIter_tuple (show s1.heap.IsTuple a its.toArray from p) ?_
    refine ⟨s1.heap.objs.size, [s1.heap.objs.size], _, _, H1, rfl, I1.kept (t' := s1.toks) fun b o e => Heap.get?_push_of_some _ e, turn_tuple a _, ⟨_, Heap.get?_push_size _ rfl, rfl, rfl⟩, fun b hb => ?_, q⟩
    have e : b = s1.heap.objs.size := by simpa using hb
    subst e
    exact I1.fpOk (Nat.le_refl _) (I1.hok.fresh (Nat.le_refl _))
theorem wi_seq (he : WE S Γ e m) : WI S Γ ow tg e (m.bind fun x => asS x) := by
  intro ω G0 H0 σ G H P R E hm q
  refine ⟨_, fun X hX => hX.K ▸ pi_seqA (RE.pe hX e), he ω G0 H0 σ G H _ _ E hm fun d v G' H' hP e1 r => ?_⟩
  cases r with
  | lst s r z => exact .inl ⟨_, rfl, ⟨_, .inl (e1.le _ _ s)⟩, q _ _ G' H' hP e1 (it_list r z fun Gc Hc h1 h2 _ => sq_frz (.inl s) h1 h2)⟩
  | tup s r z => exact .inr ⟨_, rfl, ⟨_, e1.le.sqT s⟩, q _ _ G' H' hP e1 (it_tup r z fun Gc Hc h1 h2 _ => sqt_frz s h1 h2)⟩
  | _ => exact False.elim hP
theorem wi_seqO (he : WB S Γ e m) : WI S Γ true tg e (m.bind fun x => asS x) := by
  intro ω G0 H0 σ G H P R E hm q
  refine ⟨_, fun X hX => hX.K ▸ pi_seqA (RE.pe hX e), he ω G0 H0 σ G H _ _ E hm fun d v G' H' hP e1 r => ?_⟩
  rcases r with r | ⟨o, u, h1, h2, h3, h4⟩
  · cases r with
    | lst s r z => exact .inl ⟨_, rfl, ⟨_, .inl (e1.le _ _ s)⟩, q _ _ G' H' hP e1 (it_list r z fun Gc Hc h1 h2 _ => sq_frz (.inl s) h1 h2)⟩
    | tup s r z => exact .inr ⟨_, rfl, ⟨_, e1.le.sqT s⟩, q _ _ G' H' hP e1 (it_tup r z fun Gc Hc h1 h2 _ => sqt_frz s h1 h2)⟩
    | _ => exact False.elim hP
  · cases h4 with
    | lst a z => exact .inl ⟨o, h1, ⟨_, .inl (.inl h3)⟩, q _ _ G' H' hP e1 (it_list a z fun Gc Hc g1 g2 g3 => .inl (.inl (g3 o _ ⟨rfl, h2⟩ h3)))⟩
    | _ => exact False.elim hP
end
end Wp
namespace Wp
open PySem PySem.Spec PyProof.Rows L2

/-! ### a draw -/
/-- what a draw gives is any of the many -/
def m__law_next (many : D) : M D := match many with
  | .int n => M.draw n
  | _ => M.fail
theorem getD_ints {K : PySem.W.Frag} {G : Hp} {vs : List V} {ds : List Int} (r : RpA K G vs (ds.map .int)) {i : Nat} (h : i < ds.length) : vs[i]? = some (.int ds[i]) := by
  rw [r.ints, List.getElem?_map, List.getElem?_eq_getElem h]; rfl
theorem next_fn {P : Program} {w : World} {K : PySem.W.Frag} {mg : Str → Option Value} {base : Heap} {st : Stmt} {p1 p2 p3 p4 p5 p6 p7 p8 p9 p10 p11 p12 p13 p14 p15 p16 p17 p18 p19 p20 p21 p22 p23 p24 p25 p26 p27 p28 pm1 pm2 pm3 : Pos} {k1 k2 k3 k4 k5 k6 k7 k8 : Nat}
    (h : Has K mg "_law_next" st) (Sc : FnScope ["w", "many"] ["w", "many"] (defScope st))
    (hbind : ∀ (kV doc pm : Value) (an : Option Addr) (cdv ct : Value) (us : List Value), us.length = 2 → bindArgs (PySem.W.fnOf "_law_next" "_law_next" (defArgs st) (defBody st) (defScope st) .none kV doc pm an cdv ct) ⟨us, []⟩ = pure ((["w", "many"] : List Str).zip us))
    (ml : mg "len" = none) (mi : mg "int" = none) (lw : (defScope st).names.lookup ("w" : Str) = some .local) (lm : (defScope st).names.lookup ("many" : Str) = some .local) (gl : (defScope st).names.lookup ("len" : Str) = some .globalImplicit) (gi : (defScope st).names.lookup ("int" : Str) = some .globalImplicit)
    (hb : defBody st = [.AugAssign (.Subscript (.Name "w" p1) (.Constant (.str "at") k1 p2) p3) .Add (.Constant (.int 1) k2 p4) p5,
      .If (.Compare (.Subscript (.Name "w" p6) (.Constant (.str "at") k3 p7) p8) [.Gt] [.Call (.Name "len" p9) [.Subscript (.Name "w" p10) (.Constant (.str "draws") k4 p11) p12] [] p13] p14) [.Return (some (.Constant (.int 0) k5 p15)) p16] [] p17,
      .Return (some (.BinOp (.Call (.Name "int" p18) [.Subscript (.Subscript (.Name "w" p19) (.Constant (.str "draws") k6 p20) p21) (.BinOp (.Subscript (.Name "w" p22) (.Constant (.str "at") k7 p23) p24) .Sub (.Constant (.int 1) k8 p25) p26) p27] [] p28) .Mod (.Name "many" pm1) pm2)) pm3]) :
    FnD P w K mg base "_law_next" 1 2 (mf_wv m__law_next) := by
  obtain ⟨f, fd, F, hm⟩ := h
  refine ⟨⟨f, fd, ["w", "many"], F.ok (k := 0) Sc (fun vs H Q E h => h.1) (fun cdv A outer s H vs Q E hr h => ?_), hm, F.kp, F.binds hbind⟩⟩
  obtain ⟨hl, ω, cs, G, P', hm', ha, hx, q⟩ := h
  rw [hb]
  have hu := hu_of hr
  have Lw : Vis (defScope st) "w" := .inl lw
  have Lm : Vis (defScope st) "many" := .inl lm
  unfold mf_wv at hm'
  split at hm'
  case h_2 => exact hm'.elim
  rename_i many
  cases ha with
  | drw ho ha =>
    rename_i o _
    cases ha with
    | val rm ha =>
      cases ha
      subst ho
      rename_i vm
      cases many with
      | int n =>
        cases rm
        obtain ⟨n0, hP⟩ := hm'
        obtain ⟨hG, vd, ds, at_, hH, rd, h0⟩ := hx.dr o rfl
        have hmod : ∀ z, 0 ≤ Int.fmod z n ∧ Int.fmod z n < n := fun z => ⟨Int.fmod_nonneg_of_pos z n0, Int.fmod_lt_of_pos z n0⟩
        refine ⟨_, pss_cons (ps_daug hu (pe_var (i := 0) rfl Lw) pe_str pe_int iop_add (fun _ _ _ => rfl)) (pss_cons (ps_if (pt_cmpR op_gt (pe_dget hu (pe_var (i := 0) rfl Lw) pe_str fun _ _ => rfl) (pe_callB call_len_seq gl ml rfl (pa_cons (pe_dget hu (pe_var (i := 0) rfl Lw) pe_str fun _ _ => rfl) pa_nil)) rfl) (pss_one (ps_ret pe_int)) pss_nil)
          (pss_one (ps_ret (pe_op op_modN (pe_callTy call_int1 gi mi rfl (pa_cons (pe_ix ix_list (pe_dget hu (pe_var (i := 0) rfl Lw) pe_str fun _ _ => rfl) (pe_op op_sub (pe_dget hu (pe_var (i := 0) rfl Lw) pe_str fun _ _ => rfl) pe_int) fun _ _ => rfl) pa_nil)) (pe_var (i := 1) rfl Lm))))), ?_⟩
        have hz : (2 : Nat) < sizeLine := by rw [sizeLine_eq]; decide
        refine ⟨.ref o, rfl, o, .int at_, rfl, .inl ⟨_, .inr ("at" : Str), .inl hH, rfl, rfl⟩, at_, 1, rfl, rfl, upd H o (drwO vd (at_ + 1)), .inl ⟨_, .inr ("at" : Str), hH, rfl, hz, rfl⟩, ?_⟩
        have hH2 : upd H o (drwO vd (at_ + 1)) o = some (drwO vd (at_ + 1)) := upd_same
        generalize hHd : upd H o (drwO vd (at_ + 1)) = H2 at hH2 ⊢
        have ex : Ext (some o) K G H G H2 := by
          subst hHd
          refine ⟨Same.refl _, fun b u hb e => by rw [upd_ne (fun z => hb (by rw [z]))]; exact e, fun b u e => ?_, fun _ _ _ h => h, fun b e => ?_⟩
          · have hb : b ≠ o := fun z => by
              subst z
              rcases e with e | ⟨q, e⟩ <;> (rw [hG] at e; cases e)
            rcases hx.le b u e with r | ⟨q, r⟩
            · exact .inl (by rw [upd_ne hb]; exact r)
            · exact .inr ⟨q, by rw [upd_ne hb]; exact r⟩
          · cases e
            exact ⟨hG, vd, ds, at_ + 1, upd_same, rd, by omega⟩
        cases rd with
        | lst s1 ra za =>
          rename_i a xs
          have hlen : xs.length = ds.length := by rw [ra.length]; simp
          have s2 : SqL K H2 a xs := .inl (ex.le _ _ s1)
          have g1 : DGet H2 o (.str ("at" : Str)) (some (.int (at_ + 1))) := .inl ⟨_, .inr ("at" : Str), .inl hH2, rfl, rfl⟩
          have g2 : DGet H2 o (.str ("draws" : Str)) (some (.ref a)) := .inl ⟨_, .inr ("draws" : Str), .inl hH2, rfl, rfl⟩
          refine ⟨.ref o, rfl, o, _, rfl, g1, .ref o, rfl, o, _, rfl, g2, a, xs, rfl, .inl s2, _, _, rfl, rfl, _, rfl, ?_⟩
          by_cases hlt : (xs.length : Int) < at_ + 1
          · rw [decide_eq_true hlt]
            refine iteT ?_
            exact q (.int 0) _ G _ (hP 0 (Int.le_refl _) n0) ex (.int 0)
          · rw [decide_eq_false hlt]
            refine iteF ?_
            have hi : at_.toNat < ds.length := by omega
            have ei : atI xs (at_ + 1 - 1) = some (.int ds[at_.toNat]) := by
              rw [Int.add_sub_cancel]
              unfold atI ixN
              rw [if_pos h0, if_pos (by omega)]
              exact getD_ints ra hi
            refine ⟨.ref o, rfl, o, _, rfl, g2, .ref o, rfl, o, _, rfl, g1, at_ + 1, 1, rfl, rfl, a, xs, _, _, rfl, rfl, s2, ei, .inl ⟨_, rfl, .int n, rfl, ds[at_.toNat], n, rfl, rfl, by omega, ?_⟩⟩
            exact q (.int _) _ G _ (hP _ (hmod _).1 (hmod _).2) ex (.int _)
      | _ => exact hm'.elim
/-! ### the draws -/
def m__law_draws (ns : List Int) (many_ : D) : M D :=
  ((M.pure (.list [])).bind fun draws_1 => 
  ((M.pure (.int 7)).bind fun mixed_2 => 
  (((M.pure (.int (ns.length : Nat))).bind fun x3 => ((asI x3).bind fun i4 => rngD 0 i4)).bind fun l96 => (M.fold (fun (s5 : D × D) x95 => ((M.pure x95).bind fun a6 => 
    (((((M.pure a6).bind fun x8 => ((asI x8).bind fun i9 => ((M.opt (atI ns i9)).bind fun z10 => M.pure (.int z10)))).bind fun x11 => intD x11).bind fun x12 => absD x12).bind fun cell_7 => 
    (((((((M.pure s5.2).bind fun x14 => ((M.pure (.int 48271)).bind fun x15 => mulD x14 x15)).bind fun x18 => (((M.pure cell_7).bind fun x16 => ((M.pure (.int 1000003)).bind fun x17 => modD x16 x17)).bind fun x19 => addD x18 x19)).bind fun x20 => ((M.pure a6).bind fun x21 => addD x20 x21)).bind fun x22 => intD x22).bind fun x23 => ((M.pure (.int 65537)).bind fun x24 => modD x23 x24)).bind fun mixed_13 => 
    ((M.pure (.int 0)).bind fun rest_25 => 
    ((((M.pure cell_7).bind fun x28 => (((M.pure (.int 10)).bind fun x26 => ((M.pure (.int 18)).bind fun x27 => powD x26 x27)).bind fun x29 => ((geD x28 x29).bind fun z30 => asB z30))).bind fun b31 => bif b31 then 
      ((M.pure cell_7).bind fun rest_32 => 
      (M.pure (s5.1, rest_32))) else
      (M.need (isL s5.1 = true) ((((M.pure cell_7).bind fun x33 => intD x33).bind fun x34 => ((M.pure (.int 997)).bind fun x35 => modD x34 x35)).bind fun x36 => ((appD s5.1 x36).bind fun draws_37 => 
      (M.need (isL draws_37 = true) (((((((M.pure mixed_13).bind fun x38 => ((M.pure (.int 69621)).bind fun x39 => mulD x38 x39)).bind fun x40 => ((M.pure (.int 5)).bind fun x41 => addD x40 x41)).bind fun x42 => intD x42).bind fun x43 => ((M.pure (.int 65521)).bind fun x44 => modD x43 x44)).bind fun x45 => ((M.pure (.int 997)).bind fun x46 => modD x45 x46)).bind fun x47 => ((appD draws_37 x47).bind fun draws_48 => 
      (M.pure (draws_48, rest_25))))))))).bind fun (s49 : D × D) => 
    (((M.pure (.int 60)).bind fun x50 => ((asI x50).bind fun i51 => rngD 0 i51)).bind fun l68 => (M.fold (fun (s52 : D × D) x67 => ((M.pure x67).bind fun a53 => 
      ((((M.pure s52.2).bind fun x54 => ((M.pure (.int 0)).bind fun x55 => ((gtD x54 x55).bind fun z56 => asB z56))).bind fun b57 => bif b57 then 
        (M.need (isL s52.1 = true) ((((M.pure s52.2).bind fun x58 => intD x58).bind fun x59 => ((M.pure (.int 997)).bind fun x60 => modD x59 x60)).bind fun x61 => ((appD s52.1 x61).bind fun draws_62 => 
        (((M.pure s52.2).bind fun x64 => ((M.pure (.int 997)).bind fun x65 => fdivD x64 x65)).bind fun rest_63 => 
        (M.pure (draws_62, rest_63)))))) else
        (M.pure (s52.1, s52.2))).bind fun (s66 : D × D) => 
      (M.pure (s66.1, s66.2))))) (s49.1, s49.2) l68).bind fun (s52 : D × D) =>
    (M.pure (s52.1, mixed_13))))))))) (draws_1, mixed_2) l96).bind fun (s5 : D × D) =>
  (((M.pure many_).bind fun x69 => ((asI x69).bind fun i70 => rngD 0 i70)).bind fun l94 => (M.fold (fun (s71 : D × D) x93 => ((M.pure x93).bind fun a72 => 
    (((((((M.pure s71.2).bind fun x74 => ((M.pure (.int 16807)).bind fun x75 => mulD x74 x75)).bind fun x76 => ((M.pure a72).bind fun x77 => addD x76 x77)).bind fun x78 => ((M.pure (.int 1)).bind fun x79 => addD x78 x79)).bind fun x80 => intD x80).bind fun x81 => ((M.pure (.int 65537)).bind fun x82 => modD x81 x82)).bind fun mixed_73 => 
    (M.need (isL s71.1 = true) ((((M.pure mixed_73).bind fun x83 => intD x83).bind fun x84 => ((M.pure (.int 997)).bind fun x85 => modD x84 x85)).bind fun x86 => ((appD s71.1 x86).bind fun draws_87 => 
    (M.pure (draws_87, mixed_73)))))))) (s5.1, s5.2) l94).bind fun (s71 : D × D) =>
  ((M.pure s71.1).bind fun x88 => ((M.pure none).bind fun l91 => (((M.pure many_).bind fun x89 => ((asI x89).bind fun i90 => M.pure (some i90))).bind fun h92 => slD x88 l91 h92)))))))
/-! ### running -/
section
variable {α β σ : Type}
@[simp] theorem bind_run {m : M α} {k : α → M β} {P : β → Prop} : M.bind m k P = m (fun x => k x P) := propext Iff.rfl
@[simp] theorem pure_run {a : α} {P : α → Prop} : M.pure a P = P a := propext Iff.rfl
@[simp] theorem need_run {c : Prop} {m : M α} {P : α → Prop} : M.need c m P = (c ∧ m P) := propext Iff.rfl
@[simp] theorem fail_run {P : α → Prop} : M.fail P = False := propext Iff.rfl
@[simp] theorem opt_some {a : α} {P : α → Prop} : M.opt (some a) P = P a := by simp [M.opt]
theorem cond_run {b : Bool} {m n : M α} {P : α → Prop} : (cond b m n) P ↔ ((b = true → m P) ∧ (b = false → n P)) := by cases b <;> simp
@[simp] theorem asI_int {i : Int} {P} : asI (.int i) P = P i := propext Iff.rfl
@[simp] theorem asB_bool {i : Bool} {P} : asB (.bool i) P = P i := propext Iff.rfl
@[simp] theorem asS_list {ds : List D} {P} : asS (.list ds) P = P ds := propext Iff.rfl
@[simp] theorem asS_tup {ds : List D} {P} : asS (.tuple ds) P = P ds := propext Iff.rfl
@[simp] theorem addD_int {a b : Int} {P} : addD (.int a) (.int b) P = P (.int (a + b)) := propext Iff.rfl
@[simp] theorem iaddD_int {a b : Int} {P} : iaddD (.int a) (.int b) P = P (.int (a + b)) := propext Iff.rfl
@[simp] theorem subD_int {a b : Int} {P} : subD (.int a) (.int b) P = P (.int (a - b)) := propext Iff.rfl
@[simp] theorem mulD_int {a b : Int} {P} : mulD (.int a) (.int b) P = ((small a ∧ small b) ∧ P (.int (a * b))) := propext Iff.rfl
@[simp] theorem fdivD_int {a b : Int} {P} : fdivD (.int a) (.int b) P = (((0 < b ∧ small b) ∨ (b < 0 ∧ -1073741824 < b)) ∧ P (.int (a.fdiv b))) := propext Iff.rfl
@[simp] theorem modD_int {a b : Int} {P} : modD (.int a) (.int b) P = (b ≠ 0 ∧ P (.int (a.fmod b))) := propext Iff.rfl
@[simp] theorem powD_int {a b : Int} {P} : powD (.int a) (.int b) P = ((0 ≤ b ∧ b ≤ 1000 ∧ a.natAbs < 2 ^ 64) ∧ P (.int (a ^ b.toNat))) := propext Iff.rfl
@[simp] theorem negD_int {a : Int} {P} : negD (.int a) P = P (.int (-a)) := propext Iff.rfl
@[simp] theorem absD_int {a : Int} {P} : absD (.int a) P = P (.int (if a < 0 then -a else a)) := propext Iff.rfl
@[simp] theorem intD_int {a : Int} {P} : intD (.int a) P = P (.int a) := propext Iff.rfl
@[simp] theorem intD_bool {a : Bool} {P} : intD (.bool a) P = P (.int (if a then 1 else 0)) := propext Iff.rfl
@[simp] theorem max2D_int {a b : Int} {P} : max2D (.int a) (.int b) P = P (.int (max a b)) := propext Iff.rfl
@[simp] theorem min2D_int {a b : Int} {P} : min2D (.int a) (.int b) P = P (.int (min a b)) := propext Iff.rfl
@[simp] theorem ltD_int {a b : Int} {P} : ltD (.int a) (.int b) P = P (.bool (decide (a < b))) := propext Iff.rfl
@[simp] theorem leD_int {a b : Int} {P} : leD (.int a) (.int b) P = P (.bool (decide (a ≤ b))) := propext Iff.rfl
@[simp] theorem gtD_int {a b : Int} {P} : gtD (.int a) (.int b) P = P (.bool (decide (b < a))) := propext Iff.rfl
@[simp] theorem geD_int {a b : Int} {P} : geD (.int a) (.int b) P = P (.bool (decide (b ≤ a))) := propext Iff.rfl
@[simp] theorem eqD_int {a b : Int} {P} : eqD (.int a) (.int b) P = P (.bool (decide (a = b))) := by
  show ((sh 16 (.int a) && sh 16 (.int b)) = true ∧ P (.bool (PyData.eqv (.int a) (.int b)))) = _
  simp [sh, PyData.eqv]; rfl
@[simp] theorem neD_int {a b : Int} {P} : neD (.int a) (.int b) P = P (.bool (!decide (a = b))) := by
  show ((sh 16 (.int a) && sh 16 (.int b)) = true ∧ P (.bool (!PyData.eqv (.int a) (.int b)))) = _
  simp [sh, PyData.eqv]; rfl
@[simp] theorem appD_list {ds : List D} {y : D} {P} : appD (.list ds) y P = (ds.length < 16777216 ∧ P (.list (ds ++ [y]))) := propext Iff.rfl
@[simp] theorem lenD_list {ds : List D} {P} : lenD (.list ds) P = P (.int ds.length) := propext Iff.rfl
@[simp] theorem lenD_tup {ds : List D} {P} : lenD (.tuple ds) P = P (.int ds.length) := propext Iff.rfl
@[simp] theorem tupleD_list {ds : List D} {P} : tupleD (.list ds) P = P (.tuple ds) := propext Iff.rfl
@[simp] theorem tupleD_tup {ds : List D} {P} : tupleD (.tuple ds) P = P (.tuple ds) := propext Iff.rfl
@[simp] theorem listD_list {ds : List D} {P} : listD (.list ds) P = P (.list ds) := propext Iff.rfl
@[simp] theorem listD_tup {ds : List D} {P} : listD (.tuple ds) P = P (.list ds) := propext Iff.rfl
@[simp] theorem slD_list {ds : List D} {l h : Option Int} {P} : slD (.list ds) l h P = P (.list (cutD ds l h)) := propext Iff.rfl
@[simp] theorem slD_tup {ds : List D} {l h : Option Int} {P} : slD (.tuple ds) l h P = P (.tuple (cutD ds l h)) := propext Iff.rfl
@[simp] theorem revD_list {ds : List D} {P} : revD (.list ds) P = P (.list ds.reverse) := propext Iff.rfl
@[simp] theorem truth_bool {b : Bool} {P} : truthD (.bool b) P = P b := propext Iff.rfl
@[simp] theorem truth_none {P} : truthD .none P = P false := propext Iff.rfl
@[simp] theorem truth_int {b : Int} {P} : truthD (.int b) P = P (b != 0) := propext Iff.rfl
@[simp] theorem truth_list {b : List D} {P} : truthD (.list b) P = P (!b.isEmpty) := propext Iff.rfl
@[simp] theorem truth_tup {b : List D} {P} : truthD (.tuple b) P = P (!b.isEmpty) := propext Iff.rfl
@[simp] theorem ixD_list {ds : List D} {i : Int} {P} : ixD (.list ds) (.int i) P = M.opt (atI ds i) P := propext Iff.rfl
@[simp] theorem ixD_tup {ds : List D} {i : Int} {P} : ixD (.tuple ds) (.int i) P = M.opt (atI ds i) P := propext Iff.rfl
@[simp] theorem isL_list {ds : List D} : isL (.list ds) = true := rfl
@[simp] theorem un2_run {a b : D} {P} : un2 (.tuple [a, b]) P = P (a, b) := propext Iff.rfl
@[simp] theorem un3_run {a b c : D} {P} : un3 (.tuple [a, b, c]) P = P (a, b, c) := propext Iff.rfl
@[simp] theorem un4_run {a b c d : D} {P} : un4 (.tuple [a, b, c, d]) P = P (a, b, c, d) := propext Iff.rfl
theorem atI_nat {xs : List α} {i : Nat} : atI xs (i : Int) = xs[i]? := by
  unfold atI ixN
  by_cases h : i < xs.length
  · simp [h]
  · simp [h]
@[simp] theorem atI_0 {x : α} {xs : List α} : atI (x :: xs) 0 = some x := atI_nat (i := 0)
@[simp] theorem atI_1 {x y : α} {xs : List α} : atI (x :: y :: xs) 1 = some y := atI_nat (i := 1)
@[simp] theorem atI_2 {x y z : α} {xs : List α} : atI (x :: y :: z :: xs) 2 = some z := atI_nat (i := 2)
@[simp] theorem atI_3 {x y z u : α} {xs : List α} : atI (x :: y :: z :: u :: xs) 3 = some u := atI_nat (i := 3)
theorem rngD_run {a b : Int} {P} (h1 : -4611686018427387904 ≤ a) (h2 : a < 4611686018427387904) (h3 : -4611686018427387904 ≤ b) (h4 : b < 4611686018427387904) (h5 : b - a ≤ 16777216) (h : P (rangeD a b)) : rngD a b P := ⟨⟨h1, h2, h3, h4, h5⟩, h⟩
theorem rangeD_len {a b : Int} : (rangeD a b).length = (b - a).toNat := by simp [rangeD]
theorem rangeD_get {a b : Int} {i : Nat} (h : i < (rangeD a b).length) : (rangeD a b)[i] = .int (a + i) := by simp [rangeD]
/-- a fold, by what holds behind i turns -/
theorem fold_run {f : σ → α → M σ} (I : Nat → σ → Prop) {P : σ → Prop} : ∀ (xs : List α) {s0 : σ} (_ : I 0 s0) (_ : ∀ (i : Nat) (hi : i < xs.length) (s : σ), I i s → ∀ Q : σ → Prop, (∀ s', I (i + 1) s' → Q s') → f s xs[i] Q) (_ : ∀ s, I xs.length s → P s), M.fold f s0 xs P := by
  intro xs s0 h0 hs hP
  have go : ∀ (ys : List α) (k : Nat) (s : σ), k + ys.length = xs.length → xs.drop k = ys → I k s → M.fold f s ys P := by
    intro ys
    induction ys with
    | nil => intro k s hk _ hI; rw [List.length_nil, Nat.add_zero] at hk; exact hP s (hk ▸ hI)
    | cons y ys ih =>
      intro k s hk hd hI
      have hk' : k < xs.length := by rw [List.length_cons] at hk; omega
      have e : xs[k] = y := by
        have := List.drop_eq_getElem_cons hk'
        rw [hd] at this
        exact (List.cons.inj this).1.symm
      refine (?_ : f s y _)
      rw [← e]
      refine hs k hk' s hI _ fun s' h' => ih (k + 1) s' (by rw [List.length_cons] at hk; omega) ?_ h'
      rw [← List.drop_drop, hd]; rfl
  exact go xs 0 s0 (by simp) rfl h0
end
theorem small_of {i : Int} (h1 : -1000000000000000000000000000000 < i) (h2 : i < 1000000000000000000000000000000) : small i := by unfold small; omega
def DI (n : Nat) (d : D) : Prop := ∃ ds : List Int, d = .list (ds.map .int) ∧ ds.length ≤ n
theorem DI.mono {a b : Nat} {d : D} (h : DI a d) (l : a ≤ b) : DI b d := let ⟨ds, e, z⟩ := h; ⟨ds, e, Nat.le_trans z l⟩
theorem DI.app {n : Nat} {d : D} (h : DI n d) (l : n < 16777215) {i : Int} {Q : D → Prop} (q : ∀ d', DI (n + 1) d' → Q d') : isL d = true ∧ appD d (.int i) Q := by
  obtain ⟨ds, rfl, z⟩ := h
  refine ⟨rfl, ?_, q _ ⟨ds ++ [i], by simp, by simp; omega⟩⟩
  simp; omega
theorem cut_ints (ds : List Int) (l h : Option Int) : ∃ es : List Int, cutD (ds.map .int) l h = es.map .int := ⟨(ds.drop (HT.sIx ds.length 0 l)).take (HT.sIx ds.length ds.length h - HT.sIx ds.length 0 l), by unfold cutD; simp [List.map_take, List.map_drop]⟩
theorem inner60 {f : D × D → D → M (D × D)} {d0 r0 : D} {n : Nat} {Q : D × D → Prop} (hn : n ≤ 100000) (h1 : DI n d0) (h2 : ∃ r : Int, r0 = .int r ∧ 0 ≤ r)
    (hf : ∀ (d x : D) (m : Nat) (r : Int), m ≤ 200000 → DI m d → 0 ≤ r → ∀ Q : D × D → Prop, (∀ d', DI (m + 1) d' → ∀ r' : Int, 0 ≤ r' → Q (d', .int r')) → f (d, .int r) x Q) (hQ : ∀ s', DI (n + 60) s'.1 → Q s') : M.fold f (d0, r0) (rangeD 0 60) Q := by
  refine fold_run (fun j s => DI (n + j) s.1 ∧ ∃ r : Int, s.2 = .int r ∧ 0 ≤ r) _ ⟨h1, h2⟩ (fun j hj s hI Q2 hQ2 => ?_) fun s hI => hQ s ?_
  · obtain ⟨hd, r, hr, r0⟩ := hI
    have hj' : j < 60 := by rw [rangeD_len] at hj; omega
    obtain ⟨d, r'⟩ := s
    cases hr
    exact hf d _ (n + j) r (by omega) hd r0 Q2 fun d' hd' r' hr' => hQ2 _ ⟨hd', r', rfl, hr'⟩
  · exact hI.1.mono (by rw [rangeD_len]; omega)
theorem turn60 {d : D} {m : Nat} {r : Int} (hm : m ≤ 200000) (hd : DI m d) (r0 : 0 ≤ r) {Q : D × D → Prop} (hQ : ∀ d', DI (m + 1) d' → ∀ r' : Int, 0 ≤ r' → Q (d', .int r')) :
    (decide (0 < r) = true → isL d = true ∧ (997 : Int) ≠ 0 ∧ appD d (.int (r.fmod 997)) fun z => ((0 < (997 : Int) ∧ small 997) ∨ ((997 : Int) < 0 ∧ -1073741824 < (997 : Int))) ∧ Q (z, .int (r.fdiv 997))) ∧ (decide (0 < r) = false → Q (d, .int r)) := by
  refine ⟨fun _ => ?_, fun _ => hQ d (hd.mono (by omega)) r r0⟩
  have := hd.app (i := r.fmod 997) (Q := fun z => ((0 < (997 : Int) ∧ small 997) ∨ ((997 : Int) < 0 ∧ -1073741824 < (997 : Int))) ∧ Q (z, .int (r.fdiv 997))) (by omega) fun d' hd' => ⟨.inl ⟨by omega, small_of (by omega) (by omega)⟩, hQ d' hd' _ (Int.fdiv_nonneg r0 (by omega))⟩
  exact ⟨this.1, by omega, this.2⟩
theorem draws_ok (many : Int) (hm0 : 0 ≤ many := by decide) (hm : many ≤ 1000 := by decide) (ns : List Int) (hn : ns.length ≤ 63) : ((M.pure (.int many)).bind fun x => m__law_draws ns x) fun d => ∃ ds : List Int, d = .list (ds.map .int) := by
  simp only [m__law_draws, bind_run, pure_run, asI_int]
  refine rngD_run (by omega) (by omega) (by omega) (by omega) (by omega) ?_
  have hlen : (rangeD 0 (ns.length : Int)).length = ns.length := by rw [rangeD_len]; omega
  refine fold_run (fun i s => DI (62 * i) s.1 ∧ ∃ m : Int, s.2 = .int m ∧ 0 ≤ m ∧ m < 65537) _ ⟨⟨[], rfl, by simp⟩, 7, rfl, by omega, by omega⟩ (fun i hi s hI Q hQ => ?_) fun s hI => ?_
  · obtain ⟨hd, m, hm, m0, m1⟩ := hI
    rw [rangeD_get hi]
    have hi' : i < ns.length := by omega
    obtain ⟨d, r'⟩ := s
    cases hm
    simp only [bind_run, pure_run, asI_int, Int.zero_add, atI_nat, List.getElem?_eq_getElem hi', opt_some, intD_int, absD_int, mulD_int, modD_int, addD_int, powD_int, geD_int, asB_bool]
    refine ⟨⟨small_of (by omega) (by omega), small_of (by omega) (by omega)⟩, by omega, by omega, ⟨by omega, by omega, by decide⟩, ?_⟩
    generalize hc : (if ns[i] < 0 then -ns[i] else ns[i]) = c
    have c0 : 0 ≤ c := by rw [← hc]; split <;> omega
    generalize hm2 : (m * 48271 + c.fmod 1000003 + ↑i).fmod 65537 = m2
    have m20 : 0 ≤ m2 := by rw [← hm2]; exact Int.fmod_nonneg_of_pos _ (by omega)
    have m21 : m2 < 65537 := by rw [← hm2]; exact Int.fmod_lt_of_pos _ (by omega)
    rw [cond_run]
    constructor
    · intro hb
      simp only [bind_run, pure_run, asI_int]
      refine rngD_run (by omega) (by omega) (by omega) (by omega) (by omega) ?_
      refine inner60 (n := 62 * i + 2) (by omega) (hd.mono (by omega)) ⟨c, rfl, c0⟩ (fun d x m r hm hd r0 Q2 hQ2 => ?_) fun s' h' => hQ _ ⟨h', m2, rfl, m20, m21⟩
      simp only [bind_run, pure_run, gtD_int, asB_bool, cond_run, need_run, intD_int, modD_int, fdivD_int]
      exact turn60 hm hd r0 hQ2
    · intro hb
      obtain ⟨ds, rfl, z⟩ := hd
      simp only [bind_run, pure_run, need_run, intD_int, modD_int, mulD_int, addD_int, asI_int, appD_list, isL_list, true_and]
      refine ⟨by omega, by simp; omega, ⟨small_of (by omega) (by omega), small_of (by omega) (by omega)⟩, by omega, by omega, by simp; omega, ?_⟩
      refine rngD_run (by omega) (by omega) (by omega) (by omega) (by omega) ?_
      refine inner60 (n := 62 * i + 2) (by omega) ⟨ds ++ [c.fmod 997] ++ [((m2 * 69621 + 5).fmod 65521).fmod 997], by simp, by simp; omega⟩ ⟨0, rfl, by omega⟩ (fun d x m r hm hd r0 Q2 hQ2 => ?_) fun s' h' => hQ _ ⟨h', m2, rfl, m20, m21⟩
      simp only [bind_run, pure_run, gtD_int, asB_bool, cond_run, need_run, intD_int, modD_int, fdivD_int]
      exact turn60 hm hd r0 hQ2
  · rw [hlen] at hI
    obtain ⟨hd, m, hm2, m0, m1⟩ := hI
    obtain ⟨d, r'⟩ := s
    cases hm2
    refine rngD_run (by omega) (by omega) (by omega) (by omega) (by omega) ?_
    refine fold_run (fun i s => DI (62 * ns.length + i) s.1 ∧ ∃ m : Int, s.2 = .int m ∧ 0 ≤ m ∧ m < 65537) _ ⟨hd, m, rfl, m0, m1⟩ (fun i hi s hI Q hQ => ?_) fun s hI => ?_
    · obtain ⟨hd, m, hm, m0, m1⟩ := hI
      rw [rangeD_get hi]
      have hi' : (i : Int) < many := by rw [rangeD_len] at hi; omega
      obtain ⟨d, r'⟩ := s
      cases hm
      simp only [bind_run, pure_run, mulD_int, addD_int, intD_int, modD_int, need_run]
      have a1 := hd.app (i := ((m * 16807 + (0 + ↑i) + 1).fmod 65537).fmod 997) (Q := fun d => Q (d, .int ((m * 16807 + (0 + ↑i) + 1).fmod 65537))) (by omega) fun d' hd' => hQ _ ⟨hd', _, rfl, Int.fmod_nonneg_of_pos _ (by omega), Int.fmod_lt_of_pos _ (by omega)⟩
      exact ⟨⟨small_of (by omega) (by omega), small_of (by omega) (by omega)⟩, by omega, a1.1, by omega, a1.2⟩
    · obtain ⟨⟨ds, e, z⟩, _⟩ := hI
      simp only [bind_run, pure_run, asI_int, e, slD_list]
      obtain ⟨es, he⟩ := cut_ints ds none (some many)
      exact ⟨es, by rw [he]⟩
/-! ### the end -/
section
variable {l : PySem.W.OpenLaw} {w : World} {K : PySem.W.Frag} {h : Heap} {mg : Str → Option Value}
theorem has_mk {x : Str} {st : Stmt} {f : Addr} (X : K.In h) (G : h.Ns mainGlobals mg) {od an : Option Addr} {sl : Array (Option Value)} {oc kV dc pm cd ct : Value}
    (a : PySem.W.nsIn K mainGlobals x = some (some (.ref f))) (l : K.lookup f = some ⟨oc, od, .func (PySem.W.fnOf x x (defArgs st) (defBody st) (defScope st) .none kV dc pm an cd ct), sl⟩) (c : PySem.W.codeIn K cd x = true) (k : PySem.W.keepIn K (.ref f) = true) : Has K mg x st :=
  ⟨f, _, fun_mk l c k, PySem.W.mg_of X G a⟩
/-- the law's own def -/
def HasL (K : PySem.W.Frag) (st : Stmt) (fa : Addr) : Prop := ∃ fd, (∀ (s : Shared) (v : Value), BindsTo s fd ⟨[v], []⟩ [("script", v)]) ∧ Fun K "law" "law" st fa fd
theorem hasL_mk {st : Stmt} {f fa : Addr} (X : K.In h) (G : h.Ns mainGlobals mg) (hfa : mg "law" = some (.ref fa)) {od an : Option Addr} {sl : Array (Option Value)} {oc kV dc pm cd ct : Value}
    (a : PySem.W.nsIn K mainGlobals "law" = some (some (.ref f))) (lk : K.lookup f = some ⟨oc, od, .func (PySem.W.fnOf "law" "law" (defArgs st) (defBody st) (defScope st) .none kV dc pm an cd ct), sl⟩) (c : PySem.W.codeIn K cd "law" = true) (k : PySem.W.keepIn K (.ref f) = true)
    (hb : ∀ (s : Shared) (v : Value), BindsTo s (PySem.W.fnOf "law" "law" (defArgs st) (defBody st) (defScope st) .none kV dc pm an cd ct) ⟨[v], []⟩ [("script", v)]) : HasL K st fa := by
  have e := hfa.symm.trans (PySem.W.mg_of X G a)
  cases e
  exact ⟨_, hb, fun_mk lk c k⟩
theorem glc_tup {x : Str} {p : Addr} {od : Option Addr} {its : Array Value} {n : Nat} {sl : Array (Option Value)} {ds : List D} (X : K.In h) (G : h.Ns mainGlobals mg) (a : PySem.W.nsIn K mainGlobals x = some (some (.ref p))) (lk : K.lookup p = some ⟨.type "tuple", od, .seq its n, sl⟩)
    (hz : its.size ≤ 1000) (hl : ds.length ≤ 1000) (hv : ∀ G, ∃ xs, Vals xs its.toList ∧ RpA K G xs ds) : GlC K mg x (.tuple ds) := by
  refine ⟨.ref p, .ref p, PySem.W.mg_of X G a, rfl, fun G => ?_⟩
  obtain ⟨xs, h1, h2⟩ := hv G
  exact .tup (.inr ⟨_, its, n, lk, rfl, rfl, Nat.le_of_lt (small1000 hz), h1⟩) h2 (Nat.le_of_lt (small1000 hl))
end
end Wp
namespace Wp
open PySem PySem.Spec PyProof.Rows L2

def m_divisor (a_ : D) (b_ : D) : M D :=
  ((M.while_ (fun (s1 : D × D) => ((M.pure s1.2).bind fun x2 => ((M.pure (.int 0)).bind fun x3 => ((neD x2 x3).bind fun z4 => asB z4)))) (fun (s1 : D × D) =>
    ((M.pure s1.2).bind fun a_7 => (((M.pure s1.1).bind fun x5 => ((M.pure s1.2).bind fun x6 => modD x5 x6)).bind fun b_8 => 
    (M.pure (a_7, b_8))))) (a_, b_)).bind fun (s1 : D × D) =>
  (((M.pure s1.1).bind fun x9 => ((M.pure (.int 0)).bind fun x10 => ((neD x9 x10).bind fun z11 => asB z11))).bind fun b12 => bif b12 then (M.pure s1.1) else (M.pure (.int 1))))
def m_fraction (a_ : D) (b_ : D) : M D :=
  (((((M.pure a_).bind fun x2 => absD x2).bind fun x3 => (((M.pure b_).bind fun x4 => absD x4).bind fun x5 => m_divisor x3 x5)).bind fun x11 => ((((M.pure b_).bind fun x6 => ((M.pure (.int 0)).bind fun x7 => ((gtD x6 x7).bind fun z8 => asB z8))).bind fun b10 => bif b10 then (M.pure (.int 1)) else ((M.pure (.int 1)).bind fun x9 => negD x9)).bind fun x12 => mulD x11 x12)).bind fun common_1 => 
  ((((M.pure a_).bind fun x13 => ((M.pure common_1).bind fun x14 => fdivD x13 x14)).bind fun x19 => ((((M.pure b_).bind fun x15 => ((M.pure common_1).bind fun x16 => fdivD x15 x16)).bind fun x17 => ((M.pure []).bind fun l18 => M.pure (x17 :: l18))).bind fun l20 => M.pure (x19 :: l20))).bind fun x21 => M.pure (.tuple x21)))
def m_plus (one_ : D) (other_ : D) : M D :=
  (((((M.pure one_).bind fun x1 => ((M.pure (.int 0)).bind fun x2 => ixD x1 x2)).bind fun x5 => (((M.pure other_).bind fun x3 => ((M.pure (.int 1)).bind fun x4 => ixD x3 x4)).bind fun x6 => mulD x5 x6)).bind fun x13 => ((((M.pure other_).bind fun x7 => ((M.pure (.int 0)).bind fun x8 => ixD x7 x8)).bind fun x11 => (((M.pure one_).bind fun x9 => ((M.pure (.int 1)).bind fun x10 => ixD x9 x10)).bind fun x12 => mulD x11 x12)).bind fun x14 => addD x13 x14)).bind fun x15 => ((((M.pure one_).bind fun x16 => ((M.pure (.int 1)).bind fun x17 => ixD x16 x17)).bind fun x20 => (((M.pure other_).bind fun x18 => ((M.pure (.int 1)).bind fun x19 => ixD x18 x19)).bind fun x21 => mulD x20 x21)).bind fun x22 => m_fraction x15 x22))
def m_times (one_ : D) (other_ : D) : M D :=
  ((((M.pure one_).bind fun x1 => ((M.pure (.int 0)).bind fun x2 => ixD x1 x2)).bind fun x5 => (((M.pure other_).bind fun x3 => ((M.pure (.int 0)).bind fun x4 => ixD x3 x4)).bind fun x6 => mulD x5 x6)).bind fun x7 => ((((M.pure one_).bind fun x8 => ((M.pure (.int 1)).bind fun x9 => ixD x8 x9)).bind fun x12 => (((M.pure other_).bind fun x10 => ((M.pure (.int 1)).bind fun x11 => ixD x10 x11)).bind fun x13 => mulD x12 x13)).bind fun x14 => m_fraction x7 x14))
def m_minus (one_ : D) (other_ : D) : M D :=
  ((M.pure one_).bind fun x1 => ((((((M.pure other_).bind fun x2 => ((M.pure (.int 0)).bind fun x3 => ixD x2 x3)).bind fun x4 => negD x4).bind fun x9 => ((((M.pure other_).bind fun x5 => ((M.pure (.int 1)).bind fun x6 => ixD x5 x6)).bind fun x7 => ((M.pure []).bind fun l8 => M.pure (x7 :: l8))).bind fun l10 => M.pure (x9 :: l10))).bind fun x11 => M.pure (.tuple x11)).bind fun x12 => m_plus x1 x12))
def m_over (one_ : D) (other_ : D) : M D :=
  ((((M.pure one_).bind fun x1 => ((M.pure (.int 0)).bind fun x2 => ixD x1 x2)).bind fun x5 => (((M.pure other_).bind fun x3 => ((M.pure (.int 1)).bind fun x4 => ixD x3 x4)).bind fun x6 => mulD x5 x6)).bind fun x7 => ((((M.pure one_).bind fun x8 => ((M.pure (.int 1)).bind fun x9 => ixD x8 x9)).bind fun x12 => (((M.pure other_).bind fun x10 => ((M.pure (.int 0)).bind fun x11 => ixD x10 x11)).bind fun x13 => mulD x12 x13)).bind fun x14 => m_fraction x7 x14))
def m_is_less (one_ : D) (other_ : D) : M D :=
  ((((M.pure one_).bind fun x1 => ((M.pure (.int 0)).bind fun x2 => ixD x1 x2)).bind fun x5 => (((M.pure other_).bind fun x3 => ((M.pure (.int 1)).bind fun x4 => ixD x3 x4)).bind fun x6 => mulD x5 x6)).bind fun x13 => ((((M.pure other_).bind fun x7 => ((M.pure (.int 0)).bind fun x8 => ixD x7 x8)).bind fun x11 => (((M.pure one_).bind fun x9 => ((M.pure (.int 1)).bind fun x10 => ixD x9 x10)).bind fun x12 => mulD x11 x12)).bind fun x14 => ltD x13 x14))
def m_sum_of (fractions_ : D) : M D :=
  ((((M.pure (.int 0)).bind fun x4 => (((M.pure (.int 1)).bind fun x2 => ((M.pure []).bind fun l3 => M.pure (x2 :: l3))).bind fun l5 => M.pure (x4 :: l5))).bind fun x6 => M.pure (.tuple x6)).bind fun found_1 => 
  (((M.pure fractions_).bind fun x7 => asS x7).bind fun l14 => (M.fold (fun (s8 : D) x13 => ((M.pure x13).bind fun a9 => 
    (((M.pure s8).bind fun x11 => ((M.pure a9).bind fun x12 => m_plus x11 x12)).bind fun found_10 => 
    (M.pure found_10)))) found_1 l14).bind fun (s8 : D) =>
  (M.pure s8)))
def m__law_part (upper_ : D) (lower_ : D) : M D :=
  (((M.pure upper_).bind fun x1 => absD x1).bind fun a_2 => ((M.pure lower_).bind fun b_3 => 
  ((M.while_ (fun (s4 : D × D) => ((M.pure s4.2).bind fun x5 => ((M.pure (.int 0)).bind fun x6 => ((neD x5 x6).bind fun z7 => asB z7)))) (fun (s4 : D × D) =>
    ((M.pure s4.2).bind fun a_11 => ((((M.pure s4.1).bind fun x8 => intD x8).bind fun x9 => ((M.pure s4.2).bind fun x10 => modD x9 x10)).bind fun b_12 => 
    (M.pure (a_11, b_12))))) (a_2, b_3)).bind fun (s4 : D × D) =>
  (((M.pure s4.1).bind fun x13 => ((M.pure (.int 0)).bind fun x14 => ((neD x13 x14).bind fun z15 => asB z15))).bind fun b30 => bif b30 then ((((M.pure upper_).bind fun x16 => ((M.pure s4.1).bind fun x17 => fdivD x16 x17)).bind fun x22 => ((((M.pure lower_).bind fun x18 => ((M.pure s4.1).bind fun x19 => fdivD x18 x19)).bind fun x20 => ((M.pure []).bind fun l21 => M.pure (x20 :: l21))).bind fun l23 => M.pure (x22 :: l23))).bind fun x24 => M.pure (.tuple x24)) else (((M.pure (.int 0)).bind fun x27 => (((M.pure (.int 1)).bind fun x25 => ((M.pure []).bind fun l26 => M.pure (x25 :: l26))).bind fun l28 => M.pure (x27 :: l28))).bind fun x29 => M.pure (.tuple x29))))))
/-! ### greatest common divisors, fractions -/
/-- m gives v -/
def Ret {α : Type} (m : M α) (v : α) : Prop := ∀ P : α → Prop, P v → m P
section
variable {α β σ : Type}
theorem while_run {c : σ → M Bool} {f : σ → M σ} (I : σ → Prop) (μ : σ → Nat) {P : σ → Prop} (hs : ∀ s, I s → ∀ Q : σ → Prop, (∀ s', I s' → μ s' < μ s → Q s') → c s (fun b => (b = true → f s Q) ∧ (b = false → P s))) {s0 : σ} (h0 : I s0) : M.while_ c f s0 P := by
  have go : ∀ (n : Nat) (s : σ), μ s < n → I s → M.iter c f n s P := by
    intro n
    induction n with
    | zero => intro s h; omega
    | succ n ih =>
      intro s hn hI
      have h := hs s hI (fun s' => M.iter c f n s' P) fun s' h1 h2 => ih s' (by omega) h1
      show c s _
      have e : (fun b => (bif b then M.bind (f s) fun s' => M.iter c f n s' else M.pure s) P) = fun b => (b = true → f s fun s' => M.iter c f n s' P) ∧ (b = false → P s) := by
        funext b; cases b <;> simp
      exact e ▸ h
  exact ⟨μ s0 + 1, go _ _ (Nat.lt_succ_self _) h0⟩
/-- a map, each turn giving g -/
theorem mapM_run {γ : Type} {f : α → M β} {e : γ → α} (g : γ → β) {ys : List γ} {P : List β → Prop} (hf : ∀ y ∈ ys, Ret (f (e y)) (g y)) (hP : P (ys.map g)) : M.mapM f (ys.map e) P := by
  induction ys generalizing P with
  | nil => exact hP
  | cons y ys ih => exact hf y (by simp) _ (ih (fun z hz => hf z (by simp [hz])) hP)
theorem mapM_run' {f : α → M β} (g : α → β) {ys : List α} {P : List β → Prop} (hf : ∀ y ∈ ys, Ret (f y) (g y)) (hP : P (ys.map g)) : M.mapM f ys P := by
  have := mapM_run (e := id) g (ys := ys) (f := f) (P := P) hf hP
  simpa using this
theorem filM_run {γ : Type} {f : α → M (Option β)} {e : γ → α} (g : γ → Option β) {ys : List γ} {P : List β → Prop} (hf : ∀ y ∈ ys, Ret (f (e y)) (g y)) (hP : P (ys.filterMap g)) : M.filM f (ys.map e) P := by
  induction ys generalizing P with
  | nil => exact hP
  | cons y ys ih =>
    refine hf y (by simp) _ (ih (fun z hz => hf z (by simp [hz])) ?_)
    cases h : g y <;> simpa [List.filterMap_cons, h] using hP
theorem fold_ret {γ : Type} {f : σ → α → M σ} {e : γ → α} (g : σ → γ → σ) {ys : List γ} {s0 : σ} {P : σ → Prop} (hf : ∀ s, ∀ y ∈ ys, Ret (f s (e y)) (g s y)) (hP : P (ys.foldl g s0)) : M.fold f s0 (ys.map e) P := by
  induction ys generalizing s0 with
  | nil => exact hP
  | cons y ys ih => exact hf s0 y (by simp) _ (ih (fun s z hz => hf s z (by simp [hz])) hP)
end
theorem natAbs_if (a : Int) : (if a < 0 then -a else a) = (a.natAbs : Int) := by split <;> omega
theorem r_divisor (a b : Nat) : Ret (m_divisor (.int a) (.int b)) (.int (if a.gcd b = 0 then 1 else a.gcd b : Nat)) := by
  intro P hP
  simp only [m_divisor, bind_run, pure_run]
  refine while_run (fun s => ∃ x y : Nat, s = (.int x, .int y) ∧ x.gcd y = a.gcd b) (fun s => match s.2 with | .int y => y.toNat | _ => 0) (fun s hI Q hQ => ?_) ⟨a, b, rfl, rfl⟩
  obtain ⟨x, y, rfl, hg⟩ := hI
  simp only [bind_run, pure_run, neD_int, asB_bool, modD_int]
  constructor
  · intro hy
    have hy' : (y : Int) ≠ 0 := by simpa using hy
    have hy2 : 0 < y := by omega
    refine ⟨hy', hQ _ ⟨y, x % y, ?_, ?_⟩ ?_⟩
    · rw [Int.fmod_eq_emod_of_nonneg _ (by omega)]; rfl
    · rw [← hg, Nat.gcd_comm y, ← Nat.gcd_rec, Nat.gcd_comm]
    · show ((x : Int).fmod (y : Int)).toNat < y
      rw [Int.fmod_eq_emod_of_nonneg _ (by omega)]
      have := Nat.mod_lt x hy2
      omega
  · intro hy
    have hy' : (y : Int) = 0 := by simpa using hy
    have hy2 : y = 0 := by omega
    subst hy2
    rw [Nat.gcd_zero_right] at hg
    rw [cond_run]
    rw [← hg] at hP
    constructor
    · intro hx
      have : x ≠ 0 := by intro e; subst e; simp at hx
      rw [if_neg this] at hP
      exact hP
    · intro hx
      have : x = 0 := by
        have : (x : Int) = 0 := by simpa using hx
        omega
      subst this
      exact hP
/-- a fraction, as the program writes it -/
def qD (r : Rat) : D := .tuple [.int r.num, .int r.den]
theorem exact_fdiv {a g : Int} (h : g ∣ a) : a.fdiv g = a / g := Int.fdiv_eq_ediv_of_dvd h
theorem r_fraction {a b : Int} (hb : 0 < b) (sb : small b) : Ret (m_fraction (.int a) (.int b)) (qD (Rat.divInt a b)) := by
  intro P hP
  simp only [m_fraction, bind_run, pure_run, absD_int, natAbs_if]
  refine r_divisor _ _ _ ?_
  have hg : a.natAbs.gcd b.natAbs ≠ 0 := by
    have := Nat.gcd_pos_of_pos_right a.natAbs (n := b.natAbs) (by omega)
    omega
  rw [if_neg hg]
  simp only [bind_run, pure_run, gtD_int, asB_bool, cond_run, hb, decide_true, true_implies, reduceCtorEq, false_implies, and_true, mulD_int, Int.mul_one, fdivD_int]
  have hle : a.natAbs.gcd b.natAbs ≤ b.natAbs := Nat.gcd_le_right _ (by omega)
  have hs : small (a.natAbs.gcd b.natAbs : Nat) := by unfold small at sb ⊢; omega
  refine ⟨⟨hs, small_of (by omega) (by omega)⟩, .inl ⟨by omega, hs⟩, .inl ⟨by omega, hs⟩, ?_⟩
  have e : qD (Rat.divInt a b) = .tuple [.int (a.fdiv (a.natAbs.gcd b.natAbs : Nat)), .int (b.fdiv (a.natAbs.gcd b.natAbs : Nat))] := by
    unfold qD
    have d1 : ((a.natAbs.gcd b.natAbs : Nat) : Int) ∣ a := Int.gcd_dvd_left a b
    have d2 : ((a.natAbs.gcd b.natAbs : Nat) : Int) ∣ b := Int.gcd_dvd_right a b
    rw [exact_fdiv d1, exact_fdiv d2, Rat.num_divInt, Rat.den_divInt, if_neg (by omega), Int.sign_eq_one_of_pos hb, Int.one_mul]
    have c1 : b.gcd a = a.natAbs.gcd b.natAbs := by rw [Int.gcd_comm]; rfl
    rw [c1]
    congr 3
    have : (b.natAbs : Int) = b := by omega
    rw [Int.natCast_ediv, this]
  rw [e] at hP
  exact hP
theorem r_fraction_neg {a b : Int} (hb : b < 0) (hb2 : -1073741824 < b) : Ret (m_fraction (.int a) (.int b)) (qD (Rat.divInt a b)) := by
  intro P hP
  simp only [m_fraction, bind_run, pure_run, absD_int, natAbs_if]
  refine r_divisor _ _ _ ?_
  have hg : a.natAbs.gcd b.natAbs ≠ 0 := by
    have := Nat.gcd_pos_of_pos_right a.natAbs (n := b.natAbs) (by omega)
    omega
  rw [if_neg hg]
  have hn : ¬ (0 : Int) < b := by omega
  simp only [bind_run, pure_run, gtD_int, asB_bool, cond_run, hn, decide_false, true_implies, reduceCtorEq, false_implies, true_and, mulD_int, negD_int, fdivD_int]
  have hle : a.natAbs.gcd b.natAbs ≤ b.natAbs := Nat.gcd_le_right _ (by omega)
  have hs : small (a.natAbs.gcd b.natAbs : Nat) := small_of (by omega) (by omega)
  rw [Int.mul_neg, Int.mul_one]
  refine ⟨⟨hs, small_of (by omega) (by omega)⟩, .inr ⟨by omega, by omega⟩, .inr ⟨by omega, by omega⟩, ?_⟩
  have e : qD (Rat.divInt a b) = .tuple [.int (a.fdiv (-(a.natAbs.gcd b.natAbs : Nat))), .int (b.fdiv (-(a.natAbs.gcd b.natAbs : Nat)))] := by
    unfold qD
    have d1 : ((a.natAbs.gcd b.natAbs : Nat) : Int) ∣ a := Int.gcd_dvd_left a b
    have d2 : ((a.natAbs.gcd b.natAbs : Nat) : Int) ∣ b := Int.gcd_dvd_right a b
    rw [exact_fdiv (Int.neg_dvd.mpr d1), exact_fdiv (Int.neg_dvd.mpr d2), Rat.num_divInt, Rat.den_divInt, if_neg (by omega), Int.sign_eq_neg_one_of_neg hb]
    have c1 : b.gcd a = a.natAbs.gcd b.natAbs := by rw [Int.gcd_comm]; rfl
    rw [c1, Int.ediv_neg, Int.ediv_neg]
    congr 3
    · rw [Int.neg_one_mul, Int.neg_ediv_of_dvd d1]
    · have : (b.natAbs : Int) = -b := by omega
      rw [Int.natCast_ediv, this, Int.neg_ediv_of_dvd d2]
  rw [e] at hP
  exact hP
/-- both parts below n -/
def Bq (n : Int) (r : Rat) : Prop := -n ≤ r.num ∧ r.num ≤ n ∧ (r.den : Int) ≤ n
theorem Bq.mono {a b : Int} {r : Rat} (h : Bq a r) (l : a ≤ b) : Bq b r := ⟨by have := h.1; omega, by have := h.2.1; omega, by have := h.2.2; omega⟩
theorem Bq.pos {a : Int} {r : Rat} (h : Bq a r) : 1 ≤ a := by
  have := h.2.2
  have := r.den_pos
  omega
theorem bq_divInt {a b n : Int} (hb : 0 < b) (h1 : -n ≤ a) (h2 : a ≤ n) (h3 : b ≤ n) : Bq n (Rat.divInt a b) := by
  have e1 := Rat.num_divInt a b
  have e2 := Rat.den_divInt a b
  rw [Int.sign_eq_one_of_pos hb, Int.one_mul] at e1
  rw [if_neg (by omega)] at e2
  have gp : 0 < b.gcd a := Int.gcd_pos_of_ne_zero_left _ (by omega)
  have k1 : (a / (b.gcd a : Int)).natAbs ≤ a.natAbs := Int.natAbs_ediv_le_natAbs a _
  have k2 : b.natAbs / b.gcd a ≤ b.natAbs := Nat.div_le_self _ _
  refine ⟨?_, ?_, ?_⟩ <;> (try rw [e1]) <;> (try rw [e2]) <;> omega
theorem bq_neg {n : Int} {r : Rat} (h : Bq n r) : Bq n (-r) := ⟨by have := h.2.1; rw [Rat.neg_num]; omega, by have := h.1; rw [Rat.neg_num]; omega, h.2.2⟩
theorem mul_bd {a b n m : Int} (h1 : -n ≤ a) (h2 : a ≤ n) (h3 : -m ≤ b) (h4 : b ≤ m) : -(n * m) ≤ a * b ∧ a * b ≤ n * m := by
  have ha : a.natAbs ≤ n.natAbs := by omega
  have hb : b.natAbs ≤ m.natAbs := by omega
  have h := Nat.mul_le_mul ha hb
  rw [← Int.natAbs_mul] at h
  have hn : ((n.natAbs * m.natAbs : Nat) : Int) = n * m := by
    rw [Int.natCast_mul]
    have e1 : (n.natAbs : Int) = n := by omega
    have e2 : (m.natAbs : Int) = m := by omega
    rw [e1, e2]
  omega
theorem bq_mul {n m : Int} {r s : Rat} (hr : Bq n r) (hs : Bq m s) : Bq (n * m) (r * s) := by
  rw [← Rat.num_divInt_den r, ← Rat.num_divInt_den s, Rat.divInt_mul_divInt]
  have p1 := r.den_pos
  have p2 := s.den_pos
  have d : 0 < (r.den : Int) * (s.den : Int) := Int.mul_pos (by omega) (by omega)
  have b1 := mul_bd hr.1 hr.2.1 hs.1 hs.2.1
  have b2 := mul_bd (a := (r.den : Int)) (b := (s.den : Int)) (n := n) (m := m) (by have := hr.2.2; omega) hr.2.2 (by have := hs.2.2; omega) hs.2.2
  exact bq_divInt d b1.1 b1.2 b2.2
theorem bq_add {n m : Int} {r s : Rat} (hr : Bq n r) (hs : Bq m s) : Bq (2 * (n * m)) (r + s) := by
  rw [← Rat.num_divInt_den r, ← Rat.num_divInt_den s]
  have p1 := r.den_pos
  have p2 := s.den_pos
  rw [Rat.divInt_add_divInt _ _ (by omega) (by omega)]
  have d : 0 < (r.den : Int) * (s.den : Int) := Int.mul_pos (by omega) (by omega)
  have hrd := hr.2.2
  have hsd := hs.2.2
  have b1 := mul_bd hr.1 hr.2.1 (b := (s.den : Int)) (m := m) (by omega) hsd
  have b3 := mul_bd hs.1 hs.2.1 (b := (r.den : Int)) (m := n) (by omega) hrd
  rw [Int.mul_comm m n] at b3
  have b2 := mul_bd (a := (r.den : Int)) (b := (s.den : Int)) (n := n) (m := m) (by omega) hrd (by omega) hsd
  exact bq_divInt d (by omega) (by omega) (by omega)
def big : Int := 100000000000000000000000000000
theorem Bq.small1 {r : Rat} (h : Bq big r) : small r.num ∧ small r.den := by
  have p := r.den_pos
  have h1 := h.1; have h2 := h.2.1; have h3 := h.2.2
  unfold big at h1 h2 h3
  exact ⟨by unfold small; omega, by unfold small; omega⟩
theorem Bq.smallm {r s : Rat} (h : Bq big r) (k : Bq big s) : small ((r.den : Int) * s.den) ∧ 0 < (r.den : Int) * s.den := by
  have p := r.den_pos
  have q := s.den_pos
  have b := mul_bd (a := (r.den : Int)) (b := (s.den : Int)) (n := big) (m := big) (by have := h.2.2; omega) h.2.2 (by have := k.2.2; omega) k.2.2
  unfold big at b
  exact ⟨by unfold small; omega, Int.mul_pos (by omega) (by omega)⟩
theorem r_plus {x y : Rat} (hx : Bq big x) (hy : Bq big y) : Ret (m_plus (qD x) (qD y)) (qD (x + y)) := by
  intro P hP
  have sx := hx.small1
  have sy := hy.small1
  have sd := hx.smallm hy
  simp only [m_plus, qD, bind_run, pure_run, ixD_tup, atI_0, atI_1, opt_some, mulD_int, addD_int, sx, sy, and_self, true_and]
  refine r_fraction sd.2 sd.1 _ ?_
  have e : Rat.divInt (x.num * y.den + y.num * x.den) (x.den * y.den) = x + y := by
    have p := x.den_pos
    have q := y.den_pos
    rw [← Rat.divInt_add_divInt _ _ (by omega) (by omega), Rat.num_divInt_den, Rat.num_divInt_den]
  rw [e]
  exact hP
theorem r_times {x y : Rat} (hx : Bq big x) (hy : Bq big y) : Ret (m_times (qD x) (qD y)) (qD (x * y)) := by
  intro P hP
  have sx := hx.small1
  have sy := hy.small1
  have sd := hx.smallm hy
  simp only [m_times, qD, bind_run, pure_run, ixD_tup, atI_0, atI_1, opt_some, mulD_int, addD_int, sx, sy, and_self, true_and]
  refine r_fraction sd.2 sd.1 _ ?_
  have e : Rat.divInt (x.num * y.num) (x.den * y.den) = x * y := by
    rw [← Rat.divInt_mul_divInt, Rat.num_divInt_den, Rat.num_divInt_den]
  rw [e]
  exact hP
theorem r_minus {x y : Rat} (hx : Bq big x) (hy : Bq big y) : Ret (m_minus (qD x) (qD y)) (qD (x - y)) := by
  intro P hP
  have e : x - y = x + -y := Rat.sub_eq_add_neg x y
  have := r_plus hx (bq_neg hy) P (e ▸ hP)
  simp only [m_minus, bind_run, pure_run]
  unfold qD at this ⊢
  simp only [bind_run, pure_run, ixD_tup, atI_0, atI_1, opt_some, negD_int]
  exact this
theorem r_over {x y : Rat} (hx : Bq big x) (hy : Bq big y) (y0 : 0 < y) : Ret (m_over (qD x) (qD y)) (qD (x / y)) := by
  intro P hP
  have sx := hx.small1
  have sy := hy.small1
  have yn : 0 < y.num := by
    have := Rat.num_nonneg (q := y)
    have h0 : y.num ≠ 0 := fun e => by rw [Rat.num_eq_zero] at e; subst e; exact absurd y0 (by decide)
    have h1 : 0 ≤ y.num := this.mpr (Rat.le_of_lt y0)
    omega
  have b := mul_bd (a := (x.den : Int)) (b := y.num) (n := big) (m := big) (by have := x.den_pos; unfold big; omega) hx.2.2 hy.1 hy.2.1
  have sd : small ((x.den : Int) * y.num) := by unfold big at b; unfold small; omega
  have pd : 0 < (x.den : Int) * y.num := Int.mul_pos (by have := x.den_pos; omega) yn
  simp only [m_over, qD, bind_run, pure_run, ixD_tup, atI_0, atI_1, opt_some, mulD_int, addD_int, sx, sy, and_self, true_and]
  refine r_fraction pd sd _ ?_
  have e : Rat.divInt (x.num * y.den) (x.den * y.num) = x / y := by
    rw [← Rat.divInt_mul_divInt, Rat.num_divInt_den, Rat.div_def, Rat.inv_def]
  rw [e]
  exact hP
theorem r_over_neg {x y : Rat} (hx : Bq big x) (hy : Bq big y) (y0 : y < 0) (hb : (x.den : Int) * -y.num < 1073741824) : Ret (m_over (qD x) (qD y)) (qD (x / y)) := by
  intro P hP
  have sx := hx.small1
  have sy := hy.small1
  have yn : y.num < 0 := by
    have := Rat.num_nonneg (q := y)
    have h1 : ¬ 0 ≤ y.num := fun h => absurd (this.mp h) (by rw [Rat.not_le]; exact y0)
    omega
  have pd : (x.den : Int) * y.num < 0 := Int.mul_neg_of_pos_of_neg (by have := x.den_pos; omega) yn
  simp only [m_over, qD, bind_run, pure_run, ixD_tup, atI_0, atI_1, opt_some, mulD_int, addD_int, sx, sy, and_self, true_and]
  refine r_fraction_neg pd (by rw [Int.mul_neg] at hb; omega) _ ?_
  have e : Rat.divInt (x.num * y.den) (x.den * y.num) = x / y := by
    rw [← Rat.divInt_mul_divInt, Rat.num_divInt_den, Rat.div_def, Rat.inv_def]
  rw [e]
  exact hP
theorem r_is_less {x y : Rat} (hx : Bq big x) (hy : Bq big y) : Ret (m_is_less (qD x) (qD y)) (.bool (decide (x < y))) := by
  intro P hP
  have sx := hx.small1
  have sy := hy.small1
  simp only [m_is_less, qD, bind_run, pure_run, ixD_tup, atI_0, atI_1, opt_some, mulD_int, ltD_int, sx, sy, and_self, true_and]
  rw [decide_eq_decide.mpr (Rat.lt_iff x y)] at hP
  exact hP
theorem qD_int (i : Int) : qD (i : Rat) = .tuple [.int i, .int 1] := rfl
theorem qD_zero : qD 0 = .tuple [.int 0, .int 1] := rfl
theorem sh_qD (r : Rat) (n : Nat) : sh (n + 1) (qD r) = true := by simp [qD, sh, shA]
theorem eqv_qD (r s : Rat) : PyData.eqv (qD r) (qD s) = decide (r = s) := by
  simp only [qD, PyData.eqv, PyData.eqvAll, Bool.and_true]
  by_cases h : r = s
  · subst h; simp
  · have : ¬ (r.num = s.num ∧ r.den = s.den) := fun ⟨a, b⟩ => h (Rat.ext a b)
    rw [decide_eq_false h]
    by_cases h1 : r.num = s.num
    · have h2 : ¬ r.den = s.den := fun e => this ⟨h1, e⟩
      have h3 : ¬ ((r.den : Int) = s.den) := by omega
      simp [h3]
    · simp [h1]
theorem _root_.List.sum_append_rat (xs : List Rat) (x : Rat) : (xs ++ [x]).sum = xs.sum + x := by
  induction xs with
  | nil => simp [List.sum_cons, Rat.add_comm]
  | cons y ys ih => simp only [List.cons_append, List.sum_cons, ih, Rat.add_assoc]
/-- a sum from the left -/
theorem r_sum_of {xs : List Rat} (hb : ∀ (i : Nat), i ≤ xs.length → Bq big (xs.take i).sum) (hx : ∀ x ∈ xs, Bq big x) : Ret (m_sum_of (.list (xs.map qD))) (qD xs.sum) := by
  intro P hP
  simp only [m_sum_of, bind_run, pure_run, asS_list]
  refine fold_run (fun i s => s = qD (xs.take i).sum) _ (by rw [List.take_zero, List.sum_nil, qD_zero]) (fun i hi s hs Q hQ => ?_) fun s hs => ?_
  · subst hs
    have hi' : i < xs.length := by simpa using hi
    have e : (xs.map qD)[i] = qD xs[i] := by simp
    rw [e]
    simp only [bind_run, pure_run]
    refine r_plus (hb i (by omega)) (hx _ (List.getElem_mem hi')) _ (hQ _ ?_)
    rw [List.take_succ_eq_append_getElem hi', List.sum_append_rat]
  · subst hs
    simpa using hP
/-- the law's own fractions -/
theorem r_part {a b : Int} (hb : 0 < b) (sb : small b) : Ret (m__law_part (.int a) (.int b)) (qD (Rat.divInt a b)) := by
  intro P hP
  simp only [m__law_part, bind_run, pure_run, absD_int, natAbs_if]
  refine while_run (fun s => ∃ x y : Nat, s = (.int x, .int y) ∧ x.gcd y = a.natAbs.gcd b.natAbs) (fun s => match s.2 with | .int y => y.toNat | _ => 0) (fun s hI Q hQ => ?_) ⟨a.natAbs, b.natAbs, by simp; omega, rfl⟩
  obtain ⟨x, y, rfl, hg⟩ := hI
  simp only [bind_run, pure_run, neD_int, asB_bool, modD_int, intD_int]
  constructor
  · intro hy
    have hy' : (y : Int) ≠ 0 := by simpa using hy
    have hy2 : 0 < y := by omega
    refine ⟨hy', hQ _ ⟨y, x % y, ?_, ?_⟩ ?_⟩
    · rw [Int.fmod_eq_emod_of_nonneg _ (by omega)]; rfl
    · rw [← hg, Nat.gcd_comm y, ← Nat.gcd_rec, Nat.gcd_comm]
    · show ((x : Int).fmod (y : Int)).toNat < y
      rw [Int.fmod_eq_emod_of_nonneg _ (by omega)]
      have := Nat.mod_lt x hy2
      omega
  · intro hy
    have hy' : (y : Int) = 0 := by simpa using hy
    have hy2 : y = 0 := by omega
    subst hy2
    rw [Nat.gcd_zero_right] at hg
    subst hg
    have hgp := Nat.gcd_pos_of_pos_right a.natAbs (n := b.natAbs) (by omega)
    have hle : a.natAbs.gcd b.natAbs ≤ b.natAbs := Nat.gcd_le_right _ (by omega)
    have hs : small (a.natAbs.gcd b.natAbs : Nat) := by unfold small at sb ⊢; omega
    have hne : ¬ ((a.natAbs.gcd b.natAbs : Nat) : Int) = 0 := by omega
    simp only [cond_run, hne, decide_false, Bool.not_false, true_implies, reduceCtorEq, Bool.true_eq_false, false_implies, and_true, bind_run, pure_run, fdivD_int]
    refine ⟨.inl ⟨by omega, hs⟩, .inl ⟨by omega, hs⟩, ?_⟩
    have e : qD (Rat.divInt a b) = .tuple [.int (a.fdiv (a.natAbs.gcd b.natAbs : Nat)), .int (b.fdiv (a.natAbs.gcd b.natAbs : Nat))] := by
      unfold qD
      have d1 : ((a.natAbs.gcd b.natAbs : Nat) : Int) ∣ a := Int.gcd_dvd_left a b
      have d2 : ((a.natAbs.gcd b.natAbs : Nat) : Int) ∣ b := Int.gcd_dvd_right a b
      rw [exact_fdiv d1, exact_fdiv d2, Rat.num_divInt, Rat.den_divInt, if_neg (by omega), Int.sign_eq_one_of_pos hb, Int.one_mul]
      have c1 : b.gcd a = a.natAbs.gcd b.natAbs := by rw [Int.gcd_comm]; rfl
      rw [c1]
      congr 3
      have : (b.natAbs : Int) = b := by omega
      rw [Int.natCast_ediv, this]
    rw [e] at hP
    exact hP
end Wp
namespace Wp
open PySem PySem.Spec PyProof.Rows L2

/-! ### dicts by texts -/
/-- a dict whose keys are texts -/
def dS (es : List (Str × D)) : D := .dict (es.map fun p => (.str p.1, p.2))
theorem marked_dS (es : List (Str × D)) : marked (es.map fun p => ((.str p.1 : D), p.2)) = false := by cases es <;> rfl
@[simp] theorem keysD_dS {es : List (Str × D)} {P} : keysD (dS es) P = P (es.map fun p => .str p.1) := by
  show (marked _ = false ∧ P ((es.map fun p => ((.str p.1 : D), p.2)).map (·.1))) = _
  rw [List.map_map]
  exact propext ⟨fun h => h.2, fun h => ⟨marked_dS es, h⟩⟩
theorem lookD_dS (es : List (Str × D)) (k : Str) : lookD (es.map fun p => ((.str p.1 : D), p.2)) (.str k) = es.lookup k := by
  unfold lookD
  induction es with
  | nil => rfl
  | cons p es ih =>
    rw [List.map_cons, List.find?_cons, List.lookup_cons]
    have e : PyData.eqv (.str p.1) (.str k) = (p.1 == k) := by simp [PyData.eqv]
    rw [e]
    by_cases h : p.1 = k
    · subst h; simp
    · have h1 : (p.1 == k) = false := by simpa using h
      have h2 : (k == p.1) = false := by simpa using fun e => h e.symm
      rw [h1, h2]
      exact ih
@[simp] theorem ixD_dS {es : List (Str × D)} {k : Str} {P} : ixD (dS es) (.str k) P = M.opt (es.lookup k) P := by
  show (kD (.str k) = true ∧ M.opt (lookD _ _) P) = _
  rw [lookD_dS]
  exact propext ⟨fun h => h.2, fun h => ⟨rfl, h⟩⟩
@[simp] theorem get2D_dS {es : List (Str × D)} {k : Str} {x : D} {P} : get2D (dS es) (.str k) x P = P ((es.lookup k).getD x) := by
  show ((kD (.str k) = true ∧ marked _ = false) ∧ P ((lookD _ _).getD x)) = _
  rw [lookD_dS]
  exact propext ⟨fun h => h.2, fun h => ⟨⟨rfl, marked_dS es⟩, h⟩⟩
@[simp] theorem isDi_dS {es : List (Str × D)} : isDi (dS es) = true := rfl
@[simp] theorem plain_dS {es : List (Str × D)} : plainD (dS es) = true := by
  show (!marked _) = true
  rw [marked_dS]; rfl
@[simp] theorem inD_dS {es : List (Str × D)} {k : Str} {P} : inD (.str k) (dS es) P = P (.bool (es.lookup k).isSome) := by
  show ((kD (.str k) && !marked _) = true ∧ P (.bool (lookD _ _).isSome)) = _
  rw [lookD_dS, marked_dS]
  exact propext ⟨fun h => h.2, fun h => ⟨rfl, h⟩⟩
theorem putD_dS {es : List (Str × D)} {k : Str} {v : D} (h : k ∉ es.map (·.1)) : putD (es.map fun p => ((.str p.1 : D), p.2)) (.str k) v = (es ++ [(k, v)]).map fun p => ((.str p.1 : D), p.2) := by
  unfold putD
  have : (es.map fun p => ((.str p.1 : D), p.2)).any (fun p => PyData.eqv p.1 (.str k)) = false := by
    rw [List.any_eq_false]
    intro p hp
    rw [List.mem_map] at hp
    obtain ⟨q, hq, rfl⟩ := hp
    have : q.1 ≠ k := fun e => h (List.mem_map.mpr ⟨q, hq, e⟩)
    simpa [PyData.eqv] using this
  rw [this, if_neg Bool.false_ne_true, List.map_append]
  rfl
theorem dputD_dS {es : List (Str × D)} {k : Str} {v : D} {P : D → Prop} (h : k ∉ es.map (·.1)) (hl : es.length < 16777216) (hP : P (dS (es ++ [(k, v)]))) : dputD (dS es) (.str k) v P := by
  refine ⟨⟨rfl, marked_dS es, by simpa using hl⟩, ?_⟩
  rw [putD_dS h]
  exact hP
theorem lookup_mem {es : List (Str × D)} (nd : (es.map (·.1)).Nodup) {p : Str × D} (h : p ∈ es) : es.lookup p.1 = some p.2 := by
  induction es with
  | nil => cases h
  | cons q es ih =>
    rw [List.map_cons, List.nodup_cons] at nd
    rw [List.lookup_cons]
    rcases List.mem_cons.mp h with rfl | h
    · simp
    · have : p.1 ≠ q.1 := fun e => nd.1 (e ▸ List.mem_map.mpr ⟨p, h, rfl⟩)
      have h1 : (p.1 == q.1) = false := by simpa using this
      rw [h1]
      exact ih nd.2 h
theorem lookup_none {es : List (Str × D)} {k : Str} (h : k ∉ es.map (·.1)) : es.lookup k = none := by
  induction es with
  | nil => rfl
  | cons q es ih =>
    rw [List.map_cons, List.mem_cons, not_or] at h
    rw [List.lookup_cons]
    have h1 : (k == q.1) = false := by simpa using h.1
    rw [h1]
    exact ih h.2
/-- some of the rows, by their names -/
theorem lookup_fm {ρ : Type} {rows : List (Str × ρ)} {f : ρ → Option D} (nd : (rows.map (·.1)).Nodup) {p : Str × ρ} (h : p ∈ rows) : (rows.filterMap fun q => (f q.2).map fun d => (q.1, d)).lookup p.1 = f p.2 := by
  induction rows with
  | nil => cases h
  | cons q rows ih =>
    rw [List.map_cons, List.nodup_cons] at nd
    rcases List.mem_cons.mp h with rfl | h
    · rw [List.filterMap_cons]
      cases e : f p.2 with
      | some d => simp
      | none =>
        simp only [Option.map_none]
        refine lookup_none fun hm => nd.1 ?_
        rw [List.mem_map] at hm ⊢
        obtain ⟨z, hz, e2⟩ := hm
        rw [List.mem_filterMap] at hz
        obtain ⟨y, hy, e3⟩ := hz
        obtain ⟨d, _, rfl⟩ := Option.map_eq_some_iff.mp e3
        exact ⟨y, hy, e2⟩
    · have : p.1 ≠ q.1 := fun e => nd.1 (e ▸ List.mem_map.mpr ⟨p, h, rfl⟩)
      rw [List.filterMap_cons]
      cases e : f q.2 with
      | none => exact ih nd.2 h
      | some d =>
        simp only [Option.map_some]
        rw [List.lookup_cons]
        have h1 : (p.1 == q.1) = false := by simpa using this
        rw [h1]
        exact ih nd.2 h
theorem fm_nodup {ρ : Type} {rows : List (Str × ρ)} {f : ρ → Option D} (nd : (rows.map (·.1)).Nodup) : ((rows.filterMap fun q => (f q.2).map fun d => (q.1, d)).map (·.1)).Nodup := by
  have : ((rows.filterMap fun q => (f q.2).map fun d => (q.1, d)).map (·.1)).Sublist (rows.map (·.1)) := by
    clear nd
    induction rows with
    | nil => exact .slnil
    | cons q rows ih =>
      rw [List.filterMap_cons]
      cases f q.2 with
      | none => exact .cons _ ih
      | some d => exact .cons₂ _ ih
  exact this.nodup nd
/-! ### eqv, shapes -/
theorem neD_self {d : D} {P : D → Prop} (h : sh 16 d = true) (hP : P (.bool false)) : neD d d P := by
  refine ⟨by rw [h]; rfl, ?_⟩
  rw [SeqAt.eqv_refl d (sh_lay d 16 h).1]
  exact hP
theorem eqD_self {d : D} {P : D → Prop} (h : sh 16 d = true) (hP : P (.bool true)) : eqD d d P := by
  refine ⟨by rw [h]; rfl, ?_⟩
  rw [SeqAt.eqv_refl d (sh_lay d 16 h).1]
  exact hP
theorem eqD_run {x y : D} {P : D → Prop} (hx : sh 16 x = true) (hy : sh 16 y = true) (hP : P (.bool (PyData.eqv x y))) : eqD x y P := ⟨by rw [hx, hy]; rfl, hP⟩
theorem neD_run {x y : D} {P : D → Prop} (hx : sh 16 x = true) (hy : sh 16 y = true) (hP : P (.bool (!PyData.eqv x y))) : neD x y P := ⟨by rw [hx, hy]; rfl, hP⟩
@[simp] theorem sh_int {n : Nat} {i : Int} : sh n (.int i) = true := by cases n <;> simp [sh]
@[simp] theorem sh_bool {n : Nat} {i : Bool} : sh n (.bool i) = true := by cases n <;> simp [sh]
@[simp] theorem sh_none {n : Nat} : sh n .none = true := by cases n <;> simp [sh]
@[simp] theorem sh_list {n : Nat} {xs : List D} : sh (n + 1) (.list xs) = shA n xs := by simp [sh]
@[simp] theorem sh_tup {n : Nat} {xs : List D} : sh (n + 1) (.tuple xs) = shA n xs := by simp [sh]
@[simp] theorem shA_nil {n : Nat} : shA n [] = true := by simp [shA]
@[simp] theorem shA_cons {n : Nat} {x : D} {xs : List D} : shA n (x :: xs) = (sh n x && shA n xs) := by simp [shA]
theorem shA_all {n : Nat} {xs : List D} : shA n xs = xs.all (sh n) := by
  induction xs with
  | nil => simp
  | cons x xs ih => simp [ih]
theorem shA_map {α : Type} {n : Nat} {f : α → D} {xs : List α} (h : ∀ x ∈ xs, sh n (f x) = true) : shA n (xs.map f) = true := by
  rw [shA_all, List.all_eq_true]
  intro y hy
  obtain ⟨x, hx, rfl⟩ := List.mem_map.mp hy
  exact h x hx
@[simp] theorem isD_none {P} : isD .none .none P = P (.bool true) := propext Iff.rfl
@[simp] theorem isD_tup_none {xs : List D} {P} : isD (.tuple xs) .none P = P (.bool false) := propext Iff.rfl
@[simp] theorem isD_list_none {xs : List D} {P} : isD (.list xs) .none P = P (.bool false) := propext Iff.rfl
@[simp] theorem isD_int_none {i : Int} {P} : isD (.int i) .none P = P (.bool false) := propext Iff.rfl
@[simp] theorem isD_bool {a b : Bool} {P} : isD (.bool a) (.bool b) P = P (.bool (decide (a = b))) := propext Iff.rfl
@[simp] theorem isnD_none {P} : isnD .none .none P = P (.bool false) := propext Iff.rfl
@[simp] theorem isnD_tup_none {xs : List D} {P} : isnD (.tuple xs) .none P = P (.bool true) := propext Iff.rfl
@[simp] theorem isnD_list_none {xs : List D} {P} : isnD (.list xs) .none P = P (.bool true) := propext Iff.rfl
@[simp] theorem isnD_int_none {i : Int} {P} : isnD (.int i) .none P = P (.bool true) := propext Iff.rfl
@[simp] theorem isnD_bool {a b : Bool} {P} : isnD (.bool a) (.bool b) P = P (.bool (!decide (a = b))) := propext Iff.rfl
theorem sumD_ints {ns : List Int} {P : D → Prop} (h : P (.int ns.sum)) : sumD (.list (ns.map .int)) P := ⟨ns, asInts_map ns, h⟩
theorem draw_run {n : Int} {P : D → Prop} (hn : 0 < n) (h : ∀ r : Int, 0 ≤ r → r < n → P (.int r)) : m__law_next (.int n) P := ⟨hn, h⟩
theorem sortedD_run {ds : List D} {P : D → Prop} (h : sortable ds = true) (hP : P (.list (sortL ds))) : sortedD (.list ds) P := ⟨h, hP⟩
theorem sortedD_dS {es : List (Str × D)} {P : D → Prop} (h : sortable (es.map fun p => (.str p.1 : D)) = true) (hP : P (.list (sortL (es.map fun p => .str p.1)))) : sortedD (dS es) P := by
  refine ⟨⟨marked_dS es, ?_⟩, ?_⟩
  · rw [List.map_map]; exact h
  · rw [List.map_map]; exact hP
theorem sortL_mem {ds : List D} {d : D} : d ∈ sortL ds ↔ d ∈ ds := by unfold sortL; rw [List.mem_mergeSort]
theorem sortL_perm (ds : List D) : (sortL ds).Perm ds := List.mergeSort_perm _ _
open PySem.W in
theorem sortable_strs {ks : List Str} (h : ∀ k ∈ ks, PyData.strOk k = true) : sortable (ks.map fun k => (.str k : D)) = true := by
  unfold sortable
  rw [Bool.and_eq_true, Bool.and_eq_true]
  refine ⟨⟨?_, ?_⟩, ?_⟩
  · simp [List.all_eq_true, alike]
  · rw [shA_map]
    intro k hk
    simpa [sh] using h k hk
  · simp [List.all_eq_true]
@[simp] theorem isD_q {r : Rat} {P} : isD (qD r) .none P = P (.bool false) := propext Iff.rfl
@[simp] theorem isnD_q {r : Rat} {P} : isnD (qD r) .none P = P (.bool true) := propext Iff.rfl
@[simp] theorem ixD_q0 {r : Rat} {P} : ixD (qD r) (.int 0) P = P (.int r.num) := by unfold qD; simp
@[simp] theorem ixD_q1 {r : Rat} {P} : ixD (qD r) (.int 1) P = P (.int r.den) := by unfold qD; simp
theorem sh16_q (r : Rat) : sh 16 (qD r) = true := sh_qD r 15
@[simp] theorem eqD_q {r s : Rat} {P} : eqD (qD r) (qD s) P = P (.bool (decide (r = s))) := by
  rw [← eqv_qD]
  exact propext ⟨fun h => h.2, fun h => ⟨by rw [sh16_q, sh16_q]; rfl, h⟩⟩
@[simp] theorem neD_q {r s : Rat} {P} : neD (qD r) (qD s) P = P (.bool (!decide (r = s))) := by
  rw [← eqv_qD]
  exact propext ⟨fun h => h.2, fun h => ⟨by rw [sh16_q, sh16_q]; rfl, h⟩⟩
theorem eqD_str {a b : Str} {P : D → Prop} (ha : PyData.strOk a = true) (hb : PyData.strOk b = true) (hP : P (.bool (a == b))) : eqD (.str a) (.str b) P :=
  ⟨by simp [sh, ha, hb], by simpa [PyData.eqv] using hP⟩
theorem neD_str {a b : Str} {P : D → Prop} (ha : PyData.strOk a = true) (hb : PyData.strOk b = true) (hP : P (.bool (!(a == b)))) : neD (.str a) (.str b) P :=
  ⟨by simp [sh, ha, hb], by simpa [PyData.eqv] using hP⟩
theorem bq_inv {n : Int} {r : Rat} (h : Bq n r) (h0 : 0 < r) : Bq n r⁻¹ := by
  have p := r.den_pos
  have h1 : 0 ≤ r.num := Rat.num_nonneg.mpr (Rat.le_of_lt h0)
  have h2 : r.num ≠ 0 := fun e => by rw [Rat.num_eq_zero] at e; subst e; exact absurd h0 (by decide)
  have b1 := h.1; have b2 := h.2.1; have b3 := h.2.2
  refine ⟨?_, ?_, ?_⟩
  · rw [Rat.num_inv, Int.sign_eq_one_of_pos (by omega)]; omega
  · rw [Rat.num_inv, Int.sign_eq_one_of_pos (by omega)]; omega
  · rw [Rat.den_inv, if_neg h2]; omega
theorem bq_div {n m : Int} {r s : Rat} (hr : Bq n r) (hs : Bq m s) (h0 : 0 < s) : Bq (n * m) (r / s) := by
  rw [Rat.div_def]
  exact bq_mul hr (bq_inv hs h0)
theorem bq_sub {n m : Int} {r s : Rat} (hr : Bq n r) (hs : Bq m s) : Bq (2 * (n * m)) (r - s) := by
  rw [Rat.sub_eq_add_neg]
  exact bq_add hr (bq_neg hs)
theorem rat_pos {y : Rat} (h : 0 ≤ y) (h0 : y ≠ 0) : 0 < y := Rat.lt_of_le_of_ne h (Ne.symm h0)
theorem div_nonneg' {x y : Rat} (hx : 0 ≤ x) (hy : 0 < y) : 0 ≤ x / y := by
  rw [Rat.div_def]
  exact Rat.mul_nonneg hx (Rat.le_of_lt (Rat.inv_pos.mpr hy))
theorem cond_t {α : Type} {m n : M α} {P : α → Prop} : (cond true m n) P = m P := propext Iff.rfl
theorem cond_f {α : Type} {m n : M α} {P : α → Prop} : (cond false m n) P = n P := propext Iff.rfl
end Wp
namespace Wp
open PySem PySem.Spec PyProof.Rows L2

/-! ### zip -/
def zipD (xs ys : List D) : List D := (xs.zip ys).map fun p => .tuple [p.1, p.2]
theorem zipD_len (xs ys : List D) : (zipD xs ys).length = min xs.length ys.length := by simp [zipD]
theorem zipD_get {xs ys : List D} {i : Nat} (h : i < (zipD xs ys).length) : ∃ (h1 : i < xs.length) (h2 : i < ys.length), (zipD xs ys)[i] = .tuple [xs[i], ys[i]] := by
  have hl := zipD_len xs ys
  exact ⟨by omega, by omega, by simp [zipD]⟩
def zipI : D → D → M (List D)
  | .list xs, .list ys => M.pure (zipD xs ys)
  | .tuple xs, .tuple ys => M.pure (zipD xs ys)
  | _, _ => M.fail
section
variable {S : Sg} {Γ : En} {ow : Bool} {a b : Expr} {ma mb : M D} {p pos tpos : Pos} {elts : List Expr} {kk : Nat}
theorem zip_yld {ω : Option Addr} {K : PySem.W.Frag} {Gc Hc H' : Hp} {T : Addr} {x y : V} {dx dy : D} (h2 : Ext ω K Gc Hc Gc Hc) (nT : Hc T = none) (e : H' = upd Hc T (.tup [x, y])) (rx : Rp K Gc x dx) (ry : Rp K Gc y dy) : ∃ G', Ext ω K Gc Hc G' H' ∧ Rp K G' (.ref T) (.tuple [dx, dy]) := by
  subst e
  have e2 := h2.new (o := .tup [x, y]) nT
  exact ⟨_, e2, .tup (.inl (.inl upd_same)) (.cons (rx.ext e2) (.cons (ry.ext e2) .nil)) (by rw [sizeLine_eq]; show 2 ≤ 16777216; decide)⟩
theorem wi_zip (hb : BltAt S "zip" (.type "zip")) (ha : WE S Γ a ma) (hb2 : WE S Γ b mb) (hs : ∀ env, starEach [a, b] env = (false, eval a env) :: starEach [b] env := by intro _; rfl) (hs2 : ∀ env, starEach [b] env = (false, eval b env) :: starEach [] env := by intro _; rfl) :
    WI S Γ ow (.Tuple elts kk tpos) (.Call (.Name "zip" p) [a, b] [] pos) (ma.bind fun x => mb.bind fun y => zipI x y) := by
  intro ω G0 H0 σ G H P R E hm q
  refine ⟨_, fun X hX => hX.K ▸ RZ.pi_zipA (gl_of hX hb.g) (by rw [hX.mg]; exact hb.m) (pa_cons (RE.pe hX a) (pa_cons (RE.pe hX b) pa_nil (hs2 _)) (hs _)) (hs _) (by rw [hs2]; rfl), ?_⟩
  show RE S a σ H fun v H1 => RE S b σ H1 fun u H2 => _
  refine ha ω G0 H0 σ G H _ _ E hm fun x v G1 H1 hx e1 r1 => ?_
  refine hb2 ω G0 H0 σ G1 H1 _ _ (E.step e1) hx fun y u G2 H2 hy e2 r2 => ?_
  have r1' := r1.ext e2
  cases x with
  | list xs => cases y with
    | list ys =>
      cases r1' with
      | lst s1 a1 z1 => cases r2 with
        | lst s2 a2 z2 =>
          refine ⟨_, _, _, _, rfl, .inl ⟨.inl (e2.le _ _ s1), .inl (e2.le _ _ s2), q _ _ G2 H2 hy (e1.trans e2) ⟨by rw [zipD_len]; omega, fun i Gc Hc h1 h2 _ hi => ?_, fun Gc Hc h1 h2 _ => ?_, fun i Gc Hc w H' hi h1 h2 _ y => ?_⟩⟩⟩
          · obtain ⟨g1, g2, _⟩ := zipD_get hi
            obtain ⟨v1, k1, _⟩ := a1.getD (List.getElem?_eq_getElem g1)
            obtain ⟨v2, k2, _⟩ := a2.getD (List.getElem?_eq_getElem g2)
            exact ⟨_, _, v1, v2, sq_frz (.inl s1) h1 h2, sq_frz (.inl s2) h1 h2, k1, k2⟩
          · refine ⟨_, _, sq_frz (.inl s1) h1 h2, sq_frz (.inl s2) h1 h2, ?_⟩
            rw [a1.length, a2.length, zipD_len]; omega
          · obtain ⟨T, x1, x2, rfl, nT, e, f1, f2⟩ := y
            obtain ⟨g1, g2, eq⟩ := zipD_get hi
            rw [eq]
            obtain ⟨d1, k1, t1⟩ := a1.get (f1 _ (sq_frz (.inl s1) h1 h2))
            obtain ⟨d2, k2, t2⟩ := a2.get (f2 _ (sq_frz (.inl s2) h1 h2))
            rw [List.getElem?_eq_getElem g1] at k1
            rw [List.getElem?_eq_getElem g2] at k2
            cases k1; cases k2
            exact zip_yld h2 nT e (Rp.le h1 _ t1) (Rp.le h1 _ t2)
    | _ => exact False.elim hy
  | tuple xs => cases y with
    | tuple ys =>
      cases r1' with
      | tup s1 a1 z1 => cases r2 with
        | tup s2 a2 z2 =>
          refine ⟨_, _, _, _, rfl, .inr ⟨e2.le.sqT s1, e2.le.sqT s2, q _ _ G2 H2 hy (e1.trans e2) ⟨by rw [zipD_len]; omega, fun i Gc Hc h1 h2 _ hi => ?_, fun Gc Hc h1 h2 _ => ?_, fun i Gc Hc w H' hi h1 h2 _ y => ?_⟩⟩⟩
          · obtain ⟨g1, g2, _⟩ := zipD_get hi
            obtain ⟨v1, k1, _⟩ := a1.getD (List.getElem?_eq_getElem g1)
            obtain ⟨v2, k2, _⟩ := a2.getD (List.getElem?_eq_getElem g2)
            exact ⟨_, _, v1, v2, sqt_frz s1 h1 h2, sqt_frz s2 h1 h2, k1, k2⟩
          · refine ⟨_, _, sqt_frz s1 h1 h2, sqt_frz s2 h1 h2, ?_⟩
            rw [a1.length, a2.length, zipD_len]; omega
          · obtain ⟨T, x1, x2, rfl, nT, e, f1, f2⟩ := y
            obtain ⟨g1, g2, eq⟩ := zipD_get hi
            rw [eq]
            obtain ⟨d1, k1, t1⟩ := a1.get (f1 _ (sqt_frz s1 h1 h2))
            obtain ⟨d2, k2, t2⟩ := a2.get (f2 _ (sqt_frz s2 h1 h2))
            rw [List.getElem?_eq_getElem g1] at k1
            rw [List.getElem?_eq_getElem g2] at k2
            cases k1; cases k2
            exact zip_yld h2 nT e (Rp.le h1 _ t1) (Rp.le h1 _ t2)
    | _ => exact False.elim hy
  | _ => exact False.elim hy
end
end Wp
namespace Wp
open PySem PySem.Spec PyProof.Rows L2

/-! ### all but one object stand still -/
structure ExtD (ω : Option Addr) (Dd : Addr) (G H G' H' : Hp) : Prop where
  gg : Same G G'
  hh : ∀ a u, a ≠ Dd → some a ≠ ω → H a = some u → H' a = some u
  fr : ∀ a u, a ≠ Dd → H a = some u → G a = none → G' a = none
section
variable {ω : Option Addr} {K : PySem.W.Frag} {G0 H0 G H G' H' G2 H2 : Hp} {Γ : En} {σ : L2.St} {Dd : Addr}
theorem ExtD.refl : ExtD ω Dd G H G H := ⟨Same.refl _, fun _ _ _ _ h => h, fun _ _ _ _ h => h⟩
theorem ExtD.ext (x : ExtD ω Dd G H G' H') (e : Ext ω K G' H' G2 H2) : ExtD ω Dd G H G2 H2 where
  gg := x.gg.trans e.gg
  hh := fun a u n m h => e.hh a u m (x.hh a u n m h)
  fr := fun a u n h g => by
    by_cases z : some a = ω
    · obtain ⟨g, _⟩ := e.dr a z.symm
      exact g
    · exact e.fr a u (x.hh a u n z h) (x.fr a u n h g)
theorem ExtD.poke {o : HO} (x : ExtD ω Dd G H G' H') : ExtD ω Dd G H G' (upd H' Dd o) := ⟨x.gg, fun a u n m h => by rw [upd_ne n]; exact x.hh a u n m h, x.fr⟩
def NoD (Γ : En) (σ : L2.St) (Dd : Addr) : Prop := ∀ (i : Nat) d v, Γ[i]? = some (some (.own d)) → σ[i]? = some (some v) → v ≠ .ref Dd
theorem EnvOk.noD (E : EnvOk ω K G0 H0 Γ σ G H) (h : H Dd = none) : NoD Γ σ Dd := fun i d v h1 h2 e => by
  obtain ⟨v', g1, o, u, rfl, g2, g3, _⟩ := E.sl i _ h1
  rw [h2] at g1; cases g1; cases e
  rw [h] at g3; cases g3
theorem EnvOk.noD0 {w : HO} (E : EnvOk ω K G0 (upd H0 Dd w) Γ σ G H) : NoD Γ σ Dd := fun i d v h1 h2 e => by
  obtain ⟨v', g1, o, u, rfl, g2, g3, g4, g5, _⟩ := E.sl i _ h1
  rw [h2] at g1; cases g1; cases e
  rw [upd_same] at g5; cases g5
theorem EnvOk.pin {w : HO} (E : EnvOk ω K G0 H0 Γ σ G H) (n : NoD Γ σ Dd) (h : H Dd = some w) (g : G Dd = none) : EnvOk ω K G0 (upd H0 Dd w) Γ σ G H where
  ext := {
    gg := E.ext.gg
    hh := fun a u m e => by
      by_cases z : a = Dd
      · subst z; rw [upd_same] at e; cases e; exact h
      · rw [upd_ne z] at e; exact E.ext.hh a u m e
    le := E.ext.le
    fr := fun a u e g' => by
      by_cases z : a = Dd
      · subst z; exact g
      · rw [upd_ne z] at e; exact E.ext.fr a u e g'
    dr := E.ext.dr }
  ln := E.ln
  sl := fun i c hc => by
    obtain ⟨v, h1, h2⟩ := E.sl i c hc
    refine ⟨v, h1, ?_⟩
    cases c with
    | own d =>
      obtain ⟨o, u, rfl, g2, g3, g4, g5, g6⟩ := h2
      exact ⟨o, u, rfl, g2, g3, g4, by rw [upd_ne (fun z => n i d _ hc h1 (by rw [z]))]; exact g5, g6⟩
    | _ => exact h2
  ds := E.ds
/-- unpinned, and carried on -/
theorem EnvOk.moveD {w : HO} (E : EnvOk ω K G0 (upd H0 Dd w) Γ σ G H) (x : ExtD ω Dd G H G' H') (e : Ext ω K G0 H0 G' H') (h0 : H0 Dd = none) : EnvOk ω K G0 H0 Γ σ G' H' where
  ext := e
  ln := E.ln
  sl := fun i c hc => by
    obtain ⟨v, h1, h2⟩ := E.sl i c hc
    refine ⟨v, h1, ?_⟩
    have n := E.noD0
    cases c with
    | val d => exact Rp.le x.gg d h2
    | own d =>
      obtain ⟨o, u, rfl, g2, g3, g4, g5, g6⟩ := h2
      have ho : o ≠ Dd := fun z => n i d _ hc h1 (by rw [z])
      exact ⟨o, u, rfl, g2, x.hh o u ho g2 g3, x.fr o u ho g3 g4, by rw [upd_ne ho] at g5; exact g5, g6.le x.gg⟩
    | drw => exact h2
    | scr ns => obtain ⟨a, k1, k2⟩ := h2; exact ⟨a, k1, (Le.of_same x.gg).sqL k2⟩
  ds := E.ds
end

/-! ### comprehensions of two for -/
section
variable {S : Sg} {Γ : En} {elt tg iter tg1 iter1 : Expr} {ifs ifs1 : List Expr} {ms : M (List D)} {pos : Pos} {scope : Scope} {own : List (Str × Nat)} {α β : Type} {dec : D → M α} {g : α → En → En} {ts : List Nat} {tc : α → M Bool}
  {dec1 : D → M β} {g1 : β → En → En} {ts1 vs1 : List Nat} {tc1 : α → β → M Bool} {ms1 : α → M (List D)} {f : α → β → M D}
/-- a turn of the outer loop: what is gathered, and one item more -/
abbrev turn2 {α β : Type} (dec : D → M α) (tc : α → M Bool) (ms1 : α → M (List D)) (dec1 : D → M β) (tc1 : α → β → M Bool) (f : α → β → M D) : List D → D → M (List D) := fun acc x => (dec x).bind fun a => (tc a).bind fun b => bif b then (ms1 a).bind fun ys => M.need (acc.length + ys.length ≤ 16777216) ((M.filM (turnM dec1 (tc1 a) (f a)) ys).bind fun zs => M.pure (acc ++ zs)) else M.pure acc
theorem lc2_go {wi : TI} (hg : WG (S.blk scope) tg dec g ts) (hts : ∀ i ∈ ts, i ∈ own.map (·.2)) (ht : ∀ a, WTs (S.blk scope) (g a (wipeE Γ (own.map (·.2)))) ifs (tc a))
    (hi1 : ∀ a, WI (S.blk scope) (g a (wipeE Γ (own.map (·.2)))) false tg1 iter1 (ms1 a)) (hg1 : WG (S.blk scope) tg1 dec1 g1 ts1) (hts1 : ∀ i ∈ ts1, i ∈ vs1)
    (ht1 : ∀ a b, WTs (S.blk scope) (g1 b (wipeE (g a (wipeE Γ (own.map (·.2)))) vs1)) ifs1 (tc1 a b)) (he : ∀ a b, WE (S.blk scope) (g1 b (wipeE (g a (wipeE Γ (own.map (·.2)))) vs1)) elt (f a b))
    {ω : Option Addr} {G0 H0 : Hp} {σ : L2.St} {G HB : Hp} {P : D → Prop} {Q : VK} (E : EnvOk ω S.K G0 H0 Γ σ G HB)
    (hi : ∀ (P' : List D → Prop) (R : It → Hp → Prop), ms P' → (∀ ds J G' H', P' ds → Ext ω S.K G HB G' H' → ItOk ω S.K (aOf ω true) J ds G' H' → R J H') → wi σ HB R) (hm : (ms.bind fun xs => (M.fold (turn2 dec tc ms1 dec1 tc1 f) [] xs).bind fun ys => M.pure (.list ys)) P)
    (q : ∀ d v G' H', P d → Ext ω S.K G HB G' H' → Rp S.K G' v d → Q v H') :
    tLc2 wi (RG (S.blk scope) tg) (RTs (S.blk scope) ifs) (RI (S.blk scope) tg1 iter1) (RG (S.blk scope) tg1) (RTs (S.blk scope) ifs1) (RE (S.blk scope) elt) (own.map (·.2)) vs1 σ HB Q := by
  generalize hvs : own.map (·.2) = vs at *
  unfold tLc2
  refine hi _ _ hm fun ds J G1 H1 hP e1 it => ?_
  intro Dd nD
  have hω : some Dd ≠ ω := fun z => by
    obtain ⟨_, _, _, _, h, _⟩ := e1.dr Dd z.symm
    rw [nD] at h; cases h
  refine ⟨fun i m H => m = ds.length - i ∧ i ≤ ds.length ∧ ∃ Gc acc ads, Ext ω S.K G1 H1 Gc H ∧ H Dd = some (.lst acc) ∧ Gc Dd = none ∧ RpA S.K Gc acc ads ∧ ads.length ≤ 16777216 ∧ M.fold (turn2 dec tc ms1 dec1 tc1 f) ads (ds.drop i) (fun ys => P (.list ys)),
    ⟨ds.length, by simp, Nat.zero_le _, G1, [], [], e1.self.lay nD, upd_same, e1.le.none nD, .nil, Nat.zero_le _, hP⟩, ?_⟩
  rintro i m H ⟨rfl, hi', Gc, acc, ads, x1, hD, gD, ra, la, wp⟩
  have ge : ∀ a u, aOf ω true a → H1 a = some u → H a = some u := fun a u h => x1.hh a u h.2
  by_cases hlt : i < ds.length
  · refine .inr ⟨it.go i Gc H x1.gg x1.self ge hlt, fun H => ∃ Gc acc ads, Ext ω S.K G1 H1 Gc H ∧ H Dd = some (.lst acc) ∧ Gc Dd = none ∧ RpA S.K Gc acc ads ∧ ads.length ≤ 16777216 ∧ M.fold (turn2 dec tc ms1 dec1 tc1 f) ads (ds.drop (i + 1)) (fun ys => P (.list ys)), fun H' hN => ⟨ds.length - (i + 1), by omega, rfl, hlt, hN⟩, fun v H' y => ?_⟩
    obtain ⟨G2, e2, r2⟩ := it.yld i Gc H v H' hlt x1.gg x1.self ge y
    have hD2 : H' Dd = some (.lst acc) := e2.hh _ _ hω hD
    have gD2 : G2 Dd = none := e2.fr _ _ hD gD
    have hDn : HB Dd = none := by
      cases q : HB Dd with
      | none => rfl
      | some u => have := e1.hh Dd u hω q; rw [nD] at this; cases this
    have hD0 : H0 Dd = none := by
      cases q : H0 Dd with
      | none => rfl
      | some u => have := E.ext.hh Dd u hω q; rw [hDn] at this; cases this
    have E2 : EnvOk ω S.K G0 (upd H0 Dd (.lst acc)) (wipeE Γ vs) (L2.wipe σ vs) G2 H' := ((E.step (e1.trans (x1.trans e2))).pin (E.noD hDn) hD2 gD2).wipe vs
    rw [List.drop_eq_getElem_cons hlt] at wp
    refine hg ω G0 (upd H0 Dd (.lst acc)) (wipeE Γ vs) (L2.wipe σ vs) G2 H' v ds[i] _ _ E2 r2 wp fun a σ2 ha E3 hw => ⟨(hw vs hts).trans wipe_wipe, ?_⟩
    refine ht a ω G0 (upd H0 Dd (.lst acc)) σ2 G2 H' _ _ E3 ha fun b G4 H4 hb e4 => ?_
    have x4 : Ext ω S.K G1 H1 G4 H4 := (x1.trans e2).trans e4
    have hD4 : H4 Dd = some (.lst acc) := e4.hh _ _ hω (e2.hh _ _ hω hD)
    have gD4 : G4 Dd = none := e4.fr _ _ (e2.hh _ _ hω hD) (e2.fr _ _ hD gD)
    have ra4 : RpA S.K G4 acc ads := (ra.ext e2).ext e4
    cases b with
    | false =>
      rw [if_neg Bool.false_ne_true]
      exact ⟨G4, acc, ads, x4, hD4, gD4, ra4, la, hb⟩
    | true =>
      rw [if_pos rfl]
      have E4 := E3.step e4
      refine hi1 a ω G0 (upd H0 Dd (.lst acc)) σ2 G4 H4 _ _ E4 hb fun ys J1 G5 H5 hb5 e5 it1 => ?_
      obtain ⟨hsz, hb5⟩ := hb5
      have hD5 := e5.hh _ _ hω hD4
      have gD5 := e5.fr _ _ hD4 gD4
      have x5 := x4.trans e5
      refine ⟨fun j k H => k = ys.length - j ∧ j ≤ ys.length ∧ ∃ Gc acc' zs, Ext ω S.K G1 H1 Gc H ∧ ExtD ω Dd G5 H5 Gc H ∧ H Dd = some (.lst acc') ∧ Gc Dd = none ∧ RpA S.K Gc acc' (ads ++ zs) ∧ zs.length ≤ j ∧ M.filM (turnM dec1 (tc1 a) (f a)) (ys.drop j) (fun zs' => M.fold (turn2 dec tc ms1 dec1 tc1 f) (ads ++ (zs ++ zs')) (ds.drop (i + 1)) (fun ys => P (.list ys))),
        ⟨ys.length, by simp, Nat.zero_le _, G5, acc, [], x5, .refl, hD5, gD5, by rw [List.append_nil]; exact ra4.ext e5, Nat.le_refl _, hb5⟩, ?_⟩
      rintro j k H6 ⟨rfl, hj', Gd, acc', zs, x6, s6, hD6, gD6, ra6, lz, wp6⟩
      have ge1 : ∀ a u, aOf ω false a → H5 a = some u → H6 a = some u := fun a u h => nomatch h.1
      by_cases hlt1 : j < ys.length
      · refine .inr ⟨it1.go j Gd H6 s6.gg x6.self ge1 hlt1, fun H => ∃ Gc acc' zs, Ext ω S.K G1 H1 Gc H ∧ ExtD ω Dd G5 H5 Gc H ∧ H Dd = some (.lst acc') ∧ Gc Dd = none ∧ RpA S.K Gc acc' (ads ++ zs) ∧ zs.length ≤ j + 1 ∧ M.filM (turnM dec1 (tc1 a) (f a)) (ys.drop (j + 1)) (fun zs' => M.fold (turn2 dec tc ms1 dec1 tc1 f) (ads ++ (zs ++ zs')) (ds.drop (i + 1)) (fun ys => P (.list ys))), fun H' hN => ⟨ys.length - (j + 1), by omega, rfl, hlt1, hN⟩, fun v7 H7 y7 => ?_⟩
        obtain ⟨G7, e7, r7⟩ := it1.yld j Gd H6 v7 H7 hlt1 s6.gg x6.self ge1 y7
        have E7 : EnvOk ω S.K G0 H0 (wipeE (g a (wipeE Γ vs)) vs1) (L2.wipe σ2 vs1) G7 H7 := (((E4.step e5).moveD (s6.ext e7) (E.ext.trans (e1.trans (x6.trans e7))) hD0).wipe vs1)
        rw [List.drop_eq_getElem_cons hlt1] at wp6
        refine hg1 ω G0 H0 _ (L2.wipe σ2 vs1) G7 H7 v7 ys[j] _ _ E7 r7 wp6 fun c σ3 hc E8 hw1 => ⟨(hw1 vs1 hts1).trans wipe_wipe, ?_⟩
        refine ht1 a c ω G0 H0 σ3 G7 H7 _ _ E8 hc fun b9 G9 H9 hb9 e9 => ?_
        have x9 : Ext ω S.K G1 H1 G9 H9 := (x6.trans e7).trans e9
        have s9 : ExtD ω Dd G5 H5 G9 H9 := (s6.ext e7).ext e9
        have hD9 : H9 Dd = some (.lst acc') := e9.hh _ _ hω (e7.hh _ _ hω hD6)
        have gD9 : G9 Dd = none := e9.fr _ _ (e7.hh _ _ hω hD6) (e7.fr _ _ hD6 gD6)
        have ra9 : RpA S.K G9 acc' (ads ++ zs) := (ra6.ext e7).ext e9
        cases b9 with
        | false =>
          rw [if_neg Bool.false_ne_true]
          exact ⟨G9, acc', zs, x9, s9, hD9, gD9, ra9, by omega, hb9⟩
        | true =>
          rw [if_pos rfl]
          refine he a c ω G0 H0 σ3 G9 H9 _ _ (E8.step e9) hb9 fun y v10 G10 H10 hy e10 r10 => ?_
          have hD10 := e10.hh _ _ hω hD9
          have gD10 := e10.fr _ _ hD9 gD9
          refine ⟨acc', hD10, ?_, G10, acc' ++ [v10], zs ++ [y], (x9.trans e10).poke nD gD10 hω, (s9.ext e10).poke, upd_same, gD10, ?_, by simp; omega, ?_⟩
          · have := ra9.length
            rw [List.length_append] at this
            rw [sizeLine_eq]
            omega
          · rw [← List.append_assoc]; exact (ra9.ext e10).append (.cons r10 .nil)
          · have z : (fun zs' => M.fold (turn2 dec tc ms1 dec1 tc1 f) (ads ++ ((zs ++ [y]) ++ zs')) (ds.drop (i + 1)) (fun ys => P (.list ys))) = fun zs' => M.fold (turn2 dec tc ms1 dec1 tc1 f) (ads ++ (zs ++ y :: zs')) (ds.drop (i + 1)) (fun ys => P (.list ys)) := by funext zs'; simp
            rw [z]; exact hy
      · have ej : j = ys.length := by omega
        subst ej
        rw [List.drop_length] at wp6
        have wp6' : M.fold (turn2 dec tc ms1 dec1 tc1 f) (ads ++ (zs ++ [])) (ds.drop (i + 1)) (fun ys => P (.list ys)) := wp6
        rw [List.append_nil] at wp6'
        refine .inl ⟨it1.stop Gd H6 s6.gg x6.self ge1, Gd, acc', ads ++ zs, x6, hD6, gD6, ra6, by rw [List.length_append]; omega, wp6'⟩
  · have ei : i = ds.length := by omega
    subst ei
    rw [List.drop_length] at wp
    have wp' : P (.list ads) := wp
    refine .inl ⟨it.stop Gc H x1.gg x1.self ge, q _ _ (upd Gc Dd (.lst acc)) H wp' (e1.trans (x1.frz nD hD (fun _ _ z => nomatch z) gD hω)) ?_⟩
    refine .lst (.inl upd_same) (RpA.le (fun c u e => ?_) _ ra) (line_le la)
    rw [upd_ne (ne_of_none e gD)]; exact e
/-- [elt for tg in iter if .. for tg1 in iter1 if ..] -/
theorem we_lc2 (hi : WI S Γ true tg iter ms) (ok : blkC S.N S.sc scope own = true) (hg : WG (S.blk scope) tg dec g ts) (hts : ∀ i ∈ ts, i ∈ own.map (·.2)) (ht : ∀ a, WTs (S.blk scope) (g a (wipeE Γ (own.map (·.2)))) ifs (tc a))
    (hi1 : ∀ a, WI (S.blk scope) (g a (wipeE Γ (own.map (·.2)))) false tg1 iter1 (ms1 a)) (hg1 : WG (S.blk scope) tg1 dec1 g1 ts1) (hts1 : ∀ i ∈ ts1, i ∈ vs1) (hv : ∀ i ∈ vs1, i ∈ own.map (·.2))
    (ht1 : ∀ a b, WTs (S.blk scope) (g1 b (wipeE (g a (wipeE Γ (own.map (·.2)))) vs1)) ifs1 (tc1 a b)) (he : ∀ a b, WE (S.blk scope) (g1 b (wipeE (g a (wipeE Γ (own.map (·.2)))) vs1)) elt (f a b))
    (hs : ∀ env x, foldedSetIterable iter env x = pure x := by intro _ _; rfl) (hs1 : ∀ env x, foldedSetIterable iter1 env x = pure x := by intro _ _; rfl) :
    WE S Γ (.ListComp elt [⟨tg, iter, ifs, 0⟩, ⟨tg1, iter1, ifs1, 0⟩] scope pos) (ms.bind fun xs => (M.fold (fun acc x => (dec x).bind fun a => (tc a).bind fun b => bif b then (ms1 a).bind fun ys => M.need (acc.length + ys.length ≤ 16777216) ((M.filM (fun x => (dec1 x).bind fun c => (tc1 a c).bind fun b => bif b then (f a c).bind fun y => M.pure (some y) else M.pure none) ys).bind fun zs => M.pure (acc ++ zs)) else M.pure acc) [] xs).bind fun ys => M.pure (.list ys)) := by
  intro ω G0 H0 σ G H P Q E hm q
  exact ⟨_, fun X hX => pe_lc2 hX.calm (by rw [hX.N]; exact hX.nd) (RI.pi hX tg iter) (blkOk_by (own := own) (by rw [hX.N, hX.sc]; exact ok)) hv (fun s H C cl fp => RG.pg (hX.blk s H scope C cl fp) tg) (fun s H C cl fp => RTs.pts (hX.blk s H scope C cl fp) ifs) (fun s H C cl fp => RI.pi (hX.blk s H scope C cl fp) tg1 iter1) (fun s H C cl fp => RG.pg (hX.blk s H scope C cl fp) tg1) (fun s H C cl fp => RTs.pts (hX.blk s H scope C cl fp) ifs1) (fun s H C cl fp => RE.pe (hX.blk s H scope C cl fp) elt) (hs _) hs1,
    lc2_go hg hts ht hi1 hg1 hts1 ht1 he E (fun P' R h1 h2 => hi ω G0 H0 σ G H P' R E h1 h2) hm q⟩
theorem w_setLc2 {ρ : Type} {ι : ρ → Out} {k : D → M ρ} {i : Nat} {y : Str} {rest : List Stmt} {py spos : Pos} (hy : SetAt S i y) (sw : SwapAt S y scope) (hi : WI S Γ true tg iter ms) (ok : blkC S.N S.sc scope own = true) (hg : WG (S.blk scope) tg dec g ts) (hts : ∀ i ∈ ts, i ∈ own.map (·.2)) (ht : ∀ a, WTs (S.blk scope) (g a (wipeE Γ (own.map (·.2)))) ifs (tc a))
    (hi1 : ∀ a, WI (S.blk scope) (g a (wipeE Γ (own.map (·.2)))) false tg1 iter1 (ms1 a)) (hg1 : WG (S.blk scope) tg1 dec1 g1 ts1) (hts1 : ∀ i ∈ ts1, i ∈ vs1) (hv : ∀ i ∈ vs1, i ∈ own.map (·.2))
    (ht1 : ∀ a b, WTs (S.blk scope) (g1 b (wipeE (g a (wipeE Γ (own.map (·.2)))) vs1)) ifs1 (tc1 a b)) (he : ∀ a b, WE (S.blk scope) (g1 b (wipeE (g a (wipeE Γ (own.map (·.2)))) vs1)) elt (f a b))
    (hk : ∀ d, W S (Γ.set i (some (.val d))) rest (k d) ι) (hs : ∀ env x, foldedSetIterable iter env x = pure x := by intro _ _; rfl) (hs1 : ∀ env x, foldedSetIterable iter1 env x = pure x := by intro _ _; rfl) (hl : (py.line == pos.line) = true := by rfl) :
    W S Γ (.Assign [.Name y py] (.ListComp elt [⟨tg, iter, ifs, 0⟩, ⟨tg1, iter1, ifs1, 0⟩] scope pos) spos :: rest) ((ms.bind fun xs => (M.fold (fun acc x => (dec x).bind fun a => (tc a).bind fun b => bif b then (ms1 a).bind fun ys => M.need (acc.length + ys.length ≤ 16777216) ((M.filM (fun x => (dec1 x).bind fun c => (tc1 a c).bind fun b => bif b then (f a c).bind fun y => M.pure (some y) else M.pure none) ys).bind fun zs => M.pure (acc ++ zs)) else M.pure acc) [] xs).bind fun ys => M.pure (.list ys)).bind k) ι := by
  intro ω G0 H0 σ G H P Dn E hm q
  refine rs_cons (fun X hX => ps_setLc2 (i := i) hX.calm (by rw [hX.N]; exact hX.nd) (by rw [hX.N]; exact hy.n) (by rw [hX.sc]; exact sw.l) (sw_true (by rw [hX.sc]; exact sw.k) (by rw [hX.sc]; exact sw.l) hl sw.s) (RI.pi hX tg iter) (blkOk_by (own := own) (by rw [hX.N, hX.sc]; exact ok)) hv (fun s H C cl fp => RG.pg (hX.blk s H scope C cl fp) tg) (fun s H C cl fp => RTs.pts (hX.blk s H scope C cl fp) ifs) (fun s H C cl fp => RI.pi (hX.blk s H scope C cl fp) tg1 iter1) (fun s H C cl fp => RG.pg (hX.blk s H scope C cl fp) tg1) (fun s H C cl fp => RTs.pts (hX.blk s H scope C cl fp) ifs1) (fun s H C cl fp => RE.pe (hX.blk s H scope C cl fp) elt) (hs _) hs1) ?_
  exact lc2_go hg hts ht hi1 hg1 hts1 ht1 he (P := fun d => k d P) E (fun P' R h1 h2 => hi ω G0 H0 σ G H P' R E h1 h2) hm fun d v G1 H1 hP e1 r1 => hk d ω G0 H0 _ G1 H1 P Dn ((E.step e1).putV r1) hP q
end

/-! ### d.get of one's own -/
section
variable {S : Sg} {Γ : En} {a b o : Expr} {mo mk mx : M D} {apos cpos : Pos}
theorem wb_get2 (ho : WB S Γ o mo) (hk : WE S Γ a mk) (hx : WE S Γ b mx) (hm2 : ∀ X : Cx, M2 X o "get" apos a b cpos) : WE S Γ (.Call (.Attribute o "get" apos) [a, b] [] cpos) (mo.bind fun d => M.need ((isDi d && plainD d) = true) (mk.bind fun k => mx.bind fun x => get2D d k x)) := by
  intro ω G0 H0 σ G H P Q E hm q
  refine ⟨_, fun X hX => pe_dget2 (hu_of hX.room) (RE.pe hX o) (RE.pe hX a) (RE.pe hX b) (hm2 X), ?_⟩
  refine ho ω G0 H0 σ G H _ _ E hm fun d v G1 H1 ⟨hd, hP⟩ e1 r1 => ?_
  cases d with
  | dict es =>
    have hmk : marked es = false := by simpa [isDi, plainD] using hd
    obtain ⟨a', rfl, _, hcase⟩ := noT (ω := ω) r1 e1.le
    refine ⟨a', rfl, ?_, ?_⟩
    · rcases hcase with ⟨kvs, s1, _⟩ | ⟨kvs, es', _, s1, _⟩
      · exact .inl ⟨_, s1⟩
      · exact .inr ⟨_, s1⟩
    refine hk ω G0 H0 σ G1 H1 _ _ (E.step e1) hP fun k u G2 H2 hP2 e2 r2 => ?_
    refine hx ω G0 H0 σ G2 H2 _ _ ((E.step e1).step e2) hP2 fun x w G3 H3 hP3 e3 r3 => ?_
    obtain ⟨⟨h1, h2⟩, hP3⟩ := hP3
    obtain ⟨a2, kvs, hq, s1, oo, g, g1, g2⟩ := dict_get (ω := ω) e3.le ((r1.ext e2).ext e3) h1 h2 (.inl (r2.ext e3))
    cases hq
    refine ⟨oo, g, ?_⟩
    cases hlk : lookD es k with
    | none => rw [g2 hlk]; rw [hlk] at hP3; exact q _ _ _ _ hP3 ((e1.trans e2).trans e3) r3
    | some d => obtain ⟨w', rfl, rw'⟩ := g1 d hlk; rw [hlk] at hP3; exact q _ _ _ _ hP3 ((e1.trans e2).trans e3) rw'
  | _ => simp [isDi] at hd
theorem wb_get1 (ho : WB S Γ o mo) (hk : WE S Γ a mk) (hm2 : ∀ X : Cx, M1 X o "get" apos a cpos) : WE S Γ (.Call (.Attribute o "get" apos) [a] [] cpos) (mo.bind fun d => M.need ((isDi d && plainD d) = true) (mk.bind fun k => get2D d k .none)) := by
  intro ω G0 H0 σ G H P Q E hm q
  refine ⟨_, fun X hX => pe_dget1 (hu_of hX.room) (RE.pe hX o) (RE.pe hX a) (hm2 X), ?_⟩
  refine ho ω G0 H0 σ G H _ _ E hm fun d v G1 H1 ⟨hd, hP⟩ e1 r1 => ?_
  cases d with
  | dict es =>
    have hmk : marked es = false := by simpa [isDi, plainD] using hd
    obtain ⟨a', rfl, _, hcase⟩ := noT (ω := ω) r1 e1.le
    refine ⟨a', rfl, ?_, ?_⟩
    · rcases hcase with ⟨kvs, s1, _⟩ | ⟨kvs, es', _, s1, _⟩
      · exact .inl ⟨_, s1⟩
      · exact .inr ⟨_, s1⟩
    refine hk ω G0 H0 σ G1 H1 _ _ (E.step e1) hP fun k u G2 H2 hP3 e2 r2 => ?_
    obtain ⟨⟨h1, h2⟩, hP3⟩ := hP3
    obtain ⟨a2, kvs, hq, s1, oo, g, g1, g2⟩ := dict_get (ω := ω) e2.le (r1.ext e2) h1 h2 (.inl r2)
    cases hq
    refine ⟨oo, g, ?_⟩
    cases hlk : lookD es k with
    | none => rw [g2 hlk]; rw [hlk] at hP3; exact q _ _ _ _ hP3 (e1.trans e2) .non
    | some d => obtain ⟨w', rfl, rw'⟩ := g1 d hlk; rw [hlk] at hP3; exact q _ _ _ _ hP3 (e1.trans e2) rw'
  | _ => simp [isDi] at hd
end

/-! ### a written dict -/
section
variable {S : Sg} {Γ : En} {pos : Pos}
def WP (S : Sg) (Γ : En) (ps : List (Expr × Expr)) (m : M (List (D × D))) : Prop := ∀ (ω : Option Addr) (G0 H0 : Hp) (σ : L2.St) (G H : Hp) (P : List (D × D) → Prop) (Q : List (V × V) → Hp → Prop), EnvOk ω S.K G0 H0 Γ σ G H → m P →
  (∀ es vs G' H', P es → Ext ω S.K G H G' H' → (∃ kvs : List (Key × V), vs = kvs.map (fun kv => (kV kv.1, kv.2)) ∧ RpK S.K G' kvs es) → es.length = ps.length → Q vs H') → tPairs (ps.map fun p => (RE S p.1, RE S p.2)) σ H Q
theorem wp_nil : WP S Γ [] (M.pure []) := fun ω G0 H0 σ G H P Q E hm q => q [] [] G H hm E.self ⟨[], rfl, .nil⟩ rfl
theorem RpK.ext {ω : Option Addr} {K : PySem.W.Frag} {G H G' H' : Hp} {kvs : List (Key × V)} {es : List (D × D)} (h : RpK K G kvs es) (e : Ext ω K G H G' H') : RpK K G' kvs es := RpK.le e.gg es h
theorem wp_cons {ek ev : Expr} {mk mv : M D} {ps : List (Expr × Expr)} {ms : M (List (D × D))} (hk : WE S Γ ek mk) (hv : WE S Γ ev mv) (hs : WP S Γ ps ms) : WP S Γ ((ek, ev) :: ps) (mk.bind fun k => mv.bind fun v => M.need (kD k = true) (ms.bind fun es => M.pure ((k, v) :: es))) := by
  intro ω G0 H0 σ G H P Q E hm q
  refine hk ω G0 H0 σ G H _ _ E hm fun k kv G1 H1 hx e1 r1 => ?_
  refine hv ω G0 H0 σ G1 H1 _ _ (E.step e1) hx fun v vv G2 H2 hy e2 r2 => ?_
  refine hs ω G0 H0 σ G2 H2 _ _ ((E.step e1).step e2) hy.2 fun es vs G3 H3 hz e3 r3 l3 => ?_
  obtain ⟨kvs, rfl, r3⟩ := r3
  obtain ⟨c, rfl⟩ := keyD_kD hy.1
  have := kV_rel (ω := ω) (H := H) (.inl r1)
  subst this
  exact q _ _ _ _ hz ((e1.trans e2).trans e3) ⟨(c, vv) :: kvs, rfl, .cons (r2.ext e3) r3⟩ (congrArg (· + 1) l3)
theorem wp_pps {X : Cx} (hX : S.Of X) : ∀ ps : List (Expr × Expr), PPs X pos (ps.map fun p => some p.1) (ps.map (·.2)) (ps.map fun p => (RE S p.1, RE S p.2))
  | [] => pps_nil
  | (a, b) :: ps => pps_cons (RE.pe hX a) (RE.pe hX b) (wp_pps hX ps)
theorem disp_go {ps : List (Expr × Expr)} {ms : M (List (D × D))} (hs : WP S Γ ps ms) (h15 : ps.length ≤ 15) {ω : Option Addr} {G0 H0 : Hp} {σ : L2.St} {G H : Hp} {P : D → Prop} {Q : VK} (E : EnvOk ω S.K G0 H0 Γ σ G H) (hm : ms fun es => P (.dict (mergeD [] es)))
    (q : ∀ d p kvs es G' H', P d → d = .dict es → Ext ω S.K G H G' H' → H p = none → G' p = none → H' p = some (.dK kvs) → RpK S.K G' kvs es → es.length ≤ sizeLine → some p ≠ ω → Q (.ref p) H') : tDisp (ps.map fun p => (RE S p.1, RE S p.2)) σ H Q := by
  intro p np
  have e0 := E.self.lay (o := .dK []) np
  have hω : some p ≠ ω := fun z => by
    obtain ⟨_, _, _, _, h, _⟩ := E.ext.dr p z.symm
    rw [np] at h; cases h
  refine hs ω G0 H0 σ G _ _ _ (E.step e0) hm fun es vs G2 H2 hP e2 r2 l2 => ?_
  obtain ⟨kvs, rfl, r2⟩ := r2
  have hp2 : H2 p = some (.dK []) := e2.hh p _ hω upd_same
  have gp2 : G2 p = none := e2.fr p _ upd_same (E.ext.le.none np)
  have hl := r2.length
  have hm2 := mergeD_len es []
  refine ⟨hp2, kvs, rfl, by omega, ?_⟩
  exact q _ p _ _ G2 _ hP rfl ((e0.trans e2).poke np gp2 hω) np gp2 upd_same (merge_rel r2 .nil) (by
    have : (15 : Nat) ≤ sizeLine := by rw [sizeLine_eq]; decide
    simp at hm2
    omega) hω
theorem we_disp {keys : List (Option Expr)} {values : List Expr} (ps : List (Expr × Expr)) {ms : M (List (D × D))} (hs : WP S Γ ps ms) (hk : keys = ps.map (fun p => some p.1) := by rfl) (hv : values = ps.map (·.2) := by rfl) (h15 : ps.length ≤ 15 := by decide) (h0 : ps ≠ [] := by intro z; cases z) :
    WE S Γ (.Dict keys values pos) (ms.bind fun es => M.pure (.dict (mergeD [] es))) := by
  subst hk hv
  intro ω G0 H0 σ G H P Q E hm q
  refine ⟨_, fun X hX => pe_disp (wp_pps hX ps) (by simp) (by simp) (by simpa using h0) (by simpa using h15), ?_⟩
  refine disp_go hs h15 E hm fun d p kvs es G2 H2 hP hd e2 h1 h2 h3 r2 hl hω => ?_
  subst hd
  refine q _ _ (upd G2 p (.dK kvs)) _ hP (e2.frz h1 h3 (fun _ _ z => nomatch z) h2 hω) (.dK upd_same (RpK.le (fun c u e => ?_) _ r2) hl)
  rw [upd_ne (ne_of_none e h2)]; exact e
theorem wf_disp {keys : List (Option Expr)} {values : List Expr} (ps : List (Expr × Expr)) {ms : M (List (D × D))} (hs : WP S Γ ps ms) (hk : keys = ps.map (fun p => some p.1) := by rfl) (hv : values = ps.map (·.2) := by rfl) (h15 : ps.length ≤ 15 := by decide) (h0 : ps ≠ [] := by intro z; cases z) :
    WF S Γ (.Dict keys values pos) (ms.bind fun es => M.pure (.dict (mergeD [] es))) := by
  subst hk hv
  intro ω G0 H0 σ G H P Q E hm q
  refine ⟨_, fun X hX => pe_disp (wp_pps hX ps) (by simp) (by simp) (by simpa using h0) (by simpa using h15), ?_⟩
  refine disp_go hs h15 E hm fun d p kvs es G2 H2 hP hd e2 h1 h2 h3 r2 hl hω => ?_
  subst hd
  exact q _ p _ G2 H2 hP e2 h1 h2 h3 (.dK r2 hl)
end
end Wp
namespace Wp
open PySem PySem.Spec PyProof.Rows L2

/-! ### list comprehensions of one's own -/
section
variable {S : Sg} {Γ : En} {e a b c elt tg iter : Expr} {ifs : List Expr} {m ma mb mc : M D} {ms : M (List D)} {pos : Pos} {scope : Scope} {own : List (Str × Nat)} {α : Type} {dec : D → M α} {g : α → En → En} {ts : List Nat} {tc : α → M Bool} {f : α → M D}
theorem lc_goF {wi : TI} (hg : WG (S.blk scope) tg dec g ts) (hts : ∀ i ∈ ts, i ∈ own.map (·.2)) (ht : ∀ a, WTs (S.blk scope) (g a (wipeE Γ (own.map (·.2)))) ifs (tc a)) (he : ∀ a, WE (S.blk scope) (g a (wipeE Γ (own.map (·.2)))) elt (f a))
    {ω : Option Addr} {G0 H0 : Hp} {σ : L2.St} {G HB : Hp} {P : D → Prop} {Q : VK} (E : EnvOk ω S.K G0 H0 Γ σ G HB)
    (hi : ∀ (P' : List D → Prop) (R : It → Hp → Prop), ms P' → (∀ ds J G' H', P' ds → Ext ω S.K G HB G' H' → ItOk ω S.K (aOf ω true) J ds G' H' → R J H') → wi σ HB R) (hm : (ms.bind fun xs => (M.filM (turnM dec tc f) xs).bind fun ys => M.pure (.list ys)) P)
    (q : ∀ d p u G' H', P d → Ext ω S.K G HB G' H' → HB p = none → G' p = none → H' p = some u → RpO S.K G' u d → Q (.ref p) H') : tLc wi (RG (S.blk scope) tg) (RTs (S.blk scope) ifs) (RE (S.blk scope) elt) (own.map (·.2)) σ HB Q := by
  generalize hvs : own.map (·.2) = vs at *
  refine hi _ _ hm fun ds J G1 H1 hP e1 it => ?_
  intro Dd nD
  have hω : some Dd ≠ ω := fun z => by
    obtain ⟨_, _, _, _, h, _⟩ := e1.dr Dd z.symm
    rw [nD] at h; cases h
  refine ⟨fun i m H => m = ds.length - i ∧ i ≤ ds.length ∧ ∃ Gc acc ads, Ext ω S.K G1 H1 Gc H ∧ H Dd = some (.lst acc) ∧ Gc Dd = none ∧ RpA S.K Gc acc ads ∧ ads.length ≤ i ∧ M.filM (turnM dec tc f) (ds.drop i) (fun ys => P (.list (ads ++ ys))),
    ⟨ds.length, by simp, Nat.zero_le _, G1, [], [], e1.self.lay nD, upd_same, e1.le.none nD, .nil, Nat.le_refl _, hP⟩, ?_⟩
  rintro i m H ⟨rfl, hi', Gc, acc, ads, x1, hD, gD, ra, la, wp⟩
  have ge : ∀ a u, aOf ω true a → H1 a = some u → H a = some u := fun a u h => x1.hh a u h.2
  by_cases hlt : i < ds.length
  · refine .inr ⟨it.go i Gc H x1.gg x1.self ge hlt, fun H => ∃ Gc acc ads, Ext ω S.K G1 H1 Gc H ∧ H Dd = some (.lst acc) ∧ Gc Dd = none ∧ RpA S.K Gc acc ads ∧ ads.length ≤ i + 1 ∧ M.filM (turnM dec tc f) (ds.drop (i + 1)) (fun ys => P (.list (ads ++ ys))), fun H' hN => ⟨ds.length - (i + 1), by omega, rfl, hlt, hN⟩, fun v H' y => ?_⟩
    obtain ⟨G2, e2, r2⟩ := it.yld i Gc H v H' hlt x1.gg x1.self ge y
    have E2 : EnvOk ω S.K G0 H0 (wipeE Γ vs) (L2.wipe σ vs) G2 H' := (E.step (e1.trans (x1.trans e2))).wipe vs
    rw [List.drop_eq_getElem_cons hlt] at wp
    refine hg ω G0 H0 (wipeE Γ vs) (L2.wipe σ vs) G2 H' v ds[i] _ _ E2 r2 wp fun a σ2 ha E3 hw => ⟨(hw vs hts).trans wipe_wipe, ?_⟩
    refine ht a ω G0 H0 σ2 G2 H' _ _ E3 ha fun b G4 H4 hb e4 => ?_
    have x4 : Ext ω S.K G1 H1 G4 H4 := (x1.trans e2).trans e4
    have hD4 : H4 Dd = some (.lst acc) := e4.hh _ _ hω (e2.hh _ _ hω hD)
    have gD4 : G4 Dd = none := e4.fr _ _ (e2.hh _ _ hω hD) (e2.fr _ _ hD gD)
    have ra4 : RpA S.K G4 acc ads := (ra.ext e2).ext e4
    cases b with
    | false =>
      rw [if_neg Bool.false_ne_true]
      exact ⟨G4, acc, ads, x4, hD4, gD4, ra4, by omega, hb⟩
    | true =>
      rw [if_pos rfl]
      refine he a ω G0 H0 σ2 G4 H4 _ _ (E3.step e4) hb fun y v5 G5 H5 hy e5 r5 => ?_
      have hD5 := e5.hh _ _ hω hD4
      have gD5 := e5.fr _ _ hD4 gD4
      refine ⟨acc, hD5, ?_, G5, acc ++ [v5], ads ++ [y], (x4.trans e5).poke nD gD5 hω, upd_same, gD5, (ra4.ext e5).append (.cons r5 .nil), by simp; omega, ?_⟩
      · have := ra.length
        have := it.ln
        omega
      · have z : (fun ys => P (.list ((ads ++ [y]) ++ ys))) = fun ys => P (.list (ads ++ y :: ys)) := by funext ys; simp
        rw [z]; exact hy
  · have ei : i = ds.length := by omega
    subst ei
    rw [List.drop_length] at wp
    have wp' : P (.list (ads ++ [])) := wp
    rw [List.append_nil] at wp'
    have hDn : HB Dd = none := by
      cases q : HB Dd with
      | none => rfl
      | some u => have := e1.hh Dd u hω q; rw [nD] at this; cases this
    exact .inl ⟨it.stop Gc H x1.gg x1.self ge, q _ Dd _ Gc H wp' (e1.trans x1) hDn gD hD (.lst ra (Nat.le_trans la it.ln))⟩
theorem wf_lcif (hi : WI S Γ true tg iter ms) (ok : blkC S.N S.sc scope own = true) (hg : WG (S.blk scope) tg dec g ts) (hts : ∀ i ∈ ts, i ∈ own.map (·.2)) (ht : ∀ a, WT (S.blk scope) (g a (wipeE Γ (own.map (·.2)))) c (tc a)) (he : ∀ a, WE (S.blk scope) (g a (wipeE Γ (own.map (·.2)))) elt (f a))
    (hs : ∀ env x, foldedSetIterable iter env x = pure x := by intro _ _; rfl) :
    WF S Γ (.ListComp elt [⟨tg, iter, [c], 0⟩] scope pos) (ms.bind fun xs => (M.filM (fun x => (dec x).bind fun a => (tc a).bind fun b => bif b then (f a).bind fun y => M.pure (some y) else M.pure none) xs).bind fun ys => M.pure (.list ys)) := by
  intro ω G0 H0 σ G H P Q E hm q
  exact ⟨_, fun X hX => pe_lc hX.calm (by rw [hX.N]; exact hX.nd) (RI.pi hX tg iter) (blkOk_by (own := own) (by rw [hX.N, hX.sc]; exact ok)) (fun s H C cl fp => RG.pg (hX.blk s H scope C cl fp) tg) (fun s H C cl fp => RTs.pts (hX.blk s H scope C cl fp) [c]) (fun s H C cl fp => RE.pe (hX.blk s H scope C cl fp) elt) (hs _),
    lc_goF hg hts (fun a => wts_one (ht a)) he E (fun P' R h1 h2 => hi ω G0 H0 σ G H P' R E h1 h2) hm q⟩
theorem lcM_eq {f : α → M D} : (ms.bind fun xs => (M.filM (turnM dec (fun _ => M.pure true) f) xs).bind fun ys => M.pure (PyData.list ys)) = ms.bind fun xs => (M.mapM (fun x => (dec x).bind fun a => f a) xs).bind fun ys => M.pure (PyData.list ys) := by
  have z : (fun xs => (M.filM (turnM dec (fun _ => M.pure true) f) xs).bind fun ys => M.pure (PyData.list ys)) = fun xs => (M.mapM (fun x => (dec x).bind fun a => f a) xs).bind fun ys => M.pure (PyData.list ys) := by
    funext xs; rw [mapM_eq]
  rw [z]
theorem wf_lc (hi : WI S Γ true tg iter ms) (ok : blkC S.N S.sc scope own = true) (hg : WG (S.blk scope) tg dec g ts) (hts : ∀ i ∈ ts, i ∈ own.map (·.2)) (he : ∀ a, WE (S.blk scope) (g a (wipeE Γ (own.map (·.2)))) elt (f a))
    (hs : ∀ env x, foldedSetIterable iter env x = pure x := by intro _ _; rfl) :
    WF S Γ (.ListComp elt [⟨tg, iter, [], 0⟩] scope pos) (ms.bind fun xs => (M.mapM (fun x => (dec x).bind fun a => f a) xs).bind fun ys => M.pure (.list ys)) := by
  intro ω G0 H0 σ G H P Q E hm q
  refine ⟨_, fun X hX => pe_lc hX.calm (by rw [hX.N]; exact hX.nd) (RI.pi hX tg iter) (blkOk_by (own := own) (by rw [hX.N, hX.sc]; exact ok)) (fun s H C cl fp => RG.pg (hX.blk s H scope C cl fp) tg) (fun s H C cl fp => RTs.pts (hX.blk s H scope C cl fp) []) (fun s H C cl fp => RE.pe (hX.blk s H scope C cl fp) elt) (hs _),
    lc_goF hg hts (tc := fun _ => M.pure true) (fun a => wts_nil) he E (fun P' R h1 h2 => hi ω G0 H0 σ G H P' R E h1 h2) ?_ q⟩
  rw [lcM_eq]; exact hm
theorem w_setLcF {ρ : Type} {ι : ρ → Out} {k : D → M ρ} {i : Nat} {y : Str} {rest : List Stmt} {py spos : Pos} (hy : SetAt S i y) (sw : SwapAt S y scope) (hi : WI S Γ true tg iter ms) (ok : blkC S.N S.sc scope own = true) (hg : WG (S.blk scope) tg dec g ts) (hts : ∀ i ∈ ts, i ∈ own.map (·.2)) (he : ∀ a, WE (S.blk scope) (g a (wipeE Γ (own.map (·.2)))) elt (f a))
    (hk : ∀ d, W S (Γ.set i (some (.own d))) rest (k d) ι) (hs : ∀ env x, foldedSetIterable iter env x = pure x := by intro _ _; rfl) (hl : (py.line == pos.line) = true := by rfl) :
    W S Γ (.Assign [.Name y py] (.ListComp elt [⟨tg, iter, [], 0⟩] scope pos) spos :: rest) ((ms.bind fun xs => (M.mapM (fun x => (dec x).bind fun a => f a) xs).bind fun ys => M.pure (.list ys)).bind k) ι := by
  intro ω G0 H0 σ G H P Dn E hm q
  refine rs_cons (fun X hX => ps_setLc (i := i) hX.calm (by rw [hX.N]; exact hX.nd) (by rw [hX.N]; exact hy.n) (by rw [hX.sc]; exact sw.l) (sw_true (by rw [hX.sc]; exact sw.k) (by rw [hX.sc]; exact sw.l) hl sw.s) (RI.pi hX tg iter) (blkOk_by (own := own) (by rw [hX.N, hX.sc]; exact ok)) (fun s H C cl fp => RG.pg (hX.blk s H scope C cl fp) tg) (fun s H C cl fp => RTs.pts (hX.blk s H scope C cl fp) []) (fun s H C cl fp => RE.pe (hX.blk s H scope C cl fp) elt) (hs _)) ?_
  refine lc_goF hg hts (tc := fun _ => M.pure true) (P := fun d => k d P) (fun a => wts_nil) he E (fun P' R h1 h2 => hi ω G0 H0 σ G H P' R E h1 h2) ?_ fun d p u G1 H1 hP e1 h1 h2 h3 r1 => hk d ω G0 H0 _ G1 H1 P Dn (E.putO e1 h1 h2 h3 r1) hP q
  rw [lcM_eq]; exact hm
theorem w_setLcifF {ρ : Type} {ι : ρ → Out} {k : D → M ρ} {i : Nat} {y : Str} {rest : List Stmt} {py spos : Pos} (hy : SetAt S i y) (sw : SwapAt S y scope) (hi : WI S Γ true tg iter ms) (ok : blkC S.N S.sc scope own = true) (hg : WG (S.blk scope) tg dec g ts) (hts : ∀ i ∈ ts, i ∈ own.map (·.2)) (ht : ∀ a, WT (S.blk scope) (g a (wipeE Γ (own.map (·.2)))) c (tc a)) (he : ∀ a, WE (S.blk scope) (g a (wipeE Γ (own.map (·.2)))) elt (f a))
    (hk : ∀ d, W S (Γ.set i (some (.own d))) rest (k d) ι) (hs : ∀ env x, foldedSetIterable iter env x = pure x := by intro _ _; rfl) (hl : (py.line == pos.line) = true := by rfl) :
    W S Γ (.Assign [.Name y py] (.ListComp elt [⟨tg, iter, [c], 0⟩] scope pos) spos :: rest) ((ms.bind fun xs => (M.filM (fun x => (dec x).bind fun a => (tc a).bind fun b => bif b then (f a).bind fun y => M.pure (some y) else M.pure none) xs).bind fun ys => M.pure (.list ys)).bind k) ι := by
  intro ω G0 H0 σ G H P Dn E hm q
  refine rs_cons (fun X hX => ps_setLc (i := i) hX.calm (by rw [hX.N]; exact hX.nd) (by rw [hX.N]; exact hy.n) (by rw [hX.sc]; exact sw.l) (sw_true (by rw [hX.sc]; exact sw.k) (by rw [hX.sc]; exact sw.l) hl sw.s) (RI.pi hX tg iter) (blkOk_by (own := own) (by rw [hX.N, hX.sc]; exact ok)) (fun s H C cl fp => RG.pg (hX.blk s H scope C cl fp) tg) (fun s H C cl fp => RTs.pts (hX.blk s H scope C cl fp) [c]) (fun s H C cl fp => RE.pe (hX.blk s H scope C cl fp) elt) (hs _)) ?_
  exact lc_goF hg hts (P := fun d => k d P) (fun a => wts_one (ht a)) he E (fun P' R h1 h2 => hi ω G0 H0 σ G H P' R E h1 h2) hm fun d p u G1 H1 hP e1 h1 h2 h3 r1 => hk d ω G0 H0 _ G1 H1 P Dn (E.putO e1 h1 h2 h3 r1) hP q
end

/-! ### calls that give something new -/
def C1F (S : Sg) (g : Value) (f : D → M D) : Prop := ∀ (ω : Option Addr) (G H : Hp) (x : D) (v : V) (P : D → Prop) (Q : VK), Ext ω S.K G H G H → Rb ω S.K G H v x → f x P →
  (∀ d p u G' H', P d → Ext ω S.K G H G' H' → H p = none → G' p = none → H' p = some u → RpO S.K G' u d → Q (.ref p) H') → RCall S g [v] H Q
section
variable {S : Sg} {Γ : En} {a b : Expr} {ma mb : M D} {pos : Pos}
theorem EnvOk.back {ω : Option Addr} {K : PySem.W.Frag} {G H G1 H1 : Hp} {p : Addr} (e : Ext ω K G H G1 H1) (hp : H1 p = none) : H p = none := by
  cases q : H p with
  | none => rfl
  | some u =>
    by_cases hω : some p = ω
    · obtain ⟨_, _, _, _, h, _⟩ := e.dr p hω.symm
      rw [hp] at h; cases h
    · have := e.hh p u hω q; rw [hp] at this; cases this
theorem wf_c1T {T : String} {x : Str} {p : Pos} {f : D → M D} (hb : BltAt S x (.type T)) (ho : C1F S (.type T) f) (ha : WB S Γ a ma) (he : ∀ env, starEach [a] env = (false, eval a env) :: starEach [] env := by intro _; rfl)
    : WF S Γ (.Call (.Name x p) [a] [] pos) (ma.bind fun x => f x) := by
  intro ω G0 H0 σ G H P Q E hm q
  refine ⟨_, fun X hX => pe_callTy (RCall.call hX _) (gl_of hX hb.g) (by rw [hX.mg]; exact hb.m) hb.v (pa_cons (RE.pe hX a) pa_nil (he _)) hb.n hb.d (he _) rfl, ?_⟩
  refine ha ω G0 H0 σ G H _ _ E hm fun x v G' H' hf e r1 => ?_
  exact ho ω G' H' x v P Q e.self r1 hf fun d p u G2 H2 hP e2 h1 h2 h3 r => q d p u G2 H2 hP (e.trans e2) (EnvOk.back e h1) h2 h3 r
theorem wf_c1B {id : String} {x : Str} {p : Pos} {f : D → M D} (hb : BltAt S x (.builtin id)) (ho : C1F S (.builtin id) f) (ha : WB S Γ a ma) (he : ∀ env, starEach [a] env = (false, eval a env) :: starEach [] env := by intro _; rfl)
    : WF S Γ (.Call (.Name x p) [a] [] pos) (ma.bind fun x => f x) := by
  intro ω G0 H0 σ G H P Q E hm q
  refine ⟨_, fun X hX => pe_callB (RCall.call hX _) (gl_of hX hb.g) (by rw [hX.mg]; exact hb.m) hb.v (pa_cons (RE.pe hX a) pa_nil (he _)) hb.n hb.d (he _) rfl, ?_⟩
  refine ha ω G0 H0 σ G H _ _ E hm fun x v G' H' hf e r1 => ?_
  exact ho ω G' H' x v P Q e.self r1 hf fun d p u G2 H2 hP e2 h1 h2 h3 r => q d p u G2 H2 hP (e.trans e2) (EnvOk.back e h1) h2 h3 r
theorem list_okF : C1F S (.type "list") listD := by
  intro ω G H x v P Q e rx hf q
  cases x with
  | list ds =>
    obtain ⟨a, as, rfl, s1, r1, z⟩ := rx.list e.le
    refine ⟨fun xs H Q => ∃ p ys, xs = [.ref p] ∧ (SqL S.K H p ys ∨ SqT S.K H p ys) ∧ ∀ l, H l = none → Q (.ref l) (upd H l (.lst ys)), fun X hX => hX.K ▸ call_list_of, a, as, rfl, .inl (.inl s1), fun p np => ?_⟩
    exact q _ p _ G _ hf (e.lay np) np (e.le.none np) upd_same (.lst r1 z)
  | tuple ds =>
    obtain ⟨a, as, rfl, s1, r1, z⟩ := rx.tup e.le
    refine ⟨fun xs H Q => ∃ p ys, xs = [.ref p] ∧ (SqL S.K H p ys ∨ SqT S.K H p ys) ∧ ∀ l, H l = none → Q (.ref l) (upd H l (.lst ys)), fun X hX => hX.K ▸ call_list_of, a, as, rfl, .inr s1, fun p np => ?_⟩
    exact q _ p _ G _ hf (e.lay np) np (e.le.none np) upd_same (.lst r1 z)
  | _ => exact hf.elim
/-- dict(x), x a list of pairs or a dict -/
def dict2D : D → M D
  | .list ds => dictD (.list ds)
  | .dict es => M.need (marked es = false) (M.pure (.dict es))
  | _ => M.fail
theorem dict2_okF : C1F S (.type "dict") dict2D := by
  intro ω G H x v P Q e rx hf q
  cases x with
  | list ds =>
    obtain ⟨ps, h1, hf⟩ := hf
    obtain ⟨a, as, rfl, s1, r1, z⟩ := rx.list e.le
    obtain ⟨bs, kvs, rfl, h2, h3⟩ := pairs_rel (ω := ω) e.le r1 h1
    refine ⟨fun xs H Q => ∃ (a : Addr) (ps : List Addr) (kvs : List (Key × V)), xs = [.ref a] ∧ SqL S.K H a (ps.map V.ref) ∧ Paired (fun p kv => SqT S.K H p [kV kv.1, kv.2]) ps kvs ∧
      ∀ p, H p = none → Q (.ref p) (upd H p (.dK (mergeK [] kvs))), fun X hX => hX.K ▸ call_dictP hX.calm, a, bs, kvs, rfl, .inl s1, h2, fun p np => ?_⟩
    have hl := h3.length
    have hl2 := Paired.length h2
    have hl3 := r1.length
    refine q _ p _ G _ hf (e.lay np) np (e.le.none np) upd_same (.dK (merge_rel h3 .nil) ?_)
    have := mergeD_len ps []
    rw [List.length_map] at hl3
    simp at this
    omega
  | dict es =>
    obtain ⟨hm, hf⟩ := hf
    obtain ⟨a, rfl, z, ⟨kvs, s1, r1⟩ | ⟨kvs, es', rfl, _, _⟩⟩ := noT rx e.le
    · exact ⟨_, fun X hX => call_dictD, a, kvs, rfl, s1, fun p np => q _ p _ G _ hf (e.lay np) np (e.le.none np) upd_same (.dK r1 z)⟩
    · simp [marked] at hm
  | _ => exact hf.elim
theorem dict2_ok : C1Ok S (.type "dict") dict2D := by
  intro ω G H x v P Q e rx hf q
  cases x with
  | list ds => exact dict_ok ω G H _ v P Q e rx hf q
  | dict es =>
    obtain ⟨hm, hf⟩ := hf
    obtain ⟨a, rfl, z, ⟨kvs, s1, r1⟩ | ⟨kvs, es', rfl, _, _⟩⟩ := noT rx e.le
    · refine ⟨_, fun X hX => call_dictD, a, kvs, rfl, s1, fun p np => ?_⟩
      have e2 := e.new (o := .dK kvs) np
      exact q _ _ _ _ hf e2 (.dK upd_same (RpK.le e2.gg _ r1) z)
    · simp [marked] at hm
  | _ => exact hf.elim
theorem sorted_okF : C1F S (.builtin "sorted") sortedD := by
  intro ω G H x v P Q e rx hf q
  cases x with
  | list ds =>
    obtain ⟨hs, hf⟩ := hf
    obtain ⟨a, as, rfl, s1, r1, z⟩ := rx.list e.le
    refine ⟨fun xs H Q => ∃ a G ds ys, xs = [.ref a] ∧ Rd H a (.lst ys) ∧ Le G H ∧ RpA S.K G ys ds ∧ sortable ds = true ∧ ∀ p zs, H p = none → RpA S.K G zs (sortL ds) → Q (.ref p) (upd H p (.lst zs)), fun X hX => hX.K ▸ call_sortedL hX.room, a, G, ds, as, rfl, s1, e.le, r1, hs, fun p zs np rz => ?_⟩
    exact q _ p _ G _ hf (e.lay np) np (e.le.none np) upd_same (.lst rz (by rw [sortL_len]; exact z))
  | dict es =>
    obtain ⟨⟨hm, hs⟩, hf⟩ := hf
    obtain ⟨a, rfl, z, ⟨kvs, s1, r1⟩ | ⟨kvs, es', rfl, _, _⟩⟩ := noT rx e.le
    · refine ⟨fun xs H Q => ∃ a G es kvs, xs = [.ref a] ∧ Rd H a (.dK kvs) ∧ Le G H ∧ RpK S.K G kvs es ∧ sortable (es.map (·.1)) = true ∧ ∀ p zs, H p = none → RpA S.K G zs (sortL (es.map (·.1))) → Q (.ref p) (upd H p (.lst zs)), fun X hX => hX.K ▸ call_sortedK hX.calm hX.room, a, G, es, kvs, rfl, s1, e.le, r1, hs, fun p zs np rz => ?_⟩
      exact q _ p _ G _ hf (e.lay np) np (e.le.none np) upd_same (.lst rz (by rw [sortL_len, List.length_map]; exact z))
    · simp [marked] at hm
  | _ => exact hf.elim
/-- xs + ys, new -/
def OpF (S : Sg) (g : Value → Value → Sem Value) (f : D → D → M D) : Prop := ∀ (ω : Option Addr) (G H : Hp) (x y : D) (v u : V) (P : D → Prop) (Q : VK), Ext ω S.K G H G H → Rb ω S.K G H v x → Rb ω S.K G H u y → f x y P →
  (∀ d p u G' H', P d → Ext ω S.K G H G' H' → H p = none → G' p = none → H' p = some u → RpO S.K G' u d → Q (.ref p) H') → ROp S g v u H Q
theorem wf_op {op : Operator} {f : D → D → M D} (ho : OpF S (binaryOp op) f) (ha : WB S Γ a ma) (hb : WB S Γ b mb) : WF S Γ (.BinOp a op b pos) (ma.bind fun x => mb.bind fun y => f x y) := by
  intro ω G0 H0 σ G H P Q E hm q
  refine ⟨_, fun X hX => pe_op (ROp.op hX _) (RE.pe hX a) (RE.pe hX b), two ha hb E hm fun x y v u G' H' e r1 r2 hf => ?_⟩
  exact ho ω G' H' x y v u P Q e.self r1 r2 hf fun d p u G2 H2 hP e2 h1 h2 h3 r => q d p u G2 H2 hP (e.trans e2) (EnvOk.back e h1) h2 h3 r
def addLD : D → D → M D
  | .list xs, .list ys => M.need (xs.length + ys.length ≤ 16777216) (M.pure (.list (xs ++ ys)))
  | _, _ => M.fail
theorem add_okF : OpF S (binaryOp .Add) addLD := by
  intro ω G H x y v u P Q e rx ry hf q
  cases x with
  | list xs => cases y with
    | list ys =>
      obtain ⟨a, as, rfl, s1, r1, _⟩ := rx.list e.le
      obtain ⟨b, bs, rfl, s2, r2, _⟩ := ry.list e.le
      have z := line_le hf.1
      refine ⟨_, fun X hX => op_catL, a, b, as, bs, rfl, rfl, s1, s2, by rw [r1.length, r2.length]; exact z, fun p np => ?_⟩
      exact q _ p _ G _ hf.2 (e.lay np) np (e.le.none np) upd_same (.lst (r1.append r2) (by rw [List.length_append]; exact z))
    | _ => exact hf.elim
  | _ => exact hf.elim
def mulLD : D → D → M D
  | .list xs, .int k => M.need (-1000000 ≤ k ∧ k ≤ 1000000 ∧ xs.length * k.toNat ≤ 16777216) (M.pure (.list (List.replicate k.toNat xs).flatten))
  | _, _ => M.fail
theorem mul_okF : OpF S (binaryOp .Mult) mulLD := by
  intro ω G H x y v u P Q e rx ry hf q
  cases x with
  | list xs => cases y with
    | int k =>
      cases ry.int
      obtain ⟨a, as, rfl, s1, r1, _⟩ := rx.list e.le
      obtain ⟨⟨h1, h2, h3⟩, hf⟩ := hf
      have hl := r1.length
      have z := line_le h3
      refine ⟨_, fun X hX => op_repL, a, k, as, rfl, rfl, s1, by omega, by omega, by rw [hl]; exact z, fun p np => ?_⟩
      exact q _ p _ G _ hf (e.lay np) np (e.le.none np) upd_same (.lst (r1.rep k.toNat) (by rw [PyProof.Rows.lm_len_rep_flat, Nat.mul_comm]; exact z))
    | _ => exact hf.elim
  | _ => exact hf.elim
end
end Wp
namespace Wp
open PySem PySem.Spec PyProof.Rows L2

/-! ### the least and the greatest of data -/
def alikeL (ds : List D) : Bool := (ds.all fun x => ds.all fun y => PySem.W.alike x y) && (ds.all fun d => match d with | .none => false | _ => true) && shA 16 ds
def minL : List D → D
  | [] => .none
  | x :: xs => PySem.W.minD x xs
def maxL : List D → D
  | [] => .none
  | x :: xs => PySem.W.maxD x xs
def seqOf : D → M (List D)
  | .list ds => M.pure ds
  | .tuple ds => M.pure ds
  | _ => M.fail
def min1D (x : D) : M D := (seqOf x).bind fun ds => M.need (alikeL ds = true ∧ ds ≠ []) (M.pure (minL ds))
def max1D (x : D) : M D := (seqOf x).bind fun ds => M.need (alikeL ds = true ∧ ds ≠ []) (M.pure (maxL ds))
theorem alikeL_ok {ds : List D} (h : alikeL ds = true) : PySem.W.AlikeAll ds ∧ PyData.canLayAll0 ds = true ∧ PyData.depthAll ds ≤ 16 := by
  unfold alikeL at h
  rw [Bool.and_eq_true, Bool.and_eq_true] at h
  obtain ⟨⟨h1, h2⟩, h3⟩ := h
  rw [List.all_eq_true] at h1 h2
  refine ⟨⟨fun x hx y hy => ?_, fun x hx e => ?_⟩, shA_lay ds 16 h3⟩
  · have := h1 x hx
    rw [List.all_eq_true] at this
    exact this y hy
  · subst e
    have := h2 _ hx
    simp at this
section
variable {S : Sg}
theorem vals_get : ∀ {xs : List V} {us : List Value} {i : Nat} {u : Value}, Vals xs us → us[i]? = some u → ∃ x, xs[i]? = some x ∧ RelV x u
  | _, _, _, _, .nil, e => by simp at e
  | _, _, 0, _, .cons r _, e => by simp at e; subst e; exact ⟨_, rfl, r⟩
  | _, _, i + 1, u, .cons _ t, e => by
    obtain ⟨x, h1, h2⟩ := vals_get (i := i) (u := u) t (by simpa using e)
    exact ⟨x, by simpa using h1, h2⟩
theorem pick_of {X : Cx} {pins : List (Addr × Obj)} {σ : L2.St} {G H : Hp} {s : Shared} (I : L2.Inv X pins σ H s) (l : Le G H) {ds : List D} {ys : List V} {its : List Value} (ra : RpA X.K G ys ds) (rv : Vals ys its) (hc : PyData.canLayAll0 ds = true) {i : Nat} {v : Value} {m : D} {bs : List Addr} {h' : Heap}
    (e : its.toArray[i]? = some v) (r : Reads h' v m bs) (k : ∀ b o, s.heap.get? b = some o → h'.get? b = some o) : ∃ y, RelV y v ∧ Rp X.K G y m := by
  have e' : its[i]? = some v := by simpa using e
  obtain ⟨y, hy, ry⟩ := vals_get rv e'
  obtain ⟨d, hd, rd⟩ := ra.get hy
  have hm : d ∈ ds := List.mem_of_getElem? hd
  have hcd : PyData.canLay0 d = true := by
    have : ∀ (xs : List D), PyData.canLayAll0 xs = true → d ∈ xs → PyData.canLay0 d = true := by
      intro xs
      induction xs with
      | nil => intro _ h; cases h
      | cons x xs ih =>
        intro h hx
        have h' : x.canLay0 = true ∧ PyData.canLayAll0 xs = true := by simpa [PyData.canLayAll0] using h
        rcases List.mem_cons.mp hx with rfl | hx
        · exact h'.1
        · exact ih h'.2 hx
    exact this ds hc hm
  obtain ⟨as, h1⟩ := Dp.reads I d y v (rd.dp l d hcd) ry
  have h2 := PySem.W.reads_keeps k h1
  have := (Reads.unique h2 _ _ r).1
  subst this
  exact ⟨y, ry, rd⟩
def rBest (best : List D → D) (K : PySem.W.Frag) : List V → Hp → VK → Prop := fun xs H Q => ∃ a G ds ys, xs = [.ref a] ∧ ((Rd H a (.lst ys)) ∨ SqT K H a ys) ∧ Le G H ∧ RpA K G ys ds ∧ alikeL ds = true ∧ ds ≠ [] ∧ ∀ y, Rp K G y (best ds) → Q y H
theorem call_minS {X : Cx} {k : Nat} (hc : X.calm = true) (hr : Room k X.A) : CallR X (.builtin "min") (rBest minL X.K) := by
  intro pins s σ H xs us Q I r h
  obtain ⟨a, G, ds, ys, rfl, hs, l, ra, hal, hne, q⟩ := h
  obtain ⟨h1, h2, h3⟩ := alikeL_ok hal
  rw [Vals.ref1 r]
  have hu : X.A.units + 1 + PyData.depthAll ds < cLine := by have := hr.un; omega
  match ds, hne, ra, h1, h2, h3, hu, q with
  | d :: ds, _, ra, h1, h2, h3, hu, q =>
    rcases hs with hs | hs
    · obtain ⟨its, rv, hl, hlen⟩ := I.list (.inl hs)
      obtain ⟨as, hr⟩ := Dp.readsAll I (d :: ds) ys its (ra.dp l _ h2) rv
      refine PySem.W.min_list_data (I.ok.hd hc) hl.isList hr h1 hu fun i v h' tk bs e r k => ?_
      obtain ⟨y, ry, rp⟩ := pick_of I l ra rv h2 e r k
      exact ⟨y, H, I.kept k, ry, q y rp⟩
    · obtain ⟨its, rv, hl, hlen⟩ := I.tuple hs
      obtain ⟨as, hr⟩ := Dp.readsAll I (d :: ds) ys its (ra.dp l _ h2) rv
      refine PySem.W.min_tuple_data (I.ok.hd hc) hl hr h1 hu fun i v h' tk bs e r k => ?_
      obtain ⟨y, ry, rp⟩ := pick_of I l ra rv h2 e r k
      exact ⟨y, H, I.kept k, ry, q y rp⟩
theorem call_maxS {X : Cx} {k : Nat} (hc : X.calm = true) (hr : Room k X.A) : CallR X (.builtin "max") (rBest maxL X.K) := by
  intro pins s σ H xs us Q I r h
  obtain ⟨a, G, ds, ys, rfl, hs, l, ra, hal, hne, q⟩ := h
  obtain ⟨h1, h2, h3⟩ := alikeL_ok hal
  rw [Vals.ref1 r]
  have hu : X.A.units + 1 + PyData.depthAll ds < cLine := by have := hr.un; omega
  match ds, hne, ra, h1, h2, h3, hu, q with
  | d :: ds, _, ra, h1, h2, h3, hu, q =>
    rcases hs with hs | hs
    · obtain ⟨its, rv, hl, hlen⟩ := I.list (.inl hs)
      obtain ⟨as, hr⟩ := Dp.readsAll I (d :: ds) ys its (ra.dp l _ h2) rv
      refine PySem.W.max_list_data (I.ok.hd hc) hl.isList hr h1 hu fun i v h' tk bs e r k => ?_
      obtain ⟨y, ry, rp⟩ := pick_of I l ra rv h2 e r k
      exact ⟨y, H, I.kept k, ry, q y rp⟩
    · obtain ⟨its, rv, hl, hlen⟩ := I.tuple hs
      obtain ⟨as, hr⟩ := Dp.readsAll I (d :: ds) ys its (ra.dp l _ h2) rv
      refine PySem.W.max_tuple_data (I.ok.hd hc) hl hr h1 hu fun i v h' tk bs e r k => ?_
      obtain ⟨y, ry, rp⟩ := pick_of I l ra rv h2 e r k
      exact ⟨y, H, I.kept k, ry, q y rp⟩
theorem best_ok {id : String} {best : List D → D} (hc : ∀ X : Cx, S.Of X → CallR X (.builtin id) (rBest best X.K)) : C1Ok S (.builtin id) (fun x => (seqOf x).bind fun ds => M.need (alikeL ds = true ∧ ds ≠ []) (M.pure (best ds))) := by
  intro ω G H x v P Q e rx hf q
  cases x with
  | list ds =>
    obtain ⟨⟨h1, h2⟩, hf⟩ := hf
    obtain ⟨a, as, rfl, s1, r1, z⟩ := rx.list e.le
    exact ⟨rBest best S.K, fun X hX => hX.K ▸ hc X hX, a, G, ds, as, rfl, .inl s1, e.le, r1, h1, h2, fun y ry => q _ _ _ _ hf e ry⟩
  | tuple ds =>
    obtain ⟨⟨h1, h2⟩, hf⟩ := hf
    obtain ⟨a, as, rfl, s1, r1, z⟩ := rx.tup e.le
    exact ⟨rBest best S.K, fun X hX => hX.K ▸ hc X hX, a, G, ds, as, rfl, .inr s1, e.le, r1, h1, h2, fun y ry => q _ _ _ _ hf e ry⟩
  | _ => exact hf.elim
theorem min1_ok : C1Ok S (.builtin "min") min1D := best_ok fun X hX => call_minS hX.calm hX.room
theorem max1_ok : C1Ok S (.builtin "max") max1D := best_ok fun X hX => call_maxS hX.calm hX.room
end
end Wp
namespace Wp
open PySem PySem.Spec PyProof.Rows L2

/-! ### tuple * n for all n -/
theorem tuple_mulS (l : Addr) (items : Array Value) (n : Nat) (dd : Option Addr) (sl : Array (Option Value)) (x : Int) (u : Tok) (c0 : (decide (x < -(2 ^ 63)) || decide (x ≥ 2 ^ 63)) = false) (c1 : (items.isEmpty || x == 1) = true) :
    Meets (Builtin.«tuple.__mul__» ⟨[.ref l, .int x u], []⟩) (fun _ R s => s.heap.get? l = some { cls := .type "tuple", dict := dd, data := .seq items n, slots := sl } ∧
      R (.ok (.ret (Value.ref l))) s) :=
  .of_wp fun prog w A R s h => by
    obtain ⟨hp, g, d, tk, os⟩ := s
    obtain ⟨hl, h⟩ := h
    have f1 := AutoSeq1.idx_int
    wp_walk using wpAny_loadPart' hl
    repeat (first
      | (refine wpAny_ite_false (decide_eq_false (by rw [c0]; exact Bool.false_ne_true)) ?_; wp_walk using wpAny_loadPart' hl)
      | (refine wpAny_ite_true (decide_eq_true (by rw [c1])) ?_; wp_walk using wpAny_loadPart' hl))
    exact ⟨_, rfl, h⟩
theorem tuple_mulZ (l : Addr) (items : Array Value) (n : Nat) (dd : Option Addr) (sl : Array (Option Value)) (x : Int) (u : Tok) (c0 : (decide (x < -(2 ^ 63)) || decide (x ≥ 2 ^ 63)) = false) (c1 : (items.isEmpty || x == 1) = false) (c2 : (decide (x ≤ 0) || items.isEmpty) = true) :
    Meets (Builtin.«tuple.__mul__» ⟨[.ref l, .int x u], []⟩) (fun _ R s => s.heap.get? l = some { cls := .type "tuple", dict := dd, data := .seq items n, slots := sl } ∧
      R (.ok (.ret (Value.ref s.heap.objs.size))) { s with heap := s.heap.push { cls := Value.type "tuple", data := Data.seq #[] }, toks := s.toks }) :=
  .of_wp fun prog w A R s h => by
    obtain ⟨hp, g, d, tk, os⟩ := s
    obtain ⟨hl, h⟩ := h
    have f1 := AutoSeq1.idx_int
    wp_walk using wpAny_loadPart' hl
    repeat (first
      | (refine wpAny_ite_false (decide_eq_false (by rw [c0]; exact Bool.false_ne_true)) ?_; wp_walk using wpAny_loadPart' hl)
      | (refine wpAny_ite_false (decide_eq_false (by rw [c1]; exact Bool.false_ne_true)) ?_; wp_walk using wpAny_loadPart' hl)
      | (refine wpAny_ite_true (decide_eq_true (by rw [c2])) ?_; wp_walk using wpAny_loadPart' hl))
    exact ⟨_, rfl, h⟩
def rRepA (K : PySem.W.Frag) : R2 := fun x y H Q => ∃ l k xs, x = .ref l ∧ y = .int k ∧ SqT K H l xs ∧ -1000 ≤ k ∧ k ≤ 1000 ∧ xs.length ≤ 1000 ∧ ((xs = [] ∨ k = 1) → Q (.ref l) H) ∧
  (xs ≠ [] → k ≠ 1 → ∀ p, H p = none → Q (.ref p) (upd H p (.tup (List.replicate k.toNat xs).flatten)))
theorem op_repA {X : Cx} : OpR X (binaryOp .Mult) (rRepA X.K) := by
  intro pins s σ H x y v u Q I rx ry h
  obtain ⟨l, k, xs, rfl, rfl, hT, h1, h2, hz, q1, q2⟩ := h
  by_cases hb : xs ≠ [] ∧ 2 ≤ k
  · exact op_repT pins s σ H _ _ v u Q I rx ry ⟨l, k, xs, rfl, rfl, hT, hb.1, hb.2, h2, hz, q2 hb.1 (by omega)⟩
  cases rx
  obtain ⟨t, rfl⟩ := ry
  obtain ⟨its, r, ⟨⟨cls, dd, data, sl⟩, ho, hc, n, hd⟩, hs⟩ := I.tuple hT
  simp only at hc hd
  subst hc hd
  have hle : its.length = xs.length := r.length.symm
  have c0 : (decide (k < -(2 ^ 63)) || decide (k ≥ 2 ^ 63)) = false := by
    rw [decide_eq_false (by omega), decide_eq_false (by omega)] <;> rfl
  by_cases hs : xs = [] ∨ k = 1
  · have c1 : (its.toArray.isEmpty || k == 1) = true := by
      rcases hs with hs | hs
      · subst hs
        have : its = [] := List.eq_nil_of_length_eq_zero hle
        subst this; rfl
      · subst hs; simp
    refine wpAny_binaryOp_repeat_ref (T := "tuple") (U := "int") (by decide) ⟨_, ho, rfl⟩ (fun s' => typeIs_int s' k t) noFill_tuple_mul F.fills_int_mul F.slot_int_rmul repeat_tuple F.slot_int_index.lookup
      (call_meets F.slot_int_rmul (typeIs_int s k t) F.entry_int_rmul (F.args_int_rmul_2 _ _) (int_rmul_tuple k t l its.toArray n dd sl)
        ⟨ho, rfl, ⟨_, ho, rfl⟩, call_meets F.slot_tuple_mul ⟨_, ho, rfl⟩ F.entry_tuple_mul (F.args_tuple_mul_2 _ _) (tuple_mulS l its.toArray n dd sl k t c0 c1) ⟨ho, ?_⟩⟩)
    exact ⟨.ref l, H, I, rfl, q1 hs⟩
  · have hne : xs ≠ [] := fun z => hs (.inl z)
    have hk1 : k ≠ 1 := fun z => hs (.inr z)
    have hk : k ≤ 0 := by
      have : ¬ 2 ≤ k := fun z => hb ⟨hne, z⟩
      omega
    have hi : its.toArray.isEmpty = false := by
      cases its with
      | nil => exact absurd (List.eq_nil_of_length_eq_zero hle.symm) hne
      | cons a b => rfl
    have c1 : (its.toArray.isEmpty || k == 1) = false := by
      rw [hi, Bool.false_or]
      exact beq_eq_false_iff_ne.mpr hk1
    have c2 : (decide (k ≤ 0) || its.toArray.isEmpty) = true := by
      rw [decide_eq_true hk]; rfl
    refine wpAny_binaryOp_repeat_ref (T := "tuple") (U := "int") (by decide) ⟨_, ho, rfl⟩ (fun s' => typeIs_int s' k t) noFill_tuple_mul F.fills_int_mul F.slot_int_rmul repeat_tuple F.slot_int_index.lookup
      (call_meets F.slot_int_rmul (typeIs_int s k t) F.entry_int_rmul (F.args_int_rmul_2 _ _) (int_rmul_tuple k t l its.toArray n dd sl)
        ⟨ho, rfl, ⟨_, ho, rfl⟩, call_meets F.slot_tuple_mul ⟨_, ho, rfl⟩ F.entry_tuple_mul (F.args_tuple_mul_2 _ _) (tuple_mulZ l its.toArray n dd sl k t c0 c1 c2) ⟨ho, ?_⟩⟩)
    have q := q2 hne hk1
    have e : k.toNat = 0 := by omega
    rw [e] at q
    refine ⟨.ref s.heap.objs.size, _, I.laid (t' := s.toks) (o := .tup []) (fun b ob q => Heap.get?_push_of_some _ q) (Nat.le_refl _) ?_, rfl, q _ (I.hok.fresh (Nat.le_refl _))⟩
    exact ⟨Nat.zero_le _, _, .nil, IsTup.new _ _⟩
/-- a * b: numbers, lists, tuples -/
def mul2D : D → D → M D
  | .tuple xs, .int k => M.need (-1000 ≤ k ∧ k ≤ 1000 ∧ xs.length ≤ 1000) (M.pure (.tuple (List.replicate k.toNat xs).flatten))
  | x, y => mulD x y
section
variable {S : Sg} {Γ : En} {a b : Expr} {ma mb : M D} {pos : Pos}
theorem mul2_ok : OpOk S (binaryOp .Mult) mul2D := by
  intro ω G H x y v u P Q e rx ry hf q
  cases x with
  | tuple xs => cases y with
    | int k =>
      cases ry.int
      obtain ⟨a, as, rfl, s1, r1, z⟩ := rx.tup e.le
      obtain ⟨⟨h1, h2, h3⟩, hf⟩ := hf
      have hl := r1.length
      refine ⟨rRepA S.K, fun X hX => hX.K ▸ op_repA, a, k, as, rfl, rfl, s1, h1, h2, by omega, fun hs => ?_, fun _ _ p np => ?_⟩
      · refine q _ _ _ _ hf e ?_
        have : (List.replicate k.toNat xs).flatten = xs := by
          rcases hs with hs | hs
          · have : xs = [] := r1.nil_iff.mp hs
            subst this; simp
          · subst hs; simp
        rw [this]
        exact rb_tup rx
      · obtain ⟨e2, r⟩ := new_tup e np (r1.rep k.toNat) (by
          rw [PyProof.Rows.lm_len_rep_flat, sizeLine_eq]
          have a1 : k.toNat * xs.length ≤ 1000 * 1000 := Nat.mul_le_mul (by omega) h3
          omega)
        exact q _ _ _ _ hf e2 r
    | _ => exact mul_ok ω G H _ _ v u P Q e rx ry hf q
  | _ => exact mul_ok ω G H _ _ v u P Q e rx ry hf q

/-! ### sums of tuples -/
theorem sum_rawT {prog : Program} {w : World} {A : Around} {E : Value → Shared → Prop} {s : Shared} {l : Addr} {its : List Value} {ns : List Int} {Q : Value → Shared → Prop} (hh : A.handled = none) (hl : s.heap.IsTuple l its.toArray) (hi : IntsAre its ns)
    (h : ∀ h' tk t', (∀ b o, s.heap.get? b = some o → h'.get? b = some o) → Q (.int ns.sum t') { s with heap := h', toks := tk }) : wpAny (model prog w) A (call (.builtin "sum") [.ref l]) Q E s := by
  obtain ⟨xs, e⟩ := hi.allInts.items
  have hn : numsOf (intItems xs).toList = ns := by rw [← e]; exact hi.numsOf
  rw [nums_intItems] at hn
  rw [e] at hl
  refine PySem.W.ktm_sumG hh hl fun h' tk t' hk => ?_
  have := h h' tk t' hk
  rw [preSum_eq, List.take_of_length_le (by simp), hn]; exact this
def rSumT (K : PySem.W.Frag) : List V → Hp → VK → Prop := fun vs H Q => ∃ (a : Addr) (ns : List Int), vs = [V.ref a] ∧ SqT K H a (ns.map V.int) ∧ Q (.int ns.sum) H
theorem cr_sumT {X : Cx} (hc : X.calm = true) : CallR X (.builtin "sum") (rSumT X.K) := by
  intro pins s σ H vs us Q I r h
  obtain ⟨a, ns, rfl, hs, q⟩ := h
  obtain ⟨its, rv, hl, _⟩ := I.tuple hs
  rw [Vals.ref1 r]
  exact sum_rawT (I.ok.hd hc) hl rv.ints fun h' tk t' hk => ⟨.int _, H, I.kept hk, ⟨_, rfl⟩, q⟩
def sum1D (x : D) : M D := (seqOf x).bind fun ds => (M.opt (asInts ds)).bind fun ns => M.pure (.int ns.sum)
theorem sum1_ok : C1Ok S (.builtin "sum") sum1D := by
  intro ω G H x v P Q e rx hf q
  cases x with
  | list ds =>
    obtain ⟨ns, h1, hf⟩ := hf
    exact sum_ok ω G H (.list ds) v P Q e rx ⟨ns, h1, hf⟩ q
  | tuple ds =>
    obtain ⟨ns, h1, hf⟩ := hf
    obtain ⟨a, as, rfl, s1, r1, z⟩ := rx.tup e.le
    have e2 := asInts_some h1
    subst e2
    have e3 := r1.ints
    subst e3
    exact ⟨rSumT S.K, fun X hX => hX.K ▸ cr_sumT hX.calm, a, ns, rfl, s1, q _ _ _ _ hf e (.int _)⟩
  | _ => exact hf.elim

/-! ### xs.index(y), xs a list -/
def indexD : D → D → M D
  | .list ds, y => M.need (sh 15 (.list ds) = true ∧ sh 15 y = true) ((M.opt (ds.findIdx? fun z => PyData.eqv z y)).bind fun j => M.pure (.int (j : Nat)))
  | _, _ => M.fail
theorem findIdx_spec {ds : List D} {p : D → Bool} {j : Nat} (h : ds.findIdx? p = some j) : ∃ z, ds[j]? = some z ∧ p z = true ∧ ∀ (m : Nat) (z' : D), m < j → ds[m]? = some z' → p z' = false := by
  obtain ⟨h1, h2, h3⟩ := List.findIdx?_eq_some_iff_getElem.mp h
  refine ⟨ds[j], List.getElem?_eq_getElem h1, h2, fun m z' hm hz => ?_⟩
  have := h3 m hm
  have hm' : m < ds.length := by omega
  rw [List.getElem?_eq_getElem hm'] at hz
  cases hz
  simpa using this
theorem sh_mono15 {d : D} (h : sh 15 d = true) : SeqAt.shaped d = true := by
  have := sh_lay d 15 h
  unfold SeqAt.shaped
  rw [this.1, decide_eq_true (by omega)]
  rfl
theorem we_indexL {o : Expr} {apos cpos : Pos} (ho : WB S Γ o ma) (ha : WE S Γ a mb) (hm1 : Meth1 o "index" apos a cpos) : WE S Γ (.Call (.Attribute o "index" apos) [a] [] cpos) (ma.bind fun x => M.need (isL x = true) (mb.bind fun y => indexD x y)) := by
  intro ω G0 H0 σ G H P Q E hm q
  refine ⟨tBM S.K "list" (rIndexD S.K) (RE S o) (tCons (RE S a) tNil), fun X hX => ?_, ?_⟩
  · have h := pe_bm (X := X) PySem.F.plainAttrs_list PySem.F.slot_list_index PySem.F.type_list_index (mt_indexD (by have := hX.room.un; omega)) (RE.pe hX o) (pa_cons (RE.pe hX a) pa_nil (hm1.star _)) (hm1.base _) (hm1.few _) hm1.line (hm1.star _) (hm1.plain _)
    rw [hX.K] at h; exact h
  refine ho ω G0 H0 σ G H _ _ E hm fun x v G1 H1 ⟨hx, hP⟩ e1 r1 => ?_
  cases x with
  | list ds =>
    obtain ⟨p, as, rfl, s1, ra, z⟩ := r1.list e1.le
    refine ⟨.inl ⟨rfl, _, .inl s1⟩, ?_⟩
    refine ha ω G0 H0 σ G1 H1 _ _ (E.step e1) hP fun y u G2 H2 hy e2 r2 => ?_
    obtain ⟨⟨h1, h2⟩, j, hj, hP2⟩ := hy
    obtain ⟨z', g1, g2, g3⟩ := findIdx_spec hj
    have r1' := r1.ext e2
    have lay : PyData.canLay0 (.list ds) = true := (sh_lay _ _ h1).1
    exact ⟨p, u, y, ds, j, z', rfl, rfl, r1'.dp e2.le lay, r2.dp e2.le _ (sh_lay _ _ h2).1, sh_mono15 h1, sh_mono15 h2, g1, g2, g3, q _ _ _ _ hP2 (e1.trans e2) (.int _)⟩
  | _ => simp [isL] at hx
end
end Wp
namespace Wp
open PySem PySem.Spec PyProof.Rows L2

/-! ### sign by sign -/
def signsD (x : Str) : List D := x.cps.toList.map fun c => .str ⟨#[c]⟩
def asSg : D → M (List D)
  | .str x => M.need (x.cps.size ≤ 16777216) (M.pure (signsD x))
  | _ => M.fail
section
variable {S : Sg} {Γ : En} {ow : Bool} {tg e a b c o : Expr} {m ma mb mc : M D} {pos : Pos}
theorem signs_len (x : Str) : (signsD x).length = x.cps.size := by simp [signsD]
theorem wi_str (he : WB S Γ e m) : WI S Γ ow tg e (m.bind fun x => asSg x) := by
  intro ω G0 H0 σ G H P R E hm q
  refine ⟨_, fun X hX => pi_str (RE.pe hX e), he ω G0 H0 σ G H _ _ E hm fun d v G' H' hP e1 r => ?_⟩
  cases d with
  | str x =>
    have := r.str
    subst this
    obtain ⟨hz, hP⟩ := hP
    have hl := signs_len x
    refine ⟨x, rfl, q _ _ G' H' hP e1 ⟨by rw [hl]; exact line_le hz, fun i Gc Hc _ _ _ hi => ?_, fun Gc Hc _ _ _ => ?_, fun i Gc Hc v H' hi h1 h2 _ y => ?_⟩⟩
    · show i < x.cps.size
      rw [← hl]; exact hi
    · show x.cps.size ≤ (signsD x).length
      rw [hl]; exact Nat.le_refl _
    · obtain ⟨rfl, c, hc, rfl⟩ := y
      refine ⟨Gc, h2, ?_⟩
      have hi' : i < x.cps.size := by rw [← hl]; exact hi
      have : (signsD x)[i] = .str ⟨#[c]⟩ := by
        rw [Array.getElem?_eq_getElem hi'] at hc
        cases hc
        simp [signsD]
      rw [this]
      exact .str _
  | _ => exact hP.elim

end

theorem wi_nf {S : Sg} {Γ Γ' : En} {ow : Bool} {tg it : Expr} {m : M (List D)} (h : Γ = Γ') (k : WI S Γ' ow tg it m) : WI S Γ ow tg it m := h ▸ k

/-! ### while that is left -/
def M.iterF {σ : Type} (c : σ → M Bool) (f : σ → M (Fl σ σ)) : Nat → σ → M (Fl σ Empty)
  | 0, _ => M.fail
  | n + 1, s => M.bind (c s) fun b => bif b then M.bind (f s) fun r => (match r with
    | .nx s' => M.iterF c f n s'
    | .ct s' => M.iterF c f n s'
    | .bk s' => M.pure (.nx s')
    | .rt d => M.pure (.rt d)) else M.pure (.nx s)
def M.whileF {σ : Type} (c : σ → M Bool) (f : σ → M (Fl σ σ)) (s : σ) : M (Fl σ Empty) := fun P => ∃ n, M.iterF c f n s P
section
variable {S : Sg} {Γ : En} {c : Expr} {pos : Pos} {σt ρ : Type} {body rest : List Stmt} {ι : ρ → Out}
theorem w_whileF {tc : σt → M Bool} {fb : σt → M (Fl σt σt)} {k : σt → M ρ} {kr : D → M ρ} (gs : σt → En) (s0 : σt) (ks : List Bool) (h0 : gs s0 = maskE ks Γ) (hl : ks.length = Γ.length) (hc : ∀ s, WT S (gs s) c (tc s)) (hb : ∀ s, W S (gs s) body (fb s) (flO gs)) (hr : ∀ s, W S (gs s) rest (k s) ι) (hf : RtOk ι kr) :
    W S Γ (.While c body [] pos :: rest) ((M.whileF tc fb s0).bind (Fl.go k kr)) ι := by
  intro ω G0 H0 σ G H P Dn E hm q
  refine rs_cons (fun X hX => ps_while (by rw [hX.xe]; exact PassesOwn.never) (RT.pt hX c) (RS.ps hX body)) ?_
  obtain ⟨n, hn⟩ := hm
  refine ⟨fun n σ H => ∃ s G, EnvOk ω S.K G0 H0 (gs s) σ G H ∧ M.iterF tc fb n s (fun r => Fl.go k kr r P), ⟨n, s0, G, by rw [h0]; exact E.mask ks hl, hn⟩, ?_⟩
  rintro m σ H ⟨s, Gc, Ec, wp⟩
  cases m with
  | zero => exact False.elim wp
  | succ m =>
    refine hc s ω G0 H0 σ Gc H _ _ Ec wp fun b G1 H1 hb1 e1 => ?_
    cases b with
    | true =>
      rw [if_pos rfl]
      refine ⟨fun σ H => ∃ s G, EnvOk ω S.K G0 H0 (gs s) σ G H ∧ M.iterF tc fb m s (fun r => Fl.go k kr r P), fun σ' H' hN => ⟨m, Nat.lt_succ_self m, hN⟩, ?_⟩
      refine hb s ω G0 H0 σ G1 H1 _ _ (Ec.step e1) hb1 fun r hr' => ?_
      cases r with
      | nx s' => exact fun σ' G' H' E' => ⟨s', G', E', hr'⟩
      | ct s' => exact fun σ' G' H' E' => ⟨s', G', E', hr'⟩
      | bk s' => exact fun σ' G' H' E' => hr s' ω G0 H0 σ' G' H' P Dn E' hr' q
      | rt d =>
        intro v G' H' e' r'
        obtain ⟨r, h1, h2⟩ := hf d P hr'
        have z := q r h1
        rw [h2] at z
        exact z v G' H' e' r'
    | false =>
      rw [if_neg Bool.false_ne_true]
      exact hr s ω G0 H0 σ G1 H1 P Dn (Ec.step e1) hb1 q
end
/-! ### a comprehension given to a name that inner blocks read -/
theorem sw_cell {elt : Expr} {gs : List Comprehension} {scope : Scope} {pos py : Pos} {y : Str} {l : Nat} {env : Env} (h : env.scope.names.lookup y = some .cell) : swapsWith (.ListComp elt gs scope pos) (some (.Name y py)) l env = pure false := by
  have k : env.kindOf y = some .cell := h
  have e : (env.kindOf y == some NameKind.local) = false := by rw [k]; rfl
  unfold swapsWith
  simp only [e, Bool.and_false, Bool.false_and]
section
variable {S : Sg} {Γ : En} {me : M D} {ρ : Type} {ι : ρ → Out} {elt : Expr} {gs : List Comprehension} {scope : Scope} {p pos pos' : Pos} {rest : List Stmt}
theorem w_setC {i : Nat} {x : Str} {k : D → M ρ} (hx : SetAt S i x) (he : WE S Γ (.ListComp elt gs scope p) me) (hc : S.sc.names.lookup x = some .cell) (hk : ∀ d, W S (Γ.set i (some (.val d))) rest (k d) ι) :
    W S Γ (.Assign [.Name x pos'] (.ListComp elt gs scope p) pos :: rest) (me.bind k) ι := by
  intro ω G0 H0 σ G H P Dn E hm q
  refine rs_cons (fun X hX => ps_set (i := i) (by rw [hX.N]; exact hX.nd) (by rw [hX.N]; exact hx.n) (by rw [hX.sc]; exact hx.l) (RE.pe hX (.ListComp elt gs scope p)) (sw_cell (by rw [hX.sc]; exact hc)) (hx.fx hX)) ?_
  refine he ω G0 H0 σ G H _ _ E hm fun d v G1 H1 hP e1 r1 => ?_
  exact hk d ω G0 H0 _ G1 H1 P Dn ((E.step e1).putV r1) hP q
theorem w_setFC {i : Nat} {x : Str} {k : D → M ρ} (hx : SetAt S i x) (he : WF S Γ (.ListComp elt gs scope p) me) (hc : S.sc.names.lookup x = some .cell) (hk : ∀ d, W S (Γ.set i (some (.own d))) rest (k d) ι) :
    W S Γ (.Assign [.Name x pos'] (.ListComp elt gs scope p) pos :: rest) (me.bind k) ι := by
  intro ω G0 H0 σ G H P Dn E hm q
  refine rs_cons (fun X hX => ps_set (i := i) (by rw [hX.N]; exact hX.nd) (by rw [hX.N]; exact hx.n) (by rw [hX.sc]; exact hx.l) (RE.pe hX (.ListComp elt gs scope p)) (sw_cell (by rw [hX.sc]; exact hc)) (hx.fx hX)) ?_
  refine he ω G0 H0 σ G H _ _ E hm fun d p u G1 H1 hP e1 h1 h2 h3 r1 => ?_
  exact hk d ω G0 H0 _ G1 H1 P Dn (E.putO e1 h1 h2 h3 r1) hP q
end
end Wp
namespace Wp
open PySem PySem.Spec PyProof.Rows L2

/-! ### the order of data -/
abbrev dlt (x y : D) : Bool := PySem.W.dataLt x y
theorem dlt_irrefl (x : D) : dlt x x = false := lex_irrefl (O := itemOrd) _
theorem dlt_trans {x y z : D} (h : dlt x y = true) (k : dlt y z = true) : dlt x z = true := lex_trans (O := itemOrd) _ _ _ h k
theorem dlt_neg {x z : D} (y : D) (h : dlt x z = true) : dlt x y = true ∨ dlt y z = true := lex_negTrans (O := itemOrd) _ _ _ h
theorem dlt_asymm {x y : D} (h : dlt x y = true) : dlt y x = false := by
  cases q : dlt y x with
  | false => rfl
  | true => have := dlt_trans h q; rw [dlt_irrefl] at this; cases this
theorem nlt_trans {x y z : D} (h : dlt x y = false) (k : dlt y z = false) : dlt x z = false := by
  cases q : dlt x z with
  | false => rfl
  | true =>
    rcases dlt_neg y q with e | e
    · rw [h] at e; cases e
    · rw [k] at e; cases e
mutual
theorem alike_eqv_eq : ∀ (x y : D), PySem.W.alike x y = true → PyData.eqv x y = true → x = y
  | .none, y, h, e => by cases y <;> simp_all [PySem.W.alike, PyData.eqv]
  | .bool a, y, h, e => by cases y <;> simp_all [PySem.W.alike, PyData.eqv]
  | .int a, y, h, e => by cases y <;> simp_all [PySem.W.alike, PyData.eqv]
  | .str a, y, h, e => by cases y <;> simp_all [PySem.W.alike, PyData.eqv]
  | .list xs, y, h, e => by
    cases y with
    | list ys =>
      have h' : PySem.W.alikeAll xs ys = true := by simpa [PySem.W.alike] using h
      have e' : PyData.eqvAll xs ys = true := by simpa [PyData.eqv] using e
      rw [alikeAll_eqv_eq xs ys h' e']
    | _ => simp [PySem.W.alike] at h
  | .tuple xs, y, h, e => by
    cases y with
    | tuple ys =>
      have h' : PySem.W.alikeAll xs ys = true := by simpa [PySem.W.alike] using h
      have e' : PyData.eqvAll xs ys = true := by simpa [PyData.eqv] using e
      rw [alikeAll_eqv_eq xs ys h' e']
    | _ => simp [PySem.W.alike] at h
  | .dict a, y, h, e => by cases y <;> simp_all [PySem.W.alike]
theorem alikeAll_eqv_eq : ∀ (xs ys : List D), PySem.W.alikeAll xs ys = true → PyData.eqvAll xs ys = true → xs = ys
  | [], [], _, _ => rfl
  | [], y :: ys, _, e => by simp [PyData.eqvAll] at e
  | x :: xs, [], _, e => by simp [PyData.eqvAll] at e
  | x :: xs, y :: ys, h, e => by
    obtain ⟨h1, h2⟩ := PySem.W.alike_all_cons h
    rw [PySem.W.eqv_all_cons, Bool.and_eq_true] at e
    rw [alike_eqv_eq x y h1 e.1, alikeAll_eqv_eq xs ys h2 e.2]
end
theorem dlt_eq {x y : D} (h : PySem.W.alike x y = true) (h1 : dlt x y = false) (h2 : dlt y x = false) : x = y := by
  have ht := lex_total (O := itemOrd) _ _ h1 h2
  refine alike_eqv_eq x y h ?_
  cases e : PyData.eqv x y with
  | true => rfl
  | false =>
    have := (PySem.W.toks_eqv x y h).2 e [] [.inl 0]
    rw [List.append_nil] at this
    have e2 : lexLt itemOrd (PySem.W.keyToks x) (PySem.W.keyToks y) = false := h1
    rw [e2, ← ht] at this
    have e3 := PySem.W.lex_pre (PySem.W.keyToks x) [] [.inl 0]
    rw [List.append_nil] at e3
    rw [e3] at this
    exact absurd this (by decide)
theorem dlt_int (a b : Int) : dlt (.int a) (.int b) = decide (a < b) := PySem.W.dataLt_int a b
/-! ### least, greatest -/
theorem foldMin_spec (x : D) : ∀ (xs : List D) (a : D), (xs.foldl (fun a y => if PySem.W.dataLt y a = true then y else a) a ∈ a :: xs) ∧ (∀ y ∈ a :: xs, dlt y (xs.foldl (fun a y => if PySem.W.dataLt y a = true then y else a) a) = false)
  | [], a => ⟨by simp, fun y hy => by simp at hy; subst hy; exact dlt_irrefl _⟩
  | z :: xs, a => by
    rw [List.foldl_cons]
    obtain ⟨h1, h2⟩ := foldMin_spec x xs (if PySem.W.dataLt z a = true then z else a)
    refine ⟨?_, fun y hy => ?_⟩
    · rcases List.mem_cons.mp h1 with e | e
      · rw [e]; split <;> simp
      · exact List.mem_cons_of_mem _ (List.mem_cons_of_mem _ e)
    · have hb := h2 _ (List.mem_cons_self)
      rcases List.mem_cons.mp hy with rfl | hy
      · by_cases c : PySem.W.dataLt z y = true
        · rw [if_pos c] at hb ⊢
          exact nlt_trans (dlt_asymm c) hb
        · rw [if_neg c] at hb ⊢
          exact hb
      · rcases List.mem_cons.mp hy with rfl | hy
        · by_cases c : PySem.W.dataLt y a = true
          · rw [if_pos c] at hb ⊢
            exact hb
          · rw [if_neg c] at hb ⊢
            have c' : dlt y a = false := by simpa using c
            exact nlt_trans c' hb
        · exact h2 y (List.mem_cons_of_mem _ hy)
theorem foldMax_spec (x : D) : ∀ (xs : List D) (a : D), (xs.foldl (fun a y => if PySem.W.dataLt a y = true then y else a) a ∈ a :: xs) ∧ (∀ y ∈ a :: xs, dlt (xs.foldl (fun a y => if PySem.W.dataLt a y = true then y else a) a) y = false)
  | [], a => ⟨by simp, fun y hy => by simp at hy; subst hy; exact dlt_irrefl _⟩
  | z :: xs, a => by
    rw [List.foldl_cons]
    obtain ⟨h1, h2⟩ := foldMax_spec x xs (if PySem.W.dataLt a z = true then z else a)
    refine ⟨?_, fun y hy => ?_⟩
    · rcases List.mem_cons.mp h1 with e | e
      · rw [e]; split <;> simp
      · exact List.mem_cons_of_mem _ (List.mem_cons_of_mem _ e)
    · have hb := h2 _ (List.mem_cons_self)
      rcases List.mem_cons.mp hy with rfl | hy
      · by_cases c : PySem.W.dataLt y z = true
        · rw [if_pos c] at hb ⊢
          exact nlt_trans hb (dlt_asymm c)
        · rw [if_neg c] at hb ⊢
          exact hb
      · rcases List.mem_cons.mp hy with rfl | hy
        · by_cases c : PySem.W.dataLt a y = true
          · rw [if_pos c] at hb ⊢
            exact hb
          · rw [if_neg c] at hb ⊢
            have c' : dlt a y = false := by simpa using c
            exact nlt_trans hb c'
        · exact h2 y (List.mem_cons_of_mem _ hy)
theorem minL_spec {ds : List D} (h : ds ≠ []) : minL ds ∈ ds ∧ ∀ y ∈ ds, dlt y (minL ds) = false := by
  cases ds with
  | nil => exact absurd rfl h
  | cons x xs => exact foldMin_spec x xs x
theorem maxL_spec {ds : List D} (h : ds ≠ []) : maxL ds ∈ ds ∧ ∀ y ∈ ds, dlt (maxL ds) y = false := by
  cases ds with
  | nil => exact absurd rfl h
  | cons x xs => exact foldMax_spec x xs x
theorem minL_eq {ds : List D} {m : D} (hm : m ∈ ds) (hl : ∀ y ∈ ds, dlt y m = false) (ha : ∀ y ∈ ds, PySem.W.alike m y = true) : minL ds = m := by
  obtain ⟨h1, h2⟩ := minL_spec (List.ne_nil_of_mem hm)
  exact (dlt_eq (ha _ h1) (h2 m hm) (hl _ h1)).symm
theorem maxL_eq {ds : List D} {m : D} (hm : m ∈ ds) (hl : ∀ y ∈ ds, dlt m y = false) (ha : ∀ y ∈ ds, PySem.W.alike m y = true) : maxL ds = m := by
  obtain ⟨h1, h2⟩ := maxL_spec (List.ne_nil_of_mem hm)
  exact (dlt_eq (ha _ h1) (hl _ h1) (h2 m hm)).symm
theorem minL_ints {n : Int} {ns : List Int} : minL ((n :: ns).map .int) = .int (ns.foldl min n) := PySem.W.minD_ints n ns
theorem maxL_ints {n : Int} {ns : List Int} : maxL ((n :: ns).map .int) = .int (ns.foldl max n) := PySem.W.maxD_ints n ns
/-! ### tuples -/
theorem alike_tup {xs ys : List D} : PySem.W.alike (.tuple xs) (.tuple ys) = PySem.W.alikeAll xs ys := by simp [PySem.W.alike]
theorem alike_ints : ∀ xs ys : List Int, PySem.W.alikeAll (xs.map .int) (ys.map .int) = true
  | [], [] => by simp [PySem.W.alikeAll]
  | [], _ :: _ => by simp [PySem.W.alikeAll]
  | _ :: _, [] => by simp [PySem.W.alikeAll]
  | x :: xs, y :: ys => by
    have := alike_ints xs ys
    simp [PySem.W.alikeAll, PySem.W.alike, this]
theorem alike_strs : ∀ xs ys : List Str, PySem.W.alikeAll (xs.map .str) (ys.map .str) = true
  | [], [] => by simp [PySem.W.alikeAll]
  | [], _ :: _ => by simp [PySem.W.alikeAll]
  | _ :: _, [] => by simp [PySem.W.alikeAll]
  | x :: xs, y :: ys => by
    have := alike_strs xs ys
    simp [PySem.W.alikeAll, PySem.W.alike, this]
theorem dlt_cons {x y : D} {xs ys : List D} (h : PySem.W.alike x y = true) : dlt (.tuple (x :: xs)) (.tuple (y :: ys)) = (dlt x y || (PyData.eqv x y && dlt (.tuple xs) (.tuple ys))) := by
  unfold dlt
  rw [PySem.W.dataLt_tuple, PySem.W.dataLt_tuple]
  cases e : PyData.eqv x y with
  | true =>
    have := alike_eqv_eq x y h e
    subst this
    rw [PySem.W.dataLt_all_yes h e]
    have := dlt_irrefl x
    unfold dlt at this
    simp [this, e]
  | false =>
    rw [PySem.W.dataLt_all_no h e]
    have : x ≠ y := fun z => by
      subst z
      rw [PySem.W.eqv_refl_alike x h] at e
      cases e
    simp [this, e]
theorem dlt_nil {ys : List D} : dlt (.tuple []) (.tuple ys) = !ys.isEmpty := by
  unfold dlt
  rw [PySem.W.dataLt_tuple]
  cases ys with
  | nil => decide +kernel
  | cons y ys =>
    rw [PySem.W.toks_all_cons]
    show lexLt itemOrd [Sum.inl 0] (Sum.inl 1 :: _) = true
    rw [lex_cons]
    have : itemOrd.blt (Sum.inl 0) (Sum.inl 1) = true := by decide +kernel
    rw [this]; rfl
theorem dlt_cons_nil {x : D} {xs : List D} : dlt (.tuple (x :: xs)) (.tuple []) = false := by
  have : dlt (.tuple []) (.tuple (x :: xs)) = true := by rw [dlt_nil]; rfl
  exact dlt_asymm this
theorem dlt_int2 {a b : Int} {xs ys : List D} : dlt (.tuple (.int a :: xs)) (.tuple (.int b :: ys)) = (decide (a < b) || (decide (a = b) && dlt (.tuple xs) (.tuple ys))) := by
  rw [dlt_cons (by simp [PySem.W.alike]), dlt_int]
  have : PyData.eqv (.int a) (.int b) = decide (a = b) := by simp [PyData.eqv]; rfl
  rw [this]
/-! ### sorted lists -/
theorem dataLe_iff (x y : D) : PySem.W.dataLe false id x y = !dlt y x := rfl
theorem sortL_sorted (ds : List D) : (sortL ds).Pairwise fun x y => dlt y x = false := by
  have h := List.pairwise_mergeSort (le := PySem.W.dataLe false id) (l := ds) (fun a b c h1 h2 => ?_) (fun a b => ?_)
  · refine List.Pairwise.imp ?_ h
    intro a b hab
    rw [dataLe_iff] at hab
    simpa using hab
  · rw [dataLe_iff] at h1 h2 ⊢
    simp at h1 h2 ⊢
    exact nlt_trans h2 h1
  · rw [dataLe_iff, dataLe_iff]
    cases q : dlt b a with
    | false => rfl
    | true => rw [dlt_asymm q]; rfl
/-- sorted lists of the same things are one -/
theorem sorted_unique : ∀ {xs ys : List D}, xs.Perm ys → xs.Pairwise (fun x y => dlt y x = false) → ys.Pairwise (fun x y => dlt y x = false) → (∀ x ∈ xs, ∀ y ∈ xs, PySem.W.alike x y = true) → xs = ys
  | [], ys, p, _, _, _ => (List.nil_perm.mp p).symm
  | x :: xs, [], p, _, _, _ => absurd p.length_eq (by simp)
  | x :: xs, y :: ys, p, h1, h2, ha => by
    have hy : y ∈ x :: xs := p.mem_iff.mpr (List.mem_cons_self)
    have hx : x ∈ y :: ys := p.mem_iff.mp (List.mem_cons_self)
    have e : x = y := by
      rw [List.pairwise_cons] at h1 h2
      refine dlt_eq (ha _ (List.mem_cons_self) _ hy) ?_ ?_
      · rcases List.mem_cons.mp hx with rfl | hx
        · exact dlt_irrefl _
        · exact h2.1 x hx
      · rcases List.mem_cons.mp hy with rfl | hy
        · exact dlt_irrefl _
        · exact h1.1 y hy
    subst e
    rw [List.pairwise_cons] at h1 h2
    rw [sorted_unique (List.perm_cons x |>.mp p) h1.2 h2.2 fun a h b k => ha a (List.mem_cons_of_mem _ h) b (List.mem_cons_of_mem _ k)]
theorem sortL_eq {ds es : List D} (p : ds.Perm es) (hs : es.Pairwise fun x y => dlt y x = false) (ha : ∀ x ∈ es, ∀ y ∈ es, PySem.W.alike x y = true) : sortL ds = es := by
  refine (sorted_unique (p.symm.trans (sortL_perm ds).symm) hs (sortL_sorted ds) ha).symm
theorem sortL_congr {ds es : List D} (p : ds.Perm es) (ha : ∀ x ∈ es, ∀ y ∈ es, PySem.W.alike x y = true) : sortL ds = sortL es := sortL_eq (p.trans (sortL_perm es).symm) (sortL_sorted es) fun x hx y hy => ha x ((sortL_perm es).mem_iff.mp hx) y ((sortL_perm es).mem_iff.mp hy)
end Wp
namespace Wp
open PySem PySem.Spec PyProof.Rows L2

/-! ### list(x), x a list, a tuple or a dict -/
theorem call_listK {X : Cx} (hcalm : X.calm = true) : CallR X (.type "list") (fun xs H Q => ∃ a G es kvs, xs = [.ref a] ∧ Rd H a (.dK kvs) ∧ Le G H ∧ RpK X.K G kvs es ∧ ∀ p zs, H p = none → RpA X.K G zs (es.map (·.1)) → zs.length ≤ 16777216 → Q (.ref p) (upd H p (.lst zs))) := by
  intro pins s σ H xs us Q I r h
  obtain ⟨a, G, es, kvs, rfl, hd, l, ra, q⟩ := h
  obtain ⟨u, rfl, rx⟩ := vals1 r
  cases rx
  obtain ⟨z, lo, vs, rel, dd⟩ := dk_rd I.hok hd
  obtain ⟨ep, hat⟩ := dd.dictAt
  have hl : vs.length = kvs.length := rel.length.symm
  have h16 : vs.length ≤ sizeLine := by rw [hl]; exact z
  have hrp : RpA X.K G (kvs.map fun kv => kV kv.1) (es.map (·.1)) := by
    have : ∀ {kvs : List (Key × V)} {es : List (D × D)}, RpK X.K G kvs es → RpA X.K G (kvs.map fun kv => kV kv.1) (es.map (·.1)) := by
      intro kvs
      induction kvs with
      | nil => intro es r; cases r; exact .nil
      | cons p ps ih => intro es r; cases r with
        | cons rv t => exact .cons (keyD_rp _) (ih t)
    exact this ra
  refine PySem.W.kdl_call (PySem.W.kdl_dict (knd := mixKind X.prog X.w) (kvs := vs) (ep := ep) lo) (I.ok.hd hcalm) hat h16 fun h' tk acc c' hk hS hacc => ?_
  have hal : acc.toList.length = kvs.length := by rw [Array.length_toList, hacc.1, hl]
  have hv : Vals (kvs.map fun kv => kV kv.1) acc.toList := vals_of_at (by rw [List.length_map, hal]) fun j x u hx hu => by
    obtain ⟨k, y, e1, e2⟩ := hacc.2 j u (by rw [← Array.getElem?_toList]; exact hu)
    have e3 : (vs.map (·.1))[j]? = some k := by rw [List.getElem?_map, e1]; all_goals rfl
    rw [← rel.keys, List.getElem?_map] at e3
    rw [List.getElem?_map] at hx
    cases e4 : kvs[j]? with
    | none => rw [e4] at e3; cases e3
    | some p =>
      rw [e4] at e3 hx
      have e5 : p.1 = k := Option.some.inj e3
      have e6 : kV p.1 = x := Option.some.inj hx
      rw [← e6, e5]
      exact keyIs_rel e2
  have hz : (kvs.map fun kv => kV kv.1).length ≤ sizeLine := by rw [List.length_map]; exact z
  have he : h'.get? s.heap.objs.size = some { cls := .type "list", dict := none, data := .seq acc.toList.toArray c', slots := #[] } := by rw [Array.toArray_toList]; exact hS
  exact ⟨.ref s.heap.objs.size, _, I.laid (t' := tk) hk (Nat.le_refl _) (show ObjOk X.prog X.w _ h' _ (.lst (kvs.map fun kv => kV kv.1)) from ⟨hz, acc.toList, c', hv, he⟩), rfl, q _ _ (I.hok.fresh (Nat.le_refl _)) hrp (by rw [List.length_map]; exact z)⟩
variable {S : Sg}
def list2D : D → M D
  | .list ds => M.pure (.list ds)
  | .tuple ds => M.pure (.list ds)
  | .dict es => M.need (marked es = false) (M.pure (.list (es.map (·.1))))
  | _ => M.fail
theorem list2_ok : C1Ok S (.type "list") list2D := by
  intro ω G H x v P Q e rx hf q
  cases x with
  | list ds => exact list_ok ω G H (.list ds) v P Q e rx hf q
  | tuple ds => exact list_ok ω G H (.tuple ds) v P Q e rx hf q
  | dict es =>
    obtain ⟨hm, hf⟩ := hf
    obtain ⟨a, rfl, z, ⟨kvs, s1, r1⟩ | ⟨kvs, es', rfl, _, _⟩⟩ := noT rx e.le
    · refine ⟨fun xs H Q => ∃ a G es kvs, xs = [.ref a] ∧ Rd H a (.dK kvs) ∧ Le G H ∧ RpK S.K G kvs es ∧ ∀ p zs, H p = none → RpA S.K G zs (es.map (·.1)) → zs.length ≤ 16777216 → Q (.ref p) (upd H p (.lst zs)), fun X hX => hX.K ▸ call_listK hX.calm, a, G, es, kvs, rfl, s1, e.le, r1, fun p zs np rz hz => ?_⟩
      obtain ⟨e2, r⟩ := new_lst e np rz (by rw [List.length_map]; exact z)
      exact q _ _ _ _ hf e2 r
    · simp [marked] at hm
  | _ => exact hf.elim
theorem list2_okF : C1F S (.type "list") list2D := by
  intro ω G H x v P Q e rx hf q
  cases x with
  | list ds => exact list_okF ω G H (.list ds) v P Q e rx hf q
  | tuple ds => exact list_okF ω G H (.tuple ds) v P Q e rx hf q
  | dict es =>
    obtain ⟨hm, hf⟩ := hf
    obtain ⟨a, rfl, z, ⟨kvs, s1, r1⟩ | ⟨kvs, es', rfl, _, _⟩⟩ := noT rx e.le
    · refine ⟨fun xs H Q => ∃ a G es kvs, xs = [.ref a] ∧ Rd H a (.dK kvs) ∧ Le G H ∧ RpK S.K G kvs es ∧ ∀ p zs, H p = none → RpA S.K G zs (es.map (·.1)) → zs.length ≤ 16777216 → Q (.ref p) (upd H p (.lst zs)), fun X hX => hX.K ▸ call_listK hX.calm, a, G, es, kvs, rfl, s1, e.le, r1, fun p zs np rz hz => ?_⟩
      exact q _ p _ G _ hf (e.lay np) np (e.le.none np) upd_same (.lst rz (by rw [List.length_map]; exact z))
    · simp [marked] at hm
  | _ => exact hf.elim
end Wp
namespace Wp
open PySem PySem.Spec PyProof.Rows L2

section
variable {S : Sg} {Γ Γ' : En} {e a b : Expr} {m ma mb : M D} {pos : Pos}
/-- something new, kept as it is -/
theorem WF.we (h : WF S Γ e m) : WE S Γ e m := by
  intro ω G0 H0 σ G H P Q E hm q
  refine h ω G0 H0 σ G H P Q E hm fun d p u G' H' hP x hp hg hu r => ?_
  have sm : Same G' (upd G' p u) := fun b w z => by rw [upd_ne (ne_of_none z hg)]; exact z
  have hω : ∀ o, ω = some o → o ≠ p := fun o ho z => by
    obtain ⟨_, _, _, _, h1, _⟩ := E.ext.dr o ho
    rw [z, hp] at h1; cases h1
  refine q d (.ref p) (upd G' p u) H' hP ⟨x.gg.trans sm, x.hh, fun b w z => ?_, fun b w z n => ?_, fun o ho => ?_⟩ ?_
  · by_cases hb : b = p
    · subst hb
      rcases z with z | ⟨o, z⟩
      · rw [upd_same] at z; cases z; exact .inl hu
      · rw [upd_same] at z; cases z; cases r
    · refine x.le b w ?_
      rcases z with z | ⟨o, z⟩
      · rw [upd_ne hb] at z; exact .inl z
      · rw [upd_ne hb] at z; exact .inr ⟨o, z⟩
  · rw [upd_ne (ne_of_none z hp)]
    exact x.fr b w z n
  · obtain ⟨g, vd, ds, at_, h1, h2, h3⟩ := x.dr o ho
    exact ⟨by rw [upd_ne (hω o ho)]; exact g, vd, ds, at_, h1, h2.le sm, h3⟩
  · cases r with
    | lst a z => exact .lst (.inl upd_same) (a.le sm) z
    | dK a z => exact .dK upd_same (a.le sm) z
    | dT a z => exact .dT upd_same (a.le sm) z
/-! ### list(range(..)) -/
theorem rgV_rp {K : PySem.W.Frag} {G : Hp} (a b : Int) : RpA K G (rgV a b) (rangeD a b) := by
  unfold rgV rangeD
  have : ∀ (n : Nat) (k : Nat), RpA K G ((List.range' k n).map fun (i : Nat) => V.int (a + (i : Nat))) ((List.range' k n).map fun (i : Nat) => (.int (a + (i : Nat)) : D)) := by
    intro n
    induction n with
    | zero => intro k; exact .nil
    | succ n ih => intro k; exact .cons (.int _) (ih (k + 1))
  have h := this (b - a).toNat 0
  rw [← List.range_eq_range'] at h
  exact h
theorem wf_listRg1 {p p' : Pos} (hl : BltAt S "list" (.type "list")) (hb : BltAt S "range" (.type "range")) (ha : WB S Γ a ma) (hs : ∀ env, starEach [a] env = (false, eval a env) :: starEach [] env := by intro _; rfl) (hs2 : ∀ env, starEach [.Call (.Name "range" p) [a] [] pos] env = (false, eval (.Call (.Name "range" p) [a] [] pos) env) :: starEach [] env := by intro _; rfl) :
    WF S Γ (.Call (.Name "list" p') [.Call (.Name "range" p) [a] [] pos] [] pos') (ma.bind fun x => (asI x).bind fun i => (rngD 0 i).bind fun l => M.pure (.list l)) := by
  intro ω G0 H0 σ G H P Q E hm q
  refine ⟨_, fun X hX => pe_listRg hX.calm (gl_of hX hl.g) (by rw [hX.mg]; exact hl.m) (prg_1 (gl_of hX hb.g) (by rw [hX.mg]; exact hb.m) (RE.pe hX a) (hs _)) (hs2 _), ?_⟩
  refine ha ω G0 H0 σ G H _ _ E hm fun x v G1 H1 hx e1 r1 => ?_
  cases x with
  | int i =>
    cases r1.int
    obtain ⟨⟨h1, h2, h3, h4, h5⟩, hx⟩ := hx
    refine ⟨i, rfl, ⟨by omega, by omega, by omega, by omega, by omega⟩, fun p np => ?_⟩
    refine q _ p _ G1 _ hx (e1.trans (e1.self.lay np)) (EnvOk.back e1 np) (e1.le.none np) upd_same (.lst (rgV_rp _ _) ?_)
    rw [show (rangeD 0 i).length = (i - 0).toNat by simp [rangeD], sizeLine_eq]; omega
  | _ => exact False.elim hx
theorem wf_listRg2 {p p' : Pos} (hl : BltAt S "list" (.type "list")) (hb : BltAt S "range" (.type "range")) (ha : WB S Γ a ma) (hb2 : WB S Γ b mb) (hs : ∀ env, starEach [a, b] env = (false, eval a env) :: starEach [b] env := by intro _; rfl) (hs1 : ∀ env, starEach [b] env = (false, eval b env) :: starEach [] env := by intro _; rfl) (hp : ∀ env, (backTo pos (starEach [b] env)).any (·.1) = false := by intro _; rfl) (hs2 : ∀ env, starEach [.Call (.Name "range" p) [a, b] [] pos] env = (false, eval (.Call (.Name "range" p) [a, b] [] pos) env) :: starEach [] env := by intro _; rfl) :
    WF S Γ (.Call (.Name "list" p') [.Call (.Name "range" p) [a, b] [] pos] [] pos') (ma.bind fun x => mb.bind fun y => (asI x).bind fun i => (asI y).bind fun j => (rngD i j).bind fun l => M.pure (.list l)) := by
  intro ω G0 H0 σ G H P Q E hm q
  refine ⟨_, fun X hX => pe_listRg hX.calm (gl_of hX hl.g) (by rw [hX.mg]; exact hl.m) (prg_2 (gl_of hX hb.g) (by rw [hX.mg]; exact hb.m) (RE.pe hX a) (RE.pe hX b) (hs _) (hs1 _) (hp _)) (hs2 _), ?_⟩
  refine ha ω G0 H0 σ G H _ _ E hm fun x v G1 H1 hx e1 r1 => ?_
  refine hb2 ω G0 H0 σ G1 H1 _ _ (E.step e1) hx fun y u G2 H2 hy e2 r2 => ?_
  cases x with
  | int i =>
    cases r1.int
    cases y with
    | int j =>
      cases r2.int
      obtain ⟨⟨h1, h2, h3, h4, h5⟩, hy⟩ := hy
      refine ⟨i, j, rfl, rfl, ⟨by omega, by omega, by omega, by omega, by omega⟩, fun p np => ?_⟩
      refine q _ p _ G2 _ hy ((e1.trans e2).trans ((e1.trans e2).self.lay np)) (EnvOk.back (e1.trans e2) np) ((e1.trans e2).le.none np) upd_same (.lst (rgV_rp _ _) ?_)
      rw [show (rangeD i j).length = (j - i).toNat by simp [rangeD], sizeLine_eq]; omega
    | _ => exact False.elim hy
  | _ => exact False.elim hy
/-! ### one's own, lent -/
def flatD : D → Bool
  | .none => true
  | .bool _ => true
  | .int _ => true
  | .str _ => true
  | _ => false
def noDrw (Γ : En) : En := Γ.map fun c => match c with | some .drw => none | c => c
theorem noDrw_get {i : Nat} {c : Ct} (h : (noDrw Γ)[i]? = some (some c)) : Γ[i]? = some (some c) ∧ c ≠ .drw := by
  unfold noDrw at h
  rw [List.getElem?_map] at h
  cases q : Γ[i]? with
  | none => rw [q] at h; cases h
  | some o =>
    rw [q] at h
    cases o with
    | none => cases h
    | some c' => cases c' <;> cases h <;> exact ⟨rfl, by intro z; cases z⟩
theorem Rp.flat {K : PySem.W.Frag} {G G' : Hp} {v : V} {d : D} (h : flatD d = true) (r : Rp K G v d) : Rp K G' v d := by
  cases r with
  | non => exact .non
  | bl b => exact .bl b
  | int i => exact .int i
  | str x => exact .str x
  | _ => cases h
open Classical in
theorem EnvOk.nodraw {ω : Option Addr} {K : PySem.W.Frag} {G0 H0 G H : Hp} {σ : L2.St} (E : EnvOk ω K G0 H0 Γ σ G H) : ∃ H1, EnvOk none K G H1 (noDrw Γ) σ G H := by
  refine ⟨fun a => if some a = ω then H a else H0 a, ⟨Same.refl _, fun a u _ h => ?_, E.ext.le, fun _ _ _ h => h, fun _ h => (nomatch h)⟩, by rw [E.ln]; simp [noDrw], fun i c h => ?_, fun i j d e v hi hj => E.ds i j d e v (noDrw_get hi).1 (noDrw_get hj).1⟩
  · by_cases z : some a = ω
    · simpa [z] using h
    · exact E.ext.hh a u z (by simpa [z] using h)
  · obtain ⟨h1, h2⟩ := noDrw_get h
    obtain ⟨v, h3, h4⟩ := E.sl i c h1
    refine ⟨v, h3, ?_⟩
    cases c with
    | val d => exact h4
    | own d =>
      obtain ⟨o, u, q1, q2, q3, q4, q5, q6⟩ := h4
      exact ⟨o, u, q1, (fun z => nomatch z), q3, q4, by simp [q2, q5], q6⟩
    | drw => exact absurd rfl h2
    | scr ns => exact h4
theorem we_lend {i : Nat} {d : D} (hi : Γ[i]? = some (some (.own d))) (hΓ : Γ' = noDrw (Γ.set i (some (.val d)))) (h : WE S Γ' e m) : WE S Γ e (m.bind fun x => M.need (flatD x = true) (M.pure x)) := by
  subst hΓ
  intro ω G0 H0 σ G H P Q E hm q
  obtain ⟨G1, s1, E1⟩ := E.freeze hi
  obtain ⟨H1, E2⟩ := E1.nodraw
  refine h none G1 H1 σ G1 H _ Q E2 hm fun x v G' H' hx e1 r => ?_
  refine q x v G H' hx.2 ⟨Same.refl _, fun a u _ z => e1.hh a u (fun w => nomatch w) z, fun a u z => ?_, fun _ _ _ z => z, fun o ho => ?_⟩ (r.flat hx.1)
  · refine e1.le a u ?_
    rcases z with z | ⟨o, z⟩
    · exact .inl (e1.gg _ _ (s1 _ _ z))
    · exact .inr ⟨o, e1.gg _ _ (s1 _ _ z)⟩
  · obtain ⟨g, vd, ds, at_, h1, h2, h3⟩ := E.ext.dr o ho
    exact ⟨g, vd, ds, at_, e1.hh o _ (fun w => nomatch w) h1, h2, h3⟩
end
end Wp
namespace Wp
open PySem PySem.Spec PyProof.Rows L2

/-! ### equations between mirrors -/
section
variable {α β γ σ : Type}
theorem mp_bind {a : α} {k : α → M β} : (M.pure a).bind k = k a := funext fun _ => propext Iff.rfl
theorem m_assoc {m : M α} {k : α → M β} {h : β → M γ} : (m.bind k).bind h = m.bind fun x => (k x).bind h := funext fun _ => propext Iff.rfl
theorem m_eta {m : M α} : m.bind M.pure = m := funext fun _ => propext Iff.rfl
theorem m_need {c : Prop} {m : M α} (h : c) : M.need c m = m := funext fun P => propext ⟨fun x => x.2, fun x => ⟨h, x⟩⟩
theorem m_need_bind {c : Prop} {m : M α} {k : α → M β} : (M.need c m).bind k = M.need c (m.bind k) := funext fun _ => propext Iff.rfl
theorem m_opt {a : α} : M.opt (some a) = M.pure a := funext fun P => propext ⟨fun ⟨x, e, h⟩ => by cases e; exact h, fun h => ⟨a, rfl, h⟩⟩
theorem m_cond_bind {b : Bool} {m n : M α} {k : α → M β} : (cond b m n).bind k = cond b (m.bind k) (n.bind k) := by cases b <;> rfl
theorem m_cond_pure {b : Bool} {x y : α} : cond b (M.pure x) (M.pure y) = M.pure (cond b x y) := by cases b <;> rfl
theorem m_cond_t {m n : M α} : cond true m n = m := by rw [cond_true]
theorem m_cond_f {m n : M α} : cond false m n = n := by rw [cond_false]
theorem m_ret {m : M α} {v : α} (h : Ret m v) (d : ∀ P : α → Prop, m P → P v) : m = M.pure v := funext fun P => propext ⟨d P, h P⟩
theorem ret_of {m : M α} {v : α} (h : m = M.pure v) : Ret m v := by intro P hP; rw [h]; exact hP
theorem mapM_map {f : α → M β} {g : γ → α} : ∀ xs : List γ, M.mapM f (xs.map g) = M.mapM (fun x => f (g x)) xs
  | [] => rfl
  | x :: xs => by
    show M.bind (f (g x)) (fun y => M.bind (M.mapM f (xs.map g)) _) = M.bind (f (g x)) _
    rw [mapM_map xs]
theorem filM_map {f : α → M (Option β)} {g : γ → α} : ∀ xs : List γ, M.filM f (xs.map g) = M.filM (fun x => f (g x)) xs
  | [] => rfl
  | x :: xs => by
    show M.bind (f (g x)) (fun y => M.bind (M.filM f (xs.map g)) _) = M.bind (f (g x)) _
    rw [filM_map xs]
theorem fold_map {f : σ → α → M σ} {g : γ → α} : ∀ (xs : List γ) (s : σ), M.fold f s (xs.map g) = M.fold (fun s x => f s (g x)) s xs
  | [], _ => rfl
  | x :: xs, s => by
    show M.bind (f s (g x)) (fun s' => M.fold f s' (xs.map g)) = M.bind (f s (g x)) _
    congr 1; funext s'; exact fold_map xs s'
theorem foldF_map {f : σ → α → M (Fl σ σ)} {g : γ → α} : ∀ (xs : List γ) (s : σ), M.foldF f s (xs.map g) = M.foldF (fun s x => f s (g x)) s xs
  | [], _ => rfl
  | x :: xs, s => by
    show M.bind (f s (g x)) _ = M.bind (f s (g x)) _
    congr 1; funext r
    cases r <;> first | exact foldF_map xs _ | rfl
/-- a map that gives g -/
theorem mapM_eq_of {f : α → M β} (g : α → β) : ∀ {xs : List α}, (∀ x ∈ xs, f x = M.pure (g x)) → M.mapM f xs = M.pure (xs.map g)
  | [], _ => rfl
  | x :: xs, h => by
    show M.bind (f x) (fun y => M.bind (M.mapM f xs) _) = _
    rw [h x (by simp), mapM_eq_of g fun y hy => h y (by simp [hy])]
    rfl
theorem mapM_pure {f : α → β} {xs : List α} : M.mapM (fun x => M.pure (f x)) xs = M.pure (xs.map f) := mapM_eq_of f fun _ _ => rfl
theorem filM_eq_of {f : α → M (Option β)} (g : α → Option β) : ∀ {xs : List α}, (∀ x ∈ xs, f x = M.pure (g x)) → M.filM f xs = M.pure (xs.filterMap g)
  | [], _ => rfl
  | x :: xs, h => by
    show M.bind (f x) (fun o => M.bind (M.filM f xs) _) = _
    rw [h x (by simp), filM_eq_of g fun y hy => h y (by simp [hy]), List.filterMap_cons]
    cases g x <;> rfl
theorem filM_pure {f : α → Option β} {xs : List α} : M.filM (fun x => M.pure (f x)) xs = M.pure (xs.filterMap f) := filM_eq_of f fun _ _ => rfl
theorem fold_eq_of {f : σ → α → M σ} (g : σ → α → σ) : ∀ {xs : List α} {s : σ}, (∀ s, ∀ x ∈ xs, f s x = M.pure (g s x)) → M.fold f s xs = M.pure (xs.foldl g s)
  | [], _, _ => rfl
  | x :: xs, s, h => by
    show M.bind (f s x) (fun s' => M.fold f s' xs) = _
    rw [h s x (by simp), mp_bind, fold_eq_of g fun t y hy => h t y (by simp [hy])]
    rfl
theorem fold_pure {f : σ → α → σ} {xs : List α} {s : σ} : M.fold (fun s x => M.pure (f s x)) s xs = M.pure (xs.foldl f s) := fold_eq_of f fun _ _ _ => rfl
/-- a fold over data that stand for a state t -/
theorem fold_enc {τ : Type} (e : τ → σ) (g : τ → α → τ) (I : τ → Nat → Prop) {f : σ → α → M σ} : ∀ {xs : List α} {t : τ} (n : Nat), I t n → (∀ t n, ∀ x ∈ xs, I t n → f (e t) x = M.pure (e (g t x)) ∧ I (g t x) (n + 1)) → M.fold f (e t) xs = M.pure (e (xs.foldl g t))
  | [], _, _, _, _ => rfl
  | x :: xs, t, n, hi, h => by
    obtain ⟨h1, h2⟩ := h t n x (by simp) hi
    show M.bind (f (e t) x) (fun s' => M.fold f s' xs) = _
    rw [h1, mp_bind, fold_enc e g I (n + 1) h2 fun t n y hy => h t n y (by simp [hy])]
    rfl
theorem filterMap_cond {p : α → Bool} {g : α → β} {xs : List α} : xs.filterMap (fun x => cond (p x) (some (g x)) none) = (xs.filter p).map g := by
  induction xs with
  | nil => rfl
  | cons x xs ih =>
    rw [List.filterMap_cons, List.filter_cons]
    cases h : p x <;> simp [ih]
end
theorem asI_i {i : Int} : asI (.int i) = M.pure i := funext fun _ => propext Iff.rfl
theorem asB_b {i : Bool} : asB (.bool i) = M.pure i := funext fun _ => propext Iff.rfl
theorem asS_l {ds : List D} : asS (.list ds) = M.pure ds := funext fun _ => propext Iff.rfl
theorem asS_t {ds : List D} : asS (.tuple ds) = M.pure ds := funext fun _ => propext Iff.rfl
theorem seqOf_l {ds : List D} : seqOf (.list ds) = M.pure ds := funext fun _ => propext Iff.rfl
theorem seqOf_t {ds : List D} : seqOf (.tuple ds) = M.pure ds := funext fun _ => propext Iff.rfl
theorem addD_i {a b : Int} : addD (.int a) (.int b) = M.pure (.int (a + b)) := funext fun _ => propext Iff.rfl
theorem iaddD_i {a b : Int} : iaddD (.int a) (.int b) = M.pure (.int (a + b)) := funext fun _ => propext Iff.rfl
theorem subD_i {a b : Int} : subD (.int a) (.int b) = M.pure (.int (a - b)) := funext fun _ => propext Iff.rfl
theorem mulD_i {a b : Int} : mulD (.int a) (.int b) = M.need (small a ∧ small b) (M.pure (.int (a * b))) := funext fun _ => propext Iff.rfl
theorem fdivD_i {a b : Int} : fdivD (.int a) (.int b) = M.need ((0 < b ∧ small b) ∨ (b < 0 ∧ -1073741824 < b)) (M.pure (.int (a.fdiv b))) := funext fun _ => propext Iff.rfl
theorem modD_i {a b : Int} : modD (.int a) (.int b) = M.need (b ≠ 0) (M.pure (.int (a.fmod b))) := funext fun _ => propext Iff.rfl
theorem negD_i {a : Int} : negD (.int a) = M.pure (.int (-a)) := funext fun _ => propext Iff.rfl
theorem absD_i {a : Int} : absD (.int a) = M.pure (.int (if a < 0 then -a else a)) := funext fun _ => propext Iff.rfl
theorem intD_i {a : Int} : intD (.int a) = M.pure (.int a) := funext fun _ => propext Iff.rfl
theorem max2D_i {a b : Int} : max2D (.int a) (.int b) = M.pure (.int (max a b)) := funext fun _ => propext Iff.rfl
theorem min2D_i {a b : Int} : min2D (.int a) (.int b) = M.pure (.int (min a b)) := funext fun _ => propext Iff.rfl
theorem ltD_i {a b : Int} : ltD (.int a) (.int b) = M.pure (.bool (decide (a < b))) := funext fun _ => propext Iff.rfl
theorem leD_i {a b : Int} : leD (.int a) (.int b) = M.pure (.bool (decide (a ≤ b))) := funext fun _ => propext Iff.rfl
theorem gtD_i {a b : Int} : gtD (.int a) (.int b) = M.pure (.bool (decide (b < a))) := funext fun _ => propext Iff.rfl
theorem geD_i {a b : Int} : geD (.int a) (.int b) = M.pure (.bool (decide (b ≤ a))) := funext fun _ => propext Iff.rfl
theorem eqD_i {a b : Int} : eqD (.int a) (.int b) = M.pure (.bool (decide (a = b))) := funext fun P => eqD_int (P := P)
theorem neD_i {a b : Int} : neD (.int a) (.int b) = M.pure (.bool (!decide (a = b))) := funext fun P => neD_int (P := P)
theorem lenD_l {ds : List D} : lenD (.list ds) = M.pure (.int ds.length) := funext fun _ => propext Iff.rfl
theorem lenD_t {ds : List D} : lenD (.tuple ds) = M.pure (.int ds.length) := funext fun _ => propext Iff.rfl
theorem tupleD_l {ds : List D} : tupleD (.list ds) = M.pure (.tuple ds) := funext fun _ => propext Iff.rfl
theorem tupleD_t {ds : List D} : tupleD (.tuple ds) = M.pure (.tuple ds) := funext fun _ => propext Iff.rfl
theorem listD_l {ds : List D} : listD (.list ds) = M.pure (.list ds) := funext fun _ => propext Iff.rfl
theorem listD_t {ds : List D} : listD (.tuple ds) = M.pure (.list ds) := funext fun _ => propext Iff.rfl
theorem list2D_l {ds : List D} : list2D (.list ds) = M.pure (.list ds) := funext fun _ => propext Iff.rfl
theorem list2D_t {ds : List D} : list2D (.tuple ds) = M.pure (.list ds) := funext fun _ => propext Iff.rfl
theorem list2D_d {es : List (D × D)} (h : marked es = false) : list2D (.dict es) = M.pure (.list (es.map (·.1))) := m_need h
theorem slD_l {ds : List D} {l h : Option Int} : slD (.list ds) l h = M.pure (.list (cutD ds l h)) := funext fun _ => propext Iff.rfl
theorem slD_t {ds : List D} {l h : Option Int} : slD (.tuple ds) l h = M.pure (.tuple (cutD ds l h)) := funext fun _ => propext Iff.rfl
theorem revD_l {ds : List D} : revD (.list ds) = M.pure (.list ds.reverse) := funext fun _ => propext Iff.rfl
theorem truthD_b {b : Bool} : truthD (.bool b) = M.pure b := funext fun _ => propext Iff.rfl
theorem truthD_n : truthD .none = M.pure false := funext fun _ => propext Iff.rfl
theorem ixD_l {ds : List D} {i : Int} : ixD (.list ds) (.int i) = M.opt (atI ds i) := funext fun _ => propext Iff.rfl
theorem ixD_t {ds : List D} {i : Int} : ixD (.tuple ds) (.int i) = M.opt (atI ds i) := funext fun _ => propext Iff.rfl
theorem un2_t {a b : D} : un2 (.tuple [a, b]) = M.pure (a, b) := funext fun _ => propext Iff.rfl
theorem un3_t {a b c : D} : un3 (.tuple [a, b, c]) = M.pure (a, b, c) := funext fun _ => propext Iff.rfl
theorem un4_t {a b c d : D} : un4 (.tuple [a, b, c, d]) = M.pure (a, b, c, d) := funext fun _ => propext Iff.rfl
theorem zipI_l {xs ys : List D} : zipI (.list xs) (.list ys) = M.pure (zipD xs ys) := funext fun _ => propext Iff.rfl
theorem zipI_t {xs ys : List D} : zipI (.tuple xs) (.tuple ys) = M.pure (zipD xs ys) := funext fun _ => propext Iff.rfl
theorem isD_n {x : D} : isD x .none = M.pure (.bool (isNoneD x)) := by cases x <;> exact funext fun _ => propext Iff.rfl
theorem isnD_n {x : D} : isnD x .none = M.pure (.bool (!isNoneD x)) := by cases x <;> exact funext fun _ => propext Iff.rfl
theorem isD_b {a b : Bool} : isD (.bool a) (.bool b) = M.pure (.bool (decide (a = b))) := funext fun _ => propext Iff.rfl
theorem isnD_b {a b : Bool} : isnD (.bool a) (.bool b) = M.pure (.bool (!decide (a = b))) := funext fun _ => propext Iff.rfl
theorem addD_l {xs ys : List D} (h : xs.length + ys.length ≤ 16777216) : addD (.list xs) (.list ys) = M.pure (.list (xs ++ ys)) := funext fun P => propext ⟨fun x => x.2, fun x => ⟨h, x⟩⟩
theorem addD_t {xs ys : List D} (h : xs.length + ys.length ≤ 16777216) : addD (.tuple xs) (.tuple ys) = M.pure (.tuple (xs ++ ys)) := funext fun P => propext ⟨fun x => x.2, fun x => ⟨h, x⟩⟩
theorem addLD_l {xs ys : List D} (h : xs.length + ys.length ≤ 16777216) : addLD (.list xs) (.list ys) = M.pure (.list (xs ++ ys)) := funext fun P => propext ⟨fun x => x.2, fun x => ⟨h, x⟩⟩
theorem mulD_l {xs : List D} {k : Int} (h : -1000000 ≤ k ∧ k ≤ 1000000 ∧ xs.length * k.toNat ≤ 16777216) : mulD (.list xs) (.int k) = M.pure (.list (List.replicate k.toNat xs).flatten) := funext fun P => propext ⟨fun x => x.2, fun x => ⟨h, x⟩⟩
theorem mulLD_l {xs : List D} {k : Int} (h : -1000000 ≤ k ∧ k ≤ 1000000 ∧ xs.length * k.toNat ≤ 16777216) : mulLD (.list xs) (.int k) = M.pure (.list (List.replicate k.toNat xs).flatten) := funext fun P => propext ⟨fun x => x.2, fun x => ⟨h, x⟩⟩
theorem mul2D_t {xs : List D} {k : Int} (h : -1000 ≤ k ∧ k ≤ 1000 ∧ xs.length ≤ 1000) : mul2D (.tuple xs) (.int k) = M.pure (.tuple (List.replicate k.toNat xs).flatten) := funext fun P => propext ⟨fun x => x.2, fun x => ⟨h, x⟩⟩
theorem appD_l {ds : List D} {y : D} (h : ds.length < 16777216) : appD (.list ds) y = M.pure (.list (ds ++ [y])) := funext fun P => propext ⟨fun x => x.2, fun x => ⟨h, x⟩⟩
theorem rep_one {x : D} {n : Nat} : (List.replicate n [x]).flatten = List.replicate n x := by
  induction n with
  | zero => rfl
  | succ n ih => rw [List.replicate_succ, List.flatten_cons, ih]; rfl
theorem mulD_s {a b : Int} (h : small a) (k : small b) : mulD (.int a) (.int b) = M.pure (.int (a * b)) := by rw [mulD_i, m_need ⟨h, k⟩]
theorem rngD_n {n : Int} (h : n ≤ 16777216) (h0 : -4611686018427387904 ≤ n) : rngD 0 n = M.pure ((List.range n.toNat).map fun (i : Nat) => .int (i : Int)) := by
  unfold rngD
  rw [m_need ⟨by omega, by omega, by omega, by omega, by omega⟩]
  unfold rangeD
  simp
theorem rngD_ab {a b : Int} (h1 : -4611686018427387904 ≤ a) (h2 : a < 4611686018427387904) (h3 : -4611686018427387904 ≤ b) (h4 : b < 4611686018427387904) (h5 : b - a ≤ 16777216) : rngD a b = M.pure ((List.range (b - a).toNat).map fun (i : Nat) => .int (a + (i : Int))) := by
  unfold rngD
  rw [m_need ⟨h1, h2, h3, h4, h5⟩]
  rfl
theorem eqD_s {x y : D} (h : sh 16 x = true) (k : sh 16 y = true) : eqD x y = M.pure (.bool (PyData.eqv x y)) := by
  unfold eqD
  rw [m_need (by rw [h, k]; rfl)]
theorem neD_s {x y : D} (h : sh 16 x = true) (k : sh 16 y = true) : neD x y = M.pure (.bool (!PyData.eqv x y)) := by
  unfold neD
  rw [m_need (by rw [h, k]; rfl)]
theorem eqv_self {x : D} (h : sh 16 x = true) : PyData.eqv x x = true := SeqAt.eqv_refl x (sh_lay x 16 h).1
theorem eqD_same {x : D} (h : sh 16 x = true) : eqD x x = M.pure (.bool true) := by rw [eqD_s h h, eqv_self h]
theorem neD_same {x : D} (h : sh 16 x = true) : neD x x = M.pure (.bool false) := by rw [neD_s h h, eqv_self h]; rfl
theorem isiD_t {T : String} {xs : List D} : isiD T (.tuple xs) = (M.opt (kitB "tuple" T)).bind fun b => M.pure (.bool b) := funext fun P => propext ⟨fun x => x.2, fun x => ⟨rfl, x⟩⟩
theorem isiD_l {T : String} {xs : List D} : isiD T (.list xs) = (M.opt (kitB "list" T)).bind fun b => M.pure (.bool b) := funext fun P => propext ⟨fun x => x.2, fun x => ⟨rfl, x⟩⟩
theorem isiD_i {T : String} {x : Int} : isiD T (.int x) = (M.opt (kitB "int" T)).bind fun b => M.pure (.bool b) := funext fun P => propext ⟨fun x => x.2, fun x => ⟨rfl, x⟩⟩
theorem isiD_b {T : String} {x : Bool} : isiD T (.bool x) = (M.opt (kitB "bool" T)).bind fun b => M.pure (.bool b) := funext fun P => propext ⟨fun x => x.2, fun x => ⟨rfl, x⟩⟩
theorem isiD_s {T : String} {x : Str} : isiD T (.str x) = (M.opt (kitB "str" T)).bind fun b => M.pure (.bool b) := funext fun P => propext ⟨fun x => x.2, fun x => ⟨rfl, x⟩⟩
theorem isiD_n {T : String} : isiD T .none = (M.opt (kitB (tyD .none) T)).bind fun b => M.pure (.bool b) := funext fun P => propext ⟨fun x => x.2, fun x => ⟨rfl, x⟩⟩
end Wp
namespace Wp
open PySem PySem.Spec PyProof.Rows L2

/-! ### mirrors of defs that many laws share -/
def m__law_same : Nat → D → D → M D
  | 0, _, _ => M.fail
  | n_ + 1, seen_, due_ =>
  ((((M.pure due_).bind fun x1 => isiD "tuple" x1).bind fun x2 => truthD x2).bind fun b3 => bif b3 then 
    ((((((M.pure seen_).bind fun x4 => isiD "tuple" x4).bind fun x5 => truthD x5).bind fun b6 => M.pure (!b6)).bind fun b12 => bif b12 then M.pure true else (((M.pure seen_).bind fun x7 => lenD x7).bind fun x9 => (((M.pure due_).bind fun x8 => lenD x8).bind fun x10 => ((neD x9 x10).bind fun z11 => asB z11)))).bind fun b13 => bif b13 then 
      (M.pure (.bool false)) else
    (((((M.pure due_).bind fun x14 => lenD x14).bind fun x15 => ((asI x15).bind fun i16 => rngD 0 i16)).bind fun l19 => ((M.filM (fun x18 => ((M.pure x18).bind fun a17 => ((((((M.pure seen_).bind fun x21 => ((M.pure a17).bind fun x22 => ixD x21 x22)).bind fun x23 => (((M.pure due_).bind fun x24 => ((M.pure a17).bind fun x25 => ixD x24 x25)).bind fun x26 => m__law_same n_ x23 x26)).bind fun x27 => truthD x27).bind fun b28 => M.pure (!b28)).bind fun b29 => bif b29 then ((M.pure a17).bind fun x30 => M.pure (some x30)) else M.pure none))) l19).bind fun l20 => M.pure (.list l20))).bind fun x32 => (((M.pure []).bind fun x31 => M.pure (.list x31)).bind fun x33 => eqD x32 x33))) else
  (((M.pure due_).bind fun x34 => ((M.pure .none).bind fun x35 => ((isD x34 x35).bind fun z36 => asB z36))).bind fun b37 => bif b37 then 
    ((M.pure seen_).bind fun x38 => ((M.pure .none).bind fun x39 => isD x38 x39)) else
  ((((M.pure due_).bind fun x40 => isiD "str" x40).bind fun x41 => truthD x41).bind fun b42 => bif b42 then 
    (((M.pure seen_).bind fun x43 => isiD "str" x43).bind fun x46 => ((asB x46).bind fun b47 => bif b47 then ((M.pure seen_).bind fun x44 => ((M.pure due_).bind fun x45 => eqD x44 x45)) else M.pure (.bool false))) else
  (((M.pure seen_).bind fun x48 => isiD "int" x48).bind fun x57 => ((asB x57).bind fun b58 => bif b58 then ((((M.pure seen_).bind fun x49 => isiD "bool" x49).bind fun x51 => (((M.pure due_).bind fun x50 => isiD "bool" x50).bind fun x52 => eqD x51 x52)).bind fun x55 => ((asB x55).bind fun b56 => bif b56 then ((M.pure seen_).bind fun x53 => ((M.pure due_).bind fun x54 => eqD x53 x54)) else M.pure (.bool false))) else M.pure (.bool false))))))
def m__law_says (seen_ : D) (due_ : D) : M D :=
  (((M.pure seen_).bind fun x1 => isiD "bool" x1).bind fun x4 => ((asB x4).bind fun b5 => bif b5 then ((M.pure seen_).bind fun x2 => ((M.pure due_).bind fun x3 => eqD x2 x3)) else M.pure (.bool false)))
def m__law_pick (rows_ : D) : M D :=
  ((M.pure rows_).bind fun x1 => ((((M.pure rows_).bind fun x2 => lenD x2).bind fun x3 => m__law_next x3).bind fun x4 => ixD x1 x4))
/-! ### isinstance -/
def isTupB : D → Bool | .tuple _ => true | _ => false
def isListB : D → Bool | .list _ => true | _ => false
def isDictB : D → Bool | .dict _ => true | _ => false
def isStrB : D → Bool | .str _ => true | _ => false
def isBoolB : D → Bool | .bool _ => true | _ => false
def isIntB : D → Bool | .int _ => true | .bool _ => true | _ => false
theorem isi_tuple {x : D} (h : plainD x = true) : isiD "tuple" x = M.pure (.bool (isTupB x)) := by
  unfold isiD
  rw [m_need h]
  have : kitB (tyD x) "tuple" = some (isTupB x) := by cases x <;> simp only [tyD, isTupB, isListB, isDictB, isStrB, isBoolB, isIntB] <;> decide +kernel
  rw [this, m_opt, mp_bind]
theorem isi_list {x : D} (h : plainD x = true) : isiD "list" x = M.pure (.bool (isListB x)) := by
  unfold isiD
  rw [m_need h]
  have : kitB (tyD x) "list" = some (isListB x) := by cases x <;> simp only [tyD, isTupB, isListB, isDictB, isStrB, isBoolB, isIntB] <;> decide +kernel
  rw [this, m_opt, mp_bind]
theorem isi_dict {x : D} (h : plainD x = true) : isiD "dict" x = M.pure (.bool (isDictB x)) := by
  unfold isiD
  rw [m_need h]
  have : kitB (tyD x) "dict" = some (isDictB x) := by cases x <;> simp only [tyD, isTupB, isListB, isDictB, isStrB, isBoolB, isIntB] <;> decide +kernel
  rw [this, m_opt, mp_bind]
theorem isi_str {x : D} (h : plainD x = true) : isiD "str" x = M.pure (.bool (isStrB x)) := by
  unfold isiD
  rw [m_need h]
  have : kitB (tyD x) "str" = some (isStrB x) := by cases x <;> simp only [tyD, isTupB, isListB, isDictB, isStrB, isBoolB, isIntB] <;> decide +kernel
  rw [this, m_opt, mp_bind]
theorem isi_bool {x : D} (h : plainD x = true) : isiD "bool" x = M.pure (.bool (isBoolB x)) := by
  unfold isiD
  rw [m_need h]
  have : kitB (tyD x) "bool" = some (isBoolB x) := by cases x <;> simp only [tyD, isTupB, isListB, isDictB, isStrB, isBoolB, isIntB] <;> decide +kernel
  rw [this, m_opt, mp_bind]
theorem isi_int {x : D} (h : plainD x = true) : isiD "int" x = M.pure (.bool (isIntB x)) := by
  unfold isiD
  rw [m_need h]
  have : kitB (tyD x) "int" = some (isIntB x) := by cases x <;> simp only [tyD, isTupB, isListB, isDictB, isStrB, isBoolB, isIntB] <;> decide +kernel
  rw [this, m_opt, mp_bind]
section
variable {α : Type} {b : Bool} {i : Int} {x : Str} {xs : List D}
theorem isi_tuple_n : isiD "tuple" .none = M.pure (.bool false) := isi_tuple (x := .none) rfl
theorem isi_tuple_b : isiD "tuple" (.bool b) = M.pure (.bool false) := isi_tuple (x := (.bool b)) rfl
theorem isi_tuple_i : isiD "tuple" (.int i) = M.pure (.bool false) := isi_tuple (x := (.int i)) rfl
theorem isi_tuple_s : isiD "tuple" (.str x) = M.pure (.bool false) := isi_tuple (x := (.str x)) rfl
theorem isi_tuple_l : isiD "tuple" (.list xs) = M.pure (.bool false) := isi_tuple (x := (.list xs)) rfl
theorem isi_tuple_t : isiD "tuple" (.tuple xs) = M.pure (.bool true) := isi_tuple (x := (.tuple xs)) rfl
theorem isi_list_n : isiD "list" .none = M.pure (.bool false) := isi_list (x := .none) rfl
theorem isi_list_b : isiD "list" (.bool b) = M.pure (.bool false) := isi_list (x := (.bool b)) rfl
theorem isi_list_i : isiD "list" (.int i) = M.pure (.bool false) := isi_list (x := (.int i)) rfl
theorem isi_list_s : isiD "list" (.str x) = M.pure (.bool false) := isi_list (x := (.str x)) rfl
theorem isi_list_l : isiD "list" (.list xs) = M.pure (.bool true) := isi_list (x := (.list xs)) rfl
theorem isi_list_t : isiD "list" (.tuple xs) = M.pure (.bool false) := isi_list (x := (.tuple xs)) rfl
theorem isi_dict_n : isiD "dict" .none = M.pure (.bool false) := isi_dict (x := .none) rfl
theorem isi_dict_b : isiD "dict" (.bool b) = M.pure (.bool false) := isi_dict (x := (.bool b)) rfl
theorem isi_dict_i : isiD "dict" (.int i) = M.pure (.bool false) := isi_dict (x := (.int i)) rfl
theorem isi_dict_s : isiD "dict" (.str x) = M.pure (.bool false) := isi_dict (x := (.str x)) rfl
theorem isi_dict_l : isiD "dict" (.list xs) = M.pure (.bool false) := isi_dict (x := (.list xs)) rfl
theorem isi_dict_t : isiD "dict" (.tuple xs) = M.pure (.bool false) := isi_dict (x := (.tuple xs)) rfl
theorem isi_str_n : isiD "str" .none = M.pure (.bool false) := isi_str (x := .none) rfl
theorem isi_str_b : isiD "str" (.bool b) = M.pure (.bool false) := isi_str (x := (.bool b)) rfl
theorem isi_str_i : isiD "str" (.int i) = M.pure (.bool false) := isi_str (x := (.int i)) rfl
theorem isi_str_s : isiD "str" (.str x) = M.pure (.bool true) := isi_str (x := (.str x)) rfl
theorem isi_str_l : isiD "str" (.list xs) = M.pure (.bool false) := isi_str (x := (.list xs)) rfl
theorem isi_str_t : isiD "str" (.tuple xs) = M.pure (.bool false) := isi_str (x := (.tuple xs)) rfl
theorem isi_bool_n : isiD "bool" .none = M.pure (.bool false) := isi_bool (x := .none) rfl
theorem isi_bool_b : isiD "bool" (.bool b) = M.pure (.bool true) := isi_bool (x := (.bool b)) rfl
theorem isi_bool_i : isiD "bool" (.int i) = M.pure (.bool false) := isi_bool (x := (.int i)) rfl
theorem isi_bool_s : isiD "bool" (.str x) = M.pure (.bool false) := isi_bool (x := (.str x)) rfl
theorem isi_bool_l : isiD "bool" (.list xs) = M.pure (.bool false) := isi_bool (x := (.list xs)) rfl
theorem isi_bool_t : isiD "bool" (.tuple xs) = M.pure (.bool false) := isi_bool (x := (.tuple xs)) rfl
theorem isi_int_n : isiD "int" .none = M.pure (.bool false) := isi_int (x := .none) rfl
theorem isi_int_b : isiD "int" (.bool b) = M.pure (.bool true) := isi_int (x := (.bool b)) rfl
theorem isi_int_i : isiD "int" (.int i) = M.pure (.bool true) := isi_int (x := (.int i)) rfl
theorem isi_int_s : isiD "int" (.str x) = M.pure (.bool false) := isi_int (x := (.str x)) rfl
theorem isi_int_l : isiD "int" (.list xs) = M.pure (.bool false) := isi_int (x := (.list xs)) rfl
theorem isi_int_t : isiD "int" (.tuple xs) = M.pure (.bool false) := isi_int (x := (.tuple xs)) rfl
theorem m_needT {m : M α} : M.need True m = m := m_need trivial
theorem isNone_n : isNoneD .none = true := by unfold isNoneD; rfl
theorem isNone_i : isNoneD (.int i) = false := by unfold isNoneD; rfl
theorem isNone_b : isNoneD (.bool b) = false := by unfold isNoneD; rfl
theorem isNone_s : isNoneD (.str x) = false := by unfold isNoneD; rfl
theorem isNone_l : isNoneD (.list xs) = false := by unfold isNoneD; rfl
theorem isNone_t : isNoneD (.tuple xs) = false := by unfold isNoneD; rfl
theorem c_t {x y : α} : cond true x y = x := by rw [cond_true]
theorem c_f {x y : α} : cond false x y = y := by rw [cond_false]
end
/-! ### the run of a text, by equations -/
/-! ### _law_same, _law_says -/
-- what _law_same can look at, n parts deep
mutual
def okS : Nat → D → Bool
  | 0, _ => false
  | _ + 1, .none => true
  | _ + 1, .bool _ => true
  | _ + 1, .int _ => true
  | _ + 1, .str x => PyData.strOk x
  | n + 1, .tuple xs => decide (xs.length ≤ 16777216) && okSA n xs
  | _ + 1, _ => false
def okSA : Nat → List D → Bool
  | _, [] => true
  | n, x :: xs => okS n x && okSA n xs
end
theorem okSA_mem {n : Nat} : ∀ {xs : List D}, okSA n xs = true → ∀ x ∈ xs, okS n x = true
  | x :: xs, h, y, hy => by
    have h' : okS n x = true ∧ okSA n xs = true := by simpa [okSA] using h
    rcases List.mem_cons.mp hy with rfl | hy
    · exact h'.1
    · exact okSA_mem h'.2 y hy
theorem okSA_of {n : Nat} : ∀ {xs : List D}, (∀ x ∈ xs, okS n x = true) → okSA n xs = true
  | [], _ => by simp [okSA]
  | x :: xs, h => by
    rw [okSA, h x (by simp), okSA_of fun y hy => h y (by simp [hy])]; rfl
theorem okS_plain {n : Nat} {d : D} (h : okS n d = true) : plainD d = true := by
  cases n with
  | zero => simp [okS] at h
  | succ n => cases d <;> first | rfl | simp [okS] at h
theorem e_same : ∀ (n : Nat) (d : D), okS n d = true → m__law_same n d d = M.pure (.bool true)
  | 0, d, h => by simp [okS] at h
  | n + 1, .none, h => by
    simp (disch := first | assumption | rfl | omega | decide) only [mp_bind, m_assoc, m_opt, m_cond_pure, m_cond_bind, m_cond_t, m_cond_f, mapM_map, filM_map, fold_map, foldF_map, mapM_pure, filM_pure, fold_pure, asI_i, asB_b, asS_l, asS_t, seqOf_l, seqOf_t, addD_i, iaddD_i, subD_i, fdivD_i, modD_i, negD_i, absD_i, intD_i, max2D_i, min2D_i, ltD_i, leD_i, gtD_i, geD_i, eqD_i, neD_i, lenD_l, lenD_t, tupleD_l, tupleD_t, listD_l, list2D_l, list2D_t, listD_t, slD_l, slD_t, revD_l, truthD_b, truthD_n, ixD_l, ixD_t, un2_t, un3_t, un4_t, zipI_l, zipI_t, isD_n, isnD_n, isNone_n, isNone_i, isNone_b, isNone_s, isNone_l, isNone_t, m_eta, Bool.not_true, Bool.not_false, isL_list, atI_0, atI_1, atI_2, atI_3, c_t, c_f, m_needT, isi_tuple_n, isi_tuple_b, isi_tuple_i, isi_tuple_s, isi_tuple_l, isi_tuple_t, isi_list_n, isi_list_b, isi_list_i, isi_list_s, isi_list_l, isi_list_t, isi_dict_n, isi_dict_b, isi_dict_i, isi_dict_s, isi_dict_l, isi_dict_t, isi_str_n, isi_str_b, isi_str_i, isi_str_s, isi_str_l, isi_str_t, isi_bool_n, isi_bool_b, isi_bool_i, isi_bool_s, isi_bool_l, isi_bool_t, isi_int_n, isi_int_b, isi_int_i, isi_int_s, isi_int_l, isi_int_t, bind_run, pure_run, m__law_same]
  | n + 1, .bool b, h => by
    simp (disch := first | assumption | rfl | omega | decide) only [mp_bind, m_assoc, m_opt, m_cond_pure, m_cond_bind, m_cond_t, m_cond_f, mapM_map, filM_map, fold_map, foldF_map, mapM_pure, filM_pure, fold_pure, asI_i, asB_b, asS_l, asS_t, seqOf_l, seqOf_t, addD_i, iaddD_i, subD_i, fdivD_i, modD_i, negD_i, absD_i, intD_i, max2D_i, min2D_i, ltD_i, leD_i, gtD_i, geD_i, eqD_i, neD_i, lenD_l, lenD_t, tupleD_l, tupleD_t, listD_l, list2D_l, list2D_t, listD_t, slD_l, slD_t, revD_l, truthD_b, truthD_n, ixD_l, ixD_t, un2_t, un3_t, un4_t, zipI_l, zipI_t, isD_n, isnD_n, isNone_n, isNone_i, isNone_b, isNone_s, isNone_l, isNone_t, m_eta, Bool.not_true, Bool.not_false, isL_list, atI_0, atI_1, atI_2, atI_3, c_t, c_f, m_needT, isi_tuple_n, isi_tuple_b, isi_tuple_i, isi_tuple_s, isi_tuple_l, isi_tuple_t, isi_list_n, isi_list_b, isi_list_i, isi_list_s, isi_list_l, isi_list_t, isi_dict_n, isi_dict_b, isi_dict_i, isi_dict_s, isi_dict_l, isi_dict_t, isi_str_n, isi_str_b, isi_str_i, isi_str_s, isi_str_l, isi_str_t, isi_bool_n, isi_bool_b, isi_bool_i, isi_bool_s, isi_bool_l, isi_bool_t, isi_int_n, isi_int_b, isi_int_i, isi_int_s, isi_int_l, isi_int_t, bind_run, pure_run, m__law_same, isTupB, isStrB, isIntB, isBoolB, eqD_same (sh_bool), sh_bool]
  | n + 1, .int b, h => by
    simp (disch := first | assumption | rfl | omega | decide) only [mp_bind, m_assoc, m_opt, m_cond_pure, m_cond_bind, m_cond_t, m_cond_f, mapM_map, filM_map, fold_map, foldF_map, mapM_pure, filM_pure, fold_pure, asI_i, asB_b, asS_l, asS_t, seqOf_l, seqOf_t, addD_i, iaddD_i, subD_i, fdivD_i, modD_i, negD_i, absD_i, intD_i, max2D_i, min2D_i, ltD_i, leD_i, gtD_i, geD_i, eqD_i, neD_i, lenD_l, lenD_t, tupleD_l, tupleD_t, listD_l, list2D_l, list2D_t, listD_t, slD_l, slD_t, revD_l, truthD_b, truthD_n, ixD_l, ixD_t, un2_t, un3_t, un4_t, zipI_l, zipI_t, isD_n, isnD_n, isNone_n, isNone_i, isNone_b, isNone_s, isNone_l, isNone_t, m_eta, Bool.not_true, Bool.not_false, isL_list, atI_0, atI_1, atI_2, atI_3, c_t, c_f, m_needT, isi_tuple_n, isi_tuple_b, isi_tuple_i, isi_tuple_s, isi_tuple_l, isi_tuple_t, isi_list_n, isi_list_b, isi_list_i, isi_list_s, isi_list_l, isi_list_t, isi_dict_n, isi_dict_b, isi_dict_i, isi_dict_s, isi_dict_l, isi_dict_t, isi_str_n, isi_str_b, isi_str_i, isi_str_s, isi_str_l, isi_str_t, isi_bool_n, isi_bool_b, isi_bool_i, isi_bool_s, isi_bool_l, isi_bool_t, isi_int_n, isi_int_b, isi_int_i, isi_int_s, isi_int_l, isi_int_t, bind_run, pure_run, m__law_same, isTupB, isStrB, isIntB, isBoolB, eqD_same (sh_bool), sh_bool, decide_true]
  | n + 1, .str b, h => by
    have hs : sh 16 (.str b) = true := by simpa [sh, okS] using h
    simp (disch := first | assumption | rfl | omega | decide) only [mp_bind, m_assoc, m_opt, m_cond_pure, m_cond_bind, m_cond_t, m_cond_f, mapM_map, filM_map, fold_map, foldF_map, mapM_pure, filM_pure, fold_pure, asI_i, asB_b, asS_l, asS_t, seqOf_l, seqOf_t, addD_i, iaddD_i, subD_i, fdivD_i, modD_i, negD_i, absD_i, intD_i, max2D_i, min2D_i, ltD_i, leD_i, gtD_i, geD_i, eqD_i, neD_i, lenD_l, lenD_t, tupleD_l, tupleD_t, listD_l, list2D_l, list2D_t, listD_t, slD_l, slD_t, revD_l, truthD_b, truthD_n, ixD_l, ixD_t, un2_t, un3_t, un4_t, zipI_l, zipI_t, isD_n, isnD_n, isNone_n, isNone_i, isNone_b, isNone_s, isNone_l, isNone_t, m_eta, Bool.not_true, Bool.not_false, isL_list, atI_0, atI_1, atI_2, atI_3, c_t, c_f, m_needT, isi_tuple_n, isi_tuple_b, isi_tuple_i, isi_tuple_s, isi_tuple_l, isi_tuple_t, isi_list_n, isi_list_b, isi_list_i, isi_list_s, isi_list_l, isi_list_t, isi_dict_n, isi_dict_b, isi_dict_i, isi_dict_s, isi_dict_l, isi_dict_t, isi_str_n, isi_str_b, isi_str_i, isi_str_s, isi_str_l, isi_str_t, isi_bool_n, isi_bool_b, isi_bool_i, isi_bool_s, isi_bool_l, isi_bool_t, isi_int_n, isi_int_b, isi_int_i, isi_int_s, isi_int_l, isi_int_t, bind_run, pure_run, m__law_same, isTupB, isStrB, eqD_same hs]
  | n + 1, .list xs, h => by simp [okS] at h
  | n + 1, .dict xs, h => by simp [okS] at h
  | n + 1, .tuple xs, h => by
    have h' : xs.length ≤ 16777216 ∧ okSA n xs = true := by simpa [okS] using h
    have hz := h'.1
    simp (disch := first | assumption | rfl | omega | decide) only [mp_bind, m_assoc, m_opt, m_cond_pure, m_cond_bind, m_cond_t, m_cond_f, mapM_map, filM_map, fold_map, foldF_map, mapM_pure, filM_pure, fold_pure, asI_i, asB_b, asS_l, asS_t, seqOf_l, seqOf_t, addD_i, iaddD_i, subD_i, fdivD_i, modD_i, negD_i, absD_i, intD_i, max2D_i, min2D_i, ltD_i, leD_i, gtD_i, geD_i, eqD_i, neD_i, lenD_l, lenD_t, tupleD_l, tupleD_t, listD_l, list2D_l, list2D_t, listD_t, slD_l, slD_t, revD_l, truthD_b, truthD_n, ixD_l, ixD_t, un2_t, un3_t, un4_t, zipI_l, zipI_t, isD_n, isnD_n, isNone_n, isNone_i, isNone_b, isNone_s, isNone_l, isNone_t, m_eta, Bool.not_true, Bool.not_false, isL_list, atI_0, atI_1, atI_2, atI_3, c_t, c_f, m_needT, isi_tuple_n, isi_tuple_b, isi_tuple_i, isi_tuple_s, isi_tuple_l, isi_tuple_t, isi_list_n, isi_list_b, isi_list_i, isi_list_s, isi_list_l, isi_list_t, isi_dict_n, isi_dict_b, isi_dict_i, isi_dict_s, isi_dict_l, isi_dict_t, isi_str_n, isi_str_b, isi_str_i, isi_str_s, isi_str_l, isi_str_t, isi_bool_n, isi_bool_b, isi_bool_i, isi_bool_s, isi_bool_l, isi_bool_t, isi_int_n, isi_int_b, isi_int_i, isi_int_s, isi_int_l, isi_int_t, bind_run, pure_run, m__law_same, isTupB, decide_true, rngD_n (show ((xs.length : Nat) : Int) ≤ 16777216 by omega) (show (-4611686018427387904 : Int) ≤ (xs.length : Nat) by omega)]
    rw [filM_eq_of (fun _ => none) (fun i hi => ?_)]
    · have e : ∀ l : List Nat, l.filterMap (fun _ => (none : Option D)) = [] := fun l => by induction l <;> simp_all
      simp (disch := first | assumption | rfl | omega | decide) only [mp_bind, m_assoc, m_opt, m_cond_pure, m_cond_bind, m_cond_t, m_cond_f, mapM_map, filM_map, fold_map, foldF_map, mapM_pure, filM_pure, fold_pure, asI_i, asB_b, asS_l, asS_t, seqOf_l, seqOf_t, addD_i, iaddD_i, subD_i, fdivD_i, modD_i, negD_i, absD_i, intD_i, max2D_i, min2D_i, ltD_i, leD_i, gtD_i, geD_i, eqD_i, neD_i, lenD_l, lenD_t, tupleD_l, tupleD_t, listD_l, list2D_l, list2D_t, listD_t, slD_l, slD_t, revD_l, truthD_b, truthD_n, ixD_l, ixD_t, un2_t, un3_t, un4_t, zipI_l, zipI_t, isD_n, isnD_n, isNone_n, isNone_i, isNone_b, isNone_s, isNone_l, isNone_t, m_eta, Bool.not_true, Bool.not_false, isL_list, atI_0, atI_1, atI_2, atI_3, c_t, c_f, m_needT, isi_tuple_n, isi_tuple_b, isi_tuple_i, isi_tuple_s, isi_tuple_l, isi_tuple_t, isi_list_n, isi_list_b, isi_list_i, isi_list_s, isi_list_l, isi_list_t, isi_dict_n, isi_dict_b, isi_dict_i, isi_dict_s, isi_dict_l, isi_dict_t, isi_str_n, isi_str_b, isi_str_i, isi_str_s, isi_str_l, isi_str_t, isi_bool_n, isi_bool_b, isi_bool_i, isi_bool_s, isi_bool_l, isi_bool_t, isi_int_n, isi_int_b, isi_int_i, isi_int_s, isi_int_l, isi_int_t, bind_run, pure_run, e, eqD_same (x := .list []) (by simp)]
    · have hi' : i < xs.length := by simpa using List.mem_range.mp hi
      simp (disch := first | assumption | rfl | omega | decide) only [mp_bind, m_assoc, m_opt, m_cond_pure, m_cond_bind, m_cond_t, m_cond_f, mapM_map, filM_map, fold_map, foldF_map, mapM_pure, filM_pure, fold_pure, asI_i, asB_b, asS_l, asS_t, seqOf_l, seqOf_t, addD_i, iaddD_i, subD_i, fdivD_i, modD_i, negD_i, absD_i, intD_i, max2D_i, min2D_i, ltD_i, leD_i, gtD_i, geD_i, eqD_i, neD_i, lenD_l, lenD_t, tupleD_l, tupleD_t, listD_l, list2D_l, list2D_t, listD_t, slD_l, slD_t, revD_l, truthD_b, truthD_n, ixD_l, ixD_t, un2_t, un3_t, un4_t, zipI_l, zipI_t, isD_n, isnD_n, isNone_n, isNone_i, isNone_b, isNone_s, isNone_l, isNone_t, m_eta, Bool.not_true, Bool.not_false, isL_list, atI_0, atI_1, atI_2, atI_3, c_t, c_f, m_needT, isi_tuple_n, isi_tuple_b, isi_tuple_i, isi_tuple_s, isi_tuple_l, isi_tuple_t, isi_list_n, isi_list_b, isi_list_i, isi_list_s, isi_list_l, isi_list_t, isi_dict_n, isi_dict_b, isi_dict_i, isi_dict_s, isi_dict_l, isi_dict_t, isi_str_n, isi_str_b, isi_str_i, isi_str_s, isi_str_l, isi_str_t, isi_bool_n, isi_bool_b, isi_bool_i, isi_bool_s, isi_bool_l, isi_bool_t, isi_int_n, isi_int_b, isi_int_i, isi_int_s, isi_int_l, isi_int_t, bind_run, pure_run, atI_nat, List.getElem?_eq_getElem hi', e_same n xs[i] (okSA_mem h'.2 _ (List.getElem_mem hi'))]
theorem e_says {b : Bool} : m__law_says (.bool b) (.bool b) = M.pure (.bool true) := by
  simp (disch := first | assumption | rfl | omega | decide) only [mp_bind, m_assoc, m_opt, m_cond_pure, m_cond_bind, m_cond_t, m_cond_f, mapM_map, filM_map, fold_map, foldF_map, mapM_pure, filM_pure, fold_pure, asI_i, asB_b, asS_l, asS_t, seqOf_l, seqOf_t, addD_i, iaddD_i, subD_i, fdivD_i, modD_i, negD_i, absD_i, intD_i, max2D_i, min2D_i, ltD_i, leD_i, gtD_i, geD_i, eqD_i, neD_i, lenD_l, lenD_t, tupleD_l, tupleD_t, listD_l, list2D_l, list2D_t, listD_t, slD_l, slD_t, revD_l, truthD_b, truthD_n, ixD_l, ixD_t, un2_t, un3_t, un4_t, zipI_l, zipI_t, isD_n, isnD_n, isNone_n, isNone_i, isNone_b, isNone_s, isNone_l, isNone_t, m_eta, Bool.not_true, Bool.not_false, isL_list, atI_0, atI_1, atI_2, atI_3, c_t, c_f, m_needT, isi_tuple_n, isi_tuple_b, isi_tuple_i, isi_tuple_s, isi_tuple_l, isi_tuple_t, isi_list_n, isi_list_b, isi_list_i, isi_list_s, isi_list_l, isi_list_t, isi_dict_n, isi_dict_b, isi_dict_i, isi_dict_s, isi_dict_l, isi_dict_t, isi_str_n, isi_str_b, isi_str_i, isi_str_s, isi_str_l, isi_str_t, isi_bool_n, isi_bool_b, isi_bool_i, isi_bool_s, isi_bool_l, isi_bool_t, isi_int_n, isi_int_b, isi_int_i, isi_int_s, isi_int_l, isi_int_t, bind_run, pure_run, m__law_says, isBoolB, eqD_same sh_bool]
theorem draw_pick {ds : List D} {P : D → Prop} (h0 : ds ≠ []) (h : ∀ d ∈ ds, P d) : m__law_pick (.list ds) P := by
  have hl : 0 < ds.length := List.length_pos_iff.mpr h0
  simp (disch := first | assumption | rfl | omega | decide) only [mp_bind, m_assoc, m_opt, m_cond_pure, m_cond_bind, m_cond_t, m_cond_f, mapM_map, filM_map, fold_map, foldF_map, mapM_pure, filM_pure, fold_pure, asI_i, asB_b, asS_l, asS_t, seqOf_l, seqOf_t, addD_i, iaddD_i, subD_i, fdivD_i, modD_i, negD_i, absD_i, intD_i, max2D_i, min2D_i, ltD_i, leD_i, gtD_i, geD_i, eqD_i, neD_i, lenD_l, lenD_t, tupleD_l, tupleD_t, listD_l, list2D_l, list2D_t, listD_t, slD_l, slD_t, revD_l, truthD_b, truthD_n, ixD_l, ixD_t, un2_t, un3_t, un4_t, zipI_l, zipI_t, isD_n, isnD_n, isNone_n, isNone_i, isNone_b, isNone_s, isNone_l, isNone_t, m_eta, Bool.not_true, Bool.not_false, isL_list, atI_0, atI_1, atI_2, atI_3, c_t, c_f, m_needT, isi_tuple_n, isi_tuple_b, isi_tuple_i, isi_tuple_s, isi_tuple_l, isi_tuple_t, isi_list_n, isi_list_b, isi_list_i, isi_list_s, isi_list_l, isi_list_t, isi_dict_n, isi_dict_b, isi_dict_i, isi_dict_s, isi_dict_l, isi_dict_t, isi_str_n, isi_str_b, isi_str_i, isi_str_s, isi_str_l, isi_str_t, isi_bool_n, isi_bool_b, isi_bool_i, isi_bool_s, isi_bool_l, isi_bool_t, isi_int_n, isi_int_b, isi_int_i, isi_int_s, isi_int_l, isi_int_t, bind_run, pure_run, m__law_pick]
  refine draw_run (by omega) fun r r0 r1 => ?_
  have hr : r.toNat < ds.length := by omega
  have e : r = (r.toNat : Int) := by omega
  rw [e]
  simp (disch := first | assumption | rfl | omega | decide) only [mp_bind, m_assoc, m_opt, m_cond_pure, m_cond_bind, m_cond_t, m_cond_f, mapM_map, filM_map, fold_map, foldF_map, mapM_pure, filM_pure, fold_pure, asI_i, asB_b, asS_l, asS_t, seqOf_l, seqOf_t, addD_i, iaddD_i, subD_i, fdivD_i, modD_i, negD_i, absD_i, intD_i, max2D_i, min2D_i, ltD_i, leD_i, gtD_i, geD_i, eqD_i, neD_i, lenD_l, lenD_t, tupleD_l, tupleD_t, listD_l, list2D_l, list2D_t, listD_t, slD_l, slD_t, revD_l, truthD_b, truthD_n, ixD_l, ixD_t, un2_t, un3_t, un4_t, zipI_l, zipI_t, isD_n, isnD_n, isNone_n, isNone_i, isNone_b, isNone_s, isNone_l, isNone_t, m_eta, Bool.not_true, Bool.not_false, isL_list, atI_0, atI_1, atI_2, atI_3, c_t, c_f, m_needT, isi_tuple_n, isi_tuple_b, isi_tuple_i, isi_tuple_s, isi_tuple_l, isi_tuple_t, isi_list_n, isi_list_b, isi_list_i, isi_list_s, isi_list_l, isi_list_t, isi_dict_n, isi_dict_b, isi_dict_i, isi_dict_s, isi_dict_l, isi_dict_t, isi_str_n, isi_str_b, isi_str_i, isi_str_s, isi_str_l, isi_str_t, isi_bool_n, isi_bool_b, isi_bool_i, isi_bool_s, isi_bool_l, isi_bool_t, isi_int_n, isi_int_b, isi_int_i, isi_int_s, isi_int_l, isi_int_t, bind_run, pure_run, atI_nat, List.getElem?_eq_getElem hr]
  exact h _ (List.getElem_mem hr)
theorem draw_pickT {ds : List D} {P : D → Prop} (h0 : ds ≠ []) (h : ∀ d ∈ ds, P d) : m__law_pick (.tuple ds) P := by
  have hl : 0 < ds.length := List.length_pos_iff.mpr h0
  simp (disch := first | assumption | rfl | omega | decide) only [mp_bind, m_assoc, m_opt, m_cond_pure, m_cond_bind, m_cond_t, m_cond_f, mapM_map, filM_map, fold_map, foldF_map, mapM_pure, filM_pure, fold_pure, asI_i, asB_b, asS_l, asS_t, seqOf_l, seqOf_t, addD_i, iaddD_i, subD_i, fdivD_i, modD_i, negD_i, absD_i, intD_i, max2D_i, min2D_i, ltD_i, leD_i, gtD_i, geD_i, eqD_i, neD_i, lenD_l, lenD_t, tupleD_l, tupleD_t, listD_l, list2D_l, list2D_t, listD_t, slD_l, slD_t, revD_l, truthD_b, truthD_n, ixD_l, ixD_t, un2_t, un3_t, un4_t, zipI_l, zipI_t, isD_n, isnD_n, isNone_n, isNone_i, isNone_b, isNone_s, isNone_l, isNone_t, m_eta, Bool.not_true, Bool.not_false, isL_list, atI_0, atI_1, atI_2, atI_3, c_t, c_f, m_needT, isi_tuple_n, isi_tuple_b, isi_tuple_i, isi_tuple_s, isi_tuple_l, isi_tuple_t, isi_list_n, isi_list_b, isi_list_i, isi_list_s, isi_list_l, isi_list_t, isi_dict_n, isi_dict_b, isi_dict_i, isi_dict_s, isi_dict_l, isi_dict_t, isi_str_n, isi_str_b, isi_str_i, isi_str_s, isi_str_l, isi_str_t, isi_bool_n, isi_bool_b, isi_bool_i, isi_bool_s, isi_bool_l, isi_bool_t, isi_int_n, isi_int_b, isi_int_i, isi_int_s, isi_int_l, isi_int_t, bind_run, pure_run, m__law_pick]
  refine draw_run (by omega) fun r r0 r1 => ?_
  have hr : r.toNat < ds.length := by omega
  have e : r = (r.toNat : Int) := by omega
  rw [e]
  simp (disch := first | assumption | rfl | omega | decide) only [mp_bind, m_assoc, m_opt, m_cond_pure, m_cond_bind, m_cond_t, m_cond_f, mapM_map, filM_map, fold_map, foldF_map, mapM_pure, filM_pure, fold_pure, asI_i, asB_b, asS_l, asS_t, seqOf_l, seqOf_t, addD_i, iaddD_i, subD_i, fdivD_i, modD_i, negD_i, absD_i, intD_i, max2D_i, min2D_i, ltD_i, leD_i, gtD_i, geD_i, eqD_i, neD_i, lenD_l, lenD_t, tupleD_l, tupleD_t, listD_l, list2D_l, list2D_t, listD_t, slD_l, slD_t, revD_l, truthD_b, truthD_n, ixD_l, ixD_t, un2_t, un3_t, un4_t, zipI_l, zipI_t, isD_n, isnD_n, isNone_n, isNone_i, isNone_b, isNone_s, isNone_l, isNone_t, m_eta, Bool.not_true, Bool.not_false, isL_list, atI_0, atI_1, atI_2, atI_3, c_t, c_f, m_needT, isi_tuple_n, isi_tuple_b, isi_tuple_i, isi_tuple_s, isi_tuple_l, isi_tuple_t, isi_list_n, isi_list_b, isi_list_i, isi_list_s, isi_list_l, isi_list_t, isi_dict_n, isi_dict_b, isi_dict_i, isi_dict_s, isi_dict_l, isi_dict_t, isi_str_n, isi_str_b, isi_str_i, isi_str_s, isi_str_l, isi_str_t, isi_bool_n, isi_bool_b, isi_bool_i, isi_bool_s, isi_bool_l, isi_bool_t, isi_int_n, isi_int_b, isi_int_i, isi_int_s, isi_int_l, isi_int_t, bind_run, pure_run, atI_nat, List.getElem?_eq_getElem hr]
  exact h _ (List.getElem_mem hr)
theorem foldF_unit {α : Type} {f : Unit → α → M (Fl Unit Unit)} {xs : List α} {P : Fl Unit Empty → Prop} (h : ∀ x ∈ xs, Ret (f () x) (Fl.nx ())) (hP : P (.nx ())) : M.foldF f () xs P := by
  induction xs with
  | nil => exact hP
  | cons x xs ih =>
    refine h x (by simp) _ ?_
    exact ih fun y hy => h y (by simp [hy])
end Wp
namespace Wp
open PySem PySem.Spec PyProof.Rows L2

/-! ### lists that grow -/
section
variable {γ : Type}
theorem fold_ext {f : D → γ → M D} (g : γ → List D) : ∀ {xs : List γ} {acc : List D}, (∀ acc', ∀ x ∈ xs, acc'.length + (g x).length ≤ 16777216 → f (.list acc') x = M.pure (.list (acc' ++ g x))) → acc.length + (xs.map fun x => (g x).length).sum ≤ 16777216 → M.fold f (.list acc) xs = M.pure (.list (acc ++ xs.flatMap g))
  | [], acc, _, _ => by rw [List.flatMap_nil, List.append_nil]; rfl
  | x :: xs, acc, h, hl => by
    rw [List.map_cons, List.sum_cons] at hl
    show M.bind (f (.list acc) x) (fun s' => M.fold f s' xs) = _
    rw [h acc x (by simp) (by omega), mp_bind, fold_ext g (fun a y hy => h a y (by simp [hy])) (by rw [List.length_append]; omega), List.flatMap_cons, List.append_assoc]
theorem sum_const {xs : List γ} {c : Nat} : (xs.map fun _ => c).sum = xs.length * c := by
  induction xs with
  | nil => simp
  | cons x xs ih => rw [List.map_cons, List.sum_cons, ih, List.length_cons, Nat.succ_mul]; omega
theorem fold_app {f : D → γ → M D} (g : γ → D) {xs : List γ} {acc : List D} (h : ∀ acc', ∀ x ∈ xs, acc'.length < 16777216 → f (.list acc') x = M.pure (.list (acc' ++ [g x]))) (hl : acc.length + xs.length ≤ 16777216) : M.fold f (.list acc) xs = M.pure (.list (acc ++ xs.map g)) := by
  rw [fold_ext (fun x => [g x]) (fun acc' x hx hz => h acc' x hx (by rw [List.length_singleton] at hz; omega)) (by simp only [List.length_singleton]; rw [sum_const]; omega)]
  have : xs.flatMap (fun x => [g x]) = xs.map g := by
    clear h hl
    induction xs with
    | nil => rfl
    | cons x xs ih => rw [List.flatMap_cons, ih]; rfl
  rw [this]
end
/-! ### dicts by numbers -/
def dI (es : List (Int × D)) : D := .dict (es.map fun p => (.int p.1, p.2))
section
variable {es : List (Int × D)} {k : Int} {v : D}
theorem marked_dI (es : List (Int × D)) : marked (es.map fun p => ((.int p.1 : D), p.2)) = false := by cases es <;> rfl
theorem keysD_dI : keysD (dI es) = M.pure (es.map fun p => .int p.1) := funext fun P => by
  show (marked _ = false ∧ P ((es.map fun p => ((.int p.1 : D), p.2)).map (·.1))) = _
  rw [List.map_map]
  exact propext ⟨fun h => h.2, fun h => ⟨marked_dI es, h⟩⟩
theorem lookD_dI (es : List (Int × D)) (k : Int) : lookD (es.map fun p => ((.int p.1 : D), p.2)) (.int k) = es.lookup k := by
  unfold lookD
  induction es with
  | nil => rfl
  | cons p es ih =>
    rw [List.map_cons, List.find?_cons, List.lookup_cons]
    have e : PyData.eqv (.int p.1) (.int k) = (p.1 == k) := by simp [PyData.eqv]
    rw [e]
    by_cases h : p.1 = k
    · subst h; simp
    · have h1 : (p.1 == k) = false := by simpa using h
      have h2 : (k == p.1) = false := by simpa using fun e => h e.symm
      rw [h1, h2]
      exact ih
theorem ixD_dI : ixD (dI es) (.int k) = M.opt (es.lookup k) := funext fun P => by
  show (kD (.int k) = true ∧ M.opt (lookD _ _) P) = _
  rw [lookD_dI]
  exact propext ⟨fun h => h.2, fun h => ⟨rfl, h⟩⟩
theorem get2D_dI {x : D} : get2D (dI es) (.int k) x = M.pure ((es.lookup k).getD x) := funext fun P => by
  show ((kD (.int k) = true ∧ marked _ = false) ∧ P ((lookD _ _).getD x)) = _
  rw [lookD_dI]
  exact propext ⟨fun h => h.2, fun h => ⟨⟨rfl, marked_dI es⟩, h⟩⟩
theorem isDi_dI : isDi (dI es) = true := rfl
theorem plain_dI : plainD (dI es) = true := by
  show (!marked _) = true
  rw [marked_dI]; rfl
theorem putD_dI (h : k ∉ es.map (·.1)) : putD (es.map fun p => ((.int p.1 : D), p.2)) (.int k) v = (es ++ [(k, v)]).map fun p => ((.int p.1 : D), p.2) := by
  unfold putD
  have : (es.map fun p => ((.int p.1 : D), p.2)).any (fun p => PyData.eqv p.1 (.int k)) = false := by
    rw [List.any_eq_false]
    intro p hp
    rw [List.mem_map] at hp
    obtain ⟨q, hq, rfl⟩ := hp
    have : q.1 ≠ k := fun e => h (List.mem_map.mpr ⟨q, hq, e⟩)
    simpa [PyData.eqv] using this
  rw [this, if_neg Bool.false_ne_true, List.map_append]
  rfl
theorem dputD_dI (h : k ∉ es.map (·.1)) (hl : es.length < 16777216) : dputD (dI es) (.int k) v = M.pure (dI (es ++ [(k, v)])) := funext fun P => propext ⟨fun x => by
    have := x.2
    rw [putD_dI h] at this
    exact this, fun x => ⟨⟨rfl, marked_dI es, by simpa using hl⟩, by rw [putD_dI h]; exact x⟩⟩
theorem lookup_memI (nd : (es.map (·.1)).Nodup) {p : Int × D} (h : p ∈ es) : es.lookup p.1 = some p.2 := by
  induction es with
  | nil => cases h
  | cons q es ih =>
    rw [List.map_cons, List.nodup_cons] at nd
    rw [List.lookup_cons]
    rcases List.mem_cons.mp h with rfl | h
    · simp
    · have : p.1 ≠ q.1 := fun e => nd.1 (List.mem_map.mpr ⟨p, h, e⟩)
      have h2 : (p.1 == q.1) = false := by simpa using this
      rw [h2]
      exact ih nd.2 h
end
/-! ### tuples of numbers -/
def tI (ns : List Int) : D := .tuple (ns.map .int)
def ltI : List Int → List Int → Bool
  | [], [] => false
  | [], _ :: _ => true
  | _ :: _, [] => false
  | x :: xs, y :: ys => decide (x < y) || (decide (x = y) && ltI xs ys)
theorem dlt_tI : ∀ xs ys : List Int, dlt (tI xs) (tI ys) = ltI xs ys
  | [], [] => by unfold tI; rw [List.map_nil, dlt_nil]; rfl
  | [], _ :: _ => by unfold tI; rw [List.map_nil, dlt_nil]; rfl
  | _ :: _, [] => by unfold tI; rw [List.map_nil, List.map_cons, dlt_cons_nil]; rfl
  | x :: xs, y :: ys => by
    have := dlt_tI xs ys
    unfold tI at this ⊢
    rw [List.map_cons, List.map_cons, dlt_int2, this]; rfl
theorem dlt_one {x y : D} (h : PySem.W.alike x y = true) : dlt (.tuple [x]) (.tuple [y]) = dlt x y := by
  rw [dlt_cons h, dlt_nil]; simp
theorem alike_tI (xs ys : List Int) : PySem.W.alike (tI xs) (tI ys) = true := by unfold tI; rw [alike_tup]; exact alike_ints xs ys
theorem dlt_pair {a b : Int} {x y : D} (h : PySem.W.alike x y = true) : dlt (.tuple [.int a, x]) (.tuple [.int b, y]) = (decide (a < b) || (decide (a = b) && dlt x y)) := by
  rw [dlt_int2, dlt_one h]
theorem ltI_snoc (h : Int) : ∀ {xs ys : List Int}, xs.length = ys.length → ltI (xs ++ [h]) (ys ++ [h]) = ltI xs ys
  | [], [], _ => by simp [ltI]
  | [], _ :: _, e => by simp at e
  | _ :: _, [], e => by simp at e
  | x :: xs, y :: ys, e => by
    have := ltI_snoc h (xs := xs) (ys := ys) (by simpa using e)
    simp [ltI, this]
/-- a number and a tuple of numbers -/
def rD (a : Int × List Int) : D := .tuple [.int a.1, tI a.2]
def ltR (a b : Int × List Int) : Bool := decide (a.1 < b.1) || (decide (a.1 = b.1) && ltI a.2 b.2)
theorem dlt_rD (a b : Int × List Int) : dlt (rD a) (rD b) = ltR a b := by unfold rD ltR; rw [dlt_pair (alike_tI _ _), dlt_tI]
theorem alike_rD (a b : Int × List Int) : PySem.W.alike (rD a) (rD b) = true := by
  have := alike_tI a.2 b.2
  unfold rD
  rw [alike_tup]
  simp [PySem.W.alikeAll, PySem.W.alike, this]
theorem ltR_trans {a b c : Int × List Int} (h : ltR a b = false) (k : ltR b c = false) : ltR a c = false := by
  rw [← dlt_rD] at *
  exact nlt_trans h k
theorem ltR_eq {a b : Int × List Int} (h : ltR a b = false) (k : ltR b a = false) : a = b := by
  rw [← dlt_rD] at h k
  have := dlt_eq (alike_rD a b) h k
  have inj : ∀ xs ys : List Int, xs.map (PyData.int) = ys.map .int → xs = ys := fun xs ys e => by
    refine (List.map_inj_right ?_).mp e
    intro x y h; cases h; rfl
  unfold rD tI at this
  simp at this
  exact Prod.ext this.1 (inj _ _ this.2)
theorem sh_tI {n : Nat} {xs : List Int} : sh (n + 1) (tI xs) = true := by unfold tI; rw [sh_tup]; exact shA_map fun _ _ => sh_int
theorem sh_rD {n : Nat} {a : Int × List Int} : sh (n + 2) (rD a) = true := by
  unfold rD
  rw [sh_tup, shA_cons, shA_cons, sh_int, sh_tI, shA_nil]; rfl
theorem alikeL_of {ds : List D} (h : ∀ x ∈ ds, ∀ y ∈ ds, PySem.W.alike x y = true) (h0 : ∀ x ∈ ds, x ≠ .none) (hs : ∀ x ∈ ds, sh 16 x = true) : alikeL ds = true := by
  unfold alikeL
  rw [Bool.and_eq_true, Bool.and_eq_true, List.all_eq_true, List.all_eq_true, shA_all, List.all_eq_true]
  refine ⟨⟨fun x hx => ?_, fun x hx => ?_⟩, hs⟩
  · rw [List.all_eq_true]; exact h x hx
  · have := h0 x hx
    cases x <;> first | rfl | exact absurd rfl this
theorem alikeL_rD {xs : List (Int × List Int)} : alikeL (xs.map rD) = true := alikeL_of
  (fun x hx y hy => by
    obtain ⟨a, _, rfl⟩ := List.mem_map.mp hx
    obtain ⟨b, _, rfl⟩ := List.mem_map.mp hy
    exact alike_rD a b)
  (fun x hx => by
    obtain ⟨a, _, rfl⟩ := List.mem_map.mp hx
    exact fun e => by cases e)
  (fun x hx => by
    obtain ⟨a, _, rfl⟩ := List.mem_map.mp hx
    exact sh_rD)
theorem alikeL_int {xs : List Int} : alikeL (xs.map .int) = true := alikeL_of
  (fun x hx y hy => by
    obtain ⟨a, _, rfl⟩ := List.mem_map.mp hx
    obtain ⟨b, _, rfl⟩ := List.mem_map.mp hy
    simp [PySem.W.alike])
  (fun x hx => by
    obtain ⟨a, _, rfl⟩ := List.mem_map.mp hx
    exact fun e => by cases e)
  (fun x hx => by
    obtain ⟨a, _, rfl⟩ := List.mem_map.mp hx
    exact sh_int)
theorem min1D_rD {xs : List (Int × List Int)} {m : Int × List Int} (hm : m ∈ xs) (hl : ∀ y ∈ xs, ltR y m = false) : min1D (.list (xs.map rD)) = M.pure (rD m) := by
  unfold min1D
  have hne : xs.map rD ≠ [] := List.ne_nil_of_mem (List.mem_map.mpr ⟨m, hm, rfl⟩)
  rw [seqOf_l, mp_bind, m_need ⟨alikeL_rD, hne⟩, minL_eq (List.mem_map.mpr ⟨m, hm, rfl⟩)]
  · intro y hy
    obtain ⟨a, ha, rfl⟩ := List.mem_map.mp hy
    rw [dlt_rD]; exact hl a ha
  · intro y hy
    obtain ⟨a, ha, rfl⟩ := List.mem_map.mp hy
    exact alike_rD _ _
/-- the greatest of numbers -/
def maxI (n : Int) (ns : List Int) : Int := ns.foldl max n
theorem maxI_spec : ∀ (ns : List Int) (n : Int), maxI n ns ∈ n :: ns ∧ ∀ y ∈ n :: ns, y ≤ maxI n ns
  | [], n => by simp [maxI]
  | x :: ns, n => by
    obtain ⟨h1, h2⟩ := maxI_spec ns (max n x)
    show maxI (max n x) ns ∈ _ ∧ ∀ y ∈ _, y ≤ maxI (max n x) ns
    have hb := h2 _ (List.mem_cons_self)
    refine ⟨?_, fun y hy => ?_⟩
    · rcases List.mem_cons.mp h1 with e | e
      · have : max n x = n ∨ max n x = x := by omega
        rcases this with h | h <;> rw [e, h] <;> simp
      · exact List.mem_cons_of_mem _ (List.mem_cons_of_mem _ e)
    · rcases List.mem_cons.mp hy with rfl | hy
      · omega
      · rcases List.mem_cons.mp hy with rfl | hy
        · omega
        · exact h2 y (List.mem_cons_of_mem _ hy)
def minI (n : Int) (ns : List Int) : Int := ns.foldl min n
theorem minI_spec : ∀ (ns : List Int) (n : Int), minI n ns ∈ n :: ns ∧ ∀ y ∈ n :: ns, minI n ns ≤ y
  | [], n => by simp [minI]
  | x :: ns, n => by
    obtain ⟨h1, h2⟩ := minI_spec ns (min n x)
    show minI (min n x) ns ∈ _ ∧ ∀ y ∈ _, minI (min n x) ns ≤ y
    have hb := h2 _ (List.mem_cons_self)
    refine ⟨?_, fun y hy => ?_⟩
    · rcases List.mem_cons.mp h1 with e | e
      · have : min n x = n ∨ min n x = x := by omega
        rcases this with h | h <;> rw [e, h] <;> simp
      · exact List.mem_cons_of_mem _ (List.mem_cons_of_mem _ e)
    · rcases List.mem_cons.mp hy with rfl | hy
      · omega
      · rcases List.mem_cons.mp hy with rfl | hy
        · omega
        · exact h2 y (List.mem_cons_of_mem _ hy)
theorem max1_l {n : Int} {ns : List Int} : max1D (.list (.int n :: ns.map .int)) = M.pure (.int (maxI n ns)) := by
  unfold max1D
  have h : alikeL (.int n :: ns.map .int) = true := alikeL_int (xs := n :: ns)
  rw [seqOf_l, mp_bind, m_need ⟨h, by simp⟩]
  exact congrArg M.pure maxL_ints
theorem max1_t {n : Int} {ns : List Int} : max1D (.tuple (.int n :: ns.map .int)) = M.pure (.int (maxI n ns)) := by
  unfold max1D
  have h : alikeL (.int n :: ns.map .int) = true := alikeL_int (xs := n :: ns)
  rw [seqOf_t, mp_bind, m_need ⟨h, by simp⟩]
  exact congrArg M.pure maxL_ints
theorem min1_l {n : Int} {ns : List Int} : min1D (.list (.int n :: ns.map .int)) = M.pure (.int (minI n ns)) := by
  unfold min1D
  have h : alikeL (.int n :: ns.map .int) = true := alikeL_int (xs := n :: ns)
  rw [seqOf_l, mp_bind, m_need ⟨h, by simp⟩]
  exact congrArg M.pure minL_ints
theorem min1_t {n : Int} {ns : List Int} : min1D (.tuple (.int n :: ns.map .int)) = M.pure (.int (minI n ns)) := by
  unfold min1D
  have h : alikeL (.int n :: ns.map .int) = true := alikeL_int (xs := n :: ns)
  rw [seqOf_t, mp_bind, m_need ⟨h, by simp⟩]
  exact congrArg M.pure minL_ints
theorem sum1_l {ns : List Int} : sum1D (.list (ns.map .int)) = M.pure (.int ns.sum) := by
  unfold sum1D
  rw [seqOf_l, mp_bind, asInts_map, m_opt, mp_bind]
theorem sum1_t {ns : List Int} : sum1D (.tuple (ns.map .int)) = M.pure (.int ns.sum) := by
  unfold sum1D
  rw [seqOf_t, mp_bind, asInts_map, m_opt, mp_bind]
theorem mapM_drawn {α : Type} {f : α → M D} {xs : List α} {Q : Int → Prop} {P : List D → Prop} (hf : ∀ x ∈ xs, ∀ R : D → Prop, (∀ i : Int, Q i → R (.int i)) → f x R) (hP : ∀ ns : List Int, ns.length = xs.length → (∀ n ∈ ns, Q n) → P (ns.map .int)) : M.mapM f xs P := by
  induction xs generalizing P with
  | nil => exact hP [] rfl (by simp)
  | cons x xs ih =>
    refine hf x (by simp) _ fun i hi => ?_
    refine ih (fun y hy => hf y (by simp [hy])) fun ns hl hn => ?_
    exact hP (i :: ns) (by simp [hl]) fun n hn' => by
      rcases List.mem_cons.mp hn' with rfl | h
      · exact hi
      · exact hn n h
end Wp
namespace Wp
open PySem PySem.Spec PyProof.Rows L2

/-! ### mirrors of looks at values -/
def m_is_number (thing_ : D) : M D :=
  (((M.pure thing_).bind fun x1 => isiD "int" x1).bind fun x5 => ((asB x5).bind fun b6 => bif b6 then (((M.pure thing_).bind fun x2 => isiD "bool" x2).bind fun x3 => ((asB x3).bind fun b4 => M.pure (.bool (!b4)))) else M.pure (.bool false)))
def m_is_below (thing_ : D) (many_ : D) : M D :=
  (((M.pure thing_).bind fun x1 => m_is_number x1).bind fun x7 => ((asB x7).bind fun b8 => bif b8 then ((M.pure (.int 0)).bind fun x2 => ((M.pure thing_).bind fun x3 => ((leD x2 x3).bind fun z4 => ((asB z4).bind fun b5 => bif b5 then ((M.pure many_).bind fun x6 => ltD x3 x6) else M.pure (.bool false))))) else M.pure (.bool false)))
def m_is_from (thing_ : D) (least_ : D) : M D :=
  (((M.pure thing_).bind fun x1 => m_is_number x1).bind fun x4 => ((asB x4).bind fun b5 => bif b5 then ((M.pure thing_).bind fun x2 => ((M.pure least_).bind fun x3 => geD x2 x3)) else M.pure (.bool false)))
def m_is_tuple_of (thing_ : D) (many_ : D) : M D :=
  (((M.pure thing_).bind fun x1 => isiD "tuple" x1).bind fun x5 => ((asB x5).bind fun b6 => bif b6 then (((M.pure thing_).bind fun x2 => lenD x2).bind fun x3 => ((M.pure many_).bind fun x4 => eqD x3 x4)) else M.pure (.bool false)))
def m_is_name (thing_ : D) : M D :=
  (((M.pure thing_).bind fun x1 => isiD "str" x1).bind fun x17 => ((asB x17).bind fun b18 => bif b18 then (((M.pure thing_).bind fun x2 => ((M.pure (.str "")).bind fun x3 => neD x2 x3)).bind fun x15 => ((asB x15).bind fun b16 => bif b16 then ((((M.pure thing_).bind fun x4 => asSg x4).bind fun l7 => ((M.mapM (fun x6 => ((M.pure x6).bind fun a5 => ((M.pure (.str "a")).bind fun x9 => ((M.pure a5).bind fun x10 => ((leD x9 x10).bind fun z11 => ((asB z11).bind fun b12 => bif b12 then ((M.pure (.str "z")).bind fun x13 => leD x10 x13) else M.pure (.bool false))))))) l7).bind fun l8 => M.pure (.list l8))).bind fun x14 => allD x14) else M.pure (.bool false))) else M.pure (.bool false)))
def m_is_ascending (things_ : D) : M D :=
  ((((((M.pure things_).bind fun x1 => lenD x1).bind fun x2 => ((M.pure (.int 1)).bind fun x3 => subD x2 x3)).bind fun x4 => ((asI x4).bind fun i5 => rngD 0 i5)).bind fun l8 => ((M.mapM (fun x7 => ((M.pure x7).bind fun a6 => (((M.pure things_).bind fun x10 => ((M.pure a6).bind fun x11 => ixD x10 x11)).bind fun x16 => (((M.pure things_).bind fun x12 => (((M.pure a6).bind fun x13 => ((M.pure (.int 1)).bind fun x14 => addD x13 x14)).bind fun x15 => ixD x12 x15)).bind fun x17 => ltD x16 x17)))) l8).bind fun l9 => M.pure (.list l9))).bind fun x18 => allD x18)
/-! ### looks at values -/
def numB : D → Bool | .int _ => true | _ => false
theorem e_is_number {x : D} (h : plainD x = true) : m_is_number x = M.pure (.bool (numB x)) := by
  simp (disch := first | assumption | rfl | omega | decide) only [mp_bind, m_assoc, m_opt, m_cond_pure, m_cond_bind, m_cond_t, m_cond_f, mapM_map, filM_map, fold_map, foldF_map, mapM_pure, filM_pure, fold_pure, asI_i, asB_b, asS_l, asS_t, seqOf_l, seqOf_t, addD_i, iaddD_i, subD_i, fdivD_i, modD_i, negD_i, absD_i, intD_i, max2D_i, min2D_i, ltD_i, leD_i, gtD_i, geD_i, eqD_i, neD_i, lenD_l, lenD_t, tupleD_l, tupleD_t, listD_l, list2D_l, list2D_t, listD_t, slD_l, slD_t, revD_l, truthD_b, truthD_n, ixD_l, ixD_t, un2_t, un3_t, un4_t, zipI_l, zipI_t, isD_n, isnD_n, isNone_n, isNone_i, isNone_b, isNone_s, isNone_l, isNone_t, m_eta, Bool.not_true, Bool.not_false, isL_list, atI_0, atI_1, atI_2, atI_3, c_t, c_f, m_needT, isi_tuple_n, isi_tuple_b, isi_tuple_i, isi_tuple_s, isi_tuple_l, isi_tuple_t, isi_list_n, isi_list_b, isi_list_i, isi_list_s, isi_list_l, isi_list_t, isi_dict_n, isi_dict_b, isi_dict_i, isi_dict_s, isi_dict_l, isi_dict_t, isi_str_n, isi_str_b, isi_str_i, isi_str_s, isi_str_l, isi_str_t, isi_bool_n, isi_bool_b, isi_bool_i, isi_bool_s, isi_bool_l, isi_bool_t, isi_int_n, isi_int_b, isi_int_i, isi_int_s, isi_int_l, isi_int_t, bind_run, pure_run, m_is_number, isi_int h, isi_bool h]
  cases x <;> simp (disch := first | assumption | rfl | omega | decide) only [mp_bind, m_assoc, m_opt, m_cond_pure, m_cond_bind, m_cond_t, m_cond_f, mapM_map, filM_map, fold_map, foldF_map, mapM_pure, filM_pure, fold_pure, asI_i, asB_b, asS_l, asS_t, seqOf_l, seqOf_t, addD_i, iaddD_i, subD_i, fdivD_i, modD_i, negD_i, absD_i, intD_i, max2D_i, min2D_i, ltD_i, leD_i, gtD_i, geD_i, eqD_i, neD_i, lenD_l, lenD_t, tupleD_l, tupleD_t, listD_l, list2D_l, list2D_t, listD_t, slD_l, slD_t, revD_l, truthD_b, truthD_n, ixD_l, ixD_t, un2_t, un3_t, un4_t, zipI_l, zipI_t, isD_n, isnD_n, isNone_n, isNone_i, isNone_b, isNone_s, isNone_l, isNone_t, m_eta, Bool.not_true, Bool.not_false, isL_list, atI_0, atI_1, atI_2, atI_3, c_t, c_f, m_needT, isi_tuple_n, isi_tuple_b, isi_tuple_i, isi_tuple_s, isi_tuple_l, isi_tuple_t, isi_list_n, isi_list_b, isi_list_i, isi_list_s, isi_list_l, isi_list_t, isi_dict_n, isi_dict_b, isi_dict_i, isi_dict_s, isi_dict_l, isi_dict_t, isi_str_n, isi_str_b, isi_str_i, isi_str_s, isi_str_l, isi_str_t, isi_bool_n, isi_bool_b, isi_bool_i, isi_bool_s, isi_bool_l, isi_bool_t, isi_int_n, isi_int_b, isi_int_i, isi_int_s, isi_int_l, isi_int_t, bind_run, pure_run, isIntB, isBoolB, numB]
def fromB (k : Int) : D → Bool | .int i => decide (k ≤ i) | _ => false
theorem e_is_from {x : D} {k : Int} (h : plainD x = true) : m_is_from x (.int k) = M.pure (.bool (fromB k x)) := by
  simp (disch := first | assumption | rfl | omega | decide) only [mp_bind, m_assoc, m_opt, m_cond_pure, m_cond_bind, m_cond_t, m_cond_f, mapM_map, filM_map, fold_map, foldF_map, mapM_pure, filM_pure, fold_pure, asI_i, asB_b, asS_l, asS_t, seqOf_l, seqOf_t, addD_i, iaddD_i, subD_i, fdivD_i, modD_i, negD_i, absD_i, intD_i, max2D_i, min2D_i, ltD_i, leD_i, gtD_i, geD_i, eqD_i, neD_i, lenD_l, lenD_t, tupleD_l, tupleD_t, listD_l, list2D_l, list2D_t, listD_t, slD_l, slD_t, revD_l, truthD_b, truthD_n, ixD_l, ixD_t, un2_t, un3_t, un4_t, zipI_l, zipI_t, isD_n, isnD_n, isNone_n, isNone_i, isNone_b, isNone_s, isNone_l, isNone_t, m_eta, Bool.not_true, Bool.not_false, isL_list, atI_0, atI_1, atI_2, atI_3, c_t, c_f, m_needT, isi_tuple_n, isi_tuple_b, isi_tuple_i, isi_tuple_s, isi_tuple_l, isi_tuple_t, isi_list_n, isi_list_b, isi_list_i, isi_list_s, isi_list_l, isi_list_t, isi_dict_n, isi_dict_b, isi_dict_i, isi_dict_s, isi_dict_l, isi_dict_t, isi_str_n, isi_str_b, isi_str_i, isi_str_s, isi_str_l, isi_str_t, isi_bool_n, isi_bool_b, isi_bool_i, isi_bool_s, isi_bool_l, isi_bool_t, isi_int_n, isi_int_b, isi_int_i, isi_int_s, isi_int_l, isi_int_t, bind_run, pure_run, m_is_from, e_is_number h]
  cases x <;> simp (disch := first | assumption | rfl | omega | decide) only [mp_bind, m_assoc, m_opt, m_cond_pure, m_cond_bind, m_cond_t, m_cond_f, mapM_map, filM_map, fold_map, foldF_map, mapM_pure, filM_pure, fold_pure, asI_i, asB_b, asS_l, asS_t, seqOf_l, seqOf_t, addD_i, iaddD_i, subD_i, fdivD_i, modD_i, negD_i, absD_i, intD_i, max2D_i, min2D_i, ltD_i, leD_i, gtD_i, geD_i, eqD_i, neD_i, lenD_l, lenD_t, tupleD_l, tupleD_t, listD_l, list2D_l, list2D_t, listD_t, slD_l, slD_t, revD_l, truthD_b, truthD_n, ixD_l, ixD_t, un2_t, un3_t, un4_t, zipI_l, zipI_t, isD_n, isnD_n, isNone_n, isNone_i, isNone_b, isNone_s, isNone_l, isNone_t, m_eta, Bool.not_true, Bool.not_false, isL_list, atI_0, atI_1, atI_2, atI_3, c_t, c_f, m_needT, isi_tuple_n, isi_tuple_b, isi_tuple_i, isi_tuple_s, isi_tuple_l, isi_tuple_t, isi_list_n, isi_list_b, isi_list_i, isi_list_s, isi_list_l, isi_list_t, isi_dict_n, isi_dict_b, isi_dict_i, isi_dict_s, isi_dict_l, isi_dict_t, isi_str_n, isi_str_b, isi_str_i, isi_str_s, isi_str_l, isi_str_t, isi_bool_n, isi_bool_b, isi_bool_i, isi_bool_s, isi_bool_l, isi_bool_t, isi_int_n, isi_int_b, isi_int_i, isi_int_s, isi_int_l, isi_int_t, bind_run, pure_run, numB, fromB]
def belowB (n : Int) : D → Bool | .int i => decide (0 ≤ i ∧ i < n) | _ => false
theorem e_is_below {x : D} {n : Int} (h : plainD x = true) : m_is_below x (.int n) = M.pure (.bool (belowB n x)) := by
  simp (disch := first | assumption | rfl | omega | decide) only [mp_bind, m_assoc, m_opt, m_cond_pure, m_cond_bind, m_cond_t, m_cond_f, mapM_map, filM_map, fold_map, foldF_map, mapM_pure, filM_pure, fold_pure, asI_i, asB_b, asS_l, asS_t, seqOf_l, seqOf_t, addD_i, iaddD_i, subD_i, fdivD_i, modD_i, negD_i, absD_i, intD_i, max2D_i, min2D_i, ltD_i, leD_i, gtD_i, geD_i, eqD_i, neD_i, lenD_l, lenD_t, tupleD_l, tupleD_t, listD_l, list2D_l, list2D_t, listD_t, slD_l, slD_t, revD_l, truthD_b, truthD_n, ixD_l, ixD_t, un2_t, un3_t, un4_t, zipI_l, zipI_t, isD_n, isnD_n, isNone_n, isNone_i, isNone_b, isNone_s, isNone_l, isNone_t, m_eta, Bool.not_true, Bool.not_false, isL_list, atI_0, atI_1, atI_2, atI_3, c_t, c_f, m_needT, isi_tuple_n, isi_tuple_b, isi_tuple_i, isi_tuple_s, isi_tuple_l, isi_tuple_t, isi_list_n, isi_list_b, isi_list_i, isi_list_s, isi_list_l, isi_list_t, isi_dict_n, isi_dict_b, isi_dict_i, isi_dict_s, isi_dict_l, isi_dict_t, isi_str_n, isi_str_b, isi_str_i, isi_str_s, isi_str_l, isi_str_t, isi_bool_n, isi_bool_b, isi_bool_i, isi_bool_s, isi_bool_l, isi_bool_t, isi_int_n, isi_int_b, isi_int_i, isi_int_s, isi_int_l, isi_int_t, bind_run, pure_run, m_is_below, e_is_number h]
  cases x <;> simp (disch := first | assumption | rfl | omega | decide) only [mp_bind, m_assoc, m_opt, m_cond_pure, m_cond_bind, m_cond_t, m_cond_f, mapM_map, filM_map, fold_map, foldF_map, mapM_pure, filM_pure, fold_pure, asI_i, asB_b, asS_l, asS_t, seqOf_l, seqOf_t, addD_i, iaddD_i, subD_i, fdivD_i, modD_i, negD_i, absD_i, intD_i, max2D_i, min2D_i, ltD_i, leD_i, gtD_i, geD_i, eqD_i, neD_i, lenD_l, lenD_t, tupleD_l, tupleD_t, listD_l, list2D_l, list2D_t, listD_t, slD_l, slD_t, revD_l, truthD_b, truthD_n, ixD_l, ixD_t, un2_t, un3_t, un4_t, zipI_l, zipI_t, isD_n, isnD_n, isNone_n, isNone_i, isNone_b, isNone_s, isNone_l, isNone_t, m_eta, Bool.not_true, Bool.not_false, isL_list, atI_0, atI_1, atI_2, atI_3, c_t, c_f, m_needT, isi_tuple_n, isi_tuple_b, isi_tuple_i, isi_tuple_s, isi_tuple_l, isi_tuple_t, isi_list_n, isi_list_b, isi_list_i, isi_list_s, isi_list_l, isi_list_t, isi_dict_n, isi_dict_b, isi_dict_i, isi_dict_s, isi_dict_l, isi_dict_t, isi_str_n, isi_str_b, isi_str_i, isi_str_s, isi_str_l, isi_str_t, isi_bool_n, isi_bool_b, isi_bool_i, isi_bool_s, isi_bool_l, isi_bool_t, isi_int_n, isi_int_b, isi_int_i, isi_int_s, isi_int_l, isi_int_t, bind_run, pure_run, numB, belowB]
  rename_i i
  by_cases h0 : 0 ≤ i
  · by_cases h1 : i < n <;> simp [h0, h1]
  · simp [h0]
def tupleB (n : Int) : D → Bool | .tuple ds => decide ((ds.length : Int) = n) | _ => false
theorem e_is_tuple_of {x : D} {n : Int} (h : plainD x = true) : m_is_tuple_of x (.int n) = M.pure (.bool (tupleB n x)) := by
  simp (disch := first | assumption | rfl | omega | decide) only [mp_bind, m_assoc, m_opt, m_cond_pure, m_cond_bind, m_cond_t, m_cond_f, mapM_map, filM_map, fold_map, foldF_map, mapM_pure, filM_pure, fold_pure, asI_i, asB_b, asS_l, asS_t, seqOf_l, seqOf_t, addD_i, iaddD_i, subD_i, fdivD_i, modD_i, negD_i, absD_i, intD_i, max2D_i, min2D_i, ltD_i, leD_i, gtD_i, geD_i, eqD_i, neD_i, lenD_l, lenD_t, tupleD_l, tupleD_t, listD_l, list2D_l, list2D_t, listD_t, slD_l, slD_t, revD_l, truthD_b, truthD_n, ixD_l, ixD_t, un2_t, un3_t, un4_t, zipI_l, zipI_t, isD_n, isnD_n, isNone_n, isNone_i, isNone_b, isNone_s, isNone_l, isNone_t, m_eta, Bool.not_true, Bool.not_false, isL_list, atI_0, atI_1, atI_2, atI_3, c_t, c_f, m_needT, isi_tuple_n, isi_tuple_b, isi_tuple_i, isi_tuple_s, isi_tuple_l, isi_tuple_t, isi_list_n, isi_list_b, isi_list_i, isi_list_s, isi_list_l, isi_list_t, isi_dict_n, isi_dict_b, isi_dict_i, isi_dict_s, isi_dict_l, isi_dict_t, isi_str_n, isi_str_b, isi_str_i, isi_str_s, isi_str_l, isi_str_t, isi_bool_n, isi_bool_b, isi_bool_i, isi_bool_s, isi_bool_l, isi_bool_t, isi_int_n, isi_int_b, isi_int_i, isi_int_s, isi_int_l, isi_int_t, bind_run, pure_run, m_is_tuple_of, isi_tuple h]
  cases x <;> simp (disch := first | assumption | rfl | omega | decide) only [mp_bind, m_assoc, m_opt, m_cond_pure, m_cond_bind, m_cond_t, m_cond_f, mapM_map, filM_map, fold_map, foldF_map, mapM_pure, filM_pure, fold_pure, asI_i, asB_b, asS_l, asS_t, seqOf_l, seqOf_t, addD_i, iaddD_i, subD_i, fdivD_i, modD_i, negD_i, absD_i, intD_i, max2D_i, min2D_i, ltD_i, leD_i, gtD_i, geD_i, eqD_i, neD_i, lenD_l, lenD_t, tupleD_l, tupleD_t, listD_l, list2D_l, list2D_t, listD_t, slD_l, slD_t, revD_l, truthD_b, truthD_n, ixD_l, ixD_t, un2_t, un3_t, un4_t, zipI_l, zipI_t, isD_n, isnD_n, isNone_n, isNone_i, isNone_b, isNone_s, isNone_l, isNone_t, m_eta, Bool.not_true, Bool.not_false, isL_list, atI_0, atI_1, atI_2, atI_3, c_t, c_f, m_needT, isi_tuple_n, isi_tuple_b, isi_tuple_i, isi_tuple_s, isi_tuple_l, isi_tuple_t, isi_list_n, isi_list_b, isi_list_i, isi_list_s, isi_list_l, isi_list_t, isi_dict_n, isi_dict_b, isi_dict_i, isi_dict_s, isi_dict_l, isi_dict_t, isi_str_n, isi_str_b, isi_str_i, isi_str_s, isi_str_l, isi_str_t, isi_bool_n, isi_bool_b, isi_bool_i, isi_bool_s, isi_bool_l, isi_bool_t, isi_int_n, isi_int_b, isi_int_i, isi_int_s, isi_int_l, isi_int_t, bind_run, pure_run, isTupB, tupleB]
def nameB : D → Bool
  | .str x => decide (x ≠ "") && x.cps.toList.all fun c => decide (97 ≤ c ∧ c ≤ 122)
  | _ => false
theorem allD_l {bs : List Bool} : allD (.list (bs.map .bool)) = M.pure (.bool (bs.all id)) := by
  funext P
  refine propext ⟨fun h => ?_, fun h => ?_⟩
  · obtain ⟨ns, h1, h2⟩ := h
    rw [asBls_map] at h1; cases h1; exact h2
  · exact ⟨bs, asBls_map bs, h⟩
theorem anyD_l {bs : List Bool} : anyD (.list (bs.map .bool)) = M.pure (.bool (bs.any id)) := by
  funext P
  refine propext ⟨fun h => ?_, fun h => ?_⟩
  · obtain ⟨ns, h1, h2⟩ := h
    rw [asBls_map] at h1; cases h1; exact h2
  · exact ⟨bs, asBls_map bs, h⟩
theorem allD_map {α : Type} {f : α → Bool} {xs : List α} : allD (.list (xs.map fun x => .bool (f x))) = M.pure (.bool (xs.all f)) := by
  have := allD_l (bs := xs.map f)
  rw [List.map_map] at this
  rw [show (fun x => (.bool (f x) : D)) = (PyData.bool ∘ f) from rfl, this, List.all_map]; rfl
theorem anyD_map {α : Type} {f : α → Bool} {xs : List α} : anyD (.list (xs.map fun x => .bool (f x))) = M.pure (.bool (xs.any f)) := by
  have := anyD_l (bs := xs.map f)
  rw [List.map_map] at this
  rw [show (fun x => (.bool (f x) : D)) = (PyData.bool ∘ f) from rfl, this, List.any_map]; rfl
theorem leD_str {a b : Str} (ha : PyData.strOk a = true) (hb : PyData.strOk b = true) : leD (.str a) (.str b) = M.pure (.bool (!decide (b.cps.toList < a.cps.toList))) := by
  have h : cmpOk (.str a) (.str b) = true := by simp [cmpOk, PySem.W.alike, sh, ha, hb]
  funext P
  rw [← PySem.W.dataLt_str]
  exact propext ⟨fun x => x.2, fun x => ⟨h, x⟩⟩
theorem ltD_str {a b : Str} (ha : PyData.strOk a = true) (hb : PyData.strOk b = true) : ltD (.str a) (.str b) = M.pure (.bool (decide (a.cps.toList < b.cps.toList))) := by
  have h : cmpOk (.str a) (.str b) = true := by simp [cmpOk, PySem.W.alike, sh, ha, hb]
  funext P
  rw [← PySem.W.dataLt_str]
  exact propext ⟨fun x => x.2, fun x => ⟨h, x⟩⟩
theorem eqD_st {a b : Str} (ha : PyData.strOk a = true) (hb : PyData.strOk b = true) : eqD (.str a) (.str b) = M.pure (.bool (a == b)) := by
  rw [eqD_s (by simp [sh, ha]) (by simp [sh, hb])]; simp [PyData.eqv]
theorem neD_st {a b : Str} (ha : PyData.strOk a = true) (hb : PyData.strOk b = true) : neD (.str a) (.str b) = M.pure (.bool (!(a == b))) := by
  rw [neD_s (by simp [sh, ha]) (by simp [sh, hb])]; simp [PyData.eqv]
theorem e_is_name {x : Str} (hx : PyData.strOk x = true) (hl : x.cps.size ≤ 16777216) : m_is_name (.str x) = M.pure (.bool (nameB (.str x))) := by
  have e0 : PyData.strOk ("" : Str) = true := by decide +kernel
  have ea : PyData.strOk ("a" : Str) = true := by decide +kernel
  have ez : PyData.strOk ("z" : Str) = true := by decide +kernel
  have la : (("a" : Str).cps.toList) = [97] := by decide +kernel
  have lz : (("z" : Str).cps.toList) = [122] := by decide +kernel
  have hs : asSg (.str x) = M.pure (signsD x) := m_need (m := M.pure (signsD x)) hl
  simp (disch := first | assumption | rfl | omega | decide) only [mp_bind, m_assoc, m_opt, m_cond_pure, m_cond_bind, m_cond_t, m_cond_f, mapM_map, filM_map, fold_map, foldF_map, mapM_pure, filM_pure, fold_pure, asI_i, asB_b, asS_l, asS_t, seqOf_l, seqOf_t, addD_i, iaddD_i, subD_i, fdivD_i, modD_i, negD_i, absD_i, intD_i, max2D_i, min2D_i, ltD_i, leD_i, gtD_i, geD_i, eqD_i, neD_i, lenD_l, lenD_t, tupleD_l, tupleD_t, listD_l, list2D_l, list2D_t, listD_t, slD_l, slD_t, revD_l, truthD_b, truthD_n, ixD_l, ixD_t, un2_t, un3_t, un4_t, zipI_l, zipI_t, isD_n, isnD_n, isNone_n, isNone_i, isNone_b, isNone_s, isNone_l, isNone_t, m_eta, Bool.not_true, Bool.not_false, isL_list, atI_0, atI_1, atI_2, atI_3, c_t, c_f, m_needT, isi_tuple_n, isi_tuple_b, isi_tuple_i, isi_tuple_s, isi_tuple_l, isi_tuple_t, isi_list_n, isi_list_b, isi_list_i, isi_list_s, isi_list_l, isi_list_t, isi_dict_n, isi_dict_b, isi_dict_i, isi_dict_s, isi_dict_l, isi_dict_t, isi_str_n, isi_str_b, isi_str_i, isi_str_s, isi_str_l, isi_str_t, isi_bool_n, isi_bool_b, isi_bool_i, isi_bool_s, isi_bool_l, isi_bool_t, isi_int_n, isi_int_b, isi_int_i, isi_int_s, isi_int_l, isi_int_t, bind_run, pure_run, m_is_name, neD_st hx e0, hs, signsD]
  rw [mapM_eq_of (fun c : Nat => (.bool (decide (97 ≤ c ∧ c ≤ 122)) : D)) fun c hc => ?_]
  · simp (disch := first | assumption | rfl | omega | decide) only [mp_bind, m_assoc, m_opt, m_cond_pure, m_cond_bind, m_cond_t, m_cond_f, mapM_map, filM_map, fold_map, foldF_map, mapM_pure, filM_pure, fold_pure, asI_i, asB_b, asS_l, asS_t, seqOf_l, seqOf_t, addD_i, iaddD_i, subD_i, fdivD_i, modD_i, negD_i, absD_i, intD_i, max2D_i, min2D_i, ltD_i, leD_i, gtD_i, geD_i, eqD_i, neD_i, lenD_l, lenD_t, tupleD_l, tupleD_t, listD_l, list2D_l, list2D_t, listD_t, slD_l, slD_t, revD_l, truthD_b, truthD_n, ixD_l, ixD_t, un2_t, un3_t, un4_t, zipI_l, zipI_t, isD_n, isnD_n, isNone_n, isNone_i, isNone_b, isNone_s, isNone_l, isNone_t, m_eta, Bool.not_true, Bool.not_false, isL_list, atI_0, atI_1, atI_2, atI_3, c_t, c_f, m_needT, isi_tuple_n, isi_tuple_b, isi_tuple_i, isi_tuple_s, isi_tuple_l, isi_tuple_t, isi_list_n, isi_list_b, isi_list_i, isi_list_s, isi_list_l, isi_list_t, isi_dict_n, isi_dict_b, isi_dict_i, isi_dict_s, isi_dict_l, isi_dict_t, isi_str_n, isi_str_b, isi_str_i, isi_str_s, isi_str_l, isi_str_t, isi_bool_n, isi_bool_b, isi_bool_i, isi_bool_s, isi_bool_l, isi_bool_t, isi_int_n, isi_int_b, isi_int_i, isi_int_s, isi_int_l, isi_int_t, bind_run, pure_run, allD_map, nameB]
    by_cases h : x = ""
    · subst h; simp
    · have : (x == "") = false := by simpa using h
      simp [this, h]
  · have hcc : PyData.strOk ⟨#[c]⟩ = true := by
      unfold PyData.strOk at hx ⊢
      rw [Array.all_eq_true'] at hx
      have := hx c (by simpa using hc)
      simpa using this
    simp (disch := first | assumption | rfl | omega | decide) only [mp_bind, m_assoc, m_opt, m_cond_pure, m_cond_bind, m_cond_t, m_cond_f, mapM_map, filM_map, fold_map, foldF_map, mapM_pure, filM_pure, fold_pure, asI_i, asB_b, asS_l, asS_t, seqOf_l, seqOf_t, addD_i, iaddD_i, subD_i, fdivD_i, modD_i, negD_i, absD_i, intD_i, max2D_i, min2D_i, ltD_i, leD_i, gtD_i, geD_i, eqD_i, neD_i, lenD_l, lenD_t, tupleD_l, tupleD_t, listD_l, list2D_l, list2D_t, listD_t, slD_l, slD_t, revD_l, truthD_b, truthD_n, ixD_l, ixD_t, un2_t, un3_t, un4_t, zipI_l, zipI_t, isD_n, isnD_n, isNone_n, isNone_i, isNone_b, isNone_s, isNone_l, isNone_t, m_eta, Bool.not_true, Bool.not_false, isL_list, atI_0, atI_1, atI_2, atI_3, c_t, c_f, m_needT, isi_tuple_n, isi_tuple_b, isi_tuple_i, isi_tuple_s, isi_tuple_l, isi_tuple_t, isi_list_n, isi_list_b, isi_list_i, isi_list_s, isi_list_l, isi_list_t, isi_dict_n, isi_dict_b, isi_dict_i, isi_dict_s, isi_dict_l, isi_dict_t, isi_str_n, isi_str_b, isi_str_i, isi_str_s, isi_str_l, isi_str_t, isi_bool_n, isi_bool_b, isi_bool_i, isi_bool_s, isi_bool_l, isi_bool_t, isi_int_n, isi_int_b, isi_int_i, isi_int_s, isi_int_l, isi_int_t, bind_run, pure_run, leD_str ea hcc, leD_str hcc ez, la, lz]
    have l1 : (decide (([c] : List Nat) < [97])) = decide (c < 97) := decide_eq_decide.mpr (by simp [List.cons_lt_cons_iff])
    have l2 : (decide (([122] : List Nat) < [c])) = decide (122 < c) := decide_eq_decide.mpr (by simp [List.cons_lt_cons_iff])
    have e1 : (({ cps := #[c] } : Str).cps.toList) = [c] := rfl
    simp (disch := first | assumption | rfl | omega | decide) only [mp_bind, m_assoc, m_opt, m_cond_pure, m_cond_bind, m_cond_t, m_cond_f, mapM_map, filM_map, fold_map, foldF_map, mapM_pure, filM_pure, fold_pure, asI_i, asB_b, asS_l, asS_t, seqOf_l, seqOf_t, addD_i, iaddD_i, subD_i, fdivD_i, modD_i, negD_i, absD_i, intD_i, max2D_i, min2D_i, ltD_i, leD_i, gtD_i, geD_i, eqD_i, neD_i, lenD_l, lenD_t, tupleD_l, tupleD_t, listD_l, list2D_l, list2D_t, listD_t, slD_l, slD_t, revD_l, truthD_b, truthD_n, ixD_l, ixD_t, un2_t, un3_t, un4_t, zipI_l, zipI_t, isD_n, isnD_n, isNone_n, isNone_i, isNone_b, isNone_s, isNone_l, isNone_t, m_eta, Bool.not_true, Bool.not_false, isL_list, atI_0, atI_1, atI_2, atI_3, c_t, c_f, m_needT, isi_tuple_n, isi_tuple_b, isi_tuple_i, isi_tuple_s, isi_tuple_l, isi_tuple_t, isi_list_n, isi_list_b, isi_list_i, isi_list_s, isi_list_l, isi_list_t, isi_dict_n, isi_dict_b, isi_dict_i, isi_dict_s, isi_dict_l, isi_dict_t, isi_str_n, isi_str_b, isi_str_i, isi_str_s, isi_str_l, isi_str_t, isi_bool_n, isi_bool_b, isi_bool_i, isi_bool_s, isi_bool_l, isi_bool_t, isi_int_n, isi_int_b, isi_int_i, isi_int_s, isi_int_l, isi_int_t, bind_run, pure_run, e1, l1, l2]
    by_cases a1 : 97 ≤ c
    · by_cases a2 : c ≤ 122
      · simp [a1, a2, Nat.not_lt.mpr a1, Nat.not_lt.mpr a2]
      · simp [a1, a2, Nat.not_lt.mpr a1, Nat.lt_of_not_le a2]
    · simp [a1, Nat.lt_of_not_le a1]
theorem e_is_nameN {x : D} (hx : isStrB x = false) (h : plainD x = true) : m_is_name x = M.pure (.bool false) := by
  simp (disch := first | assumption | rfl | omega | decide) only [mp_bind, m_assoc, m_opt, m_cond_pure, m_cond_bind, m_cond_t, m_cond_f, mapM_map, filM_map, fold_map, foldF_map, mapM_pure, filM_pure, fold_pure, asI_i, asB_b, asS_l, asS_t, seqOf_l, seqOf_t, addD_i, iaddD_i, subD_i, fdivD_i, modD_i, negD_i, absD_i, intD_i, max2D_i, min2D_i, ltD_i, leD_i, gtD_i, geD_i, eqD_i, neD_i, lenD_l, lenD_t, tupleD_l, tupleD_t, listD_l, list2D_l, list2D_t, listD_t, slD_l, slD_t, revD_l, truthD_b, truthD_n, ixD_l, ixD_t, un2_t, un3_t, un4_t, zipI_l, zipI_t, isD_n, isnD_n, isNone_n, isNone_i, isNone_b, isNone_s, isNone_l, isNone_t, m_eta, Bool.not_true, Bool.not_false, isL_list, atI_0, atI_1, atI_2, atI_3, c_t, c_f, m_needT, isi_tuple_n, isi_tuple_b, isi_tuple_i, isi_tuple_s, isi_tuple_l, isi_tuple_t, isi_list_n, isi_list_b, isi_list_i, isi_list_s, isi_list_l, isi_list_t, isi_dict_n, isi_dict_b, isi_dict_i, isi_dict_s, isi_dict_l, isi_dict_t, isi_str_n, isi_str_b, isi_str_i, isi_str_s, isi_str_l, isi_str_t, isi_bool_n, isi_bool_b, isi_bool_i, isi_bool_s, isi_bool_l, isi_bool_t, isi_int_n, isi_int_b, isi_int_i, isi_int_s, isi_int_l, isi_int_t, bind_run, pure_run, m_is_name, isi_str h, hx]
theorem e_ascending {xs : List Int} (hl : xs.length ≤ 1000000) : m_is_ascending (tI xs) = M.pure (.bool ((List.range (xs.length - 1)).all fun k => decide (xs.getD k 0 < xs.getD (k + 1) 0))) := by
  have e : (((xs.length : Nat) : Int) - 1).toNat = xs.length - 1 := by omega
  simp (disch := first | assumption | rfl | omega | decide) only [mp_bind, m_assoc, m_opt, m_cond_pure, m_cond_bind, m_cond_t, m_cond_f, mapM_map, filM_map, fold_map, foldF_map, mapM_pure, filM_pure, fold_pure, asI_i, asB_b, asS_l, asS_t, seqOf_l, seqOf_t, addD_i, iaddD_i, subD_i, fdivD_i, modD_i, negD_i, absD_i, intD_i, max2D_i, min2D_i, ltD_i, leD_i, gtD_i, geD_i, eqD_i, neD_i, lenD_l, lenD_t, tupleD_l, tupleD_t, listD_l, list2D_l, list2D_t, listD_t, slD_l, slD_t, revD_l, truthD_b, truthD_n, ixD_l, ixD_t, un2_t, un3_t, un4_t, zipI_l, zipI_t, isD_n, isnD_n, isNone_n, isNone_i, isNone_b, isNone_s, isNone_l, isNone_t, m_eta, Bool.not_true, Bool.not_false, isL_list, atI_0, atI_1, atI_2, atI_3, c_t, c_f, m_needT, isi_tuple_n, isi_tuple_b, isi_tuple_i, isi_tuple_s, isi_tuple_l, isi_tuple_t, isi_list_n, isi_list_b, isi_list_i, isi_list_s, isi_list_l, isi_list_t, isi_dict_n, isi_dict_b, isi_dict_i, isi_dict_s, isi_dict_l, isi_dict_t, isi_str_n, isi_str_b, isi_str_i, isi_str_s, isi_str_l, isi_str_t, isi_bool_n, isi_bool_b, isi_bool_i, isi_bool_s, isi_bool_l, isi_bool_t, isi_int_n, isi_int_b, isi_int_i, isi_int_s, isi_int_l, isi_int_t, bind_run, pure_run, m_is_ascending, tI, List.length_map, rngD_n (n := ((xs.length : Nat) : Int) - 1) (by omega) (by omega), e]
  rw [mapM_eq_of (fun k : Nat => (.bool (decide (xs.getD k 0 < xs.getD (k + 1) 0)) : D)) fun k hk => ?_]
  · simp (disch := first | assumption | rfl | omega | decide) only [mp_bind, m_assoc, m_opt, m_cond_pure, m_cond_bind, m_cond_t, m_cond_f, mapM_map, filM_map, fold_map, foldF_map, mapM_pure, filM_pure, fold_pure, asI_i, asB_b, asS_l, asS_t, seqOf_l, seqOf_t, addD_i, iaddD_i, subD_i, fdivD_i, modD_i, negD_i, absD_i, intD_i, max2D_i, min2D_i, ltD_i, leD_i, gtD_i, geD_i, eqD_i, neD_i, lenD_l, lenD_t, tupleD_l, tupleD_t, listD_l, list2D_l, list2D_t, listD_t, slD_l, slD_t, revD_l, truthD_b, truthD_n, ixD_l, ixD_t, un2_t, un3_t, un4_t, zipI_l, zipI_t, isD_n, isnD_n, isNone_n, isNone_i, isNone_b, isNone_s, isNone_l, isNone_t, m_eta, Bool.not_true, Bool.not_false, isL_list, atI_0, atI_1, atI_2, atI_3, c_t, c_f, m_needT, isi_tuple_n, isi_tuple_b, isi_tuple_i, isi_tuple_s, isi_tuple_l, isi_tuple_t, isi_list_n, isi_list_b, isi_list_i, isi_list_s, isi_list_l, isi_list_t, isi_dict_n, isi_dict_b, isi_dict_i, isi_dict_s, isi_dict_l, isi_dict_t, isi_str_n, isi_str_b, isi_str_i, isi_str_s, isi_str_l, isi_str_t, isi_bool_n, isi_bool_b, isi_bool_i, isi_bool_s, isi_bool_l, isi_bool_t, isi_int_n, isi_int_b, isi_int_i, isi_int_s, isi_int_l, isi_int_t, bind_run, pure_run, allD_map]
  · have := List.mem_range.mp hk
    have e2 : ((k : Int) + 1) = ((k + 1 : Nat) : Int) := by omega
    simp (disch := first | assumption | rfl | omega | decide) only [mp_bind, m_assoc, m_opt, m_cond_pure, m_cond_bind, m_cond_t, m_cond_f, mapM_map, filM_map, fold_map, foldF_map, mapM_pure, filM_pure, fold_pure, asI_i, asB_b, asS_l, asS_t, seqOf_l, seqOf_t, addD_i, iaddD_i, subD_i, fdivD_i, modD_i, negD_i, absD_i, intD_i, max2D_i, min2D_i, ltD_i, leD_i, gtD_i, geD_i, eqD_i, neD_i, lenD_l, lenD_t, tupleD_l, tupleD_t, listD_l, list2D_l, list2D_t, listD_t, slD_l, slD_t, revD_l, truthD_b, truthD_n, ixD_l, ixD_t, un2_t, un3_t, un4_t, zipI_l, zipI_t, isD_n, isnD_n, isNone_n, isNone_i, isNone_b, isNone_s, isNone_l, isNone_t, m_eta, Bool.not_true, Bool.not_false, isL_list, atI_0, atI_1, atI_2, atI_3, c_t, c_f, m_needT, isi_tuple_n, isi_tuple_b, isi_tuple_i, isi_tuple_s, isi_tuple_l, isi_tuple_t, isi_list_n, isi_list_b, isi_list_i, isi_list_s, isi_list_l, isi_list_t, isi_dict_n, isi_dict_b, isi_dict_i, isi_dict_s, isi_dict_l, isi_dict_t, isi_str_n, isi_str_b, isi_str_i, isi_str_s, isi_str_l, isi_str_t, isi_bool_n, isi_bool_b, isi_bool_i, isi_bool_s, isi_bool_l, isi_bool_t, isi_int_n, isi_int_b, isi_int_i, isi_int_s, isi_int_l, isi_int_t, bind_run, pure_run, e2, Wp.atI_nat, List.getElem?_map, List.getElem?_eq_getElem (show k < xs.length by omega), List.getElem?_eq_getElem (show k + 1 < xs.length by omega), Option.map_some]
    simp [List.getD, List.getElem?_eq_getElem (show k < xs.length by omega), List.getElem?_eq_getElem (show k + 1 < xs.length by omega)]
end Wp
namespace Wp
open PySem PySem.Spec PyProof.Rows L2

/-! ### dicts by texts, as equations -/
section
variable {es : List (Str × D)} {k : Str} {v x : D}
theorem keysD_s : keysD (dS es) = M.pure (es.map fun p => .str p.1) := funext fun _ => keysD_dS
theorem ixD_s : ixD (dS es) (.str k) = M.opt (es.lookup k) := funext fun _ => ixD_dS
theorem get2D_s : get2D (dS es) (.str k) x = M.pure ((es.lookup k).getD x) := funext fun _ => get2D_dS
theorem inD_s : inD (.str k) (dS es) = M.pure (.bool (es.lookup k).isSome) := funext fun _ => inD_dS
theorem lenD_s : lenD (dS es) = M.pure (.int es.length) := by
  funext P
  refine propext ⟨fun h => ?_, fun h => ⟨marked_dS es, ?_⟩⟩
  · have := h.2
    rw [List.length_map] at this; exact this
  · rw [List.length_map]; exact h
theorem dputD_s (h : k ∉ es.map (·.1)) (hl : es.length < 16777216) : dputD (dS es) (.str k) v = M.pure (dS (es ++ [(k, v)])) := funext fun P => propext ⟨fun z => by
    have := z.2
    rw [putD_dS h] at this
    exact this, fun z => dputD_dS h hl z⟩
theorem dict2_s : dict2D (dS es) = M.pure (dS es) := funext fun P => propext ⟨fun z => z.2, fun z => ⟨marked_dS es, z⟩⟩
theorem list2D_s : list2D (dS es) = M.pure (.list (es.map fun p => .str p.1)) := by
  unfold dS
  rw [list2D_d (marked_dS es), List.map_map]; rfl
theorem isi_dict_dS : isiD "dict" (dS es) = M.pure (.bool true) := by rw [isi_dict plain_dS]; rfl
theorem sortedD_s (h : sortable (es.map fun p => (.str p.1 : D)) = true) : sortedD (dS es) = M.pure (.list (sortL (es.map fun p => .str p.1))) := by
  funext P
  refine propext ⟨fun z => ?_, fun z => sortedD_dS h z⟩
  have := z.2
  rw [List.map_map] at this; exact this
end
theorem sortedD_l {ds : List D} (h : sortable ds = true) : sortedD (.list ds) = M.pure (.list (sortL ds)) := funext fun P => propext ⟨fun z => z.2, fun z => ⟨h, z⟩⟩
/-! ### a dict of rows -/
section
variable {ρ : Type} {rs : List ρ} {nm : ρ → Str} {f : ρ → D}
def dR (rs : List ρ) (nm : ρ → Str) (f : ρ → D) : D := dS (rs.map fun r => (nm r, f r))
theorem lookup_rows (nd : (rs.map nm).Nodup) {r : ρ} (h : r ∈ rs) : (rs.map fun r => (nm r, f r)).lookup (nm r) = some (f r) := by
  have := lookup_mem (es := rs.map fun r => (nm r, f r)) (by rw [List.map_map]; exact nd) (p := (nm r, f r)) (List.mem_map.mpr ⟨r, h, rfl⟩)
  exact this
theorem keys_dR : keysD (dR rs nm f) = M.pure (rs.map fun r => .str (nm r)) := by
  unfold dR; rw [keysD_s, List.map_map]; rfl
theorem ix_dR (nd : (rs.map nm).Nodup) {r : ρ} (h : r ∈ rs) : ixD (dR rs nm f) (.str (nm r)) = M.pure (f r) := by
  unfold dR; rw [ixD_s, lookup_rows nd h, m_opt]
theorem in_dR (nd : (rs.map nm).Nodup) {r : ρ} (h : r ∈ rs) : inD (.str (nm r)) (dR rs nm f) = M.pure (.bool true) := by
  unfold dR; rw [inD_s, lookup_rows nd h]; rfl
end
/-! ### places and slices -/
theorem atI_last {α : Type} {xs : List α} (h : xs ≠ []) : atI xs (-1) = some (xs.getLast h) := by
  have hl : 0 < xs.length := List.length_pos_iff.mpr h
  unfold atI ixN
  rw [if_neg (by omega), if_pos (by omega)]
  show xs[(-1 + (xs.length : Int)).toNat]? = _
  have e : (-1 + (xs.length : Int)).toNat = xs.length - 1 := by omega
  rw [e, List.getElem?_eq_getElem (by omega), List.getLast_eq_getElem]
theorem atI_map {α : Type} {xs : List α} {f : α → D} {i : Int} : atI (xs.map f) i = (atI xs i).map f := by
  unfold atI
  rw [List.length_map]
  cases ixN xs.length i with
  | none => rfl
  | some j => show (xs.map f)[j]? = (xs[j]?).map f; rw [List.getElem?_map]
theorem cut_to {xs : List D} {n : Int} (h : 0 ≤ n) : cutD xs none (some n) = xs.take n.toNat := by
  obtain ⟨k, rfl⟩ : ∃ k : Nat, n = k := ⟨n.toNat, by omega⟩
  unfold cutD
  rw [HT.sIx_none, HT.sIx_nat, Int.toNat_natCast]
  simp only [List.drop_zero, Nat.sub_zero]
  by_cases h : k ≤ xs.length
  · rw [Nat.min_eq_left h]
  · rw [Nat.min_eq_right (by omega), List.take_length, List.take_of_length_le (by omega)]
theorem cut_from {xs : List D} {n : Int} (h : 0 ≤ n) : cutD xs (some n) none = xs.drop n.toNat := by
  obtain ⟨k, rfl⟩ : ∃ k : Nat, n = k := ⟨n.toNat, by omega⟩
  unfold cutD
  rw [HT.sIx_none, HT.sIx_nat, Int.toNat_natCast]
  by_cases h : k ≤ xs.length
  · rw [Nat.min_eq_left h, List.take_of_length_le (by simp)]
  · rw [Nat.min_eq_right (by omega), List.drop_of_length_le (Nat.le_refl _), List.drop_of_length_le (by omega)]; simp
theorem cut_mid {xs : List D} {a b : Int} (h : 0 ≤ a) (h2 : 0 ≤ b) : cutD xs (some a) (some b) = (xs.take b.toNat).drop a.toNat := by
  obtain ⟨k, rfl⟩ : ∃ k : Nat, a = k := ⟨a.toNat, by omega⟩
  obtain ⟨m, rfl⟩ : ∃ k : Nat, b = k := ⟨b.toNat, by omega⟩
  unfold cutD
  rw [HT.sIx_nat, HT.sIx_nat, Int.toNat_natCast, Int.toNat_natCast, List.drop_take]
  by_cases hk : k ≤ xs.length
  · rw [Nat.min_eq_left hk]
    by_cases hm : m ≤ xs.length
    · rw [Nat.min_eq_left hm]
    · rw [Nat.min_eq_right (by omega), List.take_of_length_le (by simp), List.take_of_length_le (by simp; omega)]
  · rw [Nat.min_eq_right (a := k) (by omega), List.drop_of_length_le (Nat.le_refl _), List.drop_of_length_le (by omega)]; simp
/-! ### sorted numbers -/
def srtI (xs : List Int) : List Int := xs.mergeSort fun a b => decide (a ≤ b)
theorem srtI_perm (xs : List Int) : (srtI xs).Perm xs := List.mergeSort_perm _ _
theorem srtI_sorted (xs : List Int) : (srtI xs).Pairwise (· ≤ ·) := by
  have h := List.pairwise_mergeSort (le := fun a b : Int => decide (a ≤ b)) (l := xs) (fun a b c h1 h2 => by simp at *; omega) (fun a b => by simp; omega)
  exact List.Pairwise.imp (fun h => by simpa using h) h
theorem sortL_ints (xs : List Int) : sortL (xs.map .int) = (srtI xs).map .int := by
  refine sortL_eq ((srtI_perm xs).symm.map _) ?_ fun x hx y hy => ?_
  · rw [List.pairwise_map]
    refine List.Pairwise.imp (fun h => ?_) (srtI_sorted xs)
    rw [dlt_int]; simp; omega
  · obtain ⟨a, _, rfl⟩ := List.mem_map.mp hx
    obtain ⟨b, _, rfl⟩ := List.mem_map.mp hy
    simp [PySem.W.alike]
theorem sortable_ints {xs : List Int} : sortable (xs.map .int) = true := by
  unfold sortable
  rw [Bool.and_eq_true, Bool.and_eq_true]
  refine ⟨⟨?_, ?_⟩, ?_⟩
  · rw [List.all_eq_true]
    intro x hx
    rw [List.all_eq_true]
    intro y hy
    obtain ⟨a, _, rfl⟩ := List.mem_map.mp hx
    obtain ⟨b, _, rfl⟩ := List.mem_map.mp hy
    simp [PySem.W.alike]
  · rw [shA_map]; intro x _; exact sh_int
  · rw [Bool.or_eq_true]; right; rw [List.all_eq_true]
    intro x hx
    obtain ⟨a, _, rfl⟩ := List.mem_map.mp hx
    rfl
/-- the names of rows, sorted: rows in another order -/
theorem sort_rows {ρ : Type} (nm : ρ → Str) (rs : List ρ) : ∃ qs : List ρ, sortL (rs.map fun r => (.str (nm r) : D)) = qs.map (fun r => .str (nm r)) ∧ qs.Perm rs := by
  have h := sortL_perm (rs.map fun r => (.str (nm r) : D))
  generalize sortL (rs.map fun r => (.str (nm r) : D)) = ds at h
  induction rs generalizing ds with
  | nil => exact ⟨[], by simpa using h, List.Perm.refl _⟩
  | cons r rs ih =>
    rw [List.map_cons] at h
    obtain ⟨a, b, e⟩ := List.append_of_mem (h.mem_iff.mpr (List.mem_cons_self))
    subst e
    have h2 : (a ++ b).Perm (rs.map fun r => (.str (nm r) : D)) := (List.perm_cons _).mp (List.perm_middle.symm.trans h)
    obtain ⟨qs, e, p⟩ := ih _ h2
    obtain ⟨q1, q2, rfl, e1, e2⟩ := List.map_eq_append_iff.mp e.symm
    refine ⟨q1 ++ r :: q2, by rw [List.map_append, List.map_cons, e1, e2], ?_⟩
    exact (List.perm_middle).trans (p.cons r)
theorem sortable_rows {ρ : Type} {nm : ρ → Str} {rs : List ρ} (h : ∀ r ∈ rs, PyData.strOk (nm r) = true) : sortable (rs.map fun r => (.str (nm r) : D)) = true := by
  have := sortable_strs (ks := rs.map nm) fun k hk => by
    obtain ⟨r, hr, rfl⟩ := List.mem_map.mp hk
    exact h r hr
  rw [List.map_map] at this
  exact this
theorem atI_int {xs : List Int} {h : Int} (h0 : 0 ≤ h) (h1 : h < (xs.length : Int)) : atI (xs.map PyData.int) h = some (.int (xs.getD h.toNat 0)) := by
  have e : h = (h.toNat : Int) := by omega
  have hl : h.toNat < xs.length := by omega
  rw [e, Wp.atI_nat, List.getElem?_map, List.getElem?_eq_getElem hl, Int.toNat_natCast]
  simp [List.getD, List.getElem?_eq_getElem hl]
theorem ix_tI {xs : List Int} {k : Nat} (h : k < xs.length) : ixD (tI xs) (.int (k : Int)) = M.pure (.int (xs.getD k 0)) := by
  unfold tI
  rw [ixD_t, Wp.atI_int (by omega) (by omega), m_opt, Int.toNat_natCast]
theorem len_tI {xs : List Int} : lenD (tI xs) = M.pure (.int xs.length) := by unfold tI; rw [lenD_t, List.length_map]
theorem range_zip {β : Type} {f : Int → Int → β} {xs ys : List Int} (h : ys.length = xs.length) : (List.range xs.length).map (fun k => f (xs.getD k 0) (ys.getD k 0)) = (xs.zip ys).map fun p => f p.1 p.2 := by
  refine List.ext_getElem (by simp [h]) fun i h1 h2 => ?_
  have hi : i < xs.length := by simpa using h1
  have hj : i < ys.length := by omega
  simp [List.getD, hi, hj]
theorem okS_tI {n : Nat} {xs : List Int} (h : xs.length ≤ 16777216) : okS (n + 2) (tI xs) = true := by
  unfold tI
  rw [okS, decide_eq_true (by simpa using h), okSA_of]
  · rfl
  · intro x hx
    obtain ⟨i, _, rfl⟩ := List.mem_map.mp hx
    rw [okS]
theorem okS_rD {n : Nat} {a : Int × List Int} (h : a.2.length ≤ 16777216) : okS (n + 3) (rD a) = true := by
  unfold rD
  rw [okS, decide_eq_true (by simp), okSA, okS, okSA, okS_tI h, okSA]; rfl
theorem okS_int {n : Nat} {i : Int} : okS (n + 1) (.int i) = true := by rw [okS]
theorem okS_none {n : Nat} : okS (n + 1) .none = true := by rw [okS]
theorem sm {i : Int} (h1 : -1000000 ≤ i) (h2 : i ≤ 1000000) : small i := small_of (by omega) (by omega)
theorem fold_encN {τ σ α : Type} (e : τ → σ) (g : τ → α → τ) (I : τ → Nat → Prop) {f : σ → α → M σ} {N : Nat} : ∀ {xs : List α} {t : τ} (n : Nat), n + xs.length = N → I t n → (∀ t n, n < N → ∀ x ∈ xs, I t n → f (e t) x = M.pure (e (g t x)) ∧ I (g t x) (n + 1)) → M.fold f (e t) xs = M.pure (e (xs.foldl g t))
  | [], _, _, _, _, _ => rfl
  | x :: xs, t, n, hn, hi, h => by
    rw [List.length_cons] at hn
    obtain ⟨h1, h2⟩ := h t n (by omega) x (by simp) hi
    show M.bind (f (e t) x) (fun s' => M.fold f s' xs) = _
    rw [h1, mp_bind, fold_encN e g I (n + 1) (by omega) h2 fun t n hn y hy => h t n hn y (by simp [hy])]
    rfl
end Wp
namespace Wp
open PySem PySem.Spec PyProof.Rows L2

/-! ### lists that are empty -/
theorem neD_nil {S : List D} (h : shA 15 S = true) : neD (.list S) (.list []) = M.pure (.bool (!S.isEmpty)) := by
  rw [neD_s (by rw [sh_list]; exact h) (by simp)]
  cases S <;> simp [PyData.eqv, PyData.eqvAll]
theorem eqD_nil {S : List D} (h : shA 15 S = true) : eqD (.list S) (.list []) = M.pure (.bool S.isEmpty) := by
  rw [eqD_s (by rw [sh_list]; exact h) (by simp)]
  cases S <;> simp [PyData.eqv, PyData.eqvAll]
theorem m_go_nx {σt ρ : Type} {k : σt → M ρ} {kr : D → M ρ} {s : σt} : Fl.go k kr (.nx s) = k s := funext fun _ => propext Iff.rfl
theorem m_go_rt {σt ρ : Type} {k : σt → M ρ} {kr : D → M ρ} {s : D} : Fl.go k kr (.rt s) = kr s := funext fun _ => propext Iff.rfl
theorem inD_l {x : D} {ys : List D} (h : sh 16 x = true) (k : shA 16 ys = true) : inD x (.list ys) = M.pure (.bool (ys.any fun z => PyData.eqv z x)) := by
  unfold inD
  exact m_need (by rw [h, k]; rfl)
theorem inD_t {x : D} {ys : List D} (h : sh 16 x = true) (k : shA 16 ys = true) : inD x (.tuple ys) = M.pure (.bool (ys.any fun z => PyData.eqv z x)) := by
  unfold inD
  exact m_need (by rw [h, k]; rfl)
theorem ninD_of {x y : D} {b : Bool} (h : inD x y = M.pure (.bool b)) : ninD x y = M.pure (.bool (!b)) := by
  unfold ninD
  rw [h, mp_bind]
theorem foldF_find {α : Type} {f : Unit → α → M (Fl Unit Unit)} (p : α → Bool) (g : α → D) : ∀ {xs : List α}, (∀ x ∈ xs, f () x = M.pure (cond (p x) (Fl.rt (g x)) (Fl.nx ()))) → M.foldF f () xs = M.pure (match xs.find? p with | some x => Fl.rt (g x) | none => Fl.nx ())
  | [], _ => rfl
  | x :: xs, h => by
    show M.bind (f () x) _ = _
    rw [h x (by simp), mp_bind, List.find?_cons]
    cases p x with
    | true => rfl
    | false => exact foldF_find p g fun y hy => h y (by simp [hy])
theorem foldF_nxU {α : Type} {f : Unit → α → M (Fl Unit Unit)} : ∀ {xs : List α}, (∀ x ∈ xs, f () x = M.pure (Fl.nx ())) → M.foldF f () xs = M.pure (Fl.nx ())
  | [], _ => rfl
  | x :: xs, h => by
    show M.bind (f () x) _ = _
    rw [h x (by simp), mp_bind]
    exact foldF_nxU fun y hy => h y (by simp [hy])
theorem foldF_retU {α : Type} {f : Unit → α → M (Fl Unit Unit)} {ρ : Type} {k : Fl Unit Empty → M ρ} {P : ρ → Prop} : ∀ {xs : List α}, (∀ x ∈ xs, Ret (f () x) (Fl.nx ())) → k (Fl.nx ()) P → (M.foldF f () xs).bind k P := fun h hP => foldF_unit h hP
/-- steps that are known, from the k-th on -/
theorem foldF_steps {α σ : Type} {f : σ → α → M (Fl σ σ)} (g : Nat → σ) : ∀ {xs : List α} {k : Nat}, (∀ (i : Nat) (hi : i < xs.length), f (g (k + i)) xs[i] = M.pure (Fl.nx (g (k + i + 1)))) → M.foldF f (g k) xs = M.pure (Fl.nx (g (k + xs.length)))
  | [], _, _ => rfl
  | x :: xs, k, h => by
    show M.bind (f (g k) x) _ = _
    rw [show f (g k) x = _ from h 0 (by simp), mp_bind]
    have := foldF_steps g (xs := xs) (k := k + 1) fun i hi => by
      have := h (i + 1) (by simp; omega)
      rw [show k + 1 + i = k + (i + 1) by omega]
      exact this
    rw [show k + (x :: xs).length = k + 1 + xs.length by simp; omega]
    exact this
theorem fold_steps {α σ : Type} {f : σ → α → M σ} (g : Nat → σ) : ∀ {xs : List α} {k : Nat}, (∀ (i : Nat) (hi : i < xs.length), f (g (k + i)) xs[i] = M.pure (g (k + i + 1))) → M.fold f (g k) xs = M.pure (g (k + xs.length))
  | [], _, _ => rfl
  | x :: xs, k, h => by
    show M.bind (f (g k) x) _ = _
    rw [show f (g k) x = _ from h 0 (by simp), mp_bind]
    have := fold_steps g (xs := xs) (k := k + 1) fun i hi => by
      have := h (i + 1) (by simp; omega)
      rw [show k + 1 + i = k + (i + 1) by omega]
      exact this
    rw [show k + (x :: xs).length = k + 1 + xs.length by simp; omega]
    exact this
/-- a put into a dict, over and over -/
theorem fold_put {ρ : Type} {nm : ρ → Str} (p : ρ → Bool) (v : ρ → D) {f : D → ρ → M D} : ∀ {qs : List ρ} {es : List (Str × D)}, (qs.map nm).Nodup → (∀ q ∈ qs, nm q ∉ es.map (·.1)) → es.length + qs.length < 16777216 → (∀ es, ∀ r ∈ qs, f (dS es) r = cond (p r) (dputD (dS es) (.str (nm r)) (v r)) (M.pure (dS es))) → M.fold f (dS es) qs = M.pure (dS (es ++ (qs.filter p).map fun r => (nm r, v r)))
  | [], es, _, _, _, _ => by simp only [List.filter_nil, List.map_nil, List.append_nil]; rfl
  | q :: qs, es, nd, hf, hl, h => by
    rw [List.map_cons, List.nodup_cons] at nd
    rw [List.length_cons] at hl
    show M.bind (f (dS es) q) (fun s' => M.fold f s' qs) = _
    rw [h es q (by simp), List.filter_cons]
    cases hp : p q with
    | false =>
      rw [m_cond_f, mp_bind, if_neg Bool.false_ne_true]
      exact fold_put p v nd.2 (fun r hr => hf r (by simp [hr])) (by omega) fun es r hr => h es r (by simp [hr])
    | true =>
      rw [m_cond_t, dputD_s (hf q (by simp)) (by omega), mp_bind, if_pos rfl]
      rw [fold_put p v nd.2 (fun r hr hm => ?_) (by rw [List.length_append, List.length_singleton]; omega) fun es r hr => h es r (by simp [hr])]
      · rw [List.append_assoc]; rfl
      · rw [List.map_append] at hm
        rcases List.mem_append.mp hm with hm | hm
        · exact hf r (by simp [hr]) hm
        · simp at hm
          exact nd.1 (List.mem_map.mpr ⟨r, hr, hm⟩)
theorem range_first {p : Nat → Bool} {k : Nat} (hp : p k = true) (hk : ∀ i, i < k → p i = false) : ∀ n, k < n → ∃ r, (List.range n).filter p = k :: r
  | 0, h => by omega
  | n + 1, h => by
    rw [List.range_succ, List.filter_append]
    by_cases hn : k < n
    · obtain ⟨r, e⟩ := range_first hp hk n hn
      rw [e]; exact ⟨_, rfl⟩
    · have e : k = n := by omega
      subst e
      have : (List.range k).filter p = [] := by
        rw [List.filter_eq_nil_iff]
        intro i hi
        rw [hk i (List.mem_range.mp hi)]; exact Bool.false_ne_true
      rw [this, List.nil_append, List.filter_cons, hp]
      exact ⟨[], rfl⟩
theorem drop_range {β : Type} (f : Nat → β) (n b : Nat) : ((List.range n).map f).drop b = (List.range (n - b)).map fun i => f (b + i) := by
  refine List.ext_getElem (by simp) fun i h1 h2 => ?_
  simp
theorem row_inj {ρ : Type} {nm : ρ → Str} : ∀ {qs : List ρ}, (qs.map nm).Nodup → ∀ {r s : ρ}, r ∈ qs → s ∈ qs → nm r = nm s → r = s
  | [], _, _, _, h, _, _ => by cases h
  | q :: qs, nd, r, s, hr, hs, e => by
    rw [List.map_cons, List.nodup_cons] at nd
    rcases List.mem_cons.mp hr with er | hr'
    · rcases List.mem_cons.mp hs with es | hs'
      · rw [er, es]
      · subst er; exact absurd (List.mem_map.mpr ⟨s, hs', e.symm⟩) nd.1
    · rcases List.mem_cons.mp hs with es | hs'
      · subst es; exact absurd (List.mem_map.mpr ⟨r, hr', e⟩) nd.1
      · exact row_inj nd.2 hr' hs' e
def optI : Option Int → D
  | none => .none
  | some i => .int i
theorem sh_optI {m : Option Int} {n : Nat} : sh (n + 1) (optI m) = true := by cases m <;> rfl
/-! ### any put -/
def putS {β : Type} (es : List (Str × β)) (k : Str) (v : β) : List (Str × β) := if es.any (fun p => p.1 == k) then es.map (fun p => if p.1 == k then (p.1, v) else p) else es ++ [(k, v)]
theorem putS_map {β γ : Type} (g : β → γ) (es : List (Str × β)) (k : Str) (v : β) : (putS es k v).map (fun p => (p.1, g p.2)) = putS (es.map fun p => (p.1, g p.2)) k (g v) := by
  unfold putS
  have ea : (es.map fun p => (p.1, g p.2)).any (fun p => p.1 == k) = es.any (fun p => p.1 == k) := by rw [List.any_map]; rfl
  rw [ea]
  split
  · rw [List.map_map, List.map_map]
    refine List.map_congr_left fun p _ => ?_
    simp only [Function.comp]
    split <;> rfl
  · rw [List.map_append]; rfl
theorem putS_len {β : Type} (es : List (Str × β)) (k : Str) (v : β) : (putS es k v).length ≤ es.length + 1 := by
  unfold putS; split <;> simp
theorem putS_keys {β : Type} (es : List (Str × β)) (k : Str) (v : β) : (putS es k v).map (·.1) = if k ∈ es.map (·.1) then es.map (·.1) else es.map (·.1) ++ [k] := by
  have hk : es.any (fun p => p.1 == k) = true ↔ k ∈ es.map (·.1) := by
    rw [List.any_eq_true, List.mem_map]
    exact ⟨fun ⟨p, h, e⟩ => ⟨p, h, by simpa using e⟩, fun ⟨p, h, e⟩ => ⟨p, h, by simpa using e⟩⟩
  unfold putS
  by_cases h : k ∈ es.map (·.1)
  · rw [if_pos (hk.mpr h), if_pos h, List.map_map]
    refine List.map_congr_left fun p _ => ?_
    simp only [Function.comp]
    split <;> rfl
  · rw [if_neg (fun z => h (hk.mp z)), if_neg h, List.map_append]; rfl
theorem putS_nd {β : Type} {es : List (Str × β)} (nd : (es.map (·.1)).Nodup) (k : Str) (v : β) : ((putS es k v).map (·.1)).Nodup := by
  rw [putS_keys]
  split
  · exact nd
  · rename_i h
    rw [List.nodup_append]
    exact ⟨nd, by simp, fun a ha b hb e => h (by rw [List.mem_singleton.mp hb] at e; exact e ▸ ha)⟩
theorem putS_mem {β : Type} {es : List (Str × β)} {k : Str} {v : β} {p : Str × β} (h : p ∈ putS es k v) : p ∈ es ∨ p = (k, v) := by
  unfold putS at h
  split at h
  · obtain ⟨q, hq, e⟩ := List.mem_map.mp h
    split at e
    · rename_i hk
      have : q.1 = k := by simpa using hk
      right; rw [← e, this]
    · left; rw [← e]; exact hq
  · rcases List.mem_append.mp h with h | h
    · exact .inl h
    · exact .inr (List.mem_singleton.mp h)
theorem dputD_any {es : List (Str × D)} {k : Str} {v : D} (hl : es.length < 16777216) : dputD (dS es) (.str k) v = M.pure (dS (putS es k v)) := by
  have e : putD (es.map fun p => ((.str p.1 : D), p.2)) (.str k) v = (putS es k v).map fun p => ((.str p.1 : D), p.2) := by
    unfold putD putS
    have ea : (es.map fun p => ((.str p.1 : D), p.2)).any (fun p => PyData.eqv p.1 (.str k)) = es.any (fun p => p.1 == k) := by
      rw [List.any_map]
      refine List.any_congr rfl fun p => ?_
      simp [PyData.eqv]
    rw [ea]
    split
    · rw [List.map_map, List.map_map]
      refine List.map_congr_left fun p _ => ?_
      by_cases hk : p.1 = k <;> simp [PyData.eqv, hk]
    · rw [List.map_append]; rfl
  funext P
  have hl' : (es.map fun p => ((.str p.1 : D), p.2)).length < 16777216 := by simpa using hl
  refine propext ⟨fun z => ?_, fun z => ⟨⟨rfl, marked_dS es, hl'⟩, ?_⟩⟩
  · have := z.2
    rw [e] at this; exact this
  · rw [e]; exact z
/-! ### the first of the greatest -/
/-- min over pairs of numbers -/
theorem alike_tI2 (a b c d : Int) : PySem.W.alike (tI [a, b]) (tI [c, d]) = true := by simp [tI, PySem.W.alike, PySem.W.alikeAll]
theorem min_pairs {α : Type} {xs : List α} {f g : α → Int} {m : α} (hm : m ∈ xs) (h : ∀ x ∈ xs, f m < f x ∨ (f m = f x ∧ g m ≤ g x)) : min1D (.list (xs.map fun x => tI [f x, g x])) = M.pure (tI [f m, g m]) := by
  have hal : alikeL (xs.map fun x => tI [f x, g x]) = true := alikeL_of
    (fun x hx y hy => by
      obtain ⟨a, _, rfl⟩ := List.mem_map.mp hx
      obtain ⟨b, _, rfl⟩ := List.mem_map.mp hy
      exact alike_tI2 _ _ _ _)
    (fun x hx => by
      obtain ⟨a, _, rfl⟩ := List.mem_map.mp hx
      exact fun e => by cases e)
    (fun x hx => by
      obtain ⟨a, ha, rfl⟩ := List.mem_map.mp hx
      exact sh_tI)
  have hne : xs ≠ [] := fun e => by rw [e] at hm; cases hm
  have he : minL (xs.map fun x => tI [f x, g x]) = tI [f m, g m] := by
    refine minL_eq (List.mem_map.mpr ⟨m, hm, rfl⟩) (fun y hy => ?_) (fun y hy => ?_)
    · obtain ⟨b, hb, rfl⟩ := List.mem_map.mp hy
      have h2 := h b hb
      show dlt (.tuple (.int (f b) :: [.int (g b)])) (.tuple (.int (f m) :: [.int (g m)])) = false
      rw [dlt_int2, dlt_int2, dlt_nil]
      simp; omega
    · obtain ⟨b, hb, rfl⟩ := List.mem_map.mp hy
      exact alike_tI2 _ _ _ _
  unfold min1D
  rw [seqOf_l, mp_bind, m_need ⟨hal, by simpa using hne⟩, he]
theorem pairsD_strs (es : List (Str × D)) : pairsD (es.map fun p => (.tuple [.str p.1, p.2] : D)) = some (es.map fun p => (.str p.1, p.2)) := by
  induction es with
  | nil => rfl
  | cons p es ih =>
    rw [List.map_cons, List.map_cons]
    show (if kD (.str p.1) = true then (pairsD _).map _ else none) = _
    rw [ih]; rfl
theorem mergeD_new : ∀ (es acc : List (Str × D)), ((acc ++ es).map (·.1)).Nodup → mergeD (acc.map fun p => ((.str p.1 : D), p.2)) (es.map fun p => (.str p.1, p.2)) = (acc ++ es).map fun p => (.str p.1, p.2)
  | [], acc, _ => by simp [mergeD]
  | p :: es, acc, nd => by
    have h : p.1 ∉ acc.map (·.1) := by
      rw [List.map_append, List.nodup_append] at nd
      intro hm
      exact nd.2.2 _ hm _ (by simp) rfl
    show mergeD (putD (acc.map fun p => ((.str p.1 : D), p.2)) (.str p.1) p.2) (es.map fun p => (.str p.1, p.2)) = _
    rw [putD_dS h]
    have := mergeD_new es (acc ++ [(p.1, p.2)]) (by simpa using nd)
    rw [this]
    simp
theorem dict2_rows {es : List (Str × D)} (nd : (es.map (·.1)).Nodup) : dict2D (.list (es.map fun p => .tuple [.str p.1, p.2])) = M.pure (dS es) := by
  show (M.opt (pairsD (es.map fun p => (.tuple [.str p.1, p.2] : D)))).bind (fun ps => M.pure (PyData.dict (mergeD [] ps))) = _
  have := mergeD_new es [] (by simpa using nd)
  rw [pairsD_strs, m_opt, mp_bind, show ([] : List (D × D)) = ([] : List (Str × D)).map fun p => ((.str p.1 : D), p.2) from rfl, this]
  rfl

end Wp

namespace L33
open PySem PySem.Spec PyProof.Rows L2 Wp
/-! ### the text -/
def topS (i : Nat) : Stmt := PySem.Challenge.pw_worksplanned_k33_when_all_can_meet.main.body.getD i (.Pass ⟨0, 0, 0, 0⟩)
abbrev st__law_draws : Stmt := topS 17
abbrev N__law_draws : List Str := ["script", "many", "draws", "mixed", "k", "cell", "rest", "turn"]
theorem sc__law_draws : FnScope N__law_draws ["script", "many"] (defScope st__law_draws) := ⟨rfl, rfl, rfl, by decide +kernel, rfl, by decide +kernel, by decide +kernel⟩
abbrev st__law_next : Stmt := topS 18
abbrev N__law_next : List Str := ["w", "many"]
theorem sc__law_next : FnScope N__law_next ["w", "many"] (defScope st__law_next) := ⟨rfl, rfl, rfl, by decide +kernel, rfl, by decide +kernel, by decide +kernel⟩
abbrev st__law_busy : Stmt := topS 29
abbrev N__law_busy : List Str := ["w", "size", "found", "name", "rows", "k", "begin"]
theorem sc__law_busy : FnScope N__law_busy ["w", "size"] (defScope st__law_busy) := ⟨rfl, rfl, rfl, by decide +kernel, rfl, by decide +kernel, by decide +kernel⟩
abbrev st__law_free : Stmt := topS 30
abbrev N__law_free : List Str := ["busy", "name", "moment", "begin", "end"]
theorem sc__law_free : FnScope N__law_free ["busy", "name", "moment"] (defScope st__law_free) := ⟨rfl, rfl, rfl, by decide +kernel, rfl, by decide +kernel, by decide +kernel⟩
abbrev st__law_all : Stmt := topS 31
abbrev N__law_all : List Str := ["busy", "people", "size", "k", "good", "found", "now", "name"]
theorem sc__law_all : FnScope N__law_all ["busy", "people", "size"] (defScope st__law_all) := ⟨rfl, rfl, rfl, by decide +kernel, rfl, by decide +kernel, by decide +kernel⟩
abbrev st__law_same : Stmt := topS 21
abbrev N__law_same : List Str := ["seen", "due", "k"]
theorem sc__law_same : FnScope N__law_same ["seen", "due"] (defScope st__law_same) := ⟨rfl, rfl, rfl, by decide +kernel, rfl, by decide +kernel, by decide +kernel⟩
abbrev st__law_can : Stmt := topS 32
abbrev N__law_can : List Str := ["busy", "begin", "end", "name", "k"]
theorem sc__law_can : FnScope N__law_can ["busy", "begin", "end"] (defScope st__law_can) := ⟨rfl, rfl, rfl, by decide +kernel, rfl, by decide +kernel, by decide +kernel⟩
abbrev st__law_first : Stmt := topS 33
abbrev N__law_first : List Str := ["busy", "people", "long", "size", "able", "begin", "end"]
theorem sc__law_first : FnScope N__law_first ["busy", "people", "long", "size"] (defScope st__law_first) := ⟨rfl, rfl, rfl, by decide +kernel, rfl, by decide +kernel, by decide +kernel⟩
abbrev st_stretches : Stmt := topS 5
abbrev N_stretches : List Str := ["moments", "found", "moment"]
theorem sc_stretches : FnScope N_stretches ["moments"] (defScope st_stretches) := ⟨rfl, rfl, rfl, by decide +kernel, rfl, by decide +kernel, by decide +kernel⟩
abbrev st_is_free : Stmt := topS 4
abbrev N_is_free : List Str := ["busy", "person", "moment", "begin", "end"]
theorem sc_is_free : FnScope N_is_free ["busy", "person", "moment"] (defScope st_is_free) := ⟨rfl, rfl, rfl, by decide +kernel, rfl, by decide +kernel, by decide +kernel⟩
abbrev st_all_free : Stmt := topS 6
abbrev N_all_free : List Str := ["busy", "people", "size", "k", "person"]
theorem sc_all_free : FnScope N_all_free ["busy", "people", "size"] (defScope st_all_free) := ⟨rfl, rfl, rfl, by decide +kernel, rfl, by decide +kernel, by decide +kernel⟩
abbrev st_longest_free : Stmt := topS 14
abbrev N_longest_free : List Str := ["busy", "people", "size", "rows", "begin", "end"]
theorem sc_longest_free : FnScope N_longest_free ["busy", "people", "size"] (defScope st_longest_free) := ⟨rfl, rfl, rfl, by decide +kernel, rfl, by decide +kernel, by decide +kernel⟩
abbrev st_who_can : Stmt := topS 9
abbrev N_who_can : List Str := ["busy", "begin", "end", "person", "k"]
theorem sc_who_can : FnScope N_who_can ["busy", "begin", "end"] (defScope st_who_can) := ⟨rfl, rfl, rfl, by decide +kernel, rfl, by decide +kernel, by decide +kernel⟩
abbrev st_fewest_moved : Stmt := topS 13
abbrev N_fewest_moved : List Str := ["busy", "people", "begin", "end", "rows", "person", "own", "first", "last"]
theorem sc_fewest_moved : FnScope N_fewest_moved ["busy", "people", "begin", "end"] (defScope st_fewest_moved) := ⟨rfl, rfl, rfl, by decide +kernel, rfl, by decide +kernel, by decide +kernel⟩
abbrev st_best_meeting : Stmt := topS 10
abbrev N_best_meeting : List Str := ["busy", "long", "size", "rows", "begin"]
theorem sc_best_meeting : FnScope N_best_meeting ["busy", "long", "size"] (defScope st_best_meeting) := ⟨rfl, rfl, rfl, by decide +kernel, rfl, by decide +kernel, by decide +kernel⟩
abbrev st_with_must : Stmt := topS 11
abbrev N_with_must : List Str := ["busy", "must", "may", "long", "size", "rows", "begin", "able", "person"]
theorem sc_with_must : FnScope N_with_must ["busy", "must", "may", "long", "size"] (defScope st_with_must) := ⟨rfl, rfl, rfl, by decide +kernel, rfl, by decide +kernel, by decide +kernel⟩
abbrev st_first_meeting : Stmt := topS 8
abbrev N_first_meeting : List Str := ["busy", "people", "long", "size", "able", "begin", "end"]
theorem sc_first_meeting : FnScope N_first_meeting ["busy", "people", "long", "size"] (defScope st_first_meeting) := ⟨rfl, rfl, rfl, by decide +kernel, rfl, by decide +kernel, by decide +kernel⟩
abbrev st_meetings_row : Stmt := topS 12
abbrev N_meetings_row : List Str := ["busy", "asks", "size", "person", "found", "now", "people", "long", "begin"]
theorem sc_meetings_row : FnScope N_meetings_row ["busy", "asks", "size"] (defScope st_meetings_row) := ⟨rfl, rfl, rfl, by decide +kernel, rfl, by decide +kernel, by decide +kernel⟩
abbrev st_free_of : Stmt := topS 7
abbrev N_free_of : List Str := ["busy", "person", "size"]
theorem sc_free_of : FnScope N_free_of ["busy", "person", "size"] (defScope st_free_of) := ⟨rfl, rfl, rfl, by decide +kernel, rfl, by decide +kernel, by decide +kernel⟩
abbrev st_divisor : Stmt := topS 1
abbrev N_divisor : List Str := ["a", "b"]
theorem sc_divisor : FnScope N_divisor ["a", "b"] (defScope st_divisor) := ⟨rfl, rfl, rfl, by decide +kernel, rfl, by decide +kernel, by decide +kernel⟩
abbrev st_fraction : Stmt := topS 2
abbrev N_fraction : List Str := ["a", "b", "common"]
theorem sc_fraction : FnScope N_fraction ["a", "b"] (defScope st_fraction) := ⟨rfl, rfl, rfl, by decide +kernel, rfl, by decide +kernel, by decide +kernel⟩
abbrev st_share_busy : Stmt := topS 15
abbrev N_share_busy : List Str := ["busy", "person", "size", "k"]
theorem sc_share_busy : FnScope N_share_busy ["busy", "person", "size"] (defScope st_share_busy) := ⟨rfl, rfl, rfl, by decide +kernel, rfl, by decide +kernel, by decide +kernel⟩
abbrev st__law_fraction : Stmt := topS 22
abbrev N__law_fraction : List Str := ["a", "b", "x", "y"]
theorem sc__law_fraction : FnScope N__law_fraction ["a", "b"] (defScope st__law_fraction) := ⟨rfl, rfl, rfl, by decide +kernel, rfl, by decide +kernel, by decide +kernel⟩
abbrev st_law : Stmt := topS 34
abbrev N_law : List Str := ["script", "w", "turn", "size", "busy", "names", "name", "people", "k", "rows", "long", "begin", "end", "longest", "met", "spots", "at", "counts", "may", "best", "able", "many", "asks", "now", "due", "own", "span", "first", "last"]
theorem sc_law : FnScope N_law ["script"] (defScope st_law) := ⟨rfl, rfl, rfl, by decide +kernel, rfl, by decide +kernel, by decide +kernel⟩
theorem nm_a : Nm "a" := ⟨rfl, rfl⟩
theorem nm_able : Nm "able" := ⟨rfl, rfl⟩
theorem nm_asks : Nm "asks" := ⟨rfl, rfl⟩
theorem nm_at : Nm "at" := ⟨rfl, rfl⟩
theorem nm_b : Nm "b" := ⟨rfl, rfl⟩
theorem nm_begin : Nm "begin" := ⟨rfl, rfl⟩
theorem nm_best : Nm "best" := ⟨rfl, rfl⟩
theorem nm_busy : Nm "busy" := ⟨rfl, rfl⟩
theorem nm_cell : Nm "cell" := ⟨rfl, rfl⟩
theorem nm_common : Nm "common" := ⟨rfl, rfl⟩
theorem nm_counts : Nm "counts" := ⟨rfl, rfl⟩
theorem nm_draws : Nm "draws" := ⟨rfl, rfl⟩
theorem nm_due : Nm "due" := ⟨rfl, rfl⟩
theorem nm_end : Nm "end" := ⟨rfl, rfl⟩
theorem nm_first : Nm "first" := ⟨rfl, rfl⟩
theorem nm_found : Nm "found" := ⟨rfl, rfl⟩
theorem nm_good : Nm "good" := ⟨rfl, rfl⟩
theorem nm_k : Nm "k" := ⟨rfl, rfl⟩
theorem nm_last : Nm "last" := ⟨rfl, rfl⟩
theorem nm_long : Nm "long" := ⟨rfl, rfl⟩
theorem nm_longest : Nm "longest" := ⟨rfl, rfl⟩
theorem nm_many : Nm "many" := ⟨rfl, rfl⟩
theorem nm_may : Nm "may" := ⟨rfl, rfl⟩
theorem nm_met : Nm "met" := ⟨rfl, rfl⟩
theorem nm_mixed : Nm "mixed" := ⟨rfl, rfl⟩
theorem nm_moment : Nm "moment" := ⟨rfl, rfl⟩
theorem nm_moments : Nm "moments" := ⟨rfl, rfl⟩
theorem nm_must : Nm "must" := ⟨rfl, rfl⟩
theorem nm_name : Nm "name" := ⟨rfl, rfl⟩
theorem nm_names : Nm "names" := ⟨rfl, rfl⟩
theorem nm_now : Nm "now" := ⟨rfl, rfl⟩
theorem nm_own : Nm "own" := ⟨rfl, rfl⟩
theorem nm_people : Nm "people" := ⟨rfl, rfl⟩
theorem nm_person : Nm "person" := ⟨rfl, rfl⟩
theorem nm_rest : Nm "rest" := ⟨rfl, rfl⟩
theorem nm_rows : Nm "rows" := ⟨rfl, rfl⟩
theorem nm_script : Nm "script" := ⟨rfl, rfl⟩
theorem nm_seen : Nm "seen" := ⟨rfl, rfl⟩
theorem nm_size : Nm "size" := ⟨rfl, rfl⟩
theorem nm_span : Nm "span" := ⟨rfl, rfl⟩
theorem nm_spots : Nm "spots" := ⟨rfl, rfl⟩
theorem nm_w : Nm "w" := ⟨rfl, rfl⟩
theorem nm_x : Nm "x" := ⟨rfl, rfl⟩
theorem nm_y : Nm "y" := ⟨rfl, rfl⟩
theorem lk__law_draws_abs : (defScope st__law_draws).names.lookup ("abs" : Str) = some .globalImplicit := by decide +kernel
theorem lk__law_draws_cell : (defScope st__law_draws).names.lookup ("cell" : Str) = some .local := by decide +kernel
theorem lk__law_draws_draws : (defScope st__law_draws).names.lookup ("draws" : Str) = some .local := by decide +kernel
theorem lk__law_draws_int : (defScope st__law_draws).names.lookup ("int" : Str) = some .globalImplicit := by decide +kernel
theorem lk__law_draws_k : (defScope st__law_draws).names.lookup ("k" : Str) = some .local := by decide +kernel
theorem lk__law_draws_len : (defScope st__law_draws).names.lookup ("len" : Str) = some .globalImplicit := by decide +kernel
theorem lk__law_draws_many : (defScope st__law_draws).names.lookup ("many" : Str) = some .local := by decide +kernel
theorem lk__law_draws_mixed : (defScope st__law_draws).names.lookup ("mixed" : Str) = some .local := by decide +kernel
theorem lk__law_draws_range : (defScope st__law_draws).names.lookup ("range" : Str) = some .globalImplicit := by decide +kernel
theorem lk__law_draws_rest : (defScope st__law_draws).names.lookup ("rest" : Str) = some .local := by decide +kernel
theorem lk__law_draws_script : (defScope st__law_draws).names.lookup ("script" : Str) = some .local := by decide +kernel
theorem lk__law_draws_turn : (defScope st__law_draws).names.lookup ("turn" : Str) = some .local := by decide +kernel
theorem va__law_draws_cell {P : Program} {w : World} {K : PySem.W.Frag} {mg : Str → Option Value} {base : Heap} {k : Nat} {fn : Str → Bool} : VarAt ⟨P, w, K, mg, base, N__law_draws, defScope st__law_draws, k, fn⟩ 5 "cell" := vaL rfl lk__law_draws_cell nm_cell
theorem va__law_draws_draws {P : Program} {w : World} {K : PySem.W.Frag} {mg : Str → Option Value} {base : Heap} {k : Nat} {fn : Str → Bool} : VarAt ⟨P, w, K, mg, base, N__law_draws, defScope st__law_draws, k, fn⟩ 2 "draws" := vaL rfl lk__law_draws_draws nm_draws
theorem va__law_draws_k {P : Program} {w : World} {K : PySem.W.Frag} {mg : Str → Option Value} {base : Heap} {k : Nat} {fn : Str → Bool} : VarAt ⟨P, w, K, mg, base, N__law_draws, defScope st__law_draws, k, fn⟩ 4 "k" := vaL rfl lk__law_draws_k nm_k
theorem va__law_draws_many {P : Program} {w : World} {K : PySem.W.Frag} {mg : Str → Option Value} {base : Heap} {k : Nat} {fn : Str → Bool} : VarAt ⟨P, w, K, mg, base, N__law_draws, defScope st__law_draws, k, fn⟩ 1 "many" := vaL rfl lk__law_draws_many nm_many
theorem va__law_draws_mixed {P : Program} {w : World} {K : PySem.W.Frag} {mg : Str → Option Value} {base : Heap} {k : Nat} {fn : Str → Bool} : VarAt ⟨P, w, K, mg, base, N__law_draws, defScope st__law_draws, k, fn⟩ 3 "mixed" := vaL rfl lk__law_draws_mixed nm_mixed
theorem va__law_draws_rest {P : Program} {w : World} {K : PySem.W.Frag} {mg : Str → Option Value} {base : Heap} {k : Nat} {fn : Str → Bool} : VarAt ⟨P, w, K, mg, base, N__law_draws, defScope st__law_draws, k, fn⟩ 6 "rest" := vaL rfl lk__law_draws_rest nm_rest
theorem va__law_draws_script {P : Program} {w : World} {K : PySem.W.Frag} {mg : Str → Option Value} {base : Heap} {k : Nat} {fn : Str → Bool} : VarAt ⟨P, w, K, mg, base, N__law_draws, defScope st__law_draws, k, fn⟩ 0 "script" := vaL rfl lk__law_draws_script nm_script
theorem sa__law_draws_cell {P : Program} {w : World} {K : PySem.W.Frag} {mg : Str → Option Value} {base : Heap} {k : Nat} : SetAt ⟨P, w, K, mg, base, N__law_draws, defScope st__law_draws, k, fun _ => true⟩ 5 "cell" := saL rfl lk__law_draws_cell
theorem sa__law_draws_draws {P : Program} {w : World} {K : PySem.W.Frag} {mg : Str → Option Value} {base : Heap} {k : Nat} : SetAt ⟨P, w, K, mg, base, N__law_draws, defScope st__law_draws, k, fun _ => true⟩ 2 "draws" := saL rfl lk__law_draws_draws
theorem sa__law_draws_k {P : Program} {w : World} {K : PySem.W.Frag} {mg : Str → Option Value} {base : Heap} {k : Nat} : SetAt ⟨P, w, K, mg, base, N__law_draws, defScope st__law_draws, k, fun _ => true⟩ 4 "k" := saL rfl lk__law_draws_k
theorem sa__law_draws_mixed {P : Program} {w : World} {K : PySem.W.Frag} {mg : Str → Option Value} {base : Heap} {k : Nat} : SetAt ⟨P, w, K, mg, base, N__law_draws, defScope st__law_draws, k, fun _ => true⟩ 3 "mixed" := saL rfl lk__law_draws_mixed
theorem sa__law_draws_rest {P : Program} {w : World} {K : PySem.W.Frag} {mg : Str → Option Value} {base : Heap} {k : Nat} : SetAt ⟨P, w, K, mg, base, N__law_draws, defScope st__law_draws, k, fun _ => true⟩ 6 "rest" := saL rfl lk__law_draws_rest
theorem sa__law_draws_turn {P : Program} {w : World} {K : PySem.W.Frag} {mg : Str → Option Value} {base : Heap} {k : Nat} : SetAt ⟨P, w, K, mg, base, N__law_draws, defScope st__law_draws, k, fun _ => true⟩ 7 "turn" := saL rfl lk__law_draws_turn
theorem lk__law_busy__law_next : (defScope st__law_busy).names.lookup ("_law_next" : Str) = some .globalImplicit := by decide +kernel
theorem lk__law_busy_begin : (defScope st__law_busy).names.lookup ("begin" : Str) = some .local := by decide +kernel
theorem lk__law_busy_found : (defScope st__law_busy).names.lookup ("found" : Str) = some .local := by decide +kernel
theorem lk__law_busy_k : (defScope st__law_busy).names.lookup ("k" : Str) = some .local := by decide +kernel
theorem lk__law_busy_name : (defScope st__law_busy).names.lookup ("name" : Str) = some .local := by decide +kernel
theorem lk__law_busy_range : (defScope st__law_busy).names.lookup ("range" : Str) = some .globalImplicit := by decide +kernel
theorem lk__law_busy_rows : (defScope st__law_busy).names.lookup ("rows" : Str) = some .local := by decide +kernel
theorem lk__law_busy_size : (defScope st__law_busy).names.lookup ("size" : Str) = some .local := by decide +kernel
theorem lk__law_busy_tuple : (defScope st__law_busy).names.lookup ("tuple" : Str) = some .globalImplicit := by decide +kernel
theorem lk__law_busy_w : (defScope st__law_busy).names.lookup ("w" : Str) = some .local := by decide +kernel
theorem va__law_busy_begin {P : Program} {w : World} {K : PySem.W.Frag} {mg : Str → Option Value} {base : Heap} {k : Nat} {fn : Str → Bool} : VarAt ⟨P, w, K, mg, base, N__law_busy, defScope st__law_busy, k, fn⟩ 6 "begin" := vaL rfl lk__law_busy_begin nm_begin
theorem va__law_busy_found {P : Program} {w : World} {K : PySem.W.Frag} {mg : Str → Option Value} {base : Heap} {k : Nat} {fn : Str → Bool} : VarAt ⟨P, w, K, mg, base, N__law_busy, defScope st__law_busy, k, fn⟩ 2 "found" := vaL rfl lk__law_busy_found nm_found
theorem va__law_busy_name {P : Program} {w : World} {K : PySem.W.Frag} {mg : Str → Option Value} {base : Heap} {k : Nat} {fn : Str → Bool} : VarAt ⟨P, w, K, mg, base, N__law_busy, defScope st__law_busy, k, fn⟩ 3 "name" := vaL rfl lk__law_busy_name nm_name
theorem va__law_busy_rows {P : Program} {w : World} {K : PySem.W.Frag} {mg : Str → Option Value} {base : Heap} {k : Nat} {fn : Str → Bool} : VarAt ⟨P, w, K, mg, base, N__law_busy, defScope st__law_busy, k, fn⟩ 4 "rows" := vaL rfl lk__law_busy_rows nm_rows
theorem va__law_busy_size {P : Program} {w : World} {K : PySem.W.Frag} {mg : Str → Option Value} {base : Heap} {k : Nat} {fn : Str → Bool} : VarAt ⟨P, w, K, mg, base, N__law_busy, defScope st__law_busy, k, fn⟩ 1 "size" := vaL rfl lk__law_busy_size nm_size
theorem va__law_busy_w {P : Program} {w : World} {K : PySem.W.Frag} {mg : Str → Option Value} {base : Heap} {k : Nat} {fn : Str → Bool} : VarAt ⟨P, w, K, mg, base, N__law_busy, defScope st__law_busy, k, fn⟩ 0 "w" := vaL rfl lk__law_busy_w nm_w
theorem sa__law_busy_begin {P : Program} {w : World} {K : PySem.W.Frag} {mg : Str → Option Value} {base : Heap} {k : Nat} : SetAt ⟨P, w, K, mg, base, N__law_busy, defScope st__law_busy, k, fun _ => true⟩ 6 "begin" := saL rfl lk__law_busy_begin
theorem sa__law_busy_found {P : Program} {w : World} {K : PySem.W.Frag} {mg : Str → Option Value} {base : Heap} {k : Nat} : SetAt ⟨P, w, K, mg, base, N__law_busy, defScope st__law_busy, k, fun _ => true⟩ 2 "found" := saL rfl lk__law_busy_found
theorem sa__law_busy_k {P : Program} {w : World} {K : PySem.W.Frag} {mg : Str → Option Value} {base : Heap} {k : Nat} : SetAt ⟨P, w, K, mg, base, N__law_busy, defScope st__law_busy, k, fun _ => true⟩ 5 "k" := saL rfl lk__law_busy_k
theorem sa__law_busy_name {P : Program} {w : World} {K : PySem.W.Frag} {mg : Str → Option Value} {base : Heap} {k : Nat} : SetAt ⟨P, w, K, mg, base, N__law_busy, defScope st__law_busy, k, fun _ => true⟩ 3 "name" := saL rfl lk__law_busy_name
theorem sa__law_busy_rows {P : Program} {w : World} {K : PySem.W.Frag} {mg : Str → Option Value} {base : Heap} {k : Nat} : SetAt ⟨P, w, K, mg, base, N__law_busy, defScope st__law_busy, k, fun _ => true⟩ 4 "rows" := saL rfl lk__law_busy_rows
theorem lk__law_free_busy : (defScope st__law_free).names.lookup ("busy" : Str) = some .local := by decide +kernel
theorem lk__law_free_moment : (defScope st__law_free).names.lookup ("moment" : Str) = some .cell := by decide +kernel
theorem lk__law_free_name : (defScope st__law_free).names.lookup ("name" : Str) = some .local := by decide +kernel
theorem va__law_free_busy {P : Program} {w : World} {K : PySem.W.Frag} {mg : Str → Option Value} {base : Heap} {k : Nat} {fn : Str → Bool} : VarAt ⟨P, w, K, mg, base, N__law_free, defScope st__law_free, k, fn⟩ 0 "busy" := vaL rfl lk__law_free_busy nm_busy
theorem va__law_free_name {P : Program} {w : World} {K : PySem.W.Frag} {mg : Str → Option Value} {base : Heap} {k : Nat} {fn : Str → Bool} : VarAt ⟨P, w, K, mg, base, N__law_free, defScope st__law_free, k, fn⟩ 1 "name" := vaL rfl lk__law_free_name nm_name
theorem lk__law_all_busy : (defScope st__law_all).names.lookup ("busy" : Str) = some .cell := by decide +kernel
theorem lk__law_all_found : (defScope st__law_all).names.lookup ("found" : Str) = some .local := by decide +kernel
theorem lk__law_all_good : (defScope st__law_all).names.lookup ("good" : Str) = some .local := by decide +kernel
theorem lk__law_all_k : (defScope st__law_all).names.lookup ("k" : Str) = some .local := by decide +kernel
theorem lk__law_all_now : (defScope st__law_all).names.lookup ("now" : Str) = some .local := by decide +kernel
theorem lk__law_all_people : (defScope st__law_all).names.lookup ("people" : Str) = some .cell := by decide +kernel
theorem lk__law_all_range : (defScope st__law_all).names.lookup ("range" : Str) = some .globalImplicit := by decide +kernel
theorem lk__law_all_size : (defScope st__law_all).names.lookup ("size" : Str) = some .local := by decide +kernel
theorem va__law_all_found {P : Program} {w : World} {K : PySem.W.Frag} {mg : Str → Option Value} {base : Heap} {k : Nat} {fn : Str → Bool} : VarAt ⟨P, w, K, mg, base, N__law_all, defScope st__law_all, k, fn⟩ 5 "found" := vaL rfl lk__law_all_found nm_found
theorem va__law_all_good {P : Program} {w : World} {K : PySem.W.Frag} {mg : Str → Option Value} {base : Heap} {k : Nat} {fn : Str → Bool} : VarAt ⟨P, w, K, mg, base, N__law_all, defScope st__law_all, k, fn⟩ 4 "good" := vaL rfl lk__law_all_good nm_good
theorem va__law_all_k {P : Program} {w : World} {K : PySem.W.Frag} {mg : Str → Option Value} {base : Heap} {k : Nat} {fn : Str → Bool} : VarAt ⟨P, w, K, mg, base, N__law_all, defScope st__law_all, k, fn⟩ 3 "k" := vaL rfl lk__law_all_k nm_k
theorem va__law_all_now {P : Program} {w : World} {K : PySem.W.Frag} {mg : Str → Option Value} {base : Heap} {k : Nat} {fn : Str → Bool} : VarAt ⟨P, w, K, mg, base, N__law_all, defScope st__law_all, k, fn⟩ 6 "now" := vaL rfl lk__law_all_now nm_now
theorem va__law_all_size {P : Program} {w : World} {K : PySem.W.Frag} {mg : Str → Option Value} {base : Heap} {k : Nat} {fn : Str → Bool} : VarAt ⟨P, w, K, mg, base, N__law_all, defScope st__law_all, k, fn⟩ 2 "size" := vaL rfl lk__law_all_size nm_size
theorem sa__law_all_found {P : Program} {w : World} {K : PySem.W.Frag} {mg : Str → Option Value} {base : Heap} {k : Nat} : SetAt ⟨P, w, K, mg, base, N__law_all, defScope st__law_all, k, fun _ => true⟩ 5 "found" := saL rfl lk__law_all_found
theorem sa__law_all_good {P : Program} {w : World} {K : PySem.W.Frag} {mg : Str → Option Value} {base : Heap} {k : Nat} : SetAt ⟨P, w, K, mg, base, N__law_all, defScope st__law_all, k, fun _ => true⟩ 4 "good" := saL rfl lk__law_all_good
theorem sa__law_all_k {P : Program} {w : World} {K : PySem.W.Frag} {mg : Str → Option Value} {base : Heap} {k : Nat} : SetAt ⟨P, w, K, mg, base, N__law_all, defScope st__law_all, k, fun _ => true⟩ 3 "k" := saL rfl lk__law_all_k
theorem sa__law_all_now {P : Program} {w : World} {K : PySem.W.Frag} {mg : Str → Option Value} {base : Heap} {k : Nat} : SetAt ⟨P, w, K, mg, base, N__law_all, defScope st__law_all, k, fun _ => true⟩ 6 "now" := saL rfl lk__law_all_now
theorem lk__law_same_bool : (defScope st__law_same).names.lookup ("bool" : Str) = some .globalImplicit := by decide +kernel
theorem lk__law_same_due : (defScope st__law_same).names.lookup ("due" : Str) = some .cell := by decide +kernel
theorem lk__law_same_int : (defScope st__law_same).names.lookup ("int" : Str) = some .globalImplicit := by decide +kernel
theorem lk__law_same_isinstance : (defScope st__law_same).names.lookup ("isinstance" : Str) = some .globalImplicit := by decide +kernel
theorem lk__law_same_len : (defScope st__law_same).names.lookup ("len" : Str) = some .globalImplicit := by decide +kernel
theorem lk__law_same_range : (defScope st__law_same).names.lookup ("range" : Str) = some .globalImplicit := by decide +kernel
theorem lk__law_same_seen : (defScope st__law_same).names.lookup ("seen" : Str) = some .cell := by decide +kernel
theorem lk__law_same_str : (defScope st__law_same).names.lookup ("str" : Str) = some .globalImplicit := by decide +kernel
theorem lk__law_same_tuple : (defScope st__law_same).names.lookup ("tuple" : Str) = some .globalImplicit := by decide +kernel
theorem va__law_same_due {P : Program} {w : World} {K : PySem.W.Frag} {mg : Str → Option Value} {base : Heap} {k : Nat} {fn : Str → Bool} : VarAt ⟨P, w, K, mg, base, N__law_same, defScope st__law_same, k, fn⟩ 1 "due" := vaC rfl lk__law_same_due nm_due
theorem va__law_same_seen {P : Program} {w : World} {K : PySem.W.Frag} {mg : Str → Option Value} {base : Heap} {k : Nat} {fn : Str → Bool} : VarAt ⟨P, w, K, mg, base, N__law_same, defScope st__law_same, k, fn⟩ 0 "seen" := vaC rfl lk__law_same_seen nm_seen
theorem lk__law_can_begin : (defScope st__law_can).names.lookup ("begin" : Str) = some .cell := by decide +kernel
theorem lk__law_can_busy : (defScope st__law_can).names.lookup ("busy" : Str) = some .cell := by decide +kernel
theorem lk__law_can_end : (defScope st__law_can).names.lookup ("end" : Str) = some .cell := by decide +kernel
theorem lk__law_can_sorted : (defScope st__law_can).names.lookup ("sorted" : Str) = some .globalImplicit := by decide +kernel
theorem va__law_can_busy {P : Program} {w : World} {K : PySem.W.Frag} {mg : Str → Option Value} {base : Heap} {k : Nat} {fn : Str → Bool} : VarAt ⟨P, w, K, mg, base, N__law_can, defScope st__law_can, k, fn⟩ 0 "busy" := vaC rfl lk__law_can_busy nm_busy
theorem lk__law_first__law_all : (defScope st__law_first).names.lookup ("_law_all" : Str) = some .globalImplicit := by decide +kernel
theorem lk__law_first_able : (defScope st__law_first).names.lookup ("able" : Str) = some .local := by decide +kernel
theorem lk__law_first_busy : (defScope st__law_first).names.lookup ("busy" : Str) = some .local := by decide +kernel
theorem lk__law_first_long : (defScope st__law_first).names.lookup ("long" : Str) = some .cell := by decide +kernel
theorem lk__law_first_people : (defScope st__law_first).names.lookup ("people" : Str) = some .local := by decide +kernel
theorem lk__law_first_size : (defScope st__law_first).names.lookup ("size" : Str) = some .local := by decide +kernel
theorem va__law_first_able {P : Program} {w : World} {K : PySem.W.Frag} {mg : Str → Option Value} {base : Heap} {k : Nat} {fn : Str → Bool} : VarAt ⟨P, w, K, mg, base, N__law_first, defScope st__law_first, k, fn⟩ 4 "able" := vaL rfl lk__law_first_able nm_able
theorem va__law_first_busy {P : Program} {w : World} {K : PySem.W.Frag} {mg : Str → Option Value} {base : Heap} {k : Nat} {fn : Str → Bool} : VarAt ⟨P, w, K, mg, base, N__law_first, defScope st__law_first, k, fn⟩ 0 "busy" := vaL rfl lk__law_first_busy nm_busy
theorem va__law_first_people {P : Program} {w : World} {K : PySem.W.Frag} {mg : Str → Option Value} {base : Heap} {k : Nat} {fn : Str → Bool} : VarAt ⟨P, w, K, mg, base, N__law_first, defScope st__law_first, k, fn⟩ 1 "people" := vaL rfl lk__law_first_people nm_people
theorem va__law_first_size {P : Program} {w : World} {K : PySem.W.Frag} {mg : Str → Option Value} {base : Heap} {k : Nat} {fn : Str → Bool} : VarAt ⟨P, w, K, mg, base, N__law_first, defScope st__law_first, k, fn⟩ 3 "size" := vaL rfl lk__law_first_size nm_size
theorem sa__law_first_able {P : Program} {w : World} {K : PySem.W.Frag} {mg : Str → Option Value} {base : Heap} {k : Nat} : SetAt ⟨P, w, K, mg, base, N__law_first, defScope st__law_first, k, fun _ => true⟩ 4 "able" := saL rfl lk__law_first_able
theorem lk_stretches_found : (defScope st_stretches).names.lookup ("found" : Str) = some .local := by decide +kernel
theorem lk_stretches_moment : (defScope st_stretches).names.lookup ("moment" : Str) = some .local := by decide +kernel
theorem lk_stretches_moments : (defScope st_stretches).names.lookup ("moments" : Str) = some .local := by decide +kernel
theorem lk_stretches_tuple : (defScope st_stretches).names.lookup ("tuple" : Str) = some .globalImplicit := by decide +kernel
theorem va_stretches_found {P : Program} {w : World} {K : PySem.W.Frag} {mg : Str → Option Value} {base : Heap} {k : Nat} {fn : Str → Bool} : VarAt ⟨P, w, K, mg, base, N_stretches, defScope st_stretches, k, fn⟩ 1 "found" := vaL rfl lk_stretches_found nm_found
theorem va_stretches_moment {P : Program} {w : World} {K : PySem.W.Frag} {mg : Str → Option Value} {base : Heap} {k : Nat} {fn : Str → Bool} : VarAt ⟨P, w, K, mg, base, N_stretches, defScope st_stretches, k, fn⟩ 2 "moment" := vaL rfl lk_stretches_moment nm_moment
theorem va_stretches_moments {P : Program} {w : World} {K : PySem.W.Frag} {mg : Str → Option Value} {base : Heap} {k : Nat} {fn : Str → Bool} : VarAt ⟨P, w, K, mg, base, N_stretches, defScope st_stretches, k, fn⟩ 0 "moments" := vaL rfl lk_stretches_moments nm_moments
theorem sa_stretches_found {P : Program} {w : World} {K : PySem.W.Frag} {mg : Str → Option Value} {base : Heap} {k : Nat} : SetAt ⟨P, w, K, mg, base, N_stretches, defScope st_stretches, k, fun _ => true⟩ 1 "found" := saL rfl lk_stretches_found
theorem sa_stretches_moment {P : Program} {w : World} {K : PySem.W.Frag} {mg : Str → Option Value} {base : Heap} {k : Nat} : SetAt ⟨P, w, K, mg, base, N_stretches, defScope st_stretches, k, fun _ => true⟩ 2 "moment" := saL rfl lk_stretches_moment
theorem lk_is_free_any : (defScope st_is_free).names.lookup ("any" : Str) = some .globalImplicit := by decide +kernel
theorem lk_is_free_busy : (defScope st_is_free).names.lookup ("busy" : Str) = some .local := by decide +kernel
theorem lk_is_free_moment : (defScope st_is_free).names.lookup ("moment" : Str) = some .cell := by decide +kernel
theorem lk_is_free_person : (defScope st_is_free).names.lookup ("person" : Str) = some .local := by decide +kernel
theorem va_is_free_busy {P : Program} {w : World} {K : PySem.W.Frag} {mg : Str → Option Value} {base : Heap} {k : Nat} {fn : Str → Bool} : VarAt ⟨P, w, K, mg, base, N_is_free, defScope st_is_free, k, fn⟩ 0 "busy" := vaL rfl lk_is_free_busy nm_busy
theorem va_is_free_person {P : Program} {w : World} {K : PySem.W.Frag} {mg : Str → Option Value} {base : Heap} {k : Nat} {fn : Str → Bool} : VarAt ⟨P, w, K, mg, base, N_is_free, defScope st_is_free, k, fn⟩ 1 "person" := vaL rfl lk_is_free_person nm_person
theorem lk_all_free_busy : (defScope st_all_free).names.lookup ("busy" : Str) = some .cell := by decide +kernel
theorem lk_all_free_people : (defScope st_all_free).names.lookup ("people" : Str) = some .cell := by decide +kernel
theorem lk_all_free_range : (defScope st_all_free).names.lookup ("range" : Str) = some .globalImplicit := by decide +kernel
theorem lk_all_free_size : (defScope st_all_free).names.lookup ("size" : Str) = some .local := by decide +kernel
theorem lk_all_free_stretches : (defScope st_all_free).names.lookup ("stretches" : Str) = some .globalImplicit := by decide +kernel
theorem va_all_free_size {P : Program} {w : World} {K : PySem.W.Frag} {mg : Str → Option Value} {base : Heap} {k : Nat} {fn : Str → Bool} : VarAt ⟨P, w, K, mg, base, N_all_free, defScope st_all_free, k, fn⟩ 2 "size" := vaL rfl lk_all_free_size nm_size
theorem lk_longest_free_all_free : (defScope st_longest_free).names.lookup ("all_free" : Str) = some .globalImplicit := by decide +kernel
theorem lk_longest_free_busy : (defScope st_longest_free).names.lookup ("busy" : Str) = some .local := by decide +kernel
theorem lk_longest_free_min : (defScope st_longest_free).names.lookup ("min" : Str) = some .globalImplicit := by decide +kernel
theorem lk_longest_free_people : (defScope st_longest_free).names.lookup ("people" : Str) = some .local := by decide +kernel
theorem lk_longest_free_rows : (defScope st_longest_free).names.lookup ("rows" : Str) = some .local := by decide +kernel
theorem lk_longest_free_size : (defScope st_longest_free).names.lookup ("size" : Str) = some .local := by decide +kernel
theorem va_longest_free_busy {P : Program} {w : World} {K : PySem.W.Frag} {mg : Str → Option Value} {base : Heap} {k : Nat} {fn : Str → Bool} : VarAt ⟨P, w, K, mg, base, N_longest_free, defScope st_longest_free, k, fn⟩ 0 "busy" := vaL rfl lk_longest_free_busy nm_busy
theorem va_longest_free_people {P : Program} {w : World} {K : PySem.W.Frag} {mg : Str → Option Value} {base : Heap} {k : Nat} {fn : Str → Bool} : VarAt ⟨P, w, K, mg, base, N_longest_free, defScope st_longest_free, k, fn⟩ 1 "people" := vaL rfl lk_longest_free_people nm_people
theorem va_longest_free_rows {P : Program} {w : World} {K : PySem.W.Frag} {mg : Str → Option Value} {base : Heap} {k : Nat} {fn : Str → Bool} : VarAt ⟨P, w, K, mg, base, N_longest_free, defScope st_longest_free, k, fn⟩ 3 "rows" := vaL rfl lk_longest_free_rows nm_rows
theorem va_longest_free_size {P : Program} {w : World} {K : PySem.W.Frag} {mg : Str → Option Value} {base : Heap} {k : Nat} {fn : Str → Bool} : VarAt ⟨P, w, K, mg, base, N_longest_free, defScope st_longest_free, k, fn⟩ 2 "size" := vaL rfl lk_longest_free_size nm_size
theorem sa_longest_free_rows {P : Program} {w : World} {K : PySem.W.Frag} {mg : Str → Option Value} {base : Heap} {k : Nat} : SetAt ⟨P, w, K, mg, base, N_longest_free, defScope st_longest_free, k, fun _ => true⟩ 3 "rows" := saL rfl lk_longest_free_rows
theorem lk_who_can_begin : (defScope st_who_can).names.lookup ("begin" : Str) = some .cell := by decide +kernel
theorem lk_who_can_busy : (defScope st_who_can).names.lookup ("busy" : Str) = some .cell := by decide +kernel
theorem lk_who_can_end : (defScope st_who_can).names.lookup ("end" : Str) = some .cell := by decide +kernel
theorem lk_who_can_sorted : (defScope st_who_can).names.lookup ("sorted" : Str) = some .globalImplicit := by decide +kernel
theorem lk_who_can_tuple : (defScope st_who_can).names.lookup ("tuple" : Str) = some .globalImplicit := by decide +kernel
theorem va_who_can_busy {P : Program} {w : World} {K : PySem.W.Frag} {mg : Str → Option Value} {base : Heap} {k : Nat} {fn : Str → Bool} : VarAt ⟨P, w, K, mg, base, N_who_can, defScope st_who_can, k, fn⟩ 0 "busy" := vaC rfl lk_who_can_busy nm_busy
theorem lk_fewest_moved_begin : (defScope st_fewest_moved).names.lookup ("begin" : Str) = some .cell := by decide +kernel
theorem lk_fewest_moved_busy : (defScope st_fewest_moved).names.lookup ("busy" : Str) = some .cell := by decide +kernel
theorem lk_fewest_moved_end : (defScope st_fewest_moved).names.lookup ("end" : Str) = some .cell := by decide +kernel
theorem lk_fewest_moved_len : (defScope st_fewest_moved).names.lookup ("len" : Str) = some .globalImplicit := by decide +kernel
theorem lk_fewest_moved_people : (defScope st_fewest_moved).names.lookup ("people" : Str) = some .local := by decide +kernel
theorem lk_fewest_moved_rows : (defScope st_fewest_moved).names.lookup ("rows" : Str) = some .local := by decide +kernel
theorem va_fewest_moved_people {P : Program} {w : World} {K : PySem.W.Frag} {mg : Str → Option Value} {base : Heap} {k : Nat} {fn : Str → Bool} : VarAt ⟨P, w, K, mg, base, N_fewest_moved, defScope st_fewest_moved, k, fn⟩ 1 "people" := vaL rfl lk_fewest_moved_people nm_people
theorem va_fewest_moved_rows {P : Program} {w : World} {K : PySem.W.Frag} {mg : Str → Option Value} {base : Heap} {k : Nat} {fn : Str → Bool} : VarAt ⟨P, w, K, mg, base, N_fewest_moved, defScope st_fewest_moved, k, fn⟩ 4 "rows" := vaL rfl lk_fewest_moved_rows nm_rows
theorem sa_fewest_moved_rows {P : Program} {w : World} {K : PySem.W.Frag} {mg : Str → Option Value} {base : Heap} {k : Nat} : SetAt ⟨P, w, K, mg, base, N_fewest_moved, defScope st_fewest_moved, k, fun _ => true⟩ 4 "rows" := saL rfl lk_fewest_moved_rows
theorem lk_best_meeting_busy : (defScope st_best_meeting).names.lookup ("busy" : Str) = some .cell := by decide +kernel
theorem lk_best_meeting_long : (defScope st_best_meeting).names.lookup ("long" : Str) = some .cell := by decide +kernel
theorem lk_best_meeting_min : (defScope st_best_meeting).names.lookup ("min" : Str) = some .globalImplicit := by decide +kernel
theorem lk_best_meeting_range : (defScope st_best_meeting).names.lookup ("range" : Str) = some .globalImplicit := by decide +kernel
theorem lk_best_meeting_rows : (defScope st_best_meeting).names.lookup ("rows" : Str) = some .local := by decide +kernel
theorem lk_best_meeting_size : (defScope st_best_meeting).names.lookup ("size" : Str) = some .local := by decide +kernel
theorem va_best_meeting_long {P : Program} {w : World} {K : PySem.W.Frag} {mg : Str → Option Value} {base : Heap} {k : Nat} {fn : Str → Bool} : VarAt ⟨P, w, K, mg, base, N_best_meeting, defScope st_best_meeting, k, fn⟩ 1 "long" := vaC rfl lk_best_meeting_long nm_long
theorem va_best_meeting_rows {P : Program} {w : World} {K : PySem.W.Frag} {mg : Str → Option Value} {base : Heap} {k : Nat} {fn : Str → Bool} : VarAt ⟨P, w, K, mg, base, N_best_meeting, defScope st_best_meeting, k, fn⟩ 3 "rows" := vaL rfl lk_best_meeting_rows nm_rows
theorem va_best_meeting_size {P : Program} {w : World} {K : PySem.W.Frag} {mg : Str → Option Value} {base : Heap} {k : Nat} {fn : Str → Bool} : VarAt ⟨P, w, K, mg, base, N_best_meeting, defScope st_best_meeting, k, fn⟩ 2 "size" := vaL rfl lk_best_meeting_size nm_size
theorem sa_best_meeting_rows {P : Program} {w : World} {K : PySem.W.Frag} {mg : Str → Option Value} {base : Heap} {k : Nat} : SetAt ⟨P, w, K, mg, base, N_best_meeting, defScope st_best_meeting, k, fun _ => true⟩ 3 "rows" := saL rfl lk_best_meeting_rows
theorem lk_with_must_able : (defScope st_with_must).names.lookup ("able" : Str) = some .cell := by decide +kernel
theorem lk_with_must_all : (defScope st_with_must).names.lookup ("all" : Str) = some .globalImplicit := by decide +kernel
theorem lk_with_must_begin : (defScope st_with_must).names.lookup ("begin" : Str) = some .local := by decide +kernel
theorem lk_with_must_busy : (defScope st_with_must).names.lookup ("busy" : Str) = some .local := by decide +kernel
theorem lk_with_must_len : (defScope st_with_must).names.lookup ("len" : Str) = some .globalImplicit := by decide +kernel
theorem lk_with_must_long : (defScope st_with_must).names.lookup ("long" : Str) = some .local := by decide +kernel
theorem lk_with_must_may : (defScope st_with_must).names.lookup ("may" : Str) = some .local := by decide +kernel
theorem lk_with_must_min : (defScope st_with_must).names.lookup ("min" : Str) = some .globalImplicit := by decide +kernel
theorem lk_with_must_must : (defScope st_with_must).names.lookup ("must" : Str) = some .local := by decide +kernel
theorem lk_with_must_range : (defScope st_with_must).names.lookup ("range" : Str) = some .globalImplicit := by decide +kernel
theorem lk_with_must_rows : (defScope st_with_must).names.lookup ("rows" : Str) = some .local := by decide +kernel
theorem lk_with_must_size : (defScope st_with_must).names.lookup ("size" : Str) = some .local := by decide +kernel
theorem lk_with_must_who_can : (defScope st_with_must).names.lookup ("who_can" : Str) = some .globalImplicit := by decide +kernel
theorem va_with_must_begin {P : Program} {w : World} {K : PySem.W.Frag} {mg : Str → Option Value} {base : Heap} {k : Nat} {fn : Str → Bool} : VarAt ⟨P, w, K, mg, base, N_with_must, defScope st_with_must, k, fn⟩ 6 "begin" := vaL rfl lk_with_must_begin nm_begin
theorem va_with_must_busy {P : Program} {w : World} {K : PySem.W.Frag} {mg : Str → Option Value} {base : Heap} {k : Nat} {fn : Str → Bool} : VarAt ⟨P, w, K, mg, base, N_with_must, defScope st_with_must, k, fn⟩ 0 "busy" := vaL rfl lk_with_must_busy nm_busy
theorem va_with_must_long {P : Program} {w : World} {K : PySem.W.Frag} {mg : Str → Option Value} {base : Heap} {k : Nat} {fn : Str → Bool} : VarAt ⟨P, w, K, mg, base, N_with_must, defScope st_with_must, k, fn⟩ 3 "long" := vaL rfl lk_with_must_long nm_long
theorem va_with_must_may {P : Program} {w : World} {K : PySem.W.Frag} {mg : Str → Option Value} {base : Heap} {k : Nat} {fn : Str → Bool} : VarAt ⟨P, w, K, mg, base, N_with_must, defScope st_with_must, k, fn⟩ 2 "may" := vaL rfl lk_with_must_may nm_may
theorem va_with_must_must {P : Program} {w : World} {K : PySem.W.Frag} {mg : Str → Option Value} {base : Heap} {k : Nat} {fn : Str → Bool} : VarAt ⟨P, w, K, mg, base, N_with_must, defScope st_with_must, k, fn⟩ 1 "must" := vaL rfl lk_with_must_must nm_must
theorem va_with_must_rows {P : Program} {w : World} {K : PySem.W.Frag} {mg : Str → Option Value} {base : Heap} {k : Nat} {fn : Str → Bool} : VarAt ⟨P, w, K, mg, base, N_with_must, defScope st_with_must, k, fn⟩ 5 "rows" := vaL rfl lk_with_must_rows nm_rows
theorem va_with_must_size {P : Program} {w : World} {K : PySem.W.Frag} {mg : Str → Option Value} {base : Heap} {k : Nat} {fn : Str → Bool} : VarAt ⟨P, w, K, mg, base, N_with_must, defScope st_with_must, k, fn⟩ 4 "size" := vaL rfl lk_with_must_size nm_size
theorem sa_with_must_able {P : Program} {w : World} {K : PySem.W.Frag} {mg : Str → Option Value} {base : Heap} {k : Nat} : SetAt ⟨P, w, K, mg, base, N_with_must, defScope st_with_must, k, fun _ => true⟩ 7 "able" := saC rfl lk_with_must_able rfl
theorem sa_with_must_begin {P : Program} {w : World} {K : PySem.W.Frag} {mg : Str → Option Value} {base : Heap} {k : Nat} : SetAt ⟨P, w, K, mg, base, N_with_must, defScope st_with_must, k, fun _ => true⟩ 6 "begin" := saL rfl lk_with_must_begin
theorem sa_with_must_rows {P : Program} {w : World} {K : PySem.W.Frag} {mg : Str → Option Value} {base : Heap} {k : Nat} : SetAt ⟨P, w, K, mg, base, N_with_must, defScope st_with_must, k, fun _ => true⟩ 5 "rows" := saL rfl lk_with_must_rows
theorem lk_first_meeting_able : (defScope st_first_meeting).names.lookup ("able" : Str) = some .local := by decide +kernel
theorem lk_first_meeting_all_free : (defScope st_first_meeting).names.lookup ("all_free" : Str) = some .globalImplicit := by decide +kernel
theorem lk_first_meeting_busy : (defScope st_first_meeting).names.lookup ("busy" : Str) = some .local := by decide +kernel
theorem lk_first_meeting_long : (defScope st_first_meeting).names.lookup ("long" : Str) = some .cell := by decide +kernel
theorem lk_first_meeting_people : (defScope st_first_meeting).names.lookup ("people" : Str) = some .local := by decide +kernel
theorem lk_first_meeting_size : (defScope st_first_meeting).names.lookup ("size" : Str) = some .local := by decide +kernel
theorem va_first_meeting_able {P : Program} {w : World} {K : PySem.W.Frag} {mg : Str → Option Value} {base : Heap} {k : Nat} {fn : Str → Bool} : VarAt ⟨P, w, K, mg, base, N_first_meeting, defScope st_first_meeting, k, fn⟩ 4 "able" := vaL rfl lk_first_meeting_able nm_able
theorem va_first_meeting_busy {P : Program} {w : World} {K : PySem.W.Frag} {mg : Str → Option Value} {base : Heap} {k : Nat} {fn : Str → Bool} : VarAt ⟨P, w, K, mg, base, N_first_meeting, defScope st_first_meeting, k, fn⟩ 0 "busy" := vaL rfl lk_first_meeting_busy nm_busy
theorem va_first_meeting_people {P : Program} {w : World} {K : PySem.W.Frag} {mg : Str → Option Value} {base : Heap} {k : Nat} {fn : Str → Bool} : VarAt ⟨P, w, K, mg, base, N_first_meeting, defScope st_first_meeting, k, fn⟩ 1 "people" := vaL rfl lk_first_meeting_people nm_people
theorem va_first_meeting_size {P : Program} {w : World} {K : PySem.W.Frag} {mg : Str → Option Value} {base : Heap} {k : Nat} {fn : Str → Bool} : VarAt ⟨P, w, K, mg, base, N_first_meeting, defScope st_first_meeting, k, fn⟩ 3 "size" := vaL rfl lk_first_meeting_size nm_size
theorem sa_first_meeting_able {P : Program} {w : World} {K : PySem.W.Frag} {mg : Str → Option Value} {base : Heap} {k : Nat} : SetAt ⟨P, w, K, mg, base, N_first_meeting, defScope st_first_meeting, k, fun _ => true⟩ 4 "able" := saL rfl lk_first_meeting_able
theorem lk_meetings_row_asks : (defScope st_meetings_row).names.lookup ("asks" : Str) = some .local := by decide +kernel
theorem lk_meetings_row_begin : (defScope st_meetings_row).names.lookup ("begin" : Str) = some .local := by decide +kernel
theorem lk_meetings_row_busy : (defScope st_meetings_row).names.lookup ("busy" : Str) = some .cell := by decide +kernel
theorem lk_meetings_row_dict : (defScope st_meetings_row).names.lookup ("dict" : Str) = some .globalImplicit := by decide +kernel
theorem lk_meetings_row_first_meeting : (defScope st_meetings_row).names.lookup ("first_meeting" : Str) = some .globalImplicit := by decide +kernel
theorem lk_meetings_row_found : (defScope st_meetings_row).names.lookup ("found" : Str) = some .local := by decide +kernel
theorem lk_meetings_row_long : (defScope st_meetings_row).names.lookup ("long" : Str) = some .local := by decide +kernel
theorem lk_meetings_row_now : (defScope st_meetings_row).names.lookup ("now" : Str) = some .local := by decide +kernel
theorem lk_meetings_row_people : (defScope st_meetings_row).names.lookup ("people" : Str) = some .local := by decide +kernel
theorem lk_meetings_row_person : (defScope st_meetings_row).names.lookup ("person" : Str) = some .local := by decide +kernel
theorem lk_meetings_row_size : (defScope st_meetings_row).names.lookup ("size" : Str) = some .local := by decide +kernel
theorem lk_meetings_row_tuple : (defScope st_meetings_row).names.lookup ("tuple" : Str) = some .globalImplicit := by decide +kernel
theorem va_meetings_row_asks {P : Program} {w : World} {K : PySem.W.Frag} {mg : Str → Option Value} {base : Heap} {k : Nat} {fn : Str → Bool} : VarAt ⟨P, w, K, mg, base, N_meetings_row, defScope st_meetings_row, k, fn⟩ 1 "asks" := vaL rfl lk_meetings_row_asks nm_asks
theorem va_meetings_row_begin {P : Program} {w : World} {K : PySem.W.Frag} {mg : Str → Option Value} {base : Heap} {k : Nat} {fn : Str → Bool} : VarAt ⟨P, w, K, mg, base, N_meetings_row, defScope st_meetings_row, k, fn⟩ 8 "begin" := vaL rfl lk_meetings_row_begin nm_begin
theorem va_meetings_row_busy {P : Program} {w : World} {K : PySem.W.Frag} {mg : Str → Option Value} {base : Heap} {k : Nat} {fn : Str → Bool} : VarAt ⟨P, w, K, mg, base, N_meetings_row, defScope st_meetings_row, k, fn⟩ 0 "busy" := vaC rfl lk_meetings_row_busy nm_busy
theorem va_meetings_row_found {P : Program} {w : World} {K : PySem.W.Frag} {mg : Str → Option Value} {base : Heap} {k : Nat} {fn : Str → Bool} : VarAt ⟨P, w, K, mg, base, N_meetings_row, defScope st_meetings_row, k, fn⟩ 4 "found" := vaL rfl lk_meetings_row_found nm_found
theorem va_meetings_row_long {P : Program} {w : World} {K : PySem.W.Frag} {mg : Str → Option Value} {base : Heap} {k : Nat} {fn : Str → Bool} : VarAt ⟨P, w, K, mg, base, N_meetings_row, defScope st_meetings_row, k, fn⟩ 7 "long" := vaL rfl lk_meetings_row_long nm_long
theorem va_meetings_row_now {P : Program} {w : World} {K : PySem.W.Frag} {mg : Str → Option Value} {base : Heap} {k : Nat} {fn : Str → Bool} : VarAt ⟨P, w, K, mg, base, N_meetings_row, defScope st_meetings_row, k, fn⟩ 5 "now" := vaL rfl lk_meetings_row_now nm_now
theorem va_meetings_row_people {P : Program} {w : World} {K : PySem.W.Frag} {mg : Str → Option Value} {base : Heap} {k : Nat} {fn : Str → Bool} : VarAt ⟨P, w, K, mg, base, N_meetings_row, defScope st_meetings_row, k, fn⟩ 6 "people" := vaL rfl lk_meetings_row_people nm_people
theorem va_meetings_row_person {P : Program} {w : World} {K : PySem.W.Frag} {mg : Str → Option Value} {base : Heap} {k : Nat} {fn : Str → Bool} : VarAt ⟨P, w, K, mg, base, N_meetings_row, defScope st_meetings_row, k, fn⟩ 3 "person" := vaL rfl lk_meetings_row_person nm_person
theorem va_meetings_row_size {P : Program} {w : World} {K : PySem.W.Frag} {mg : Str → Option Value} {base : Heap} {k : Nat} {fn : Str → Bool} : VarAt ⟨P, w, K, mg, base, N_meetings_row, defScope st_meetings_row, k, fn⟩ 2 "size" := vaL rfl lk_meetings_row_size nm_size
theorem sa_meetings_row_begin {P : Program} {w : World} {K : PySem.W.Frag} {mg : Str → Option Value} {base : Heap} {k : Nat} : SetAt ⟨P, w, K, mg, base, N_meetings_row, defScope st_meetings_row, k, fun _ => true⟩ 8 "begin" := saL rfl lk_meetings_row_begin
theorem sa_meetings_row_found {P : Program} {w : World} {K : PySem.W.Frag} {mg : Str → Option Value} {base : Heap} {k : Nat} : SetAt ⟨P, w, K, mg, base, N_meetings_row, defScope st_meetings_row, k, fun _ => true⟩ 4 "found" := saL rfl lk_meetings_row_found
theorem sa_meetings_row_long {P : Program} {w : World} {K : PySem.W.Frag} {mg : Str → Option Value} {base : Heap} {k : Nat} : SetAt ⟨P, w, K, mg, base, N_meetings_row, defScope st_meetings_row, k, fun _ => true⟩ 7 "long" := saL rfl lk_meetings_row_long
theorem sa_meetings_row_now {P : Program} {w : World} {K : PySem.W.Frag} {mg : Str → Option Value} {base : Heap} {k : Nat} : SetAt ⟨P, w, K, mg, base, N_meetings_row, defScope st_meetings_row, k, fun _ => true⟩ 5 "now" := saL rfl lk_meetings_row_now
theorem sa_meetings_row_people {P : Program} {w : World} {K : PySem.W.Frag} {mg : Str → Option Value} {base : Heap} {k : Nat} : SetAt ⟨P, w, K, mg, base, N_meetings_row, defScope st_meetings_row, k, fun _ => true⟩ 6 "people" := saL rfl lk_meetings_row_people
theorem sa_meetings_row_person {P : Program} {w : World} {K : PySem.W.Frag} {mg : Str → Option Value} {base : Heap} {k : Nat} : SetAt ⟨P, w, K, mg, base, N_meetings_row, defScope st_meetings_row, k, fun _ => true⟩ 3 "person" := saL rfl lk_meetings_row_person
theorem lk_free_of_all_free : (defScope st_free_of).names.lookup ("all_free" : Str) = some .globalImplicit := by decide +kernel
theorem lk_free_of_busy : (defScope st_free_of).names.lookup ("busy" : Str) = some .local := by decide +kernel
theorem lk_free_of_person : (defScope st_free_of).names.lookup ("person" : Str) = some .local := by decide +kernel
theorem lk_free_of_size : (defScope st_free_of).names.lookup ("size" : Str) = some .local := by decide +kernel
theorem va_free_of_busy {P : Program} {w : World} {K : PySem.W.Frag} {mg : Str → Option Value} {base : Heap} {k : Nat} {fn : Str → Bool} : VarAt ⟨P, w, K, mg, base, N_free_of, defScope st_free_of, k, fn⟩ 0 "busy" := vaL rfl lk_free_of_busy nm_busy
theorem va_free_of_person {P : Program} {w : World} {K : PySem.W.Frag} {mg : Str → Option Value} {base : Heap} {k : Nat} {fn : Str → Bool} : VarAt ⟨P, w, K, mg, base, N_free_of, defScope st_free_of, k, fn⟩ 1 "person" := vaL rfl lk_free_of_person nm_person
theorem va_free_of_size {P : Program} {w : World} {K : PySem.W.Frag} {mg : Str → Option Value} {base : Heap} {k : Nat} {fn : Str → Bool} : VarAt ⟨P, w, K, mg, base, N_free_of, defScope st_free_of, k, fn⟩ 2 "size" := vaL rfl lk_free_of_size nm_size
theorem lk_divisor_a : (defScope st_divisor).names.lookup ("a" : Str) = some .local := by decide +kernel
theorem lk_divisor_b : (defScope st_divisor).names.lookup ("b" : Str) = some .local := by decide +kernel
theorem va_divisor_a {P : Program} {w : World} {K : PySem.W.Frag} {mg : Str → Option Value} {base : Heap} {k : Nat} {fn : Str → Bool} : VarAt ⟨P, w, K, mg, base, N_divisor, defScope st_divisor, k, fn⟩ 0 "a" := vaL rfl lk_divisor_a nm_a
theorem va_divisor_b {P : Program} {w : World} {K : PySem.W.Frag} {mg : Str → Option Value} {base : Heap} {k : Nat} {fn : Str → Bool} : VarAt ⟨P, w, K, mg, base, N_divisor, defScope st_divisor, k, fn⟩ 1 "b" := vaL rfl lk_divisor_b nm_b
theorem sa_divisor_a {P : Program} {w : World} {K : PySem.W.Frag} {mg : Str → Option Value} {base : Heap} {k : Nat} : SetAt ⟨P, w, K, mg, base, N_divisor, defScope st_divisor, k, fun _ => true⟩ 0 "a" := saL rfl lk_divisor_a
theorem sa_divisor_b {P : Program} {w : World} {K : PySem.W.Frag} {mg : Str → Option Value} {base : Heap} {k : Nat} : SetAt ⟨P, w, K, mg, base, N_divisor, defScope st_divisor, k, fun _ => true⟩ 1 "b" := saL rfl lk_divisor_b
theorem lk_fraction_a : (defScope st_fraction).names.lookup ("a" : Str) = some .local := by decide +kernel
theorem lk_fraction_abs : (defScope st_fraction).names.lookup ("abs" : Str) = some .globalImplicit := by decide +kernel
theorem lk_fraction_b : (defScope st_fraction).names.lookup ("b" : Str) = some .local := by decide +kernel
theorem lk_fraction_common : (defScope st_fraction).names.lookup ("common" : Str) = some .local := by decide +kernel
theorem lk_fraction_divisor : (defScope st_fraction).names.lookup ("divisor" : Str) = some .globalImplicit := by decide +kernel
theorem va_fraction_a {P : Program} {w : World} {K : PySem.W.Frag} {mg : Str → Option Value} {base : Heap} {k : Nat} {fn : Str → Bool} : VarAt ⟨P, w, K, mg, base, N_fraction, defScope st_fraction, k, fn⟩ 0 "a" := vaL rfl lk_fraction_a nm_a
theorem va_fraction_b {P : Program} {w : World} {K : PySem.W.Frag} {mg : Str → Option Value} {base : Heap} {k : Nat} {fn : Str → Bool} : VarAt ⟨P, w, K, mg, base, N_fraction, defScope st_fraction, k, fn⟩ 1 "b" := vaL rfl lk_fraction_b nm_b
theorem va_fraction_common {P : Program} {w : World} {K : PySem.W.Frag} {mg : Str → Option Value} {base : Heap} {k : Nat} {fn : Str → Bool} : VarAt ⟨P, w, K, mg, base, N_fraction, defScope st_fraction, k, fn⟩ 2 "common" := vaL rfl lk_fraction_common nm_common
theorem sa_fraction_common {P : Program} {w : World} {K : PySem.W.Frag} {mg : Str → Option Value} {base : Heap} {k : Nat} : SetAt ⟨P, w, K, mg, base, N_fraction, defScope st_fraction, k, fun _ => true⟩ 2 "common" := saL rfl lk_fraction_common
theorem lk_share_busy_busy : (defScope st_share_busy).names.lookup ("busy" : Str) = some .cell := by decide +kernel
theorem lk_share_busy_fraction : (defScope st_share_busy).names.lookup ("fraction" : Str) = some .globalImplicit := by decide +kernel
theorem lk_share_busy_len : (defScope st_share_busy).names.lookup ("len" : Str) = some .globalImplicit := by decide +kernel
theorem lk_share_busy_person : (defScope st_share_busy).names.lookup ("person" : Str) = some .cell := by decide +kernel
theorem lk_share_busy_range : (defScope st_share_busy).names.lookup ("range" : Str) = some .globalImplicit := by decide +kernel
theorem lk_share_busy_size : (defScope st_share_busy).names.lookup ("size" : Str) = some .local := by decide +kernel
theorem va_share_busy_size {P : Program} {w : World} {K : PySem.W.Frag} {mg : Str → Option Value} {base : Heap} {k : Nat} {fn : Str → Bool} : VarAt ⟨P, w, K, mg, base, N_share_busy, defScope st_share_busy, k, fn⟩ 2 "size" := vaL rfl lk_share_busy_size nm_size
theorem lk__law_fraction_a : (defScope st__law_fraction).names.lookup ("a" : Str) = some .local := by decide +kernel
theorem lk__law_fraction_abs : (defScope st__law_fraction).names.lookup ("abs" : Str) = some .globalImplicit := by decide +kernel
theorem lk__law_fraction_b : (defScope st__law_fraction).names.lookup ("b" : Str) = some .local := by decide +kernel
theorem lk__law_fraction_x : (defScope st__law_fraction).names.lookup ("x" : Str) = some .local := by decide +kernel
theorem lk__law_fraction_y : (defScope st__law_fraction).names.lookup ("y" : Str) = some .local := by decide +kernel
theorem va__law_fraction_a {P : Program} {w : World} {K : PySem.W.Frag} {mg : Str → Option Value} {base : Heap} {k : Nat} {fn : Str → Bool} : VarAt ⟨P, w, K, mg, base, N__law_fraction, defScope st__law_fraction, k, fn⟩ 0 "a" := vaL rfl lk__law_fraction_a nm_a
theorem va__law_fraction_b {P : Program} {w : World} {K : PySem.W.Frag} {mg : Str → Option Value} {base : Heap} {k : Nat} {fn : Str → Bool} : VarAt ⟨P, w, K, mg, base, N__law_fraction, defScope st__law_fraction, k, fn⟩ 1 "b" := vaL rfl lk__law_fraction_b nm_b
theorem va__law_fraction_x {P : Program} {w : World} {K : PySem.W.Frag} {mg : Str → Option Value} {base : Heap} {k : Nat} {fn : Str → Bool} : VarAt ⟨P, w, K, mg, base, N__law_fraction, defScope st__law_fraction, k, fn⟩ 2 "x" := vaL rfl lk__law_fraction_x nm_x
theorem va__law_fraction_y {P : Program} {w : World} {K : PySem.W.Frag} {mg : Str → Option Value} {base : Heap} {k : Nat} {fn : Str → Bool} : VarAt ⟨P, w, K, mg, base, N__law_fraction, defScope st__law_fraction, k, fn⟩ 3 "y" := vaL rfl lk__law_fraction_y nm_y
theorem sa__law_fraction_x {P : Program} {w : World} {K : PySem.W.Frag} {mg : Str → Option Value} {base : Heap} {k : Nat} : SetAt ⟨P, w, K, mg, base, N__law_fraction, defScope st__law_fraction, k, fun _ => true⟩ 2 "x" := saL rfl lk__law_fraction_x
theorem sa__law_fraction_y {P : Program} {w : World} {K : PySem.W.Frag} {mg : Str → Option Value} {base : Heap} {k : Nat} : SetAt ⟨P, w, K, mg, base, N__law_fraction, defScope st__law_fraction, k, fun _ => true⟩ 3 "y" := saL rfl lk__law_fraction_y
theorem lk_law__law_all : (defScope st_law).names.lookup ("_law_all" : Str) = some .globalImplicit := by decide +kernel
theorem lk_law__law_busy : (defScope st_law).names.lookup ("_law_busy" : Str) = some .globalImplicit := by decide +kernel
theorem lk_law__law_can : (defScope st_law).names.lookup ("_law_can" : Str) = some .globalImplicit := by decide +kernel
theorem lk_law__law_draws : (defScope st_law).names.lookup ("_law_draws" : Str) = some .globalImplicit := by decide +kernel
theorem lk_law__law_first : (defScope st_law).names.lookup ("_law_first" : Str) = some .globalImplicit := by decide +kernel
theorem lk_law__law_fraction : (defScope st_law).names.lookup ("_law_fraction" : Str) = some .globalImplicit := by decide +kernel
theorem lk_law__law_next : (defScope st_law).names.lookup ("_law_next" : Str) = some .globalImplicit := by decide +kernel
theorem lk_law__law_same : (defScope st_law).names.lookup ("_law_same" : Str) = some .globalImplicit := by decide +kernel
theorem lk_law_able : (defScope st_law).names.lookup ("able" : Str) = some .cell := by decide +kernel
theorem lk_law_all_free : (defScope st_law).names.lookup ("all_free" : Str) = some .globalImplicit := by decide +kernel
theorem lk_law_asks : (defScope st_law).names.lookup ("asks" : Str) = some .local := by decide +kernel
theorem lk_law_at : (defScope st_law).names.lookup ("at" : Str) = some .local := by decide +kernel
theorem lk_law_begin : (defScope st_law).names.lookup ("begin" : Str) = some .cell := by decide +kernel
theorem lk_law_best : (defScope st_law).names.lookup ("best" : Str) = some .local := by decide +kernel
theorem lk_law_best_meeting : (defScope st_law).names.lookup ("best_meeting" : Str) = some .globalImplicit := by decide +kernel
theorem lk_law_busy : (defScope st_law).names.lookup ("busy" : Str) = some .cell := by decide +kernel
theorem lk_law_counts : (defScope st_law).names.lookup ("counts" : Str) = some .local := by decide +kernel
theorem lk_law_dict : (defScope st_law).names.lookup ("dict" : Str) = some .globalImplicit := by decide +kernel
theorem lk_law_due : (defScope st_law).names.lookup ("due" : Str) = some .local := by decide +kernel
theorem lk_law_end : (defScope st_law).names.lookup ("end" : Str) = some .cell := by decide +kernel
theorem lk_law_fewest_moved : (defScope st_law).names.lookup ("fewest_moved" : Str) = some .globalImplicit := by decide +kernel
theorem lk_law_first_meeting : (defScope st_law).names.lookup ("first_meeting" : Str) = some .globalImplicit := by decide +kernel
theorem lk_law_free_of : (defScope st_law).names.lookup ("free_of" : Str) = some .globalImplicit := by decide +kernel
theorem lk_law_k : (defScope st_law).names.lookup ("k" : Str) = some .local := by decide +kernel
theorem lk_law_len : (defScope st_law).names.lookup ("len" : Str) = some .globalImplicit := by decide +kernel
theorem lk_law_list : (defScope st_law).names.lookup ("list" : Str) = some .globalImplicit := by decide +kernel
theorem lk_law_long : (defScope st_law).names.lookup ("long" : Str) = some .cell := by decide +kernel
theorem lk_law_longest : (defScope st_law).names.lookup ("longest" : Str) = some .local := by decide +kernel
theorem lk_law_longest_free : (defScope st_law).names.lookup ("longest_free" : Str) = some .globalImplicit := by decide +kernel
theorem lk_law_many : (defScope st_law).names.lookup ("many" : Str) = some .local := by decide +kernel
theorem lk_law_max : (defScope st_law).names.lookup ("max" : Str) = some .globalImplicit := by decide +kernel
theorem lk_law_may : (defScope st_law).names.lookup ("may" : Str) = some .local := by decide +kernel
theorem lk_law_meetings_row : (defScope st_law).names.lookup ("meetings_row" : Str) = some .globalImplicit := by decide +kernel
theorem lk_law_met : (defScope st_law).names.lookup ("met" : Str) = some .local := by decide +kernel
theorem lk_law_name : (defScope st_law).names.lookup ("name" : Str) = some .cell := by decide +kernel
theorem lk_law_names : (defScope st_law).names.lookup ("names" : Str) = some .local := by decide +kernel
theorem lk_law_now : (defScope st_law).names.lookup ("now" : Str) = some .local := by decide +kernel
theorem lk_law_own : (defScope st_law).names.lookup ("own" : Str) = some .local := by decide +kernel
theorem lk_law_people : (defScope st_law).names.lookup ("people" : Str) = some .local := by decide +kernel
theorem lk_law_range : (defScope st_law).names.lookup ("range" : Str) = some .globalImplicit := by decide +kernel
theorem lk_law_rows : (defScope st_law).names.lookup ("rows" : Str) = some .local := by decide +kernel
theorem lk_law_script : (defScope st_law).names.lookup ("script" : Str) = some .local := by decide +kernel
theorem lk_law_share_busy : (defScope st_law).names.lookup ("share_busy" : Str) = some .globalImplicit := by decide +kernel
theorem lk_law_size : (defScope st_law).names.lookup ("size" : Str) = some .local := by decide +kernel
theorem lk_law_sorted : (defScope st_law).names.lookup ("sorted" : Str) = some .globalImplicit := by decide +kernel
theorem lk_law_span : (defScope st_law).names.lookup ("span" : Str) = some .local := by decide +kernel
theorem lk_law_spots : (defScope st_law).names.lookup ("spots" : Str) = some .local := by decide +kernel
theorem lk_law_tuple : (defScope st_law).names.lookup ("tuple" : Str) = some .globalImplicit := by decide +kernel
theorem lk_law_turn : (defScope st_law).names.lookup ("turn" : Str) = some .local := by decide +kernel
theorem lk_law_w : (defScope st_law).names.lookup ("w" : Str) = some .cell := by decide +kernel
theorem lk_law_who_can : (defScope st_law).names.lookup ("who_can" : Str) = some .globalImplicit := by decide +kernel
theorem lk_law_with_must : (defScope st_law).names.lookup ("with_must" : Str) = some .globalImplicit := by decide +kernel
theorem va_law_asks {P : Program} {w : World} {K : PySem.W.Frag} {mg : Str → Option Value} {base : Heap} {k : Nat} {fn : Str → Bool} : VarAt ⟨P, w, K, mg, base, N_law, defScope st_law, k, fn⟩ 22 "asks" := vaL rfl lk_law_asks nm_asks
theorem va_law_at {P : Program} {w : World} {K : PySem.W.Frag} {mg : Str → Option Value} {base : Heap} {k : Nat} {fn : Str → Bool} : VarAt ⟨P, w, K, mg, base, N_law, defScope st_law, k, fn⟩ 16 "at" := vaL rfl lk_law_at nm_at
theorem va_law_begin {P : Program} {w : World} {K : PySem.W.Frag} {mg : Str → Option Value} {base : Heap} {k : Nat} {fn : Str → Bool} : VarAt ⟨P, w, K, mg, base, N_law, defScope st_law, k, fn⟩ 11 "begin" := vaC rfl lk_law_begin nm_begin
theorem va_law_best {P : Program} {w : World} {K : PySem.W.Frag} {mg : Str → Option Value} {base : Heap} {k : Nat} {fn : Str → Bool} : VarAt ⟨P, w, K, mg, base, N_law, defScope st_law, k, fn⟩ 19 "best" := vaL rfl lk_law_best nm_best
theorem va_law_busy {P : Program} {w : World} {K : PySem.W.Frag} {mg : Str → Option Value} {base : Heap} {k : Nat} {fn : Str → Bool} : VarAt ⟨P, w, K, mg, base, N_law, defScope st_law, k, fn⟩ 4 "busy" := vaC rfl lk_law_busy nm_busy
theorem va_law_counts {P : Program} {w : World} {K : PySem.W.Frag} {mg : Str → Option Value} {base : Heap} {k : Nat} {fn : Str → Bool} : VarAt ⟨P, w, K, mg, base, N_law, defScope st_law, k, fn⟩ 17 "counts" := vaL rfl lk_law_counts nm_counts
theorem va_law_due {P : Program} {w : World} {K : PySem.W.Frag} {mg : Str → Option Value} {base : Heap} {k : Nat} {fn : Str → Bool} : VarAt ⟨P, w, K, mg, base, N_law, defScope st_law, k, fn⟩ 24 "due" := vaL rfl lk_law_due nm_due
theorem va_law_end {P : Program} {w : World} {K : PySem.W.Frag} {mg : Str → Option Value} {base : Heap} {k : Nat} {fn : Str → Bool} : VarAt ⟨P, w, K, mg, base, N_law, defScope st_law, k, fn⟩ 12 "end" := vaC rfl lk_law_end nm_end
theorem va_law_long {P : Program} {w : World} {K : PySem.W.Frag} {mg : Str → Option Value} {base : Heap} {k : Nat} {fn : Str → Bool} : VarAt ⟨P, w, K, mg, base, N_law, defScope st_law, k, fn⟩ 10 "long" := vaC rfl lk_law_long nm_long
theorem va_law_longest {P : Program} {w : World} {K : PySem.W.Frag} {mg : Str → Option Value} {base : Heap} {k : Nat} {fn : Str → Bool} : VarAt ⟨P, w, K, mg, base, N_law, defScope st_law, k, fn⟩ 13 "longest" := vaL rfl lk_law_longest nm_longest
theorem va_law_many {P : Program} {w : World} {K : PySem.W.Frag} {mg : Str → Option Value} {base : Heap} {k : Nat} {fn : Str → Bool} : VarAt ⟨P, w, K, mg, base, N_law, defScope st_law, k, fn⟩ 21 "many" := vaL rfl lk_law_many nm_many
theorem va_law_may {P : Program} {w : World} {K : PySem.W.Frag} {mg : Str → Option Value} {base : Heap} {k : Nat} {fn : Str → Bool} : VarAt ⟨P, w, K, mg, base, N_law, defScope st_law, k, fn⟩ 18 "may" := vaL rfl lk_law_may nm_may
theorem va_law_met {P : Program} {w : World} {K : PySem.W.Frag} {mg : Str → Option Value} {base : Heap} {k : Nat} {fn : Str → Bool} : VarAt ⟨P, w, K, mg, base, N_law, defScope st_law, k, fn⟩ 14 "met" := vaL rfl lk_law_met nm_met
theorem va_law_name {P : Program} {w : World} {K : PySem.W.Frag} {mg : Str → Option Value} {base : Heap} {k : Nat} {fn : Str → Bool} : VarAt ⟨P, w, K, mg, base, N_law, defScope st_law, k, fn⟩ 6 "name" := vaC rfl lk_law_name nm_name
theorem va_law_names {P : Program} {w : World} {K : PySem.W.Frag} {mg : Str → Option Value} {base : Heap} {k : Nat} {fn : Str → Bool} : VarAt ⟨P, w, K, mg, base, N_law, defScope st_law, k, fn⟩ 5 "names" := vaL rfl lk_law_names nm_names
theorem va_law_now {P : Program} {w : World} {K : PySem.W.Frag} {mg : Str → Option Value} {base : Heap} {k : Nat} {fn : Str → Bool} : VarAt ⟨P, w, K, mg, base, N_law, defScope st_law, k, fn⟩ 23 "now" := vaL rfl lk_law_now nm_now
theorem va_law_own {P : Program} {w : World} {K : PySem.W.Frag} {mg : Str → Option Value} {base : Heap} {k : Nat} {fn : Str → Bool} : VarAt ⟨P, w, K, mg, base, N_law, defScope st_law, k, fn⟩ 25 "own" := vaL rfl lk_law_own nm_own
theorem va_law_people {P : Program} {w : World} {K : PySem.W.Frag} {mg : Str → Option Value} {base : Heap} {k : Nat} {fn : Str → Bool} : VarAt ⟨P, w, K, mg, base, N_law, defScope st_law, k, fn⟩ 7 "people" := vaL rfl lk_law_people nm_people
theorem va_law_rows {P : Program} {w : World} {K : PySem.W.Frag} {mg : Str → Option Value} {base : Heap} {k : Nat} {fn : Str → Bool} : VarAt ⟨P, w, K, mg, base, N_law, defScope st_law, k, fn⟩ 9 "rows" := vaL rfl lk_law_rows nm_rows
theorem va_law_script {P : Program} {w : World} {K : PySem.W.Frag} {mg : Str → Option Value} {base : Heap} {k : Nat} {fn : Str → Bool} : VarAt ⟨P, w, K, mg, base, N_law, defScope st_law, k, fn⟩ 0 "script" := vaL rfl lk_law_script nm_script
theorem va_law_size {P : Program} {w : World} {K : PySem.W.Frag} {mg : Str → Option Value} {base : Heap} {k : Nat} {fn : Str → Bool} : VarAt ⟨P, w, K, mg, base, N_law, defScope st_law, k, fn⟩ 3 "size" := vaL rfl lk_law_size nm_size
theorem va_law_span {P : Program} {w : World} {K : PySem.W.Frag} {mg : Str → Option Value} {base : Heap} {k : Nat} {fn : Str → Bool} : VarAt ⟨P, w, K, mg, base, N_law, defScope st_law, k, fn⟩ 26 "span" := vaL rfl lk_law_span nm_span
theorem va_law_spots {P : Program} {w : World} {K : PySem.W.Frag} {mg : Str → Option Value} {base : Heap} {k : Nat} {fn : Str → Bool} : VarAt ⟨P, w, K, mg, base, N_law, defScope st_law, k, fn⟩ 15 "spots" := vaL rfl lk_law_spots nm_spots
theorem va_law_w {P : Program} {w : World} {K : PySem.W.Frag} {mg : Str → Option Value} {base : Heap} {k : Nat} {fn : Str → Bool} : VarAt ⟨P, w, K, mg, base, N_law, defScope st_law, k, fn⟩ 1 "w" := vaC rfl lk_law_w nm_w
theorem sa_law_able {P : Program} {w : World} {K : PySem.W.Frag} {mg : Str → Option Value} {base : Heap} {k : Nat} : SetAt ⟨P, w, K, mg, base, N_law, defScope st_law, k, fun _ => true⟩ 20 "able" := saC rfl lk_law_able rfl
theorem sa_law_asks {P : Program} {w : World} {K : PySem.W.Frag} {mg : Str → Option Value} {base : Heap} {k : Nat} : SetAt ⟨P, w, K, mg, base, N_law, defScope st_law, k, fun _ => true⟩ 22 "asks" := saL rfl lk_law_asks
theorem sa_law_at {P : Program} {w : World} {K : PySem.W.Frag} {mg : Str → Option Value} {base : Heap} {k : Nat} : SetAt ⟨P, w, K, mg, base, N_law, defScope st_law, k, fun _ => true⟩ 16 "at" := saL rfl lk_law_at
theorem sa_law_begin {P : Program} {w : World} {K : PySem.W.Frag} {mg : Str → Option Value} {base : Heap} {k : Nat} : SetAt ⟨P, w, K, mg, base, N_law, defScope st_law, k, fun _ => true⟩ 11 "begin" := saC rfl lk_law_begin rfl
theorem sa_law_best {P : Program} {w : World} {K : PySem.W.Frag} {mg : Str → Option Value} {base : Heap} {k : Nat} : SetAt ⟨P, w, K, mg, base, N_law, defScope st_law, k, fun _ => true⟩ 19 "best" := saL rfl lk_law_best
theorem sa_law_busy {P : Program} {w : World} {K : PySem.W.Frag} {mg : Str → Option Value} {base : Heap} {k : Nat} : SetAt ⟨P, w, K, mg, base, N_law, defScope st_law, k, fun _ => true⟩ 4 "busy" := saC rfl lk_law_busy rfl
theorem sa_law_counts {P : Program} {w : World} {K : PySem.W.Frag} {mg : Str → Option Value} {base : Heap} {k : Nat} : SetAt ⟨P, w, K, mg, base, N_law, defScope st_law, k, fun _ => true⟩ 17 "counts" := saL rfl lk_law_counts
theorem sa_law_due {P : Program} {w : World} {K : PySem.W.Frag} {mg : Str → Option Value} {base : Heap} {k : Nat} : SetAt ⟨P, w, K, mg, base, N_law, defScope st_law, k, fun _ => true⟩ 24 "due" := saL rfl lk_law_due
theorem sa_law_end {P : Program} {w : World} {K : PySem.W.Frag} {mg : Str → Option Value} {base : Heap} {k : Nat} : SetAt ⟨P, w, K, mg, base, N_law, defScope st_law, k, fun _ => true⟩ 12 "end" := saC rfl lk_law_end rfl
theorem sa_law_k {P : Program} {w : World} {K : PySem.W.Frag} {mg : Str → Option Value} {base : Heap} {k : Nat} : SetAt ⟨P, w, K, mg, base, N_law, defScope st_law, k, fun _ => true⟩ 8 "k" := saL rfl lk_law_k
theorem sa_law_long {P : Program} {w : World} {K : PySem.W.Frag} {mg : Str → Option Value} {base : Heap} {k : Nat} : SetAt ⟨P, w, K, mg, base, N_law, defScope st_law, k, fun _ => true⟩ 10 "long" := saC rfl lk_law_long rfl
theorem sa_law_longest {P : Program} {w : World} {K : PySem.W.Frag} {mg : Str → Option Value} {base : Heap} {k : Nat} : SetAt ⟨P, w, K, mg, base, N_law, defScope st_law, k, fun _ => true⟩ 13 "longest" := saL rfl lk_law_longest
theorem sa_law_many {P : Program} {w : World} {K : PySem.W.Frag} {mg : Str → Option Value} {base : Heap} {k : Nat} : SetAt ⟨P, w, K, mg, base, N_law, defScope st_law, k, fun _ => true⟩ 21 "many" := saL rfl lk_law_many
theorem sa_law_may {P : Program} {w : World} {K : PySem.W.Frag} {mg : Str → Option Value} {base : Heap} {k : Nat} : SetAt ⟨P, w, K, mg, base, N_law, defScope st_law, k, fun _ => true⟩ 18 "may" := saL rfl lk_law_may
theorem sa_law_met {P : Program} {w : World} {K : PySem.W.Frag} {mg : Str → Option Value} {base : Heap} {k : Nat} : SetAt ⟨P, w, K, mg, base, N_law, defScope st_law, k, fun _ => true⟩ 14 "met" := saL rfl lk_law_met
theorem sa_law_name {P : Program} {w : World} {K : PySem.W.Frag} {mg : Str → Option Value} {base : Heap} {k : Nat} : SetAt ⟨P, w, K, mg, base, N_law, defScope st_law, k, fun _ => true⟩ 6 "name" := saC rfl lk_law_name rfl
theorem sa_law_names {P : Program} {w : World} {K : PySem.W.Frag} {mg : Str → Option Value} {base : Heap} {k : Nat} : SetAt ⟨P, w, K, mg, base, N_law, defScope st_law, k, fun _ => true⟩ 5 "names" := saL rfl lk_law_names
theorem sa_law_now {P : Program} {w : World} {K : PySem.W.Frag} {mg : Str → Option Value} {base : Heap} {k : Nat} : SetAt ⟨P, w, K, mg, base, N_law, defScope st_law, k, fun _ => true⟩ 23 "now" := saL rfl lk_law_now
theorem sa_law_own {P : Program} {w : World} {K : PySem.W.Frag} {mg : Str → Option Value} {base : Heap} {k : Nat} : SetAt ⟨P, w, K, mg, base, N_law, defScope st_law, k, fun _ => true⟩ 25 "own" := saL rfl lk_law_own
theorem sa_law_people {P : Program} {w : World} {K : PySem.W.Frag} {mg : Str → Option Value} {base : Heap} {k : Nat} : SetAt ⟨P, w, K, mg, base, N_law, defScope st_law, k, fun _ => true⟩ 7 "people" := saL rfl lk_law_people
theorem sa_law_rows {P : Program} {w : World} {K : PySem.W.Frag} {mg : Str → Option Value} {base : Heap} {k : Nat} : SetAt ⟨P, w, K, mg, base, N_law, defScope st_law, k, fun _ => true⟩ 9 "rows" := saL rfl lk_law_rows
theorem sa_law_size {P : Program} {w : World} {K : PySem.W.Frag} {mg : Str → Option Value} {base : Heap} {k : Nat} : SetAt ⟨P, w, K, mg, base, N_law, defScope st_law, k, fun _ => true⟩ 3 "size" := saL rfl lk_law_size
theorem sa_law_span {P : Program} {w : World} {K : PySem.W.Frag} {mg : Str → Option Value} {base : Heap} {k : Nat} : SetAt ⟨P, w, K, mg, base, N_law, defScope st_law, k, fun _ => true⟩ 26 "span" := saL rfl lk_law_span
theorem sa_law_spots {P : Program} {w : World} {K : PySem.W.Frag} {mg : Str → Option Value} {base : Heap} {k : Nat} : SetAt ⟨P, w, K, mg, base, N_law, defScope st_law, k, fun _ => true⟩ 15 "spots" := saL rfl lk_law_spots
theorem sa_law_turn {P : Program} {w : World} {K : PySem.W.Frag} {mg : Str → Option Value} {base : Heap} {k : Nat} : SetAt ⟨P, w, K, mg, base, N_law, defScope st_law, k, fun _ => true⟩ 2 "turn" := saL rfl lk_law_turn
theorem sa_law_w {P : Program} {w : World} {K : PySem.W.Frag} {mg : Str → Option Value} {base : Heap} {k : Nat} : SetAt ⟨P, w, K, mg, base, N_law, defScope st_law, k, fun _ => true⟩ 1 "w" := saC rfl lk_law_w rfl
/-! ### what the defs do -/
def m__law_busy (size_ : D) : M D :=
  ((M.pure (.dict [])).bind fun found_97 => 
  ((((((M.pure (.str "zed")).bind fun x104 => (((M.pure (.str "ann")).bind fun x102 => (((M.pure (.str "kim")).bind fun x100 => (((M.pure (.str "lou")).bind fun x98 => ((M.pure []).bind fun l99 => M.pure (x98 :: l99))).bind fun l101 => M.pure (x100 :: l101))).bind fun l103 => M.pure (x102 :: l103))).bind fun l105 => M.pure (x104 :: l105))).bind fun x106 => M.pure (.list x106)).bind fun x107 => ((M.pure none).bind fun l111 => ((((M.pure (.int 5)).bind fun x108 => m__law_next x108).bind fun x109 => ((asI x109).bind fun i110 => M.pure (some i110))).bind fun h112 => slD x107 l111 h112))).bind fun x113 => asS x113).bind fun l143 => (M.fold (fun (s114 : D) x142 => ((M.pure x142).bind fun a115 => 
    ((M.pure (.list [])).bind fun rows_116 => 
    ((((M.pure (.int 4)).bind fun x117 => m__law_next x117).bind fun x118 => ((asI x118).bind fun i119 => rngD 0 i119)).bind fun l141 => (M.fold (fun (s120 : D) x140 => ((M.pure x140).bind fun a121 => 
      (((M.pure size_).bind fun x123 => m__law_next x123).bind fun begin_122 => 
      (M.need (isL s120 = true) ((((M.pure begin_122).bind fun x131 => (((((M.pure begin_122).bind fun x124 => ((M.pure (.int 1)).bind fun x125 => addD x124 x125)).bind fun x127 => (((M.pure (.int 5)).bind fun x126 => m__law_next x126).bind fun x128 => addD x127 x128)).bind fun x129 => ((M.pure []).bind fun l130 => M.pure (x129 :: l130))).bind fun l132 => M.pure (x131 :: l132))).bind fun x133 => M.pure (.tuple x133)).bind fun x134 => ((appD s120 x134).bind fun rows_135 => 
      (M.pure rows_135))))))) rows_116 l141).bind fun (s120 : D) =>
    (((M.pure s120).bind fun x136 => tupleD x136).bind fun x137 => ((M.pure a115).bind fun x138 => ((dputD s114 x138 x137).bind fun found_139 => 
    (M.pure found_139)))))))) found_97 l143).bind fun (s114 : D) =>
  (M.pure s114)))
def m__law_free (busy_ : D) (name_ : D) (moment_ : D) : M D :=
  (((((M.pure busy_).bind fun x145 => M.need ((isDi x145 && plainD x145) = true) ((M.pure name_).bind fun x146 => (((M.pure []).bind fun x144 => M.pure (.tuple x144)).bind fun x147 => get2D x145 x146 x147))).bind fun x148 => asS x148).bind fun l151 => ((M.filM (fun x150 => ((un2 x150).bind fun a149 => ((((M.pure a149.1).bind fun x153 => ((M.pure moment_).bind fun x154 => ((leD x153 x154).bind fun z155 => ((asB z155).bind fun b156 => bif b156 then ((M.pure a149.2).bind fun x157 => ltD x154 x157) else M.pure (.bool false))))).bind fun z158 => asB z158).bind fun b159 => bif b159 then ((M.pure (.int 1)).bind fun x160 => M.pure (some x160)) else M.pure none))) l151).bind fun l152 => M.pure (.list l152))).bind fun x162 => (((M.pure []).bind fun x161 => M.pure (.list x161)).bind fun x163 => eqD x162 x163))
def m__law_all (busy_ : D) (people_ : D) (size_ : D) : M D :=
  ((((M.pure size_).bind fun x164 => ((asI x164).bind fun i165 => rngD 0 i165)).bind fun l168 => ((M.filM (fun x167 => ((M.pure x167).bind fun a166 => (((((M.pure people_).bind fun x170 => asS x170).bind fun l173 => ((M.filM (fun x172 => ((M.pure x172).bind fun a171 => (((((M.pure busy_).bind fun x175 => ((M.pure a171).bind fun x176 => ((M.pure a166).bind fun x177 => m__law_free x175 x176 x177))).bind fun x178 => truthD x178).bind fun b179 => M.pure (!b179)).bind fun b180 => bif b180 then ((M.pure a171).bind fun x181 => M.pure (some x181)) else M.pure none))) l173).bind fun l174 => M.pure (.list l174))).bind fun x183 => (((M.pure []).bind fun x182 => M.pure (.list x182)).bind fun x184 => ((eqD x183 x184).bind fun z185 => asB z185))).bind fun b186 => bif b186 then ((M.pure a166).bind fun x187 => M.pure (some x187)) else M.pure none))) l168).bind fun l169 => M.pure (.list l169))).bind fun good_189 => (((M.pure []).bind fun x188 => M.pure (.list x188)).bind fun found_190 => ((M.pure .none).bind fun now_191 => 
  ((((M.pure size_).bind fun x192 => ((M.pure (.int 1)).bind fun x193 => addD x192 x193)).bind fun x194 => ((asI x194).bind fun i195 => rngD 0 i195)).bind fun l230 => (M.fold (fun (s196 : D × D) x229 => ((M.pure x229).bind fun a197 => 
    (((((M.pure a197).bind fun x198 => ((M.pure good_189).bind fun x199 => ((inD x198 x199).bind fun z200 => asB z200))).bind fun b204 => bif b204 then ((M.pure s196.2).bind fun x201 => ((M.pure .none).bind fun x202 => ((isD x201 x202).bind fun z203 => asB z203))) else M.pure false).bind fun b205 => bif b205 then 
      ((M.pure a197).bind fun now_206 => 
      (M.pure now_206)) else
      (M.pure s196.2)).bind fun (s207 : D) => 
    (((((M.pure a197).bind fun x208 => ((M.pure good_189).bind fun x209 => ((ninD x208 x209).bind fun z210 => asB z210))).bind fun b214 => bif b214 then ((M.pure s207).bind fun x211 => ((M.pure .none).bind fun x212 => ((isnD x211 x212).bind fun z213 => asB z213))) else M.pure false).bind fun b215 => bif b215 then 
      (((M.pure s196.1).bind fun x224 => ((((((M.pure s207).bind fun x218 => (((M.pure a197).bind fun x216 => ((M.pure []).bind fun l217 => M.pure (x216 :: l217))).bind fun l219 => M.pure (x218 :: l219))).bind fun x220 => M.pure (.tuple x220)).bind fun x221 => ((M.pure []).bind fun l222 => M.pure (x221 :: l222))).bind fun x223 => M.pure (.list x223)).bind fun x225 => addD x224 x225)).bind fun found_226 => ((M.pure .none).bind fun now_227 => 
      (M.pure (found_226, now_227)))) else
      (M.pure (s196.1, s207))).bind fun (s228 : D × D) => 
    (M.pure (s228.1, s228.2)))))) (found_190, now_191) l230).bind fun (s196 : D × D) =>
  (M.pure s196.1)))))
def m__law_can (busy_ : D) (begin_ : D) (end_ : D) : M D :=
  ((((M.pure busy_).bind fun x289 => sortedD x289).bind fun x290 => asS x290).bind fun l293 => ((M.filM (fun x292 => ((M.pure x292).bind fun a291 => (((((M.pure begin_).bind fun x295 => ((M.pure end_).bind fun x296 => ((asI x295).bind fun i297 => ((asI x296).bind fun j298 => rngD i297 j298)))).bind fun l301 => ((M.filM (fun x300 => ((M.pure x300).bind fun a299 => (((((M.pure busy_).bind fun x303 => ((M.pure a291).bind fun x304 => ((M.pure a299).bind fun x305 => m__law_free x303 x304 x305))).bind fun x306 => truthD x306).bind fun b307 => M.pure (!b307)).bind fun b308 => bif b308 then ((M.pure a299).bind fun x309 => M.pure (some x309)) else M.pure none))) l301).bind fun l302 => M.pure (.list l302))).bind fun x311 => (((M.pure []).bind fun x310 => M.pure (.list x310)).bind fun x312 => ((eqD x311 x312).bind fun z313 => asB z313))).bind fun b314 => bif b314 then ((M.pure a291).bind fun x315 => M.pure (some x315)) else M.pure none))) l293).bind fun l294 => M.pure (.list l294)))
def m__law_first (busy_ : D) (people_ : D) (long_ : D) (size_ : D) : M D :=
  (((((M.pure busy_).bind fun x317 => ((M.pure people_).bind fun x318 => ((M.pure size_).bind fun x319 => m__law_all x317 x318 x319))).bind fun x320 => asS x320).bind fun l323 => ((M.filM (fun x322 => ((un2 x322).bind fun a321 => ((((M.pure a321.2).bind fun x325 => ((M.pure a321.1).bind fun x326 => subD x325 x326)).bind fun x327 => ((M.pure long_).bind fun x328 => ((geD x327 x328).bind fun z329 => asB z329))).bind fun b330 => bif b330 then ((M.pure a321.1).bind fun x331 => M.pure (some x331)) else M.pure none))) l323).bind fun l324 => M.pure (.list l324))).bind fun able_316 => 
  (((M.pure able_316).bind fun x333 => (((M.pure []).bind fun x332 => M.pure (.list x332)).bind fun x334 => ((neD x333 x334).bind fun z335 => asB z335))).bind fun b338 => bif b338 then ((M.pure able_316).bind fun x336 => ((M.pure (.int 0)).bind fun x337 => ixD x336 x337)) else (M.pure .none)))
def m_stretches (moments_ : D) : M D :=
  ((M.pure (.list [])).bind fun found_339 => 
  (((M.pure moments_).bind fun x340 => asS x340).bind fun l385 => (M.fold (fun (s341 : D) x384 => ((M.pure x384).bind fun a342 => 
    (((((M.pure s341).bind fun x344 => (((M.pure []).bind fun x343 => M.pure (.list x343)).bind fun x345 => ((neD x344 x345).bind fun z346 => asB z346))).bind fun b355 => bif b355 then ((((M.pure s341).bind fun x347 => (((M.pure (.int 1)).bind fun x348 => negD x348).bind fun x349 => ixD x347 x349)).bind fun x350 => ((M.pure (.int 1)).bind fun x351 => ixD x350 x351)).bind fun x352 => ((M.pure a342).bind fun x353 => ((eqD x352 x353).bind fun z354 => asB z354))) else M.pure false).bind fun b356 => bif b356 then 
      (M.need (isL s341 = true) ((((((M.pure s341).bind fun x357 => (((M.pure (.int 1)).bind fun x358 => negD x358).bind fun x359 => ixD x357 x359)).bind fun x360 => ((M.pure (.int 0)).bind fun x361 => ixD x360 x361)).bind fun x366 => ((((M.pure a342).bind fun x362 => ((M.pure (.int 1)).bind fun x363 => addD x362 x363)).bind fun x364 => ((M.pure []).bind fun l365 => M.pure (x364 :: l365))).bind fun l367 => M.pure (x366 :: l367))).bind fun x368 => M.pure (.tuple x368)).bind fun x370 => (((M.pure (.int 1)).bind fun x369 => negD x369).bind fun x371 => ((lputD s341 x371 x370).bind fun found_372 => 
      (M.pure found_372))))) else
      (M.need (isL s341 = true) ((((M.pure a342).bind fun x377 => ((((M.pure a342).bind fun x373 => ((M.pure (.int 1)).bind fun x374 => addD x373 x374)).bind fun x375 => ((M.pure []).bind fun l376 => M.pure (x375 :: l376))).bind fun l378 => M.pure (x377 :: l378))).bind fun x379 => M.pure (.tuple x379)).bind fun x380 => ((appD s341 x380).bind fun found_381 => 
      (M.pure found_381))))).bind fun (s382 : D) => 
    (M.pure s382)))) found_339 l385).bind fun (s341 : D) =>
  ((M.pure s341).bind fun x383 => tupleD x383)))
def m_is_free (busy_ : D) (person_ : D) (moment_ : D) : M D :=
  ((((((M.pure busy_).bind fun x387 => M.need ((isDi x387 && plainD x387) = true) ((M.pure person_).bind fun x388 => (((M.pure []).bind fun x386 => M.pure (.tuple x386)).bind fun x389 => get2D x387 x388 x389))).bind fun x390 => asS x390).bind fun l393 => ((M.mapM (fun x392 => ((un2 x392).bind fun a391 => ((M.pure a391.1).bind fun x395 => ((M.pure moment_).bind fun x396 => ((leD x395 x396).bind fun z397 => ((asB z397).bind fun b398 => bif b398 then ((M.pure a391.2).bind fun x399 => ltD x396 x399) else M.pure (.bool false))))))) l393).bind fun l394 => M.pure (.list l394))).bind fun x400 => anyD x400).bind fun x401 => ((asB x401).bind fun b402 => M.pure (.bool (!b402))))
def m_all_free (busy_ : D) (people_ : D) (size_ : D) : M D :=
  ((((M.pure size_).bind fun x403 => ((asI x403).bind fun i404 => rngD 0 i404)).bind fun l407 => ((M.filM (fun x406 => ((M.pure x406).bind fun a405 => ((((((M.pure people_).bind fun x409 => asS x409).bind fun l412 => ((M.mapM (fun x411 => ((M.pure x411).bind fun a410 => ((M.pure busy_).bind fun x414 => ((M.pure a410).bind fun x415 => ((M.pure a405).bind fun x416 => m_is_free x414 x415 x416))))) l412).bind fun l413 => M.pure (.list l413))).bind fun x417 => allD x417).bind fun x418 => truthD x418).bind fun b419 => bif b419 then ((M.pure a405).bind fun x420 => M.pure (some x420)) else M.pure none))) l407).bind fun l408 => M.pure (.list l408))).bind fun x421 => m_stretches x421)
def m_longest_free (busy_ : D) (people_ : D) (size_ : D) : M D :=
  (((((M.pure busy_).bind fun x423 => ((M.pure people_).bind fun x424 => ((M.pure size_).bind fun x425 => m_all_free x423 x424 x425))).bind fun x426 => asS x426).bind fun l429 => ((M.mapM (fun x428 => ((un2 x428).bind fun a427 => ((((M.pure a427.1).bind fun x431 => ((M.pure a427.2).bind fun x432 => subD x431 x432)).bind fun x435 => (((M.pure a427.1).bind fun x433 => ((M.pure []).bind fun l434 => M.pure (x433 :: l434))).bind fun l436 => M.pure (x435 :: l436))).bind fun x437 => M.pure (.tuple x437)))) l429).bind fun l430 => M.pure (.list l430))).bind fun rows_422 => 
  (((M.pure rows_422).bind fun x439 => (((M.pure []).bind fun x438 => M.pure (.list x438)).bind fun x440 => ((neD x439 x440).bind fun z441 => asB z441))).bind fun b459 => bif b459 then ((((((M.pure rows_422).bind fun x442 => min1D x442).bind fun x443 => ((M.pure (.int 0)).bind fun x444 => ixD x443 x444)).bind fun x445 => negD x445).bind fun x451 => (((((M.pure rows_422).bind fun x446 => min1D x446).bind fun x447 => ((M.pure (.int 1)).bind fun x448 => ixD x447 x448)).bind fun x449 => ((M.pure []).bind fun l450 => M.pure (x449 :: l450))).bind fun l452 => M.pure (x451 :: l452))).bind fun x453 => M.pure (.tuple x453)) else (((M.pure (.int 0)).bind fun x456 => (((M.pure (.int 0)).bind fun x454 => ((M.pure []).bind fun l455 => M.pure (x454 :: l455))).bind fun l457 => M.pure (x456 :: l457))).bind fun x458 => M.pure (.tuple x458))))
def m_who_can (busy_ : D) (begin_ : D) (end_ : D) : M D :=
  (((((M.pure busy_).bind fun x460 => sortedD x460).bind fun x461 => asS x461).bind fun l464 => ((M.filM (fun x463 => ((M.pure x463).bind fun a462 => ((((((M.pure begin_).bind fun x466 => ((M.pure end_).bind fun x467 => ((asI x466).bind fun i468 => ((asI x467).bind fun j469 => rngD i468 j469)))).bind fun l472 => ((M.mapM (fun x471 => ((M.pure x471).bind fun a470 => ((M.pure busy_).bind fun x474 => ((M.pure a462).bind fun x475 => ((M.pure a470).bind fun x476 => m_is_free x474 x475 x476))))) l472).bind fun l473 => M.pure (.list l473))).bind fun x477 => allD x477).bind fun x478 => truthD x478).bind fun b479 => bif b479 then ((M.pure a462).bind fun x480 => M.pure (some x480)) else M.pure none))) l464).bind fun l465 => M.pure (.list l465))).bind fun x481 => tupleD x481)
def m_fewest_moved (busy_ : D) (people_ : D) (begin_ : D) (end_ : D) : M D :=
  ((((M.pure people_).bind fun x483 => asS x483).bind fun l493 => ((M.fold (fun l496 x491 => ((M.pure x491).bind fun a484 => ((M.pure true).bind fun b497 => bif b497 then ((((M.pure busy_).bind fun x486 => M.need ((isDi x486 && plainD x486) = true) ((M.pure a484).bind fun x487 => (((M.pure []).bind fun x485 => M.pure (.tuple x485)).bind fun x488 => get2D x486 x487 x488))).bind fun x489 => asS x489).bind fun l494 => M.need (l496.length + l494.length ≤ 16777216) ((M.filM (fun x492 => ((M.pure x492).bind fun a490 => ((M.pure true).bind fun b498 => bif b498 then ((M.pure a490).bind fun x499 => M.pure (some x499)) else M.pure none))) l494).bind fun l495 => M.pure (l496 ++ l495))) else M.pure l496))) [] l493).bind fun l500 => M.pure (.list l500))).bind fun rows_482 => 
  ((((M.pure rows_482).bind fun x501 => asS x501).bind fun l504 => ((M.filM (fun x503 => ((un2 x503).bind fun a502 => ((((M.pure a502.1).bind fun x506 => ((M.pure end_).bind fun x507 => ((ltD x506 x507).bind fun z508 => asB z508))).bind fun b512 => bif b512 then ((M.pure begin_).bind fun x509 => ((M.pure a502.2).bind fun x510 => ((ltD x509 x510).bind fun z511 => asB z511))) else M.pure false).bind fun b513 => bif b513 then ((M.pure (.int 1)).bind fun x514 => M.pure (some x514)) else M.pure none))) l504).bind fun l505 => M.pure (.list l505))).bind fun x515 => lenD x515))
def m_best_meeting (busy_ : D) (long_ : D) (size_ : D) : M D :=
  ((((((M.pure size_).bind fun x517 => ((M.pure long_).bind fun x518 => subD x517 x518)).bind fun x519 => ((M.pure (.int 1)).bind fun x520 => addD x519 x520)).bind fun x521 => ((asI x521).bind fun i522 => rngD 0 i522)).bind fun l525 => ((M.mapM (fun x524 => ((M.pure x524).bind fun a523 => ((((((M.pure busy_).bind fun x527 => ((M.pure a523).bind fun x528 => (((M.pure a523).bind fun x529 => ((M.pure long_).bind fun x530 => addD x529 x530)).bind fun x531 => m_who_can x527 x528 x531))).bind fun x532 => lenD x532).bind fun x533 => negD x533).bind fun x536 => (((M.pure a523).bind fun x534 => ((M.pure []).bind fun l535 => M.pure (x534 :: l535))).bind fun l537 => M.pure (x536 :: l537))).bind fun x538 => M.pure (.tuple x538)))) l525).bind fun l526 => M.pure (.list l526))).bind fun rows_516 => 
  (((M.pure rows_516).bind fun x540 => (((M.pure []).bind fun x539 => M.pure (.list x539)).bind fun x541 => ((neD x540 x541).bind fun z542 => asB z542))).bind fun b555 => bif b555 then ((((((M.pure rows_516).bind fun x543 => min1D x543).bind fun x544 => ((M.pure (.int 0)).bind fun x545 => ixD x544 x545)).bind fun x546 => negD x546).bind fun x552 => (((((M.pure rows_516).bind fun x547 => min1D x547).bind fun x548 => ((M.pure (.int 1)).bind fun x549 => ixD x548 x549)).bind fun x550 => ((M.pure []).bind fun l551 => M.pure (x550 :: l551))).bind fun l553 => M.pure (x552 :: l553))).bind fun x554 => M.pure (.tuple x554)) else (M.pure .none)))
def m_with_must (busy_ : D) (must_ : D) (may_ : D) (long_ : D) (size_ : D) : M D :=
  ((M.pure (.list [])).bind fun rows_556 => 
  (((((M.pure size_).bind fun x557 => ((M.pure long_).bind fun x558 => subD x557 x558)).bind fun x559 => ((M.pure (.int 1)).bind fun x560 => addD x559 x560)).bind fun x561 => ((asI x561).bind fun i562 => rngD 0 i562)).bind fun l619 => (M.fold (fun (s563 : D) x618 => ((M.pure x618).bind fun a564 => 
    (((M.pure busy_).bind fun x566 => ((M.pure a564).bind fun x567 => (((M.pure a564).bind fun x568 => ((M.pure long_).bind fun x569 => addD x568 x569)).bind fun x570 => m_who_can x566 x567 x570))).bind fun able_565 => 
    (((((((M.pure must_).bind fun x571 => asS x571).bind fun l574 => ((M.mapM (fun x573 => ((M.pure x573).bind fun a572 => ((M.pure a572).bind fun x576 => ((M.pure able_565).bind fun x577 => inD x576 x577)))) l574).bind fun l575 => M.pure (.list l575))).bind fun x578 => allD x578).bind fun x579 => truthD x579).bind fun b580 => bif b580 then 
      (M.need (isL s563 = true) ((((((((M.pure may_).bind fun x581 => asS x581).bind fun l584 => ((M.filM (fun x583 => ((M.pure x583).bind fun a582 => (((M.pure a582).bind fun x586 => ((M.pure able_565).bind fun x587 => ((inD x586 x587).bind fun z588 => asB z588))).bind fun b589 => bif b589 then ((M.pure a582).bind fun x590 => M.pure (some x590)) else M.pure none))) l584).bind fun l585 => M.pure (.list l585))).bind fun x591 => lenD x591).bind fun x592 => negD x592).bind fun x595 => (((M.pure a564).bind fun x593 => ((M.pure []).bind fun l594 => M.pure (x593 :: l594))).bind fun l596 => M.pure (x595 :: l596))).bind fun x597 => M.pure (.tuple x597)).bind fun x598 => ((appD s563 x598).bind fun rows_599 => 
      (M.pure rows_599)))) else
      (M.pure s563)).bind fun (s600 : D) => 
    (M.pure s600))))) rows_556 l619).bind fun (s563 : D) =>
  (((M.pure s563).bind fun x602 => (((M.pure []).bind fun x601 => M.pure (.list x601)).bind fun x603 => ((neD x602 x603).bind fun z604 => asB z604))).bind fun b617 => bif b617 then ((((((M.pure s563).bind fun x605 => min1D x605).bind fun x606 => ((M.pure (.int 0)).bind fun x607 => ixD x606 x607)).bind fun x608 => negD x608).bind fun x614 => (((((M.pure s563).bind fun x609 => min1D x609).bind fun x610 => ((M.pure (.int 1)).bind fun x611 => ixD x610 x611)).bind fun x612 => ((M.pure []).bind fun l613 => M.pure (x612 :: l613))).bind fun l615 => M.pure (x614 :: l615))).bind fun x616 => M.pure (.tuple x616)) else (M.pure .none))))
def m_first_meeting (busy_ : D) (people_ : D) (long_ : D) (size_ : D) : M D :=
  (((((M.pure busy_).bind fun x621 => ((M.pure people_).bind fun x622 => ((M.pure size_).bind fun x623 => m_all_free x621 x622 x623))).bind fun x624 => asS x624).bind fun l627 => ((M.filM (fun x626 => ((un2 x626).bind fun a625 => ((((M.pure a625.2).bind fun x629 => ((M.pure a625.1).bind fun x630 => subD x629 x630)).bind fun x631 => ((M.pure long_).bind fun x632 => ((geD x631 x632).bind fun z633 => asB z633))).bind fun b634 => bif b634 then ((M.pure a625.1).bind fun x635 => M.pure (some x635)) else M.pure none))) l627).bind fun l628 => M.pure (.list l628))).bind fun able_620 => 
  (((M.pure able_620).bind fun x637 => (((M.pure []).bind fun x636 => M.pure (.list x636)).bind fun x638 => ((neD x637 x638).bind fun z639 => asB z639))).bind fun b642 => bif b642 then ((M.pure able_620).bind fun x640 => ((M.pure (.int 0)).bind fun x641 => ixD x640 x641)) else (M.pure .none)))
def m_meetings_row (busy_ : D) (asks_ : D) (size_ : D) : M D :=
  ((M.pure (.list [])).bind fun found_656 => ((((keysD busy_).bind fun l645 => ((M.mapM (fun x644 => ((M.pure x644).bind fun a643 => (((M.pure a643).bind fun x652 => (((((M.pure busy_).bind fun x647 => ((M.pure a643).bind fun x648 => ixD x647 x648)).bind fun x649 => tupleD x649).bind fun x650 => ((M.pure []).bind fun l651 => M.pure (x650 :: l651))).bind fun l653 => M.pure (x652 :: l653))).bind fun x654 => M.pure (.tuple x654)))) l645).bind fun l646 => M.pure (.list l646))).bind fun x655 => dict2D x655).bind fun now_657 => 
  (((M.pure asks_).bind fun x658 => asS x658).bind fun l700 => (M.fold (fun (s659 : D × D) x699 => ((un2 x699).bind fun a660 => 
    ((((M.pure s659.2).bind fun x662 => ((M.pure a660.1).bind fun x663 => ((M.pure a660.2).bind fun x664 => ((M.pure size_).bind fun x665 => m_first_meeting x662 x663 x664 x665)))).bind fun x666 => M.need (flatD x666 = true) (M.pure x666)).bind fun begin_661 => 
    ((((M.pure begin_661).bind fun x667 => ((M.pure .none).bind fun x668 => ((isnD x667 x668).bind fun z669 => asB z669))).bind fun b670 => bif b670 then 
      (((M.pure a660.1).bind fun x671 => asS x671).bind fun l694 => (M.fold (fun (s672 : D) x693 => ((M.pure x693).bind fun a673 => 
        ((((M.pure s672).bind fun x675 => M.need ((isDi x675 && plainD x675) = true) ((M.pure a673).bind fun x676 => (((M.pure []).bind fun x674 => M.pure (.tuple x674)).bind fun x677 => get2D x675 x676 x677))).bind fun x688 => ((((((M.pure begin_661).bind fun x682 => ((((M.pure begin_661).bind fun x678 => ((M.pure a660.2).bind fun x679 => addD x678 x679)).bind fun x680 => ((M.pure []).bind fun l681 => M.pure (x680 :: l681))).bind fun l683 => M.pure (x682 :: l683))).bind fun x684 => M.pure (.tuple x684)).bind fun x685 => ((M.pure []).bind fun l686 => M.pure (x685 :: l686))).bind fun x687 => M.pure (.tuple x687)).bind fun x689 => addD x688 x689)).bind fun x690 => ((M.pure a673).bind fun x691 => ((dputD s672 x691 x690).bind fun now_692 => 
        (M.pure now_692)))))) s659.2 l694).bind fun (s672 : D) =>
      (M.pure s672)) else
      (M.pure s659.2)).bind fun (s695 : D) => 
    (M.need (isL s659.1 = true) ((M.pure begin_661).bind fun x696 => ((appD s659.1 x696).bind fun found_697 => 
    (M.pure (found_697, s695))))))))) (found_656, now_657) l700).bind fun (s659 : D × D) =>
  ((M.pure s659.1).bind fun x698 => tupleD x698))))
def m_free_of (busy_ : D) (person_ : D) (size_ : D) : M D :=
  ((M.pure busy_).bind fun x701 => ((((M.pure person_).bind fun x702 => ((M.pure []).bind fun l703 => M.pure (x702 :: l703))).bind fun x704 => M.pure (.tuple x704)).bind fun x705 => ((M.pure size_).bind fun x706 => m_all_free x701 x705 x706)))
def m_share_busy (busy_ : D) (person_ : D) (size_ : D) : M D :=
  (((((M.pure size_).bind fun x740 => ((asI x740).bind fun i741 => rngD 0 i741)).bind fun l744 => ((M.filM (fun x743 => ((M.pure x743).bind fun a742 => (((((M.pure busy_).bind fun x746 => ((M.pure person_).bind fun x747 => ((M.pure a742).bind fun x748 => m_is_free x746 x747 x748))).bind fun x749 => truthD x749).bind fun b750 => M.pure (!b750)).bind fun b751 => bif b751 then ((M.pure (.int 1)).bind fun x752 => M.pure (some x752)) else M.pure none))) l744).bind fun l745 => M.pure (.list l745))).bind fun x753 => lenD x753).bind fun x754 => ((M.pure size_).bind fun x755 => m_fraction x754 x755))
def m__law_fraction (a_ : D) (b_ : D) : M D :=
  (((M.pure a_).bind fun x756 => absD x756).bind fun x_758 => (((M.pure b_).bind fun x757 => absD x757).bind fun y_759 => 
  ((M.while_ (fun (s760 : D × D) => ((M.pure s760.2).bind fun x761 => ((M.pure (.int 0)).bind fun x762 => ((neD x761 x762).bind fun z763 => asB z763)))) (fun (s760 : D × D) =>
    ((M.pure s760.2).bind fun x_766 => (((M.pure s760.1).bind fun x764 => ((M.pure s760.2).bind fun x765 => modD x764 x765)).bind fun y_767 => 
    (M.pure (x_766, y_767))))) (x_758, y_759)).bind fun (s760 : D × D) =>
  (((M.pure b_).bind fun x768 => ((M.pure (.int 0)).bind fun x769 => ((gtD x768 x769).bind fun z770 => asB z770))).bind fun b793 => bif b793 then ((((M.pure a_).bind fun x771 => ((M.pure s760.1).bind fun x772 => fdivD x771 x772)).bind fun x777 => ((((M.pure b_).bind fun x773 => ((M.pure s760.1).bind fun x774 => fdivD x773 x774)).bind fun x775 => ((M.pure []).bind fun l776 => M.pure (x775 :: l776))).bind fun l778 => M.pure (x777 :: l778))).bind fun x779 => M.pure (.tuple x779)) else ((((M.pure (.int 0)).bind fun x782 => (((M.pure a_).bind fun x780 => ((M.pure s760.1).bind fun x781 => fdivD x780 x781)).bind fun x783 => subD x782 x783)).bind fun x790 => ((((M.pure (.int 0)).bind fun x786 => (((M.pure b_).bind fun x784 => ((M.pure s760.1).bind fun x785 => fdivD x784 x785)).bind fun x787 => subD x786 x787)).bind fun x788 => ((M.pure []).bind fun l789 => M.pure (x788 :: l789))).bind fun l791 => M.pure (x790 :: l791))).bind fun x792 => M.pure (.tuple x792))))))
def m_law_c1  : M (Fl (Unit) (Unit)) :=
  (M.pure (Fl.nx ()))
def m_law_c2 (busy_802 : D) (a826 : D) (size_798 : D) : M (Fl (Unit) (Unit)) :=
  (((((((M.pure busy_802).bind fun x843 => dict2D x843).bind fun x844 => ((M.pure a826).bind fun x845 => ((M.pure size_798).bind fun x846 => m_share_busy x844 x845 x846))).bind fun x847 => ((((((M.pure size_798).bind fun x848 => ((asI x848).bind fun i849 => rngD 0 i849)).bind fun l852 => ((M.filM (fun x851 => ((M.pure x851).bind fun a850 => (((((M.pure busy_802).bind fun x854 => ((M.pure a826).bind fun x855 => ((M.pure a850).bind fun x856 => m__law_free x854 x855 x856))).bind fun x857 => truthD x857).bind fun b858 => M.pure (!b858)).bind fun b859 => bif b859 then ((M.pure a850).bind fun x860 => M.pure (some x860)) else M.pure none))) l852).bind fun l853 => M.pure (.list l853))).bind fun x861 => lenD x861).bind fun x862 => ((M.pure size_798).bind fun x863 => m__law_fraction x862 x863)).bind fun x864 => m__law_same 12 x847 x864)).bind fun x865 => truthD x865).bind fun b866 => M.pure (!b866)).bind fun b867 => bif b867 then 
        ((M.pure (.bool false)).bind fun r868 => M.pure (Fl.rt r868)) else
      m_law_c1)
def m_law_b3 (busy_802 : D) (size_798 : D) (s825 : Unit) (a826 : D) : M (Fl (Unit) (Unit)) :=
  (((((((M.pure busy_802).bind fun x827 => dict2D x827).bind fun x828 => ((M.pure a826).bind fun x829 => ((M.pure size_798).bind fun x830 => m_free_of x828 x829 x830))).bind fun x831 => ((((M.pure busy_802).bind fun x832 => ((((M.pure a826).bind fun x833 => ((M.pure []).bind fun l834 => M.pure (x833 :: l834))).bind fun x835 => M.pure (.list x835)).bind fun x836 => ((M.pure size_798).bind fun x837 => m__law_all x832 x836 x837))).bind fun x838 => tupleD x838).bind fun x839 => m__law_same 12 x831 x839)).bind fun x840 => truthD x840).bind fun b841 => M.pure (!b841)).bind fun b842 => bif b842 then 
        ((M.pure (.bool false)).bind fun r869 => M.pure (Fl.rt r869)) else
      (m_law_c2 busy_802 a826 size_798))
def m_law_b4 (busy_802 : D) (begin_942 : D) (end'_944 : D) (s965 : D) (a966 : D) : M (D) :=
  ((((((M.pure busy_802).bind fun x967 => ((M.pure a966).bind fun x968 => ixD x967 x968)).bind fun x969 => asS x969).bind fun l972 => ((M.filM (fun x971 => ((un2 x971).bind fun a970 => (((((M.pure a970.1).bind fun x974 => ((M.pure a970.2).bind fun x975 => ((asI x974).bind fun i976 => ((asI x975).bind fun j977 => rngD i976 j977)))).bind fun l980 => ((M.filM (fun x979 => ((M.pure x979).bind fun a978 => ((((M.pure begin_942).bind fun x982 => ((M.pure a978).bind fun x983 => ((leD x982 x983).bind fun z984 => ((asB z984).bind fun b985 => bif b985 then ((M.pure end'_944).bind fun x986 => ltD x983 x986) else M.pure (.bool false))))).bind fun z987 => asB z987).bind fun b988 => bif b988 then ((M.pure a978).bind fun x989 => M.pure (some x989)) else M.pure none))) l980).bind fun l981 => M.pure (.list l981))).bind fun x991 => (((M.pure []).bind fun x990 => M.pure (.list x990)).bind fun x992 => ((neD x991 x992).bind fun z993 => asB z993))).bind fun b994 => bif b994 then ((M.pure (.int 1)).bind fun x995 => M.pure (some x995)) else M.pure none))) l972).bind fun l973 => M.pure (.list l973))).bind fun x996 => lenD x996).bind fun x997 => ((iaddD s965 x997).bind fun met_998 => 
      (M.pure met_998)))
def m_law_b5 (busy_802 : D) (long_877 : D) (may_1064 : D) (people_806 : D) (s1067 : D) (a1068 : D) : M (D) :=
  (((M.pure busy_802).bind fun x1070 => ((M.pure a1068).bind fun x1071 => (((M.pure a1068).bind fun x1072 => ((M.pure long_877).bind fun x1073 => addD x1072 x1073)).bind fun x1074 => m__law_can x1070 x1071 x1074))).bind fun able_1069 => 
      (((((M.pure may_1064).bind fun x1076 => asS x1076).bind fun l1079 => ((M.filM (fun x1078 => ((M.pure x1078).bind fun a1077 => (((M.pure a1077).bind fun x1081 => ((M.pure able_1069).bind fun x1082 => ((inD x1081 x1082).bind fun z1083 => asB z1083))).bind fun b1084 => bif b1084 then ((M.pure a1077).bind fun x1085 => M.pure (some x1085)) else M.pure none))) l1079).bind fun l1080 => M.pure (.list l1080))).bind fun x1086 => lenD x1086).bind fun many_1075 => 
      (((((((M.pure people_806).bind fun x1087 => asS x1087).bind fun l1090 => ((M.filM (fun x1089 => ((M.pure x1089).bind fun a1088 => (((M.pure a1088).bind fun x1092 => ((M.pure able_1069).bind fun x1093 => ((ninD x1092 x1093).bind fun z1094 => asB z1094))).bind fun b1095 => bif b1095 then ((M.pure a1088).bind fun x1096 => M.pure (some x1096)) else M.pure none))) l1090).bind fun l1091 => M.pure (.list l1091))).bind fun x1098 => (((M.pure []).bind fun x1097 => M.pure (.list x1097)).bind fun x1099 => ((eqD x1098 x1099).bind fun z1100 => asB z1100))).bind fun b1110 => bif b1110 then (((M.pure s1067).bind fun x1101 => ((M.pure .none).bind fun x1102 => ((isD x1101 x1102).bind fun z1103 => asB z1103))).bind fun b1109 => bif b1109 then M.pure true else ((M.pure many_1075).bind fun x1106 => (((M.pure s1067).bind fun x1104 => ((M.pure (.int 0)).bind fun x1105 => ixD x1104 x1105)).bind fun x1107 => ((gtD x1106 x1107).bind fun z1108 => asB z1108)))) else M.pure false).bind fun b1111 => bif b1111 then 
        ((((M.pure many_1075).bind fun x1115 => (((M.pure a1068).bind fun x1113 => ((M.pure []).bind fun l1114 => M.pure (x1113 :: l1114))).bind fun l1116 => M.pure (x1115 :: l1116))).bind fun x1117 => M.pure (.tuple x1117)).bind fun best_1112 => 
        (M.pure best_1112)) else
        (M.pure s1067)).bind fun (s1118 : D) => 
      (M.pure s1118))))
def m_law_b6 (at'_1168 : D) (span_1160 : D) (s1180 : D) (a1181 : D) : M (D) :=
  ((((M.pure s1180).bind fun x1183 => M.need ((isDi x1183 && plainD x1183) = true) ((M.pure a1181).bind fun x1184 => (((M.pure []).bind fun x1182 => M.pure (.tuple x1182)).bind fun x1185 => get2D x1183 x1184 x1185))).bind fun x1196 => ((((((M.pure at'_1168).bind fun x1190 => ((((M.pure at'_1168).bind fun x1186 => ((M.pure span_1160).bind fun x1187 => addD x1186 x1187)).bind fun x1188 => ((M.pure []).bind fun l1189 => M.pure (x1188 :: l1189))).bind fun l1191 => M.pure (x1190 :: l1191))).bind fun x1192 => M.pure (.tuple x1192)).bind fun x1193 => ((M.pure []).bind fun l1194 => M.pure (x1193 :: l1194))).bind fun x1195 => M.pure (.tuple x1195)).bind fun x1197 => addD x1196 x1197)).bind fun x1198 => ((M.pure a1181).bind fun x1199 => ((dputD s1180 x1199 x1198).bind fun now_1200 => 
        (M.pure now_1200))))
def m_law_r7 (s1137 : D × D × D) (at'_1168 : D) (asks_1167 : D) (s1180 : D) : M (D × D × D) :=
  (M.need (isL s1137.2.2 = true) ((M.pure at'_1168).bind fun x1201 => ((appD s1137.2.2 x1201).bind fun due_1202 => 
      (M.pure (asks_1167, s1180, due_1202)))))
def m_law_b8 (names_804 : D) (size_798 : D) (s1137 : D × D × D) (a1138 : D) : M (D × D × D) :=
  ((((((M.pure names_804).bind fun x1142 => ((((M.pure (.str "new")).bind fun x1139 => ((M.pure []).bind fun l1140 => M.pure (x1139 :: l1140))).bind fun x1141 => M.pure (.list x1141)).bind fun x1143 => addD x1142 x1143)).bind fun x1144 => asS x1144).bind fun l1147 => ((M.filM (fun x1146 => ((M.pure x1146).bind fun a1145 => ((((M.pure (.int 2)).bind fun x1149 => m__law_next x1149).bind fun x1150 => ((M.pure (.int 0)).bind fun x1151 => ((eqD x1150 x1151).bind fun z1152 => asB z1152))).bind fun b1153 => bif b1153 then ((M.pure a1145).bind fun x1154 => M.pure (some x1154)) else M.pure none))) l1147).bind fun l1148 => M.pure (.list l1148))).bind fun x1155 => tupleD x1155).bind fun own_1159 => (((M.pure (.int 1)).bind fun x1157 => (((M.pure (.int 3)).bind fun x1156 => m__law_next x1156).bind fun x1158 => addD x1157 x1158)).bind fun span_1160 => 
      (M.need (isL s1137.1 = true) ((((M.pure own_1159).bind fun x1163 => (((M.pure span_1160).bind fun x1161 => ((M.pure []).bind fun l1162 => M.pure (x1161 :: l1162))).bind fun l1164 => M.pure (x1163 :: l1164))).bind fun x1165 => M.pure (.tuple x1165)).bind fun x1166 => ((appD s1137.1 x1166).bind fun asks_1167 => 
      ((((M.pure s1137.2.1).bind fun x1169 => ((M.pure own_1159).bind fun x1170 => ((M.pure span_1160).bind fun x1171 => ((M.pure size_798).bind fun x1172 => m__law_first x1169 x1170 x1171 x1172)))).bind fun x1173 => M.need (flatD x1173 = true) (M.pure x1173)).bind fun at'_1168 => 
      (((((M.pure at'_1168).bind fun x1174 => ((M.pure .none).bind fun x1175 => ((isnD x1174 x1175).bind fun z1176 => asB z1176))).bind fun b1178 => bif b1178 then (M.pure own_1159) else ((M.pure []).bind fun x1177 => M.pure (.tuple x1177))).bind fun x1179 => asS x1179).bind fun l1204 => (M.fold (fun (s1180 : D) x1203 => ((M.pure x1203).bind fun a1181 => 
        (m_law_b6 at'_1168 span_1160 s1180 a1181))) s1137.2.1 l1204).bind fun (s1180 : D) =>
      (m_law_r7 s1137 at'_1168 asks_1167 s1180))))))))
def m_law_c9  : M (Fl (Unit) (Unit)) :=
  (M.pure (Fl.nx ()))
def m_law_r10 (busy_802 : D) (size_798 : D) (s1137 : D × D × D) : M (Fl (Unit) (Unit)) :=
  (((((((M.pure busy_802).bind fun x1205 => dict2D x1205).bind fun x1206 => (((M.pure s1137.1).bind fun x1207 => tupleD x1207).bind fun x1208 => ((M.pure size_798).bind fun x1209 => m_meetings_row x1206 x1208 x1209))).bind fun x1210 => (((M.pure s1137.2.2).bind fun x1211 => tupleD x1211).bind fun x1212 => m__law_same 12 x1210 x1212)).bind fun x1213 => truthD x1213).bind fun b1214 => M.pure (!b1214)).bind fun b1215 => bif b1215 then 
      ((M.pure (.bool false)).bind fun r1216 => M.pure (Fl.rt r1216)) else
    m_law_c9)
def m_law_c11 (busy_802 : D) (names_804 : D) (size_798 : D) : M (Fl (Unit) (Unit)) :=
  ((M.pure (.list [])).bind fun asks_1131 => (((M.pure busy_802).bind fun x1130 => dict2D x1130).bind fun now_1132 => ((M.pure (.list [])).bind fun due_1133 => 
    ((((M.pure (.int 4)).bind fun x1134 => m__law_next x1134).bind fun x1135 => ((asI x1135).bind fun i1136 => rngD 0 i1136)).bind fun l1218 => (M.fold (fun (s1137 : D × D × D) x1217 => ((M.pure x1217).bind fun a1138 => 
      (m_law_b8 names_804 size_798 s1137 a1138))) (asks_1131, now_1132, due_1133) l1218).bind fun (s1137 : D × D × D) =>
    (m_law_r10 busy_802 size_798 s1137)))))
def m_law_r12 (busy_802 : D) (people_806 : D) (may_1064 : D) (long_877 : D) (size_798 : D) (names_804 : D) (s1067 : D) : M (Fl (Unit) (Unit)) :=
  (((((((M.pure busy_802).bind fun x1119 => dict2D x1119).bind fun x1120 => ((M.pure people_806).bind fun x1121 => ((M.pure may_1064).bind fun x1122 => ((M.pure long_877).bind fun x1123 => ((M.pure size_798).bind fun x1124 => m_with_must x1120 x1121 x1122 x1123 x1124))))).bind fun x1125 => ((M.pure s1067).bind fun x1126 => m__law_same 12 x1125 x1126)).bind fun x1127 => truthD x1127).bind fun b1128 => M.pure (!b1128)).bind fun b1129 => bif b1129 then 
      ((M.pure (.bool false)).bind fun r1219 => M.pure (Fl.rt r1219)) else
    (m_law_c11 busy_802 names_804 size_798))
def m_law_c13 (names_804 : D) (spots_1009 : D) (busy_802 : D) (long_877 : D) (people_806 : D) (size_798 : D) : M (Fl (Unit) (Unit)) :=
  (((((M.pure names_804).bind fun x1052 => asS x1052).bind fun l1055 => ((M.filM (fun x1054 => ((M.pure x1054).bind fun a1053 => ((((M.pure (.int 2)).bind fun x1057 => m__law_next x1057).bind fun x1058 => ((M.pure (.int 0)).bind fun x1059 => ((eqD x1058 x1059).bind fun z1060 => asB z1060))).bind fun b1061 => bif b1061 then ((M.pure a1053).bind fun x1062 => M.pure (some x1062)) else M.pure none))) l1055).bind fun l1056 => M.pure (.list l1056))).bind fun x1063 => tupleD x1063).bind fun may_1064 => ((M.pure .none).bind fun best_1065 => 
    (((M.pure spots_1009).bind fun x1066 => asS x1066).bind fun l1221 => (M.fold (fun (s1067 : D) x1220 => ((M.pure x1220).bind fun a1068 => 
      (m_law_b5 busy_802 long_877 may_1064 people_806 s1067 a1068))) best_1065 l1221).bind fun (s1067 : D) =>
    (m_law_r12 busy_802 people_806 may_1064 long_877 size_798 names_804 s1067))))
def m_law_c14 (size_798 : D) (long_877 : D) (busy_802 : D) (names_804 : D) (people_806 : D) : M (Fl (Unit) (Unit)) :=
  (((((M.pure size_798).bind fun x1010 => ((M.pure long_877).bind fun x1011 => subD x1010 x1011)).bind fun x1012 => ((M.pure (.int 1)).bind fun x1013 => addD x1012 x1013)).bind fun x1014 => ((asI x1014).bind fun i1015 => ((rngD 0 i1015).bind fun l1016 => M.pure (.list l1016)))).bind fun spots_1009 => 
    ((((M.pure spots_1009).bind fun x1018 => asS x1018).bind fun l1021 => ((M.mapM (fun x1020 => ((M.pure x1020).bind fun a1019 => (((M.pure busy_802).bind fun x1023 => ((M.pure a1019).bind fun x1024 => (((M.pure a1019).bind fun x1025 => ((M.pure long_877).bind fun x1026 => addD x1025 x1026)).bind fun x1027 => m__law_can x1023 x1024 x1027))).bind fun x1028 => lenD x1028))) l1021).bind fun l1022 => M.pure (.list l1022))).bind fun counts_1017 => 
    (((((((M.pure busy_802).bind fun x1029 => dict2D x1029).bind fun x1030 => ((M.pure long_877).bind fun x1031 => ((M.pure size_798).bind fun x1032 => m_best_meeting x1030 x1031 x1032))).bind fun x1033 => ((((M.pure counts_1017).bind fun x1035 => (((M.pure []).bind fun x1034 => M.pure (.list x1034)).bind fun x1036 => ((neD x1035 x1036).bind fun z1037 => asB z1037))).bind fun b1047 => bif b1047 then ((((M.pure counts_1017).bind fun x1038 => max1D x1038).bind fun x1044 => ((((M.pure counts_1017).bind fun x1040 => M.need (isL x1040 = true) (((M.pure counts_1017).bind fun x1039 => max1D x1039).bind fun x1041 => indexD x1040 x1041)).bind fun x1042 => ((M.pure []).bind fun l1043 => M.pure (x1042 :: l1043))).bind fun l1045 => M.pure (x1044 :: l1045))).bind fun x1046 => M.pure (.tuple x1046)) else (M.pure .none)).bind fun x1048 => m__law_same 12 x1033 x1048)).bind fun x1049 => truthD x1049).bind fun b1050 => M.pure (!b1050)).bind fun b1051 => bif b1051 then 
      ((M.pure (.bool false)).bind fun r1222 => M.pure (Fl.rt r1222)) else
    (m_law_c13 names_804 spots_1009 busy_802 long_877 people_806 size_798))))
def m_law_r15 (busy_802 : D) (people_806 : D) (begin_942 : D) (end'_944 : D) (size_798 : D) (long_877 : D) (names_804 : D) (s965 : D) : M (Fl (Unit) (Unit)) :=
  (((((((M.pure busy_802).bind fun x999 => dict2D x999).bind fun x1000 => ((M.pure people_806).bind fun x1001 => ((M.pure begin_942).bind fun x1002 => ((M.pure end'_944).bind fun x1003 => m_fewest_moved x1000 x1001 x1002 x1003)))).bind fun x1004 => ((M.pure s965).bind fun x1005 => m__law_same 12 x1004 x1005)).bind fun x1006 => truthD x1006).bind fun b1007 => M.pure (!b1007)).bind fun b1008 => bif b1008 then 
      ((M.pure (.bool false)).bind fun r1223 => M.pure (Fl.rt r1223)) else
    (m_law_c14 size_798 long_877 busy_802 names_804 people_806))
def m_law_c16 (people_806 : D) (busy_802 : D) (begin_942 : D) (end'_944 : D) (size_798 : D) (long_877 : D) (names_804 : D) : M (Fl (Unit) (Unit)) :=
  ((M.pure (.int 0)).bind fun met_963 => 
    (((M.pure people_806).bind fun x964 => asS x964).bind fun l1225 => (M.fold (fun (s965 : D) x1224 => ((M.pure x1224).bind fun a966 => 
      (m_law_b4 busy_802 begin_942 end'_944 s965 a966))) met_963 l1225).bind fun (s965 : D) =>
    (m_law_r15 busy_802 people_806 begin_942 end'_944 size_798 long_877 names_804 s965)))
def m_law_c17 (size_798 : D) (busy_802 : D) (people_806 : D) (long_877 : D) (names_804 : D) : M (Fl (Unit) (Unit)) :=
  (((M.pure size_798).bind fun x943 => m__law_next x943).bind fun begin_942 => 
    ((((M.pure begin_942).bind fun x945 => ((M.pure (.int 1)).bind fun x946 => addD x945 x946)).bind fun x948 => (((M.pure (.int 4)).bind fun x947 => m__law_next x947).bind fun x949 => addD x948 x949)).bind fun end'_944 => 
    (((((((M.pure busy_802).bind fun x950 => dict2D x950).bind fun x951 => ((M.pure begin_942).bind fun x952 => ((M.pure end'_944).bind fun x953 => m_who_can x951 x952 x953))).bind fun x954 => ((((M.pure busy_802).bind fun x955 => ((M.pure begin_942).bind fun x956 => ((M.pure end'_944).bind fun x957 => m__law_can x955 x956 x957))).bind fun x958 => tupleD x958).bind fun x959 => m__law_same 12 x954 x959)).bind fun x960 => truthD x960).bind fun b961 => M.pure (!b961)).bind fun b962 => bif b962 then 
      ((M.pure (.bool false)).bind fun r1226 => M.pure (Fl.rt r1226)) else
    (m_law_c16 people_806 busy_802 begin_942 end'_944 size_798 long_877 names_804))))
def m_law_c18 (rows_876 : D) (busy_802 : D) (people_806 : D) (size_798 : D) (long_877 : D) (names_804 : D) : M (Fl (Unit) (Unit)) :=
  ((((M.pure rows_876).bind fun x903 => asS x903).bind fun l906 => ((M.mapM (fun x905 => ((un2 x905).bind fun a904 => ((M.pure a904.2).bind fun x908 => ((M.pure a904.1).bind fun x909 => subD x908 x909)))) l906).bind fun l907 => M.pure (.list l907))).bind fun longest_902 => 
    (((((((M.pure busy_802).bind fun x910 => dict2D x910).bind fun x911 => ((M.pure people_806).bind fun x912 => ((M.pure size_798).bind fun x913 => m_longest_free x911 x912 x913))).bind fun x914 => ((((M.pure rows_876).bind fun x916 => (((M.pure []).bind fun x915 => M.pure (.list x915)).bind fun x917 => ((neD x916 x917).bind fun z918 => asB z918))).bind fun b937 => bif b937 then ((((M.pure longest_902).bind fun x919 => max1D x919).bind fun x929 => (((((M.pure rows_876).bind fun x920 => (((M.pure longest_902).bind fun x922 => M.need (isL x922 = true) (((M.pure longest_902).bind fun x921 => max1D x921).bind fun x923 => indexD x922 x923)).bind fun x924 => ixD x920 x924)).bind fun x925 => ((M.pure (.int 0)).bind fun x926 => ixD x925 x926)).bind fun x927 => ((M.pure []).bind fun l928 => M.pure (x927 :: l928))).bind fun l930 => M.pure (x929 :: l930))).bind fun x931 => M.pure (.tuple x931)) else (((M.pure (.int 0)).bind fun x934 => (((M.pure (.int 0)).bind fun x932 => ((M.pure []).bind fun l933 => M.pure (x932 :: l933))).bind fun l935 => M.pure (x934 :: l935))).bind fun x936 => M.pure (.tuple x936))).bind fun x938 => m__law_same 12 x914 x938)).bind fun x939 => truthD x939).bind fun b940 => M.pure (!b940)).bind fun b941 => bif b941 then 
      ((M.pure (.bool false)).bind fun r1227 => M.pure (Fl.rt r1227)) else
    (m_law_c17 size_798 busy_802 people_806 long_877 names_804)))
def m_law_r19 (busy_802 : D) (people_806 : D) (size_798 : D) (names_804 : D) (s825 : Unit) : M (Fl (Unit) (Unit)) :=
  (((M.pure busy_802).bind fun x870 => ((M.pure people_806).bind fun x871 => ((M.pure size_798).bind fun x872 => m__law_all x870 x871 x872))).bind fun rows_876 => (((M.pure (.int 1)).bind fun x874 => (((M.pure (.int 5)).bind fun x873 => m__law_next x873).bind fun x875 => addD x874 x875)).bind fun long_877 => 
    ((((((((M.pure busy_802).bind fun x878 => dict2D x878).bind fun x879 => ((M.pure people_806).bind fun x880 => ((M.pure size_798).bind fun x881 => m_all_free x879 x880 x881))).bind fun x882 => (((M.pure rows_876).bind fun x883 => tupleD x883).bind fun x884 => m__law_same 12 x882 x884)).bind fun x885 => truthD x885).bind fun b886 => M.pure (!b886)).bind fun b900 => bif b900 then M.pure true else ((((((M.pure busy_802).bind fun x887 => dict2D x887).bind fun x888 => ((M.pure people_806).bind fun x889 => ((M.pure long_877).bind fun x890 => ((M.pure size_798).bind fun x891 => m_first_meeting x888 x889 x890 x891)))).bind fun x892 => (((M.pure busy_802).bind fun x893 => ((M.pure people_806).bind fun x894 => ((M.pure long_877).bind fun x895 => ((M.pure size_798).bind fun x896 => m__law_first x893 x894 x895 x896)))).bind fun x897 => m__law_same 12 x892 x897)).bind fun x898 => truthD x898).bind fun b899 => M.pure (!b899))).bind fun b901 => bif b901 then 
      ((M.pure (.bool false)).bind fun r1228 => M.pure (Fl.rt r1228)) else
    (m_law_c18 rows_876 busy_802 people_806 size_798 long_877 names_804))))
def m_law_b20 (s796 : Unit) (a797 : D) : M (Fl (Unit) (Unit)) :=
  (((M.pure (.int 1)).bind fun x800 => (((M.pure (.int 12)).bind fun x799 => m__law_next x799).bind fun x801 => addD x800 x801)).bind fun size_798 => 
    (((M.pure size_798).bind fun x803 => m__law_busy x803).bind fun busy_802 => 
    (((M.pure busy_802).bind fun x805 => sortedD x805).bind fun names_804 => 
    (((((M.pure names_804).bind fun x807 => asS x807).bind fun l810 => ((M.filM (fun x809 => ((M.pure x809).bind fun a808 => ((((M.pure (.int 2)).bind fun x812 => m__law_next x812).bind fun x813 => ((M.pure (.int 0)).bind fun x814 => ((eqD x813 x814).bind fun z815 => asB z815))).bind fun b816 => bif b816 then ((M.pure a808).bind fun x817 => M.pure (some x817)) else M.pure none))) l810).bind fun l811 => M.pure (.list l811))).bind fun x818 => tupleD x818).bind fun people_806 => 
    ((((M.pure names_804).bind fun x822 => ((((M.pure (.str "new")).bind fun x819 => ((M.pure []).bind fun l820 => M.pure (x819 :: l820))).bind fun x821 => M.pure (.list x821)).bind fun x823 => addD x822 x823)).bind fun x824 => asS x824).bind fun l1230 => (M.foldF (fun (s825 : Unit) x1229 => ((M.pure x1229).bind fun a826 => 
      (m_law_b3 busy_802 size_798 s825 a826))) () l1230).bind (Fl.go (fun (s825 : Unit) =>
    (m_law_r19 busy_802 people_806 size_798 names_804 s825)) (fun d => M.pure (Fl.rt d))))))))
def m_law_r21 (s796 : Unit) : M D :=
  (M.pure (.bool true))
def m_law : M D :=
  (((M.pure (.int 4)).bind fun x794 => ((asI x794).bind fun i795 => rngD 0 i795)).bind fun l1232 => (M.foldF (fun (s796 : Unit) x1231 => ((M.pure x1231).bind fun a797 => 
    (m_law_b20 s796 a797))) () l1232).bind (Fl.go (fun (s796 : Unit) =>
  (m_law_r21 s796)) (fun d => M.pure d)))
/-! ### and that they do -/
section
variable {P : Program} {w : World} {K : PySem.W.Frag} {mg : Str → Option Value} {base : Heap}
theorem fd__law_draws (h : Has K mg "_law_draws" st__law_draws) (hb_abs : mg "abs" = none) (hb_int : mg "int" = none) (hb_len : mg "len" = none) (hb_range : mg "range" = none) : FnD P w K mg base "_law_draws" 1 2 (mf_sv m__law_draws) :=
  fnd_sv (k := 0) h sc__law_draws rfl (by decide) (fun _ _ _ _ _ _ us hl => match us, hl with | [_, _], _ => rfl) fun ns many_ =>
  (w_nf (Γ' := [some (.scr ns), some (.val many_), none, none, none, none, none, none]) rfl (w_setF (i := 2) sa__law_draws_draws wf_nil fun draws_1 =>
  (w_nf (Γ' := [some (.scr ns), some (.val many_), some (.own draws_1), none, none, none, none, none]) rfl (w_set (i := 3) sa__law_draws_mixed we_int fun mixed_2 =>
  (w_nf (Γ' := [some (.scr ns), some (.val many_), some (.own draws_1), some (.val mixed_2), none, none, none, none]) rfl (w_for (σt := D × D) (fun (s5 : D × D) => [some (.scr ns), some (.val many_), some (.own s5.1), some (.val s5.2), none, none, none, none]) (draws_1, mixed_2) [true, true, true, true, false, false, false, false] (wi_range1 (blt_range lk__law_draws_range hb_range) (we_lenScr (i := 0) va__law_draws_script rfl (blt_len lk__law_draws_len hb_len)).wb) (wg_name (i := 4) sa__law_draws_k) rfl rfl
    (fun s5 a6 =>
    (w_nf (Γ' := [some (.scr ns), some (.val many_), some (.own s5.1), some (.val s5.2), some (.val a6), none, none, none]) rfl (w_set (i := 5) sa__law_draws_cell (we_c1B (blt_abs lk__law_draws_abs hb_abs) abs_ok (we_c1T (blt_int lk__law_draws_int hb_int) int_ok (we_ixScr (i := 0) va__law_draws_script rfl (we_var (i := 4) va__law_draws_k rfl).wb fun _ _ => rfl).wb).wb) fun cell_7 =>
    (w_nf (Γ' := [some (.scr ns), some (.val many_), some (.own s5.1), some (.val s5.2), some (.val a6), some (.val cell_7), none, none]) rfl (w_set (i := 3) sa__law_draws_mixed (we_op mod_ok (we_c1T (blt_int lk__law_draws_int hb_int) int_ok (we_op add_ok (we_op add_ok (we_op mul_ok (we_var (i := 3) va__law_draws_mixed rfl).wb we_int.wb).wb (we_op mod_ok (we_var (i := 5) va__law_draws_cell rfl).wb we_int.wb).wb).wb (we_var (i := 4) va__law_draws_k rfl).wb).wb).wb we_int.wb) fun mixed_13 =>
    (w_nf (Γ' := [some (.scr ns), some (.val many_), some (.own s5.1), some (.val mixed_13), some (.val a6), some (.val cell_7), none, none]) rfl (w_set (i := 6) sa__law_draws_rest we_int fun rest_25 =>
    (w_nf (Γ' := [some (.scr ns), some (.val many_), some (.own s5.1), some (.val mixed_13), some (.val a6), some (.val cell_7), some (.val rest_25), none]) rfl (w_ifJ (g := (fun (s49 : D × D) => [some (.scr ns), some (.val many_), some (.own s49.1), some (.val mixed_13), some (.val a6), some (.val cell_7), some (.val s49.2), none])) (wt_cmp ge_ok (we_var (i := 5) va__law_draws_cell rfl).wb (we_op pow_ok we_int.wb we_int.wb).wb rfl)
      (w_set (i := 6) sa__law_draws_rest (we_var (i := 5) va__law_draws_cell rfl) fun rest_32 =>
      (w_nf (Γ' := [some (.scr ns), some (.val many_), some (.own s5.1), some (.val mixed_13), some (.val a6), some (.val cell_7), some (.val rest_32), none]) rfl (w_nil [true, true, true, true, true, true, true, false] (r := (s5.1, rest_32)) rfl rfl)))
      (w_append (i := 2) va__law_draws_draws rfl (we_op mod_ok (we_c1T (blt_int lk__law_draws_int hb_int) int_ok (we_var (i := 5) va__law_draws_cell rfl).wb).wb we_int.wb) (fun draws_37 =>
      (w_nf (Γ' := [some (.scr ns), some (.val many_), some (.own draws_37), some (.val mixed_13), some (.val a6), some (.val cell_7), some (.val rest_25), none]) rfl (w_append (i := 2) va__law_draws_draws rfl (we_op mod_ok (we_op mod_ok (we_c1T (blt_int lk__law_draws_int hb_int) int_ok (we_op add_ok (we_op mul_ok (we_var (i := 3) va__law_draws_mixed rfl).wb we_int.wb).wb we_int.wb).wb).wb we_int.wb).wb we_int.wb) (fun draws_48 =>
      (w_nf (Γ' := [some (.scr ns), some (.val many_), some (.own draws_48), some (.val mixed_13), some (.val a6), some (.val cell_7), some (.val rest_25), none]) rfl (w_nil [true, true, true, true, true, true, true, false] (r := (draws_48, rest_25)) rfl rfl))) ⟨fun _ => rfl, fun _ => rfl, rfl, fun _ => rfl, fun _ => rfl, fun _ => rfl⟩))) ⟨fun _ => rfl, fun _ => rfl, rfl, fun _ => rfl, fun _ => rfl, fun _ => rfl⟩)
      (fun s49 =>
    (w_for (σt := D × D) (fun (s52 : D × D) => [some (.scr ns), some (.val many_), some (.own s52.1), some (.val mixed_13), some (.val a6), some (.val cell_7), some (.val s52.2), none]) (s49.1, s49.2) [true, true, true, true, true, true, true, false] (wi_range1 (blt_range lk__law_draws_range hb_range) we_int.wb) (wg_name (i := 7) sa__law_draws_turn) rfl rfl
      (fun s52 a53 =>
      (w_nf (Γ' := [some (.scr ns), some (.val many_), some (.own s52.1), some (.val mixed_13), some (.val a6), some (.val cell_7), some (.val s52.2), some (.val a53)]) rfl (w_ifJ (g := (fun (s66 : D × D) => [some (.scr ns), some (.val many_), some (.own s66.1), some (.val mixed_13), some (.val a6), some (.val cell_7), some (.val s66.2), some (.val a53)])) (wt_cmp gt_ok (we_var (i := 6) va__law_draws_rest rfl).wb we_int.wb rfl)
        (w_append (i := 2) va__law_draws_draws rfl (we_op mod_ok (we_c1T (blt_int lk__law_draws_int hb_int) int_ok (we_var (i := 6) va__law_draws_rest rfl).wb).wb we_int.wb) (fun draws_62 =>
        (w_nf (Γ' := [some (.scr ns), some (.val many_), some (.own draws_62), some (.val mixed_13), some (.val a6), some (.val cell_7), some (.val s52.2), some (.val a53)]) rfl (w_set (i := 6) sa__law_draws_rest (we_op fdiv_ok (we_var (i := 6) va__law_draws_rest rfl).wb we_int.wb) fun rest_63 =>
        (w_nf (Γ' := [some (.scr ns), some (.val many_), some (.own draws_62), some (.val mixed_13), some (.val a6), some (.val cell_7), some (.val rest_63), some (.val a53)]) rfl (w_nil [true, true, true, true, true, true, true, true] (r := (draws_62, rest_63)) rfl rfl))))) ⟨fun _ => rfl, fun _ => rfl, rfl, fun _ => rfl, fun _ => rfl, fun _ => rfl⟩)
        (w_nil [true, true, true, true, true, true, true, true] (r := (s52.1, s52.2)) rfl rfl)
        (fun s66 =>
      (w_nil [true, true, true, true, true, true, true, false] (r := (s66.1, s66.2)) rfl rfl)))))
      (fun s52 =>
    (w_nil [true, true, true, true, false, false, false, false] (r := (s52.1, mixed_13)) rfl rfl)))))))))))))
    (fun s5 =>
  (w_for (σt := D × D) (fun (s71 : D × D) => [some (.scr ns), some (.val many_), some (.own s71.1), some (.val s71.2), none, none, none, none]) (s5.1, s5.2) [true, true, true, true, false, false, false, false] (wi_range1 (blt_range lk__law_draws_range hb_range) (we_var (i := 1) va__law_draws_many rfl).wb) (wg_name (i := 4) sa__law_draws_k) rfl rfl
    (fun s71 a72 =>
    (w_nf (Γ' := [some (.scr ns), some (.val many_), some (.own s71.1), some (.val s71.2), some (.val a72), none, none, none]) rfl (w_set (i := 3) sa__law_draws_mixed (we_op mod_ok (we_c1T (blt_int lk__law_draws_int hb_int) int_ok (we_op add_ok (we_op add_ok (we_op mul_ok (we_var (i := 3) va__law_draws_mixed rfl).wb we_int.wb).wb (we_var (i := 4) va__law_draws_k rfl).wb).wb we_int.wb).wb).wb we_int.wb) fun mixed_73 =>
    (w_nf (Γ' := [some (.scr ns), some (.val many_), some (.own s71.1), some (.val mixed_73), some (.val a72), none, none, none]) rfl (w_append (i := 2) va__law_draws_draws rfl (we_op mod_ok (we_c1T (blt_int lk__law_draws_int hb_int) int_ok (we_var (i := 3) va__law_draws_mixed rfl).wb).wb we_int.wb) (fun draws_87 =>
    (w_nf (Γ' := [some (.scr ns), some (.val many_), some (.own draws_87), some (.val mixed_73), some (.val a72), none, none, none]) rfl (w_nil [true, true, true, true, false, false, false, false] (r := (draws_87, mixed_73)) rfl rfl))) ⟨fun _ => rfl, fun _ => rfl, rfl, fun _ => rfl, fun _ => rfl, fun _ => rfl⟩)))))
    (fun s71 =>
  (w_ret (we_slice sl_ok (wb_own (i := 2) va__law_draws_draws rfl) wo_none (wo_some (we_var (i := 1) va__law_draws_many rfl)))))))))))))
theorem fd__law_next (h : Has K mg "_law_next" st__law_next) (hb_int : mg "int" = none) (hb_len : mg "len" = none) : FnD P w K mg base "_law_next" 1 2 (mf_wv m__law_next) :=
  next_fn h sc__law_next (fun _ _ _ _ _ _ us hl => match us, hl with | [_, _], _ => rfl) hb_len hb_int rfl rfl rfl rfl rfl
theorem fd__law_busy (h : Has K mg "_law_busy" st__law_busy) (hb_range : mg "range" = none) (hb_tuple : mg "tuple" = none) (d__law_next : FnD P w K mg base "_law_next" 1 2 (mf_wv m__law_next)) : FnD P w K mg base "_law_busy" 2 2 (mf_wv m__law_busy) :=
  fnd_wv (k := 1) h sc__law_busy rfl (by decide) (fun _ _ _ _ _ _ us hl => match us, hl with | [_, _], _ => rfl) fun size_ =>
  (w_nf (Γ' := [some .drw, some (.val size_), none, none, none, none, none]) rfl (w_setF (i := 2) sa__law_busy_found wf_dict0 fun found_97 =>
  (w_nf (Γ' := [some .drw, some (.val size_), some (.own found_97), none, none, none, none]) rfl (w_for (σt := D) (fun (s114 : D) => [some .drw, some (.val size_), some (.own s114), none, none, none, none]) found_97 [true, true, true, false, false, false, false] (wi_seq (we_slice sl_ok (we_lst (wa_cons we_str (wa_cons we_str (wa_cons we_str (wa_cons we_str wa_nil)))) (Nat.le_of_ble_eq_true rfl)).wb wo_none (wo_some (we_call_wv d__law_next lk__law_busy__law_next (Nat.le_of_ble_eq_true rfl) (wi := 0) va__law_busy_w rfl we_int)))) (wg_name (i := 3) sa__law_busy_name) rfl rfl
    (fun s114 a115 =>
    (w_nf (Γ' := [some .drw, some (.val size_), some (.own s114), some (.val a115), none, none, none]) rfl (w_setF (i := 4) sa__law_busy_rows wf_nil fun rows_116 =>
    (w_nf (Γ' := [some .drw, some (.val size_), some (.own s114), some (.val a115), some (.own rows_116), none, none]) rfl (w_for (σt := D) (fun (s120 : D) => [some .drw, some (.val size_), some (.own s114), some (.val a115), some (.own s120), none, none]) rows_116 [true, true, true, true, true, false, false] (wi_range1 (blt_range lk__law_busy_range hb_range) (we_call_wv d__law_next lk__law_busy__law_next (Nat.le_of_ble_eq_true rfl) (wi := 0) va__law_busy_w rfl we_int).wb) (wg_name (i := 5) sa__law_busy_k) rfl rfl
      (fun s120 a121 =>
      (w_nf (Γ' := [some .drw, some (.val size_), some (.own s114), some (.val a115), some (.own s120), some (.val a121), none]) rfl (w_set (i := 6) sa__law_busy_begin (we_call_wv d__law_next lk__law_busy__law_next (Nat.le_of_ble_eq_true rfl) (wi := 0) va__law_busy_w rfl (we_var (i := 1) va__law_busy_size rfl)) fun begin_122 =>
      (w_nf (Γ' := [some .drw, some (.val size_), some (.own s114), some (.val a115), some (.own s120), some (.val a121), some (.val begin_122)]) rfl (w_append (i := 4) va__law_busy_rows rfl (we_tup (wa_cons (we_var (i := 6) va__law_busy_begin rfl) (wa_cons (we_op add_ok (we_op add_ok (we_var (i := 6) va__law_busy_begin rfl).wb we_int.wb).wb (we_call_wv d__law_next lk__law_busy__law_next (Nat.le_of_ble_eq_true rfl) (wi := 0) va__law_busy_w rfl we_int).wb) wa_nil)) (Nat.le_of_ble_eq_true rfl)) (fun rows_135 =>
      (w_nf (Γ' := [some .drw, some (.val size_), some (.own s114), some (.val a115), some (.own rows_135), some (.val a121), some (.val begin_122)]) rfl (w_nil [true, true, true, true, true, false, false] (r := rows_135) rfl rfl))) ⟨fun _ => rfl, fun _ => rfl, rfl, fun _ => rfl, fun _ => rfl, fun _ => rfl⟩)))))
      (fun s120 =>
    (w_dput (i := 2) va__law_busy_found rfl (we_c1T (blt_tuple lk__law_busy_tuple hb_tuple) tuple_ok (wb_own (i := 4) va__law_busy_rows rfl)) (we_var (i := 3) va__law_busy_name rfl) fun found_139 =>
    (w_nf (Γ' := [some .drw, some (.val size_), some (.own found_139), some (.val a115), some (.own s120), none, none]) rfl (w_nil [true, true, true, false, false, false, false] (r := found_139) rfl rfl)))))))))
    (fun s114 =>
  (w_frz 2 rfl (w_ret (we_var (i := 2) va__law_busy_found rfl))))))))
theorem fd__law_free (h : Has K mg "_law_free" st__law_free) : FnD P w K mg base "_law_free" 1 3 (mf_vvv m__law_free) :=
  fnd_vvv (k := 0) h sc__law_free rfl (by decide) (fun _ _ _ _ _ _ us hl => match us, hl with | [_, _, _], _ => rfl) fun busy_ name_ moment_ =>
  (w_nf (Γ' := [some (.val busy_), some (.val name_), some (.val moment_), none, none]) rfl (w_ret (we_cmp eq_ok (we_lcif (own := [("begin", 3), ("end", 4)]) (wi_seq (wb_get2 (we_var (i := 0) va__law_free_busy rfl).wb (we_var (i := 1) va__law_free_name rfl) (we_tup wa_nil (Nat.le_of_ble_eq_true rfl)) fun _ => ⟨rfl, rfl, rfl, rfl⟩)) (by dsimp only [Sg.blk]; decide +kernel) (wg_tup2 (i := 3) (j := 4) (saL rfl (rel_loc rfl)) (saL rfl (rel_loc rfl))) (by decide) (fun a149 => (wt_nf (Γ' := [some (.val busy_), some (.val name_), some (.val moment_), some (.val a149.1), some (.val a149.2)]) rfl (wt_chain le_ok lt_ok (we_var (i := 3) (vaL rfl (rel_loc rfl) nm_begin) rfl).wb (we_var (i := 2) (vaC rfl (rel_free rfl rfl lk__law_free_moment) nm_moment) rfl).wb (we_var (i := 4) (vaL rfl (rel_loc rfl) nm_end) rfl).wb rfl))) (fun a149 => (we_nf (Γ' := [some (.val busy_), some (.val name_), some (.val moment_), some (.val a149.1), some (.val a149.2)]) rfl we_int))).wb (we_lst wa_nil (Nat.le_of_ble_eq_true rfl)).wb rfl)))
theorem fd__law_all (h : Has K mg "_law_all" st__law_all) (hb_range : mg "range" = none) (d__law_free : FnD P w K mg base "_law_free" 1 3 (mf_vvv m__law_free)) : FnD P w K mg base "_law_all" 2 3 (mf_vvv m__law_all) :=
  fnd_vvv (k := 1) h sc__law_all rfl (by decide) (fun _ _ _ _ _ _ us hl => match us, hl with | [_, _, _], _ => rfl) fun busy_ people_ size_ =>
  (w_nf (Γ' := [some (.val busy_), some (.val people_), some (.val size_), none, none, none, none, none]) rfl (w_swp3 (oa := false) (ob := false) (oc := false) (i := 4) (j := 5) (l := 6) sa__law_all_good sa__law_all_found sa__law_all_now (by decide) (by decide) (by decide) lk__law_all_good lk__law_all_found lk__law_all_now (we_lcif (own := [("k", 3)]) (wi_range1 (blt_range lk__law_all_range hb_range) (we_var (i := 2) va__law_all_size rfl).wb) (by dsimp only [Sg.blk]; decide +kernel) (wg_name (i := 3) (saC rfl (rel_cell rfl) rfl)) (by decide) (fun a166 => (wt_nf (Γ' := [some (.val busy_), some (.val people_), some (.val size_), some (.val a166), none, none, none, none]) rfl (wt_cmp eq_ok (we_lcif (own := [("name", 7)]) (wi_seq (we_var (i := 1) (vaC rfl (rel_free rfl rfl lk__law_all_people) nm_people) rfl)) (by dsimp only [Sg.blk]; decide +kernel) (wg_name (i := 7) (saL rfl (rel_loc rfl))) (by decide) (fun a171 => (wt_nf (Γ' := [some (.val busy_), some (.val people_), some (.val size_), some (.val a166), none, none, none, some (.val a171)]) rfl (wt_not (wt_truth (we_call_vvv d__law_free (rel_glob rfl) (Nat.le_of_ble_eq_true rfl) (we_var (i := 0) (vaC rfl (rel_free rfl rfl (rel_free rfl rfl lk__law_all_busy)) nm_busy) rfl) (we_var (i := 7) (vaL rfl (rel_loc rfl) nm_name) rfl) (we_var (i := 3) (vaC rfl (rel_free rfl rfl (rel_cell rfl)) nm_k) rfl)).wb)))) (fun a171 => (we_nf (Γ' := [some (.val busy_), some (.val people_), some (.val size_), some (.val a166), none, none, none, some (.val a171)]) rfl (we_var (i := 7) (vaL rfl (rel_loc rfl) nm_name) rfl)))).wb (we_lst wa_nil (Nat.le_of_ble_eq_true rfl)).wb rfl))) (fun a166 => (we_nf (Γ' := [some (.val busy_), some (.val people_), some (.val size_), some (.val a166), none, none, none, none]) rfl (we_var (i := 3) (vaC rfl (rel_cell rfl) nm_k) rfl)))) (we_lst wa_nil (Nat.le_of_ble_eq_true rfl)) we_non rfl fun good_189 found_190 now_191 =>
  (w_nf (Γ' := [some (.val busy_), some (.val people_), some (.val size_), none, some (.val good_189), some (.val found_190), some (.val now_191), none]) rfl (w_for (σt := D × D) (fun (s196 : D × D) => [some (.val busy_), some (.val people_), some (.val size_), none, some (.val good_189), some (.val s196.1), some (.val s196.2), none]) (found_190, now_191) [true, true, true, false, true, true, true, false] (wi_range1 (blt_range lk__law_all_range hb_range) (we_op add_ok (we_var (i := 2) va__law_all_size rfl).wb we_int.wb).wb) (wg_name (i := 3) sa__law_all_k) rfl rfl
    (fun s196 a197 =>
    (w_nf (Γ' := [some (.val busy_), some (.val people_), some (.val size_), some (.val a197), some (.val good_189), some (.val s196.1), some (.val s196.2), none]) rfl (w_ifJ (g := (fun (s207 : D) => [some (.val busy_), some (.val people_), some (.val size_), some (.val a197), some (.val good_189), some (.val s196.1), some (.val s207), none])) (wt_ww (ww_and (wt_cmp in_ok (we_var (i := 3) va__law_all_k rfl).wb (we_var (i := 4) va__law_all_good rfl).wb rfl) (ww_and1 (wt_cmp is_ok (we_var (i := 6) va__law_all_now rfl).wb we_non.wb rfl))))
      (w_set (i := 6) sa__law_all_now (we_var (i := 3) va__law_all_k rfl) fun now_206 =>
      (w_nf (Γ' := [some (.val busy_), some (.val people_), some (.val size_), some (.val a197), some (.val good_189), some (.val s196.1), some (.val now_206), none]) rfl (w_nil [true, true, true, true, true, true, true, false] (r := now_206) rfl rfl)))
      (w_nil [true, true, true, true, true, true, true, false] (r := s196.2) rfl rfl)
      (fun s207 =>
    (w_ifJ (g := (fun (s228 : D × D) => [some (.val busy_), some (.val people_), some (.val size_), some (.val a197), some (.val good_189), some (.val s228.1), some (.val s228.2), none])) (wt_ww (ww_and (wt_cmp nin_ok (we_var (i := 3) va__law_all_k rfl).wb (we_var (i := 4) va__law_all_good rfl).wb rfl) (ww_and1 (wt_cmp isn_ok (we_var (i := 6) va__law_all_now rfl).wb we_non.wb rfl))))
      (w_swp2 (oa := false) (ob := false) (i := 5) (j := 6) sa__law_all_found sa__law_all_now (by decide) lk__law_all_found lk__law_all_now (we_op add_ok (we_var (i := 5) va__law_all_found rfl).wb (we_lst (wa_cons (we_tup (wa_cons (we_var (i := 6) va__law_all_now rfl) (wa_cons (we_var (i := 3) va__law_all_k rfl) wa_nil)) (Nat.le_of_ble_eq_true rfl)) wa_nil) (Nat.le_of_ble_eq_true rfl)).wb) we_non rfl fun found_226 now_227 =>
      (w_nf (Γ' := [some (.val busy_), some (.val people_), some (.val size_), some (.val a197), some (.val good_189), some (.val found_226), some (.val now_227), none]) rfl (w_nil [true, true, true, true, true, true, true, false] (r := (found_226, now_227)) rfl rfl)))
      (w_nil [true, true, true, true, true, true, true, false] (r := (s196.1, s207)) rfl rfl)
      (fun s228 =>
    (w_nil [true, true, true, false, true, true, true, false] (r := (s228.1, s228.2)) rfl rfl)))))))
    (fun s196 =>
  (w_ret (we_var (i := 5) va__law_all_found rfl)))))))
theorem fd__law_same (h : Has K mg "_law_same" st__law_same) (hb_bool : mg "bool" = none) (hb_int : mg "int" = none) (hb_isinstance : mg "isinstance" = none) (hb_len : mg "len" = none) (hb_range : mg "range" = none) (hb_str : mg "str" = none) (hb_tuple : mg "tuple" = none) : ∀ n_ : Nat, FnD P w K mg base "_law_same" (1 + n_) 2 (mf_vv (m__law_same n_))
  | 0 => fnd_vv (k := 0) h sc__law_same rfl (by decide) (fun _ _ _ _ _ _ us hl => match us, hl with | [_, _], _ => rfl) fun _ _ => wfail rfl
  | n_ + 1 => have d__law_same := fd__law_same h hb_bool hb_int hb_isinstance hb_len hb_range hb_str hb_tuple n_
  fnd_vv (k := 1 + n_) h sc__law_same rfl (by decide) (fun _ _ _ _ _ _ us hl => match us, hl with | [_, _], _ => rfl) fun seen_ due_ =>
  (w_nf (Γ' := [some (.val seen_), some (.val due_), none]) rfl (w_ifR (wt_truth (we_isi (blt_isinstance lk__law_same_isinstance hb_isinstance) (blt_tuple lk__law_same_tuple hb_tuple) (we_var (i := 1) va__law_same_due rfl).wb).wb)
    (w_ifR (wt_ww (ww_or (wt_not (wt_truth (we_isi (blt_isinstance lk__law_same_isinstance hb_isinstance) (blt_tuple lk__law_same_tuple hb_tuple) (we_var (i := 0) va__law_same_seen rfl).wb).wb)) (ww_or1 (wt_cmp ne_ok (we_c1B (blt_len lk__law_same_len hb_len) len_ok (we_var (i := 0) va__law_same_seen rfl).wb).wb (we_c1B (blt_len lk__law_same_len hb_len) len_ok (we_var (i := 1) va__law_same_due rfl).wb).wb rfl))))
      (w_ret we_bl)
    (w_ret (we_cmp eq_ok (we_lcif (own := [("k", 2)]) (wi_range1 (blt_range lk__law_same_range hb_range) (we_c1B (blt_len lk__law_same_len hb_len) len_ok (we_var (i := 1) va__law_same_due rfl).wb).wb) (by dsimp only [Sg.blk]; decide +kernel) (wg_name (i := 2) (saL rfl (rel_loc rfl))) (by decide) (fun a247 => (wt_nf (Γ' := [some (.val seen_), some (.val due_), some (.val a247)]) rfl (wt_not (wt_truth (we_call_vv d__law_same (rel_glob rfl) (by dsimp only [Sg.blk]; omega) (we_ix ix_ok (we_var (i := 0) (vaC rfl (rel_free rfl rfl lk__law_same_seen) nm_seen) rfl).wb (we_var (i := 2) (vaL rfl (rel_loc rfl) nm_k) rfl).wb fun _ _ => rfl) (we_ix ix_ok (we_var (i := 1) (vaC rfl (rel_free rfl rfl lk__law_same_due) nm_due) rfl).wb (we_var (i := 2) (vaL rfl (rel_loc rfl) nm_k) rfl).wb fun _ _ => rfl)).wb)))) (fun a247 => (we_nf (Γ' := [some (.val seen_), some (.val due_), some (.val a247)]) rfl (we_var (i := 2) (vaL rfl (rel_loc rfl) nm_k) rfl)))).wb (we_lst wa_nil (Nat.le_of_ble_eq_true rfl)).wb rfl)))
  (w_ifR (wt_cmp is_ok (we_var (i := 1) va__law_same_due rfl).wb we_non.wb rfl)
    (w_ret (we_cmp is_ok (we_var (i := 0) va__law_same_seen rfl).wb we_non.wb rfl))
  (w_ifR (wt_truth (we_isi (blt_isinstance lk__law_same_isinstance hb_isinstance) (blt_str lk__law_same_str hb_str) (we_var (i := 1) va__law_same_due rfl).wb).wb)
    (w_ret (we_and (we_isi (blt_isinstance lk__law_same_isinstance hb_isinstance) (blt_str lk__law_same_str hb_str) (we_var (i := 0) va__law_same_seen rfl).wb) (we_one (we_cmp eq_ok (we_var (i := 0) va__law_same_seen rfl).wb (we_var (i := 1) va__law_same_due rfl).wb rfl))))
  (w_ret (we_and (we_isi (blt_isinstance lk__law_same_isinstance hb_isinstance) (blt_int lk__law_same_int hb_int) (we_var (i := 0) va__law_same_seen rfl).wb) (we_and (we_cmp eq_ok (we_isi (blt_isinstance lk__law_same_isinstance hb_isinstance) (blt_bool lk__law_same_bool hb_bool) (we_var (i := 0) va__law_same_seen rfl).wb).wb (we_isi (blt_isinstance lk__law_same_isinstance hb_isinstance) (blt_bool lk__law_same_bool hb_bool) (we_var (i := 1) va__law_same_due rfl).wb).wb rfl) (we_one (we_cmp eq_ok (we_var (i := 0) va__law_same_seen rfl).wb (we_var (i := 1) va__law_same_due rfl).wb rfl)))))))))
theorem fd__law_can (h : Has K mg "_law_can" st__law_can) (hb_range : mg "range" = none) (hb_sorted : mg "sorted" = none) (d__law_free : FnD P w K mg base "_law_free" 1 3 (mf_vvv m__law_free)) : FnD P w K mg base "_law_can" 2 3 (mf_vvv m__law_can) :=
  fnd_vvv (k := 1) h sc__law_can rfl (by decide) (fun _ _ _ _ _ _ us hl => match us, hl with | [_, _, _], _ => rfl) fun busy_ begin_ end_ =>
  (w_nf (Γ' := [some (.val busy_), some (.val begin_), some (.val end_), none, none]) rfl (w_ret (we_lcif (own := [("name", 3)]) (wi_seq (we_c1B (blt_sorted lk__law_can_sorted hb_sorted) sorted_ok (we_var (i := 0) va__law_can_busy rfl).wb)) (by dsimp only [Sg.blk]; decide +kernel) (wg_name (i := 3) (saC rfl (rel_cell rfl) rfl)) (by decide) (fun a291 => (wt_nf (Γ' := [some (.val busy_), some (.val begin_), some (.val end_), some (.val a291), none]) rfl (wt_cmp eq_ok (we_lcif (own := [("k", 4)]) (wi_range2 (blt_range (rel_glob rfl) hb_range) (we_var (i := 1) (vaC rfl (rel_free rfl rfl lk__law_can_begin) nm_begin) rfl).wb (we_var (i := 2) (vaC rfl (rel_free rfl rfl lk__law_can_end) nm_end) rfl).wb) (by dsimp only [Sg.blk]; decide +kernel) (wg_name (i := 4) (saL rfl (rel_loc rfl))) (by decide) (fun a299 => (wt_nf (Γ' := [some (.val busy_), some (.val begin_), some (.val end_), some (.val a291), some (.val a299)]) rfl (wt_not (wt_truth (we_call_vvv d__law_free (rel_glob rfl) (Nat.le_of_ble_eq_true rfl) (we_var (i := 0) (vaC rfl (rel_free rfl rfl (rel_free rfl rfl lk__law_can_busy)) nm_busy) rfl) (we_var (i := 3) (vaC rfl (rel_free rfl rfl (rel_cell rfl)) nm_name) rfl) (we_var (i := 4) (vaL rfl (rel_loc rfl) nm_k) rfl)).wb)))) (fun a299 => (we_nf (Γ' := [some (.val busy_), some (.val begin_), some (.val end_), some (.val a291), some (.val a299)]) rfl (we_var (i := 4) (vaL rfl (rel_loc rfl) nm_k) rfl)))).wb (we_lst wa_nil (Nat.le_of_ble_eq_true rfl)).wb rfl))) (fun a291 => (we_nf (Γ' := [some (.val busy_), some (.val begin_), some (.val end_), some (.val a291), none]) rfl (we_var (i := 3) (vaC rfl (rel_cell rfl) nm_name) rfl))))))
theorem fd__law_first (h : Has K mg "_law_first" st__law_first) (d__law_all : FnD P w K mg base "_law_all" 2 3 (mf_vvv m__law_all)) : FnD P w K mg base "_law_first" 3 4 (mf_vvvv m__law_first) :=
  fnd_vvvv (k := 2) h sc__law_first rfl (by decide) (fun _ _ _ _ _ _ us hl => match us, hl with | [_, _, _, _], _ => rfl) fun busy_ people_ long_ size_ =>
  (w_nf (Γ' := [some (.val busy_), some (.val people_), some (.val long_), some (.val size_), none, none, none]) rfl (w_setLcif (i := 4) sa__law_first_able ⟨rfl, lk__law_first_able, by decide +kernel⟩ (own := [("begin", 5), ("end", 6)]) (wi_seq (we_call_vvv d__law_all lk__law_first__law_all (Nat.le_of_ble_eq_true rfl) (we_var (i := 0) va__law_first_busy rfl) (we_var (i := 1) va__law_first_people rfl) (we_var (i := 3) va__law_first_size rfl))) (by dsimp only [Sg.blk]; decide +kernel) (wg_tup2 (i := 5) (j := 6) (saL rfl (rel_loc rfl)) (saL rfl (rel_loc rfl))) (by decide) (fun a321 => (wt_nf (Γ' := [some (.val busy_), some (.val people_), some (.val long_), some (.val size_), none, some (.val a321.1), some (.val a321.2)]) rfl (wt_cmp ge_ok (we_op sub_ok (we_var (i := 6) (vaL rfl (rel_loc rfl) nm_end) rfl).wb (we_var (i := 5) (vaL rfl (rel_loc rfl) nm_begin) rfl).wb).wb (we_var (i := 2) (vaC rfl (rel_free rfl rfl lk__law_first_long) nm_long) rfl).wb rfl))) (fun a321 => (we_nf (Γ' := [some (.val busy_), some (.val people_), some (.val long_), some (.val size_), none, some (.val a321.1), some (.val a321.2)]) rfl (we_var (i := 5) (vaL rfl (rel_loc rfl) nm_begin) rfl))) fun able_316 =>
  (w_nf (Γ' := [some (.val busy_), some (.val people_), some (.val long_), some (.val size_), some (.val able_316), none, none]) rfl (w_ret (we_ife (wt_cmp ne_ok (we_var (i := 4) va__law_first_able rfl).wb (we_lst wa_nil (Nat.le_of_ble_eq_true rfl)).wb rfl) (we_ix ix_ok (we_var (i := 4) va__law_first_able rfl).wb we_int.wb fun _ _ => rfl) we_non)))))
theorem fd_stretches (h : Has K mg "stretches" st_stretches) (hb_tuple : mg "tuple" = none) : FnD P w K mg base "stretches" 1 1 (mf_v m_stretches) :=
  fnd_v (k := 0) h sc_stretches rfl (by decide) (fun _ _ _ _ _ _ us hl => match us, hl with | [_], _ => rfl) fun moments_ =>
  (w_nf (Γ' := [some (.val moments_), none, none]) rfl (w_setF (i := 1) sa_stretches_found wf_nil fun found_339 =>
  (w_nf (Γ' := [some (.val moments_), some (.own found_339), none]) rfl (w_for (σt := D) (fun (s341 : D) => [some (.val moments_), some (.own s341), none]) found_339 [true, true, false] (wi_seq (we_var (i := 0) va_stretches_moments rfl)) (wg_name (i := 2) sa_stretches_moment) rfl rfl
    (fun s341 a342 =>
    (w_nf (Γ' := [some (.val moments_), some (.own s341), some (.val a342)]) rfl (w_ifJ (g := (fun (s382 : D) => [some (.val moments_), some (.own s382), some (.val a342)])) (wt_ww (ww_and (wt_cmp ne_ok (wb_own (i := 1) va_stretches_found rfl) (we_lst wa_nil (Nat.le_of_ble_eq_true rfl)).wb rfl) (ww_and1 (wt_cmp eq_ok (we_ix ix_ok (we_ix ix_ok (wb_own (i := 1) va_stretches_found rfl) (we_un neg_ok we_int.wb).wb fun _ _ => rfl).wb we_int.wb fun _ _ => rfl).wb (we_var (i := 2) va_stretches_moment rfl).wb rfl))))
      (w_lput (i := 1) va_stretches_found rfl (we_tup (wa_cons (we_ix ix_ok (we_ix ix_ok (wb_own (i := 1) va_stretches_found rfl) (we_un neg_ok we_int.wb).wb fun _ _ => rfl).wb we_int.wb fun _ _ => rfl) (wa_cons (we_op add_ok (we_var (i := 2) va_stretches_moment rfl).wb we_int.wb) wa_nil)) (Nat.le_of_ble_eq_true rfl)) (we_un neg_ok we_int.wb) fun found_372 =>
      (w_nf (Γ' := [some (.val moments_), some (.own found_372), some (.val a342)]) rfl (w_nil [true, true, true] (r := found_372) rfl rfl)))
      (w_append (i := 1) va_stretches_found rfl (we_tup (wa_cons (we_var (i := 2) va_stretches_moment rfl) (wa_cons (we_op add_ok (we_var (i := 2) va_stretches_moment rfl).wb we_int.wb) wa_nil)) (Nat.le_of_ble_eq_true rfl)) (fun found_381 =>
      (w_nf (Γ' := [some (.val moments_), some (.own found_381), some (.val a342)]) rfl (w_nil [true, true, true] (r := found_381) rfl rfl))) ⟨fun _ => rfl, fun _ => rfl, rfl, fun _ => rfl, fun _ => rfl, fun _ => rfl⟩)
      (fun s382 =>
    (w_nil [true, true, false] (r := s382) rfl rfl)))))
    (fun s341 =>
  (w_ret (we_c1T (blt_tuple lk_stretches_tuple hb_tuple) tuple_ok (wb_own (i := 1) va_stretches_found rfl))))))))
theorem fd_is_free (h : Has K mg "is_free" st_is_free) (hb_any : mg "any" = none) : FnD P w K mg base "is_free" 1 3 (mf_vvv m_is_free) :=
  fnd_vvv (k := 0) h sc_is_free rfl (by decide) (fun _ _ _ _ _ _ us hl => match us, hl with | [_, _, _], _ => rfl) fun busy_ person_ moment_ =>
  (w_nf (Γ' := [some (.val busy_), some (.val person_), some (.val moment_), none, none]) rfl (w_ret (we_not (we_c1B (blt_any lk_is_free_any hb_any) any_ok (we_lc (own := [("begin", 3), ("end", 4)]) (wi_seq (wb_get2 (we_var (i := 0) va_is_free_busy rfl).wb (we_var (i := 1) va_is_free_person rfl) (we_tup wa_nil (Nat.le_of_ble_eq_true rfl)) fun _ => ⟨rfl, rfl, rfl, rfl⟩)) (by dsimp only [Sg.blk]; decide +kernel) (wg_tup2 (i := 3) (j := 4) (saL rfl (rel_loc rfl)) (saL rfl (rel_loc rfl))) (by decide) (fun a391 => (we_nf (Γ' := [some (.val busy_), some (.val person_), some (.val moment_), some (.val a391.1), some (.val a391.2)]) rfl (we_chain le_ok lt_ok (we_var (i := 3) (vaL rfl (rel_loc rfl) nm_begin) rfl).wb (we_var (i := 2) (vaC rfl (rel_free rfl rfl lk_is_free_moment) nm_moment) rfl).wb (we_var (i := 4) (vaL rfl (rel_loc rfl) nm_end) rfl).wb rfl)))).wb))))
theorem fd_all_free (h : Has K mg "all_free" st_all_free) (hb_all : mg "all" = none) (hb_range : mg "range" = none) (d_stretches : FnD P w K mg base "stretches" 1 1 (mf_v m_stretches)) (d_is_free : FnD P w K mg base "is_free" 1 3 (mf_vvv m_is_free)) : FnD P w K mg base "all_free" 2 3 (mf_vvv m_all_free) :=
  fnd_vvv (k := 1) h sc_all_free rfl (by decide) (fun _ _ _ _ _ _ us hl => match us, hl with | [_, _, _], _ => rfl) fun busy_ people_ size_ =>
  (w_nf (Γ' := [some (.val busy_), some (.val people_), some (.val size_), none, none]) rfl (w_ret (we_call_v d_stretches lk_all_free_stretches (Nat.le_of_ble_eq_true rfl) (we_lcif (own := [("k", 3)]) (wi_range1 (blt_range lk_all_free_range hb_range) (we_var (i := 2) va_all_free_size rfl).wb) (by dsimp only [Sg.blk]; decide +kernel) (wg_name (i := 3) (saC rfl (rel_cell rfl) rfl)) (by decide) (fun a405 => (wt_nf (Γ' := [some (.val busy_), some (.val people_), some (.val size_), some (.val a405), none]) rfl (wt_truth (we_c1B (blt_all (rel_glob rfl) hb_all) all_ok (we_lc (own := [("person", 4)]) (wi_seq (we_var (i := 1) (vaC rfl (rel_free rfl rfl lk_all_free_people) nm_people) rfl)) (by dsimp only [Sg.blk]; decide +kernel) (wg_name (i := 4) (saL rfl (rel_loc rfl))) (by decide) (fun a410 => (we_nf (Γ' := [some (.val busy_), some (.val people_), some (.val size_), some (.val a405), some (.val a410)]) rfl (we_call_vvv d_is_free (rel_glob rfl) (Nat.le_of_ble_eq_true rfl) (we_var (i := 0) (vaC rfl (rel_free rfl rfl (rel_free rfl rfl lk_all_free_busy)) nm_busy) rfl) (we_var (i := 4) (vaL rfl (rel_loc rfl) nm_person) rfl) (we_var (i := 3) (vaC rfl (rel_free rfl rfl (rel_cell rfl)) nm_k) rfl))))).wb).wb))) (fun a405 => (we_nf (Γ' := [some (.val busy_), some (.val people_), some (.val size_), some (.val a405), none]) rfl (we_var (i := 3) (vaC rfl (rel_cell rfl) nm_k) rfl)))))))
theorem fd_longest_free (h : Has K mg "longest_free" st_longest_free) (hb_min : mg "min" = none) (d_all_free : FnD P w K mg base "all_free" 2 3 (mf_vvv m_all_free)) : FnD P w K mg base "longest_free" 3 3 (mf_vvv m_longest_free) :=
  fnd_vvv (k := 2) h sc_longest_free rfl (by decide) (fun _ _ _ _ _ _ us hl => match us, hl with | [_, _, _], _ => rfl) fun busy_ people_ size_ =>
  (w_nf (Γ' := [some (.val busy_), some (.val people_), some (.val size_), none, none, none]) rfl (w_setLc (i := 3) sa_longest_free_rows ⟨rfl, lk_longest_free_rows, by decide +kernel⟩ (own := [("begin", 4), ("end", 5)]) (wi_seq (we_call_vvv d_all_free lk_longest_free_all_free (Nat.le_of_ble_eq_true rfl) (we_var (i := 0) va_longest_free_busy rfl) (we_var (i := 1) va_longest_free_people rfl) (we_var (i := 2) va_longest_free_size rfl))) (by dsimp only [Sg.blk]; decide +kernel) (wg_tup2 (i := 4) (j := 5) (saL rfl (rel_loc rfl)) (saL rfl (rel_loc rfl))) (by decide) (fun a427 => (we_nf (Γ' := [some (.val busy_), some (.val people_), some (.val size_), none, some (.val a427.1), some (.val a427.2)]) rfl (we_tup (wa_cons (we_op sub_ok (we_var (i := 4) (vaL rfl (rel_loc rfl) nm_begin) rfl).wb (we_var (i := 5) (vaL rfl (rel_loc rfl) nm_end) rfl).wb) (wa_cons (we_var (i := 4) (vaL rfl (rel_loc rfl) nm_begin) rfl) wa_nil)) (Nat.le_of_ble_eq_true rfl)))) fun rows_422 =>
  (w_nf (Γ' := [some (.val busy_), some (.val people_), some (.val size_), some (.val rows_422), none, none]) rfl (w_ret (we_ife (wt_cmp ne_ok (we_var (i := 3) va_longest_free_rows rfl).wb (we_lst wa_nil (Nat.le_of_ble_eq_true rfl)).wb rfl) (we_tup (wa_cons (we_un neg_ok (we_ix ix_ok (we_c1B (blt_min lk_longest_free_min hb_min) min1_ok (we_var (i := 3) va_longest_free_rows rfl).wb).wb we_int.wb fun _ _ => rfl).wb) (wa_cons (we_ix ix_ok (we_c1B (blt_min lk_longest_free_min hb_min) min1_ok (we_var (i := 3) va_longest_free_rows rfl).wb).wb we_int.wb fun _ _ => rfl) wa_nil)) (Nat.le_of_ble_eq_true rfl)) (we_tup (wa_cons we_int (wa_cons we_int wa_nil)) (Nat.le_of_ble_eq_true rfl)))))))
theorem fd_who_can (h : Has K mg "who_can" st_who_can) (hb_all : mg "all" = none) (hb_range : mg "range" = none) (hb_sorted : mg "sorted" = none) (hb_tuple : mg "tuple" = none) (d_is_free : FnD P w K mg base "is_free" 1 3 (mf_vvv m_is_free)) : FnD P w K mg base "who_can" 2 3 (mf_vvv m_who_can) :=
  fnd_vvv (k := 1) h sc_who_can rfl (by decide) (fun _ _ _ _ _ _ us hl => match us, hl with | [_, _, _], _ => rfl) fun busy_ begin_ end_ =>
  (w_nf (Γ' := [some (.val busy_), some (.val begin_), some (.val end_), none, none]) rfl (w_ret (we_c1T (blt_tuple lk_who_can_tuple hb_tuple) tuple_ok (we_lcif (own := [("person", 3)]) (wi_seq (we_c1B (blt_sorted lk_who_can_sorted hb_sorted) sorted_ok (we_var (i := 0) va_who_can_busy rfl).wb)) (by dsimp only [Sg.blk]; decide +kernel) (wg_name (i := 3) (saC rfl (rel_cell rfl) rfl)) (by decide) (fun a462 => (wt_nf (Γ' := [some (.val busy_), some (.val begin_), some (.val end_), some (.val a462), none]) rfl (wt_truth (we_c1B (blt_all (rel_glob rfl) hb_all) all_ok (we_lc (own := [("k", 4)]) (wi_range2 (blt_range (rel_glob rfl) hb_range) (we_var (i := 1) (vaC rfl (rel_free rfl rfl lk_who_can_begin) nm_begin) rfl).wb (we_var (i := 2) (vaC rfl (rel_free rfl rfl lk_who_can_end) nm_end) rfl).wb) (by dsimp only [Sg.blk]; decide +kernel) (wg_name (i := 4) (saL rfl (rel_loc rfl))) (by decide) (fun a470 => (we_nf (Γ' := [some (.val busy_), some (.val begin_), some (.val end_), some (.val a462), some (.val a470)]) rfl (we_call_vvv d_is_free (rel_glob rfl) (Nat.le_of_ble_eq_true rfl) (we_var (i := 0) (vaC rfl (rel_free rfl rfl (rel_free rfl rfl lk_who_can_busy)) nm_busy) rfl) (we_var (i := 3) (vaC rfl (rel_free rfl rfl (rel_cell rfl)) nm_person) rfl) (we_var (i := 4) (vaL rfl (rel_loc rfl) nm_k) rfl))))).wb).wb))) (fun a462 => (we_nf (Γ' := [some (.val busy_), some (.val begin_), some (.val end_), some (.val a462), none]) rfl (we_var (i := 3) (vaC rfl (rel_cell rfl) nm_person) rfl)))).wb)))
theorem fd_fewest_moved (h : Has K mg "fewest_moved" st_fewest_moved) (hb_len : mg "len" = none) : FnD P w K mg base "fewest_moved" 1 4 (mf_vvvv m_fewest_moved) :=
  fnd_vvvv (k := 0) h sc_fewest_moved rfl (by decide) (fun _ _ _ _ _ _ us hl => match us, hl with | [_, _, _, _], _ => rfl) fun busy_ people_ begin_ end_ =>
  (w_nf (Γ' := [some (.val busy_), some (.val people_), some (.val begin_), some (.val end_), none, none, none, none, none]) rfl (w_setLc2 (i := 4) sa_fewest_moved_rows ⟨rfl, lk_fewest_moved_rows, by decide +kernel⟩ (own := [("person", 5), ("own", 6)]) (vs1 := [6]) (wi_seq (we_var (i := 1) va_fewest_moved_people rfl)) (by dsimp only [Sg.blk]; decide +kernel) (wg_name (i := 5) (saL rfl (rel_loc rfl))) (by decide) (fun a484 => wts_nil) (fun a484 => (wi_nf (Γ' := [some (.val busy_), some (.val people_), some (.val begin_), some (.val end_), none, some (.val a484), none, none, none]) rfl (wi_seq (wb_get2 (we_var (i := 0) (vaC rfl (rel_free rfl rfl lk_fewest_moved_busy) nm_busy) rfl).wb (we_var (i := 5) (vaL rfl (rel_loc rfl) nm_person) rfl) (we_tup wa_nil (Nat.le_of_ble_eq_true rfl)) fun _ => ⟨rfl, rfl, rfl, rfl⟩)))) (wg_name (i := 6) (saL rfl (rel_loc rfl))) (by decide) (by decide) (fun a484 a490 => wts_nil) (fun a484 a490 => (we_nf (Γ' := [some (.val busy_), some (.val people_), some (.val begin_), some (.val end_), none, some (.val a484), some (.val a490), none, none]) rfl (we_var (i := 6) (vaL rfl (rel_loc rfl) nm_own) rfl))) fun rows_482 =>
  (w_nf (Γ' := [some (.val busy_), some (.val people_), some (.val begin_), some (.val end_), some (.val rows_482), none, none, none, none]) rfl (w_ret (we_c1B (blt_len lk_fewest_moved_len hb_len) len_ok (we_lcif (own := [("first", 7), ("last", 8)]) (wi_seq (we_var (i := 4) va_fewest_moved_rows rfl)) (by dsimp only [Sg.blk]; decide +kernel) (wg_tup2 (i := 7) (j := 8) (saL rfl (rel_loc rfl)) (saL rfl (rel_loc rfl))) (by decide) (fun a502 => (wt_nf (Γ' := [some (.val busy_), some (.val people_), some (.val begin_), some (.val end_), some (.val rows_482), none, none, some (.val a502.1), some (.val a502.2)]) rfl (wt_ww (ww_and (wt_cmp lt_ok (we_var (i := 7) (vaL rfl (rel_loc rfl) nm_first) rfl).wb (we_var (i := 3) (vaC rfl (rel_free rfl rfl lk_fewest_moved_end) nm_end) rfl).wb rfl) (ww_and1 (wt_cmp lt_ok (we_var (i := 2) (vaC rfl (rel_free rfl rfl lk_fewest_moved_begin) nm_begin) rfl).wb (we_var (i := 8) (vaL rfl (rel_loc rfl) nm_last) rfl).wb rfl)))))) (fun a502 => (we_nf (Γ' := [some (.val busy_), some (.val people_), some (.val begin_), some (.val end_), some (.val rows_482), none, none, some (.val a502.1), some (.val a502.2)]) rfl we_int))).wb)))))
theorem fd_best_meeting (h : Has K mg "best_meeting" st_best_meeting) (hb_len : mg "len" = none) (hb_min : mg "min" = none) (hb_range : mg "range" = none) (d_who_can : FnD P w K mg base "who_can" 2 3 (mf_vvv m_who_can)) : FnD P w K mg base "best_meeting" 3 3 (mf_vvv m_best_meeting) :=
  fnd_vvv (k := 2) h sc_best_meeting rfl (by decide) (fun _ _ _ _ _ _ us hl => match us, hl with | [_, _, _], _ => rfl) fun busy_ long_ size_ =>
  (w_nf (Γ' := [some (.val busy_), some (.val long_), some (.val size_), none, none]) rfl (w_setLc (i := 3) sa_best_meeting_rows ⟨rfl, lk_best_meeting_rows, by decide +kernel⟩ (own := [("begin", 4)]) (wi_range1 (blt_range lk_best_meeting_range hb_range) (we_op add_ok (we_op sub_ok (we_var (i := 2) va_best_meeting_size rfl).wb (we_var (i := 1) va_best_meeting_long rfl).wb).wb we_int.wb).wb) (by dsimp only [Sg.blk]; decide +kernel) (wg_name (i := 4) (saL rfl (rel_loc rfl))) (by decide) (fun a523 => (we_nf (Γ' := [some (.val busy_), some (.val long_), some (.val size_), none, some (.val a523)]) rfl (we_tup (wa_cons (we_un neg_ok (we_c1B (blt_len (rel_glob rfl) hb_len) len_ok (we_call_vvv d_who_can (rel_glob rfl) (Nat.le_of_ble_eq_true rfl) (we_var (i := 0) (vaC rfl (rel_free rfl rfl lk_best_meeting_busy) nm_busy) rfl) (we_var (i := 4) (vaL rfl (rel_loc rfl) nm_begin) rfl) (we_op add_ok (we_var (i := 4) (vaL rfl (rel_loc rfl) nm_begin) rfl).wb (we_var (i := 1) (vaC rfl (rel_free rfl rfl lk_best_meeting_long) nm_long) rfl).wb)).wb).wb) (wa_cons (we_var (i := 4) (vaL rfl (rel_loc rfl) nm_begin) rfl) wa_nil)) (Nat.le_of_ble_eq_true rfl)))) fun rows_516 =>
  (w_nf (Γ' := [some (.val busy_), some (.val long_), some (.val size_), some (.val rows_516), none]) rfl (w_ret (we_ife (wt_cmp ne_ok (we_var (i := 3) va_best_meeting_rows rfl).wb (we_lst wa_nil (Nat.le_of_ble_eq_true rfl)).wb rfl) (we_tup (wa_cons (we_un neg_ok (we_ix ix_ok (we_c1B (blt_min lk_best_meeting_min hb_min) min1_ok (we_var (i := 3) va_best_meeting_rows rfl).wb).wb we_int.wb fun _ _ => rfl).wb) (wa_cons (we_ix ix_ok (we_c1B (blt_min lk_best_meeting_min hb_min) min1_ok (we_var (i := 3) va_best_meeting_rows rfl).wb).wb we_int.wb fun _ _ => rfl) wa_nil)) (Nat.le_of_ble_eq_true rfl)) we_non)))))
theorem fd_with_must (h : Has K mg "with_must" st_with_must) (hb_all : mg "all" = none) (hb_len : mg "len" = none) (hb_min : mg "min" = none) (hb_range : mg "range" = none) (d_who_can : FnD P w K mg base "who_can" 2 3 (mf_vvv m_who_can)) : FnD P w K mg base "with_must" 3 5 (mf_vvvvv m_with_must) :=
  fnd_vvvvv (k := 2) h sc_with_must rfl (by decide) (fun _ _ _ _ _ _ us hl => match us, hl with | [_, _, _, _, _], _ => rfl) fun busy_ must_ may_ long_ size_ =>
  (w_nf (Γ' := [some (.val busy_), some (.val must_), some (.val may_), some (.val long_), some (.val size_), none, none, none, none]) rfl (w_setF (i := 5) sa_with_must_rows wf_nil fun rows_556 =>
  (w_nf (Γ' := [some (.val busy_), some (.val must_), some (.val may_), some (.val long_), some (.val size_), some (.own rows_556), none, none, none]) rfl (w_for (σt := D) (fun (s563 : D) => [some (.val busy_), some (.val must_), some (.val may_), some (.val long_), some (.val size_), some (.own s563), none, none, none]) rows_556 [true, true, true, true, true, true, false, false, false] (wi_range1 (blt_range lk_with_must_range hb_range) (we_op add_ok (we_op sub_ok (we_var (i := 4) va_with_must_size rfl).wb (we_var (i := 3) va_with_must_long rfl).wb).wb we_int.wb).wb) (wg_name (i := 6) sa_with_must_begin) rfl rfl
    (fun s563 a564 =>
    (w_nf (Γ' := [some (.val busy_), some (.val must_), some (.val may_), some (.val long_), some (.val size_), some (.own s563), some (.val a564), none, none]) rfl (w_set (i := 7) sa_with_must_able (we_call_vvv d_who_can lk_with_must_who_can (Nat.le_of_ble_eq_true rfl) (we_var (i := 0) va_with_must_busy rfl) (we_var (i := 6) va_with_must_begin rfl) (we_op add_ok (we_var (i := 6) va_with_must_begin rfl).wb (we_var (i := 3) va_with_must_long rfl).wb)) fun able_565 =>
    (w_nf (Γ' := [some (.val busy_), some (.val must_), some (.val may_), some (.val long_), some (.val size_), some (.own s563), some (.val a564), some (.val able_565), none]) rfl (w_ifJ (g := (fun (s600 : D) => [some (.val busy_), some (.val must_), some (.val may_), some (.val long_), some (.val size_), some (.own s600), some (.val a564), some (.val able_565), none])) (wt_truth (we_c1B (blt_all lk_with_must_all hb_all) all_ok (we_lc (own := [("person", 8)]) (wi_seq (we_var (i := 1) va_with_must_must rfl)) (by dsimp only [Sg.blk]; decide +kernel) (wg_name (i := 8) (saL rfl (rel_loc rfl))) (by decide) (fun a572 => (we_nf (Γ' := [some (.val busy_), some (.val must_), some (.val may_), some (.val long_), some (.val size_), some (.own s563), some (.val a564), some (.val able_565), some (.val a572)]) rfl (we_cmp in_ok (we_var (i := 8) (vaL rfl (rel_loc rfl) nm_person) rfl).wb (we_var (i := 7) (vaC rfl (rel_free rfl rfl lk_with_must_able) nm_able) rfl).wb rfl)))).wb).wb)
      (w_append (i := 5) va_with_must_rows rfl (we_tup (wa_cons (we_un neg_ok (we_c1B (blt_len lk_with_must_len hb_len) len_ok (we_lcif (own := [("person", 8)]) (wi_seq (we_var (i := 2) va_with_must_may rfl)) (by dsimp only [Sg.blk]; decide +kernel) (wg_name (i := 8) (saL rfl (rel_loc rfl))) (by decide) (fun a582 => (wt_nf (Γ' := [some (.val busy_), some (.val must_), some (.val may_), some (.val long_), some (.val size_), some (.own s563), some (.val a564), some (.val able_565), some (.val a582)]) rfl (wt_cmp in_ok (we_var (i := 8) (vaL rfl (rel_loc rfl) nm_person) rfl).wb (we_var (i := 7) (vaC rfl (rel_free rfl rfl lk_with_must_able) nm_able) rfl).wb rfl))) (fun a582 => (we_nf (Γ' := [some (.val busy_), some (.val must_), some (.val may_), some (.val long_), some (.val size_), some (.own s563), some (.val a564), some (.val able_565), some (.val a582)]) rfl (we_var (i := 8) (vaL rfl (rel_loc rfl) nm_person) rfl)))).wb).wb) (wa_cons (we_var (i := 6) va_with_must_begin rfl) wa_nil)) (Nat.le_of_ble_eq_true rfl)) (fun rows_599 =>
      (w_nf (Γ' := [some (.val busy_), some (.val must_), some (.val may_), some (.val long_), some (.val size_), some (.own rows_599), some (.val a564), some (.val able_565), none]) rfl (w_nil [true, true, true, true, true, true, true, true, false] (r := rows_599) rfl rfl))) ⟨fun _ => rfl, fun _ => rfl, rfl, fun _ => rfl, fun _ => rfl, fun _ => rfl⟩)
      (w_nil [true, true, true, true, true, true, true, true, false] (r := s563) rfl rfl)
      (fun s600 =>
    (w_nil [true, true, true, true, true, true, false, false, false] (r := s600) rfl rfl)))))))
    (fun s563 =>
  (w_ret (we_ife (wt_cmp ne_ok (wb_own (i := 5) va_with_must_rows rfl) (we_lst wa_nil (Nat.le_of_ble_eq_true rfl)).wb rfl) (we_tup (wa_cons (we_un neg_ok (we_ix ix_ok (we_c1B (blt_min lk_with_must_min hb_min) min1_ok (wb_own (i := 5) va_with_must_rows rfl)).wb we_int.wb fun _ _ => rfl).wb) (wa_cons (we_ix ix_ok (we_c1B (blt_min lk_with_must_min hb_min) min1_ok (wb_own (i := 5) va_with_must_rows rfl)).wb we_int.wb fun _ _ => rfl) wa_nil)) (Nat.le_of_ble_eq_true rfl)) we_non)))))))
theorem fd_first_meeting (h : Has K mg "first_meeting" st_first_meeting) (d_all_free : FnD P w K mg base "all_free" 2 3 (mf_vvv m_all_free)) : FnD P w K mg base "first_meeting" 3 4 (mf_vvvv m_first_meeting) :=
  fnd_vvvv (k := 2) h sc_first_meeting rfl (by decide) (fun _ _ _ _ _ _ us hl => match us, hl with | [_, _, _, _], _ => rfl) fun busy_ people_ long_ size_ =>
  (w_nf (Γ' := [some (.val busy_), some (.val people_), some (.val long_), some (.val size_), none, none, none]) rfl (w_setLcif (i := 4) sa_first_meeting_able ⟨rfl, lk_first_meeting_able, by decide +kernel⟩ (own := [("begin", 5), ("end", 6)]) (wi_seq (we_call_vvv d_all_free lk_first_meeting_all_free (Nat.le_of_ble_eq_true rfl) (we_var (i := 0) va_first_meeting_busy rfl) (we_var (i := 1) va_first_meeting_people rfl) (we_var (i := 3) va_first_meeting_size rfl))) (by dsimp only [Sg.blk]; decide +kernel) (wg_tup2 (i := 5) (j := 6) (saL rfl (rel_loc rfl)) (saL rfl (rel_loc rfl))) (by decide) (fun a625 => (wt_nf (Γ' := [some (.val busy_), some (.val people_), some (.val long_), some (.val size_), none, some (.val a625.1), some (.val a625.2)]) rfl (wt_cmp ge_ok (we_op sub_ok (we_var (i := 6) (vaL rfl (rel_loc rfl) nm_end) rfl).wb (we_var (i := 5) (vaL rfl (rel_loc rfl) nm_begin) rfl).wb).wb (we_var (i := 2) (vaC rfl (rel_free rfl rfl lk_first_meeting_long) nm_long) rfl).wb rfl))) (fun a625 => (we_nf (Γ' := [some (.val busy_), some (.val people_), some (.val long_), some (.val size_), none, some (.val a625.1), some (.val a625.2)]) rfl (we_var (i := 5) (vaL rfl (rel_loc rfl) nm_begin) rfl))) fun able_620 =>
  (w_nf (Γ' := [some (.val busy_), some (.val people_), some (.val long_), some (.val size_), some (.val able_620), none, none]) rfl (w_ret (we_ife (wt_cmp ne_ok (we_var (i := 4) va_first_meeting_able rfl).wb (we_lst wa_nil (Nat.le_of_ble_eq_true rfl)).wb rfl) (we_ix ix_ok (we_var (i := 4) va_first_meeting_able rfl).wb we_int.wb fun _ _ => rfl) we_non)))))
theorem fd_meetings_row (h : Has K mg "meetings_row" st_meetings_row) (hb_dict : mg "dict" = none) (hb_tuple : mg "tuple" = none) (d_first_meeting : FnD P w K mg base "first_meeting" 3 4 (mf_vvvv m_first_meeting)) : FnD P w K mg base "meetings_row" 4 3 (mf_vvv m_meetings_row) :=
  fnd_vvv (k := 3) h sc_meetings_row rfl (by decide) (fun _ _ _ _ _ _ us hl => match us, hl with | [_, _, _], _ => rfl) fun busy_ asks_ size_ =>
  (w_nf (Γ' := [some (.val busy_), some (.val asks_), some (.val size_), none, none, none, none, none, none]) rfl (w_swp2 (oa := true) (ob := true) (i := 4) (j := 5) sa_meetings_row_found sa_meetings_row_now (by decide) lk_meetings_row_found lk_meetings_row_now wf_nil (wf_c1T (blt_dict lk_meetings_row_dict hb_dict) dict2_okF (we_lcK (i := 0) (own := [("person", 3)]) va_meetings_row_busy rfl (by dsimp only [Sg.blk]; decide +kernel) (wg_name (i := 3) (saL rfl (rel_loc rfl))) (by decide) (fun a643 => (we_nf (Γ' := [some (.val busy_), some (.val asks_), some (.val size_), some (.val a643), none, none, none, none, none]) rfl (we_tup (wa_cons (we_var (i := 3) (vaL rfl (rel_loc rfl) nm_person) rfl) (wa_cons (we_c1T (blt_tuple (rel_glob rfl) hb_tuple) tuple_ok (we_ix ix_ok (we_var (i := 0) (vaC rfl (rel_free rfl rfl lk_meetings_row_busy) nm_busy) rfl).wb (we_var (i := 3) (vaL rfl (rel_loc rfl) nm_person) rfl).wb fun _ _ => rfl).wb) wa_nil)) (Nat.le_of_ble_eq_true rfl))))).wb) rfl fun found_656 now_657 =>
  (w_nf (Γ' := [some (.val busy_), some (.val asks_), some (.val size_), none, some (.own found_656), some (.own now_657), none, none, none]) rfl (w_for (σt := D × D) (fun (s659 : D × D) => [some (.val busy_), some (.val asks_), some (.val size_), none, some (.own s659.1), some (.own s659.2), none, none, none]) (found_656, now_657) [true, true, true, false, true, true, false, false, false] (wi_seq (we_var (i := 1) va_meetings_row_asks rfl)) (wg_tup2 (i := 6) (j := 7) sa_meetings_row_people sa_meetings_row_long) rfl rfl
    (fun s659 a660 =>
    (w_nf (Γ' := [some (.val busy_), some (.val asks_), some (.val size_), none, some (.own s659.1), some (.own s659.2), some (.val a660.1), some (.val a660.2), none]) rfl (w_set (i := 8) sa_meetings_row_begin (we_lend (i := 5) (Γ' := [some (.val busy_), some (.val asks_), some (.val size_), none, some (.own s659.1), some (.val s659.2), some (.val a660.1), some (.val a660.2), none]) rfl rfl (we_call_vvvv d_first_meeting lk_meetings_row_first_meeting (Nat.le_of_ble_eq_true rfl) (we_var (i := 5) va_meetings_row_now rfl) (we_var (i := 6) va_meetings_row_people rfl) (we_var (i := 7) va_meetings_row_long rfl) (we_var (i := 2) va_meetings_row_size rfl))) fun begin_661 =>
    (w_nf (Γ' := [some (.val busy_), some (.val asks_), some (.val size_), none, some (.own s659.1), some (.own s659.2), some (.val a660.1), some (.val a660.2), some (.val begin_661)]) rfl (w_ifJ (g := (fun (s695 : D) => [some (.val busy_), some (.val asks_), some (.val size_), none, some (.own s659.1), some (.own s695), some (.val a660.1), some (.val a660.2), some (.val begin_661)])) (wt_cmp isn_ok (we_var (i := 8) va_meetings_row_begin rfl).wb we_non.wb rfl)
      (w_for (σt := D) (fun (s672 : D) => [some (.val busy_), some (.val asks_), some (.val size_), none, some (.own s659.1), some (.own s672), some (.val a660.1), some (.val a660.2), some (.val begin_661)]) s659.2 [true, true, true, false, true, true, true, true, true] (wi_seq (we_var (i := 6) va_meetings_row_people rfl)) (wg_name (i := 3) sa_meetings_row_person) rfl rfl
        (fun s672 a673 =>
        (w_nf (Γ' := [some (.val busy_), some (.val asks_), some (.val size_), some (.val a673), some (.own s659.1), some (.own s672), some (.val a660.1), some (.val a660.2), some (.val begin_661)]) rfl (w_dput (i := 5) va_meetings_row_now rfl (we_op add_ok (wb_get2 (wb_own (i := 5) va_meetings_row_now rfl) (we_var (i := 3) va_meetings_row_person rfl) (we_tup wa_nil (Nat.le_of_ble_eq_true rfl)) fun _ => ⟨rfl, rfl, rfl, rfl⟩).wb (we_tup (wa_cons (we_tup (wa_cons (we_var (i := 8) va_meetings_row_begin rfl) (wa_cons (we_op add_ok (we_var (i := 8) va_meetings_row_begin rfl).wb (we_var (i := 7) va_meetings_row_long rfl).wb) wa_nil)) (Nat.le_of_ble_eq_true rfl)) wa_nil) (Nat.le_of_ble_eq_true rfl)).wb) (we_var (i := 3) va_meetings_row_person rfl) fun now_692 =>
        (w_nf (Γ' := [some (.val busy_), some (.val asks_), some (.val size_), some (.val a673), some (.own s659.1), some (.own now_692), some (.val a660.1), some (.val a660.2), some (.val begin_661)]) rfl (w_nil [true, true, true, false, true, true, true, true, true] (r := now_692) rfl rfl)))))
        (fun s672 =>
      (w_nil [true, true, true, false, true, true, true, true, true] (r := s672) rfl rfl)))
      (w_nil [true, true, true, false, true, true, true, true, true] (r := s659.2) rfl rfl)
      (fun s695 =>
    (w_append (i := 4) va_meetings_row_found rfl (we_var (i := 8) va_meetings_row_begin rfl) (fun found_697 =>
    (w_nf (Γ' := [some (.val busy_), some (.val asks_), some (.val size_), none, some (.own found_697), some (.own s695), some (.val a660.1), some (.val a660.2), some (.val begin_661)]) rfl (w_nil [true, true, true, false, true, true, false, false, false] (r := (found_697, s695)) rfl rfl))) ⟨fun _ => rfl, fun _ => rfl, rfl, fun _ => rfl, fun _ => rfl, fun _ => rfl⟩)))))))
    (fun s659 =>
  (w_ret (we_c1T (blt_tuple lk_meetings_row_tuple hb_tuple) tuple_ok (wb_own (i := 4) va_meetings_row_found rfl))))))))
theorem fd_free_of (h : Has K mg "free_of" st_free_of) (d_all_free : FnD P w K mg base "all_free" 2 3 (mf_vvv m_all_free)) : FnD P w K mg base "free_of" 3 3 (mf_vvv m_free_of) :=
  fnd_vvv (k := 2) h sc_free_of rfl (by decide) (fun _ _ _ _ _ _ us hl => match us, hl with | [_, _, _], _ => rfl) fun busy_ person_ size_ =>
  (w_nf (Γ' := [some (.val busy_), some (.val person_), some (.val size_)]) rfl (w_ret (we_call_vvv d_all_free lk_free_of_all_free (Nat.le_of_ble_eq_true rfl) (we_var (i := 0) va_free_of_busy rfl) (we_tup (wa_cons (we_var (i := 1) va_free_of_person rfl) wa_nil) (Nat.le_of_ble_eq_true rfl)) (we_var (i := 2) va_free_of_size rfl))))
theorem fd_divisor (h : Has K mg "divisor" st_divisor) : FnD P w K mg base "divisor" 1 2 (mf_vv m_divisor) :=
  fnd_vv (k := 0) h sc_divisor rfl (by decide) (fun _ _ _ _ _ _ us hl => match us, hl with | [_, _], _ => rfl) fun a_ b_ =>
  (w_nf (Γ' := [some (.val a_), some (.val b_)]) rfl (w_while (σt := D × D) (fun (s707 : D × D) => [some (.val s707.1), some (.val s707.2)]) (a_, b_) [true, true] rfl rfl (fun s707 => (wt_cmp ne_ok (we_var (i := 1) va_divisor_b rfl).wb we_int.wb rfl))
    (fun s707 =>
    (w_swp2 (oa := false) (ob := false) (i := 0) (j := 1) sa_divisor_a sa_divisor_b (by decide) lk_divisor_a lk_divisor_b (we_var (i := 1) va_divisor_b rfl) (we_op mod_ok (we_var (i := 0) va_divisor_a rfl).wb (we_var (i := 1) va_divisor_b rfl).wb) rfl fun a_713 b_714 =>
    (w_nf (Γ' := [some (.val a_713), some (.val b_714)]) rfl (w_nil [true, true] (r := (a_713, b_714)) rfl rfl))))
    (fun s707 =>
  (w_ret (we_ife (wt_cmp ne_ok (we_var (i := 0) va_divisor_a rfl).wb we_int.wb rfl) (we_var (i := 0) va_divisor_a rfl) we_int)))))
theorem fd_fraction (h : Has K mg "fraction" st_fraction) (hb_abs : mg "abs" = none) (d_divisor : FnD P w K mg base "divisor" 1 2 (mf_vv m_divisor)) : FnD P w K mg base "fraction" 2 2 (mf_vv m_fraction) :=
  fnd_vv (k := 1) h sc_fraction rfl (by decide) (fun _ _ _ _ _ _ us hl => match us, hl with | [_, _], _ => rfl) fun a_ b_ =>
  (w_nf (Γ' := [some (.val a_), some (.val b_), none]) rfl (w_set (i := 2) sa_fraction_common (we_op mul_ok (we_call_vv d_divisor lk_fraction_divisor (Nat.le_of_ble_eq_true rfl) (we_c1B (blt_abs lk_fraction_abs hb_abs) abs_ok (we_var (i := 0) va_fraction_a rfl).wb) (we_c1B (blt_abs lk_fraction_abs hb_abs) abs_ok (we_var (i := 1) va_fraction_b rfl).wb)).wb (we_ife (wt_cmp gt_ok (we_var (i := 1) va_fraction_b rfl).wb we_int.wb rfl) we_int (we_un neg_ok we_int.wb)).wb) fun common_719 =>
  (w_nf (Γ' := [some (.val a_), some (.val b_), some (.val common_719)]) rfl (w_ret (we_tup (wa_cons (we_op fdiv_ok (we_var (i := 0) va_fraction_a rfl).wb (we_var (i := 2) va_fraction_common rfl).wb) (wa_cons (we_op fdiv_ok (we_var (i := 1) va_fraction_b rfl).wb (we_var (i := 2) va_fraction_common rfl).wb) wa_nil)) (Nat.le_of_ble_eq_true rfl))))))
theorem fd_share_busy (h : Has K mg "share_busy" st_share_busy) (hb_len : mg "len" = none) (hb_range : mg "range" = none) (d_fraction : FnD P w K mg base "fraction" 2 2 (mf_vv m_fraction)) (d_is_free : FnD P w K mg base "is_free" 1 3 (mf_vvv m_is_free)) : FnD P w K mg base "share_busy" 3 3 (mf_vvv m_share_busy) :=
  fnd_vvv (k := 2) h sc_share_busy rfl (by decide) (fun _ _ _ _ _ _ us hl => match us, hl with | [_, _, _], _ => rfl) fun busy_ person_ size_ =>
  (w_nf (Γ' := [some (.val busy_), some (.val person_), some (.val size_), none]) rfl (w_ret (we_call_vv d_fraction lk_share_busy_fraction (Nat.le_of_ble_eq_true rfl) (we_c1B (blt_len lk_share_busy_len hb_len) len_ok (we_lcif (own := [("k", 3)]) (wi_range1 (blt_range lk_share_busy_range hb_range) (we_var (i := 2) va_share_busy_size rfl).wb) (by dsimp only [Sg.blk]; decide +kernel) (wg_name (i := 3) (saL rfl (rel_loc rfl))) (by decide) (fun a742 => (wt_nf (Γ' := [some (.val busy_), some (.val person_), some (.val size_), some (.val a742)]) rfl (wt_not (wt_truth (we_call_vvv d_is_free (rel_glob rfl) (Nat.le_of_ble_eq_true rfl) (we_var (i := 0) (vaC rfl (rel_free rfl rfl lk_share_busy_busy) nm_busy) rfl) (we_var (i := 1) (vaC rfl (rel_free rfl rfl lk_share_busy_person) nm_person) rfl) (we_var (i := 3) (vaL rfl (rel_loc rfl) nm_k) rfl)).wb)))) (fun a742 => (we_nf (Γ' := [some (.val busy_), some (.val person_), some (.val size_), some (.val a742)]) rfl we_int))).wb) (we_var (i := 2) va_share_busy_size rfl))))
theorem fd__law_fraction (h : Has K mg "_law_fraction" st__law_fraction) (hb_abs : mg "abs" = none) : FnD P w K mg base "_law_fraction" 1 2 (mf_vv m__law_fraction) :=
  fnd_vv (k := 0) h sc__law_fraction rfl (by decide) (fun _ _ _ _ _ _ us hl => match us, hl with | [_, _], _ => rfl) fun a_ b_ =>
  (w_nf (Γ' := [some (.val a_), some (.val b_), none, none]) rfl (w_swp2 (oa := false) (ob := false) (i := 2) (j := 3) sa__law_fraction_x sa__law_fraction_y (by decide) lk__law_fraction_x lk__law_fraction_y (we_c1B (blt_abs lk__law_fraction_abs hb_abs) abs_ok (we_var (i := 0) va__law_fraction_a rfl).wb) (we_c1B (blt_abs lk__law_fraction_abs hb_abs) abs_ok (we_var (i := 1) va__law_fraction_b rfl).wb) rfl fun x_758 y_759 =>
  (w_nf (Γ' := [some (.val a_), some (.val b_), some (.val x_758), some (.val y_759)]) rfl (w_while (σt := D × D) (fun (s760 : D × D) => [some (.val a_), some (.val b_), some (.val s760.1), some (.val s760.2)]) (x_758, y_759) [true, true, true, true] rfl rfl (fun s760 => (wt_cmp ne_ok (we_var (i := 3) va__law_fraction_y rfl).wb we_int.wb rfl))
    (fun s760 =>
    (w_swp2 (oa := false) (ob := false) (i := 2) (j := 3) sa__law_fraction_x sa__law_fraction_y (by decide) lk__law_fraction_x lk__law_fraction_y (we_var (i := 3) va__law_fraction_y rfl) (we_op mod_ok (we_var (i := 2) va__law_fraction_x rfl).wb (we_var (i := 3) va__law_fraction_y rfl).wb) rfl fun x_766 y_767 =>
    (w_nf (Γ' := [some (.val a_), some (.val b_), some (.val x_766), some (.val y_767)]) rfl (w_nil [true, true, true, true] (r := (x_766, y_767)) rfl rfl))))
    (fun s760 =>
  (w_ret (we_ife (wt_cmp gt_ok (we_var (i := 1) va__law_fraction_b rfl).wb we_int.wb rfl) (we_tup (wa_cons (we_op fdiv_ok (we_var (i := 0) va__law_fraction_a rfl).wb (we_var (i := 2) va__law_fraction_x rfl).wb) (wa_cons (we_op fdiv_ok (we_var (i := 1) va__law_fraction_b rfl).wb (we_var (i := 2) va__law_fraction_x rfl).wb) wa_nil)) (Nat.le_of_ble_eq_true rfl)) (we_tup (wa_cons (we_op sub_ok we_int.wb (we_op fdiv_ok (we_var (i := 0) va__law_fraction_a rfl).wb (we_var (i := 2) va__law_fraction_x rfl).wb).wb) (wa_cons (we_op sub_ok we_int.wb (we_op fdiv_ok (we_var (i := 1) va__law_fraction_b rfl).wb (we_var (i := 2) va__law_fraction_x rfl).wb).wb) wa_nil)) (Nat.le_of_ble_eq_true rfl)))))))))
theorem fd_law (hm : m_law fun d => d = .bool true) {f : Addr} {fd : FuncData} (F : Fun K "law" "law" st_law f fd) (hb_dict : mg "dict" = none) (hb_len : mg "len" = none) (hb_list : mg "list" = none) (hb_max : mg "max" = none) (hb_range : mg "range" = none) (hb_sorted : mg "sorted" = none) (hb_tuple : mg "tuple" = none) (d__law_draws : FnD P w K mg base "_law_draws" 1 2 (mf_sv m__law_draws)) (d__law_busy : FnD P w K mg base "_law_busy" 2 2 (mf_wv m__law_busy)) (d__law_next : FnD P w K mg base "_law_next" 1 2 (mf_wv m__law_next)) (d__law_all : FnD P w K mg base "_law_all" 2 3 (mf_vvv m__law_all)) (d__law_same : FnD P w K mg base "_law_same" 13 2 (mf_vv (m__law_same 12))) (d__law_can : FnD P w K mg base "_law_can" 2 3 (mf_vvv m__law_can)) (d__law_first : FnD P w K mg base "_law_first" 3 4 (mf_vvvv m__law_first)) (d_longest_free : FnD P w K mg base "longest_free" 3 3 (mf_vvv m_longest_free)) (d_who_can : FnD P w K mg base "who_can" 2 3 (mf_vvv m_who_can)) (d_fewest_moved : FnD P w K mg base "fewest_moved" 1 4 (mf_vvvv m_fewest_moved)) (d_best_meeting : FnD P w K mg base "best_meeting" 3 3 (mf_vvv m_best_meeting)) (d_with_must : FnD P w K mg base "with_must" 3 5 (mf_vvvvv m_with_must)) (d_meetings_row : FnD P w K mg base "meetings_row" 4 3 (mf_vvv m_meetings_row)) (d_free_of : FnD P w K mg base "free_of" 3 3 (mf_vvv m_free_of)) (d_share_busy : FnD P w K mg base "share_busy" 3 3 (mf_vvv m_share_busy)) (d__law_fraction : FnD P w K mg base "_law_fraction" 1 2 (mf_vv m__law_fraction)) (d_all_free : FnD P w K mg base "all_free" 2 3 (mf_vvv m_all_free)) (d_first_meeting : FnD P w K mg base "first_meeting" 3 4 (mf_vvvv m_first_meeting)) (d__law_free : FnD P w K mg base "_law_free" 1 3 (mf_vvv m__law_free)) : FnOk P w K mg base CX0 14 f fd ["script"] (spLaw K) :=
  law_fn (k := 13) (i := 1) (mcall := fun ns => (M.pure (.int 400)).bind fun x => m__law_draws ns x) (m := m_law) F sc_law (by decide) (by decide) (by decide) rfl sa_law_w (fun ns => we_call_sv (wi := 0) d__law_draws lk_law__law_draws (Nat.le_of_ble_eq_true rfl) va_law_script rfl we_int) (draws_ok 400)
  (w_nf (Γ' := [none, some .drw, none, none, none, none, none, none, none, none, none, none, none, none, none, none, none, none, none, none, none, none, none, none, none, none, none, none, none]) rfl (w_forF (σt := Unit) (fun (s796 : Unit) => [none, some .drw, none, none, none, none, none, none, none, none, none, none, none, none, none, none, none, none, none, none, none, none, none, none, none, none, none, none, none]) () [false, true, false, false, false, false, false, false, false, false, false, false, false, false, false, false, false, false, false, false, false, false, false, false, false, false, false, false, false] (wi_range1 (blt_range lk_law_range hb_range) we_int.wb) (wg_name (i := 2) sa_law_turn) rfl rfl
    (fun s796 a797 =>
    (w_nf (Γ' := [none, some .drw, some (.val a797), none, none, none, none, none, none, none, none, none, none, none, none, none, none, none, none, none, none, none, none, none, none, none, none, none, none]) rfl (w_set (i := 3) sa_law_size (we_op add_ok we_int.wb (we_call_wv d__law_next lk_law__law_next (Nat.le_of_ble_eq_true rfl) (wi := 1) va_law_w rfl we_int).wb) fun size_798 =>
    (w_nf (Γ' := [none, some .drw, some (.val a797), some (.val size_798), none, none, none, none, none, none, none, none, none, none, none, none, none, none, none, none, none, none, none, none, none, none, none, none, none]) rfl (w_set (i := 4) sa_law_busy (we_call_wv d__law_busy lk_law__law_busy (Nat.le_of_ble_eq_true rfl) (wi := 1) va_law_w rfl (we_var (i := 3) va_law_size rfl)) fun busy_802 =>
    (w_nf (Γ' := [none, some .drw, some (.val a797), some (.val size_798), some (.val busy_802), none, none, none, none, none, none, none, none, none, none, none, none, none, none, none, none, none, none, none, none, none, none, none, none]) rfl (w_set (i := 5) sa_law_names (we_c1B (blt_sorted lk_law_sorted hb_sorted) sorted_ok (we_var (i := 4) va_law_busy rfl).wb) fun names_804 =>
    (w_nf (Γ' := [none, some .drw, some (.val a797), some (.val size_798), some (.val busy_802), some (.val names_804), none, none, none, none, none, none, none, none, none, none, none, none, none, none, none, none, none, none, none, none, none, none, none]) rfl (w_set (i := 7) sa_law_people (we_c1T (blt_tuple lk_law_tuple hb_tuple) tuple_ok (we_lcif (own := [("name", 6)]) (wi_seq (we_var (i := 5) va_law_names rfl)) (by dsimp only [Sg.blk]; decide +kernel) (wg_name (i := 6) (saL rfl (rel_loc rfl))) (by decide) (fun a808 => (wt_nf (Γ' := [none, some .drw, some (.val a797), some (.val size_798), some (.val busy_802), some (.val names_804), some (.val a808), none, none, none, none, none, none, none, none, none, none, none, none, none, none, none, none, none, none, none, none, none, none]) rfl (wt_cmp eq_ok (we_call_wv d__law_next (rel_glob rfl) (Nat.le_of_ble_eq_true rfl) (wi := 1) (vaC rfl (rel_free rfl rfl lk_law_w) nm_w) rfl we_int).wb we_int.wb rfl))) (fun a808 => (we_nf (Γ' := [none, some .drw, some (.val a797), some (.val size_798), some (.val busy_802), some (.val names_804), some (.val a808), none, none, none, none, none, none, none, none, none, none, none, none, none, none, none, none, none, none, none, none, none, none]) rfl (we_var (i := 6) (vaL rfl (rel_loc rfl) nm_name) rfl)))).wb) fun people_806 =>
    (w_nf (Γ' := [none, some .drw, some (.val a797), some (.val size_798), some (.val busy_802), some (.val names_804), none, some (.val people_806), none, none, none, none, none, none, none, none, none, none, none, none, none, none, none, none, none, none, none, none, none]) rfl (w_forF (σt := Unit) (fun (s825 : Unit) => [none, some .drw, some (.val a797), some (.val size_798), some (.val busy_802), some (.val names_804), none, some (.val people_806), none, none, none, none, none, none, none, none, none, none, none, none, none, none, none, none, none, none, none, none, none]) () [false, true, true, true, true, true, false, true, false, false, false, false, false, false, false, false, false, false, false, false, false, false, false, false, false, false, false, false, false] (wi_seq (we_op add_ok (we_var (i := 5) va_law_names rfl).wb (we_lst (wa_cons we_str wa_nil) (Nat.le_of_ble_eq_true rfl)).wb)) (wg_name (i := 6) sa_law_name) rfl rfl
      (fun s825 a826 =>
      (w_nf (Γ' := [none, some .drw, some (.val a797), some (.val size_798), some (.val busy_802), some (.val names_804), some (.val a826), some (.val people_806), none, none, none, none, none, none, none, none, none, none, none, none, none, none, none, none, none, none, none, none, none]) rfl (w_ifE (ιA := Out.rt) (f := Fl.rt) (wt_not (wt_truth (we_call_vv d__law_same lk_law__law_same (Nat.le_of_ble_eq_true rfl) (we_call_vvv d_free_of lk_law_free_of (Nat.le_of_ble_eq_true rfl) (we_c1T (blt_dict lk_law_dict hb_dict) dict2_ok (we_var (i := 4) va_law_busy rfl).wb) (we_var (i := 6) va_law_name rfl) (we_var (i := 3) va_law_size rfl)) (we_c1T (blt_tuple lk_law_tuple hb_tuple) tuple_ok (we_call_vvv d__law_all lk_law__law_all (Nat.le_of_ble_eq_true rfl) (we_var (i := 4) va_law_busy rfl) (we_lst (wa_cons (we_var (i := 6) va_law_name rfl) wa_nil) (Nat.le_of_ble_eq_true rfl)) (we_var (i := 3) va_law_size rfl)).wb)).wb))
        (w_ret we_bl)
      (w_ifE (ιA := Out.rt) (f := Fl.rt) (wt_not (wt_truth (we_call_vv d__law_same lk_law__law_same (Nat.le_of_ble_eq_true rfl) (we_call_vvv d_share_busy lk_law_share_busy (Nat.le_of_ble_eq_true rfl) (we_c1T (blt_dict lk_law_dict hb_dict) dict2_ok (we_var (i := 4) va_law_busy rfl).wb) (we_var (i := 6) va_law_name rfl) (we_var (i := 3) va_law_size rfl)) (we_call_vv d__law_fraction lk_law__law_fraction (Nat.le_of_ble_eq_true rfl) (we_c1B (blt_len lk_law_len hb_len) len_ok (we_lcif (own := [("k", 8)]) (wi_range1 (blt_range lk_law_range hb_range) (we_var (i := 3) va_law_size rfl).wb) (by dsimp only [Sg.blk]; decide +kernel) (wg_name (i := 8) (saL rfl (rel_loc rfl))) (by decide) (fun a850 => (wt_nf (Γ' := [none, some .drw, some (.val a797), some (.val size_798), some (.val busy_802), some (.val names_804), some (.val a826), some (.val people_806), some (.val a850), none, none, none, none, none, none, none, none, none, none, none, none, none, none, none, none, none, none, none, none]) rfl (wt_not (wt_truth (we_call_vvv d__law_free (rel_glob rfl) (Nat.le_of_ble_eq_true rfl) (we_var (i := 4) (vaC rfl (rel_free rfl rfl lk_law_busy) nm_busy) rfl) (we_var (i := 6) (vaC rfl (rel_free rfl rfl lk_law_name) nm_name) rfl) (we_var (i := 8) (vaL rfl (rel_loc rfl) nm_k) rfl)).wb)))) (fun a850 => (we_nf (Γ' := [none, some .drw, some (.val a797), some (.val size_798), some (.val busy_802), some (.val names_804), some (.val a826), some (.val people_806), some (.val a850), none, none, none, none, none, none, none, none, none, none, none, none, none, none, none, none, none, none, none, none]) rfl (we_var (i := 8) (vaL rfl (rel_loc rfl) nm_k) rfl)))).wb) (we_var (i := 3) va_law_size rfl))).wb))
        (w_ret we_bl)
      (w_nil [false, true, true, true, true, true, false, true, false, false, false, false, false, false, false, false, false, false, false, false, false, false, false, false, false, false, false, false, false] (r := (Fl.nx ())) rfl rfl)))))
      (fun s825 =>
    (w_par2 (oa := false) (ob := false) (.cons (i := 9) sa_law_rows (.cons (i := 10) sa_law_long .nil)) (we_call_vvv d__law_all lk_law__law_all (Nat.le_of_ble_eq_true rfl) (we_var (i := 4) va_law_busy rfl) (we_var (i := 7) va_law_people rfl) (we_var (i := 3) va_law_size rfl)) (we_op add_ok we_int.wb (we_call_wv d__law_next lk_law__law_next (Nat.le_of_ble_eq_true rfl) (wi := 1) va_law_w rfl we_int).wb) rfl rfl fun rows_876 long_877 =>
    (w_nf (Γ' := [none, some .drw, some (.val a797), some (.val size_798), some (.val busy_802), some (.val names_804), none, some (.val people_806), none, some (.val rows_876), some (.val long_877), none, none, none, none, none, none, none, none, none, none, none, none, none, none, none, none, none, none]) rfl (w_ifE (ιA := Out.rt) (f := Fl.rt) (wt_ww (ww_or (wt_not (wt_truth (we_call_vv d__law_same lk_law__law_same (Nat.le_of_ble_eq_true rfl) (we_call_vvv d_all_free lk_law_all_free (Nat.le_of_ble_eq_true rfl) (we_c1T (blt_dict lk_law_dict hb_dict) dict2_ok (we_var (i := 4) va_law_busy rfl).wb) (we_var (i := 7) va_law_people rfl) (we_var (i := 3) va_law_size rfl)) (we_c1T (blt_tuple lk_law_tuple hb_tuple) tuple_ok (we_var (i := 9) va_law_rows rfl).wb)).wb)) (ww_or1 (wt_not (wt_truth (we_call_vv d__law_same lk_law__law_same (Nat.le_of_ble_eq_true rfl) (we_call_vvvv d_first_meeting lk_law_first_meeting (Nat.le_of_ble_eq_true rfl) (we_c1T (blt_dict lk_law_dict hb_dict) dict2_ok (we_var (i := 4) va_law_busy rfl).wb) (we_var (i := 7) va_law_people rfl) (we_var (i := 10) va_law_long rfl) (we_var (i := 3) va_law_size rfl)) (we_call_vvvv d__law_first lk_law__law_first (Nat.le_of_ble_eq_true rfl) (we_var (i := 4) va_law_busy rfl) (we_var (i := 7) va_law_people rfl) (we_var (i := 10) va_law_long rfl) (we_var (i := 3) va_law_size rfl))).wb)))))
      (w_ret we_bl)
    (w_setLc (i := 13) sa_law_longest ⟨rfl, lk_law_longest, by decide +kernel⟩ (own := [("begin", 11), ("end", 12)]) (wi_seq (we_var (i := 9) va_law_rows rfl)) (by dsimp only [Sg.blk]; decide +kernel) (wg_tup2 (i := 11) (j := 12) (saL rfl (rel_loc rfl)) (saL rfl (rel_loc rfl))) (by decide) (fun a904 => (we_nf (Γ' := [none, some .drw, some (.val a797), some (.val size_798), some (.val busy_802), some (.val names_804), none, some (.val people_806), none, some (.val rows_876), some (.val long_877), some (.val a904.1), some (.val a904.2), none, none, none, none, none, none, none, none, none, none, none, none, none, none, none, none]) rfl (we_op sub_ok (we_var (i := 12) (vaL rfl (rel_loc rfl) nm_end) rfl).wb (we_var (i := 11) (vaL rfl (rel_loc rfl) nm_begin) rfl).wb))) fun longest_902 =>
    (w_nf (Γ' := [none, some .drw, some (.val a797), some (.val size_798), some (.val busy_802), some (.val names_804), none, some (.val people_806), none, some (.val rows_876), some (.val long_877), none, none, some (.val longest_902), none, none, none, none, none, none, none, none, none, none, none, none, none, none, none]) rfl (w_ifE (ιA := Out.rt) (f := Fl.rt) (wt_not (wt_truth (we_call_vv d__law_same lk_law__law_same (Nat.le_of_ble_eq_true rfl) (we_call_vvv d_longest_free lk_law_longest_free (Nat.le_of_ble_eq_true rfl) (we_c1T (blt_dict lk_law_dict hb_dict) dict2_ok (we_var (i := 4) va_law_busy rfl).wb) (we_var (i := 7) va_law_people rfl) (we_var (i := 3) va_law_size rfl)) (we_ife (wt_cmp ne_ok (we_var (i := 9) va_law_rows rfl).wb (we_lst wa_nil (Nat.le_of_ble_eq_true rfl)).wb rfl) (we_tup (wa_cons (we_c1B (blt_max lk_law_max hb_max) max1_ok (we_var (i := 13) va_law_longest rfl).wb) (wa_cons (we_ix ix_ok (we_ix ix_ok (we_var (i := 9) va_law_rows rfl).wb (we_indexL (we_var (i := 13) va_law_longest rfl).wb (we_c1B (blt_max lk_law_max hb_max) max1_ok (we_var (i := 13) va_law_longest rfl).wb) ⟨fun _ => rfl, fun _ => rfl, rfl, fun _ => rfl, fun _ => rfl, fun _ => rfl⟩).wb fun _ _ => rfl).wb we_int.wb fun _ _ => rfl) wa_nil)) (Nat.le_of_ble_eq_true rfl)) (we_tup (wa_cons we_int (wa_cons we_int wa_nil)) (Nat.le_of_ble_eq_true rfl)))).wb))
      (w_ret we_bl)
    (w_set (i := 11) sa_law_begin (we_call_wv d__law_next lk_law__law_next (Nat.le_of_ble_eq_true rfl) (wi := 1) va_law_w rfl (we_var (i := 3) va_law_size rfl)) fun begin_942 =>
    (w_nf (Γ' := [none, some .drw, some (.val a797), some (.val size_798), some (.val busy_802), some (.val names_804), none, some (.val people_806), none, some (.val rows_876), some (.val long_877), some (.val begin_942), none, some (.val longest_902), none, none, none, none, none, none, none, none, none, none, none, none, none, none, none]) rfl (w_set (i := 12) sa_law_end (we_op add_ok (we_op add_ok (we_var (i := 11) va_law_begin rfl).wb we_int.wb).wb (we_call_wv d__law_next lk_law__law_next (Nat.le_of_ble_eq_true rfl) (wi := 1) va_law_w rfl we_int).wb) fun end'_944 =>
    (w_nf (Γ' := [none, some .drw, some (.val a797), some (.val size_798), some (.val busy_802), some (.val names_804), none, some (.val people_806), none, some (.val rows_876), some (.val long_877), some (.val begin_942), some (.val end'_944), some (.val longest_902), none, none, none, none, none, none, none, none, none, none, none, none, none, none, none]) rfl (w_ifE (ιA := Out.rt) (f := Fl.rt) (wt_not (wt_truth (we_call_vv d__law_same lk_law__law_same (Nat.le_of_ble_eq_true rfl) (we_call_vvv d_who_can lk_law_who_can (Nat.le_of_ble_eq_true rfl) (we_c1T (blt_dict lk_law_dict hb_dict) dict2_ok (we_var (i := 4) va_law_busy rfl).wb) (we_var (i := 11) va_law_begin rfl) (we_var (i := 12) va_law_end rfl)) (we_c1T (blt_tuple lk_law_tuple hb_tuple) tuple_ok (we_call_vvv d__law_can lk_law__law_can (Nat.le_of_ble_eq_true rfl) (we_var (i := 4) va_law_busy rfl) (we_var (i := 11) va_law_begin rfl) (we_var (i := 12) va_law_end rfl)).wb)).wb))
      (w_ret we_bl)
    (w_set (i := 14) sa_law_met we_int fun met_963 =>
    (w_nf (Γ' := [none, some .drw, some (.val a797), some (.val size_798), some (.val busy_802), some (.val names_804), none, some (.val people_806), none, some (.val rows_876), some (.val long_877), some (.val begin_942), some (.val end'_944), some (.val longest_902), some (.val met_963), none, none, none, none, none, none, none, none, none, none, none, none, none, none]) rfl (w_for (σt := D) (fun (s965 : D) => [none, some .drw, some (.val a797), some (.val size_798), some (.val busy_802), some (.val names_804), none, some (.val people_806), none, some (.val rows_876), some (.val long_877), some (.val begin_942), some (.val end'_944), some (.val longest_902), some (.val s965), none, none, none, none, none, none, none, none, none, none, none, none, none, none]) met_963 [false, true, true, true, true, true, false, true, false, true, true, true, true, true, true, false, false, false, false, false, false, false, false, false, false, false, false, false, false] (wi_seq (we_var (i := 7) va_law_people rfl)) (wg_name (i := 6) sa_law_name) rfl rfl
      (fun s965 a966 =>
      (w_nf (Γ' := [none, some .drw, some (.val a797), some (.val size_798), some (.val busy_802), some (.val names_804), some (.val a966), some (.val people_806), none, some (.val rows_876), some (.val long_877), some (.val begin_942), some (.val end'_944), some (.val longest_902), some (.val s965), none, none, none, none, none, none, none, none, none, none, none, none, none, none]) rfl (w_aug (i := 14) sa_law_met rfl iadd_ok (we_c1B (blt_len lk_law_len hb_len) len_ok (we_lcif (own := [("first", 27), ("last", 28)]) (wi_seq (we_ix ix_ok (we_var (i := 4) va_law_busy rfl).wb (we_var (i := 6) va_law_name rfl).wb fun _ _ => rfl)) (by dsimp only [Sg.blk]; decide +kernel) (wg_tup2 (i := 27) (j := 28) (saL rfl (rel_loc rfl)) (saL rfl (rel_loc rfl))) (by decide) (fun a970 => (wt_nf (Γ' := [none, some .drw, some (.val a797), some (.val size_798), some (.val busy_802), some (.val names_804), some (.val a966), some (.val people_806), none, some (.val rows_876), some (.val long_877), some (.val begin_942), some (.val end'_944), some (.val longest_902), some (.val s965), none, none, none, none, none, none, none, none, none, none, none, none, some (.val a970.1), some (.val a970.2)]) rfl (wt_cmp ne_ok (we_lcif (own := [("k", 8)]) (wi_range2 (blt_range (rel_glob rfl) hb_range) (we_var (i := 27) (vaL rfl (rel_loc rfl) nm_first) rfl).wb (we_var (i := 28) (vaL rfl (rel_loc rfl) nm_last) rfl).wb) (by dsimp only [Sg.blk]; decide +kernel) (wg_name (i := 8) (saL rfl (rel_loc rfl))) (by decide) (fun a978 => (wt_nf (Γ' := [none, some .drw, some (.val a797), some (.val size_798), some (.val busy_802), some (.val names_804), some (.val a966), some (.val people_806), some (.val a978), some (.val rows_876), some (.val long_877), some (.val begin_942), some (.val end'_944), some (.val longest_902), some (.val s965), none, none, none, none, none, none, none, none, none, none, none, none, some (.val a970.1), some (.val a970.2)]) rfl (wt_chain le_ok lt_ok (we_var (i := 11) (vaC rfl (rel_free rfl rfl (rel_free rfl rfl lk_law_begin)) nm_begin) rfl).wb (we_var (i := 8) (vaL rfl (rel_loc rfl) nm_k) rfl).wb (we_var (i := 12) (vaC rfl (rel_free rfl rfl (rel_free rfl rfl lk_law_end)) nm_end) rfl).wb rfl))) (fun a978 => (we_nf (Γ' := [none, some .drw, some (.val a797), some (.val size_798), some (.val busy_802), some (.val names_804), some (.val a966), some (.val people_806), some (.val a978), some (.val rows_876), some (.val long_877), some (.val begin_942), some (.val end'_944), some (.val longest_902), some (.val s965), none, none, none, none, none, none, none, none, none, none, none, none, some (.val a970.1), some (.val a970.2)]) rfl (we_var (i := 8) (vaL rfl (rel_loc rfl) nm_k) rfl)))).wb (we_lst wa_nil (Nat.le_of_ble_eq_true rfl)).wb rfl))) (fun a970 => (we_nf (Γ' := [none, some .drw, some (.val a797), some (.val size_798), some (.val busy_802), some (.val names_804), some (.val a966), some (.val people_806), none, some (.val rows_876), some (.val long_877), some (.val begin_942), some (.val end'_944), some (.val longest_902), some (.val s965), none, none, none, none, none, none, none, none, none, none, none, none, some (.val a970.1), some (.val a970.2)]) rfl we_int))).wb) fun met_998 =>
      (w_nf (Γ' := [none, some .drw, some (.val a797), some (.val size_798), some (.val busy_802), some (.val names_804), some (.val a966), some (.val people_806), none, some (.val rows_876), some (.val long_877), some (.val begin_942), some (.val end'_944), some (.val longest_902), some (.val met_998), none, none, none, none, none, none, none, none, none, none, none, none, none, none]) rfl (w_nil [false, true, true, true, true, true, false, true, false, true, true, true, true, true, true, false, false, false, false, false, false, false, false, false, false, false, false, false, false] (r := met_998) rfl rfl)))))
      (fun s965 =>
    (w_ifE (ιA := Out.rt) (f := Fl.rt) (wt_not (wt_truth (we_call_vv d__law_same lk_law__law_same (Nat.le_of_ble_eq_true rfl) (we_call_vvvv d_fewest_moved lk_law_fewest_moved (Nat.le_of_ble_eq_true rfl) (we_c1T (blt_dict lk_law_dict hb_dict) dict2_ok (we_var (i := 4) va_law_busy rfl).wb) (we_var (i := 7) va_law_people rfl) (we_var (i := 11) va_law_begin rfl) (we_var (i := 12) va_law_end rfl)) (we_var (i := 14) va_law_met rfl)).wb))
      (w_ret we_bl)
    (w_set (i := 15) sa_law_spots ((wf_listRg1 (blt_list lk_law_list hb_list) (blt_range lk_law_range hb_range) (we_op add_ok (we_op sub_ok (we_var (i := 3) va_law_size rfl).wb (we_var (i := 10) va_law_long rfl).wb).wb we_int.wb).wb)).we fun spots_1009 =>
    (w_nf (Γ' := [none, some .drw, some (.val a797), some (.val size_798), some (.val busy_802), some (.val names_804), none, some (.val people_806), none, some (.val rows_876), some (.val long_877), some (.val begin_942), some (.val end'_944), some (.val longest_902), some (.val s965), some (.val spots_1009), none, none, none, none, none, none, none, none, none, none, none, none, none]) rfl (w_setLc (i := 17) sa_law_counts ⟨rfl, lk_law_counts, by decide +kernel⟩ (own := [("at", 16)]) (wi_seq (we_var (i := 15) va_law_spots rfl)) (by dsimp only [Sg.blk]; decide +kernel) (wg_name (i := 16) (saL rfl (rel_loc rfl))) (by decide) (fun a1019 => (we_nf (Γ' := [none, some .drw, some (.val a797), some (.val size_798), some (.val busy_802), some (.val names_804), none, some (.val people_806), none, some (.val rows_876), some (.val long_877), some (.val begin_942), some (.val end'_944), some (.val longest_902), some (.val s965), some (.val spots_1009), some (.val a1019), none, none, none, none, none, none, none, none, none, none, none, none]) rfl (we_c1B (blt_len (rel_glob rfl) hb_len) len_ok (we_call_vvv d__law_can (rel_glob rfl) (Nat.le_of_ble_eq_true rfl) (we_var (i := 4) (vaC rfl (rel_free rfl rfl lk_law_busy) nm_busy) rfl) (we_var (i := 16) (vaL rfl (rel_loc rfl) nm_at) rfl) (we_op add_ok (we_var (i := 16) (vaL rfl (rel_loc rfl) nm_at) rfl).wb (we_var (i := 10) (vaC rfl (rel_free rfl rfl lk_law_long) nm_long) rfl).wb)).wb))) fun counts_1017 =>
    (w_nf (Γ' := [none, some .drw, some (.val a797), some (.val size_798), some (.val busy_802), some (.val names_804), none, some (.val people_806), none, some (.val rows_876), some (.val long_877), some (.val begin_942), some (.val end'_944), some (.val longest_902), some (.val s965), some (.val spots_1009), none, some (.val counts_1017), none, none, none, none, none, none, none, none, none, none, none]) rfl (w_ifE (ιA := Out.rt) (f := Fl.rt) (wt_not (wt_truth (we_call_vv d__law_same lk_law__law_same (Nat.le_of_ble_eq_true rfl) (we_call_vvv d_best_meeting lk_law_best_meeting (Nat.le_of_ble_eq_true rfl) (we_c1T (blt_dict lk_law_dict hb_dict) dict2_ok (we_var (i := 4) va_law_busy rfl).wb) (we_var (i := 10) va_law_long rfl) (we_var (i := 3) va_law_size rfl)) (we_ife (wt_cmp ne_ok (we_var (i := 17) va_law_counts rfl).wb (we_lst wa_nil (Nat.le_of_ble_eq_true rfl)).wb rfl) (we_tup (wa_cons (we_c1B (blt_max lk_law_max hb_max) max1_ok (we_var (i := 17) va_law_counts rfl).wb) (wa_cons (we_indexL (we_var (i := 17) va_law_counts rfl).wb (we_c1B (blt_max lk_law_max hb_max) max1_ok (we_var (i := 17) va_law_counts rfl).wb) ⟨fun _ => rfl, fun _ => rfl, rfl, fun _ => rfl, fun _ => rfl, fun _ => rfl⟩) wa_nil)) (Nat.le_of_ble_eq_true rfl)) we_non)).wb))
      (w_ret we_bl)
    (w_swp2 (oa := false) (ob := false) (i := 18) (j := 19) sa_law_may sa_law_best (by decide) lk_law_may lk_law_best (we_c1T (blt_tuple lk_law_tuple hb_tuple) tuple_ok (we_lcif (own := [("name", 6)]) (wi_seq (we_var (i := 5) va_law_names rfl)) (by dsimp only [Sg.blk]; decide +kernel) (wg_name (i := 6) (saL rfl (rel_loc rfl))) (by decide) (fun a1053 => (wt_nf (Γ' := [none, some .drw, some (.val a797), some (.val size_798), some (.val busy_802), some (.val names_804), some (.val a1053), some (.val people_806), none, some (.val rows_876), some (.val long_877), some (.val begin_942), some (.val end'_944), some (.val longest_902), some (.val s965), some (.val spots_1009), none, some (.val counts_1017), none, none, none, none, none, none, none, none, none, none, none]) rfl (wt_cmp eq_ok (we_call_wv d__law_next (rel_glob rfl) (Nat.le_of_ble_eq_true rfl) (wi := 1) (vaC rfl (rel_free rfl rfl lk_law_w) nm_w) rfl we_int).wb we_int.wb rfl))) (fun a1053 => (we_nf (Γ' := [none, some .drw, some (.val a797), some (.val size_798), some (.val busy_802), some (.val names_804), some (.val a1053), some (.val people_806), none, some (.val rows_876), some (.val long_877), some (.val begin_942), some (.val end'_944), some (.val longest_902), some (.val s965), some (.val spots_1009), none, some (.val counts_1017), none, none, none, none, none, none, none, none, none, none, none]) rfl (we_var (i := 6) (vaL rfl (rel_loc rfl) nm_name) rfl)))).wb) we_non rfl fun may_1064 best_1065 =>
    (w_nf (Γ' := [none, some .drw, some (.val a797), some (.val size_798), some (.val busy_802), some (.val names_804), none, some (.val people_806), none, some (.val rows_876), some (.val long_877), some (.val begin_942), some (.val end'_944), some (.val longest_902), some (.val s965), some (.val spots_1009), none, some (.val counts_1017), some (.val may_1064), some (.val best_1065), none, none, none, none, none, none, none, none, none]) rfl (w_for (σt := D) (fun (s1067 : D) => [none, some .drw, some (.val a797), some (.val size_798), some (.val busy_802), some (.val names_804), none, some (.val people_806), none, some (.val rows_876), some (.val long_877), some (.val begin_942), some (.val end'_944), some (.val longest_902), some (.val s965), some (.val spots_1009), none, some (.val counts_1017), some (.val may_1064), some (.val s1067), none, none, none, none, none, none, none, none, none]) best_1065 [false, true, true, true, true, true, false, true, false, true, true, true, true, true, true, true, false, true, true, true, false, false, false, false, false, false, false, false, false] (wi_seq (we_var (i := 15) va_law_spots rfl)) (wg_name (i := 16) sa_law_at) rfl rfl
      (fun s1067 a1068 =>
      (w_nf (Γ' := [none, some .drw, some (.val a797), some (.val size_798), some (.val busy_802), some (.val names_804), none, some (.val people_806), none, some (.val rows_876), some (.val long_877), some (.val begin_942), some (.val end'_944), some (.val longest_902), some (.val s965), some (.val spots_1009), some (.val a1068), some (.val counts_1017), some (.val may_1064), some (.val s1067), none, none, none, none, none, none, none, none, none]) rfl (w_set (i := 20) sa_law_able (we_call_vvv d__law_can lk_law__law_can (Nat.le_of_ble_eq_true rfl) (we_var (i := 4) va_law_busy rfl) (we_var (i := 16) va_law_at rfl) (we_op add_ok (we_var (i := 16) va_law_at rfl).wb (we_var (i := 10) va_law_long rfl).wb)) fun able_1069 =>
      (w_nf (Γ' := [none, some .drw, some (.val a797), some (.val size_798), some (.val busy_802), some (.val names_804), none, some (.val people_806), none, some (.val rows_876), some (.val long_877), some (.val begin_942), some (.val end'_944), some (.val longest_902), some (.val s965), some (.val spots_1009), some (.val a1068), some (.val counts_1017), some (.val may_1064), some (.val s1067), some (.val able_1069), none, none, none, none, none, none, none, none]) rfl (w_set (i := 21) sa_law_many (we_c1B (blt_len lk_law_len hb_len) len_ok (we_lcif (own := [("name", 6)]) (wi_seq (we_var (i := 18) va_law_may rfl)) (by dsimp only [Sg.blk]; decide +kernel) (wg_name (i := 6) (saL rfl (rel_loc rfl))) (by decide) (fun a1077 => (wt_nf (Γ' := [none, some .drw, some (.val a797), some (.val size_798), some (.val busy_802), some (.val names_804), some (.val a1077), some (.val people_806), none, some (.val rows_876), some (.val long_877), some (.val begin_942), some (.val end'_944), some (.val longest_902), some (.val s965), some (.val spots_1009), some (.val a1068), some (.val counts_1017), some (.val may_1064), some (.val s1067), some (.val able_1069), none, none, none, none, none, none, none, none]) rfl (wt_cmp in_ok (we_var (i := 6) (vaL rfl (rel_loc rfl) nm_name) rfl).wb (we_var (i := 20) (vaC rfl (rel_free rfl rfl lk_law_able) nm_able) rfl).wb rfl))) (fun a1077 => (we_nf (Γ' := [none, some .drw, some (.val a797), some (.val size_798), some (.val busy_802), some (.val names_804), some (.val a1077), some (.val people_806), none, some (.val rows_876), some (.val long_877), some (.val begin_942), some (.val end'_944), some (.val longest_902), some (.val s965), some (.val spots_1009), some (.val a1068), some (.val counts_1017), some (.val may_1064), some (.val s1067), some (.val able_1069), none, none, none, none, none, none, none, none]) rfl (we_var (i := 6) (vaL rfl (rel_loc rfl) nm_name) rfl)))).wb) fun many_1075 =>
      (w_nf (Γ' := [none, some .drw, some (.val a797), some (.val size_798), some (.val busy_802), some (.val names_804), none, some (.val people_806), none, some (.val rows_876), some (.val long_877), some (.val begin_942), some (.val end'_944), some (.val longest_902), some (.val s965), some (.val spots_1009), some (.val a1068), some (.val counts_1017), some (.val may_1064), some (.val s1067), some (.val able_1069), some (.val many_1075), none, none, none, none, none, none, none]) rfl (w_ifJ (g := (fun (s1118 : D) => [none, some .drw, some (.val a797), some (.val size_798), some (.val busy_802), some (.val names_804), none, some (.val people_806), none, some (.val rows_876), some (.val long_877), some (.val begin_942), some (.val end'_944), some (.val longest_902), some (.val s965), some (.val spots_1009), some (.val a1068), some (.val counts_1017), some (.val may_1064), some (.val s1118), some (.val able_1069), some (.val many_1075), none, none, none, none, none, none, none])) (wt_ww (ww_and (wt_cmp eq_ok (we_lcif (own := [("name", 6)]) (wi_seq (we_var (i := 7) va_law_people rfl)) (by dsimp only [Sg.blk]; decide +kernel) (wg_name (i := 6) (saL rfl (rel_loc rfl))) (by decide) (fun a1088 => (wt_nf (Γ' := [none, some .drw, some (.val a797), some (.val size_798), some (.val busy_802), some (.val names_804), some (.val a1088), some (.val people_806), none, some (.val rows_876), some (.val long_877), some (.val begin_942), some (.val end'_944), some (.val longest_902), some (.val s965), some (.val spots_1009), some (.val a1068), some (.val counts_1017), some (.val may_1064), some (.val s1067), some (.val able_1069), some (.val many_1075), none, none, none, none, none, none, none]) rfl (wt_cmp nin_ok (we_var (i := 6) (vaL rfl (rel_loc rfl) nm_name) rfl).wb (we_var (i := 20) (vaC rfl (rel_free rfl rfl lk_law_able) nm_able) rfl).wb rfl))) (fun a1088 => (we_nf (Γ' := [none, some .drw, some (.val a797), some (.val size_798), some (.val busy_802), some (.val names_804), some (.val a1088), some (.val people_806), none, some (.val rows_876), some (.val long_877), some (.val begin_942), some (.val end'_944), some (.val longest_902), some (.val s965), some (.val spots_1009), some (.val a1068), some (.val counts_1017), some (.val may_1064), some (.val s1067), some (.val able_1069), some (.val many_1075), none, none, none, none, none, none, none]) rfl (we_var (i := 6) (vaL rfl (rel_loc rfl) nm_name) rfl)))).wb (we_lst wa_nil (Nat.le_of_ble_eq_true rfl)).wb rfl) (ww_and1 (wt_ww (ww_or (wt_cmp is_ok (we_var (i := 19) va_law_best rfl).wb we_non.wb rfl) (ww_or1 (wt_cmp gt_ok (we_var (i := 21) va_law_many rfl).wb (we_ix ix_ok (we_var (i := 19) va_law_best rfl).wb we_int.wb fun _ _ => rfl).wb rfl)))))))
        (w_set (i := 19) sa_law_best (we_tup (wa_cons (we_var (i := 21) va_law_many rfl) (wa_cons (we_var (i := 16) va_law_at rfl) wa_nil)) (Nat.le_of_ble_eq_true rfl)) fun best_1112 =>
        (w_nf (Γ' := [none, some .drw, some (.val a797), some (.val size_798), some (.val busy_802), some (.val names_804), none, some (.val people_806), none, some (.val rows_876), some (.val long_877), some (.val begin_942), some (.val end'_944), some (.val longest_902), some (.val s965), some (.val spots_1009), some (.val a1068), some (.val counts_1017), some (.val may_1064), some (.val best_1112), some (.val able_1069), some (.val many_1075), none, none, none, none, none, none, none]) rfl (w_nil [false, true, true, true, true, true, false, true, false, true, true, true, true, true, true, true, true, true, true, true, true, true, false, false, false, false, false, false, false] (r := best_1112) rfl rfl)))
        (w_nil [false, true, true, true, true, true, false, true, false, true, true, true, true, true, true, true, true, true, true, true, true, true, false, false, false, false, false, false, false] (r := s1067) rfl rfl)
        (fun s1118 =>
      (w_nil [false, true, true, true, true, true, false, true, false, true, true, true, true, true, true, true, false, true, true, true, false, false, false, false, false, false, false, false, false] (r := s1118) rfl rfl)))))))))
      (fun s1067 =>
    (w_ifE (ιA := Out.rt) (f := Fl.rt) (wt_not (wt_truth (we_call_vv d__law_same lk_law__law_same (Nat.le_of_ble_eq_true rfl) (we_call_vvvvv d_with_must lk_law_with_must (Nat.le_of_ble_eq_true rfl) (we_c1T (blt_dict lk_law_dict hb_dict) dict2_ok (we_var (i := 4) va_law_busy rfl).wb) (we_var (i := 7) va_law_people rfl) (we_var (i := 18) va_law_may rfl) (we_var (i := 10) va_law_long rfl) (we_var (i := 3) va_law_size rfl)) (we_var (i := 19) va_law_best rfl)).wb))
      (w_ret we_bl)
    (w_swp3 (oa := true) (ob := true) (oc := true) (i := 22) (j := 23) (l := 24) sa_law_asks sa_law_now sa_law_due (by decide) (by decide) (by decide) lk_law_asks lk_law_now lk_law_due wf_nil (wf_c1T (blt_dict lk_law_dict hb_dict) dict2_okF (we_var (i := 4) va_law_busy rfl).wb) wf_nil rfl fun asks_1131 now_1132 due_1133 =>
    (w_nf (Γ' := [none, some .drw, some (.val a797), some (.val size_798), some (.val busy_802), some (.val names_804), none, some (.val people_806), none, some (.val rows_876), some (.val long_877), some (.val begin_942), some (.val end'_944), some (.val longest_902), some (.val s965), some (.val spots_1009), none, some (.val counts_1017), some (.val may_1064), some (.val s1067), none, none, some (.own asks_1131), some (.own now_1132), some (.own due_1133), none, none, none, none]) rfl (w_for (σt := D × D × D) (fun (s1137 : D × D × D) => [none, some .drw, some (.val a797), some (.val size_798), some (.val busy_802), some (.val names_804), none, some (.val people_806), none, some (.val rows_876), some (.val long_877), some (.val begin_942), some (.val end'_944), some (.val longest_902), some (.val s965), some (.val spots_1009), none, some (.val counts_1017), some (.val may_1064), some (.val s1067), none, none, some (.own s1137.1), some (.own s1137.2.1), some (.own s1137.2.2), none, none, none, none]) (asks_1131, now_1132, due_1133) [false, true, true, true, true, true, false, true, false, true, true, true, true, true, true, true, false, true, true, true, false, false, true, true, true, false, false, false, false] (wi_range1 (blt_range lk_law_range hb_range) (we_call_wv d__law_next lk_law__law_next (Nat.le_of_ble_eq_true rfl) (wi := 1) va_law_w rfl we_int).wb) (wg_name (i := 8) sa_law_k) rfl rfl
      (fun s1137 a1138 =>
      (w_nf (Γ' := [none, some .drw, some (.val a797), some (.val size_798), some (.val busy_802), some (.val names_804), none, some (.val people_806), some (.val a1138), some (.val rows_876), some (.val long_877), some (.val begin_942), some (.val end'_944), some (.val longest_902), some (.val s965), some (.val spots_1009), none, some (.val counts_1017), some (.val may_1064), some (.val s1067), none, none, some (.own s1137.1), some (.own s1137.2.1), some (.own s1137.2.2), none, none, none, none]) rfl (w_swp2 (oa := false) (ob := false) (i := 25) (j := 26) sa_law_own sa_law_span (by decide) lk_law_own lk_law_span (we_c1T (blt_tuple lk_law_tuple hb_tuple) tuple_ok (we_lcif (own := [("name", 6)]) (wi_seq (we_op add_ok (we_var (i := 5) va_law_names rfl).wb (we_lst (wa_cons we_str wa_nil) (Nat.le_of_ble_eq_true rfl)).wb)) (by dsimp only [Sg.blk]; decide +kernel) (wg_name (i := 6) (saL rfl (rel_loc rfl))) (by decide) (fun a1145 => (wt_nf (Γ' := [none, some .drw, some (.val a797), some (.val size_798), some (.val busy_802), some (.val names_804), some (.val a1145), some (.val people_806), some (.val a1138), some (.val rows_876), some (.val long_877), some (.val begin_942), some (.val end'_944), some (.val longest_902), some (.val s965), some (.val spots_1009), none, some (.val counts_1017), some (.val may_1064), some (.val s1067), none, none, some (.own s1137.1), some (.own s1137.2.1), some (.own s1137.2.2), none, none, none, none]) rfl (wt_cmp eq_ok (we_call_wv d__law_next (rel_glob rfl) (Nat.le_of_ble_eq_true rfl) (wi := 1) (vaC rfl (rel_free rfl rfl lk_law_w) nm_w) rfl we_int).wb we_int.wb rfl))) (fun a1145 => (we_nf (Γ' := [none, some .drw, some (.val a797), some (.val size_798), some (.val busy_802), some (.val names_804), some (.val a1145), some (.val people_806), some (.val a1138), some (.val rows_876), some (.val long_877), some (.val begin_942), some (.val end'_944), some (.val longest_902), some (.val s965), some (.val spots_1009), none, some (.val counts_1017), some (.val may_1064), some (.val s1067), none, none, some (.own s1137.1), some (.own s1137.2.1), some (.own s1137.2.2), none, none, none, none]) rfl (we_var (i := 6) (vaL rfl (rel_loc rfl) nm_name) rfl)))).wb) (we_op add_ok we_int.wb (we_call_wv d__law_next lk_law__law_next (Nat.le_of_ble_eq_true rfl) (wi := 1) va_law_w rfl we_int).wb) rfl fun own_1159 span_1160 =>
      (w_nf (Γ' := [none, some .drw, some (.val a797), some (.val size_798), some (.val busy_802), some (.val names_804), none, some (.val people_806), some (.val a1138), some (.val rows_876), some (.val long_877), some (.val begin_942), some (.val end'_944), some (.val longest_902), some (.val s965), some (.val spots_1009), none, some (.val counts_1017), some (.val may_1064), some (.val s1067), none, none, some (.own s1137.1), some (.own s1137.2.1), some (.own s1137.2.2), some (.val own_1159), some (.val span_1160), none, none]) rfl (w_append (i := 22) va_law_asks rfl (we_tup (wa_cons (we_var (i := 25) va_law_own rfl) (wa_cons (we_var (i := 26) va_law_span rfl) wa_nil)) (Nat.le_of_ble_eq_true rfl)) (fun asks_1167 =>
      (w_nf (Γ' := [none, some .drw, some (.val a797), some (.val size_798), some (.val busy_802), some (.val names_804), none, some (.val people_806), some (.val a1138), some (.val rows_876), some (.val long_877), some (.val begin_942), some (.val end'_944), some (.val longest_902), some (.val s965), some (.val spots_1009), none, some (.val counts_1017), some (.val may_1064), some (.val s1067), none, none, some (.own asks_1167), some (.own s1137.2.1), some (.own s1137.2.2), some (.val own_1159), some (.val span_1160), none, none]) rfl (w_set (i := 16) sa_law_at (we_lend (i := 23) (Γ' := [none, none, some (.val a797), some (.val size_798), some (.val busy_802), some (.val names_804), none, some (.val people_806), some (.val a1138), some (.val rows_876), some (.val long_877), some (.val begin_942), some (.val end'_944), some (.val longest_902), some (.val s965), some (.val spots_1009), none, some (.val counts_1017), some (.val may_1064), some (.val s1067), none, none, some (.own asks_1167), some (.val s1137.2.1), some (.own s1137.2.2), some (.val own_1159), some (.val span_1160), none, none]) rfl rfl (we_call_vvvv d__law_first lk_law__law_first (Nat.le_of_ble_eq_true rfl) (we_var (i := 23) va_law_now rfl) (we_var (i := 25) va_law_own rfl) (we_var (i := 26) va_law_span rfl) (we_var (i := 3) va_law_size rfl))) fun at'_1168 =>
      (w_nf (Γ' := [none, some .drw, some (.val a797), some (.val size_798), some (.val busy_802), some (.val names_804), none, some (.val people_806), some (.val a1138), some (.val rows_876), some (.val long_877), some (.val begin_942), some (.val end'_944), some (.val longest_902), some (.val s965), some (.val spots_1009), some (.val at'_1168), some (.val counts_1017), some (.val may_1064), some (.val s1067), none, none, some (.own asks_1167), some (.own s1137.2.1), some (.own s1137.2.2), some (.val own_1159), some (.val span_1160), none, none]) rfl (w_for (σt := D) (fun (s1180 : D) => [none, some .drw, some (.val a797), some (.val size_798), some (.val busy_802), some (.val names_804), none, some (.val people_806), some (.val a1138), some (.val rows_876), some (.val long_877), some (.val begin_942), some (.val end'_944), some (.val longest_902), some (.val s965), some (.val spots_1009), some (.val at'_1168), some (.val counts_1017), some (.val may_1064), some (.val s1067), none, none, some (.own asks_1167), some (.own s1180), some (.own s1137.2.2), some (.val own_1159), some (.val span_1160), none, none]) s1137.2.1 [false, true, true, true, true, true, false, true, true, true, true, true, true, true, true, true, true, true, true, true, false, false, true, true, true, true, true, false, false] (wi_seq (we_ife (wt_cmp isn_ok (we_var (i := 16) va_law_at rfl).wb we_non.wb rfl) (we_var (i := 25) va_law_own rfl) (we_tup wa_nil (Nat.le_of_ble_eq_true rfl)))) (wg_name (i := 6) sa_law_name) rfl rfl
        (fun s1180 a1181 =>
        (w_nf (Γ' := [none, some .drw, some (.val a797), some (.val size_798), some (.val busy_802), some (.val names_804), some (.val a1181), some (.val people_806), some (.val a1138), some (.val rows_876), some (.val long_877), some (.val begin_942), some (.val end'_944), some (.val longest_902), some (.val s965), some (.val spots_1009), some (.val at'_1168), some (.val counts_1017), some (.val may_1064), some (.val s1067), none, none, some (.own asks_1167), some (.own s1180), some (.own s1137.2.2), some (.val own_1159), some (.val span_1160), none, none]) rfl (w_dput (i := 23) va_law_now rfl (we_op add_ok (wb_get2 (wb_own (i := 23) va_law_now rfl) (we_var (i := 6) va_law_name rfl) (we_tup wa_nil (Nat.le_of_ble_eq_true rfl)) fun _ => ⟨rfl, rfl, rfl, rfl⟩).wb (we_tup (wa_cons (we_tup (wa_cons (we_var (i := 16) va_law_at rfl) (wa_cons (we_op add_ok (we_var (i := 16) va_law_at rfl).wb (we_var (i := 26) va_law_span rfl).wb) wa_nil)) (Nat.le_of_ble_eq_true rfl)) wa_nil) (Nat.le_of_ble_eq_true rfl)).wb) (we_var (i := 6) va_law_name rfl) fun now_1200 =>
        (w_nf (Γ' := [none, some .drw, some (.val a797), some (.val size_798), some (.val busy_802), some (.val names_804), some (.val a1181), some (.val people_806), some (.val a1138), some (.val rows_876), some (.val long_877), some (.val begin_942), some (.val end'_944), some (.val longest_902), some (.val s965), some (.val spots_1009), some (.val at'_1168), some (.val counts_1017), some (.val may_1064), some (.val s1067), none, none, some (.own asks_1167), some (.own now_1200), some (.own s1137.2.2), some (.val own_1159), some (.val span_1160), none, none]) rfl (w_nil [false, true, true, true, true, true, false, true, true, true, true, true, true, true, true, true, true, true, true, true, false, false, true, true, true, true, true, false, false] (r := now_1200) rfl rfl)))))
        (fun s1180 =>
      (w_append (i := 24) va_law_due rfl (we_var (i := 16) va_law_at rfl) (fun due_1202 =>
      (w_nf (Γ' := [none, some .drw, some (.val a797), some (.val size_798), some (.val busy_802), some (.val names_804), none, some (.val people_806), some (.val a1138), some (.val rows_876), some (.val long_877), some (.val begin_942), some (.val end'_944), some (.val longest_902), some (.val s965), some (.val spots_1009), some (.val at'_1168), some (.val counts_1017), some (.val may_1064), some (.val s1067), none, none, some (.own asks_1167), some (.own s1180), some (.own due_1202), some (.val own_1159), some (.val span_1160), none, none]) rfl (w_nil [false, true, true, true, true, true, false, true, false, true, true, true, true, true, true, true, false, true, true, true, false, false, true, true, true, false, false, false, false] (r := (asks_1167, s1180, due_1202)) rfl rfl))) ⟨fun _ => rfl, fun _ => rfl, rfl, fun _ => rfl, fun _ => rfl, fun _ => rfl⟩))))))) ⟨fun _ => rfl, fun _ => rfl, rfl, fun _ => rfl, fun _ => rfl, fun _ => rfl⟩)))))
      (fun s1137 =>
    (w_ifE (ιA := Out.rt) (f := Fl.rt) (wt_not (wt_truth (we_call_vv d__law_same lk_law__law_same (Nat.le_of_ble_eq_true rfl) (we_call_vvv d_meetings_row lk_law_meetings_row (Nat.le_of_ble_eq_true rfl) (we_c1T (blt_dict lk_law_dict hb_dict) dict2_ok (we_var (i := 4) va_law_busy rfl).wb) (we_c1T (blt_tuple lk_law_tuple hb_tuple) tuple_ok (wb_own (i := 22) va_law_asks rfl)) (we_var (i := 3) va_law_size rfl)) (we_c1T (blt_tuple lk_law_tuple hb_tuple) tuple_ok (wb_own (i := 24) va_law_due rfl))).wb))
      (w_ret we_bl)
    (w_nil [false, true, false, false, false, false, false, false, false, false, false, false, false, false, false, false, false, false, false, false, false, false, false, false, false, false, false, false, false] (r := (Fl.nx ())) rfl rfl))))))))))))))))))))))))))))))))) (rt_ok (f := Fl.rt)))))))))))))
    (fun s796 =>
  (w_ret we_bl)) (rt_ok (f := fun d => d)))) hm
end
end L33
namespace L33
open PySem PySem.Spec PyProof.Rows L2 Wp

/-! ### busy people -/
abbrev PI := Int × Int
abbrev Bu := List (Str × List PI)
def pI (p : PI) : D := tI [p.1, p.2]
def tP (ps : List PI) : D := .tuple (ps.map pI)
def dB (b : Bu) : D := dS (b.map fun r => (r.1, tP r.2))
def lk (b : Bu) (n : Str) : List PI := (b.lookup n).getD []
theorem un2_pI {p : PI} : un2 (pI p) = M.pure (.int p.1, .int p.2) := un2_t
theorem lk_map (b : Bu) (n : Str) : (b.map fun r => (r.1, tP r.2)).lookup n = (b.lookup n).map tP := by
  induction b with
  | nil => rfl
  | cons r b ih =>
    rw [List.map_cons, List.lookup_cons, List.lookup_cons, ih]
    cases n == r.1 <;> rfl
theorem get_dB {b : Bu} {n : Str} : get2D (dB b) (.str n) (.tuple []) = M.pure (tP (lk b n)) := by
  unfold dB
  rw [get2D_s, lk_map]
  unfold lk
  cases b.lookup n <;> rfl
theorem need_dB {b : Bu} {α : Type} {m : M α} : M.need ((isDi (dB b) && plainD (dB b)) = true) m = m := m_need (by
  have : plainD (dB b) = true := plain_dS
  rw [this]; rfl)
theorem asS_tP {ps : List PI} : asS (tP ps) = M.pure (ps.map pI) := asS_t
theorem dict2_dB {b : Bu} : dict2D (dB b) = M.pure (dB b) := dict2_s
def at_ (ps : List PI) (k : Int) : Bool := ps.any fun p => decide (p.1 ≤ k) && decide (k < p.2)
def fr (b : Bu) (n : Str) (k : Int) : Bool := !at_ (lk b n) k
theorem e_free {b : Bu} {n : Str} {k : Int} : m_is_free (dB b) (.str n) (.int k) = M.pure (.bool (fr b n k)) := by
  simp (disch := first | assumption | rfl | omega | decide) only [mp_bind, m_assoc, m_opt, m_cond_pure, m_cond_bind, m_cond_t, m_cond_f, mapM_map, filM_map, fold_map, foldF_map, mapM_pure, filM_pure, fold_pure, asI_i, asB_b, asS_l, asS_t, seqOf_l, seqOf_t, addD_i, iaddD_i, subD_i, fdivD_i, modD_i, negD_i, absD_i, intD_i, max2D_i, min2D_i, ltD_i, leD_i, gtD_i, geD_i, eqD_i, neD_i, lenD_l, lenD_t, tupleD_l, tupleD_t, listD_l, list2D_l, list2D_t, listD_t, slD_l, slD_t, revD_l, truthD_b, truthD_n, ixD_l, ixD_t, un2_t, un3_t, un4_t, zipI_l, zipI_t, isD_n, isnD_n, isNone_n, isNone_i, isNone_b, isNone_s, isNone_l, isNone_t, m_eta, Bool.not_true, Bool.not_false, isL_list, atI_0, atI_1, atI_2, atI_3, c_t, c_f, m_needT, isi_tuple_n, isi_tuple_b, isi_tuple_i, isi_tuple_s, isi_tuple_l, isi_tuple_t, isi_list_n, isi_list_b, isi_list_i, isi_list_s, isi_list_l, isi_list_t, isi_dict_n, isi_dict_b, isi_dict_i, isi_dict_s, isi_dict_l, isi_dict_t, isi_str_n, isi_str_b, isi_str_i, isi_str_s, isi_str_l, isi_str_t, isi_bool_n, isi_bool_b, isi_bool_i, isi_bool_s, isi_bool_l, isi_bool_t, isi_int_n, isi_int_b, isi_int_i, isi_int_s, isi_int_l, isi_int_t, bind_run, pure_run, m_is_free, need_dB, get_dB, asS_tP, un2_pI]
  have : (fun x : PI => bif decide (x.1 ≤ k) then (.bool (decide (k < x.2)) : D) else .bool false) = fun x => .bool (decide (x.1 ≤ k) && decide (k < x.2)) := by
    funext x; cases decide (x.1 ≤ k) <;> rfl
  simp (disch := first | assumption | rfl | omega | decide) only [mp_bind, m_assoc, m_opt, m_cond_pure, m_cond_bind, m_cond_t, m_cond_f, mapM_map, filM_map, fold_map, foldF_map, mapM_pure, filM_pure, fold_pure, asI_i, asB_b, asS_l, asS_t, seqOf_l, seqOf_t, addD_i, iaddD_i, subD_i, fdivD_i, modD_i, negD_i, absD_i, intD_i, max2D_i, min2D_i, ltD_i, leD_i, gtD_i, geD_i, eqD_i, neD_i, lenD_l, lenD_t, tupleD_l, tupleD_t, listD_l, list2D_l, list2D_t, listD_t, slD_l, slD_t, revD_l, truthD_b, truthD_n, ixD_l, ixD_t, un2_t, un3_t, un4_t, zipI_l, zipI_t, isD_n, isnD_n, isNone_n, isNone_i, isNone_b, isNone_s, isNone_l, isNone_t, m_eta, Bool.not_true, Bool.not_false, isL_list, atI_0, atI_1, atI_2, atI_3, c_t, c_f, m_needT, isi_tuple_n, isi_tuple_b, isi_tuple_i, isi_tuple_s, isi_tuple_l, isi_tuple_t, isi_list_n, isi_list_b, isi_list_i, isi_list_s, isi_list_l, isi_list_t, isi_dict_n, isi_dict_b, isi_dict_i, isi_dict_s, isi_dict_l, isi_dict_t, isi_str_n, isi_str_b, isi_str_i, isi_str_s, isi_str_l, isi_str_t, isi_bool_n, isi_bool_b, isi_bool_i, isi_bool_s, isi_bool_l, isi_bool_t, isi_int_n, isi_int_b, isi_int_i, isi_int_s, isi_int_l, isi_int_t, bind_run, pure_run, this, anyD_map]
  rfl
theorem e_lfree {b : Bu} {n : Str} {k : Int} : m__law_free (dB b) (.str n) (.int k) = M.pure (.bool (fr b n k)) := by
  simp (disch := first | assumption | rfl | omega | decide) only [mp_bind, m_assoc, m_opt, m_cond_pure, m_cond_bind, m_cond_t, m_cond_f, mapM_map, filM_map, fold_map, foldF_map, mapM_pure, filM_pure, fold_pure, asI_i, asB_b, asS_l, asS_t, seqOf_l, seqOf_t, addD_i, iaddD_i, subD_i, fdivD_i, modD_i, negD_i, absD_i, intD_i, max2D_i, min2D_i, ltD_i, leD_i, gtD_i, geD_i, eqD_i, neD_i, lenD_l, lenD_t, tupleD_l, tupleD_t, listD_l, list2D_l, list2D_t, listD_t, slD_l, slD_t, revD_l, truthD_b, truthD_n, ixD_l, ixD_t, un2_t, un3_t, un4_t, zipI_l, zipI_t, isD_n, isnD_n, isNone_n, isNone_i, isNone_b, isNone_s, isNone_l, isNone_t, m_eta, Bool.not_true, Bool.not_false, isL_list, atI_0, atI_1, atI_2, atI_3, c_t, c_f, m_needT, isi_tuple_n, isi_tuple_b, isi_tuple_i, isi_tuple_s, isi_tuple_l, isi_tuple_t, isi_list_n, isi_list_b, isi_list_i, isi_list_s, isi_list_l, isi_list_t, isi_dict_n, isi_dict_b, isi_dict_i, isi_dict_s, isi_dict_l, isi_dict_t, isi_str_n, isi_str_b, isi_str_i, isi_str_s, isi_str_l, isi_str_t, isi_bool_n, isi_bool_b, isi_bool_i, isi_bool_s, isi_bool_l, isi_bool_t, isi_int_n, isi_int_b, isi_int_i, isi_int_s, isi_int_l, isi_int_t, bind_run, pure_run, m__law_free, need_dB, get_dB, asS_tP, un2_pI]
  have : (fun x : PI => bif decide (x.1 ≤ k) then bif decide (k < x.2) then some (.int 1 : D) else none else none) = fun x => cond (decide (x.1 ≤ k) && decide (k < x.2)) (some (.int 1)) none := by
    funext x; cases decide (x.1 ≤ k) <;> rfl
  rw [this, filterMap_cond, eqD_nil (S := ((lk b n).filter fun p => decide (p.1 ≤ k) && decide (k < p.2)).map fun _ => (.int 1 : D)) (shA_map fun _ _ => sh_int)]
  unfold fr at_
  congr 2
  rw [List.isEmpty_map]
  cases h : (lk b n).any fun p => decide (p.1 ≤ k) && decide (k < p.2) with
  | false =>
    have : (lk b n).filter (fun p => decide (p.1 ≤ k) && decide (k < p.2)) = [] := List.filter_eq_nil_iff.mpr fun p hp => by
      have := List.any_eq_false.mp h p hp
      exact this
    rw [this]; rfl
  | true =>
    obtain ⟨p, hp, h2⟩ := List.any_eq_true.mp h
    have : p ∈ (lk b n).filter (fun p => decide (p.1 ≤ k) && decide (k < p.2)) := List.mem_filter.mpr ⟨hp, h2⟩
    cases hf : (lk b n).filter (fun p => decide (p.1 ≤ k) && decide (k < p.2)) with
    | nil => rw [hf] at this; cases this
    | cons q r => rfl
/-! ### stretches -/
def ls (g : Nat → Bool) : Nat → List PI × Option Int
  | 0 => ([], none)
  | n + 1 => if g n then ((ls g n).1, some ((ls g n).2.getD n)) else match (ls g n).2 with
    | some a => ((ls g n).1 ++ [(a, (n : Int))], none)
    | none => ((ls g n).1, none)
def cur (g : Nat → Bool) (n : Nat) : List PI := match (ls g n).2 with
  | none => (ls g n).1
  | some a => (ls g n).1 ++ [(a, (n : Int))]
theorem ls_t {g : Nat → Bool} {n : Nat} (h : g n = true) : ls g (n + 1) = ((ls g n).1, some ((ls g n).2.getD n)) := by rw [ls, if_pos h]
theorem ls_fs {g : Nat → Bool} {n : Nat} {a : Int} (h : g n = false) (h2 : (ls g n).2 = some a) : ls g (n + 1) = ((ls g n).1 ++ [(a, (n : Int))], none) := by rw [ls, if_neg (by rw [h]; exact Bool.false_ne_true), h2]
theorem ls_fn {g : Nat → Bool} {n : Nat} (h : g n = false) (h2 : (ls g n).2 = none) : ls g (n + 1) = ((ls g n).1, none) := by rw [ls, if_neg (by rw [h]; exact Bool.false_ne_true), h2]
/-- what is known of the stretches up to n -/
structure LsOk (g : Nat → Bool) (n : Nat) : Prop where
  en : ∀ p ∈ (ls g n).1, p.1 < p.2 ∧ 0 ≤ p.1 ∧ p.2 < (n : Int)
  nw : ∀ a, (ls g n).2 = some a → 0 ≤ a ∧ a < (n : Int) ∧ ∀ p ∈ (ls g n).1, p.1 < a
  up : ((ls g n).1.map (·.1)).Pairwise (· < ·)
  ln : (ls g n).1.length + (cond (ls g n).2.isSome 1 0) ≤ n
theorem ls_ok (g : Nat → Bool) : ∀ n, LsOk g n
  | 0 => ⟨by simp [ls], by simp [ls], by simp [ls], by simp [ls]⟩
  | n + 1 => by
    have ih := ls_ok g n
    have i1 := ih.en; have i2 := ih.nw; have i3 := ih.up; have i4 := ih.ln
    cases hg : g n with
    | true =>
      refine ⟨?_, ?_, ?_, ?_⟩ <;> rw [ls_t hg]
      · intro p hp; have := i1 p hp; omega
      · intro a ha
        cases hn : (ls g n).2 with
        | none =>
          rw [hn] at ha
          have : (n : Int) = a := by simpa using ha
          exact ⟨by omega, by omega, fun p hp => by have := i1 p hp; omega⟩
        | some b =>
          rw [hn] at ha
          have : b = a := by simpa using ha
          subst this
          have := i2 b hn
          exact ⟨by omega, by omega, this.2.2⟩
      · exact i3
      · cases hn : (ls g n).2 <;> rw [hn] at i4 <;> simp at i4 ⊢ <;> omega
    | false =>
      cases hn : (ls g n).2 with
      | none =>
        refine ⟨?_, ?_, ?_, ?_⟩ <;> rw [ls_fn hg hn]
        · intro p hp; have := i1 p hp; omega
        · intro a ha; cases ha
        · exact i3
        · rw [hn] at i4; simp at i4 ⊢; omega
      | some b =>
        have j := i2 b hn
        refine ⟨?_, ?_, ?_, ?_⟩ <;> rw [ls_fs hg hn]
        · intro p hp
          rcases List.mem_append.mp hp with hp | hp
          · have := i1 p hp; omega
          · rw [List.mem_singleton.mp hp]
            exact ⟨j.2.1, j.1, by show (n : Int) < _; omega⟩
        · intro a ha; cases ha
        · rw [List.map_append, List.pairwise_append]
          refine ⟨i3, by simp, fun x hx y hy => ?_⟩
          obtain ⟨p, hp, rfl⟩ := List.mem_map.mp hx
          simp at hy
          rw [hy]; exact j.2.2 p hp
        · rw [hn] at i4; simp at i4 ⊢; omega
/-- the stretches are ascending, none is empty, there are no more than n of them -/
theorem cur_ok (g : Nat → Bool) (n : Nat) : (∀ p ∈ cur g n, p.1 < p.2 ∧ 0 ≤ p.1 ∧ p.2 ≤ (n : Int)) ∧ ((cur g n).map (·.1)).Pairwise (· < ·) ∧ (cur g n).length ≤ n := by
  have ih := ls_ok g n
  have i1 := ih.en; have i2 := ih.nw; have i3 := ih.up; have i4 := ih.ln
  unfold cur
  cases hn : (ls g n).2 with
  | none =>
    rw [hn] at i4
    exact ⟨fun p hp => by have := i1 p hp; omega, i3, by simpa using i4⟩
  | some b =>
    have j := i2 b hn
    rw [hn] at i4
    refine ⟨fun p hp => ?_, ?_, by simpa using i4⟩
    · rcases List.mem_append.mp hp with hp | hp
      · have := i1 p hp; omega
      · rw [List.mem_singleton.mp hp]
        exact ⟨j.2.1, j.1, Int.le_refl _⟩
    · rw [List.map_append, List.pairwise_append]
      refine ⟨i3, by simp, fun x hx y hy => ?_⟩
      obtain ⟨p, hp, rfl⟩ := List.mem_map.mp hx
      simp at hy
      rw [hy]; exact j.2.2 p hp
end L33
namespace L33
open PySem PySem.Spec PyProof.Rows L2 Wp

theorem fold_append {σ α : Type} {f : σ → α → M σ} : ∀ {xs ys : List α} {s : σ}, M.fold f s (xs ++ ys) = (M.fold f s xs).bind fun s => M.fold f s ys
  | [], _, _ => by rw [List.nil_append]; rfl
  | x :: xs, ys, s => by
    show M.bind (f s x) (fun s' => M.fold f s' (xs ++ ys)) = (M.bind (f s x) fun s' => M.fold f s' xs).bind _
    rw [m_assoc]
    congr 1
    funext s'
    exact fold_append
theorem fold_filter {σ : Type} {f : σ → Nat → M σ} {g : Nat → Bool} (e : Nat → σ) {M' : Nat} (h1 : ∀ n, n < M' → g n = true → f (e n) n = M.pure (e (n + 1))) (h0 : ∀ n, g n = false → e (n + 1) = e n) : ∀ N, N ≤ M' → M.fold f (e 0) ((List.range N).filter g) = M.pure (e N)
  | 0, _ => rfl
  | N + 1, hN => by
    rw [List.range_succ, List.filter_append, fold_append, fold_filter e h1 h0 N (by omega), mp_bind, List.filter_cons, List.filter_nil]
    cases hg : g N with
    | true =>
      rw [if_pos rfl]
      show M.bind (f (e N) N) (fun s => M.pure s) = _
      rw [h1 N (by omega) hg, mp_bind]
    | false =>
      rw [if_neg Bool.false_ne_true, h0 N hg]; rfl
theorem sh_pI {n : Nat} {p : PI} : sh (n + 1) (pI p) = true := sh_tI
theorem pI_0 {p : PI} : ixD (pI p) (.int 0) = M.pure (.int p.1) := ix_tI (k := 0) (by simp)
theorem pI_1 {p : PI} : ixD (pI p) (.int 1) = M.pure (.int p.2) := ix_tI (xs := [p.1, p.2]) (k := 1) (by simp)
theorem mk_pI {a b : Int} : (PyData.tuple [.int a, .int b]) = pI (a, b) := rfl
theorem last_pI {ps : List PI} {p : PI} : atI ((ps ++ [p]).map pI) (-1) = some (pI p) := by
  rw [atI_map, atI_last (by simp), Option.map_some]; simp
theorem put_pI {ps : List PI} {p q : PI} : lputD (.list ((ps ++ [p]).map pI)) (.int (-1)) (pI q) = M.pure (.list ((ps ++ [q]).map pI)) := by
  have hl : ((ps ++ [p]).map pI).length = ps.length + 1 := by simp
  have e : ixN ((ps ++ [p]).map pI).length (-1) = some ps.length := by
    rw [hl]
    unfold ixN
    rw [if_neg (by omega), if_pos (by omega)]
    congr 1
    omega
  show (M.opt (ixN ((ps ++ [p]).map pI).length (-1))).bind (fun j => M.pure (PyData.list (((ps ++ [p]).map pI).set j (pI q)))) = _
  rw [e, m_opt, mp_bind]
  congr 2
  rw [List.map_append, List.map_append, List.set_append_right _ _ (by simp)]
  simp
theorem cur_t0 {g : Nat → Bool} {n : Nat} (h : g n = true) (h2 : (ls g n).2 = none) : cur g n = (ls g n).1 ∧ cur g (n + 1) = (ls g n).1 ++ [((n : Int), (n : Int) + 1)] := by
  unfold cur
  rw [ls_t h, h2]
  exact ⟨rfl, by simp⟩
theorem cur_t1 {g : Nat → Bool} {n : Nat} {a : Int} (h : g n = true) (h2 : (ls g n).2 = some a) : cur g n = (ls g n).1 ++ [(a, (n : Int))] ∧ cur g (n + 1) = (ls g n).1 ++ [(a, (n : Int) + 1)] := by
  unfold cur
  rw [ls_t h, h2]
  exact ⟨rfl, by simp⟩
theorem cur_f {g : Nat → Bool} {n : Nat} (h : g n = false) : cur g (n + 1) = cur g n := by
  unfold cur
  cases h2 : (ls g n).2 with
  | none => rw [ls_fn h h2]
  | some a => rw [ls_fs h h2]
theorem e_stretches {g : Nat → Bool} {N : Nat} (hN : N ≤ 1000) : m_stretches (.list (((List.range N).filter g).map fun (k : Nat) => .int (k : Int))) = M.pure (tP (cur g N)) := by
  simp (disch := first | assumption | rfl | omega | decide) only [mp_bind, m_assoc, m_opt, m_cond_pure, m_cond_bind, m_cond_t, m_cond_f, mapM_map, filM_map, fold_map, foldF_map, mapM_pure, filM_pure, fold_pure, asI_i, asB_b, asS_l, asS_t, seqOf_l, seqOf_t, addD_i, iaddD_i, subD_i, fdivD_i, modD_i, negD_i, absD_i, intD_i, max2D_i, min2D_i, ltD_i, leD_i, gtD_i, geD_i, eqD_i, neD_i, lenD_l, lenD_t, tupleD_l, tupleD_t, listD_l, list2D_l, list2D_t, listD_t, slD_l, slD_t, revD_l, truthD_b, truthD_n, ixD_l, ixD_t, un2_t, un3_t, un4_t, zipI_l, zipI_t, isD_n, isnD_n, isNone_n, isNone_i, isNone_b, isNone_s, isNone_l, isNone_t, m_eta, Bool.not_true, Bool.not_false, isL_list, atI_0, atI_1, atI_2, atI_3, c_t, c_f, m_needT, isi_tuple_n, isi_tuple_b, isi_tuple_i, isi_tuple_s, isi_tuple_l, isi_tuple_t, isi_list_n, isi_list_b, isi_list_i, isi_list_s, isi_list_l, isi_list_t, isi_dict_n, isi_dict_b, isi_dict_i, isi_dict_s, isi_dict_l, isi_dict_t, isi_str_n, isi_str_b, isi_str_i, isi_str_s, isi_str_l, isi_str_t, isi_bool_n, isi_bool_b, isi_bool_i, isi_bool_s, isi_bool_l, isi_bool_t, isi_int_n, isi_int_b, isi_int_i, isi_int_s, isi_int_l, isi_int_t, bind_run, pure_run, m_stretches]
  have hS : ∀ ps : List PI, neD (.list (ps.map pI)) (.list []) = M.pure (.bool (!ps.isEmpty)) := fun ps => by
    rw [neD_nil (shA_map fun _ _ => sh_pI), List.isEmpty_map]
  have hL : ∀ ps : List PI, isL (.list (ps.map pI)) = true := fun _ => rfl
  refine Eq.trans (congrArg (fun m => M.bind m _) (fold_filter (fun n => PyData.list ((cur g n).map pI)) (M' := N) (fun n hnN hg => ?_) (fun n hg => ?_) N (Nat.le_refl _))) ?_
  · cases hn : (ls g n).2 with
    | none =>
      obtain ⟨e1, e2⟩ := cur_t0 hg hn
      have hlen := (ls_ok g n).ln
      have hen := (ls_ok g n).en
      rw [e1, e2]
      have hap : appD (.list ((ls g n).1.map pI)) (pI ((n : Int), (n : Int) + 1)) = M.pure (.list (((ls g n).1 ++ [((n : Int), (n : Int) + 1)]).map pI)) := by
        rw [appD_l (by rw [List.length_map]; omega), List.map_append]; rfl
      rcases List.eq_nil_or_concat (ls g n).1 with h | ⟨qs, q, h⟩
      · rw [h] at hap ⊢
        have hb : ([] : List PI).isEmpty = true := rfl
        simp (disch := first | assumption | rfl | omega | decide) only [mp_bind, m_assoc, m_opt, m_cond_pure, m_cond_bind, m_cond_t, m_cond_f, mapM_map, filM_map, fold_map, foldF_map, mapM_pure, filM_pure, fold_pure, asI_i, asB_b, asS_l, asS_t, seqOf_l, seqOf_t, addD_i, iaddD_i, subD_i, fdivD_i, modD_i, negD_i, absD_i, intD_i, max2D_i, min2D_i, ltD_i, leD_i, gtD_i, geD_i, eqD_i, neD_i, lenD_l, lenD_t, tupleD_l, tupleD_t, listD_l, list2D_l, list2D_t, listD_t, slD_l, slD_t, revD_l, truthD_b, truthD_n, ixD_l, ixD_t, un2_t, un3_t, un4_t, zipI_l, zipI_t, isD_n, isnD_n, isNone_n, isNone_i, isNone_b, isNone_s, isNone_l, isNone_t, m_eta, Bool.not_true, Bool.not_false, isL_list, atI_0, atI_1, atI_2, atI_3, c_t, c_f, m_needT, isi_tuple_n, isi_tuple_b, isi_tuple_i, isi_tuple_s, isi_tuple_l, isi_tuple_t, isi_list_n, isi_list_b, isi_list_i, isi_list_s, isi_list_l, isi_list_t, isi_dict_n, isi_dict_b, isi_dict_i, isi_dict_s, isi_dict_l, isi_dict_t, isi_str_n, isi_str_b, isi_str_i, isi_str_s, isi_str_l, isi_str_t, isi_bool_n, isi_bool_b, isi_bool_i, isi_bool_s, isi_bool_l, isi_bool_t, isi_int_n, isi_int_b, isi_int_i, isi_int_s, isi_int_l, isi_int_t, bind_run, pure_run, hS, hb, hL, mk_pI, hap, Bool.not_true]
      · have hq := (hen q (by rw [h]; simp)).2.2
        rw [List.concat_eq_append] at h
        rw [h] at hap ⊢
        have hb : (qs ++ [q]).isEmpty = false := by simp
        simp (disch := first | assumption | rfl | omega | decide) only [mp_bind, m_assoc, m_opt, m_cond_pure, m_cond_bind, m_cond_t, m_cond_f, mapM_map, filM_map, fold_map, foldF_map, mapM_pure, filM_pure, fold_pure, asI_i, asB_b, asS_l, asS_t, seqOf_l, seqOf_t, addD_i, iaddD_i, subD_i, fdivD_i, modD_i, negD_i, absD_i, intD_i, max2D_i, min2D_i, ltD_i, leD_i, gtD_i, geD_i, eqD_i, neD_i, lenD_l, lenD_t, tupleD_l, tupleD_t, listD_l, list2D_l, list2D_t, listD_t, slD_l, slD_t, revD_l, truthD_b, truthD_n, ixD_l, ixD_t, un2_t, un3_t, un4_t, zipI_l, zipI_t, isD_n, isnD_n, isNone_n, isNone_i, isNone_b, isNone_s, isNone_l, isNone_t, m_eta, Bool.not_true, Bool.not_false, isL_list, atI_0, atI_1, atI_2, atI_3, c_t, c_f, m_needT, isi_tuple_n, isi_tuple_b, isi_tuple_i, isi_tuple_s, isi_tuple_l, isi_tuple_t, isi_list_n, isi_list_b, isi_list_i, isi_list_s, isi_list_l, isi_list_t, isi_dict_n, isi_dict_b, isi_dict_i, isi_dict_s, isi_dict_l, isi_dict_t, isi_str_n, isi_str_b, isi_str_i, isi_str_s, isi_str_l, isi_str_t, isi_bool_n, isi_bool_b, isi_bool_i, isi_bool_s, isi_bool_l, isi_bool_t, isi_int_n, isi_int_b, isi_int_i, isi_int_s, isi_int_l, isi_int_t, bind_run, pure_run, hS, hb, last_pI, pI_1, hL, mk_pI, decide_eq_false (show ¬ q.2 = (n : Int) by omega), hap, Bool.not_false]
    | some a =>
      obtain ⟨e1, e2⟩ := cur_t1 hg hn
      rw [e1, e2]
      have hb : ((ls g n).1 ++ [(a, (n : Int))]).isEmpty = false := by simp
      simp (disch := first | assumption | rfl | omega | decide) only [mp_bind, m_assoc, m_opt, m_cond_pure, m_cond_bind, m_cond_t, m_cond_f, mapM_map, filM_map, fold_map, foldF_map, mapM_pure, filM_pure, fold_pure, asI_i, asB_b, asS_l, asS_t, seqOf_l, seqOf_t, addD_i, iaddD_i, subD_i, fdivD_i, modD_i, negD_i, absD_i, intD_i, max2D_i, min2D_i, ltD_i, leD_i, gtD_i, geD_i, eqD_i, neD_i, lenD_l, lenD_t, tupleD_l, tupleD_t, listD_l, list2D_l, list2D_t, listD_t, slD_l, slD_t, revD_l, truthD_b, truthD_n, ixD_l, ixD_t, un2_t, un3_t, un4_t, zipI_l, zipI_t, isD_n, isnD_n, isNone_n, isNone_i, isNone_b, isNone_s, isNone_l, isNone_t, m_eta, Bool.not_true, Bool.not_false, isL_list, atI_0, atI_1, atI_2, atI_3, c_t, c_f, m_needT, isi_tuple_n, isi_tuple_b, isi_tuple_i, isi_tuple_s, isi_tuple_l, isi_tuple_t, isi_list_n, isi_list_b, isi_list_i, isi_list_s, isi_list_l, isi_list_t, isi_dict_n, isi_dict_b, isi_dict_i, isi_dict_s, isi_dict_l, isi_dict_t, isi_str_n, isi_str_b, isi_str_i, isi_str_s, isi_str_l, isi_str_t, isi_bool_n, isi_bool_b, isi_bool_i, isi_bool_s, isi_bool_l, isi_bool_t, isi_int_n, isi_int_b, isi_int_i, isi_int_s, isi_int_l, isi_int_t, bind_run, pure_run, hS, hb, last_pI, pI_1, pI_0, hL, mk_pI, put_pI, decide_true]
  · rw [cur_f hg]
  · simp (disch := first | assumption | rfl | omega | decide) only [mp_bind, m_assoc, m_opt, m_cond_pure, m_cond_bind, m_cond_t, m_cond_f, mapM_map, filM_map, fold_map, foldF_map, mapM_pure, filM_pure, fold_pure, asI_i, asB_b, asS_l, asS_t, seqOf_l, seqOf_t, addD_i, iaddD_i, subD_i, fdivD_i, modD_i, negD_i, absD_i, intD_i, max2D_i, min2D_i, ltD_i, leD_i, gtD_i, geD_i, eqD_i, neD_i, lenD_l, lenD_t, tupleD_l, tupleD_t, listD_l, list2D_l, list2D_t, listD_t, slD_l, slD_t, revD_l, truthD_b, truthD_n, ixD_l, ixD_t, un2_t, un3_t, un4_t, zipI_l, zipI_t, isD_n, isnD_n, isNone_n, isNone_i, isNone_b, isNone_s, isNone_l, isNone_t, m_eta, Bool.not_true, Bool.not_false, isL_list, atI_0, atI_1, atI_2, atI_3, c_t, c_f, m_needT, isi_tuple_n, isi_tuple_b, isi_tuple_i, isi_tuple_s, isi_tuple_l, isi_tuple_t, isi_list_n, isi_list_b, isi_list_i, isi_list_s, isi_list_l, isi_list_t, isi_dict_n, isi_dict_b, isi_dict_i, isi_dict_s, isi_dict_l, isi_dict_t, isi_str_n, isi_str_b, isi_str_i, isi_str_s, isi_str_l, isi_str_t, isi_bool_n, isi_bool_b, isi_bool_i, isi_bool_s, isi_bool_l, isi_bool_t, isi_int_n, isi_int_b, isi_int_i, isi_int_s, isi_int_l, isi_int_t, bind_run, pure_run]
    rfl
end L33
namespace L33
open PySem PySem.Spec PyProof.Rows L2 Wp

def gd (b : Bu) (ns : List Str) (k : Nat) : Bool := ns.all fun n => fr b n (k : Int)
theorem isEmpty_filter {α : Type} {p : α → Bool} {xs : List α} : (xs.filter p).isEmpty = !xs.any p := by
  induction xs with
  | nil => rfl
  | cons x xs ih =>
    rw [List.filter_cons, List.any_cons]
    cases p x with
    | true => rfl
    | false => rw [if_neg Bool.false_ne_true, ih]; rfl
theorem any_not {α : Type} {p : α → Bool} {xs : List α} : (!xs.any fun x => !p x) = xs.all p := by
  induction xs with
  | nil => rfl
  | cons x xs ih =>
    rw [List.any_cons, List.all_cons, ← ih]
    cases p x <;> simp
def gN (g : Nat → Bool) (N k : Nat) : Bool := decide (k < N) && g k
theorem in_good {N : Nat} {g : Nat → Bool} {k : Nat} : inD (.int (k : Int)) (.list (((List.range N).filter g).map fun (k : Nat) => (.int (k : Int) : D))) = M.pure (.bool (gN g N k)) := by
  rw [inD_l sh_int (shA_map fun _ _ => sh_int)]
  congr 2
  rw [List.any_map]
  unfold gN
  cases h : decide (k < N) && g k with
  | true =>
    obtain ⟨h1, h2⟩ := Bool.and_eq_true_iff.mp h
    exact List.any_eq_true.mpr ⟨k, List.mem_filter.mpr ⟨List.mem_range.mpr (of_decide_eq_true h1), h2⟩, by simp [PyData.eqv]⟩
  | false =>
    refine List.any_eq_false.mpr fun j hj hc => ?_
    obtain ⟨h1, h2⟩ := List.mem_filter.mp hj
    have e : j = k := by
      have : (j : Int) = (k : Int) := by simpa [PyData.eqv] using hc
      omega
    subst e
    rw [decide_eq_true (List.mem_range.mp h1), h2] at h
    cases h
theorem ls_gN {N : Nat} {g : Nat → Bool} : ∀ n, n ≤ N → ls (gN g N) n = ls g n
  | 0, _ => rfl
  | n + 1, h => by
    have e : gN g N n = g n := by unfold gN; rw [decide_eq_true (show n < N by omega)]; rfl
    rw [ls, ls, e, ls_gN n (by omega)]
theorem ls_cur {N : Nat} {g : Nat → Bool} : (ls (gN g N) (N + 1)).1 = cur g N := by
  have e : gN g N N = false := by unfold gN; rw [decide_eq_false (by omega)]; rfl
  unfold cur
  have h := ls_gN (g := g) N (Nat.le_refl _)
  cases h2 : (ls g N).2 with
  | none => rw [ls_fn e (by rw [h]; exact h2), h]
  | some a => rw [ls_fs e (by rw [h]; exact h2), h]
theorem isD_optI {m : Option Int} : isD (optI m) .none = M.pure (.bool m.isNone) := by cases m <;> rw [isD_n] <;> rfl
theorem isnD_optI {m : Option Int} : isnD (optI m) .none = M.pure (.bool m.isSome) := by cases m <;> rw [isnD_n] <;> rfl
/-! ### the first meeting -/
def firstM (rows : List PI) (long : Int) : Option Int := ((rows.filter fun p => decide (long ≤ p.2 - p.1)).map (·.1)).head?
theorem head_D {xs : List Int} : ((neD (.list (xs.map .int)) (.list [])).bind fun z => (asB z).bind fun b => cond b (ixD (.list (xs.map .int)) (.int 0)) (M.pure .none)) = M.pure (optI xs.head?) := by
  rw [neD_nil (shA_map fun _ _ => sh_int)]
  cases xs with
  | nil => simp (disch := first | assumption | rfl | omega | decide) only [mp_bind, m_assoc, m_opt, m_cond_pure, m_cond_bind, m_cond_t, m_cond_f, mapM_map, filM_map, fold_map, foldF_map, mapM_pure, filM_pure, fold_pure, asI_i, asB_b, asS_l, asS_t, seqOf_l, seqOf_t, addD_i, iaddD_i, subD_i, fdivD_i, modD_i, negD_i, absD_i, intD_i, max2D_i, min2D_i, ltD_i, leD_i, gtD_i, geD_i, eqD_i, neD_i, lenD_l, lenD_t, tupleD_l, tupleD_t, listD_l, list2D_l, list2D_t, listD_t, slD_l, slD_t, revD_l, truthD_b, truthD_n, ixD_l, ixD_t, un2_t, un3_t, un4_t, zipI_l, zipI_t, isD_n, isnD_n, isNone_n, isNone_i, isNone_b, isNone_s, isNone_l, isNone_t, m_eta, Bool.not_true, Bool.not_false, isL_list, atI_0, atI_1, atI_2, atI_3, c_t, c_f, m_needT, isi_tuple_n, isi_tuple_b, isi_tuple_i, isi_tuple_s, isi_tuple_l, isi_tuple_t, isi_list_n, isi_list_b, isi_list_i, isi_list_s, isi_list_l, isi_list_t, isi_dict_n, isi_dict_b, isi_dict_i, isi_dict_s, isi_dict_l, isi_dict_t, isi_str_n, isi_str_b, isi_str_i, isi_str_s, isi_str_l, isi_str_t, isi_bool_n, isi_bool_b, isi_bool_i, isi_bool_s, isi_bool_l, isi_bool_t, isi_int_n, isi_int_b, isi_int_i, isi_int_s, isi_int_l, isi_int_t, bind_run, pure_run, List.map_nil, List.isEmpty_nil, Bool.not_true]; rfl
  | cons x xs => simp (disch := first | assumption | rfl | omega | decide) only [mp_bind, m_assoc, m_opt, m_cond_pure, m_cond_bind, m_cond_t, m_cond_f, mapM_map, filM_map, fold_map, foldF_map, mapM_pure, filM_pure, fold_pure, asI_i, asB_b, asS_l, asS_t, seqOf_l, seqOf_t, addD_i, iaddD_i, subD_i, fdivD_i, modD_i, negD_i, absD_i, intD_i, max2D_i, min2D_i, ltD_i, leD_i, gtD_i, geD_i, eqD_i, neD_i, lenD_l, lenD_t, tupleD_l, tupleD_t, listD_l, list2D_l, list2D_t, listD_t, slD_l, slD_t, revD_l, truthD_b, truthD_n, ixD_l, ixD_t, un2_t, un3_t, un4_t, zipI_l, zipI_t, isD_n, isnD_n, isNone_n, isNone_i, isNone_b, isNone_s, isNone_l, isNone_t, m_eta, Bool.not_true, Bool.not_false, isL_list, atI_0, atI_1, atI_2, atI_3, c_t, c_f, m_needT, isi_tuple_n, isi_tuple_b, isi_tuple_i, isi_tuple_s, isi_tuple_l, isi_tuple_t, isi_list_n, isi_list_b, isi_list_i, isi_list_s, isi_list_l, isi_list_t, isi_dict_n, isi_dict_b, isi_dict_i, isi_dict_s, isi_dict_l, isi_dict_t, isi_str_n, isi_str_b, isi_str_i, isi_str_s, isi_str_l, isi_str_t, isi_bool_n, isi_bool_b, isi_bool_i, isi_bool_s, isi_bool_l, isi_bool_t, isi_int_n, isi_int_b, isi_int_i, isi_int_s, isi_int_l, isi_int_t, bind_run, pure_run, List.map_cons, List.isEmpty_cons, Bool.not_false]; rfl
section
variable {b : Bu} {P : D} {ns : List Str} {N : Nat} (hP : asS P = M.pure (ns.map .str)) (hs : ∀ n ∈ ns, PyData.strOk n = true) (hN : N ≤ 1000)
include hP hs hN
theorem e_all : m_all_free (dB b) P (.int (N : Int)) = M.pure (tP (cur (gd b ns) N)) := by
  simp (disch := first | assumption | rfl | omega | decide) only [mp_bind, m_assoc, m_opt, m_cond_pure, m_cond_bind, m_cond_t, m_cond_f, mapM_map, filM_map, fold_map, foldF_map, mapM_pure, filM_pure, fold_pure, asI_i, asB_b, asS_l, asS_t, seqOf_l, seqOf_t, addD_i, iaddD_i, subD_i, fdivD_i, modD_i, negD_i, absD_i, intD_i, max2D_i, min2D_i, ltD_i, leD_i, gtD_i, geD_i, eqD_i, neD_i, lenD_l, lenD_t, tupleD_l, tupleD_t, listD_l, list2D_l, list2D_t, listD_t, slD_l, slD_t, revD_l, truthD_b, truthD_n, ixD_l, ixD_t, un2_t, un3_t, un4_t, zipI_l, zipI_t, isD_n, isnD_n, isNone_n, isNone_i, isNone_b, isNone_s, isNone_l, isNone_t, m_eta, Bool.not_true, Bool.not_false, isL_list, atI_0, atI_1, atI_2, atI_3, c_t, c_f, m_needT, isi_tuple_n, isi_tuple_b, isi_tuple_i, isi_tuple_s, isi_tuple_l, isi_tuple_t, isi_list_n, isi_list_b, isi_list_i, isi_list_s, isi_list_l, isi_list_t, isi_dict_n, isi_dict_b, isi_dict_i, isi_dict_s, isi_dict_l, isi_dict_t, isi_str_n, isi_str_b, isi_str_i, isi_str_s, isi_str_l, isi_str_t, isi_bool_n, isi_bool_b, isi_bool_i, isi_bool_s, isi_bool_l, isi_bool_t, isi_int_n, isi_int_b, isi_int_i, isi_int_s, isi_int_l, isi_int_t, bind_run, pure_run, m_all_free, rngD_n (n := (N : Int)) (by omega) (by omega), Int.toNat_natCast, hP, e_free, allD_map, filterMap_cond, e_stretches hN]
  rfl
theorem e_lall : m__law_all (dB b) P (.int (N : Int)) = M.pure (.list ((cur (gd b ns) N).map pI)) := by
  have hE : ∀ k : Int, eqD (.list ((ns.filter fun n => !fr b n k).map fun n => (.str n : D))) (.list []) = M.pure (.bool (ns.all fun n => fr b n k)) := fun k => by
    rw [eqD_nil (shA_map fun n hn => by simpa [sh] using hs n (List.mem_filter.mp hn).1), List.isEmpty_map, isEmpty_filter, any_not]
  have eN : ((N : Int) + 1).toNat = N + 1 := by omega
  simp (disch := first | assumption | rfl | omega | decide) only [mp_bind, m_assoc, m_opt, m_cond_pure, m_cond_bind, m_cond_t, m_cond_f, mapM_map, filM_map, fold_map, foldF_map, mapM_pure, filM_pure, fold_pure, asI_i, asB_b, asS_l, asS_t, seqOf_l, seqOf_t, addD_i, iaddD_i, subD_i, fdivD_i, modD_i, negD_i, absD_i, intD_i, max2D_i, min2D_i, ltD_i, leD_i, gtD_i, geD_i, eqD_i, neD_i, lenD_l, lenD_t, tupleD_l, tupleD_t, listD_l, list2D_l, list2D_t, listD_t, slD_l, slD_t, revD_l, truthD_b, truthD_n, ixD_l, ixD_t, un2_t, un3_t, un4_t, zipI_l, zipI_t, isD_n, isnD_n, isNone_n, isNone_i, isNone_b, isNone_s, isNone_l, isNone_t, m_eta, Bool.not_true, Bool.not_false, isL_list, atI_0, atI_1, atI_2, atI_3, c_t, c_f, m_needT, isi_tuple_n, isi_tuple_b, isi_tuple_i, isi_tuple_s, isi_tuple_l, isi_tuple_t, isi_list_n, isi_list_b, isi_list_i, isi_list_s, isi_list_l, isi_list_t, isi_dict_n, isi_dict_b, isi_dict_i, isi_dict_s, isi_dict_l, isi_dict_t, isi_str_n, isi_str_b, isi_str_i, isi_str_s, isi_str_l, isi_str_t, isi_bool_n, isi_bool_b, isi_bool_i, isi_bool_s, isi_bool_l, isi_bool_t, isi_int_n, isi_int_b, isi_int_i, isi_int_s, isi_int_l, isi_int_t, bind_run, pure_run, m__law_all, rngD_n (n := (N : Int)) (by omega) (by omega), rngD_n (n := (N : Int) + 1) (by omega) (by omega), Int.toNat_natCast, eN, hP, e_lfree, filterMap_cond, hE]
  have hin := fun k => in_good (N := N) (g := gd b ns) (k := k)
  generalize hgl : List.filter (fun (k : Nat) => ns.all fun n => fr b n (k : Int)) (List.range N) = gl
  have hgl' : List.filter (gd b ns) (List.range N) = gl := hgl
  rw [hgl'] at hin
  have hcur := ls_cur (N := N) (g := gd b ns)
  generalize gd b ns = G at *
  refine Eq.trans (congrArg (fun m => M.bind m _) (fold_steps (fun n => (PyData.list ((ls (gN G N) n).1.map pI), optI (ls (gN G N) n).2)) (k := 0) (fun i hi => ?_))) ?_
  · rw [List.getElem_range, Nat.zero_add]
    have hlen := (ls_ok (gN G N) i).ln
    have hi' : i < N + 1 := by simpa using hi
    have hin' := hin i
    have hnin := ninD_of hin'
    generalize gN G N = H at *
    cases hg : H i with
    | true =>
      rw [hg] at hin' hnin
      rw [ls_t hg]
      cases hn : (ls H i).2 with
      | none => simp (disch := first | assumption | rfl | omega | decide) only [mp_bind, m_assoc, m_opt, m_cond_pure, m_cond_bind, m_cond_t, m_cond_f, mapM_map, filM_map, fold_map, foldF_map, mapM_pure, filM_pure, fold_pure, asI_i, asB_b, asS_l, asS_t, seqOf_l, seqOf_t, addD_i, iaddD_i, subD_i, fdivD_i, modD_i, negD_i, absD_i, intD_i, max2D_i, min2D_i, ltD_i, leD_i, gtD_i, geD_i, eqD_i, neD_i, lenD_l, lenD_t, tupleD_l, tupleD_t, listD_l, list2D_l, list2D_t, listD_t, slD_l, slD_t, revD_l, truthD_b, truthD_n, ixD_l, ixD_t, un2_t, un3_t, un4_t, zipI_l, zipI_t, isD_n, isnD_n, isNone_n, isNone_i, isNone_b, isNone_s, isNone_l, isNone_t, m_eta, Bool.not_true, Bool.not_false, isL_list, atI_0, atI_1, atI_2, atI_3, c_t, c_f, m_needT, isi_tuple_n, isi_tuple_b, isi_tuple_i, isi_tuple_s, isi_tuple_l, isi_tuple_t, isi_list_n, isi_list_b, isi_list_i, isi_list_s, isi_list_l, isi_list_t, isi_dict_n, isi_dict_b, isi_dict_i, isi_dict_s, isi_dict_l, isi_dict_t, isi_str_n, isi_str_b, isi_str_i, isi_str_s, isi_str_l, isi_str_t, isi_bool_n, isi_bool_b, isi_bool_i, isi_bool_s, isi_bool_l, isi_bool_t, isi_int_n, isi_int_b, isi_int_i, isi_int_s, isi_int_l, isi_int_t, bind_run, pure_run, hin', hnin, isD_optI, isnD_optI, Option.isNone_none, Option.isSome_some, Option.getD_none, Bool.not_true]; rfl
      | some a => simp (disch := first | assumption | rfl | omega | decide) only [mp_bind, m_assoc, m_opt, m_cond_pure, m_cond_bind, m_cond_t, m_cond_f, mapM_map, filM_map, fold_map, foldF_map, mapM_pure, filM_pure, fold_pure, asI_i, asB_b, asS_l, asS_t, seqOf_l, seqOf_t, addD_i, iaddD_i, subD_i, fdivD_i, modD_i, negD_i, absD_i, intD_i, max2D_i, min2D_i, ltD_i, leD_i, gtD_i, geD_i, eqD_i, neD_i, lenD_l, lenD_t, tupleD_l, tupleD_t, listD_l, list2D_l, list2D_t, listD_t, slD_l, slD_t, revD_l, truthD_b, truthD_n, ixD_l, ixD_t, un2_t, un3_t, un4_t, zipI_l, zipI_t, isD_n, isnD_n, isNone_n, isNone_i, isNone_b, isNone_s, isNone_l, isNone_t, m_eta, Bool.not_true, Bool.not_false, isL_list, atI_0, atI_1, atI_2, atI_3, c_t, c_f, m_needT, isi_tuple_n, isi_tuple_b, isi_tuple_i, isi_tuple_s, isi_tuple_l, isi_tuple_t, isi_list_n, isi_list_b, isi_list_i, isi_list_s, isi_list_l, isi_list_t, isi_dict_n, isi_dict_b, isi_dict_i, isi_dict_s, isi_dict_l, isi_dict_t, isi_str_n, isi_str_b, isi_str_i, isi_str_s, isi_str_l, isi_str_t, isi_bool_n, isi_bool_b, isi_bool_i, isi_bool_s, isi_bool_l, isi_bool_t, isi_int_n, isi_int_b, isi_int_i, isi_int_s, isi_int_l, isi_int_t, bind_run, pure_run, hin', hnin, isD_optI, isnD_optI, Option.isNone_some, Option.isSome_some, Option.getD_some, Bool.not_true]; rfl
    | false =>
      rw [hg] at hin' hnin
      cases hn : (ls H i).2 with
      | none =>
        rw [ls_fn hg hn]
        simp (disch := first | assumption | rfl | omega | decide) only [mp_bind, m_assoc, m_opt, m_cond_pure, m_cond_bind, m_cond_t, m_cond_f, mapM_map, filM_map, fold_map, foldF_map, mapM_pure, filM_pure, fold_pure, asI_i, asB_b, asS_l, asS_t, seqOf_l, seqOf_t, addD_i, iaddD_i, subD_i, fdivD_i, modD_i, negD_i, absD_i, intD_i, max2D_i, min2D_i, ltD_i, leD_i, gtD_i, geD_i, eqD_i, neD_i, lenD_l, lenD_t, tupleD_l, tupleD_t, listD_l, list2D_l, list2D_t, listD_t, slD_l, slD_t, revD_l, truthD_b, truthD_n, ixD_l, ixD_t, un2_t, un3_t, un4_t, zipI_l, zipI_t, isD_n, isnD_n, isNone_n, isNone_i, isNone_b, isNone_s, isNone_l, isNone_t, m_eta, Bool.not_true, Bool.not_false, isL_list, atI_0, atI_1, atI_2, atI_3, c_t, c_f, m_needT, isi_tuple_n, isi_tuple_b, isi_tuple_i, isi_tuple_s, isi_tuple_l, isi_tuple_t, isi_list_n, isi_list_b, isi_list_i, isi_list_s, isi_list_l, isi_list_t, isi_dict_n, isi_dict_b, isi_dict_i, isi_dict_s, isi_dict_l, isi_dict_t, isi_str_n, isi_str_b, isi_str_i, isi_str_s, isi_str_l, isi_str_t, isi_bool_n, isi_bool_b, isi_bool_i, isi_bool_s, isi_bool_l, isi_bool_t, isi_int_n, isi_int_b, isi_int_i, isi_int_s, isi_int_l, isi_int_t, bind_run, pure_run, hin', hnin, isD_optI, isnD_optI, Option.isNone_none, Option.isSome_none, Bool.not_false]
        rfl
      | some a =>
        rw [ls_fs hg hn]
        simp (disch := first | assumption | rfl | omega | decide) only [mp_bind, m_assoc, m_opt, m_cond_pure, m_cond_bind, m_cond_t, m_cond_f, mapM_map, filM_map, fold_map, foldF_map, mapM_pure, filM_pure, fold_pure, asI_i, asB_b, asS_l, asS_t, seqOf_l, seqOf_t, addD_i, iaddD_i, subD_i, fdivD_i, modD_i, negD_i, absD_i, intD_i, max2D_i, min2D_i, ltD_i, leD_i, gtD_i, geD_i, eqD_i, neD_i, lenD_l, lenD_t, tupleD_l, tupleD_t, listD_l, list2D_l, list2D_t, listD_t, slD_l, slD_t, revD_l, truthD_b, truthD_n, ixD_l, ixD_t, un2_t, un3_t, un4_t, zipI_l, zipI_t, isD_n, isnD_n, isNone_n, isNone_i, isNone_b, isNone_s, isNone_l, isNone_t, m_eta, Bool.not_true, Bool.not_false, isL_list, atI_0, atI_1, atI_2, atI_3, c_t, c_f, m_needT, isi_tuple_n, isi_tuple_b, isi_tuple_i, isi_tuple_s, isi_tuple_l, isi_tuple_t, isi_list_n, isi_list_b, isi_list_i, isi_list_s, isi_list_l, isi_list_t, isi_dict_n, isi_dict_b, isi_dict_i, isi_dict_s, isi_dict_l, isi_dict_t, isi_str_n, isi_str_b, isi_str_i, isi_str_s, isi_str_l, isi_str_t, isi_bool_n, isi_bool_b, isi_bool_i, isi_bool_s, isi_bool_l, isi_bool_t, isi_int_n, isi_int_b, isi_int_i, isi_int_s, isi_int_l, isi_int_t, bind_run, pure_run, hin', hnin, isD_optI, isnD_optI, Option.isNone_some, Option.isSome_some, Bool.not_false, addD_l (xs := (ls H i).1.map pI) (ys := [.tuple [optI (some a), .int (i : Int)]]) (by rw [List.length_map]; simp; omega), List.map_append]
        rfl
  · rw [List.length_range, Nat.zero_add]
    simp (disch := first | assumption | rfl | omega | decide) only [mp_bind, m_assoc, m_opt, m_cond_pure, m_cond_bind, m_cond_t, m_cond_f, mapM_map, filM_map, fold_map, foldF_map, mapM_pure, filM_pure, fold_pure, asI_i, asB_b, asS_l, asS_t, seqOf_l, seqOf_t, addD_i, iaddD_i, subD_i, fdivD_i, modD_i, negD_i, absD_i, intD_i, max2D_i, min2D_i, ltD_i, leD_i, gtD_i, geD_i, eqD_i, neD_i, lenD_l, lenD_t, tupleD_l, tupleD_t, listD_l, list2D_l, list2D_t, listD_t, slD_l, slD_t, revD_l, truthD_b, truthD_n, ixD_l, ixD_t, un2_t, un3_t, un4_t, zipI_l, zipI_t, isD_n, isnD_n, isNone_n, isNone_i, isNone_b, isNone_s, isNone_l, isNone_t, m_eta, Bool.not_true, Bool.not_false, isL_list, atI_0, atI_1, atI_2, atI_3, c_t, c_f, m_needT, isi_tuple_n, isi_tuple_b, isi_tuple_i, isi_tuple_s, isi_tuple_l, isi_tuple_t, isi_list_n, isi_list_b, isi_list_i, isi_list_s, isi_list_l, isi_list_t, isi_dict_n, isi_dict_b, isi_dict_i, isi_dict_s, isi_dict_l, isi_dict_t, isi_str_n, isi_str_b, isi_str_i, isi_str_s, isi_str_l, isi_str_t, isi_bool_n, isi_bool_b, isi_bool_i, isi_bool_s, isi_bool_l, isi_bool_t, isi_int_n, isi_int_b, isi_int_i, isi_int_s, isi_int_l, isi_int_t, bind_run, pure_run, hcur]
theorem e_first {long : Int} : m_first_meeting (dB b) P (.int long) (.int (N : Int)) = M.pure (optI (firstM (cur (gd b ns) N) long)) := by
  have h := head_D (xs := ((cur (gd b ns) N).filter fun p => decide (long ≤ p.2 - p.1)).map (·.1))
  have em : (((cur (gd b ns) N).filter fun p => decide (long ≤ p.2 - p.1)).map fun p => (.int p.1 : D)) = (((cur (gd b ns) N).filter fun p => decide (long ≤ p.2 - p.1)).map (·.1)).map .int := by rw [List.map_map]; rfl
  simp (disch := first | assumption | rfl | omega | decide) only [mp_bind, m_assoc, m_opt, m_cond_pure, m_cond_bind, m_cond_t, m_cond_f, mapM_map, filM_map, fold_map, foldF_map, mapM_pure, filM_pure, fold_pure, asI_i, asB_b, asS_l, asS_t, seqOf_l, seqOf_t, addD_i, iaddD_i, subD_i, fdivD_i, modD_i, negD_i, absD_i, intD_i, max2D_i, min2D_i, ltD_i, leD_i, gtD_i, geD_i, eqD_i, neD_i, lenD_l, lenD_t, tupleD_l, tupleD_t, listD_l, list2D_l, list2D_t, listD_t, slD_l, slD_t, revD_l, truthD_b, truthD_n, ixD_l, ixD_t, un2_t, un3_t, un4_t, zipI_l, zipI_t, isD_n, isnD_n, isNone_n, isNone_i, isNone_b, isNone_s, isNone_l, isNone_t, m_eta, Bool.not_true, Bool.not_false, isL_list, atI_0, atI_1, atI_2, atI_3, c_t, c_f, m_needT, isi_tuple_n, isi_tuple_b, isi_tuple_i, isi_tuple_s, isi_tuple_l, isi_tuple_t, isi_list_n, isi_list_b, isi_list_i, isi_list_s, isi_list_l, isi_list_t, isi_dict_n, isi_dict_b, isi_dict_i, isi_dict_s, isi_dict_l, isi_dict_t, isi_str_n, isi_str_b, isi_str_i, isi_str_s, isi_str_l, isi_str_t, isi_bool_n, isi_bool_b, isi_bool_i, isi_bool_s, isi_bool_l, isi_bool_t, isi_int_n, isi_int_b, isi_int_i, isi_int_s, isi_int_l, isi_int_t, bind_run, pure_run, mp_bind] at h
  simp (disch := first | assumption | rfl | omega | decide) only [mp_bind, m_assoc, m_opt, m_cond_pure, m_cond_bind, m_cond_t, m_cond_f, mapM_map, filM_map, fold_map, foldF_map, mapM_pure, filM_pure, fold_pure, asI_i, asB_b, asS_l, asS_t, seqOf_l, seqOf_t, addD_i, iaddD_i, subD_i, fdivD_i, modD_i, negD_i, absD_i, intD_i, max2D_i, min2D_i, ltD_i, leD_i, gtD_i, geD_i, eqD_i, neD_i, lenD_l, lenD_t, tupleD_l, tupleD_t, listD_l, list2D_l, list2D_t, listD_t, slD_l, slD_t, revD_l, truthD_b, truthD_n, ixD_l, ixD_t, un2_t, un3_t, un4_t, zipI_l, zipI_t, isD_n, isnD_n, isNone_n, isNone_i, isNone_b, isNone_s, isNone_l, isNone_t, m_eta, Bool.not_true, Bool.not_false, isL_list, atI_0, atI_1, atI_2, atI_3, c_t, c_f, m_needT, isi_tuple_n, isi_tuple_b, isi_tuple_i, isi_tuple_s, isi_tuple_l, isi_tuple_t, isi_list_n, isi_list_b, isi_list_i, isi_list_s, isi_list_l, isi_list_t, isi_dict_n, isi_dict_b, isi_dict_i, isi_dict_s, isi_dict_l, isi_dict_t, isi_str_n, isi_str_b, isi_str_i, isi_str_s, isi_str_l, isi_str_t, isi_bool_n, isi_bool_b, isi_bool_i, isi_bool_s, isi_bool_l, isi_bool_t, isi_int_n, isi_int_b, isi_int_i, isi_int_s, isi_int_l, isi_int_t, bind_run, pure_run, m_first_meeting, e_all hP hs hN, asS_tP, un2_pI, filterMap_cond, em]
  exact h
theorem e_lfirst {long : Int} : m__law_first (dB b) P (.int long) (.int (N : Int)) = M.pure (optI (firstM (cur (gd b ns) N) long)) := by
  have h := head_D (xs := ((cur (gd b ns) N).filter fun p => decide (long ≤ p.2 - p.1)).map (·.1))
  have em : (((cur (gd b ns) N).filter fun p => decide (long ≤ p.2 - p.1)).map fun p => (.int p.1 : D)) = (((cur (gd b ns) N).filter fun p => decide (long ≤ p.2 - p.1)).map (·.1)).map .int := by rw [List.map_map]; rfl
  simp (disch := first | assumption | rfl | omega | decide) only [mp_bind, m_assoc, m_opt, m_cond_pure, m_cond_bind, m_cond_t, m_cond_f, mapM_map, filM_map, fold_map, foldF_map, mapM_pure, filM_pure, fold_pure, asI_i, asB_b, asS_l, asS_t, seqOf_l, seqOf_t, addD_i, iaddD_i, subD_i, fdivD_i, modD_i, negD_i, absD_i, intD_i, max2D_i, min2D_i, ltD_i, leD_i, gtD_i, geD_i, eqD_i, neD_i, lenD_l, lenD_t, tupleD_l, tupleD_t, listD_l, list2D_l, list2D_t, listD_t, slD_l, slD_t, revD_l, truthD_b, truthD_n, ixD_l, ixD_t, un2_t, un3_t, un4_t, zipI_l, zipI_t, isD_n, isnD_n, isNone_n, isNone_i, isNone_b, isNone_s, isNone_l, isNone_t, m_eta, Bool.not_true, Bool.not_false, isL_list, atI_0, atI_1, atI_2, atI_3, c_t, c_f, m_needT, isi_tuple_n, isi_tuple_b, isi_tuple_i, isi_tuple_s, isi_tuple_l, isi_tuple_t, isi_list_n, isi_list_b, isi_list_i, isi_list_s, isi_list_l, isi_list_t, isi_dict_n, isi_dict_b, isi_dict_i, isi_dict_s, isi_dict_l, isi_dict_t, isi_str_n, isi_str_b, isi_str_i, isi_str_s, isi_str_l, isi_str_t, isi_bool_n, isi_bool_b, isi_bool_i, isi_bool_s, isi_bool_l, isi_bool_t, isi_int_n, isi_int_b, isi_int_i, isi_int_s, isi_int_l, isi_int_t, bind_run, pure_run, mp_bind] at h
  simp (disch := first | assumption | rfl | omega | decide) only [mp_bind, m_assoc, m_opt, m_cond_pure, m_cond_bind, m_cond_t, m_cond_f, mapM_map, filM_map, fold_map, foldF_map, mapM_pure, filM_pure, fold_pure, asI_i, asB_b, asS_l, asS_t, seqOf_l, seqOf_t, addD_i, iaddD_i, subD_i, fdivD_i, modD_i, negD_i, absD_i, intD_i, max2D_i, min2D_i, ltD_i, leD_i, gtD_i, geD_i, eqD_i, neD_i, lenD_l, lenD_t, tupleD_l, tupleD_t, listD_l, list2D_l, list2D_t, listD_t, slD_l, slD_t, revD_l, truthD_b, truthD_n, ixD_l, ixD_t, un2_t, un3_t, un4_t, zipI_l, zipI_t, isD_n, isnD_n, isNone_n, isNone_i, isNone_b, isNone_s, isNone_l, isNone_t, m_eta, Bool.not_true, Bool.not_false, isL_list, atI_0, atI_1, atI_2, atI_3, c_t, c_f, m_needT, isi_tuple_n, isi_tuple_b, isi_tuple_i, isi_tuple_s, isi_tuple_l, isi_tuple_t, isi_list_n, isi_list_b, isi_list_i, isi_list_s, isi_list_l, isi_list_t, isi_dict_n, isi_dict_b, isi_dict_i, isi_dict_s, isi_dict_l, isi_dict_t, isi_str_n, isi_str_b, isi_str_i, isi_str_s, isi_str_l, isi_str_t, isi_bool_n, isi_bool_b, isi_bool_i, isi_bool_s, isi_bool_l, isi_bool_t, isi_int_n, isi_int_b, isi_int_i, isi_int_s, isi_int_l, isi_int_t, bind_run, pure_run, m__law_first, e_lall hP hs hN, un2_pI, filterMap_cond, em]
  exact h
end
/-! ### who can -/
def can (b : Bu) (qs : List Str) (s e : Int) : List Str := qs.filter fun n => (List.range (e - s).toNat).all fun (i : Nat) => fr b n (s + (i : Int))
section
variable {b : Bu} {qs : List Str} (hq : sortedD (dB b) = M.pure (.list (qs.map .str))) {s e : Int} (h0 : 0 ≤ s) (h1 : s ≤ 1000) (h2 : -1000 ≤ e) (h3 : e ≤ 1000)
include hq h0 h1 h2 h3
theorem e_who : m_who_can (dB b) (.int s) (.int e) = M.pure (.tuple ((can b qs s e).map .str)) := by
  simp (disch := first | assumption | rfl | omega | decide) only [mp_bind, m_assoc, m_opt, m_cond_pure, m_cond_bind, m_cond_t, m_cond_f, mapM_map, filM_map, fold_map, foldF_map, mapM_pure, filM_pure, fold_pure, asI_i, asB_b, asS_l, asS_t, seqOf_l, seqOf_t, addD_i, iaddD_i, subD_i, fdivD_i, modD_i, negD_i, absD_i, intD_i, max2D_i, min2D_i, ltD_i, leD_i, gtD_i, geD_i, eqD_i, neD_i, lenD_l, lenD_t, tupleD_l, tupleD_t, listD_l, list2D_l, list2D_t, listD_t, slD_l, slD_t, revD_l, truthD_b, truthD_n, ixD_l, ixD_t, un2_t, un3_t, un4_t, zipI_l, zipI_t, isD_n, isnD_n, isNone_n, isNone_i, isNone_b, isNone_s, isNone_l, isNone_t, m_eta, Bool.not_true, Bool.not_false, isL_list, atI_0, atI_1, atI_2, atI_3, c_t, c_f, m_needT, isi_tuple_n, isi_tuple_b, isi_tuple_i, isi_tuple_s, isi_tuple_l, isi_tuple_t, isi_list_n, isi_list_b, isi_list_i, isi_list_s, isi_list_l, isi_list_t, isi_dict_n, isi_dict_b, isi_dict_i, isi_dict_s, isi_dict_l, isi_dict_t, isi_str_n, isi_str_b, isi_str_i, isi_str_s, isi_str_l, isi_str_t, isi_bool_n, isi_bool_b, isi_bool_i, isi_bool_s, isi_bool_l, isi_bool_t, isi_int_n, isi_int_b, isi_int_i, isi_int_s, isi_int_l, isi_int_t, bind_run, pure_run, m_who_can, hq, rngD_ab (a := s) (b := e) (by omega) (by omega) (by omega) (by omega) (by omega), e_free, allD_map, filterMap_cond]
  rfl
theorem e_can : m__law_can (dB b) (.int s) (.int e) = M.pure (.list ((can b qs s e).map .str)) := by
  have hE : ∀ n : Str, eqD (.list (((List.range (e - s).toNat).filter fun (i : Nat) => !fr b n (s + (i : Int))).map fun (i : Nat) => (.int (s + (i : Int)) : D))) (.list []) = M.pure (.bool ((List.range (e - s).toNat).all fun (i : Nat) => fr b n (s + (i : Int)))) := fun n => by
    rw [eqD_nil (shA_map fun _ _ => sh_int), List.isEmpty_map, isEmpty_filter, any_not]
  simp (disch := first | assumption | rfl | omega | decide) only [mp_bind, m_assoc, m_opt, m_cond_pure, m_cond_bind, m_cond_t, m_cond_f, mapM_map, filM_map, fold_map, foldF_map, mapM_pure, filM_pure, fold_pure, asI_i, asB_b, asS_l, asS_t, seqOf_l, seqOf_t, addD_i, iaddD_i, subD_i, fdivD_i, modD_i, negD_i, absD_i, intD_i, max2D_i, min2D_i, ltD_i, leD_i, gtD_i, geD_i, eqD_i, neD_i, lenD_l, lenD_t, tupleD_l, tupleD_t, listD_l, list2D_l, list2D_t, listD_t, slD_l, slD_t, revD_l, truthD_b, truthD_n, ixD_l, ixD_t, un2_t, un3_t, un4_t, zipI_l, zipI_t, isD_n, isnD_n, isNone_n, isNone_i, isNone_b, isNone_s, isNone_l, isNone_t, m_eta, Bool.not_true, Bool.not_false, isL_list, atI_0, atI_1, atI_2, atI_3, c_t, c_f, m_needT, isi_tuple_n, isi_tuple_b, isi_tuple_i, isi_tuple_s, isi_tuple_l, isi_tuple_t, isi_list_n, isi_list_b, isi_list_i, isi_list_s, isi_list_l, isi_list_t, isi_dict_n, isi_dict_b, isi_dict_i, isi_dict_s, isi_dict_l, isi_dict_t, isi_str_n, isi_str_b, isi_str_i, isi_str_s, isi_str_l, isi_str_t, isi_bool_n, isi_bool_b, isi_bool_i, isi_bool_s, isi_bool_l, isi_bool_t, isi_int_n, isi_int_b, isi_int_i, isi_int_s, isi_int_l, isi_int_t, bind_run, pure_run, m__law_can, hq, rngD_ab (a := s) (b := e) (by omega) (by omega) (by omega) (by omega) (by omega), e_lfree, filterMap_cond, hE]
  rfl
end
end L33
namespace L33
open PySem PySem.Spec PyProof.Rows L2 Wp

/-! ### the law's own fractions -/
theorem r_lfrac {a b : Int} (hb : 0 < b) (sb : small b) : Ret (m__law_fraction (.int a) (.int b)) (qD (Rat.divInt a b)) := by
  intro P hP
  simp only [m__law_fraction, bind_run, pure_run, absD_int, natAbs_if]
  refine while_run (fun s => ∃ x y : Nat, s = (.int x, .int y) ∧ x.gcd y = a.natAbs.gcd b.natAbs) (fun s => match s.2 with | .int y => y.toNat | _ => 0) (fun s hI Q hQ => ?_) ⟨a.natAbs, b.natAbs, rfl, rfl⟩
  obtain ⟨x, y, rfl, hg⟩ := hI
  simp only [bind_run, pure_run, neD_int, asB_bool, modD_int]
  constructor
  · intro hy
    have hy' : (y : Int) ≠ 0 := by simpa using hy
    have hy2 : 0 < y := by omega
    refine ⟨hy', hQ _ ⟨y, x % y, ?_, ?_⟩ ?_⟩
    · rw [Int.fmod_eq_emod_of_nonneg _ (by omega)]; rfl
    · rw [← hg, Nat.gcd_comm y, ← Nat.gcd_rec, Nat.gcd_comm]
    · show ((x : Int).fmod (y : Int)).toNat < y
      rw [Int.fmod_eq_emod_of_nonneg _ (by omega)]
      have := Nat.mod_lt x hy2
      omega
  · intro hy
    have hy' : (y : Int) = 0 := by simpa using hy
    have hy2 : y = 0 := by omega
    subst hy2
    rw [Nat.gcd_zero_right] at hg
    subst hg
    have hgp := Nat.gcd_pos_of_pos_right a.natAbs (n := b.natAbs) (by omega)
    have hle : a.natAbs.gcd b.natAbs ≤ b.natAbs := Nat.gcd_le_right _ (by omega)
    have hs : small (a.natAbs.gcd b.natAbs : Nat) := by unfold small at sb ⊢; omega
    simp only [gtD_int, asB_bool, cond_run, hb, decide_true, true_implies, reduceCtorEq, Bool.true_eq_false, false_implies, and_true, bind_run, pure_run, fdivD_int]
    refine ⟨.inl ⟨by omega, hs⟩, .inl ⟨by omega, hs⟩, ?_⟩
    have e : qD (Rat.divInt a b) = .tuple [.int (a.fdiv (a.natAbs.gcd b.natAbs : Nat)), .int (b.fdiv (a.natAbs.gcd b.natAbs : Nat))] := by
      unfold qD
      have d1 : ((a.natAbs.gcd b.natAbs : Nat) : Int) ∣ a := Int.gcd_dvd_left a b
      have d2 : ((a.natAbs.gcd b.natAbs : Nat) : Int) ∣ b := Int.gcd_dvd_right a b
      rw [exact_fdiv d1, exact_fdiv d2, Rat.num_divInt, Rat.den_divInt, if_neg (by omega), Int.sign_eq_one_of_pos hb, Int.one_mul]
      have c1 : b.gcd a = a.natAbs.gcd b.natAbs := by rw [Int.gcd_comm]; rfl
      rw [c1]
      congr 3
      rw [Int.natCast_ediv]
      have : (b.natAbs : Int) = b := by omega
      rw [this]
    rw [e] at hP
    exact hP
/-! ### where the greatest is first -/
theorem first_max : ∀ (xs : List Int), xs ≠ [] → ∃ i, ∃ (hi : i < xs.length), (∀ y ∈ xs, y ≤ xs[i]) ∧ ∀ j (hj : j < i), xs[j]'(by omega) < xs[i]
  | [], h => absurd rfl h
  | x :: xs, _ => by
    by_cases h : xs = []
    · subst h
      exact ⟨0, by simp, by simp, fun j hj => by omega⟩
    · obtain ⟨i, hi, h1, h2⟩ := first_max xs h
      by_cases hx : xs[i] ≤ x
      · refine ⟨0, by simp, fun y hy => ?_, fun j hj => by omega⟩
        rcases List.mem_cons.mp hy with rfl | hy
        · exact Int.le_refl _
        · have := h1 y hy
          show y ≤ x
          omega
      · refine ⟨i + 1, by simp; omega, fun y hy => ?_, fun j hj => ?_⟩
        · rcases List.mem_cons.mp hy with rfl | hy
          · show y ≤ xs[i]; omega
          · exact h1 y hy
        · cases j with
          | zero => show x < xs[i]; omega
          | succ j => exact h2 j (by omega)
theorem max_first {xs : List Int} {i : Nat} (hi : i < xs.length) (h : ∀ y ∈ xs, y ≤ xs[i]) : max1D (.list (xs.map .int)) = M.pure (.int xs[i]) := by
  cases xs with
  | nil => simp at hi
  | cons x xs =>
    rw [List.map_cons, max1_l]
    obtain ⟨h1, h2⟩ := maxI_spec xs x
    have a := h _ h1
    have b := h2 _ (List.getElem_mem hi)
    rw [show maxI x xs = (x :: xs)[i] by omega]
theorem index_first {xs : List Int} {i : Nat} (hi : i < xs.length) (h : ∀ j (hj : j < i), xs[j]'(by omega) < xs[i]) : indexD (.list (xs.map .int)) (.int xs[i]) = M.pure (.int (i : Int)) := by
  have e : (xs.map PyData.int).findIdx? (fun z => PyData.eqv z (.int xs[i])) = some i := by
    rw [List.findIdx?_eq_some_iff_getElem]
    refine ⟨by simpa using hi, by simp [PyData.eqv], fun j hj => ?_⟩
    have := h j hj
    simp [PyData.eqv]
    omega
  show M.need (sh 15 (.list (xs.map PyData.int)) = true ∧ sh 15 (.int xs[i]) = true) ((M.opt ((xs.map PyData.int).findIdx? fun z => PyData.eqv z (.int xs[i]))).bind fun j => M.pure (PyData.int (j : Nat))) = _
  rw [e, m_need ⟨by rw [sh_list]; exact shA_map fun _ _ => sh_int, sh_int⟩, m_opt, mp_bind]
/-- min over pairs (less the value, the place) -/
theorem min_first {α : Type} {xs : List α} {v w : α → Int} {i : Nat} (hi : i < xs.length) (h1 : ∀ y ∈ xs, v y ≤ v xs[i]) (h2 : ∀ j (hj : j < i), v (xs[j]'(by omega)) < v xs[i]) (hw : (xs.map w).Pairwise (· < ·)) : min1D (.list (xs.map fun x => tI [-(v x), w x])) = M.pure (tI [-(v xs[i]), w xs[i]]) := by
  refine min_pairs (f := fun x => -(v x)) (g := w) (List.getElem_mem hi) fun x hx => ?_
  obtain ⟨j, hj, rfl⟩ := List.mem_iff_getElem.mp hx
  have a := h1 _ hx
  by_cases hji : j < i
  · have := h2 j hji
    left; show -(v xs[i]) < -(v xs[j]); omega
  · by_cases e : v xs[j] = v xs[i]
    · right
      refine ⟨by show -(v xs[i]) = -(v xs[j]); omega, ?_⟩
      by_cases e2 : j = i
      · subst e2; exact Int.le_refl _
      · rw [List.pairwise_iff_getElem] at hw
        have := hw i j (by simpa using hi) (by simpa using hj) (by omega)
        rw [List.getElem_map, List.getElem_map] at this
        omega
    · left; show -(v xs[i]) < -(v xs[j]); omega
end L33
namespace L33
open PySem PySem.Spec PyProof.Rows L2 Wp

/-! ### meetings, one behind the other -/
theorem lk_putS {b : Bu} {k m : Str} {v : List PI} : lk (putS b k v) m = if m = k then v else lk b m := by
  unfold lk putS
  by_cases h : b.any (fun p => p.1 == k) = true
  · rw [if_pos h]
    induction b with
    | nil => cases h
    | cons p b ih =>
      rw [List.map_cons, List.lookup_cons]
      by_cases hp : (p.1 == k) = true
      · rw [if_pos hp]
        have hp' : p.1 = k := by simpa using hp
        by_cases hm : m = k
        · subst hm; simp [hp']
        · rw [if_neg hm, List.lookup_cons]
          have h1 : (m == p.1) = false := by simpa [hp'] using hm
          show (match m == p.1 with | true => some v | false => _).getD [] = (match m == p.1 with | true => some p.2 | false => _).getD []
          rw [h1]
          by_cases hb : b.any (fun p => p.1 == k) = true
          · have := ih hb
            rw [if_neg hm] at this
            exact this
          · have hn : b.map (fun p => if (p.1 == k) = true then (p.1, v) else p) = b := by
              have hall : ∀ q ∈ b, ¬ (q.1 == k) = true := fun q hq hc => hb (List.any_eq_true.mpr ⟨q, hq, hc⟩)
              refine (List.map_congr_left fun q hq => if_neg (hall q hq)).trans (List.map_id _)
            rw [hn]
      · rw [if_neg hp]
        have hb : b.any (fun p => p.1 == k) = true := by
          rw [List.any_cons] at h
          simpa [hp] using h
        have := ih hb
        rw [List.lookup_cons]
        cases hmp : m == p.1 with
        | true =>
          have : m = p.1 := by simpa using hmp
          have hm : ¬ m = k := fun e => hp (by rw [← this, e]; simp)
          rw [if_neg hm]
        | false => exact this
  · rw [if_neg h]
    have hn : ∀ q ∈ b, ¬ (q.1 == k) = true := fun q hq hc => h (List.any_eq_true.mpr ⟨q, hq, hc⟩)
    induction b with
    | nil =>
      rw [List.nil_append, List.lookup_cons]
      by_cases hm : m = k
      · simp [hm]
      · have : (m == k) = false := by simpa using hm
        rw [this, if_neg hm]
    | cons p b ih =>
      rw [List.cons_append, List.lookup_cons, List.lookup_cons]
      have hb : ¬ b.any (fun p => p.1 == k) = true := fun hc => h (by rw [List.any_cons, hc, Bool.or_true])
      have := ih hb fun q hq => hn q (List.mem_cons_of_mem _ hq)
      cases hmp : m == p.1 with
      | true =>
        have e : m = p.1 := by simpa using hmp
        have hm : ¬ m = k := fun e2 => hn p (by simp) (by rw [← e, e2]; simp)
        rw [if_neg hm]
      | false => exact this
structure LB (b : Bu) (c : Nat) : Prop where
  r : ∀ n, (lk b n).length ≤ c
  l : b.length ≤ c
theorem LB.mono {b : Bu} {c c' : Nat} (h : LB b c) (l : c ≤ c') : LB b c' := ⟨fun n => Nat.le_trans (h.r n) l, Nat.le_trans h.l l⟩
def put1 (a sp : Int) (b : Bu) (n : Str) : Bu := putS b n (lk b n ++ [(a, a + sp)])
theorem put1_LB {a sp : Int} {b : Bu} {n : Str} {c : Nat} (h : LB b c) : LB (put1 a sp b n) (c + 1) where
  r := fun m => by
    unfold put1
    rw [lk_putS]
    split
    · have := h.r n
      simp; omega
    · have := h.r m; omega
  l := by
    have := putS_len b n (lk b n ++ [(a, a + sp)])
    have := h.l
    unfold put1
    omega
theorem e_put1 {a sp : Int} {b : Bu} {n : Str} (h : LB b 900) : ((get2D (dB b) (.str n) (.tuple [])).bind fun x => (addD x (.tuple [.tuple [.int a, .int (a + sp)]])).bind fun y => dputD (dB b) (.str n) y) = M.pure (dB (put1 a sp b n)) := by
  have h1 := h.r n; have h2 := h.l
  rw [get_dB, mp_bind]
  unfold tP
  rw [addD_t (by rw [List.length_map]; simp; omega), mp_bind]
  unfold dB
  rw [dputD_any (by rw [List.length_map]; omega)]
  unfold put1
  rw [putS_map tP]
  congr 3
  unfold tP
  rw [List.map_append]; rfl
theorem fold_puts {a sp : Int} {f : D → Str → M D} (hf : ∀ b n, LB b 900 → f (dB b) n = M.pure (dB (put1 a sp b n))) : ∀ {own : List Str} {b : Bu} {c : Nat}, LB b c → c + own.length ≤ 900 → M.fold f (dB b) own = M.pure (dB (own.foldl (put1 a sp) b)) ∧ LB (own.foldl (put1 a sp) b) (c + own.length)
  | [], b, c, h, _ => ⟨rfl, h⟩
  | n :: own, b, c, h, hc => by
    rw [List.length_cons] at hc
    obtain ⟨h1, h2⟩ := fold_puts hf (own := own) (put1_LB (a := a) (sp := sp) (n := n) h) (by omega)
    refine ⟨?_, by rw [List.length_cons, show c + (own.length + 1) = c + 1 + own.length by omega]; exact h2⟩
    show M.bind (f (dB b) n) _ = _
    rw [hf b n (h.mono (by omega)), mp_bind]
    exact h1
abbrev Ask := List Str × Int
def askD (q : Ask) : D := .tuple [.tuple (q.1.map .str), .int q.2]
def meetM (N : Nat) (b : Bu) (q : Ask) : Option Int := firstM (cur (gd b q.1) N) q.2
def meetB (N : Nat) (b : Bu) (q : Ask) : Bu := match meetM N b q with
  | some a => q.1.foldl (put1 a q.2) b
  | none => b
def dues (N : Nat) : Bu → List Ask → List (Option Int)
  | _, [] => []
  | b, q :: qs => meetM N b q :: dues N (meetB N b q) qs
def after (N : Nat) : Bu → List Ask → Bu
  | b, [] => b
  | b, q :: qs => after N (meetB N b q) qs
theorem dues_snoc (N : Nat) : ∀ (b : Bu) (qs : List Ask) (q : Ask), dues N b (qs ++ [q]) = dues N b qs ++ [meetM N (after N b qs) q] ∧ after N b (qs ++ [q]) = meetB N (after N b qs) q
  | _, [], _ => ⟨rfl, rfl⟩
  | b, p :: qs, q => by
    obtain ⟨h1, h2⟩ := dues_snoc N (meetB N b p) qs q
    exact ⟨congrArg (meetM N b p :: ·) h1, h2⟩
theorem meetB_LB {N : Nat} {b : Bu} {q : Ask} {c : Nat} (h : LB b c) (hc : c + q.1.length ≤ 900) : LB (meetB N b q) (c + q.1.length) := by
  unfold meetB
  cases meetM N b q with
  | none => exact h.mono (by omega)
  | some a => exact (fold_puts (f := fun d n => match d with | d => M.bind (get2D d (.str n) (.tuple [])) fun x => (addD x (.tuple [.tuple [.int a, .int (a + q.2)]])).bind fun y => dputD d (.str n) y) (fun b n hb => e_put1 hb) h hc).2
theorem after_LB {N : Nat} : ∀ {qs : List Ask} {b : Bu} {c : Nat}, LB b c → (∀ q ∈ qs, q.1.length ≤ 10) → c + 10 * qs.length ≤ 900 → LB (after N b qs) (c + 10 * qs.length)
  | [], b, c, h, _, _ => h
  | q :: qs, b, c, h, hq, hc => by
    rw [List.length_cons] at hc ⊢
    have h1 := hq q (by simp)
    have := after_LB (N := N) (qs := qs) ((meetB_LB (N := N) (q := q) h (by omega)).mono (show c + q.1.length ≤ c + 10 by omega)) (fun q hq' => hq q (List.mem_cons_of_mem _ hq')) (by omega)
    exact this.mono (by omega)
theorem dues_len (N : Nat) : ∀ (qs : List Ask) (b : Bu), (dues N b qs).length = qs.length
  | [], _ => rfl
  | q :: qs, b => congrArg (· + 1) (dues_len N qs (meetB N b q))
theorem flat_optI {m : Option Int} : flatD (optI m) = true := by cases m <;> rfl
theorem e_meetings {b : Bu} {asks : List Ask} {N : Nat} (hN : N ≤ 1000) (nd : (b.map (·.1)).Nodup) (hb : LB b 100) (ha : asks.length ≤ 10) (hq : ∀ q ∈ asks, (∀ n ∈ q.1, PyData.strOk n = true) ∧ q.1.length ≤ 10) : m_meetings_row (dB b) (.tuple (asks.map askD)) (.int (N : Int)) = M.pure (.tuple ((dues N b asks).map optI)) := by
  have hk : keysD (dB b) = M.pure (b.map fun r => (.str r.1 : D)) := by unfold dB; rw [keysD_s, List.map_map]; rfl
  have hix : ∀ r ∈ b, ixD (dB b) (.str r.1) = M.pure (tP r.2) := fun r hr => ix_dR (nm := fun r : Str × List PI => r.1) (f := fun r => tP r.2) nd hr
  have hd : dict2D (.list ((b.map fun r => (r.1, tP r.2)).map fun p => .tuple [.str p.1, p.2])) = M.pure (dB b) := dict2_rows (by rw [List.map_map]; exact nd)
  have un : ∀ q : Ask, un2 (askD q) = M.pure (.tuple (q.1.map .str), .int q.2) := fun q => un2_t
  simp (disch := first | assumption | rfl | omega | decide) only [mp_bind, m_assoc, m_opt, m_cond_pure, m_cond_bind, m_cond_t, m_cond_f, mapM_map, filM_map, fold_map, foldF_map, mapM_pure, filM_pure, fold_pure, asI_i, asB_b, asS_l, asS_t, seqOf_l, seqOf_t, addD_i, iaddD_i, subD_i, fdivD_i, modD_i, negD_i, absD_i, intD_i, max2D_i, min2D_i, ltD_i, leD_i, gtD_i, geD_i, eqD_i, neD_i, lenD_l, lenD_t, tupleD_l, tupleD_t, listD_l, list2D_l, list2D_t, listD_t, slD_l, slD_t, revD_l, truthD_b, truthD_n, ixD_l, ixD_t, un2_t, un3_t, un4_t, zipI_l, zipI_t, isD_n, isnD_n, isNone_n, isNone_i, isNone_b, isNone_s, isNone_l, isNone_t, m_eta, Bool.not_true, Bool.not_false, isL_list, atI_0, atI_1, atI_2, atI_3, c_t, c_f, m_needT, isi_tuple_n, isi_tuple_b, isi_tuple_i, isi_tuple_s, isi_tuple_l, isi_tuple_t, isi_list_n, isi_list_b, isi_list_i, isi_list_s, isi_list_l, isi_list_t, isi_dict_n, isi_dict_b, isi_dict_i, isi_dict_s, isi_dict_l, isi_dict_t, isi_str_n, isi_str_b, isi_str_i, isi_str_s, isi_str_l, isi_str_t, isi_bool_n, isi_bool_b, isi_bool_i, isi_bool_s, isi_bool_l, isi_bool_t, isi_int_n, isi_int_b, isi_int_i, isi_int_s, isi_int_l, isi_int_t, bind_run, pure_run, m_meetings_row, hk]
  rw [mapM_eq_of (fun r : Str × List PI => (.tuple [.str r.1, tP r.2] : D)) fun r hr => ?_]
  rotate_left
  · have : tupleD (tP r.2) = M.pure (tP r.2) := tupleD_t
    simp (disch := first | assumption | rfl | omega | decide) only [mp_bind, m_assoc, m_opt, m_cond_pure, m_cond_bind, m_cond_t, m_cond_f, mapM_map, filM_map, fold_map, foldF_map, mapM_pure, filM_pure, fold_pure, asI_i, asB_b, asS_l, asS_t, seqOf_l, seqOf_t, addD_i, iaddD_i, subD_i, fdivD_i, modD_i, negD_i, absD_i, intD_i, max2D_i, min2D_i, ltD_i, leD_i, gtD_i, geD_i, eqD_i, neD_i, lenD_l, lenD_t, tupleD_l, tupleD_t, listD_l, list2D_l, list2D_t, listD_t, slD_l, slD_t, revD_l, truthD_b, truthD_n, ixD_l, ixD_t, un2_t, un3_t, un4_t, zipI_l, zipI_t, isD_n, isnD_n, isNone_n, isNone_i, isNone_b, isNone_s, isNone_l, isNone_t, m_eta, Bool.not_true, Bool.not_false, isL_list, atI_0, atI_1, atI_2, atI_3, c_t, c_f, m_needT, isi_tuple_n, isi_tuple_b, isi_tuple_i, isi_tuple_s, isi_tuple_l, isi_tuple_t, isi_list_n, isi_list_b, isi_list_i, isi_list_s, isi_list_l, isi_list_t, isi_dict_n, isi_dict_b, isi_dict_i, isi_dict_s, isi_dict_l, isi_dict_t, isi_str_n, isi_str_b, isi_str_i, isi_str_s, isi_str_l, isi_str_t, isi_bool_n, isi_bool_b, isi_bool_i, isi_bool_s, isi_bool_l, isi_bool_t, isi_int_n, isi_int_b, isi_int_i, isi_int_s, isi_int_l, isi_int_t, bind_run, pure_run, hix r hr, this]
  have em : b.map (fun r => (.tuple [.str r.1, tP r.2] : D)) = (b.map fun r => (r.1, tP r.2)).map fun p => .tuple [.str p.1, p.2] := by rw [List.map_map]; rfl
  simp (disch := first | assumption | rfl | omega | decide) only [mp_bind, m_assoc, m_opt, m_cond_pure, m_cond_bind, m_cond_t, m_cond_f, mapM_map, filM_map, fold_map, foldF_map, mapM_pure, filM_pure, fold_pure, asI_i, asB_b, asS_l, asS_t, seqOf_l, seqOf_t, addD_i, iaddD_i, subD_i, fdivD_i, modD_i, negD_i, absD_i, intD_i, max2D_i, min2D_i, ltD_i, leD_i, gtD_i, geD_i, eqD_i, neD_i, lenD_l, lenD_t, tupleD_l, tupleD_t, listD_l, list2D_l, list2D_t, listD_t, slD_l, slD_t, revD_l, truthD_b, truthD_n, ixD_l, ixD_t, un2_t, un3_t, un4_t, zipI_l, zipI_t, isD_n, isnD_n, isNone_n, isNone_i, isNone_b, isNone_s, isNone_l, isNone_t, m_eta, Bool.not_true, Bool.not_false, isL_list, atI_0, atI_1, atI_2, atI_3, c_t, c_f, m_needT, isi_tuple_n, isi_tuple_b, isi_tuple_i, isi_tuple_s, isi_tuple_l, isi_tuple_t, isi_list_n, isi_list_b, isi_list_i, isi_list_s, isi_list_l, isi_list_t, isi_dict_n, isi_dict_b, isi_dict_i, isi_dict_s, isi_dict_l, isi_dict_t, isi_str_n, isi_str_b, isi_str_i, isi_str_s, isi_str_l, isi_str_t, isi_bool_n, isi_bool_b, isi_bool_i, isi_bool_s, isi_bool_l, isi_bool_t, isi_int_n, isi_int_b, isi_int_i, isi_int_s, isi_int_l, isi_int_t, bind_run, pure_run, em, hd, un]
  refine Eq.trans (congrArg (fun m => M.bind m _) (fold_steps (fun i => (PyData.list ((dues N b (asks.take i)).map optI), dB (after N b (asks.take i)))) (k := 0) (fun i hi => ?_))) ?_
  · rw [Nat.zero_add]
    obtain ⟨d1, d2⟩ := dues_snoc N b (asks.take i) asks[i]
    rw [List.take_succ_eq_append_getElem hi, d1, d2]
    obtain ⟨hs, hl⟩ := hq asks[i] (List.getElem_mem hi)
    have hL := after_LB (N := N) (qs := asks.take i) hb (fun q hq' => (hq q (List.mem_of_mem_take hq')).2) (by rw [List.length_take]; omega)
    have hti : (asks.take i).length ≤ 10 := by rw [List.length_take]; omega
    have hdl := dues_len N (asks.take i) b
    generalize after N b (asks.take i) = b' at *
    generalize asks[i] = q at *
    generalize dues N b (asks.take i) = ds at *
    have hP : asS (.tuple (q.1.map .str)) = M.pure (q.1.map .str) := asS_t
    have hF := e_first (b := b') hP hs hN (long := q.2)
    have hap : ∀ m : Option Int, appD (.list (ds.map optI)) (optI m) = M.pure (.list ((ds ++ [m]).map optI)) := fun m => by
      rw [appD_l (by rw [List.length_map]; omega), List.map_append]; rfl
    have hisL : isL (.list (ds.map optI)) = true := rfl
    simp (disch := first | assumption | rfl | omega | decide) only [mp_bind, m_assoc, m_opt, m_cond_pure, m_cond_bind, m_cond_t, m_cond_f, mapM_map, filM_map, fold_map, foldF_map, mapM_pure, filM_pure, fold_pure, asI_i, asB_b, asS_l, asS_t, seqOf_l, seqOf_t, addD_i, iaddD_i, subD_i, fdivD_i, modD_i, negD_i, absD_i, intD_i, max2D_i, min2D_i, ltD_i, leD_i, gtD_i, geD_i, eqD_i, neD_i, lenD_l, lenD_t, tupleD_l, tupleD_t, listD_l, list2D_l, list2D_t, listD_t, slD_l, slD_t, revD_l, truthD_b, truthD_n, ixD_l, ixD_t, un2_t, un3_t, un4_t, zipI_l, zipI_t, isD_n, isnD_n, isNone_n, isNone_i, isNone_b, isNone_s, isNone_l, isNone_t, m_eta, Bool.not_true, Bool.not_false, isL_list, atI_0, atI_1, atI_2, atI_3, c_t, c_f, m_needT, isi_tuple_n, isi_tuple_b, isi_tuple_i, isi_tuple_s, isi_tuple_l, isi_tuple_t, isi_list_n, isi_list_b, isi_list_i, isi_list_s, isi_list_l, isi_list_t, isi_dict_n, isi_dict_b, isi_dict_i, isi_dict_s, isi_dict_l, isi_dict_t, isi_str_n, isi_str_b, isi_str_i, isi_str_s, isi_str_l, isi_str_t, isi_bool_n, isi_bool_b, isi_bool_i, isi_bool_s, isi_bool_l, isi_bool_t, isi_int_n, isi_int_b, isi_int_i, isi_int_s, isi_int_l, isi_int_t, bind_run, pure_run, hF]
    rw [show firstM (cur (gd b' q.1) N) q.2 = meetM N b' q from rfl, m_need flat_optI]
    unfold meetB
    cases hm : meetM N b' q with
    | none =>
      simp (disch := first | assumption | rfl | omega | decide) only [mp_bind, m_assoc, m_opt, m_cond_pure, m_cond_bind, m_cond_t, m_cond_f, mapM_map, filM_map, fold_map, foldF_map, mapM_pure, filM_pure, fold_pure, asI_i, asB_b, asS_l, asS_t, seqOf_l, seqOf_t, addD_i, iaddD_i, subD_i, fdivD_i, modD_i, negD_i, absD_i, intD_i, max2D_i, min2D_i, ltD_i, leD_i, gtD_i, geD_i, eqD_i, neD_i, lenD_l, lenD_t, tupleD_l, tupleD_t, listD_l, list2D_l, list2D_t, listD_t, slD_l, slD_t, revD_l, truthD_b, truthD_n, ixD_l, ixD_t, un2_t, un3_t, un4_t, zipI_l, zipI_t, isD_n, isnD_n, isNone_n, isNone_i, isNone_b, isNone_s, isNone_l, isNone_t, m_eta, Bool.not_true, Bool.not_false, isL_list, atI_0, atI_1, atI_2, atI_3, c_t, c_f, m_needT, isi_tuple_n, isi_tuple_b, isi_tuple_i, isi_tuple_s, isi_tuple_l, isi_tuple_t, isi_list_n, isi_list_b, isi_list_i, isi_list_s, isi_list_l, isi_list_t, isi_dict_n, isi_dict_b, isi_dict_i, isi_dict_s, isi_dict_l, isi_dict_t, isi_str_n, isi_str_b, isi_str_i, isi_str_s, isi_str_l, isi_str_t, isi_bool_n, isi_bool_b, isi_bool_i, isi_bool_s, isi_bool_l, isi_bool_t, isi_int_n, isi_int_b, isi_int_i, isi_int_s, isi_int_l, isi_int_t, bind_run, pure_run, hisL, hap]
      rfl
    | some a =>
      obtain ⟨hfp, _⟩ := fold_puts (a := a) (sp := q.2) (f := fun d n => (M.need ((isDi d && plainD d) = true) (get2D d (.str n) (.tuple []))).bind fun x => (addD x (.tuple [.tuple [.int a, .int (a + q.2)]])).bind fun y => dputD d (.str n) y) (fun b n hb => by rw [need_dB]; exact e_put1 hb) (own := q.1) hL (by omega)
      have e1 : optI (some a) = .int a := rfl
      have hap' := hap (some a)
      rw [e1] at hap' ⊢
      simp (disch := first | assumption | rfl | omega | decide) only [mp_bind, m_assoc, m_opt, m_cond_pure, m_cond_bind, m_cond_t, m_cond_f, mapM_map, filM_map, fold_map, foldF_map, mapM_pure, filM_pure, fold_pure, asI_i, asB_b, asS_l, asS_t, seqOf_l, seqOf_t, addD_i, iaddD_i, subD_i, fdivD_i, modD_i, negD_i, absD_i, intD_i, max2D_i, min2D_i, ltD_i, leD_i, gtD_i, geD_i, eqD_i, neD_i, lenD_l, lenD_t, tupleD_l, tupleD_t, listD_l, list2D_l, list2D_t, listD_t, slD_l, slD_t, revD_l, truthD_b, truthD_n, ixD_l, ixD_t, un2_t, un3_t, un4_t, zipI_l, zipI_t, isD_n, isnD_n, isNone_n, isNone_i, isNone_b, isNone_s, isNone_l, isNone_t, m_eta, Bool.not_true, Bool.not_false, isL_list, atI_0, atI_1, atI_2, atI_3, c_t, c_f, m_needT, isi_tuple_n, isi_tuple_b, isi_tuple_i, isi_tuple_s, isi_tuple_l, isi_tuple_t, isi_list_n, isi_list_b, isi_list_i, isi_list_s, isi_list_l, isi_list_t, isi_dict_n, isi_dict_b, isi_dict_i, isi_dict_s, isi_dict_l, isi_dict_t, isi_str_n, isi_str_b, isi_str_i, isi_str_s, isi_str_l, isi_str_t, isi_bool_n, isi_bool_b, isi_bool_i, isi_bool_s, isi_bool_l, isi_bool_t, isi_int_n, isi_int_b, isi_int_i, isi_int_s, isi_int_l, isi_int_t, bind_run, pure_run, hisL, isNone_i, Bool.not_false, hap', hfp]
  · rw [Nat.zero_add, List.take_length]
    simp (disch := first | assumption | rfl | omega | decide) only [mp_bind, m_assoc, m_opt, m_cond_pure, m_cond_bind, m_cond_t, m_cond_f, mapM_map, filM_map, fold_map, foldF_map, mapM_pure, filM_pure, fold_pure, asI_i, asB_b, asS_l, asS_t, seqOf_l, seqOf_t, addD_i, iaddD_i, subD_i, fdivD_i, modD_i, negD_i, absD_i, intD_i, max2D_i, min2D_i, ltD_i, leD_i, gtD_i, geD_i, eqD_i, neD_i, lenD_l, lenD_t, tupleD_l, tupleD_t, listD_l, list2D_l, list2D_t, listD_t, slD_l, slD_t, revD_l, truthD_b, truthD_n, ixD_l, ixD_t, un2_t, un3_t, un4_t, zipI_l, zipI_t, isD_n, isnD_n, isNone_n, isNone_i, isNone_b, isNone_s, isNone_l, isNone_t, m_eta, Bool.not_true, Bool.not_false, isL_list, atI_0, atI_1, atI_2, atI_3, c_t, c_f, m_needT, isi_tuple_n, isi_tuple_b, isi_tuple_i, isi_tuple_s, isi_tuple_l, isi_tuple_t, isi_list_n, isi_list_b, isi_list_i, isi_list_s, isi_list_l, isi_list_t, isi_dict_n, isi_dict_b, isi_dict_i, isi_dict_s, isi_dict_l, isi_dict_t, isi_str_n, isi_str_b, isi_str_i, isi_str_s, isi_str_l, isi_str_t, isi_bool_n, isi_bool_b, isi_bool_i, isi_bool_s, isi_bool_l, isi_bool_t, isi_int_n, isi_int_b, isi_int_i, isi_int_s, isi_int_l, isi_int_t, bind_run, pure_run]
end L33
namespace L33
open PySem PySem.Spec PyProof.Rows L2 Wp

theorem filM_sub {α : Type} {f : α → M (Option D)} {g : α → D} : ∀ {xs : List α} {P : List D → Prop}, (∀ x ∈ xs, ∀ R : Option D → Prop, R (some (g x)) → R none → f x R) → (∀ ys : List α, ys.Sublist xs → P (ys.map g)) → M.filM f xs P
  | [], P, _, hP => hP [] (List.Sublist.refl _)
  | x :: xs, P, hf, hP => by
    show M.bind (f x) _ P
    refine hf x (by simp) _ ?_ ?_
    · exact filM_sub (fun y hy => hf y (by simp [hy])) fun ys hys => hP (x :: ys) (hys.cons_cons x)
    · exact filM_sub (fun y hy => hf y (by simp [hy])) fun ys hys => hP ys (hys.cons x)
theorem okS_opts {ms : List (Option Int)} (h : ms.length ≤ 16777216) : okS 12 (.tuple (ms.map optI)) = true := by
  rw [okS, decide_eq_true (by simpa using h), okSA_of]
  · rfl
  · intro x hx
    obtain ⟨m, _, rfl⟩ := List.mem_map.mp hx
    cases m <;> rfl
/-- what is drawn: people busy -/
structure BOk (b : Bu) (qs : List Str) (N : Nat) : Prop where
  n0 : 1 ≤ N
  n1 : N ≤ 12
  nd : (b.map (·.1)).Nodup
  lb : LB b 5
  hq : sortedD (dB b) = M.pure (.list (qs.map .str))
  so : ∀ n ∈ qs, PyData.strOk n = true
  ln : qs.length ≤ 4
  mm : ∀ n ∈ qs, n ∈ b.map (·.1)
  ok : ∀ r ∈ b, ∀ p ∈ r.2, 0 ≤ p.1 ∧ p.1 < p.2 ∧ p.2 ≤ 100
section
variable {b : Bu} {qs : List Str} {N : Nat} (o : BOk b qs N)
include o
def aOk (asks : List Ask) : Prop := asks.length ≤ 3 ∧ ∀ q ∈ asks, (∀ n ∈ q.1, PyData.strOk n = true) ∧ q.1.length ≤ 10
theorem t_r10 {asks : List Ask} (ha : aOk asks) {now : D} : m_law_r10 (dB b) (.int (N : Int)) (.list (asks.map askD), now, .list ((dues N b asks).map optI)) = M.pure (Fl.nx ()) := by
  have h1 := o.n1
  have hm := e_meetings (b := b) (asks := asks) (N := N) (by omega) o.nd (o.lb.mono (by omega)) (by have := ha.1; omega) ha.2
  have hl := dues_len N asks b
  have ha1 := ha.1
  simp (disch := first | assumption | rfl | omega | decide) only [mp_bind, m_assoc, m_opt, m_cond_pure, m_cond_bind, m_cond_t, m_cond_f, mapM_map, filM_map, fold_map, foldF_map, mapM_pure, filM_pure, fold_pure, asI_i, asB_b, asS_l, asS_t, seqOf_l, seqOf_t, addD_i, iaddD_i, subD_i, fdivD_i, modD_i, negD_i, absD_i, intD_i, max2D_i, min2D_i, ltD_i, leD_i, gtD_i, geD_i, eqD_i, neD_i, lenD_l, lenD_t, tupleD_l, tupleD_t, listD_l, list2D_l, list2D_t, listD_t, slD_l, slD_t, revD_l, truthD_b, truthD_n, ixD_l, ixD_t, un2_t, un3_t, un4_t, zipI_l, zipI_t, isD_n, isnD_n, isNone_n, isNone_i, isNone_b, isNone_s, isNone_l, isNone_t, m_eta, Bool.not_true, Bool.not_false, isL_list, atI_0, atI_1, atI_2, atI_3, c_t, c_f, m_needT, isi_tuple_n, isi_tuple_b, isi_tuple_i, isi_tuple_s, isi_tuple_l, isi_tuple_t, isi_list_n, isi_list_b, isi_list_i, isi_list_s, isi_list_l, isi_list_t, isi_dict_n, isi_dict_b, isi_dict_i, isi_dict_s, isi_dict_l, isi_dict_t, isi_str_n, isi_str_b, isi_str_i, isi_str_s, isi_str_l, isi_str_t, isi_bool_n, isi_bool_b, isi_bool_i, isi_bool_s, isi_bool_l, isi_bool_t, isi_int_n, isi_int_b, isi_int_i, isi_int_s, isi_int_l, isi_int_t, bind_run, pure_run, m_law_r10, dict2_dB, hm, e_same 12 _ (okS_opts (ms := dues N b asks) (by omega)), m_law_c9]
def stD (N : Nat) (b : Bu) (asks : List Ask) : D × D × D := (.list (asks.map askD), dB (after N b asks), .list ((dues N b asks).map optI))
theorem t_b8 {asks : List Ask} (ha : aOk asks) (h2 : asks.length ≤ 2) {a : D} {P : D × D × D → Prop} (hP : ∀ q : Ask, aOk (asks ++ [q]) → P (stD N b (asks ++ [q]))) : m_law_b8 (.list (qs.map .str)) (.int (N : Int)) (stD N b asks) a P := by
  have n1 := o.n1
  have ln := o.ln
  have hnew : PyData.strOk ("new" : Str) = true := by decide +kernel
  have eadd : addD (.list (qs.map .str)) (.list [.str "new"]) = M.pure (.list ((qs ++ [("new" : Str)]).map .str)) := by
    rw [addD_l (by simp; omega), List.map_append]; rfl
  simp (disch := first | assumption | rfl | omega | decide) only [mp_bind, m_assoc, m_opt, m_cond_pure, m_cond_bind, m_cond_t, m_cond_f, mapM_map, filM_map, fold_map, foldF_map, mapM_pure, filM_pure, fold_pure, asI_i, asB_b, asS_l, asS_t, seqOf_l, seqOf_t, addD_i, iaddD_i, subD_i, fdivD_i, modD_i, negD_i, absD_i, intD_i, max2D_i, min2D_i, ltD_i, leD_i, gtD_i, geD_i, eqD_i, neD_i, lenD_l, lenD_t, tupleD_l, tupleD_t, listD_l, list2D_l, list2D_t, listD_t, slD_l, slD_t, revD_l, truthD_b, truthD_n, ixD_l, ixD_t, un2_t, un3_t, un4_t, zipI_l, zipI_t, isD_n, isnD_n, isNone_n, isNone_i, isNone_b, isNone_s, isNone_l, isNone_t, m_eta, Bool.not_true, Bool.not_false, isL_list, atI_0, atI_1, atI_2, atI_3, c_t, c_f, m_needT, isi_tuple_n, isi_tuple_b, isi_tuple_i, isi_tuple_s, isi_tuple_l, isi_tuple_t, isi_list_n, isi_list_b, isi_list_i, isi_list_s, isi_list_l, isi_list_t, isi_dict_n, isi_dict_b, isi_dict_i, isi_dict_s, isi_dict_l, isi_dict_t, isi_str_n, isi_str_b, isi_str_i, isi_str_s, isi_str_l, isi_str_t, isi_bool_n, isi_bool_b, isi_bool_i, isi_bool_s, isi_bool_l, isi_bool_t, isi_int_n, isi_int_b, isi_int_i, isi_int_s, isi_int_l, isi_int_t, bind_run, pure_run, m_law_b8, stD, eadd]
  refine filM_sub (g := fun n : Str => (.str n : D)) (fun n hn R r1 r0 => ?_) fun own hown => ?_
  · refine draw_run (by omega) fun r _ _ => ?_
    simp (disch := first | assumption | rfl | omega | decide) only [mp_bind, m_assoc, m_opt, m_cond_pure, m_cond_bind, m_cond_t, m_cond_f, mapM_map, filM_map, fold_map, foldF_map, mapM_pure, filM_pure, fold_pure, asI_i, asB_b, asS_l, asS_t, seqOf_l, seqOf_t, addD_i, iaddD_i, subD_i, fdivD_i, modD_i, negD_i, absD_i, intD_i, max2D_i, min2D_i, ltD_i, leD_i, gtD_i, geD_i, eqD_i, neD_i, lenD_l, lenD_t, tupleD_l, tupleD_t, listD_l, list2D_l, list2D_t, listD_t, slD_l, slD_t, revD_l, truthD_b, truthD_n, ixD_l, ixD_t, un2_t, un3_t, un4_t, zipI_l, zipI_t, isD_n, isnD_n, isNone_n, isNone_i, isNone_b, isNone_s, isNone_l, isNone_t, m_eta, Bool.not_true, Bool.not_false, isL_list, atI_0, atI_1, atI_2, atI_3, c_t, c_f, m_needT, isi_tuple_n, isi_tuple_b, isi_tuple_i, isi_tuple_s, isi_tuple_l, isi_tuple_t, isi_list_n, isi_list_b, isi_list_i, isi_list_s, isi_list_l, isi_list_t, isi_dict_n, isi_dict_b, isi_dict_i, isi_dict_s, isi_dict_l, isi_dict_t, isi_str_n, isi_str_b, isi_str_i, isi_str_s, isi_str_l, isi_str_t, isi_bool_n, isi_bool_b, isi_bool_i, isi_bool_s, isi_bool_l, isi_bool_t, isi_int_n, isi_int_b, isi_int_i, isi_int_s, isi_int_l, isi_int_t, bind_run, pure_run]
    by_cases h : r = 0
    · simpa [h] using r1
    · simpa [h] using r0
  · refine draw_run (by omega) fun sp s0 s1 => ?_
    generalize hspan : 1 + sp = span
    simp (disch := first | assumption | rfl | omega | decide) only [mp_bind, m_assoc, m_opt, m_cond_pure, m_cond_bind, m_cond_t, m_cond_f, mapM_map, filM_map, fold_map, foldF_map, mapM_pure, filM_pure, fold_pure, asI_i, asB_b, asS_l, asS_t, seqOf_l, seqOf_t, addD_i, iaddD_i, subD_i, fdivD_i, modD_i, negD_i, absD_i, intD_i, max2D_i, min2D_i, ltD_i, leD_i, gtD_i, geD_i, eqD_i, neD_i, lenD_l, lenD_t, tupleD_l, tupleD_t, listD_l, list2D_l, list2D_t, listD_t, slD_l, slD_t, revD_l, truthD_b, truthD_n, ixD_l, ixD_t, un2_t, un3_t, un4_t, zipI_l, zipI_t, isD_n, isnD_n, isNone_n, isNone_i, isNone_b, isNone_s, isNone_l, isNone_t, m_eta, Bool.not_true, Bool.not_false, isL_list, atI_0, atI_1, atI_2, atI_3, c_t, c_f, m_needT, isi_tuple_n, isi_tuple_b, isi_tuple_i, isi_tuple_s, isi_tuple_l, isi_tuple_t, isi_list_n, isi_list_b, isi_list_i, isi_list_s, isi_list_l, isi_list_t, isi_dict_n, isi_dict_b, isi_dict_i, isi_dict_s, isi_dict_l, isi_dict_t, isi_str_n, isi_str_b, isi_str_i, isi_str_s, isi_str_l, isi_str_t, isi_bool_n, isi_bool_b, isi_bool_i, isi_bool_s, isi_bool_l, isi_bool_t, isi_int_n, isi_int_b, isi_int_i, isi_int_s, isi_int_l, isi_int_t, bind_run, pure_run, hspan]
    have hown' : ∀ n ∈ own, PyData.strOk n = true := fun n hn => by
      rcases List.mem_append.mp (hown.subset hn) with h | h
      · exact o.so n h
      · rw [List.mem_singleton.mp h]; exact hnew
    have hol : own.length ≤ 5 := by
      have := hown.length_le
      simp at this; omega
    have hq : aOk (asks ++ [((own, span) : Ask)]) := ⟨by simp; omega, fun q hq => by
      rcases List.mem_append.mp hq with h | h
      · exact ha.2 q h
      · rw [List.mem_singleton.mp h]; exact ⟨hown', by show own.length ≤ 10; omega⟩⟩
    have hP' := hP _ hq
    obtain ⟨d1, d2⟩ := dues_snoc N b asks (own, span)
    unfold stD at hP'
    rw [d1, d2] at hP'
    have hL := after_LB (N := N) (qs := asks) o.lb (fun q hq' => (ha.2 q hq').2) (by omega)
    have hdl := dues_len N asks b
    have hPp : asS (.tuple (own.map .str)) = M.pure (own.map .str) := asS_t
    have hask : appD (.list (asks.map askD)) (.tuple [.tuple (own.map .str), .int span]) = M.pure (.list ((asks ++ [((own, span) : Ask)]).map askD)) := by
      rw [appD_l (by rw [List.length_map]; omega), List.map_append]; rfl
    have hi1 : isL (.list (asks.map askD)) = true := rfl
    generalize after N b asks = b' at *
    generalize dues N b asks = ds at *
    have hi2 : isL (.list (ds.map optI)) = true := rfl
    have hF := e_lfirst (b := b') hPp hown' (show N ≤ 1000 by omega) (long := span)
    rw [show firstM (cur (gd b' own) N) span = meetM N b' (own, span) from rfl] at hF
    have hap : ∀ m : Option Int, appD (.list (ds.map optI)) (optI m) = M.pure (.list ((ds ++ [m]).map optI)) := fun m => by
      rw [appD_l (by rw [List.length_map]; omega), List.map_append]; rfl
    simp (disch := first | assumption | rfl | omega | decide) only [mp_bind, m_assoc, m_opt, m_cond_pure, m_cond_bind, m_cond_t, m_cond_f, mapM_map, filM_map, fold_map, foldF_map, mapM_pure, filM_pure, fold_pure, asI_i, asB_b, asS_l, asS_t, seqOf_l, seqOf_t, addD_i, iaddD_i, subD_i, fdivD_i, modD_i, negD_i, absD_i, intD_i, max2D_i, min2D_i, ltD_i, leD_i, gtD_i, geD_i, eqD_i, neD_i, lenD_l, lenD_t, tupleD_l, tupleD_t, listD_l, list2D_l, list2D_t, listD_t, slD_l, slD_t, revD_l, truthD_b, truthD_n, ixD_l, ixD_t, un2_t, un3_t, un4_t, zipI_l, zipI_t, isD_n, isnD_n, isNone_n, isNone_i, isNone_b, isNone_s, isNone_l, isNone_t, m_eta, Bool.not_true, Bool.not_false, isL_list, atI_0, atI_1, atI_2, atI_3, c_t, c_f, m_needT, isi_tuple_n, isi_tuple_b, isi_tuple_i, isi_tuple_s, isi_tuple_l, isi_tuple_t, isi_list_n, isi_list_b, isi_list_i, isi_list_s, isi_list_l, isi_list_t, isi_dict_n, isi_dict_b, isi_dict_i, isi_dict_s, isi_dict_l, isi_dict_t, isi_str_n, isi_str_b, isi_str_i, isi_str_s, isi_str_l, isi_str_t, isi_bool_n, isi_bool_b, isi_bool_i, isi_bool_s, isi_bool_l, isi_bool_t, isi_int_n, isi_int_b, isi_int_i, isi_int_s, isi_int_l, isi_int_t, bind_run, pure_run, hi1, hask, hF]
    rw [m_need flat_optI]
    unfold meetB at hP'
    cases hm : meetM N b' (own, span) with
    | none =>
      rw [hm] at hP'
      have hap' := hap none
      have e1 : optI none = .none := rfl
      rw [e1] at hap' ⊢
      simp (disch := first | assumption | rfl | omega | decide) only [mp_bind, m_assoc, m_opt, m_cond_pure, m_cond_bind, m_cond_t, m_cond_f, mapM_map, filM_map, fold_map, foldF_map, mapM_pure, filM_pure, fold_pure, asI_i, asB_b, asS_l, asS_t, seqOf_l, seqOf_t, addD_i, iaddD_i, subD_i, fdivD_i, modD_i, negD_i, absD_i, intD_i, max2D_i, min2D_i, ltD_i, leD_i, gtD_i, geD_i, eqD_i, neD_i, lenD_l, lenD_t, tupleD_l, tupleD_t, listD_l, list2D_l, list2D_t, listD_t, slD_l, slD_t, revD_l, truthD_b, truthD_n, ixD_l, ixD_t, un2_t, un3_t, un4_t, zipI_l, zipI_t, isD_n, isnD_n, isNone_n, isNone_i, isNone_b, isNone_s, isNone_l, isNone_t, m_eta, Bool.not_true, Bool.not_false, isL_list, atI_0, atI_1, atI_2, atI_3, c_t, c_f, m_needT, isi_tuple_n, isi_tuple_b, isi_tuple_i, isi_tuple_s, isi_tuple_l, isi_tuple_t, isi_list_n, isi_list_b, isi_list_i, isi_list_s, isi_list_l, isi_list_t, isi_dict_n, isi_dict_b, isi_dict_i, isi_dict_s, isi_dict_l, isi_dict_t, isi_str_n, isi_str_b, isi_str_i, isi_str_s, isi_str_l, isi_str_t, isi_bool_n, isi_bool_b, isi_bool_i, isi_bool_s, isi_bool_l, isi_bool_t, isi_int_n, isi_int_b, isi_int_i, isi_int_s, isi_int_l, isi_int_t, bind_run, pure_run, isNone_n, Bool.not_true, m_law_r7, hi2, hap', M.fold]
      exact hP'
    | some a =>
      rw [hm] at hP'
      obtain ⟨hfp, _⟩ := fold_puts (a := a) (sp := span) (f := fun d n => m_law_b6 (.int a) (.int span) d (.str n)) (fun b n hb => by
        simp (disch := first | assumption | rfl | omega | decide) only [mp_bind, m_assoc, m_opt, m_cond_pure, m_cond_bind, m_cond_t, m_cond_f, mapM_map, filM_map, fold_map, foldF_map, mapM_pure, filM_pure, fold_pure, asI_i, asB_b, asS_l, asS_t, seqOf_l, seqOf_t, addD_i, iaddD_i, subD_i, fdivD_i, modD_i, negD_i, absD_i, intD_i, max2D_i, min2D_i, ltD_i, leD_i, gtD_i, geD_i, eqD_i, neD_i, lenD_l, lenD_t, tupleD_l, tupleD_t, listD_l, list2D_l, list2D_t, listD_t, slD_l, slD_t, revD_l, truthD_b, truthD_n, ixD_l, ixD_t, un2_t, un3_t, un4_t, zipI_l, zipI_t, isD_n, isnD_n, isNone_n, isNone_i, isNone_b, isNone_s, isNone_l, isNone_t, m_eta, Bool.not_true, Bool.not_false, isL_list, atI_0, atI_1, atI_2, atI_3, c_t, c_f, m_needT, isi_tuple_n, isi_tuple_b, isi_tuple_i, isi_tuple_s, isi_tuple_l, isi_tuple_t, isi_list_n, isi_list_b, isi_list_i, isi_list_s, isi_list_l, isi_list_t, isi_dict_n, isi_dict_b, isi_dict_i, isi_dict_s, isi_dict_l, isi_dict_t, isi_str_n, isi_str_b, isi_str_i, isi_str_s, isi_str_l, isi_str_t, isi_bool_n, isi_bool_b, isi_bool_i, isi_bool_s, isi_bool_l, isi_bool_t, isi_int_n, isi_int_b, isi_int_i, isi_int_s, isi_int_l, isi_int_t, bind_run, pure_run, m_law_b6, need_dB]
        exact e_put1 hb) (own := own) hL (by omega)
      have e1 : optI (some a) = .int a := rfl
      have hap' := hap (some a)
      rw [e1] at hap' ⊢
      simp (disch := first | assumption | rfl | omega | decide) only [mp_bind, m_assoc, m_opt, m_cond_pure, m_cond_bind, m_cond_t, m_cond_f, mapM_map, filM_map, fold_map, foldF_map, mapM_pure, filM_pure, fold_pure, asI_i, asB_b, asS_l, asS_t, seqOf_l, seqOf_t, addD_i, iaddD_i, subD_i, fdivD_i, modD_i, negD_i, absD_i, intD_i, max2D_i, min2D_i, ltD_i, leD_i, gtD_i, geD_i, eqD_i, neD_i, lenD_l, lenD_t, tupleD_l, tupleD_t, listD_l, list2D_l, list2D_t, listD_t, slD_l, slD_t, revD_l, truthD_b, truthD_n, ixD_l, ixD_t, un2_t, un3_t, un4_t, zipI_l, zipI_t, isD_n, isnD_n, isNone_n, isNone_i, isNone_b, isNone_s, isNone_l, isNone_t, m_eta, Bool.not_true, Bool.not_false, isL_list, atI_0, atI_1, atI_2, atI_3, c_t, c_f, m_needT, isi_tuple_n, isi_tuple_b, isi_tuple_i, isi_tuple_s, isi_tuple_l, isi_tuple_t, isi_list_n, isi_list_b, isi_list_i, isi_list_s, isi_list_l, isi_list_t, isi_dict_n, isi_dict_b, isi_dict_i, isi_dict_s, isi_dict_l, isi_dict_t, isi_str_n, isi_str_b, isi_str_i, isi_str_s, isi_str_l, isi_str_t, isi_bool_n, isi_bool_b, isi_bool_i, isi_bool_s, isi_bool_l, isi_bool_t, isi_int_n, isi_int_b, isi_int_i, isi_int_s, isi_int_l, isi_int_t, bind_run, pure_run, isNone_i, Bool.not_false, hPp, hfp, m_law_r7, hi2, hap']
      exact hP'
theorem t_c11 : Ret (m_law_c11 (dB b) (.list (qs.map .str)) (.int (N : Int))) (Fl.nx ()) := by
  intro P hP
  simp (disch := first | assumption | rfl | omega | decide) only [mp_bind, m_assoc, m_opt, m_cond_pure, m_cond_bind, m_cond_t, m_cond_f, mapM_map, filM_map, fold_map, foldF_map, mapM_pure, filM_pure, fold_pure, asI_i, asB_b, asS_l, asS_t, seqOf_l, seqOf_t, addD_i, iaddD_i, subD_i, fdivD_i, modD_i, negD_i, absD_i, intD_i, max2D_i, min2D_i, ltD_i, leD_i, gtD_i, geD_i, eqD_i, neD_i, lenD_l, lenD_t, tupleD_l, tupleD_t, listD_l, list2D_l, list2D_t, listD_t, slD_l, slD_t, revD_l, truthD_b, truthD_n, ixD_l, ixD_t, un2_t, un3_t, un4_t, zipI_l, zipI_t, isD_n, isnD_n, isNone_n, isNone_i, isNone_b, isNone_s, isNone_l, isNone_t, m_eta, Bool.not_true, Bool.not_false, isL_list, atI_0, atI_1, atI_2, atI_3, c_t, c_f, m_needT, isi_tuple_n, isi_tuple_b, isi_tuple_i, isi_tuple_s, isi_tuple_l, isi_tuple_t, isi_list_n, isi_list_b, isi_list_i, isi_list_s, isi_list_l, isi_list_t, isi_dict_n, isi_dict_b, isi_dict_i, isi_dict_s, isi_dict_l, isi_dict_t, isi_str_n, isi_str_b, isi_str_i, isi_str_s, isi_str_l, isi_str_t, isi_bool_n, isi_bool_b, isi_bool_i, isi_bool_s, isi_bool_l, isi_bool_t, isi_int_n, isi_int_b, isi_int_i, isi_int_s, isi_int_l, isi_int_t, bind_run, pure_run, m_law_c11, dict2_dB]
  refine draw_run (by omega) fun n n0 n1 => ?_
  simp (disch := first | assumption | rfl | omega | decide) only [mp_bind, m_assoc, m_opt, m_cond_pure, m_cond_bind, m_cond_t, m_cond_f, mapM_map, filM_map, fold_map, foldF_map, mapM_pure, filM_pure, fold_pure, asI_i, asB_b, asS_l, asS_t, seqOf_l, seqOf_t, addD_i, iaddD_i, subD_i, fdivD_i, modD_i, negD_i, absD_i, intD_i, max2D_i, min2D_i, ltD_i, leD_i, gtD_i, geD_i, eqD_i, neD_i, lenD_l, lenD_t, tupleD_l, tupleD_t, listD_l, list2D_l, list2D_t, listD_t, slD_l, slD_t, revD_l, truthD_b, truthD_n, ixD_l, ixD_t, un2_t, un3_t, un4_t, zipI_l, zipI_t, isD_n, isnD_n, isNone_n, isNone_i, isNone_b, isNone_s, isNone_l, isNone_t, m_eta, Bool.not_true, Bool.not_false, isL_list, atI_0, atI_1, atI_2, atI_3, c_t, c_f, m_needT, isi_tuple_n, isi_tuple_b, isi_tuple_i, isi_tuple_s, isi_tuple_l, isi_tuple_t, isi_list_n, isi_list_b, isi_list_i, isi_list_s, isi_list_l, isi_list_t, isi_dict_n, isi_dict_b, isi_dict_i, isi_dict_s, isi_dict_l, isi_dict_t, isi_str_n, isi_str_b, isi_str_i, isi_str_s, isi_str_l, isi_str_t, isi_bool_n, isi_bool_b, isi_bool_i, isi_bool_s, isi_bool_l, isi_bool_t, isi_int_n, isi_int_b, isi_int_i, isi_int_s, isi_int_l, isi_int_t, bind_run, pure_run, rngD_n (n := n) (by omega) (by omega)]
  refine fold_run (fun i s => ∃ asks, s = stD N b asks ∧ asks.length = i ∧ aOk asks) (List.range n.toNat) ⟨[], rfl, rfl, by simp, by simp⟩ (fun i hi s hI Q hQ => ?_) fun s hI => ?_
  · obtain ⟨asks, rfl, h1, h2⟩ := hI
    have hi' : i < n.toNat := by simpa using hi
    exact t_b8 o h2 (by omega) fun q hq => hQ _ ⟨asks ++ [q], rfl, by simp [h1], hq⟩
  · obtain ⟨asks, rfl, h1, h2⟩ := hI
    have := t_r10 o h2 (now := dB (after N b asks))
    show m_law_r10 (dB b) (.int (N : Int)) (stD N b asks) P
    unfold stD
    rw [this]
    exact hP
end
end L33
namespace L33
open PySem PySem.Spec PyProof.Rows L2 Wp

/-! ### the best of all -/
def bs (ok : Nat → Bool) (cnt : Nat → Int) : Nat → Option Nat
  | 0 => none
  | k + 1 => if ok k then some (match bs ok cnt k with | none => k | some m => if cnt m < cnt k then k else m) else bs ok cnt k
theorem bs_t {ok : Nat → Bool} {cnt : Nat → Int} {k : Nat} (h : ok k = true) : bs ok cnt (k + 1) = some (match bs ok cnt k with | none => k | some m => if cnt m < cnt k then k else m) := by rw [bs, if_pos h]
theorem bs_f {ok : Nat → Bool} {cnt : Nat → Int} {k : Nat} (h : ok k = false) : bs ok cnt (k + 1) = bs ok cnt k := by rw [bs, if_neg (by rw [h]; exact Bool.false_ne_true)]
theorem bs_spec (ok : Nat → Bool) (cnt : Nat → Int) : ∀ k, (bs ok cnt k = none → (List.range k).filter ok = []) ∧ ∀ m, bs ok cnt k = some m → m < k ∧ ok m = true ∧ ∀ x, x < k → ok x = true → cnt x < cnt m ∨ (cnt x = cnt m ∧ m ≤ x)
  | 0 => ⟨fun _ => rfl, fun m h => by cases h⟩
  | k + 1 => by
    obtain ⟨h1, h2⟩ := bs_spec ok cnt k
    cases hk : ok k with
    | true =>
      rw [bs_t hk]
      refine ⟨fun h => (by cases h), fun m h => ?_⟩
      cases hb : bs ok cnt k with
      | none =>
        rw [hb] at h
        have e : k = m := Option.some.inj h
        subst e
        have hn := h1 hb
        refine ⟨by omega, hk, fun x hx hox => ?_⟩
        by_cases e : x = k
        · subst e; right; exact ⟨rfl, Nat.le_refl _⟩
        · have : x ∈ (List.range k).filter ok := List.mem_filter.mpr ⟨List.mem_range.mpr (by omega), hox⟩
          rw [hn] at this; cases this
      | some n =>
        rw [hb] at h
        have h := Option.some.inj h
        obtain ⟨a1, a2, a3⟩ := h2 n hb
        by_cases hc : cnt n < cnt k
        · rw [show (match (some n : Option Nat) with | none => k | some m => if cnt m < cnt k then k else m) = k from if_pos hc] at h
          subst h
          refine ⟨by omega, hk, fun x hx hox => ?_⟩
          by_cases e : x = k
          · subst e; right; exact ⟨rfl, Nat.le_refl _⟩
          · have := a3 x (by omega) hox
            left; omega
        · rw [show (match (some n : Option Nat) with | none => k | some m => if cnt m < cnt k then k else m) = n from if_neg hc] at h
          subst h
          refine ⟨by omega, a2, fun x hx hox => ?_⟩
          by_cases e : x = k
          · subst e
            by_cases e2 : cnt x = cnt n
            · right; exact ⟨e2, by omega⟩
            · left; omega
          · exact a3 x (by omega) hox
    | false =>
      rw [bs_f hk]
      refine ⟨fun h => ?_, fun m h => ?_⟩
      · rw [List.range_succ, List.filter_append, h1 h, List.filter_cons, hk]; rfl
      · obtain ⟨a1, a2, a3⟩ := h2 m h
        refine ⟨by omega, a2, fun x hx hox => ?_⟩
        by_cases e : x = k
        · subst e; rw [hk] at hox; cases hox
        · exact a3 x (by omega) hox
def bD (cnt : Nat → Int) : Option Nat → D
  | none => .none
  | some m => tI [cnt m, (m : Int)]
theorem okS_bD {cnt : Nat → Int} {m : Option Nat} : okS 12 (bD cnt m) = true := by
  cases m with
  | none => exact okS_none
  | some m => exact okS_tI (by simp)
/-- the least of (less the count, the place) -/
theorem e_best {ok : Nat → Bool} {cnt : Nat → Int} {M' : Nat} : ((neD (.list (((List.range M').filter ok).map fun k => tI [-(cnt k), (k : Int)])) (.list [])).bind fun z => (asB z).bind fun c => cond c ((min1D (.list (((List.range M').filter ok).map fun k => tI [-(cnt k), (k : Int)]))).bind fun x => (ixD x (.int 0)).bind fun y => (negD y).bind fun u => (min1D (.list (((List.range M').filter ok).map fun k => tI [-(cnt k), (k : Int)]))).bind fun x => (ixD x (.int 1)).bind fun v => M.pure (.tuple [u, v])) (M.pure .none)) = M.pure (bD cnt (bs ok cnt M')) := by
  obtain ⟨h1, h2⟩ := bs_spec ok cnt M'
  rw [neD_nil (shA_map fun _ _ => sh_tI), List.isEmpty_map]
  cases hb : bs ok cnt M' with
  | none =>
    rw [h1 hb]
    simp (disch := first | assumption | rfl | omega | decide) only [mp_bind, m_assoc, m_opt, m_cond_pure, m_cond_bind, m_cond_t, m_cond_f, mapM_map, filM_map, fold_map, foldF_map, mapM_pure, filM_pure, fold_pure, asI_i, asB_b, asS_l, asS_t, seqOf_l, seqOf_t, addD_i, iaddD_i, subD_i, fdivD_i, modD_i, negD_i, absD_i, intD_i, max2D_i, min2D_i, ltD_i, leD_i, gtD_i, geD_i, eqD_i, neD_i, lenD_l, lenD_t, tupleD_l, tupleD_t, listD_l, list2D_l, list2D_t, listD_t, slD_l, slD_t, revD_l, truthD_b, truthD_n, ixD_l, ixD_t, un2_t, un3_t, un4_t, zipI_l, zipI_t, isD_n, isnD_n, isNone_n, isNone_i, isNone_b, isNone_s, isNone_l, isNone_t, m_eta, Bool.not_true, Bool.not_false, isL_list, atI_0, atI_1, atI_2, atI_3, c_t, c_f, m_needT, isi_tuple_n, isi_tuple_b, isi_tuple_i, isi_tuple_s, isi_tuple_l, isi_tuple_t, isi_list_n, isi_list_b, isi_list_i, isi_list_s, isi_list_l, isi_list_t, isi_dict_n, isi_dict_b, isi_dict_i, isi_dict_s, isi_dict_l, isi_dict_t, isi_str_n, isi_str_b, isi_str_i, isi_str_s, isi_str_l, isi_str_t, isi_bool_n, isi_bool_b, isi_bool_i, isi_bool_s, isi_bool_l, isi_bool_t, isi_int_n, isi_int_b, isi_int_i, isi_int_s, isi_int_l, isi_int_t, bind_run, pure_run, List.isEmpty_nil, Bool.not_true]
    rfl
  | some m =>
    obtain ⟨a1, a2, a3⟩ := h2 m hb
    have hm : m ∈ (List.range M').filter ok := List.mem_filter.mpr ⟨List.mem_range.mpr a1, a2⟩
    have hmin := min_pairs (f := fun k : Nat => -(cnt k)) (g := fun k : Nat => (k : Int)) hm fun x hx => by
      obtain ⟨x1, x2⟩ := List.mem_filter.mp hx
      have := a3 x (List.mem_range.mp x1) x2
      show -(cnt m) < -(cnt x) ∨ (-(cnt m) = -(cnt x) ∧ (m : Int) ≤ (x : Int))
      omega
    have hne : ((List.range M').filter ok).isEmpty = false := by
      cases hf : (List.range M').filter ok with
      | nil => rw [hf] at hm; cases hm
      | cons => rfl
    have i0 : ixD (tI [-(cnt m), (m : Int)]) (.int 0) = M.pure (.int (-(cnt m))) := ix_tI (k := 0) (by simp)
    have i1 : ixD (tI [-(cnt m), (m : Int)]) (.int 1) = M.pure (.int (m : Int)) := ix_tI (xs := [-(cnt m), (m : Int)]) (k := 1) (by simp)
    simp (disch := first | assumption | rfl | omega | decide) only [mp_bind, m_assoc, m_opt, m_cond_pure, m_cond_bind, m_cond_t, m_cond_f, mapM_map, filM_map, fold_map, foldF_map, mapM_pure, filM_pure, fold_pure, asI_i, asB_b, asS_l, asS_t, seqOf_l, seqOf_t, addD_i, iaddD_i, subD_i, fdivD_i, modD_i, negD_i, absD_i, intD_i, max2D_i, min2D_i, ltD_i, leD_i, gtD_i, geD_i, eqD_i, neD_i, lenD_l, lenD_t, tupleD_l, tupleD_t, listD_l, list2D_l, list2D_t, listD_t, slD_l, slD_t, revD_l, truthD_b, truthD_n, ixD_l, ixD_t, un2_t, un3_t, un4_t, zipI_l, zipI_t, isD_n, isnD_n, isNone_n, isNone_i, isNone_b, isNone_s, isNone_l, isNone_t, m_eta, Bool.not_true, Bool.not_false, isL_list, atI_0, atI_1, atI_2, atI_3, c_t, c_f, m_needT, isi_tuple_n, isi_tuple_b, isi_tuple_i, isi_tuple_s, isi_tuple_l, isi_tuple_t, isi_list_n, isi_list_b, isi_list_i, isi_list_s, isi_list_l, isi_list_t, isi_dict_n, isi_dict_b, isi_dict_i, isi_dict_s, isi_dict_l, isi_dict_t, isi_str_n, isi_str_b, isi_str_i, isi_str_s, isi_str_l, isi_str_t, isi_bool_n, isi_bool_b, isi_bool_i, isi_bool_s, isi_bool_l, isi_bool_t, isi_int_n, isi_int_b, isi_int_i, isi_int_s, isi_int_l, isi_int_t, bind_run, pure_run, hne, Bool.not_false, hmin, i0, i1, Int.neg_neg]
    rfl
/-! ### who is in -/
theorem in_strs {n : Str} {xs : List Str} (hn : PyData.strOk n = true) (hx : ∀ x ∈ xs, PyData.strOk x = true) : inD (.str n) (.tuple (xs.map .str)) = M.pure (.bool (xs.contains n)) ∧ inD (.str n) (.list (xs.map .str)) = M.pure (.bool (xs.contains n)) := by
  have e : (xs.map PyData.str).any (fun z => PyData.eqv z (.str n)) = xs.contains n := by
    rw [List.any_map]
    induction xs with
    | nil => rfl
    | cons x xs ih =>
      rw [List.any_cons, ih fun y hy => hx y (by simp [hy]), List.contains_cons]
      congr 1
      by_cases h : x = n
      · subst h; simp [PyData.eqv]
      · have : ¬ n = x := fun e => h e.symm
        have h1 : (x == n) = false := by simpa using h
        have h2 : (n == x) = false := by simpa using this
        simp [PyData.eqv, h1, h2]
  have h1 : sh 16 (.str n) = true := by simpa [sh] using hn
  have h2 : shA 16 (xs.map PyData.str) = true := shA_map fun x h => by simpa [sh] using hx x h
  rw [inD_t h1 h2, inD_l h1 h2, e]
  exact ⟨rfl, rfl⟩
section
variable {b : Bu} {qs : List Str} {N : Nat} (o : BOk b qs N)
include o
theorem can_so {s e : Int} : ∀ n ∈ can b qs s e, PyData.strOk n = true := fun n hn => o.so n (List.mem_filter.mp hn).1
theorem can_ln {s e : Int} : (can b qs s e).length ≤ 4 := Nat.le_trans (List.length_filter_le _ _) o.ln
def okW (b : Bu) (qs : List Str) (long : Int) (ns : List Str) (k : Nat) : Bool := ns.all fun n => (can b qs (k : Int) ((k : Int) + long)).contains n
def cntW (b : Bu) (qs : List Str) (long : Int) (ms : List Str) (k : Nat) : Int := ((ms.filter fun n => (can b qs (k : Int) ((k : Int) + long)).contains n).length : Nat)
variable {ns ms : List Str} (hn : ∀ n ∈ ns, PyData.strOk n = true) (hm : ∀ n ∈ ms, PyData.strOk n = true) {long : Int} (l0 : 1 ≤ long) (l1 : long ≤ 5)
include hn hm l0 l1
theorem e_must : m_with_must (dB b) (.tuple (ns.map .str)) (.tuple (ms.map .str)) (.int long) (.int (N : Int)) = M.pure (bD (cntW b qs long ms) (bs (okW b qs long ns) (cntW b qs long ms) ((N : Int) - long + 1).toNat)) := by
  have n1 := o.n1
  have h := e_best (ok := okW b qs long ns) (cnt := cntW b qs long ms) (M' := ((N : Int) - long + 1).toNat)
  simp (disch := first | assumption | rfl | omega | decide) only [mp_bind, m_assoc, m_opt, m_cond_pure, m_cond_bind, m_cond_t, m_cond_f, mapM_map, filM_map, fold_map, foldF_map, mapM_pure, filM_pure, fold_pure, asI_i, asB_b, asS_l, asS_t, seqOf_l, seqOf_t, addD_i, iaddD_i, subD_i, fdivD_i, modD_i, negD_i, absD_i, intD_i, max2D_i, min2D_i, ltD_i, leD_i, gtD_i, geD_i, eqD_i, neD_i, lenD_l, lenD_t, tupleD_l, tupleD_t, listD_l, list2D_l, list2D_t, listD_t, slD_l, slD_t, revD_l, truthD_b, truthD_n, ixD_l, ixD_t, un2_t, un3_t, un4_t, zipI_l, zipI_t, isD_n, isnD_n, isNone_n, isNone_i, isNone_b, isNone_s, isNone_l, isNone_t, m_eta, Bool.not_true, Bool.not_false, isL_list, atI_0, atI_1, atI_2, atI_3, c_t, c_f, m_needT, isi_tuple_n, isi_tuple_b, isi_tuple_i, isi_tuple_s, isi_tuple_l, isi_tuple_t, isi_list_n, isi_list_b, isi_list_i, isi_list_s, isi_list_l, isi_list_t, isi_dict_n, isi_dict_b, isi_dict_i, isi_dict_s, isi_dict_l, isi_dict_t, isi_str_n, isi_str_b, isi_str_i, isi_str_s, isi_str_l, isi_str_t, isi_bool_n, isi_bool_b, isi_bool_i, isi_bool_s, isi_bool_l, isi_bool_t, isi_int_n, isi_int_b, isi_int_i, isi_int_s, isi_int_l, isi_int_t, bind_run, pure_run, m_with_must, rngD_n (n := (N : Int) - long + 1) (by omega) (by omega)]
  refine Eq.trans (congrArg (fun m => M.bind m _) (fold_steps (fun i => PyData.list (((List.range i).filter (okW b qs long ns)).map fun k => tI [-(cntW b qs long ms k), (k : Int)])) (k := 0) (fun i hi => ?_))) ?_
  · rw [Nat.zero_add, List.getElem_range]
    have hi' : i < ((N : Int) - long + 1).toNat := by simpa using hi
    have hw := e_who o.hq (s := (i : Int)) (e := (i : Int) + long) (by omega) (by omega) (by omega) (by omega)
    have hin : ∀ n ∈ ns, inD (.str n) (.tuple ((can b qs (i : Int) ((i : Int) + long)).map .str)) = M.pure (.bool ((can b qs (i : Int) ((i : Int) + long)).contains n)) := fun n h => (in_strs (hn n h) (can_so o)).1
    have hin2 : ∀ n ∈ ms, inD (.str n) (.tuple ((can b qs (i : Int) ((i : Int) + long)).map .str)) = M.pure (.bool ((can b qs (i : Int) ((i : Int) + long)).contains n)) := fun n h => (in_strs (hm n h) (can_so o)).1
    simp (disch := first | assumption | rfl | omega | decide) only [mp_bind, m_assoc, m_opt, m_cond_pure, m_cond_bind, m_cond_t, m_cond_f, mapM_map, filM_map, fold_map, foldF_map, mapM_pure, filM_pure, fold_pure, asI_i, asB_b, asS_l, asS_t, seqOf_l, seqOf_t, addD_i, iaddD_i, subD_i, fdivD_i, modD_i, negD_i, absD_i, intD_i, max2D_i, min2D_i, ltD_i, leD_i, gtD_i, geD_i, eqD_i, neD_i, lenD_l, lenD_t, tupleD_l, tupleD_t, listD_l, list2D_l, list2D_t, listD_t, slD_l, slD_t, revD_l, truthD_b, truthD_n, ixD_l, ixD_t, un2_t, un3_t, un4_t, zipI_l, zipI_t, isD_n, isnD_n, isNone_n, isNone_i, isNone_b, isNone_s, isNone_l, isNone_t, m_eta, Bool.not_true, Bool.not_false, isL_list, atI_0, atI_1, atI_2, atI_3, c_t, c_f, m_needT, isi_tuple_n, isi_tuple_b, isi_tuple_i, isi_tuple_s, isi_tuple_l, isi_tuple_t, isi_list_n, isi_list_b, isi_list_i, isi_list_s, isi_list_l, isi_list_t, isi_dict_n, isi_dict_b, isi_dict_i, isi_dict_s, isi_dict_l, isi_dict_t, isi_str_n, isi_str_b, isi_str_i, isi_str_s, isi_str_l, isi_str_t, isi_bool_n, isi_bool_b, isi_bool_i, isi_bool_s, isi_bool_l, isi_bool_t, isi_int_n, isi_int_b, isi_int_i, isi_int_s, isi_int_l, isi_int_t, bind_run, pure_run, hw]
    rw [mapM_eq_of (fun n : Str => (.bool ((can b qs (i : Int) ((i : Int) + long)).contains n) : D)) fun n h => hin n h]
    have hok : (ns.all fun n => (can b qs (i : Int) ((i : Int) + long)).contains n) = okW b qs long ns i := rfl
    simp (disch := first | assumption | rfl | omega | decide) only [mp_bind, m_assoc, m_opt, m_cond_pure, m_cond_bind, m_cond_t, m_cond_f, mapM_map, filM_map, fold_map, foldF_map, mapM_pure, filM_pure, fold_pure, asI_i, asB_b, asS_l, asS_t, seqOf_l, seqOf_t, addD_i, iaddD_i, subD_i, fdivD_i, modD_i, negD_i, absD_i, intD_i, max2D_i, min2D_i, ltD_i, leD_i, gtD_i, geD_i, eqD_i, neD_i, lenD_l, lenD_t, tupleD_l, tupleD_t, listD_l, list2D_l, list2D_t, listD_t, slD_l, slD_t, revD_l, truthD_b, truthD_n, ixD_l, ixD_t, un2_t, un3_t, un4_t, zipI_l, zipI_t, isD_n, isnD_n, isNone_n, isNone_i, isNone_b, isNone_s, isNone_l, isNone_t, m_eta, Bool.not_true, Bool.not_false, isL_list, atI_0, atI_1, atI_2, atI_3, c_t, c_f, m_needT, isi_tuple_n, isi_tuple_b, isi_tuple_i, isi_tuple_s, isi_tuple_l, isi_tuple_t, isi_list_n, isi_list_b, isi_list_i, isi_list_s, isi_list_l, isi_list_t, isi_dict_n, isi_dict_b, isi_dict_i, isi_dict_s, isi_dict_l, isi_dict_t, isi_str_n, isi_str_b, isi_str_i, isi_str_s, isi_str_l, isi_str_t, isi_bool_n, isi_bool_b, isi_bool_i, isi_bool_s, isi_bool_l, isi_bool_t, isi_int_n, isi_int_b, isi_int_i, isi_int_s, isi_int_l, isi_int_t, bind_run, pure_run, allD_map, hok, List.range_succ, List.filter_append]
    cases ho : okW b qs long ns i with
    | false =>
      simp (disch := first | assumption | rfl | omega | decide) only [mp_bind, m_assoc, m_opt, m_cond_pure, m_cond_bind, m_cond_t, m_cond_f, mapM_map, filM_map, fold_map, foldF_map, mapM_pure, filM_pure, fold_pure, asI_i, asB_b, asS_l, asS_t, seqOf_l, seqOf_t, addD_i, iaddD_i, subD_i, fdivD_i, modD_i, negD_i, absD_i, intD_i, max2D_i, min2D_i, ltD_i, leD_i, gtD_i, geD_i, eqD_i, neD_i, lenD_l, lenD_t, tupleD_l, tupleD_t, listD_l, list2D_l, list2D_t, listD_t, slD_l, slD_t, revD_l, truthD_b, truthD_n, ixD_l, ixD_t, un2_t, un3_t, un4_t, zipI_l, zipI_t, isD_n, isnD_n, isNone_n, isNone_i, isNone_b, isNone_s, isNone_l, isNone_t, m_eta, Bool.not_true, Bool.not_false, isL_list, atI_0, atI_1, atI_2, atI_3, c_t, c_f, m_needT, isi_tuple_n, isi_tuple_b, isi_tuple_i, isi_tuple_s, isi_tuple_l, isi_tuple_t, isi_list_n, isi_list_b, isi_list_i, isi_list_s, isi_list_l, isi_list_t, isi_dict_n, isi_dict_b, isi_dict_i, isi_dict_s, isi_dict_l, isi_dict_t, isi_str_n, isi_str_b, isi_str_i, isi_str_s, isi_str_l, isi_str_t, isi_bool_n, isi_bool_b, isi_bool_i, isi_bool_s, isi_bool_l, isi_bool_t, isi_int_n, isi_int_b, isi_int_i, isi_int_s, isi_int_l, isi_int_t, bind_run, pure_run, List.filter_cons, List.filter_nil, ho]
      simp
    | true =>
      rw [filM_eq_of (fun n : Str => cond ((can b qs (i : Int) ((i : Int) + long)).contains n) (some (.str n : D)) none) fun n h => by simp (disch := first | assumption | rfl | omega | decide) only [mp_bind, m_assoc, m_opt, m_cond_pure, m_cond_bind, m_cond_t, m_cond_f, mapM_map, filM_map, fold_map, foldF_map, mapM_pure, filM_pure, fold_pure, asI_i, asB_b, asS_l, asS_t, seqOf_l, seqOf_t, addD_i, iaddD_i, subD_i, fdivD_i, modD_i, negD_i, absD_i, intD_i, max2D_i, min2D_i, ltD_i, leD_i, gtD_i, geD_i, eqD_i, neD_i, lenD_l, lenD_t, tupleD_l, tupleD_t, listD_l, list2D_l, list2D_t, listD_t, slD_l, slD_t, revD_l, truthD_b, truthD_n, ixD_l, ixD_t, un2_t, un3_t, un4_t, zipI_l, zipI_t, isD_n, isnD_n, isNone_n, isNone_i, isNone_b, isNone_s, isNone_l, isNone_t, m_eta, Bool.not_true, Bool.not_false, isL_list, atI_0, atI_1, atI_2, atI_3, c_t, c_f, m_needT, isi_tuple_n, isi_tuple_b, isi_tuple_i, isi_tuple_s, isi_tuple_l, isi_tuple_t, isi_list_n, isi_list_b, isi_list_i, isi_list_s, isi_list_l, isi_list_t, isi_dict_n, isi_dict_b, isi_dict_i, isi_dict_s, isi_dict_l, isi_dict_t, isi_str_n, isi_str_b, isi_str_i, isi_str_s, isi_str_l, isi_str_t, isi_bool_n, isi_bool_b, isi_bool_i, isi_bool_s, isi_bool_l, isi_bool_t, isi_int_n, isi_int_b, isi_int_i, isi_int_s, isi_int_l, isi_int_t, bind_run, pure_run, hin2 n h]]
      have hisL : isL (.list (((List.range i).filter (okW b qs long ns)).map fun k => tI [-(cntW b qs long ms k), (k : Int)])) = true := rfl
      have hc : (((ms.filter fun n => (can b qs (i : Int) ((i : Int) + long)).contains n).map fun n => (.str n : D)).length : Int) = cntW b qs long ms i := by rw [List.length_map]; rfl
      have hlen := List.length_filter_le (okW b qs long ns) (List.range i)
      rw [List.length_range] at hlen
      simp (disch := first | assumption | rfl | omega | decide) only [mp_bind, m_assoc, m_opt, m_cond_pure, m_cond_bind, m_cond_t, m_cond_f, mapM_map, filM_map, fold_map, foldF_map, mapM_pure, filM_pure, fold_pure, asI_i, asB_b, asS_l, asS_t, seqOf_l, seqOf_t, addD_i, iaddD_i, subD_i, fdivD_i, modD_i, negD_i, absD_i, intD_i, max2D_i, min2D_i, ltD_i, leD_i, gtD_i, geD_i, eqD_i, neD_i, lenD_l, lenD_t, tupleD_l, tupleD_t, listD_l, list2D_l, list2D_t, listD_t, slD_l, slD_t, revD_l, truthD_b, truthD_n, ixD_l, ixD_t, un2_t, un3_t, un4_t, zipI_l, zipI_t, isD_n, isnD_n, isNone_n, isNone_i, isNone_b, isNone_s, isNone_l, isNone_t, m_eta, Bool.not_true, Bool.not_false, isL_list, atI_0, atI_1, atI_2, atI_3, c_t, c_f, m_needT, isi_tuple_n, isi_tuple_b, isi_tuple_i, isi_tuple_s, isi_tuple_l, isi_tuple_t, isi_list_n, isi_list_b, isi_list_i, isi_list_s, isi_list_l, isi_list_t, isi_dict_n, isi_dict_b, isi_dict_i, isi_dict_s, isi_dict_l, isi_dict_t, isi_str_n, isi_str_b, isi_str_i, isi_str_s, isi_str_l, isi_str_t, isi_bool_n, isi_bool_b, isi_bool_i, isi_bool_s, isi_bool_l, isi_bool_t, isi_int_n, isi_int_b, isi_int_i, isi_int_s, isi_int_l, isi_int_t, bind_run, pure_run, filterMap_cond, hc, hisL, List.filter_cons, List.filter_nil, ho]
      rw [appD_l (by rw [List.length_map]; omega)]
      simp
      rfl
  · rw [Nat.zero_add, List.length_range]
    exact h
theorem e_b5 {i : Nat} (hi : i < 20) {m : Option Nat} : m_law_b5 (dB b) (.int long) (.tuple (ms.map .str)) (.tuple (ns.map .str)) (bD (cntW b qs long ms) m) (.int (i : Int)) = M.pure (bD (cntW b qs long ms) (if okW b qs long ns i then some (match m with | none => i | some m => if cntW b qs long ms m < cntW b qs long ms i then i else m) else m)) := by
  have hw := e_can o.hq (s := (i : Int)) (e := (i : Int) + long) (by omega) (by omega) (by omega) (by omega)
  have hin : ∀ n ∈ ns, ninD (.str n) (.list ((can b qs (i : Int) ((i : Int) + long)).map .str)) = M.pure (.bool (!(can b qs (i : Int) ((i : Int) + long)).contains n)) := fun n h => ninD_of (in_strs (hn n h) (can_so o)).2
  have hin2 : ∀ n ∈ ms, inD (.str n) (.list ((can b qs (i : Int) ((i : Int) + long)).map .str)) = M.pure (.bool ((can b qs (i : Int) ((i : Int) + long)).contains n)) := fun n h => (in_strs (hm n h) (can_so o)).2
  simp (disch := first | assumption | rfl | omega | decide) only [mp_bind, m_assoc, m_opt, m_cond_pure, m_cond_bind, m_cond_t, m_cond_f, mapM_map, filM_map, fold_map, foldF_map, mapM_pure, filM_pure, fold_pure, asI_i, asB_b, asS_l, asS_t, seqOf_l, seqOf_t, addD_i, iaddD_i, subD_i, fdivD_i, modD_i, negD_i, absD_i, intD_i, max2D_i, min2D_i, ltD_i, leD_i, gtD_i, geD_i, eqD_i, neD_i, lenD_l, lenD_t, tupleD_l, tupleD_t, listD_l, list2D_l, list2D_t, listD_t, slD_l, slD_t, revD_l, truthD_b, truthD_n, ixD_l, ixD_t, un2_t, un3_t, un4_t, zipI_l, zipI_t, isD_n, isnD_n, isNone_n, isNone_i, isNone_b, isNone_s, isNone_l, isNone_t, m_eta, Bool.not_true, Bool.not_false, isL_list, atI_0, atI_1, atI_2, atI_3, c_t, c_f, m_needT, isi_tuple_n, isi_tuple_b, isi_tuple_i, isi_tuple_s, isi_tuple_l, isi_tuple_t, isi_list_n, isi_list_b, isi_list_i, isi_list_s, isi_list_l, isi_list_t, isi_dict_n, isi_dict_b, isi_dict_i, isi_dict_s, isi_dict_l, isi_dict_t, isi_str_n, isi_str_b, isi_str_i, isi_str_s, isi_str_l, isi_str_t, isi_bool_n, isi_bool_b, isi_bool_i, isi_bool_s, isi_bool_l, isi_bool_t, isi_int_n, isi_int_b, isi_int_i, isi_int_s, isi_int_l, isi_int_t, bind_run, pure_run, m_law_b5, hw]
  rw [filM_eq_of (fun n : Str => cond ((can b qs (i : Int) ((i : Int) + long)).contains n) (some (.str n : D)) none) fun n h => by simp (disch := first | assumption | rfl | omega | decide) only [mp_bind, m_assoc, m_opt, m_cond_pure, m_cond_bind, m_cond_t, m_cond_f, mapM_map, filM_map, fold_map, foldF_map, mapM_pure, filM_pure, fold_pure, asI_i, asB_b, asS_l, asS_t, seqOf_l, seqOf_t, addD_i, iaddD_i, subD_i, fdivD_i, modD_i, negD_i, absD_i, intD_i, max2D_i, min2D_i, ltD_i, leD_i, gtD_i, geD_i, eqD_i, neD_i, lenD_l, lenD_t, tupleD_l, tupleD_t, listD_l, list2D_l, list2D_t, listD_t, slD_l, slD_t, revD_l, truthD_b, truthD_n, ixD_l, ixD_t, un2_t, un3_t, un4_t, zipI_l, zipI_t, isD_n, isnD_n, isNone_n, isNone_i, isNone_b, isNone_s, isNone_l, isNone_t, m_eta, Bool.not_true, Bool.not_false, isL_list, atI_0, atI_1, atI_2, atI_3, c_t, c_f, m_needT, isi_tuple_n, isi_tuple_b, isi_tuple_i, isi_tuple_s, isi_tuple_l, isi_tuple_t, isi_list_n, isi_list_b, isi_list_i, isi_list_s, isi_list_l, isi_list_t, isi_dict_n, isi_dict_b, isi_dict_i, isi_dict_s, isi_dict_l, isi_dict_t, isi_str_n, isi_str_b, isi_str_i, isi_str_s, isi_str_l, isi_str_t, isi_bool_n, isi_bool_b, isi_bool_i, isi_bool_s, isi_bool_l, isi_bool_t, isi_int_n, isi_int_b, isi_int_i, isi_int_s, isi_int_l, isi_int_t, bind_run, pure_run, hin2 n h]]
  have hc : (((ms.filter fun n => (can b qs (i : Int) ((i : Int) + long)).contains n).map fun n => (.str n : D)).length : Int) = cntW b qs long ms i := by rw [List.length_map]; rfl
  simp (disch := first | assumption | rfl | omega | decide) only [mp_bind, m_assoc, m_opt, m_cond_pure, m_cond_bind, m_cond_t, m_cond_f, mapM_map, filM_map, fold_map, foldF_map, mapM_pure, filM_pure, fold_pure, asI_i, asB_b, asS_l, asS_t, seqOf_l, seqOf_t, addD_i, iaddD_i, subD_i, fdivD_i, modD_i, negD_i, absD_i, intD_i, max2D_i, min2D_i, ltD_i, leD_i, gtD_i, geD_i, eqD_i, neD_i, lenD_l, lenD_t, tupleD_l, tupleD_t, listD_l, list2D_l, list2D_t, listD_t, slD_l, slD_t, revD_l, truthD_b, truthD_n, ixD_l, ixD_t, un2_t, un3_t, un4_t, zipI_l, zipI_t, isD_n, isnD_n, isNone_n, isNone_i, isNone_b, isNone_s, isNone_l, isNone_t, m_eta, Bool.not_true, Bool.not_false, isL_list, atI_0, atI_1, atI_2, atI_3, c_t, c_f, m_needT, isi_tuple_n, isi_tuple_b, isi_tuple_i, isi_tuple_s, isi_tuple_l, isi_tuple_t, isi_list_n, isi_list_b, isi_list_i, isi_list_s, isi_list_l, isi_list_t, isi_dict_n, isi_dict_b, isi_dict_i, isi_dict_s, isi_dict_l, isi_dict_t, isi_str_n, isi_str_b, isi_str_i, isi_str_s, isi_str_l, isi_str_t, isi_bool_n, isi_bool_b, isi_bool_i, isi_bool_s, isi_bool_l, isi_bool_t, isi_int_n, isi_int_b, isi_int_i, isi_int_s, isi_int_l, isi_int_t, bind_run, pure_run, filterMap_cond, hc]
  rw [filM_eq_of (fun n : Str => cond (!(can b qs (i : Int) ((i : Int) + long)).contains n) (some (.str n : D)) none) fun n h => by simp (disch := first | assumption | rfl | omega | decide) only [mp_bind, m_assoc, m_opt, m_cond_pure, m_cond_bind, m_cond_t, m_cond_f, mapM_map, filM_map, fold_map, foldF_map, mapM_pure, filM_pure, fold_pure, asI_i, asB_b, asS_l, asS_t, seqOf_l, seqOf_t, addD_i, iaddD_i, subD_i, fdivD_i, modD_i, negD_i, absD_i, intD_i, max2D_i, min2D_i, ltD_i, leD_i, gtD_i, geD_i, eqD_i, neD_i, lenD_l, lenD_t, tupleD_l, tupleD_t, listD_l, list2D_l, list2D_t, listD_t, slD_l, slD_t, revD_l, truthD_b, truthD_n, ixD_l, ixD_t, un2_t, un3_t, un4_t, zipI_l, zipI_t, isD_n, isnD_n, isNone_n, isNone_i, isNone_b, isNone_s, isNone_l, isNone_t, m_eta, Bool.not_true, Bool.not_false, isL_list, atI_0, atI_1, atI_2, atI_3, c_t, c_f, m_needT, isi_tuple_n, isi_tuple_b, isi_tuple_i, isi_tuple_s, isi_tuple_l, isi_tuple_t, isi_list_n, isi_list_b, isi_list_i, isi_list_s, isi_list_l, isi_list_t, isi_dict_n, isi_dict_b, isi_dict_i, isi_dict_s, isi_dict_l, isi_dict_t, isi_str_n, isi_str_b, isi_str_i, isi_str_s, isi_str_l, isi_str_t, isi_bool_n, isi_bool_b, isi_bool_i, isi_bool_s, isi_bool_l, isi_bool_t, isi_int_n, isi_int_b, isi_int_i, isi_int_s, isi_int_l, isi_int_t, bind_run, pure_run, hin n h]]
  have hE : eqD (.list ((ns.filter fun n => !(can b qs (i : Int) ((i : Int) + long)).contains n).map fun n => (.str n : D))) (.list []) = M.pure (.bool (okW b qs long ns i)) := by
    rw [eqD_nil (shA_map fun n h => by simpa [sh] using hn n (List.mem_filter.mp h).1), List.isEmpty_map, isEmpty_filter, any_not]; rfl
  simp (disch := first | assumption | rfl | omega | decide) only [mp_bind, m_assoc, m_opt, m_cond_pure, m_cond_bind, m_cond_t, m_cond_f, mapM_map, filM_map, fold_map, foldF_map, mapM_pure, filM_pure, fold_pure, asI_i, asB_b, asS_l, asS_t, seqOf_l, seqOf_t, addD_i, iaddD_i, subD_i, fdivD_i, modD_i, negD_i, absD_i, intD_i, max2D_i, min2D_i, ltD_i, leD_i, gtD_i, geD_i, eqD_i, neD_i, lenD_l, lenD_t, tupleD_l, tupleD_t, listD_l, list2D_l, list2D_t, listD_t, slD_l, slD_t, revD_l, truthD_b, truthD_n, ixD_l, ixD_t, un2_t, un3_t, un4_t, zipI_l, zipI_t, isD_n, isnD_n, isNone_n, isNone_i, isNone_b, isNone_s, isNone_l, isNone_t, m_eta, Bool.not_true, Bool.not_false, isL_list, atI_0, atI_1, atI_2, atI_3, c_t, c_f, m_needT, isi_tuple_n, isi_tuple_b, isi_tuple_i, isi_tuple_s, isi_tuple_l, isi_tuple_t, isi_list_n, isi_list_b, isi_list_i, isi_list_s, isi_list_l, isi_list_t, isi_dict_n, isi_dict_b, isi_dict_i, isi_dict_s, isi_dict_l, isi_dict_t, isi_str_n, isi_str_b, isi_str_i, isi_str_s, isi_str_l, isi_str_t, isi_bool_n, isi_bool_b, isi_bool_i, isi_bool_s, isi_bool_l, isi_bool_t, isi_int_n, isi_int_b, isi_int_i, isi_int_s, isi_int_l, isi_int_t, bind_run, pure_run, filterMap_cond, hE]
  have i0 : ∀ m : Nat, ixD (tI [cntW b qs long ms m, (m : Int)]) (.int 0) = M.pure (.int (cntW b qs long ms m)) := fun m => ix_tI (k := 0) (by simp)
  have nt : ∀ m : Nat, isNoneD (tI [cntW b qs long ms m, (m : Int)]) = false := fun m => isNone_t
  cases ho : okW b qs long ns i with
  | false => simp (disch := first | assumption | rfl | omega | decide) only [mp_bind, m_assoc, m_opt, m_cond_pure, m_cond_bind, m_cond_t, m_cond_f, mapM_map, filM_map, fold_map, foldF_map, mapM_pure, filM_pure, fold_pure, asI_i, asB_b, asS_l, asS_t, seqOf_l, seqOf_t, addD_i, iaddD_i, subD_i, fdivD_i, modD_i, negD_i, absD_i, intD_i, max2D_i, min2D_i, ltD_i, leD_i, gtD_i, geD_i, eqD_i, neD_i, lenD_l, lenD_t, tupleD_l, tupleD_t, listD_l, list2D_l, list2D_t, listD_t, slD_l, slD_t, revD_l, truthD_b, truthD_n, ixD_l, ixD_t, un2_t, un3_t, un4_t, zipI_l, zipI_t, isD_n, isnD_n, isNone_n, isNone_i, isNone_b, isNone_s, isNone_l, isNone_t, m_eta, Bool.not_true, Bool.not_false, isL_list, atI_0, atI_1, atI_2, atI_3, c_t, c_f, m_needT, isi_tuple_n, isi_tuple_b, isi_tuple_i, isi_tuple_s, isi_tuple_l, isi_tuple_t, isi_list_n, isi_list_b, isi_list_i, isi_list_s, isi_list_l, isi_list_t, isi_dict_n, isi_dict_b, isi_dict_i, isi_dict_s, isi_dict_l, isi_dict_t, isi_str_n, isi_str_b, isi_str_i, isi_str_s, isi_str_l, isi_str_t, isi_bool_n, isi_bool_b, isi_bool_i, isi_bool_s, isi_bool_l, isi_bool_t, isi_int_n, isi_int_b, isi_int_i, isi_int_s, isi_int_l, isi_int_t, bind_run, pure_run]; simp
  | true =>
    cases m with
    | none =>
      simp (disch := first | assumption | rfl | omega | decide) only [mp_bind, m_assoc, m_opt, m_cond_pure, m_cond_bind, m_cond_t, m_cond_f, mapM_map, filM_map, fold_map, foldF_map, mapM_pure, filM_pure, fold_pure, asI_i, asB_b, asS_l, asS_t, seqOf_l, seqOf_t, addD_i, iaddD_i, subD_i, fdivD_i, modD_i, negD_i, absD_i, intD_i, max2D_i, min2D_i, ltD_i, leD_i, gtD_i, geD_i, eqD_i, neD_i, lenD_l, lenD_t, tupleD_l, tupleD_t, listD_l, list2D_l, list2D_t, listD_t, slD_l, slD_t, revD_l, truthD_b, truthD_n, ixD_l, ixD_t, un2_t, un3_t, un4_t, zipI_l, zipI_t, isD_n, isnD_n, isNone_n, isNone_i, isNone_b, isNone_s, isNone_l, isNone_t, m_eta, Bool.not_true, Bool.not_false, isL_list, atI_0, atI_1, atI_2, atI_3, c_t, c_f, m_needT, isi_tuple_n, isi_tuple_b, isi_tuple_i, isi_tuple_s, isi_tuple_l, isi_tuple_t, isi_list_n, isi_list_b, isi_list_i, isi_list_s, isi_list_l, isi_list_t, isi_dict_n, isi_dict_b, isi_dict_i, isi_dict_s, isi_dict_l, isi_dict_t, isi_str_n, isi_str_b, isi_str_i, isi_str_s, isi_str_l, isi_str_t, isi_bool_n, isi_bool_b, isi_bool_i, isi_bool_s, isi_bool_l, isi_bool_t, isi_int_n, isi_int_b, isi_int_i, isi_int_s, isi_int_l, isi_int_t, bind_run, pure_run, bD, isNone_n]
      simp [bD]
      rfl
    | some m =>
      simp (disch := first | assumption | rfl | omega | decide) only [mp_bind, m_assoc, m_opt, m_cond_pure, m_cond_bind, m_cond_t, m_cond_f, mapM_map, filM_map, fold_map, foldF_map, mapM_pure, filM_pure, fold_pure, asI_i, asB_b, asS_l, asS_t, seqOf_l, seqOf_t, addD_i, iaddD_i, subD_i, fdivD_i, modD_i, negD_i, absD_i, intD_i, max2D_i, min2D_i, ltD_i, leD_i, gtD_i, geD_i, eqD_i, neD_i, lenD_l, lenD_t, tupleD_l, tupleD_t, listD_l, list2D_l, list2D_t, listD_t, slD_l, slD_t, revD_l, truthD_b, truthD_n, ixD_l, ixD_t, un2_t, un3_t, un4_t, zipI_l, zipI_t, isD_n, isnD_n, isNone_n, isNone_i, isNone_b, isNone_s, isNone_l, isNone_t, m_eta, Bool.not_true, Bool.not_false, isL_list, atI_0, atI_1, atI_2, atI_3, c_t, c_f, m_needT, isi_tuple_n, isi_tuple_b, isi_tuple_i, isi_tuple_s, isi_tuple_l, isi_tuple_t, isi_list_n, isi_list_b, isi_list_i, isi_list_s, isi_list_l, isi_list_t, isi_dict_n, isi_dict_b, isi_dict_i, isi_dict_s, isi_dict_l, isi_dict_t, isi_str_n, isi_str_b, isi_str_i, isi_str_s, isi_str_l, isi_str_t, isi_bool_n, isi_bool_b, isi_bool_i, isi_bool_s, isi_bool_l, isi_bool_t, isi_int_n, isi_int_b, isi_int_i, isi_int_s, isi_int_l, isi_int_t, bind_run, pure_run, bD, nt, i0]
      by_cases h : cntW b qs long ms m < cntW b qs long ms i <;> simp [h, bD] <;> rfl
theorem t_r12 : Ret (m_law_r12 (dB b) (.tuple (ns.map .str)) (.tuple (ms.map .str)) (.int long) (.int (N : Int)) (.list (qs.map .str)) (bD (cntW b qs long ms) (bs (okW b qs long ns) (cntW b qs long ms) ((N : Int) - long + 1).toNat))) (Fl.nx ()) := by
  intro P hP
  simp (disch := first | assumption | rfl | omega | decide) only [mp_bind, m_assoc, m_opt, m_cond_pure, m_cond_bind, m_cond_t, m_cond_f, mapM_map, filM_map, fold_map, foldF_map, mapM_pure, filM_pure, fold_pure, asI_i, asB_b, asS_l, asS_t, seqOf_l, seqOf_t, addD_i, iaddD_i, subD_i, fdivD_i, modD_i, negD_i, absD_i, intD_i, max2D_i, min2D_i, ltD_i, leD_i, gtD_i, geD_i, eqD_i, neD_i, lenD_l, lenD_t, tupleD_l, tupleD_t, listD_l, list2D_l, list2D_t, listD_t, slD_l, slD_t, revD_l, truthD_b, truthD_n, ixD_l, ixD_t, un2_t, un3_t, un4_t, zipI_l, zipI_t, isD_n, isnD_n, isNone_n, isNone_i, isNone_b, isNone_s, isNone_l, isNone_t, m_eta, Bool.not_true, Bool.not_false, isL_list, atI_0, atI_1, atI_2, atI_3, c_t, c_f, m_needT, isi_tuple_n, isi_tuple_b, isi_tuple_i, isi_tuple_s, isi_tuple_l, isi_tuple_t, isi_list_n, isi_list_b, isi_list_i, isi_list_s, isi_list_l, isi_list_t, isi_dict_n, isi_dict_b, isi_dict_i, isi_dict_s, isi_dict_l, isi_dict_t, isi_str_n, isi_str_b, isi_str_i, isi_str_s, isi_str_l, isi_str_t, isi_bool_n, isi_bool_b, isi_bool_i, isi_bool_s, isi_bool_l, isi_bool_t, isi_int_n, isi_int_b, isi_int_i, isi_int_s, isi_int_l, isi_int_t, bind_run, pure_run, m_law_r12, dict2_dB, e_must o hn hm l0 l1, e_same 12 _ okS_bD]
  exact t_c11 o P hP
end
section
variable {b : Bu} {qs : List Str} {N : Nat} (o : BOk b qs N)
include o
variable {ns : List Str} (hn : ∀ n ∈ ns, PyData.strOk n = true) {long : Int} (l0 : 1 ≤ long) (l1 : long ≤ 5)
include hn l0 l1
theorem t_c13 : Ret (m_law_c13 (.list (qs.map .str)) (.list ((List.range ((N : Int) - long + 1).toNat).map fun (i : Nat) => .int (i : Int))) (dB b) (.int long) (.tuple (ns.map .str)) (.int (N : Int))) (Fl.nx ()) := by
  intro P hP
  have n1 := o.n1
  simp (disch := first | assumption | rfl | omega | decide) only [mp_bind, m_assoc, m_opt, m_cond_pure, m_cond_bind, m_cond_t, m_cond_f, mapM_map, filM_map, fold_map, foldF_map, mapM_pure, filM_pure, fold_pure, asI_i, asB_b, asS_l, asS_t, seqOf_l, seqOf_t, addD_i, iaddD_i, subD_i, fdivD_i, modD_i, negD_i, absD_i, intD_i, max2D_i, min2D_i, ltD_i, leD_i, gtD_i, geD_i, eqD_i, neD_i, lenD_l, lenD_t, tupleD_l, tupleD_t, listD_l, list2D_l, list2D_t, listD_t, slD_l, slD_t, revD_l, truthD_b, truthD_n, ixD_l, ixD_t, un2_t, un3_t, un4_t, zipI_l, zipI_t, isD_n, isnD_n, isNone_n, isNone_i, isNone_b, isNone_s, isNone_l, isNone_t, m_eta, Bool.not_true, Bool.not_false, isL_list, atI_0, atI_1, atI_2, atI_3, c_t, c_f, m_needT, isi_tuple_n, isi_tuple_b, isi_tuple_i, isi_tuple_s, isi_tuple_l, isi_tuple_t, isi_list_n, isi_list_b, isi_list_i, isi_list_s, isi_list_l, isi_list_t, isi_dict_n, isi_dict_b, isi_dict_i, isi_dict_s, isi_dict_l, isi_dict_t, isi_str_n, isi_str_b, isi_str_i, isi_str_s, isi_str_l, isi_str_t, isi_bool_n, isi_bool_b, isi_bool_i, isi_bool_s, isi_bool_l, isi_bool_t, isi_int_n, isi_int_b, isi_int_i, isi_int_s, isi_int_l, isi_int_t, bind_run, pure_run, m_law_c13]
  refine filM_sub (g := fun n : Str => (.str n : D)) (fun n hn R r1 r0 => ?_) fun ms hms => ?_
  · refine draw_run (by omega) fun r _ _ => ?_
    simp (disch := first | assumption | rfl | omega | decide) only [mp_bind, m_assoc, m_opt, m_cond_pure, m_cond_bind, m_cond_t, m_cond_f, mapM_map, filM_map, fold_map, foldF_map, mapM_pure, filM_pure, fold_pure, asI_i, asB_b, asS_l, asS_t, seqOf_l, seqOf_t, addD_i, iaddD_i, subD_i, fdivD_i, modD_i, negD_i, absD_i, intD_i, max2D_i, min2D_i, ltD_i, leD_i, gtD_i, geD_i, eqD_i, neD_i, lenD_l, lenD_t, tupleD_l, tupleD_t, listD_l, list2D_l, list2D_t, listD_t, slD_l, slD_t, revD_l, truthD_b, truthD_n, ixD_l, ixD_t, un2_t, un3_t, un4_t, zipI_l, zipI_t, isD_n, isnD_n, isNone_n, isNone_i, isNone_b, isNone_s, isNone_l, isNone_t, m_eta, Bool.not_true, Bool.not_false, isL_list, atI_0, atI_1, atI_2, atI_3, c_t, c_f, m_needT, isi_tuple_n, isi_tuple_b, isi_tuple_i, isi_tuple_s, isi_tuple_l, isi_tuple_t, isi_list_n, isi_list_b, isi_list_i, isi_list_s, isi_list_l, isi_list_t, isi_dict_n, isi_dict_b, isi_dict_i, isi_dict_s, isi_dict_l, isi_dict_t, isi_str_n, isi_str_b, isi_str_i, isi_str_s, isi_str_l, isi_str_t, isi_bool_n, isi_bool_b, isi_bool_i, isi_bool_s, isi_bool_l, isi_bool_t, isi_int_n, isi_int_b, isi_int_i, isi_int_s, isi_int_l, isi_int_t, bind_run, pure_run]
    by_cases h : r = 0
    · simpa [h] using r1
    · simpa [h] using r0
  · have hm : ∀ n ∈ ms, PyData.strOk n = true := fun n h => o.so n (hms.subset h)
    have hst := fold_steps (f := fun s (x : Nat) => m_law_b5 (dB b) (.int long) (.tuple (ms.map .str)) (.tuple (ns.map .str)) s (.int (x : Int))) (fun i => bD (cntW b qs long ms) (bs (okW b qs long ns) (cntW b qs long ms) i)) (xs := List.range ((N : Int) - long + 1).toNat) (k := 0) fun i hi => by
      rw [Nat.zero_add, List.getElem_range]
      have hi' : i < ((N : Int) - long + 1).toNat := by simpa using hi
      rw [e_b5 o hn hm l0 l1 (by omega), bs]
    rw [Nat.zero_add, List.length_range] at hst
    have e0 : bD (cntW b qs long ms) (bs (okW b qs long ns) (cntW b qs long ms) 0) = .none := rfl
    rw [e0] at hst
    simp (disch := first | assumption | rfl | omega | decide) only [mp_bind, m_assoc, m_opt, m_cond_pure, m_cond_bind, m_cond_t, m_cond_f, mapM_map, filM_map, fold_map, foldF_map, mapM_pure, filM_pure, fold_pure, asI_i, asB_b, asS_l, asS_t, seqOf_l, seqOf_t, addD_i, iaddD_i, subD_i, fdivD_i, modD_i, negD_i, absD_i, intD_i, max2D_i, min2D_i, ltD_i, leD_i, gtD_i, geD_i, eqD_i, neD_i, lenD_l, lenD_t, tupleD_l, tupleD_t, listD_l, list2D_l, list2D_t, listD_t, slD_l, slD_t, revD_l, truthD_b, truthD_n, ixD_l, ixD_t, un2_t, un3_t, un4_t, zipI_l, zipI_t, isD_n, isnD_n, isNone_n, isNone_i, isNone_b, isNone_s, isNone_l, isNone_t, m_eta, Bool.not_true, Bool.not_false, isL_list, atI_0, atI_1, atI_2, atI_3, c_t, c_f, m_needT, isi_tuple_n, isi_tuple_b, isi_tuple_i, isi_tuple_s, isi_tuple_l, isi_tuple_t, isi_list_n, isi_list_b, isi_list_i, isi_list_s, isi_list_l, isi_list_t, isi_dict_n, isi_dict_b, isi_dict_i, isi_dict_s, isi_dict_l, isi_dict_t, isi_str_n, isi_str_b, isi_str_i, isi_str_s, isi_str_l, isi_str_t, isi_bool_n, isi_bool_b, isi_bool_i, isi_bool_s, isi_bool_l, isi_bool_t, isi_int_n, isi_int_b, isi_int_i, isi_int_s, isi_int_l, isi_int_t, bind_run, pure_run, hst]
    exact t_r12 o hn hm l0 l1 P hP
theorem e_bestM : m_best_meeting (dB b) (.int long) (.int (N : Int)) = M.pure (bD (fun k => ((can b qs (k : Int) ((k : Int) + long)).length : Int)) (bs (fun _ => true) (fun k => ((can b qs (k : Int) ((k : Int) + long)).length : Int)) ((N : Int) - long + 1).toNat)) := by
  have n1 := o.n1
  have h := e_best (ok := fun _ => true) (cnt := fun k => ((can b qs (k : Int) ((k : Int) + long)).length : Int)) (M' := ((N : Int) - long + 1).toNat)
  have hft : (List.range ((N : Int) - long + 1).toNat).filter (fun _ => true) = List.range ((N : Int) - long + 1).toNat := List.filter_eq_self.mpr fun _ _ => rfl
  rw [hft] at h
  simp (disch := first | assumption | rfl | omega | decide) only [mp_bind, m_assoc, m_opt, m_cond_pure, m_cond_bind, m_cond_t, m_cond_f, mapM_map, filM_map, fold_map, foldF_map, mapM_pure, filM_pure, fold_pure, asI_i, asB_b, asS_l, asS_t, seqOf_l, seqOf_t, addD_i, iaddD_i, subD_i, fdivD_i, modD_i, negD_i, absD_i, intD_i, max2D_i, min2D_i, ltD_i, leD_i, gtD_i, geD_i, eqD_i, neD_i, lenD_l, lenD_t, tupleD_l, tupleD_t, listD_l, list2D_l, list2D_t, listD_t, slD_l, slD_t, revD_l, truthD_b, truthD_n, ixD_l, ixD_t, un2_t, un3_t, un4_t, zipI_l, zipI_t, isD_n, isnD_n, isNone_n, isNone_i, isNone_b, isNone_s, isNone_l, isNone_t, m_eta, Bool.not_true, Bool.not_false, isL_list, atI_0, atI_1, atI_2, atI_3, c_t, c_f, m_needT, isi_tuple_n, isi_tuple_b, isi_tuple_i, isi_tuple_s, isi_tuple_l, isi_tuple_t, isi_list_n, isi_list_b, isi_list_i, isi_list_s, isi_list_l, isi_list_t, isi_dict_n, isi_dict_b, isi_dict_i, isi_dict_s, isi_dict_l, isi_dict_t, isi_str_n, isi_str_b, isi_str_i, isi_str_s, isi_str_l, isi_str_t, isi_bool_n, isi_bool_b, isi_bool_i, isi_bool_s, isi_bool_l, isi_bool_t, isi_int_n, isi_int_b, isi_int_i, isi_int_s, isi_int_l, isi_int_t, bind_run, pure_run, m_best_meeting, rngD_n (n := (N : Int) - long + 1) (by omega) (by omega)]
  rw [mapM_eq_of (fun k : Nat => tI [-((can b qs (k : Int) ((k : Int) + long)).length : Int), (k : Int)]) fun k hk => ?_]
  · exact h
  · have hk' := List.mem_range.mp hk
    simp (disch := first | assumption | rfl | omega | decide) only [mp_bind, m_assoc, m_opt, m_cond_pure, m_cond_bind, m_cond_t, m_cond_f, mapM_map, filM_map, fold_map, foldF_map, mapM_pure, filM_pure, fold_pure, asI_i, asB_b, asS_l, asS_t, seqOf_l, seqOf_t, addD_i, iaddD_i, subD_i, fdivD_i, modD_i, negD_i, absD_i, intD_i, max2D_i, min2D_i, ltD_i, leD_i, gtD_i, geD_i, eqD_i, neD_i, lenD_l, lenD_t, tupleD_l, tupleD_t, listD_l, list2D_l, list2D_t, listD_t, slD_l, slD_t, revD_l, truthD_b, truthD_n, ixD_l, ixD_t, un2_t, un3_t, un4_t, zipI_l, zipI_t, isD_n, isnD_n, isNone_n, isNone_i, isNone_b, isNone_s, isNone_l, isNone_t, m_eta, Bool.not_true, Bool.not_false, isL_list, atI_0, atI_1, atI_2, atI_3, c_t, c_f, m_needT, isi_tuple_n, isi_tuple_b, isi_tuple_i, isi_tuple_s, isi_tuple_l, isi_tuple_t, isi_list_n, isi_list_b, isi_list_i, isi_list_s, isi_list_l, isi_list_t, isi_dict_n, isi_dict_b, isi_dict_i, isi_dict_s, isi_dict_l, isi_dict_t, isi_str_n, isi_str_b, isi_str_i, isi_str_s, isi_str_l, isi_str_t, isi_bool_n, isi_bool_b, isi_bool_i, isi_bool_s, isi_bool_l, isi_bool_t, isi_int_n, isi_int_b, isi_int_i, isi_int_s, isi_int_l, isi_int_t, bind_run, pure_run, e_who o.hq (s := (k : Int)) (e := (k : Int) + long) (by omega) (by omega) (by omega) (by omega), List.length_map]
    rfl
theorem t_c14 : Ret (m_law_c14 (.int (N : Int)) (.int long) (dB b) (.list (qs.map .str)) (.tuple (ns.map .str))) (Fl.nx ()) := by
  intro P hP
  have n1 := o.n1
  have h13 := t_c13 o hn l0 l1
  have hb := e_bestM o hn l0 l1
  simp (disch := first | assumption | rfl | omega | decide) only [mp_bind, m_assoc, m_opt, m_cond_pure, m_cond_bind, m_cond_t, m_cond_f, mapM_map, filM_map, fold_map, foldF_map, mapM_pure, filM_pure, fold_pure, asI_i, asB_b, asS_l, asS_t, seqOf_l, seqOf_t, addD_i, iaddD_i, subD_i, fdivD_i, modD_i, negD_i, absD_i, intD_i, max2D_i, min2D_i, ltD_i, leD_i, gtD_i, geD_i, eqD_i, neD_i, lenD_l, lenD_t, tupleD_l, tupleD_t, listD_l, list2D_l, list2D_t, listD_t, slD_l, slD_t, revD_l, truthD_b, truthD_n, ixD_l, ixD_t, un2_t, un3_t, un4_t, zipI_l, zipI_t, isD_n, isnD_n, isNone_n, isNone_i, isNone_b, isNone_s, isNone_l, isNone_t, m_eta, Bool.not_true, Bool.not_false, isL_list, atI_0, atI_1, atI_2, atI_3, c_t, c_f, m_needT, isi_tuple_n, isi_tuple_b, isi_tuple_i, isi_tuple_s, isi_tuple_l, isi_tuple_t, isi_list_n, isi_list_b, isi_list_i, isi_list_s, isi_list_l, isi_list_t, isi_dict_n, isi_dict_b, isi_dict_i, isi_dict_s, isi_dict_l, isi_dict_t, isi_str_n, isi_str_b, isi_str_i, isi_str_s, isi_str_l, isi_str_t, isi_bool_n, isi_bool_b, isi_bool_i, isi_bool_s, isi_bool_l, isi_bool_t, isi_int_n, isi_int_b, isi_int_i, isi_int_s, isi_int_l, isi_int_t, bind_run, pure_run, m_law_c14, rngD_n (n := (N : Int) - long + 1) (by omega) (by omega)]
  rw [mapM_eq_of (fun k : Nat => (.int ((can b qs (k : Int) ((k : Int) + long)).length : Int) : D)) fun k hk => ?_]
  rotate_left
  · have hk' := List.mem_range.mp hk
    simp (disch := first | assumption | rfl | omega | decide) only [mp_bind, m_assoc, m_opt, m_cond_pure, m_cond_bind, m_cond_t, m_cond_f, mapM_map, filM_map, fold_map, foldF_map, mapM_pure, filM_pure, fold_pure, asI_i, asB_b, asS_l, asS_t, seqOf_l, seqOf_t, addD_i, iaddD_i, subD_i, fdivD_i, modD_i, negD_i, absD_i, intD_i, max2D_i, min2D_i, ltD_i, leD_i, gtD_i, geD_i, eqD_i, neD_i, lenD_l, lenD_t, tupleD_l, tupleD_t, listD_l, list2D_l, list2D_t, listD_t, slD_l, slD_t, revD_l, truthD_b, truthD_n, ixD_l, ixD_t, un2_t, un3_t, un4_t, zipI_l, zipI_t, isD_n, isnD_n, isNone_n, isNone_i, isNone_b, isNone_s, isNone_l, isNone_t, m_eta, Bool.not_true, Bool.not_false, isL_list, atI_0, atI_1, atI_2, atI_3, c_t, c_f, m_needT, isi_tuple_n, isi_tuple_b, isi_tuple_i, isi_tuple_s, isi_tuple_l, isi_tuple_t, isi_list_n, isi_list_b, isi_list_i, isi_list_s, isi_list_l, isi_list_t, isi_dict_n, isi_dict_b, isi_dict_i, isi_dict_s, isi_dict_l, isi_dict_t, isi_str_n, isi_str_b, isi_str_i, isi_str_s, isi_str_l, isi_str_t, isi_bool_n, isi_bool_b, isi_bool_i, isi_bool_s, isi_bool_l, isi_bool_t, isi_int_n, isi_int_b, isi_int_i, isi_int_s, isi_int_l, isi_int_t, bind_run, pure_run, e_can o.hq (s := (k : Int)) (e := (k : Int) + long) (by omega) (by omega) (by omega) (by omega), List.length_map]
  generalize hM : ((N : Int) - long + 1).toNat = M' at *
  have em : (List.range M').map (fun k : Nat => (.int ((can b qs (k : Int) ((k : Int) + long)).length : Int) : D)) = ((List.range M').map fun k : Nat => ((can b qs (k : Int) ((k : Int) + long)).length : Int)).map .int := by rw [List.map_map]; rfl
  obtain ⟨s1, s2⟩ := bs_spec (fun _ => true) (fun k => ((can b qs (k : Int) ((k : Int) + long)).length : Int)) M'
  simp (disch := first | assumption | rfl | omega | decide) only [mp_bind, m_assoc, m_opt, m_cond_pure, m_cond_bind, m_cond_t, m_cond_f, mapM_map, filM_map, fold_map, foldF_map, mapM_pure, filM_pure, fold_pure, asI_i, asB_b, asS_l, asS_t, seqOf_l, seqOf_t, addD_i, iaddD_i, subD_i, fdivD_i, modD_i, negD_i, absD_i, intD_i, max2D_i, min2D_i, ltD_i, leD_i, gtD_i, geD_i, eqD_i, neD_i, lenD_l, lenD_t, tupleD_l, tupleD_t, listD_l, list2D_l, list2D_t, listD_t, slD_l, slD_t, revD_l, truthD_b, truthD_n, ixD_l, ixD_t, un2_t, un3_t, un4_t, zipI_l, zipI_t, isD_n, isnD_n, isNone_n, isNone_i, isNone_b, isNone_s, isNone_l, isNone_t, m_eta, Bool.not_true, Bool.not_false, isL_list, atI_0, atI_1, atI_2, atI_3, c_t, c_f, m_needT, isi_tuple_n, isi_tuple_b, isi_tuple_i, isi_tuple_s, isi_tuple_l, isi_tuple_t, isi_list_n, isi_list_b, isi_list_i, isi_list_s, isi_list_l, isi_list_t, isi_dict_n, isi_dict_b, isi_dict_i, isi_dict_s, isi_dict_l, isi_dict_t, isi_str_n, isi_str_b, isi_str_i, isi_str_s, isi_str_l, isi_str_t, isi_bool_n, isi_bool_b, isi_bool_i, isi_bool_s, isi_bool_l, isi_bool_t, isi_int_n, isi_int_b, isi_int_i, isi_int_s, isi_int_l, isi_int_t, bind_run, pure_run, em, dict2_dB, hb, neD_nil (S := ((List.range M').map fun k : Nat => ((can b qs (k : Int) ((k : Int) + long)).length : Int)).map PyData.int) (shA_map fun _ _ => sh_int)]
  cases hbs : bs (fun _ => true) (fun k => ((can b qs (k : Int) ((k : Int) + long)).length : Int)) M' with
  | none =>
    have := s1 hbs
    rw [List.filter_eq_self.mpr fun _ _ => rfl] at this
    rw [this] at h13 ⊢
    simp (disch := first | assumption | rfl | omega | decide) only [mp_bind, m_assoc, m_opt, m_cond_pure, m_cond_bind, m_cond_t, m_cond_f, mapM_map, filM_map, fold_map, foldF_map, mapM_pure, filM_pure, fold_pure, asI_i, asB_b, asS_l, asS_t, seqOf_l, seqOf_t, addD_i, iaddD_i, subD_i, fdivD_i, modD_i, negD_i, absD_i, intD_i, max2D_i, min2D_i, ltD_i, leD_i, gtD_i, geD_i, eqD_i, neD_i, lenD_l, lenD_t, tupleD_l, tupleD_t, listD_l, list2D_l, list2D_t, listD_t, slD_l, slD_t, revD_l, truthD_b, truthD_n, ixD_l, ixD_t, un2_t, un3_t, un4_t, zipI_l, zipI_t, isD_n, isnD_n, isNone_n, isNone_i, isNone_b, isNone_s, isNone_l, isNone_t, m_eta, Bool.not_true, Bool.not_false, isL_list, atI_0, atI_1, atI_2, atI_3, c_t, c_f, m_needT, isi_tuple_n, isi_tuple_b, isi_tuple_i, isi_tuple_s, isi_tuple_l, isi_tuple_t, isi_list_n, isi_list_b, isi_list_i, isi_list_s, isi_list_l, isi_list_t, isi_dict_n, isi_dict_b, isi_dict_i, isi_dict_s, isi_dict_l, isi_dict_t, isi_str_n, isi_str_b, isi_str_i, isi_str_s, isi_str_l, isi_str_t, isi_bool_n, isi_bool_b, isi_bool_i, isi_bool_s, isi_bool_l, isi_bool_t, isi_int_n, isi_int_b, isi_int_i, isi_int_s, isi_int_l, isi_int_t, bind_run, pure_run, List.map_nil, List.isEmpty_nil, Bool.not_true, bD, e_same 12 _ (okS_none (n := 11))]
    exact h13 P hP
  | some m =>
    obtain ⟨a1, _, a3⟩ := s2 m hbs
    have hne : (((List.range M').map fun k : Nat => ((can b qs (k : Int) ((k : Int) + long)).length : Int)).map PyData.int).isEmpty = false := by
      cases hr : List.range M' with
      | nil => rw [List.range_eq_nil] at hr; omega
      | cons => rfl
    have hlt : m < ((List.range M').map fun k : Nat => ((can b qs (k : Int) ((k : Int) + long)).length : Int)).length := by simpa using a1
    have hgm : ((List.range M').map fun k : Nat => ((can b qs (k : Int) ((k : Int) + long)).length : Int))[m] = ((can b qs (m : Int) ((m : Int) + long)).length : Int) := by simp
    have hmx := max_first hlt fun y hy => by
      obtain ⟨x, hx, rfl⟩ := List.mem_map.mp hy
      have := a3 x (List.mem_range.mp hx) rfl
      rw [hgm]; omega
    have hix := index_first hlt fun j hj => by
      have hjM : j < M' := by omega
      have := a3 j hjM rfl
      rw [hgm]
      simp only [List.getElem_map, List.getElem_range]
      omega
    rw [hgm] at hmx hix
    have hisL : isL (.list (((List.range M').map fun k : Nat => ((can b qs (k : Int) ((k : Int) + long)).length : Int)).map PyData.int)) = true := rfl
    have et : (PyData.tuple [.int ((can b qs (m : Int) ((m : Int) + long)).length : Int), .int (m : Int)]) = bD (fun k => ((can b qs (k : Int) ((k : Int) + long)).length : Int)) (some m) := rfl
    simp (disch := first | assumption | rfl | omega | decide) only [mp_bind, m_assoc, m_opt, m_cond_pure, m_cond_bind, m_cond_t, m_cond_f, mapM_map, filM_map, fold_map, foldF_map, mapM_pure, filM_pure, fold_pure, asI_i, asB_b, asS_l, asS_t, seqOf_l, seqOf_t, addD_i, iaddD_i, subD_i, fdivD_i, modD_i, negD_i, absD_i, intD_i, max2D_i, min2D_i, ltD_i, leD_i, gtD_i, geD_i, eqD_i, neD_i, lenD_l, lenD_t, tupleD_l, tupleD_t, listD_l, list2D_l, list2D_t, listD_t, slD_l, slD_t, revD_l, truthD_b, truthD_n, ixD_l, ixD_t, un2_t, un3_t, un4_t, zipI_l, zipI_t, isD_n, isnD_n, isNone_n, isNone_i, isNone_b, isNone_s, isNone_l, isNone_t, m_eta, Bool.not_true, Bool.not_false, isL_list, atI_0, atI_1, atI_2, atI_3, c_t, c_f, m_needT, isi_tuple_n, isi_tuple_b, isi_tuple_i, isi_tuple_s, isi_tuple_l, isi_tuple_t, isi_list_n, isi_list_b, isi_list_i, isi_list_s, isi_list_l, isi_list_t, isi_dict_n, isi_dict_b, isi_dict_i, isi_dict_s, isi_dict_l, isi_dict_t, isi_str_n, isi_str_b, isi_str_i, isi_str_s, isi_str_l, isi_str_t, isi_bool_n, isi_bool_b, isi_bool_i, isi_bool_s, isi_bool_l, isi_bool_t, isi_int_n, isi_int_b, isi_int_i, isi_int_s, isi_int_l, isi_int_t, bind_run, pure_run, hne, Bool.not_false, hmx, hisL, hix, et, e_same 12 _ okS_bD]
    exact h13 P hP
end
end L33
namespace L33
open PySem PySem.Spec PyProof.Rows L2 Wp

theorem lk_mem (b : Bu) (n : Str) : lk b n = [] ∨ (n, lk b n) ∈ b := by
  unfold lk
  induction b with
  | nil => left; rfl
  | cons p b ih =>
    rw [List.lookup_cons]
    cases h : n == p.1 with
    | true =>
      have e : n = p.1 := by simpa using h
      right; subst e; simp
    | false =>
      rcases ih with ih | ih
      · left; exact ih
      · right; exact List.mem_cons_of_mem _ ih
theorem ix_dB {b : Bu} {n : Str} (h : n ∈ b.map (·.1)) : ixD (dB b) (.str n) = M.pure (tP (lk b n)) := by
  unfold dB
  rw [ixD_s, lk_map]
  have : b.lookup n ≠ none := by
    induction b with
    | nil => cases h
    | cons p b ih =>
      rw [List.lookup_cons]
      cases he : n == p.1 with
      | true => exact fun e => by cases e
      | false =>
        refine ih ?_
        rw [List.map_cons] at h
        rcases List.mem_cons.mp h with h | h
        · subst h; simp at he
        · exact h
  unfold lk
  cases hl : b.lookup n with
  | none => exact absurd hl this
  | some v => rw [Option.map_some, m_opt]; rfl
def mv (s e : Int) (p : PI) : Bool := decide (p.1 < e) && decide (s < p.2)
section
variable {b : Bu} {qs : List Str} {N : Nat} (o : BOk b qs N)
include o
theorem lk_ok {n : Str} : ∀ p ∈ lk b n, 0 ≤ p.1 ∧ p.1 < p.2 ∧ p.2 ≤ 100 := fun p hp => by
  rcases lk_mem b n with h | h
  · rw [h] at hp; cases hp
  · exact o.ok _ h p hp
variable {ns : List Str} (hn : ns.Sublist qs) {s e : Int} (s0 : 0 ≤ s) (s1 : s < e) (e1 : e ≤ 100)
include hn s0 s1 e1
theorem ns_so : ∀ n ∈ ns, PyData.strOk n = true := fun n h => o.so n (hn.subset h)
theorem ns_ln : ns.length ≤ 4 := Nat.le_trans hn.length_le o.ln
theorem fm_ln (i : Nat) : ((ns.take i).flatMap (lk b)).length ≤ 5 * (ns.take i).length := by
  generalize ns.take i = xs
  induction xs with
  | nil => simp
  | cons x xs ih =>
    have := o.lb.r x
    rw [List.flatMap_cons, List.length_append, List.length_cons]; omega
theorem e_moved : m_fewest_moved (dB b) (.tuple (ns.map .str)) (.int s) (.int e) = M.pure (.int (((ns.flatMap (lk b)).filter (mv s e)).length : Nat)) := by
  simp (disch := first | assumption | rfl | omega | decide) only [mp_bind, m_assoc, m_opt, m_cond_pure, m_cond_bind, m_cond_t, m_cond_f, mapM_map, filM_map, fold_map, foldF_map, mapM_pure, filM_pure, fold_pure, asI_i, asB_b, asS_l, asS_t, seqOf_l, seqOf_t, addD_i, iaddD_i, subD_i, fdivD_i, modD_i, negD_i, absD_i, intD_i, max2D_i, min2D_i, ltD_i, leD_i, gtD_i, geD_i, eqD_i, neD_i, lenD_l, lenD_t, tupleD_l, tupleD_t, listD_l, list2D_l, list2D_t, listD_t, slD_l, slD_t, revD_l, truthD_b, truthD_n, ixD_l, ixD_t, un2_t, un3_t, un4_t, zipI_l, zipI_t, isD_n, isnD_n, isNone_n, isNone_i, isNone_b, isNone_s, isNone_l, isNone_t, m_eta, Bool.not_true, Bool.not_false, isL_list, atI_0, atI_1, atI_2, atI_3, c_t, c_f, m_needT, isi_tuple_n, isi_tuple_b, isi_tuple_i, isi_tuple_s, isi_tuple_l, isi_tuple_t, isi_list_n, isi_list_b, isi_list_i, isi_list_s, isi_list_l, isi_list_t, isi_dict_n, isi_dict_b, isi_dict_i, isi_dict_s, isi_dict_l, isi_dict_t, isi_str_n, isi_str_b, isi_str_i, isi_str_s, isi_str_l, isi_str_t, isi_bool_n, isi_bool_b, isi_bool_i, isi_bool_s, isi_bool_l, isi_bool_t, isi_int_n, isi_int_b, isi_int_i, isi_int_s, isi_int_l, isi_int_t, bind_run, pure_run, m_fewest_moved]
  refine Eq.trans (congrArg (fun m => M.bind m _) (fold_steps (fun i => ((ns.take i).flatMap (lk b)).map pI) (k := 0) (fun i hi => ?_))) ?_
  · rw [Nat.zero_add]
    have h1 := fm_ln o hn s0 s1 e1 i
    have h2 := o.lb.r ns[i]
    have h3 := ns_ln o hn s0 s1 e1
    have h4 : (ns.take i).length ≤ 4 := by rw [List.length_take]; omega
    simp (disch := first | assumption | rfl | omega | decide) only [mp_bind, m_assoc, m_opt, m_cond_pure, m_cond_bind, m_cond_t, m_cond_f, mapM_map, filM_map, fold_map, foldF_map, mapM_pure, filM_pure, fold_pure, asI_i, asB_b, asS_l, asS_t, seqOf_l, seqOf_t, addD_i, iaddD_i, subD_i, fdivD_i, modD_i, negD_i, absD_i, intD_i, max2D_i, min2D_i, ltD_i, leD_i, gtD_i, geD_i, eqD_i, neD_i, lenD_l, lenD_t, tupleD_l, tupleD_t, listD_l, list2D_l, list2D_t, listD_t, slD_l, slD_t, revD_l, truthD_b, truthD_n, ixD_l, ixD_t, un2_t, un3_t, un4_t, zipI_l, zipI_t, isD_n, isnD_n, isNone_n, isNone_i, isNone_b, isNone_s, isNone_l, isNone_t, m_eta, Bool.not_true, Bool.not_false, isL_list, atI_0, atI_1, atI_2, atI_3, c_t, c_f, m_needT, isi_tuple_n, isi_tuple_b, isi_tuple_i, isi_tuple_s, isi_tuple_l, isi_tuple_t, isi_list_n, isi_list_b, isi_list_i, isi_list_s, isi_list_l, isi_list_t, isi_dict_n, isi_dict_b, isi_dict_i, isi_dict_s, isi_dict_l, isi_dict_t, isi_str_n, isi_str_b, isi_str_i, isi_str_s, isi_str_l, isi_str_t, isi_bool_n, isi_bool_b, isi_bool_i, isi_bool_s, isi_bool_l, isi_bool_t, isi_int_n, isi_int_b, isi_int_i, isi_int_s, isi_int_l, isi_int_t, bind_run, pure_run, need_dB, get_dB, asS_tP]
    rw [m_need (by rw [List.length_map, List.length_map]; omega), List.filterMap_some, List.take_succ_eq_append_getElem hi, List.flatMap_append]
    simp
  · rw [Nat.zero_add, List.take_length]
    have hcc : (fun p : PI => bif decide (p.1 < e) then bif decide (s < p.2) then some (PyData.int 1) else none else none) = fun p => cond (mv s e p) (some (.int 1)) none := by
      funext p; unfold mv; cases decide (p.1 < e) <;> rfl
    simp (disch := first | assumption | rfl | omega | decide) only [mp_bind, m_assoc, m_opt, m_cond_pure, m_cond_bind, m_cond_t, m_cond_f, mapM_map, filM_map, fold_map, foldF_map, mapM_pure, filM_pure, fold_pure, asI_i, asB_b, asS_l, asS_t, seqOf_l, seqOf_t, addD_i, iaddD_i, subD_i, fdivD_i, modD_i, negD_i, absD_i, intD_i, max2D_i, min2D_i, ltD_i, leD_i, gtD_i, geD_i, eqD_i, neD_i, lenD_l, lenD_t, tupleD_l, tupleD_t, listD_l, list2D_l, list2D_t, listD_t, slD_l, slD_t, revD_l, truthD_b, truthD_n, ixD_l, ixD_t, un2_t, un3_t, un4_t, zipI_l, zipI_t, isD_n, isnD_n, isNone_n, isNone_i, isNone_b, isNone_s, isNone_l, isNone_t, m_eta, Bool.not_true, Bool.not_false, isL_list, atI_0, atI_1, atI_2, atI_3, c_t, c_f, m_needT, isi_tuple_n, isi_tuple_b, isi_tuple_i, isi_tuple_s, isi_tuple_l, isi_tuple_t, isi_list_n, isi_list_b, isi_list_i, isi_list_s, isi_list_l, isi_list_t, isi_dict_n, isi_dict_b, isi_dict_i, isi_dict_s, isi_dict_l, isi_dict_t, isi_str_n, isi_str_b, isi_str_i, isi_str_s, isi_str_l, isi_str_t, isi_bool_n, isi_bool_b, isi_bool_i, isi_bool_s, isi_bool_l, isi_bool_t, isi_int_n, isi_int_b, isi_int_i, isi_int_s, isi_int_l, isi_int_t, bind_run, pure_run, un2_pI, hcc, filterMap_cond, List.length_map]
theorem e_b4 {n : Str} (h : n ∈ ns) {acc : Int} : m_law_b4 (dB b) (.int s) (.int e) (.int acc) (.str n) = M.pure (.int (acc + (((lk b n).filter (mv s e)).length : Nat))) := by
  have hr : ∀ p ∈ lk b n, neD (.list (((List.range (p.2 - p.1).toNat).filter fun (i : Nat) => decide (s ≤ p.1 + (i : Int)) && decide (p.1 + (i : Int) < e)).map fun (i : Nat) => (.int (p.1 + (i : Int)) : D))) (.list []) = M.pure (.bool (mv s e p)) := fun p hp => by
    obtain ⟨a0, a1, a2⟩ := lk_ok o p hp
    rw [neD_nil (shA_map fun _ _ => sh_int), List.isEmpty_map, isEmpty_filter, Bool.not_not]
    congr 2
    unfold mv
    cases hm : decide (p.1 < e) && decide (s < p.2) with
    | true =>
      obtain ⟨b1, b2⟩ := Bool.and_eq_true_iff.mp hm
      have b1 := of_decide_eq_true b1
      have b2 := of_decide_eq_true b2
      refine List.any_eq_true.mpr ⟨(max s p.1 - p.1).toNat, List.mem_range.mpr (by omega), ?_⟩
      rw [Bool.and_eq_true_iff]
      exact ⟨decide_eq_true (by omega), decide_eq_true (by omega)⟩
    | false =>
      refine List.any_eq_false.mpr fun i hi hc => ?_
      have hi := List.mem_range.mp hi
      obtain ⟨b1, b2⟩ := Bool.and_eq_true_iff.mp hc
      have b1 := of_decide_eq_true b1
      have b2 := of_decide_eq_true b2
      rw [decide_eq_true (show p.1 < e by omega), decide_eq_true (show s < p.2 by omega)] at hm
      cases hm
  simp (disch := first | assumption | rfl | omega | decide) only [mp_bind, m_assoc, m_opt, m_cond_pure, m_cond_bind, m_cond_t, m_cond_f, mapM_map, filM_map, fold_map, foldF_map, mapM_pure, filM_pure, fold_pure, asI_i, asB_b, asS_l, asS_t, seqOf_l, seqOf_t, addD_i, iaddD_i, subD_i, fdivD_i, modD_i, negD_i, absD_i, intD_i, max2D_i, min2D_i, ltD_i, leD_i, gtD_i, geD_i, eqD_i, neD_i, lenD_l, lenD_t, tupleD_l, tupleD_t, listD_l, list2D_l, list2D_t, listD_t, slD_l, slD_t, revD_l, truthD_b, truthD_n, ixD_l, ixD_t, un2_t, un3_t, un4_t, zipI_l, zipI_t, isD_n, isnD_n, isNone_n, isNone_i, isNone_b, isNone_s, isNone_l, isNone_t, m_eta, Bool.not_true, Bool.not_false, isL_list, atI_0, atI_1, atI_2, atI_3, c_t, c_f, m_needT, isi_tuple_n, isi_tuple_b, isi_tuple_i, isi_tuple_s, isi_tuple_l, isi_tuple_t, isi_list_n, isi_list_b, isi_list_i, isi_list_s, isi_list_l, isi_list_t, isi_dict_n, isi_dict_b, isi_dict_i, isi_dict_s, isi_dict_l, isi_dict_t, isi_str_n, isi_str_b, isi_str_i, isi_str_s, isi_str_l, isi_str_t, isi_bool_n, isi_bool_b, isi_bool_i, isi_bool_s, isi_bool_l, isi_bool_t, isi_int_n, isi_int_b, isi_int_i, isi_int_s, isi_int_l, isi_int_t, bind_run, pure_run, m_law_b4, ix_dB (o.mm n (hn.subset h)), asS_tP, un2_pI]
  rw [filM_eq_of (fun p : PI => cond (mv s e p) (some (.int 1 : D)) none) fun p hp => ?_]
  · simp (disch := first | assumption | rfl | omega | decide) only [mp_bind, m_assoc, m_opt, m_cond_pure, m_cond_bind, m_cond_t, m_cond_f, mapM_map, filM_map, fold_map, foldF_map, mapM_pure, filM_pure, fold_pure, asI_i, asB_b, asS_l, asS_t, seqOf_l, seqOf_t, addD_i, iaddD_i, subD_i, fdivD_i, modD_i, negD_i, absD_i, intD_i, max2D_i, min2D_i, ltD_i, leD_i, gtD_i, geD_i, eqD_i, neD_i, lenD_l, lenD_t, tupleD_l, tupleD_t, listD_l, list2D_l, list2D_t, listD_t, slD_l, slD_t, revD_l, truthD_b, truthD_n, ixD_l, ixD_t, un2_t, un3_t, un4_t, zipI_l, zipI_t, isD_n, isnD_n, isNone_n, isNone_i, isNone_b, isNone_s, isNone_l, isNone_t, m_eta, Bool.not_true, Bool.not_false, isL_list, atI_0, atI_1, atI_2, atI_3, c_t, c_f, m_needT, isi_tuple_n, isi_tuple_b, isi_tuple_i, isi_tuple_s, isi_tuple_l, isi_tuple_t, isi_list_n, isi_list_b, isi_list_i, isi_list_s, isi_list_l, isi_list_t, isi_dict_n, isi_dict_b, isi_dict_i, isi_dict_s, isi_dict_l, isi_dict_t, isi_str_n, isi_str_b, isi_str_i, isi_str_s, isi_str_l, isi_str_t, isi_bool_n, isi_bool_b, isi_bool_i, isi_bool_s, isi_bool_l, isi_bool_t, isi_int_n, isi_int_b, isi_int_i, isi_int_s, isi_int_l, isi_int_t, bind_run, pure_run, filterMap_cond, List.length_map]
  · obtain ⟨a0, a1, a2⟩ := lk_ok o p hp
    have := hr p hp
    have hcc : (fun (i : Nat) => bif decide (s ≤ p.1 + (i : Int)) then bif decide (p.1 + (i : Int) < e) then some (PyData.int (p.1 + (i : Int))) else none else none) = fun (i : Nat) => cond (decide (s ≤ p.1 + (i : Int)) && decide (p.1 + (i : Int) < e)) (some (PyData.int (p.1 + (i : Int)))) none := by
      funext i; cases decide (s ≤ p.1 + (i : Int)) <;> rfl
    simp (disch := first | assumption | rfl | omega | decide) only [mp_bind, m_assoc, m_opt, m_cond_pure, m_cond_bind, m_cond_t, m_cond_f, mapM_map, filM_map, fold_map, foldF_map, mapM_pure, filM_pure, fold_pure, asI_i, asB_b, asS_l, asS_t, seqOf_l, seqOf_t, addD_i, iaddD_i, subD_i, fdivD_i, modD_i, negD_i, absD_i, intD_i, max2D_i, min2D_i, ltD_i, leD_i, gtD_i, geD_i, eqD_i, neD_i, lenD_l, lenD_t, tupleD_l, tupleD_t, listD_l, list2D_l, list2D_t, listD_t, slD_l, slD_t, revD_l, truthD_b, truthD_n, ixD_l, ixD_t, un2_t, un3_t, un4_t, zipI_l, zipI_t, isD_n, isnD_n, isNone_n, isNone_i, isNone_b, isNone_s, isNone_l, isNone_t, m_eta, Bool.not_true, Bool.not_false, isL_list, atI_0, atI_1, atI_2, atI_3, c_t, c_f, m_needT, isi_tuple_n, isi_tuple_b, isi_tuple_i, isi_tuple_s, isi_tuple_l, isi_tuple_t, isi_list_n, isi_list_b, isi_list_i, isi_list_s, isi_list_l, isi_list_t, isi_dict_n, isi_dict_b, isi_dict_i, isi_dict_s, isi_dict_l, isi_dict_t, isi_str_n, isi_str_b, isi_str_i, isi_str_s, isi_str_l, isi_str_t, isi_bool_n, isi_bool_b, isi_bool_i, isi_bool_s, isi_bool_l, isi_bool_t, isi_int_n, isi_int_b, isi_int_i, isi_int_s, isi_int_l, isi_int_t, bind_run, pure_run, rngD_ab (a := p.1) (b := p.2) (by omega) (by omega) (by omega) (by omega) (by omega), hcc, filterMap_cond, this]
theorem t_c16 {long : Int} (l0 : 1 ≤ long) (l1 : long ≤ 5) : Ret (m_law_c16 (.tuple (ns.map .str)) (dB b) (.int s) (.int e) (.int (N : Int)) (.int long) (.list (qs.map .str))) (Fl.nx ()) := by
  intro P hP
  have hst := fold_steps (f := fun s' (x : Str) => m_law_b4 (dB b) (.int s) (.int e) s' (.str x)) (fun i => .int ((((ns.take i).flatMap (lk b)).filter (mv s e)).length : Nat)) (xs := ns) (k := 0) fun i hi => by
    rw [Nat.zero_add, e_b4 o hn s0 s1 e1 (List.getElem_mem hi), List.take_succ_eq_append_getElem hi, List.flatMap_append, List.filter_append, List.length_append]
    simp
  rw [Nat.zero_add, List.take_length] at hst
  have e0 : (PyData.int ((((ns.take 0).flatMap (lk b)).filter (mv s e)).length : Nat)) = .int 0 := rfl
  rw [e0] at hst
  have h14 := t_c14 o (ns_so o hn s0 s1 e1) l0 l1
  simp (disch := first | assumption | rfl | omega | decide) only [mp_bind, m_assoc, m_opt, m_cond_pure, m_cond_bind, m_cond_t, m_cond_f, mapM_map, filM_map, fold_map, foldF_map, mapM_pure, filM_pure, fold_pure, asI_i, asB_b, asS_l, asS_t, seqOf_l, seqOf_t, addD_i, iaddD_i, subD_i, fdivD_i, modD_i, negD_i, absD_i, intD_i, max2D_i, min2D_i, ltD_i, leD_i, gtD_i, geD_i, eqD_i, neD_i, lenD_l, lenD_t, tupleD_l, tupleD_t, listD_l, list2D_l, list2D_t, listD_t, slD_l, slD_t, revD_l, truthD_b, truthD_n, ixD_l, ixD_t, un2_t, un3_t, un4_t, zipI_l, zipI_t, isD_n, isnD_n, isNone_n, isNone_i, isNone_b, isNone_s, isNone_l, isNone_t, m_eta, Bool.not_true, Bool.not_false, isL_list, atI_0, atI_1, atI_2, atI_3, c_t, c_f, m_needT, isi_tuple_n, isi_tuple_b, isi_tuple_i, isi_tuple_s, isi_tuple_l, isi_tuple_t, isi_list_n, isi_list_b, isi_list_i, isi_list_s, isi_list_l, isi_list_t, isi_dict_n, isi_dict_b, isi_dict_i, isi_dict_s, isi_dict_l, isi_dict_t, isi_str_n, isi_str_b, isi_str_i, isi_str_s, isi_str_l, isi_str_t, isi_bool_n, isi_bool_b, isi_bool_i, isi_bool_s, isi_bool_l, isi_bool_t, isi_int_n, isi_int_b, isi_int_i, isi_int_s, isi_int_l, isi_int_t, bind_run, pure_run, m_law_c16, hst, m_law_r15, dict2_dB, e_moved o hn s0 s1 e1, e_same 12 _ (okS_int (n := 11))]
  exact h14 P hP
end
/-! ### the longest, the pieces ahead -/
theorem okS_pI {n : Nat} {p : PI} : okS (n + 2) (pI p) = true := okS_tI (by simp)
theorem okS_tP {ps : List PI} (h : ps.length ≤ 16777216) : okS 12 (tP ps) = true := by
  unfold tP
  rw [okS, decide_eq_true (by simpa using h), okSA_of]
  · rfl
  · intro x hx
    obtain ⟨p, _, rfl⟩ := List.mem_map.mp hx
    exact okS_pI
theorem okS_optI {m : Option Int} : okS 12 (optI m) = true := by cases m <;> rfl
theorem okS_qD {r : Rat} : okS 12 (qD r) = true := by simp [qD, okS, okSA]
section
variable {b : Bu} {qs : List Str} {N : Nat} (o : BOk b qs N)
include o
theorem t_c17 {ns : List Str} (hn : ns.Sublist qs) {long : Int} (l0 : 1 ≤ long) (l1 : long ≤ 5) : Ret (m_law_c17 (.int (N : Int)) (dB b) (.tuple (ns.map .str)) (.int long) (.list (qs.map .str))) (Fl.nx ()) := by
  intro P hP
  have n0 := o.n0; have n1 := o.n1
  simp (disch := first | assumption | rfl | omega | decide) only [mp_bind, m_assoc, m_opt, m_cond_pure, m_cond_bind, m_cond_t, m_cond_f, mapM_map, filM_map, fold_map, foldF_map, mapM_pure, filM_pure, fold_pure, asI_i, asB_b, asS_l, asS_t, seqOf_l, seqOf_t, addD_i, iaddD_i, subD_i, fdivD_i, modD_i, negD_i, absD_i, intD_i, max2D_i, min2D_i, ltD_i, leD_i, gtD_i, geD_i, eqD_i, neD_i, lenD_l, lenD_t, tupleD_l, tupleD_t, listD_l, list2D_l, list2D_t, listD_t, slD_l, slD_t, revD_l, truthD_b, truthD_n, ixD_l, ixD_t, un2_t, un3_t, un4_t, zipI_l, zipI_t, isD_n, isnD_n, isNone_n, isNone_i, isNone_b, isNone_s, isNone_l, isNone_t, m_eta, Bool.not_true, Bool.not_false, isL_list, atI_0, atI_1, atI_2, atI_3, c_t, c_f, m_needT, isi_tuple_n, isi_tuple_b, isi_tuple_i, isi_tuple_s, isi_tuple_l, isi_tuple_t, isi_list_n, isi_list_b, isi_list_i, isi_list_s, isi_list_l, isi_list_t, isi_dict_n, isi_dict_b, isi_dict_i, isi_dict_s, isi_dict_l, isi_dict_t, isi_str_n, isi_str_b, isi_str_i, isi_str_s, isi_str_l, isi_str_t, isi_bool_n, isi_bool_b, isi_bool_i, isi_bool_s, isi_bool_l, isi_bool_t, isi_int_n, isi_int_b, isi_int_i, isi_int_s, isi_int_l, isi_int_t, bind_run, pure_run, m_law_c17]
  refine draw_run (by omega) fun s s0 s1 => ?_
  simp (disch := first | assumption | rfl | omega | decide) only [mp_bind, m_assoc, m_opt, m_cond_pure, m_cond_bind, m_cond_t, m_cond_f, mapM_map, filM_map, fold_map, foldF_map, mapM_pure, filM_pure, fold_pure, asI_i, asB_b, asS_l, asS_t, seqOf_l, seqOf_t, addD_i, iaddD_i, subD_i, fdivD_i, modD_i, negD_i, absD_i, intD_i, max2D_i, min2D_i, ltD_i, leD_i, gtD_i, geD_i, eqD_i, neD_i, lenD_l, lenD_t, tupleD_l, tupleD_t, listD_l, list2D_l, list2D_t, listD_t, slD_l, slD_t, revD_l, truthD_b, truthD_n, ixD_l, ixD_t, un2_t, un3_t, un4_t, zipI_l, zipI_t, isD_n, isnD_n, isNone_n, isNone_i, isNone_b, isNone_s, isNone_l, isNone_t, m_eta, Bool.not_true, Bool.not_false, isL_list, atI_0, atI_1, atI_2, atI_3, c_t, c_f, m_needT, isi_tuple_n, isi_tuple_b, isi_tuple_i, isi_tuple_s, isi_tuple_l, isi_tuple_t, isi_list_n, isi_list_b, isi_list_i, isi_list_s, isi_list_l, isi_list_t, isi_dict_n, isi_dict_b, isi_dict_i, isi_dict_s, isi_dict_l, isi_dict_t, isi_str_n, isi_str_b, isi_str_i, isi_str_s, isi_str_l, isi_str_t, isi_bool_n, isi_bool_b, isi_bool_i, isi_bool_s, isi_bool_l, isi_bool_t, isi_int_n, isi_int_b, isi_int_i, isi_int_s, isi_int_l, isi_int_t, bind_run, pure_run]
  refine draw_run (by omega) fun e e0 e1 => ?_
  generalize he : s + 1 + e = en
  have hs : okS 12 (.tuple ((can b qs s en).map .str)) = true := by
    rw [okS, decide_eq_true (by rw [List.length_map]; have := can_ln o (s := s) (e := en); omega), okSA_of]
    · rfl
    · intro x hx
      obtain ⟨n, hn', rfl⟩ := List.mem_map.mp hx
      rw [okS]; exact can_so o n hn'
  simp (disch := first | assumption | rfl | omega | decide) only [mp_bind, m_assoc, m_opt, m_cond_pure, m_cond_bind, m_cond_t, m_cond_f, mapM_map, filM_map, fold_map, foldF_map, mapM_pure, filM_pure, fold_pure, asI_i, asB_b, asS_l, asS_t, seqOf_l, seqOf_t, addD_i, iaddD_i, subD_i, fdivD_i, modD_i, negD_i, absD_i, intD_i, max2D_i, min2D_i, ltD_i, leD_i, gtD_i, geD_i, eqD_i, neD_i, lenD_l, lenD_t, tupleD_l, tupleD_t, listD_l, list2D_l, list2D_t, listD_t, slD_l, slD_t, revD_l, truthD_b, truthD_n, ixD_l, ixD_t, un2_t, un3_t, un4_t, zipI_l, zipI_t, isD_n, isnD_n, isNone_n, isNone_i, isNone_b, isNone_s, isNone_l, isNone_t, m_eta, Bool.not_true, Bool.not_false, isL_list, atI_0, atI_1, atI_2, atI_3, c_t, c_f, m_needT, isi_tuple_n, isi_tuple_b, isi_tuple_i, isi_tuple_s, isi_tuple_l, isi_tuple_t, isi_list_n, isi_list_b, isi_list_i, isi_list_s, isi_list_l, isi_list_t, isi_dict_n, isi_dict_b, isi_dict_i, isi_dict_s, isi_dict_l, isi_dict_t, isi_str_n, isi_str_b, isi_str_i, isi_str_s, isi_str_l, isi_str_t, isi_bool_n, isi_bool_b, isi_bool_i, isi_bool_s, isi_bool_l, isi_bool_t, isi_int_n, isi_int_b, isi_int_i, isi_int_s, isi_int_l, isi_int_t, bind_run, pure_run, he, dict2_dB, e_who o.hq (s := s) (e := en) (by omega) (by omega) (by omega) (by omega), e_can o.hq (s := s) (e := en) (by omega) (by omega) (by omega) (by omega), e_same 12 _ hs]
  exact t_c16 o hn s0 (by omega) (by omega) l0 l1 P hP
theorem t_c18 {ns : List Str} (hn : ns.Sublist qs) {long : Int} (l0 : 1 ≤ long) (l1 : long ≤ 5) : Ret (m_law_c18 (.list ((cur (gd b ns) N).map pI)) (dB b) (.tuple (ns.map .str)) (.int (N : Int)) (.int long) (.list (qs.map .str))) (Fl.nx ()) := by
  intro P hP
  have n1 := o.n1
  have h17 := t_c17 o hn l0 l1
  have hA : asS (.tuple (ns.map .str)) = M.pure (ns.map .str) := asS_t
  have hall := e_all (b := b) hA (fun n h => o.so n (hn.subset h)) (show N ≤ 1000 by omega)
  obtain ⟨r1, r2, r3⟩ := cur_ok (gd b ns) N
  generalize hR : cur (gd b ns) N = R at *
  have em : R.map (fun p : PI => (.int (p.2 - p.1) : D)) = (R.map fun p => p.2 - p.1).map .int := by rw [List.map_map]; rfl
  have em2 : R.map (fun p : PI => (.tuple [.int (p.1 - p.2), .int p.1] : D)) = R.map fun p => tI [-(p.2 - p.1), p.1] := List.map_congr_left fun p _ => by
    rw [Int.neg_sub]; rfl
  simp (disch := first | assumption | rfl | omega | decide) only [mp_bind, m_assoc, m_opt, m_cond_pure, m_cond_bind, m_cond_t, m_cond_f, mapM_map, filM_map, fold_map, foldF_map, mapM_pure, filM_pure, fold_pure, asI_i, asB_b, asS_l, asS_t, seqOf_l, seqOf_t, addD_i, iaddD_i, subD_i, fdivD_i, modD_i, negD_i, absD_i, intD_i, max2D_i, min2D_i, ltD_i, leD_i, gtD_i, geD_i, eqD_i, neD_i, lenD_l, lenD_t, tupleD_l, tupleD_t, listD_l, list2D_l, list2D_t, listD_t, slD_l, slD_t, revD_l, truthD_b, truthD_n, ixD_l, ixD_t, un2_t, un3_t, un4_t, zipI_l, zipI_t, isD_n, isnD_n, isNone_n, isNone_i, isNone_b, isNone_s, isNone_l, isNone_t, m_eta, Bool.not_true, Bool.not_false, isL_list, atI_0, atI_1, atI_2, atI_3, c_t, c_f, m_needT, isi_tuple_n, isi_tuple_b, isi_tuple_i, isi_tuple_s, isi_tuple_l, isi_tuple_t, isi_list_n, isi_list_b, isi_list_i, isi_list_s, isi_list_l, isi_list_t, isi_dict_n, isi_dict_b, isi_dict_i, isi_dict_s, isi_dict_l, isi_dict_t, isi_str_n, isi_str_b, isi_str_i, isi_str_s, isi_str_l, isi_str_t, isi_bool_n, isi_bool_b, isi_bool_i, isi_bool_s, isi_bool_l, isi_bool_t, isi_int_n, isi_int_b, isi_int_i, isi_int_s, isi_int_l, isi_int_t, bind_run, pure_run, m_law_c18, un2_pI, em, dict2_dB, m_longest_free, hall, asS_tP, em2, neD_nil (S := R.map pI) (shA_map fun _ _ => sh_pI), neD_nil (S := R.map fun p : PI => tI [-(p.2 - p.1), p.1]) (shA_map fun _ _ => sh_tI)]
  cases hc : R with
  | nil =>
    simp (disch := first | assumption | rfl | omega | decide) only [mp_bind, m_assoc, m_opt, m_cond_pure, m_cond_bind, m_cond_t, m_cond_f, mapM_map, filM_map, fold_map, foldF_map, mapM_pure, filM_pure, fold_pure, asI_i, asB_b, asS_l, asS_t, seqOf_l, seqOf_t, addD_i, iaddD_i, subD_i, fdivD_i, modD_i, negD_i, absD_i, intD_i, max2D_i, min2D_i, ltD_i, leD_i, gtD_i, geD_i, eqD_i, neD_i, lenD_l, lenD_t, tupleD_l, tupleD_t, listD_l, list2D_l, list2D_t, listD_t, slD_l, slD_t, revD_l, truthD_b, truthD_n, ixD_l, ixD_t, un2_t, un3_t, un4_t, zipI_l, zipI_t, isD_n, isnD_n, isNone_n, isNone_i, isNone_b, isNone_s, isNone_l, isNone_t, m_eta, Bool.not_true, Bool.not_false, isL_list, atI_0, atI_1, atI_2, atI_3, c_t, c_f, m_needT, isi_tuple_n, isi_tuple_b, isi_tuple_i, isi_tuple_s, isi_tuple_l, isi_tuple_t, isi_list_n, isi_list_b, isi_list_i, isi_list_s, isi_list_l, isi_list_t, isi_dict_n, isi_dict_b, isi_dict_i, isi_dict_s, isi_dict_l, isi_dict_t, isi_str_n, isi_str_b, isi_str_i, isi_str_s, isi_str_l, isi_str_t, isi_bool_n, isi_bool_b, isi_bool_i, isi_bool_s, isi_bool_l, isi_bool_t, isi_int_n, isi_int_b, isi_int_i, isi_int_s, isi_int_l, isi_int_t, bind_run, pure_run, List.map_nil, List.isEmpty_nil, Bool.not_true, e_same 12 (.tuple [.int 0, .int 0]) rfl]
    exact h17 P hP
  | cons q R' =>
    rw [← hc]
    have hne : (R.map pI).isEmpty = false := by rw [hc]; rfl
    have hne2 : (R.map fun p : PI => tI [-(p.2 - p.1), p.1]).isEmpty = false := by rw [hc]; rfl
    obtain ⟨i, hi, h1, h2⟩ := first_max (R.map fun p => p.2 - p.1) (by rw [hc]; simp)
    have hi' : i < R.length := by simpa using hi
    have hmx := max_first hi h1
    have hix := index_first hi h2
    have hg : (R.map fun p => p.2 - p.1)[i] = R[i].2 - R[i].1 := by simp
    rw [hg] at hmx hix
    have hmin := min_first (xs := R) (v := fun p => p.2 - p.1) (w := fun p => p.1) (i := i) hi' (fun y hy => by
      have := h1 (y.2 - y.1) (List.mem_map.mpr ⟨y, hy, rfl⟩)
      rw [hg] at this; exact this) (fun j hj => by
      have := h2 j hj
      rw [hg] at this
      simpa using this) r2
    have hisL : isL (.list ((R.map fun p => p.2 - p.1).map PyData.int)) = true := rfl
    have hrow : ixD (.list (R.map pI)) (.int (i : Int)) = M.pure (pI R[i]) := by
      rw [ixD_l, Wp.atI_nat, List.getElem?_map, List.getElem?_eq_getElem hi', Option.map_some, m_opt]
    have i0 : ixD (tI [-(R[i].2 - R[i].1), R[i].1]) (.int 0) = M.pure (.int (-(R[i].2 - R[i].1))) := ix_tI (k := 0) (by simp)
    have i1 : ixD (tI [-(R[i].2 - R[i].1), R[i].1]) (.int 1) = M.pure (.int R[i].1) := ix_tI (xs := [-(R[i].2 - R[i].1), R[i].1]) (k := 1) (by simp)
    rw [ixD_l] at hrow
    simp (disch := first | assumption | rfl | omega | decide) only [mp_bind, m_assoc, m_opt, m_cond_pure, m_cond_bind, m_cond_t, m_cond_f, mapM_map, filM_map, fold_map, foldF_map, mapM_pure, filM_pure, fold_pure, asI_i, asB_b, asS_l, asS_t, seqOf_l, seqOf_t, addD_i, iaddD_i, subD_i, fdivD_i, modD_i, negD_i, absD_i, intD_i, max2D_i, min2D_i, ltD_i, leD_i, gtD_i, geD_i, eqD_i, neD_i, lenD_l, lenD_t, tupleD_l, tupleD_t, listD_l, list2D_l, list2D_t, listD_t, slD_l, slD_t, revD_l, truthD_b, truthD_n, ixD_l, ixD_t, un2_t, un3_t, un4_t, zipI_l, zipI_t, isD_n, isnD_n, isNone_n, isNone_i, isNone_b, isNone_s, isNone_l, isNone_t, m_eta, Bool.not_true, Bool.not_false, isL_list, atI_0, atI_1, atI_2, atI_3, c_t, c_f, m_needT, isi_tuple_n, isi_tuple_b, isi_tuple_i, isi_tuple_s, isi_tuple_l, isi_tuple_t, isi_list_n, isi_list_b, isi_list_i, isi_list_s, isi_list_l, isi_list_t, isi_dict_n, isi_dict_b, isi_dict_i, isi_dict_s, isi_dict_l, isi_dict_t, isi_str_n, isi_str_b, isi_str_i, isi_str_s, isi_str_l, isi_str_t, isi_bool_n, isi_bool_b, isi_bool_i, isi_bool_s, isi_bool_l, isi_bool_t, isi_int_n, isi_int_b, isi_int_i, isi_int_s, isi_int_l, isi_int_t, bind_run, pure_run, hne, hne2, Bool.not_false, hmin, i0, i1, Int.neg_neg, hmx, hisL, hix, hrow, pI_0, e_same 12 (.tuple [.int (R[i].2 - R[i].1), .int R[i].1]) rfl]
    exact h17 P hP
theorem t_r19 {ns : List Str} (hn : ns.Sublist qs) : Ret (m_law_r19 (dB b) (.tuple (ns.map .str)) (.int (N : Int)) (.list (qs.map .str)) ()) (Fl.nx ()) := by
  intro P hP
  have n1 := o.n1
  have hA : asS (.tuple (ns.map .str)) = M.pure (ns.map .str) := asS_t
  have hs : ∀ n ∈ ns, PyData.strOk n = true := fun n h => o.so n (hn.subset h)
  have hN : N ≤ 1000 := by omega
  obtain ⟨r1, r2, r3⟩ := cur_ok (gd b ns) N
  simp (disch := first | assumption | rfl | omega | decide) only [mp_bind, m_assoc, m_opt, m_cond_pure, m_cond_bind, m_cond_t, m_cond_f, mapM_map, filM_map, fold_map, foldF_map, mapM_pure, filM_pure, fold_pure, asI_i, asB_b, asS_l, asS_t, seqOf_l, seqOf_t, addD_i, iaddD_i, subD_i, fdivD_i, modD_i, negD_i, absD_i, intD_i, max2D_i, min2D_i, ltD_i, leD_i, gtD_i, geD_i, eqD_i, neD_i, lenD_l, lenD_t, tupleD_l, tupleD_t, listD_l, list2D_l, list2D_t, listD_t, slD_l, slD_t, revD_l, truthD_b, truthD_n, ixD_l, ixD_t, un2_t, un3_t, un4_t, zipI_l, zipI_t, isD_n, isnD_n, isNone_n, isNone_i, isNone_b, isNone_s, isNone_l, isNone_t, m_eta, Bool.not_true, Bool.not_false, isL_list, atI_0, atI_1, atI_2, atI_3, c_t, c_f, m_needT, isi_tuple_n, isi_tuple_b, isi_tuple_i, isi_tuple_s, isi_tuple_l, isi_tuple_t, isi_list_n, isi_list_b, isi_list_i, isi_list_s, isi_list_l, isi_list_t, isi_dict_n, isi_dict_b, isi_dict_i, isi_dict_s, isi_dict_l, isi_dict_t, isi_str_n, isi_str_b, isi_str_i, isi_str_s, isi_str_l, isi_str_t, isi_bool_n, isi_bool_b, isi_bool_i, isi_bool_s, isi_bool_l, isi_bool_t, isi_int_n, isi_int_b, isi_int_i, isi_int_s, isi_int_l, isi_int_t, bind_run, pure_run, m_law_r19, e_lall hA hs hN]
  refine draw_run (by omega) fun long l0 l1 => ?_
  have et : tupleD (.list ((cur (gd b ns) N).map pI)) = M.pure (tP (cur (gd b ns) N)) := tupleD_l
  have h18 := t_c18 o hn (long := 1 + long) (by omega) (by omega)
  have ht : (PyData.tuple ((cur (gd b ns) N).map pI)) = tP (cur (gd b ns) N) := rfl
  simp (disch := first | assumption | rfl | omega | decide) only [mp_bind, m_assoc, m_opt, m_cond_pure, m_cond_bind, m_cond_t, m_cond_f, mapM_map, filM_map, fold_map, foldF_map, mapM_pure, filM_pure, fold_pure, asI_i, asB_b, asS_l, asS_t, seqOf_l, seqOf_t, addD_i, iaddD_i, subD_i, fdivD_i, modD_i, negD_i, absD_i, intD_i, max2D_i, min2D_i, ltD_i, leD_i, gtD_i, geD_i, eqD_i, neD_i, lenD_l, lenD_t, tupleD_l, tupleD_t, listD_l, list2D_l, list2D_t, listD_t, slD_l, slD_t, revD_l, truthD_b, truthD_n, ixD_l, ixD_t, un2_t, un3_t, un4_t, zipI_l, zipI_t, isD_n, isnD_n, isNone_n, isNone_i, isNone_b, isNone_s, isNone_l, isNone_t, m_eta, Bool.not_true, Bool.not_false, isL_list, atI_0, atI_1, atI_2, atI_3, c_t, c_f, m_needT, isi_tuple_n, isi_tuple_b, isi_tuple_i, isi_tuple_s, isi_tuple_l, isi_tuple_t, isi_list_n, isi_list_b, isi_list_i, isi_list_s, isi_list_l, isi_list_t, isi_dict_n, isi_dict_b, isi_dict_i, isi_dict_s, isi_dict_l, isi_dict_t, isi_str_n, isi_str_b, isi_str_i, isi_str_s, isi_str_l, isi_str_t, isi_bool_n, isi_bool_b, isi_bool_i, isi_bool_s, isi_bool_l, isi_bool_t, isi_int_n, isi_int_b, isi_int_i, isi_int_s, isi_int_l, isi_int_t, bind_run, pure_run, dict2_dB, e_all hA hs hN, ht, e_same 12 _ (okS_tP (ps := cur (gd b ns) N) (by omega)), e_first hA hs hN, e_lfirst hA hs hN, e_same 12 _ okS_optI]
  exact h18 P hP
theorem t_b3 {n : Str} (hn : PyData.strOk n = true) : Ret (m_law_b3 (dB b) (.int (N : Int)) () (.str n)) (Fl.nx ()) := by
  intro P hP
  have n0 := o.n0; have n1 := o.n1
  have hN : N ≤ 1000 := by omega
  have hA : asS (.tuple [.str n]) = M.pure ([n].map .str) := asS_t
  have hA2 : asS (.list [.str n]) = M.pure ([n].map .str) := asS_l
  have hs : ∀ m ∈ [n], PyData.strOk m = true := fun m h => by rw [List.mem_singleton.mp h]; exact hn
  obtain ⟨r1, r2, r3⟩ := cur_ok (gd b [n]) N
  have et : tupleD (.list ((cur (gd b [n]) N).map pI)) = M.pure (tP (cur (gd b [n]) N)) := tupleD_l
  simp (disch := first | assumption | rfl | omega | decide) only [mp_bind, m_assoc, m_opt, m_cond_pure, m_cond_bind, m_cond_t, m_cond_f, mapM_map, filM_map, fold_map, foldF_map, mapM_pure, filM_pure, fold_pure, asI_i, asB_b, asS_l, asS_t, seqOf_l, seqOf_t, addD_i, iaddD_i, subD_i, fdivD_i, modD_i, negD_i, absD_i, intD_i, max2D_i, min2D_i, ltD_i, leD_i, gtD_i, geD_i, eqD_i, neD_i, lenD_l, lenD_t, tupleD_l, tupleD_t, listD_l, list2D_l, list2D_t, listD_t, slD_l, slD_t, revD_l, truthD_b, truthD_n, ixD_l, ixD_t, un2_t, un3_t, un4_t, zipI_l, zipI_t, isD_n, isnD_n, isNone_n, isNone_i, isNone_b, isNone_s, isNone_l, isNone_t, m_eta, Bool.not_true, Bool.not_false, isL_list, atI_0, atI_1, atI_2, atI_3, c_t, c_f, m_needT, isi_tuple_n, isi_tuple_b, isi_tuple_i, isi_tuple_s, isi_tuple_l, isi_tuple_t, isi_list_n, isi_list_b, isi_list_i, isi_list_s, isi_list_l, isi_list_t, isi_dict_n, isi_dict_b, isi_dict_i, isi_dict_s, isi_dict_l, isi_dict_t, isi_str_n, isi_str_b, isi_str_i, isi_str_s, isi_str_l, isi_str_t, isi_bool_n, isi_bool_b, isi_bool_i, isi_bool_s, isi_bool_l, isi_bool_t, isi_int_n, isi_int_b, isi_int_i, isi_int_s, isi_int_l, isi_int_t, bind_run, pure_run, m_law_b3, dict2_dB, m_free_of, e_all hA hs hN, e_lall hA2 hs hN, et, e_same 12 _ (okS_tP (ps := cur (gd b [n]) N) (by omega)), m_law_c2, m_share_busy, rngD_n (n := (N : Int)) (by omega) (by omega), Int.toNat_natCast, e_free, e_lfree, filterMap_cond, List.length_map]
  have hl := List.length_filter_le (fun k : Nat => !fr b n (k : Int)) (List.range N)
  rw [List.length_range] at hl
  refine r_fraction (by omega) (sm (by omega) (by omega)) _ ?_
  refine r_lfrac (by omega) (sm (by omega) (by omega)) _ ?_
  simp (disch := first | assumption | rfl | omega | decide) only [mp_bind, m_assoc, m_opt, m_cond_pure, m_cond_bind, m_cond_t, m_cond_f, mapM_map, filM_map, fold_map, foldF_map, mapM_pure, filM_pure, fold_pure, asI_i, asB_b, asS_l, asS_t, seqOf_l, seqOf_t, addD_i, iaddD_i, subD_i, fdivD_i, modD_i, negD_i, absD_i, intD_i, max2D_i, min2D_i, ltD_i, leD_i, gtD_i, geD_i, eqD_i, neD_i, lenD_l, lenD_t, tupleD_l, tupleD_t, listD_l, list2D_l, list2D_t, listD_t, slD_l, slD_t, revD_l, truthD_b, truthD_n, ixD_l, ixD_t, un2_t, un3_t, un4_t, zipI_l, zipI_t, isD_n, isnD_n, isNone_n, isNone_i, isNone_b, isNone_s, isNone_l, isNone_t, m_eta, Bool.not_true, Bool.not_false, isL_list, atI_0, atI_1, atI_2, atI_3, c_t, c_f, m_needT, isi_tuple_n, isi_tuple_b, isi_tuple_i, isi_tuple_s, isi_tuple_l, isi_tuple_t, isi_list_n, isi_list_b, isi_list_i, isi_list_s, isi_list_l, isi_list_t, isi_dict_n, isi_dict_b, isi_dict_i, isi_dict_s, isi_dict_l, isi_dict_t, isi_str_n, isi_str_b, isi_str_i, isi_str_s, isi_str_l, isi_str_t, isi_bool_n, isi_bool_b, isi_bool_i, isi_bool_s, isi_bool_l, isi_bool_t, isi_int_n, isi_int_b, isi_int_i, isi_int_s, isi_int_l, isi_int_t, bind_run, pure_run, e_same 12 _ okS_qD, m_law_c1]
  exact hP
end
end L33
namespace L33
open PySem PySem.Spec PyProof.Rows L2 Wp

def nms : List Str := ["zed", "ann", "kim", "lou"]
theorem nms_nd : nms.Nodup := by decide +kernel
theorem nms_ok : ∀ x ∈ nms, PyData.strOk x = true := by decide +kernel
def pOk (ps : List PI) : Prop := ps.length ≤ 3 ∧ ∀ p ∈ ps, 0 ≤ p.1 ∧ p.1 < p.2 ∧ p.2 ≤ 100
theorem t_busy {N : Nat} (n0 : 1 ≤ N) (n1 : N ≤ 12) {P : D → Prop} (hP : ∀ b : Bu, (b.map (·.1)).Sublist nms → (∀ r ∈ b, pOk r.2) → P (dB b)) : m__law_busy (.int (N : Int)) P := by
  simp (disch := first | assumption | rfl | omega | decide) only [mp_bind, m_assoc, m_opt, m_cond_pure, m_cond_bind, m_cond_t, m_cond_f, mapM_map, filM_map, fold_map, foldF_map, mapM_pure, filM_pure, fold_pure, asI_i, asB_b, asS_l, asS_t, seqOf_l, seqOf_t, addD_i, iaddD_i, subD_i, fdivD_i, modD_i, negD_i, absD_i, intD_i, max2D_i, min2D_i, ltD_i, leD_i, gtD_i, geD_i, eqD_i, neD_i, lenD_l, lenD_t, tupleD_l, tupleD_t, listD_l, list2D_l, list2D_t, listD_t, slD_l, slD_t, revD_l, truthD_b, truthD_n, ixD_l, ixD_t, un2_t, un3_t, un4_t, zipI_l, zipI_t, isD_n, isnD_n, isNone_n, isNone_i, isNone_b, isNone_s, isNone_l, isNone_t, m_eta, Bool.not_true, Bool.not_false, isL_list, atI_0, atI_1, atI_2, atI_3, c_t, c_f, m_needT, isi_tuple_n, isi_tuple_b, isi_tuple_i, isi_tuple_s, isi_tuple_l, isi_tuple_t, isi_list_n, isi_list_b, isi_list_i, isi_list_s, isi_list_l, isi_list_t, isi_dict_n, isi_dict_b, isi_dict_i, isi_dict_s, isi_dict_l, isi_dict_t, isi_str_n, isi_str_b, isi_str_i, isi_str_s, isi_str_l, isi_str_t, isi_bool_n, isi_bool_b, isi_bool_i, isi_bool_s, isi_bool_l, isi_bool_t, isi_int_n, isi_int_b, isi_int_i, isi_int_s, isi_int_l, isi_int_t, bind_run, pure_run, m__law_busy]
  refine draw_run (by omega) fun n m0 m1 => ?_
  have em : [(.str "zed" : D), .str "ann", .str "kim", .str "lou"] = nms.map .str := rfl
  have ec : cutD (nms.map PyData.str) none (some n) = (nms.take n.toNat).map .str := by rw [cut_to m0, List.map_take]
  simp (disch := first | assumption | rfl | omega | decide) only [mp_bind, m_assoc, m_opt, m_cond_pure, m_cond_bind, m_cond_t, m_cond_f, mapM_map, filM_map, fold_map, foldF_map, mapM_pure, filM_pure, fold_pure, asI_i, asB_b, asS_l, asS_t, seqOf_l, seqOf_t, addD_i, iaddD_i, subD_i, fdivD_i, modD_i, negD_i, absD_i, intD_i, max2D_i, min2D_i, ltD_i, leD_i, gtD_i, geD_i, eqD_i, neD_i, lenD_l, lenD_t, tupleD_l, tupleD_t, listD_l, list2D_l, list2D_t, listD_t, slD_l, slD_t, revD_l, truthD_b, truthD_n, ixD_l, ixD_t, un2_t, un3_t, un4_t, zipI_l, zipI_t, isD_n, isnD_n, isNone_n, isNone_i, isNone_b, isNone_s, isNone_l, isNone_t, m_eta, Bool.not_true, Bool.not_false, isL_list, atI_0, atI_1, atI_2, atI_3, c_t, c_f, m_needT, isi_tuple_n, isi_tuple_b, isi_tuple_i, isi_tuple_s, isi_tuple_l, isi_tuple_t, isi_list_n, isi_list_b, isi_list_i, isi_list_s, isi_list_l, isi_list_t, isi_dict_n, isi_dict_b, isi_dict_i, isi_dict_s, isi_dict_l, isi_dict_t, isi_str_n, isi_str_b, isi_str_i, isi_str_s, isi_str_l, isi_str_t, isi_bool_n, isi_bool_b, isi_bool_i, isi_bool_s, isi_bool_l, isi_bool_t, isi_int_n, isi_int_b, isi_int_i, isi_int_s, isi_int_l, isi_int_t, bind_run, pure_run, em, ec]
  have e0 : (PyData.dict []) = dB [] := rfl
  rw [e0]
  have hle : (nms.take n.toNat).length ≤ 4 := by
    rw [List.length_take]
    have : nms.length = 4 := rfl
    omega
  refine fold_run (fun i s => ∃ b : Bu, s = dB b ∧ b.map (·.1) = (nms.take n.toNat).take i ∧ ∀ r ∈ b, pOk r.2) (nms.take n.toNat) ⟨[], rfl, rfl, by simp⟩ (fun i hi s hI Q hQ => ?_) fun s hI => ?_
  · obtain ⟨b, rfl, h1, h2⟩ := hI
    have hlb : b.length ≤ 4 := by
      have := congrArg List.length h1
      rw [List.length_map, List.length_take] at this
      omega
    have hnd : (nms.take n.toNat).Nodup := nms_nd.sublist (List.take_sublist _ _)
    have hx : (nms.take n.toNat)[i] ∉ ((b.map fun r => (r.1, tP r.2)).map (·.1)) := by
      rw [List.map_map]
      show _ ∉ b.map (·.1)
      rw [h1]
      intro hm
      obtain ⟨j, hj, e⟩ := List.mem_iff_getElem.mp hm
      rw [List.length_take] at hj
      rw [List.getElem_take] at e
      have := (List.getElem_inj hnd).mp e
      omega
    refine draw_run (by omega) fun m k0 k1 => ?_
    simp (disch := first | assumption | rfl | omega | decide) only [mp_bind, m_assoc, m_opt, m_cond_pure, m_cond_bind, m_cond_t, m_cond_f, mapM_map, filM_map, fold_map, foldF_map, mapM_pure, filM_pure, fold_pure, asI_i, asB_b, asS_l, asS_t, seqOf_l, seqOf_t, addD_i, iaddD_i, subD_i, fdivD_i, modD_i, negD_i, absD_i, intD_i, max2D_i, min2D_i, ltD_i, leD_i, gtD_i, geD_i, eqD_i, neD_i, lenD_l, lenD_t, tupleD_l, tupleD_t, listD_l, list2D_l, list2D_t, listD_t, slD_l, slD_t, revD_l, truthD_b, truthD_n, ixD_l, ixD_t, un2_t, un3_t, un4_t, zipI_l, zipI_t, isD_n, isnD_n, isNone_n, isNone_i, isNone_b, isNone_s, isNone_l, isNone_t, m_eta, Bool.not_true, Bool.not_false, isL_list, atI_0, atI_1, atI_2, atI_3, c_t, c_f, m_needT, isi_tuple_n, isi_tuple_b, isi_tuple_i, isi_tuple_s, isi_tuple_l, isi_tuple_t, isi_list_n, isi_list_b, isi_list_i, isi_list_s, isi_list_l, isi_list_t, isi_dict_n, isi_dict_b, isi_dict_i, isi_dict_s, isi_dict_l, isi_dict_t, isi_str_n, isi_str_b, isi_str_i, isi_str_s, isi_str_l, isi_str_t, isi_bool_n, isi_bool_b, isi_bool_i, isi_bool_s, isi_bool_l, isi_bool_t, isi_int_n, isi_int_b, isi_int_i, isi_int_s, isi_int_l, isi_int_t, bind_run, pure_run, rngD_n (n := m) (by omega) (by omega)]
    have hmlen : (List.range m.toNat).length = m.toNat := List.length_range
    refine fold_run (fun j s => ∃ ps : List PI, s = (.list (ps.map pI) : D) ∧ ps.length = j ∧ ∀ p ∈ ps, 0 ≤ p.1 ∧ p.1 < p.2 ∧ p.2 ≤ 100) (List.range m.toNat) ⟨[], rfl, rfl, by simp⟩ (fun j hj s hJ R hR => ?_) fun s hJ => ?_
    · obtain ⟨ps, rfl, g1, g2⟩ := hJ
      rw [hmlen] at hj
      have hisL : isL (.list (ps.map pI)) = true := rfl
      refine draw_run (by omega) fun be b0 b1 => ?_
      simp (disch := first | assumption | rfl | omega | decide) only [mp_bind, m_assoc, m_opt, m_cond_pure, m_cond_bind, m_cond_t, m_cond_f, mapM_map, filM_map, fold_map, foldF_map, mapM_pure, filM_pure, fold_pure, asI_i, asB_b, asS_l, asS_t, seqOf_l, seqOf_t, addD_i, iaddD_i, subD_i, fdivD_i, modD_i, negD_i, absD_i, intD_i, max2D_i, min2D_i, ltD_i, leD_i, gtD_i, geD_i, eqD_i, neD_i, lenD_l, lenD_t, tupleD_l, tupleD_t, listD_l, list2D_l, list2D_t, listD_t, slD_l, slD_t, revD_l, truthD_b, truthD_n, ixD_l, ixD_t, un2_t, un3_t, un4_t, zipI_l, zipI_t, isD_n, isnD_n, isNone_n, isNone_i, isNone_b, isNone_s, isNone_l, isNone_t, m_eta, Bool.not_true, Bool.not_false, isL_list, atI_0, atI_1, atI_2, atI_3, c_t, c_f, m_needT, isi_tuple_n, isi_tuple_b, isi_tuple_i, isi_tuple_s, isi_tuple_l, isi_tuple_t, isi_list_n, isi_list_b, isi_list_i, isi_list_s, isi_list_l, isi_list_t, isi_dict_n, isi_dict_b, isi_dict_i, isi_dict_s, isi_dict_l, isi_dict_t, isi_str_n, isi_str_b, isi_str_i, isi_str_s, isi_str_l, isi_str_t, isi_bool_n, isi_bool_b, isi_bool_i, isi_bool_s, isi_bool_l, isi_bool_t, isi_int_n, isi_int_b, isi_int_i, isi_int_s, isi_int_l, isi_int_t, bind_run, pure_run, hisL]
      refine draw_run (by omega) fun ln l0 l1 => ?_
      simp (disch := first | assumption | rfl | omega | decide) only [mp_bind, m_assoc, m_opt, m_cond_pure, m_cond_bind, m_cond_t, m_cond_f, mapM_map, filM_map, fold_map, foldF_map, mapM_pure, filM_pure, fold_pure, asI_i, asB_b, asS_l, asS_t, seqOf_l, seqOf_t, addD_i, iaddD_i, subD_i, fdivD_i, modD_i, negD_i, absD_i, intD_i, max2D_i, min2D_i, ltD_i, leD_i, gtD_i, geD_i, eqD_i, neD_i, lenD_l, lenD_t, tupleD_l, tupleD_t, listD_l, list2D_l, list2D_t, listD_t, slD_l, slD_t, revD_l, truthD_b, truthD_n, ixD_l, ixD_t, un2_t, un3_t, un4_t, zipI_l, zipI_t, isD_n, isnD_n, isNone_n, isNone_i, isNone_b, isNone_s, isNone_l, isNone_t, m_eta, Bool.not_true, Bool.not_false, isL_list, atI_0, atI_1, atI_2, atI_3, c_t, c_f, m_needT, isi_tuple_n, isi_tuple_b, isi_tuple_i, isi_tuple_s, isi_tuple_l, isi_tuple_t, isi_list_n, isi_list_b, isi_list_i, isi_list_s, isi_list_l, isi_list_t, isi_dict_n, isi_dict_b, isi_dict_i, isi_dict_s, isi_dict_l, isi_dict_t, isi_str_n, isi_str_b, isi_str_i, isi_str_s, isi_str_l, isi_str_t, isi_bool_n, isi_bool_b, isi_bool_i, isi_bool_s, isi_bool_l, isi_bool_t, isi_int_n, isi_int_b, isi_int_i, isi_int_s, isi_int_l, isi_int_t, bind_run, pure_run, appD_l (ds := ps.map pI) (y := .tuple [.int be, .int (be + 1 + ln)]) (by rw [List.length_map]; omega)]
      refine hR _ ⟨ps ++ [(be, be + 1 + ln)], by rw [List.map_append]; rfl, by simp [g1], fun p hp => ?_⟩
      rcases List.mem_append.mp hp with hp | hp
      · exact g2 p hp
      · rw [List.mem_singleton.mp hp]
        show 0 ≤ be ∧ be < be + 1 + ln ∧ be + 1 + ln ≤ 100
        omega
    · obtain ⟨ps, rfl, g1, g2⟩ := hJ
      rw [hmlen] at g1
      have et : (PyData.tuple (ps.map pI)) = tP ps := rfl
      simp (disch := first | assumption | rfl | omega | decide) only [mp_bind, m_assoc, m_opt, m_cond_pure, m_cond_bind, m_cond_t, m_cond_f, mapM_map, filM_map, fold_map, foldF_map, mapM_pure, filM_pure, fold_pure, asI_i, asB_b, asS_l, asS_t, seqOf_l, seqOf_t, addD_i, iaddD_i, subD_i, fdivD_i, modD_i, negD_i, absD_i, intD_i, max2D_i, min2D_i, ltD_i, leD_i, gtD_i, geD_i, eqD_i, neD_i, lenD_l, lenD_t, tupleD_l, tupleD_t, listD_l, list2D_l, list2D_t, listD_t, slD_l, slD_t, revD_l, truthD_b, truthD_n, ixD_l, ixD_t, un2_t, un3_t, un4_t, zipI_l, zipI_t, isD_n, isnD_n, isNone_n, isNone_i, isNone_b, isNone_s, isNone_l, isNone_t, m_eta, Bool.not_true, Bool.not_false, isL_list, atI_0, atI_1, atI_2, atI_3, c_t, c_f, m_needT, isi_tuple_n, isi_tuple_b, isi_tuple_i, isi_tuple_s, isi_tuple_l, isi_tuple_t, isi_list_n, isi_list_b, isi_list_i, isi_list_s, isi_list_l, isi_list_t, isi_dict_n, isi_dict_b, isi_dict_i, isi_dict_s, isi_dict_l, isi_dict_t, isi_str_n, isi_str_b, isi_str_i, isi_str_s, isi_str_l, isi_str_t, isi_bool_n, isi_bool_b, isi_bool_i, isi_bool_s, isi_bool_l, isi_bool_t, isi_int_n, isi_int_b, isi_int_i, isi_int_s, isi_int_l, isi_int_t, bind_run, pure_run, et]
      unfold dB
      rw [dputD_s hx (by rw [List.length_map]; omega)]
      refine hQ _ ⟨b ++ [((nms.take n.toNat)[i], ps)], ?_, ?_, ?_⟩
      · unfold dB
        rw [List.map_append]; rfl
      · rw [List.map_append, h1, List.take_succ_eq_append_getElem hi]; rfl
      · intro r hr
        rcases List.mem_append.mp hr with hr | hr
        · exact h2 r hr
        · rw [List.mem_singleton.mp hr]; exact ⟨by show ps.length ≤ 3; omega, g2⟩
  · obtain ⟨b, rfl, h1, h2⟩ := hI
    rw [List.take_length] at h1
    exact hP b (by rw [h1]; exact List.take_sublist _ _) h2
theorem t_b20 (a : D) : Ret (m_law_b20 () a) (Fl.nx ()) := by
  intro P hP
  simp (disch := first | assumption | rfl | omega | decide) only [mp_bind, m_assoc, m_opt, m_cond_pure, m_cond_bind, m_cond_t, m_cond_f, mapM_map, filM_map, fold_map, foldF_map, mapM_pure, filM_pure, fold_pure, asI_i, asB_b, asS_l, asS_t, seqOf_l, seqOf_t, addD_i, iaddD_i, subD_i, fdivD_i, modD_i, negD_i, absD_i, intD_i, max2D_i, min2D_i, ltD_i, leD_i, gtD_i, geD_i, eqD_i, neD_i, lenD_l, lenD_t, tupleD_l, tupleD_t, listD_l, list2D_l, list2D_t, listD_t, slD_l, slD_t, revD_l, truthD_b, truthD_n, ixD_l, ixD_t, un2_t, un3_t, un4_t, zipI_l, zipI_t, isD_n, isnD_n, isNone_n, isNone_i, isNone_b, isNone_s, isNone_l, isNone_t, m_eta, Bool.not_true, Bool.not_false, isL_list, atI_0, atI_1, atI_2, atI_3, c_t, c_f, m_needT, isi_tuple_n, isi_tuple_b, isi_tuple_i, isi_tuple_s, isi_tuple_l, isi_tuple_t, isi_list_n, isi_list_b, isi_list_i, isi_list_s, isi_list_l, isi_list_t, isi_dict_n, isi_dict_b, isi_dict_i, isi_dict_s, isi_dict_l, isi_dict_t, isi_str_n, isi_str_b, isi_str_i, isi_str_s, isi_str_l, isi_str_t, isi_bool_n, isi_bool_b, isi_bool_i, isi_bool_s, isi_bool_l, isi_bool_t, isi_int_n, isi_int_b, isi_int_i, isi_int_s, isi_int_l, isi_int_t, bind_run, pure_run, m_law_b20]
  refine draw_run (by omega) fun n0 a0 a1 => ?_
  obtain ⟨N, hN⟩ : ∃ N : Nat, 1 + n0 = (N : Int) := ⟨(1 + n0).toNat, by omega⟩
  simp (disch := first | assumption | rfl | omega | decide) only [mp_bind, m_assoc, m_opt, m_cond_pure, m_cond_bind, m_cond_t, m_cond_f, mapM_map, filM_map, fold_map, foldF_map, mapM_pure, filM_pure, fold_pure, asI_i, asB_b, asS_l, asS_t, seqOf_l, seqOf_t, addD_i, iaddD_i, subD_i, fdivD_i, modD_i, negD_i, absD_i, intD_i, max2D_i, min2D_i, ltD_i, leD_i, gtD_i, geD_i, eqD_i, neD_i, lenD_l, lenD_t, tupleD_l, tupleD_t, listD_l, list2D_l, list2D_t, listD_t, slD_l, slD_t, revD_l, truthD_b, truthD_n, ixD_l, ixD_t, un2_t, un3_t, un4_t, zipI_l, zipI_t, isD_n, isnD_n, isNone_n, isNone_i, isNone_b, isNone_s, isNone_l, isNone_t, m_eta, Bool.not_true, Bool.not_false, isL_list, atI_0, atI_1, atI_2, atI_3, c_t, c_f, m_needT, isi_tuple_n, isi_tuple_b, isi_tuple_i, isi_tuple_s, isi_tuple_l, isi_tuple_t, isi_list_n, isi_list_b, isi_list_i, isi_list_s, isi_list_l, isi_list_t, isi_dict_n, isi_dict_b, isi_dict_i, isi_dict_s, isi_dict_l, isi_dict_t, isi_str_n, isi_str_b, isi_str_i, isi_str_s, isi_str_l, isi_str_t, isi_bool_n, isi_bool_b, isi_bool_i, isi_bool_s, isi_bool_l, isi_bool_t, isi_int_n, isi_int_b, isi_int_i, isi_int_s, isi_int_l, isi_int_t, bind_run, pure_run, hN]
  refine t_busy (by omega) (by omega) fun b hb hp => ?_
  obtain ⟨rows, hq, pq⟩ := sort_rows (fun r : Str × List PI => r.1) b
  have hso : ∀ r ∈ b, PyData.strOk r.1 = true := fun r hr => nms_ok _ (hb.subset (List.mem_map.mpr ⟨r, hr, rfl⟩))
  have hlb : b.length ≤ 4 := by
    have := hb.length_le
    rw [List.length_map] at this
    exact this
  have hsd : sortedD (dB b) = M.pure (.list ((rows.map (·.1)).map .str)) := by
    unfold dB
    have e : (b.map fun r => (r.1, tP r.2)).map (fun p => (.str p.1 : D)) = b.map fun r => .str r.1 := by rw [List.map_map]; rfl
    rw [sortedD_s (by rw [e]; exact sortable_rows (nm := fun r : Str × List PI => r.1) hso), e, hq, List.map_map]; rfl
  have hlk : ∀ n, pOk (lk b n) := fun n => by
    rcases lk_mem b n with h | h
    · rw [h]; exact ⟨by simp, by simp⟩
    · exact hp _ h
  have o : BOk b (rows.map (·.1)) N := ⟨by omega, by omega, nms_nd.sublist hb, ⟨fun n => by have := (hlk n).1; omega, by omega⟩, hsd, fun n hn => by
    obtain ⟨r, hr, rfl⟩ := List.mem_map.mp hn
    exact hso r (pq.mem_iff.mp hr), by rw [List.length_map, pq.length_eq]; exact hlb, fun n hn => by
    obtain ⟨r, hr, rfl⟩ := List.mem_map.mp hn
    exact List.mem_map.mpr ⟨r, pq.mem_iff.mp hr, rfl⟩, fun r hr => (hp r hr).2⟩
  generalize rows.map (·.1) = qs at *
  have ln := o.ln
  have eadd : addD (.list (qs.map .str)) (.list [.str "new"]) = M.pure (.list ((qs ++ [("new" : Str)]).map .str)) := by
    rw [addD_l (by simp; omega), List.map_append]; rfl
  simp (disch := first | assumption | rfl | omega | decide) only [mp_bind, m_assoc, m_opt, m_cond_pure, m_cond_bind, m_cond_t, m_cond_f, mapM_map, filM_map, fold_map, foldF_map, mapM_pure, filM_pure, fold_pure, asI_i, asB_b, asS_l, asS_t, seqOf_l, seqOf_t, addD_i, iaddD_i, subD_i, fdivD_i, modD_i, negD_i, absD_i, intD_i, max2D_i, min2D_i, ltD_i, leD_i, gtD_i, geD_i, eqD_i, neD_i, lenD_l, lenD_t, tupleD_l, tupleD_t, listD_l, list2D_l, list2D_t, listD_t, slD_l, slD_t, revD_l, truthD_b, truthD_n, ixD_l, ixD_t, un2_t, un3_t, un4_t, zipI_l, zipI_t, isD_n, isnD_n, isNone_n, isNone_i, isNone_b, isNone_s, isNone_l, isNone_t, m_eta, Bool.not_true, Bool.not_false, isL_list, atI_0, atI_1, atI_2, atI_3, c_t, c_f, m_needT, isi_tuple_n, isi_tuple_b, isi_tuple_i, isi_tuple_s, isi_tuple_l, isi_tuple_t, isi_list_n, isi_list_b, isi_list_i, isi_list_s, isi_list_l, isi_list_t, isi_dict_n, isi_dict_b, isi_dict_i, isi_dict_s, isi_dict_l, isi_dict_t, isi_str_n, isi_str_b, isi_str_i, isi_str_s, isi_str_l, isi_str_t, isi_bool_n, isi_bool_b, isi_bool_i, isi_bool_s, isi_bool_l, isi_bool_t, isi_int_n, isi_int_b, isi_int_i, isi_int_s, isi_int_l, isi_int_t, bind_run, pure_run, hsd]
  refine filM_sub (g := fun n : Str => (.str n : D)) (fun n hn R r1 r0 => ?_) fun ns hns => ?_
  · refine draw_run (by omega) fun r _ _ => ?_
    simp (disch := first | assumption | rfl | omega | decide) only [mp_bind, m_assoc, m_opt, m_cond_pure, m_cond_bind, m_cond_t, m_cond_f, mapM_map, filM_map, fold_map, foldF_map, mapM_pure, filM_pure, fold_pure, asI_i, asB_b, asS_l, asS_t, seqOf_l, seqOf_t, addD_i, iaddD_i, subD_i, fdivD_i, modD_i, negD_i, absD_i, intD_i, max2D_i, min2D_i, ltD_i, leD_i, gtD_i, geD_i, eqD_i, neD_i, lenD_l, lenD_t, tupleD_l, tupleD_t, listD_l, list2D_l, list2D_t, listD_t, slD_l, slD_t, revD_l, truthD_b, truthD_n, ixD_l, ixD_t, un2_t, un3_t, un4_t, zipI_l, zipI_t, isD_n, isnD_n, isNone_n, isNone_i, isNone_b, isNone_s, isNone_l, isNone_t, m_eta, Bool.not_true, Bool.not_false, isL_list, atI_0, atI_1, atI_2, atI_3, c_t, c_f, m_needT, isi_tuple_n, isi_tuple_b, isi_tuple_i, isi_tuple_s, isi_tuple_l, isi_tuple_t, isi_list_n, isi_list_b, isi_list_i, isi_list_s, isi_list_l, isi_list_t, isi_dict_n, isi_dict_b, isi_dict_i, isi_dict_s, isi_dict_l, isi_dict_t, isi_str_n, isi_str_b, isi_str_i, isi_str_s, isi_str_l, isi_str_t, isi_bool_n, isi_bool_b, isi_bool_i, isi_bool_s, isi_bool_l, isi_bool_t, isi_int_n, isi_int_b, isi_int_i, isi_int_s, isi_int_l, isi_int_t, bind_run, pure_run]
    by_cases h : r = 0
    · simpa [h] using r1
    · simpa [h] using r0
  · simp (disch := first | assumption | rfl | omega | decide) only [mp_bind, m_assoc, m_opt, m_cond_pure, m_cond_bind, m_cond_t, m_cond_f, mapM_map, filM_map, fold_map, foldF_map, mapM_pure, filM_pure, fold_pure, asI_i, asB_b, asS_l, asS_t, seqOf_l, seqOf_t, addD_i, iaddD_i, subD_i, fdivD_i, modD_i, negD_i, absD_i, intD_i, max2D_i, min2D_i, ltD_i, leD_i, gtD_i, geD_i, eqD_i, neD_i, lenD_l, lenD_t, tupleD_l, tupleD_t, listD_l, list2D_l, list2D_t, listD_t, slD_l, slD_t, revD_l, truthD_b, truthD_n, ixD_l, ixD_t, un2_t, un3_t, un4_t, zipI_l, zipI_t, isD_n, isnD_n, isNone_n, isNone_i, isNone_b, isNone_s, isNone_l, isNone_t, m_eta, Bool.not_true, Bool.not_false, isL_list, atI_0, atI_1, atI_2, atI_3, c_t, c_f, m_needT, isi_tuple_n, isi_tuple_b, isi_tuple_i, isi_tuple_s, isi_tuple_l, isi_tuple_t, isi_list_n, isi_list_b, isi_list_i, isi_list_s, isi_list_l, isi_list_t, isi_dict_n, isi_dict_b, isi_dict_i, isi_dict_s, isi_dict_l, isi_dict_t, isi_str_n, isi_str_b, isi_str_i, isi_str_s, isi_str_l, isi_str_t, isi_bool_n, isi_bool_b, isi_bool_i, isi_bool_s, isi_bool_l, isi_bool_t, isi_int_n, isi_int_b, isi_int_i, isi_int_s, isi_int_l, isi_int_t, bind_run, pure_run, eadd]
    refine foldF_retU (fun n hn => t_b3 o ?_) ?_
    · rcases List.mem_append.mp hn with h | h
      · exact o.so n h
      · rw [List.mem_singleton.mp h]; decide +kernel
    · rw [m_go_nx]
      exact t_r19 o hns P hP
theorem law_ok : m_law fun d => d = .bool true := by
  simp (disch := first | assumption | rfl | omega | decide) only [mp_bind, m_assoc, m_opt, m_cond_pure, m_cond_bind, m_cond_t, m_cond_f, mapM_map, filM_map, fold_map, foldF_map, mapM_pure, filM_pure, fold_pure, asI_i, asB_b, asS_l, asS_t, seqOf_l, seqOf_t, addD_i, iaddD_i, subD_i, fdivD_i, modD_i, negD_i, absD_i, intD_i, max2D_i, min2D_i, ltD_i, leD_i, gtD_i, geD_i, eqD_i, neD_i, lenD_l, lenD_t, tupleD_l, tupleD_t, listD_l, list2D_l, list2D_t, listD_t, slD_l, slD_t, revD_l, truthD_b, truthD_n, ixD_l, ixD_t, un2_t, un3_t, un4_t, zipI_l, zipI_t, isD_n, isnD_n, isNone_n, isNone_i, isNone_b, isNone_s, isNone_l, isNone_t, m_eta, Bool.not_true, Bool.not_false, isL_list, atI_0, atI_1, atI_2, atI_3, c_t, c_f, m_needT, isi_tuple_n, isi_tuple_b, isi_tuple_i, isi_tuple_s, isi_tuple_l, isi_tuple_t, isi_list_n, isi_list_b, isi_list_i, isi_list_s, isi_list_l, isi_list_t, isi_dict_n, isi_dict_b, isi_dict_i, isi_dict_s, isi_dict_l, isi_dict_t, isi_str_n, isi_str_b, isi_str_i, isi_str_s, isi_str_l, isi_str_t, isi_bool_n, isi_bool_b, isi_bool_i, isi_bool_s, isi_bool_l, isi_bool_t, isi_int_n, isi_int_b, isi_int_i, isi_int_s, isi_int_l, isi_int_t, bind_run, pure_run, m_law, rngD_n (n := 4) (by omega) (by omega)]
  refine foldF_unit (fun x _ Q hQ => t_b20 _ Q hQ) ?_
  show m_law_r21 () _
  simp (disch := first | assumption | rfl | omega | decide) only [mp_bind, m_assoc, m_opt, m_cond_pure, m_cond_bind, m_cond_t, m_cond_f, mapM_map, filM_map, fold_map, foldF_map, mapM_pure, filM_pure, fold_pure, asI_i, asB_b, asS_l, asS_t, seqOf_l, seqOf_t, addD_i, iaddD_i, subD_i, fdivD_i, modD_i, negD_i, absD_i, intD_i, max2D_i, min2D_i, ltD_i, leD_i, gtD_i, geD_i, eqD_i, neD_i, lenD_l, lenD_t, tupleD_l, tupleD_t, listD_l, list2D_l, list2D_t, listD_t, slD_l, slD_t, revD_l, truthD_b, truthD_n, ixD_l, ixD_t, un2_t, un3_t, un4_t, zipI_l, zipI_t, isD_n, isnD_n, isNone_n, isNone_i, isNone_b, isNone_s, isNone_l, isNone_t, m_eta, Bool.not_true, Bool.not_false, isL_list, atI_0, atI_1, atI_2, atI_3, c_t, c_f, m_needT, isi_tuple_n, isi_tuple_b, isi_tuple_i, isi_tuple_s, isi_tuple_l, isi_tuple_t, isi_list_n, isi_list_b, isi_list_i, isi_list_s, isi_list_l, isi_list_t, isi_dict_n, isi_dict_b, isi_dict_i, isi_dict_s, isi_dict_l, isi_dict_t, isi_str_n, isi_str_b, isi_str_i, isi_str_s, isi_str_l, isi_str_t, isi_bool_n, isi_bool_b, isi_bool_i, isi_bool_s, isi_bool_l, isi_bool_t, isi_int_n, isi_int_b, isi_int_i, isi_int_s, isi_int_l, isi_int_t, bind_run, pure_run, m_law_r21]
end L33
namespace L33
open PySem PySem.Spec PyProof.Rows L2 Wp
theorem all_mk {w : World} {K : PySem.W.Frag} {mg : Str → Option Value} {fa : Addr} (hb_abs : mg "abs" = none) (hb_all : mg "all" = none) (hb_any : mg "any" = none) (hb_bool : mg "bool" = none) (hb_dict : mg "dict" = none) (hb_int : mg "int" = none) (hb_isinstance : mg "isinstance" = none) (hb_len : mg "len" = none) (hb_list : mg "list" = none) (hb_max : mg "max" = none) (hb_min : mg "min" = none) (hb_range : mg "range" = none) (hb_sorted : mg "sorted" = none) (hb_str : mg "str" = none) (hb_tuple : mg "tuple" = none) (h__law_draws : Has K mg "_law_draws" st__law_draws) (h__law_next : Has K mg "_law_next" st__law_next) (h__law_busy : Has K mg "_law_busy" st__law_busy) (h__law_free : Has K mg "_law_free" st__law_free) (h__law_all : Has K mg "_law_all" st__law_all) (h__law_same : Has K mg "_law_same" st__law_same) (h__law_can : Has K mg "_law_can" st__law_can) (h__law_first : Has K mg "_law_first" st__law_first) (h_stretches : Has K mg "stretches" st_stretches) (h_is_free : Has K mg "is_free" st_is_free) (h_all_free : Has K mg "all_free" st_all_free) (h_longest_free : Has K mg "longest_free" st_longest_free) (h_who_can : Has K mg "who_can" st_who_can) (h_fewest_moved : Has K mg "fewest_moved" st_fewest_moved) (h_best_meeting : Has K mg "best_meeting" st_best_meeting) (h_with_must : Has K mg "with_must" st_with_must) (h_first_meeting : Has K mg "first_meeting" st_first_meeting) (h_meetings_row : Has K mg "meetings_row" st_meetings_row) (h_free_of : Has K mg "free_of" st_free_of) (h_divisor : Has K mg "divisor" st_divisor) (h_fraction : Has K mg "fraction" st_fraction) (h_share_busy : Has K mg "share_busy" st_share_busy) (h__law_fraction : Has K mg "_law_fraction" st__law_fraction) (hl : HasL K st_law fa) :
    ∃ fd : FuncData, (∀ (s : Shared) (v : Value), BindsTo s fd ⟨[v], []⟩ [("script", v)]) ∧ ∀ base : Heap, K.In base → base.Ns mainGlobals mg → FnOk PySem.Challenge.rw_worksplanned_k33_when_all_can_meet.prog w K mg base CX0 14 fa fd ["script"] (spLaw K) := by
  obtain ⟨fd, hb, F⟩ := hl
  refine ⟨fd, hb, fun base _ _ => ?_⟩
  have d__law_draws := fd__law_draws (P := PySem.Challenge.pw_worksplanned_k33_when_all_can_meet) (w := w) (base := base) h__law_draws hb_abs hb_int hb_len hb_range
  have d__law_next := fd__law_next (P := PySem.Challenge.pw_worksplanned_k33_when_all_can_meet) (w := w) (base := base) h__law_next hb_int hb_len
  have d__law_busy := fd__law_busy (P := PySem.Challenge.pw_worksplanned_k33_when_all_can_meet) (w := w) (base := base) h__law_busy hb_range hb_tuple d__law_next
  have d__law_free := fd__law_free (P := PySem.Challenge.pw_worksplanned_k33_when_all_can_meet) (w := w) (base := base) h__law_free 
  have d__law_all := fd__law_all (P := PySem.Challenge.pw_worksplanned_k33_when_all_can_meet) (w := w) (base := base) h__law_all hb_range d__law_free
  have d__law_same := fd__law_same (P := PySem.Challenge.pw_worksplanned_k33_when_all_can_meet) (w := w) (base := base) h__law_same hb_bool hb_int hb_isinstance hb_len hb_range hb_str hb_tuple 12
  have d__law_can := fd__law_can (P := PySem.Challenge.pw_worksplanned_k33_when_all_can_meet) (w := w) (base := base) h__law_can hb_range hb_sorted d__law_free
  have d__law_first := fd__law_first (P := PySem.Challenge.pw_worksplanned_k33_when_all_can_meet) (w := w) (base := base) h__law_first d__law_all
  have d_stretches := fd_stretches (P := PySem.Challenge.pw_worksplanned_k33_when_all_can_meet) (w := w) (base := base) h_stretches hb_tuple
  have d_is_free := fd_is_free (P := PySem.Challenge.pw_worksplanned_k33_when_all_can_meet) (w := w) (base := base) h_is_free hb_any
  have d_all_free := fd_all_free (P := PySem.Challenge.pw_worksplanned_k33_when_all_can_meet) (w := w) (base := base) h_all_free hb_all hb_range d_stretches d_is_free
  have d_longest_free := fd_longest_free (P := PySem.Challenge.pw_worksplanned_k33_when_all_can_meet) (w := w) (base := base) h_longest_free hb_min d_all_free
  have d_who_can := fd_who_can (P := PySem.Challenge.pw_worksplanned_k33_when_all_can_meet) (w := w) (base := base) h_who_can hb_all hb_range hb_sorted hb_tuple d_is_free
  have d_fewest_moved := fd_fewest_moved (P := PySem.Challenge.pw_worksplanned_k33_when_all_can_meet) (w := w) (base := base) h_fewest_moved hb_len
  have d_best_meeting := fd_best_meeting (P := PySem.Challenge.pw_worksplanned_k33_when_all_can_meet) (w := w) (base := base) h_best_meeting hb_len hb_min hb_range d_who_can
  have d_with_must := fd_with_must (P := PySem.Challenge.pw_worksplanned_k33_when_all_can_meet) (w := w) (base := base) h_with_must hb_all hb_len hb_min hb_range d_who_can
  have d_first_meeting := fd_first_meeting (P := PySem.Challenge.pw_worksplanned_k33_when_all_can_meet) (w := w) (base := base) h_first_meeting d_all_free
  have d_meetings_row := fd_meetings_row (P := PySem.Challenge.pw_worksplanned_k33_when_all_can_meet) (w := w) (base := base) h_meetings_row hb_dict hb_tuple d_first_meeting
  have d_free_of := fd_free_of (P := PySem.Challenge.pw_worksplanned_k33_when_all_can_meet) (w := w) (base := base) h_free_of d_all_free
  have d_divisor := fd_divisor (P := PySem.Challenge.pw_worksplanned_k33_when_all_can_meet) (w := w) (base := base) h_divisor 
  have d_fraction := fd_fraction (P := PySem.Challenge.pw_worksplanned_k33_when_all_can_meet) (w := w) (base := base) h_fraction hb_abs d_divisor
  have d_share_busy := fd_share_busy (P := PySem.Challenge.pw_worksplanned_k33_when_all_can_meet) (w := w) (base := base) h_share_busy hb_len hb_range d_fraction d_is_free
  have d__law_fraction := fd__law_fraction (P := PySem.Challenge.pw_worksplanned_k33_when_all_can_meet) (w := w) (base := base) h__law_fraction hb_abs
  exact fd_law law_ok F hb_dict hb_len hb_list hb_max hb_range hb_sorted hb_tuple d__law_draws d__law_busy d__law_next d__law_all d__law_same d__law_can d__law_first d_longest_free d_who_can d_fewest_moved d_best_meeting d_with_must d_meetings_row d_free_of d_share_busy d__law_fraction d_all_free d_first_meeting d__law_free
end L33
open PySem PySem.W PyProof.Rows
set_option maxHeartbeats 0 in
theorem PySem.Challenge.cw_worksplanned_k33_when_all_can_meet_holds : PySem.Challenge.rw_worksplanned_k33_when_all_can_meet.Holds := by
  w_on; o_law; k_head; (case hw => w_witness2)
  k_fill
  refine L2.walk_of (l := PySem.Challenge.rw_worksplanned_k33_when_all_can_meet) (n := 63) (k := 14) (x := "script") (CX := fun _ => L2.CX0) (sp := fun w => Wp.spLaw _) rfl (by decide) rfl ⟨rfl, by decide, by decide⟩ (fun w h Y => PySem.W.kIn_of Y) ?F (fun _ _ a ns hl _ hS => ⟨a, ns, rfl, hS, hl, fun _ => rfl⟩) (fun _ _ _ _ _ h => h)
  case F =>
    intro w mg fa h KX G hmg
    refine' L33.all_mk ?hb_abs ?hb_all ?hb_any ?hb_bool ?hb_dict ?hb_int ?hb_isinstance ?hb_len ?hb_list ?hb_max ?hb_min ?hb_range ?hb_sorted ?hb_str ?hb_tuple ?h__law_draws ?h__law_next ?h__law_busy ?h__law_free ?h__law_all ?h__law_same ?h__law_can ?h__law_first ?h_stretches ?h_is_free ?h_all_free ?h_longest_free ?h_who_can ?h_fewest_moved ?h_best_meeting ?h_with_must ?h_first_meeting ?h_meetings_row ?h_free_of ?h_divisor ?h_fraction ?h_share_busy ?h__law_fraction ?zlaw
    (case hb_abs => exact PySem.W.mg_none_of KX G (by k_is))
    (case hb_all => exact PySem.W.mg_none_of KX G (by k_is))
    (case hb_any => exact PySem.W.mg_none_of KX G (by k_is))
    (case hb_bool => exact PySem.W.mg_none_of KX G (by k_is))
    (case hb_dict => exact PySem.W.mg_none_of KX G (by k_is))
    (case hb_int => exact PySem.W.mg_none_of KX G (by k_is))
    (case hb_isinstance => exact PySem.W.mg_none_of KX G (by k_is))
    (case hb_len => exact PySem.W.mg_none_of KX G (by k_is))
    (case hb_list => exact PySem.W.mg_none_of KX G (by k_is))
    (case hb_max => exact PySem.W.mg_none_of KX G (by k_is))
    (case hb_min => exact PySem.W.mg_none_of KX G (by k_is))
    (case hb_range => exact PySem.W.mg_none_of KX G (by k_is))
    (case hb_sorted => exact PySem.W.mg_none_of KX G (by k_is))
    (case hb_str => exact PySem.W.mg_none_of KX G (by k_is))
    (case hb_tuple => exact PySem.W.mg_none_of KX G (by k_is))
    (case h__law_draws => (refine' Wp.has_mk KX G ?a ?l ?c ?k); (case a => k_is); (case l => k_is); (case c => k_is); (case k => k_is))
    (case h__law_next => (refine' Wp.has_mk KX G ?a ?l ?c ?k); (case a => k_is); (case l => k_is); (case c => k_is); (case k => k_is))
    (case h__law_busy => (refine' Wp.has_mk KX G ?a ?l ?c ?k); (case a => k_is); (case l => k_is); (case c => k_is); (case k => k_is))
    (case h__law_free => (refine' Wp.has_mk KX G ?a ?l ?c ?k); (case a => k_is); (case l => k_is); (case c => k_is); (case k => k_is))
    (case h__law_all => (refine' Wp.has_mk KX G ?a ?l ?c ?k); (case a => k_is); (case l => k_is); (case c => k_is); (case k => k_is))
    (case h__law_same => (refine' Wp.has_mk KX G ?a ?l ?c ?k); (case a => k_is); (case l => k_is); (case c => k_is); (case k => k_is))
    (case h__law_can => (refine' Wp.has_mk KX G ?a ?l ?c ?k); (case a => k_is); (case l => k_is); (case c => k_is); (case k => k_is))
    (case h__law_first => (refine' Wp.has_mk KX G ?a ?l ?c ?k); (case a => k_is); (case l => k_is); (case c => k_is); (case k => k_is))
    (case h_stretches => (refine' Wp.has_mk KX G ?a ?l ?c ?k); (case a => k_is); (case l => k_is); (case c => k_is); (case k => k_is))
    (case h_is_free => (refine' Wp.has_mk KX G ?a ?l ?c ?k); (case a => k_is); (case l => k_is); (case c => k_is); (case k => k_is))
    (case h_all_free => (refine' Wp.has_mk KX G ?a ?l ?c ?k); (case a => k_is); (case l => k_is); (case c => k_is); (case k => k_is))
    (case h_longest_free => (refine' Wp.has_mk KX G ?a ?l ?c ?k); (case a => k_is); (case l => k_is); (case c => k_is); (case k => k_is))
    (case h_who_can => (refine' Wp.has_mk KX G ?a ?l ?c ?k); (case a => k_is); (case l => k_is); (case c => k_is); (case k => k_is))
    (case h_fewest_moved => (refine' Wp.has_mk KX G ?a ?l ?c ?k); (case a => k_is); (case l => k_is); (case c => k_is); (case k => k_is))
    (case h_best_meeting => (refine' Wp.has_mk KX G ?a ?l ?c ?k); (case a => k_is); (case l => k_is); (case c => k_is); (case k => k_is))
    (case h_with_must => (refine' Wp.has_mk KX G ?a ?l ?c ?k); (case a => k_is); (case l => k_is); (case c => k_is); (case k => k_is))
    (case h_first_meeting => (refine' Wp.has_mk KX G ?a ?l ?c ?k); (case a => k_is); (case l => k_is); (case c => k_is); (case k => k_is))
    (case h_meetings_row => (refine' Wp.has_mk KX G ?a ?l ?c ?k); (case a => k_is); (case l => k_is); (case c => k_is); (case k => k_is))
    (case h_free_of => (refine' Wp.has_mk KX G ?a ?l ?c ?k); (case a => k_is); (case l => k_is); (case c => k_is); (case k => k_is))
    (case h_divisor => (refine' Wp.has_mk KX G ?a ?l ?c ?k); (case a => k_is); (case l => k_is); (case c => k_is); (case k => k_is))
    (case h_fraction => (refine' Wp.has_mk KX G ?a ?l ?c ?k); (case a => k_is); (case l => k_is); (case c => k_is); (case k => k_is))
    (case h_share_busy => (refine' Wp.has_mk KX G ?a ?l ?c ?k); (case a => k_is); (case l => k_is); (case c => k_is); (case k => k_is))
    (case h__law_fraction => (refine' Wp.has_mk KX G ?a ?l ?c ?k); (case a => k_is); (case l => k_is); (case c => k_is); (case k => k_is))
    (case zlaw => (refine' Wp.hasL_mk KX G hmg ?a ?l ?c ?k ?b); (case a => k_is); (case l => k_is); (case c => k_is); (case k => k_is); (case b => exact fun s v => .of_eq rfl))
