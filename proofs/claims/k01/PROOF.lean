import PyProof.Rows.All
import Wide.All
import OpenK.AllK
import Wide.FinOn
import HandS.ForMost
import HandS.IsInst
import HandS.TupLe
import HandS.TupAny
import HandS.Style
import KE.DataEq
import HandS.Conv
import HandS.Zip
import HandS.SetFor
import KE.DataMinMax
import KE.SortData
import KE.DataAny
import PySem.Challenge.RW_framewright_k01_whole_known_two_rates_si
set_option Elab.async false
set_option linter.all false
set_option maxRecDepth 100000
/-! Fd1: pure data over the layer: what a value stands for, environments of slots, the relation to the run. -/
namespace Fd
open PySem PySem.Spec PyProof.Rows L2

/-- a value as pure data -/
inductive D where
  | non | bl (b : Bool) | int (i : Int) | str (x : Str) | tup (ds : List D) | lst (ds : List D) | dct (kvs : List (Key × D))

mutual
inductive Rp (K : PySem.W.Frag) (G : Hp) : V → D → Prop
  | non : Rp K G .non .non
  | bl (b : Bool) : Rp K G (.bl b) (.bl b)
  | int (i : Int) : Rp K G (.int i) (.int i)
  | str (x : Str) : Rp K G (.str x) (.str x)
  | tup {a : Addr} {xs : List V} {ds : List D} : SqT K G a xs → RpL K G xs ds → Rp K G (.ref a) (.tup ds)
  | lst {a : Addr} {xs : List V} {ds : List D} : G a = some (.lst xs) → RpL K G xs ds → Rp K G (.ref a) (.lst ds)
  | dct {a : Addr} {kvs : List (Key × V)} {ds : List (Key × D)} : Rd G a (.dK kvs) → RpM K G kvs ds → Rp K G (.ref a) (.dct ds)
inductive RpL (K : PySem.W.Frag) (G : Hp) : List V → List D → Prop
  | nil : RpL K G [] []
  | cons {v : V} {vs : List V} {d : D} {ds : List D} : Rp K G v d → RpL K G vs ds → RpL K G (v :: vs) (d :: ds)
inductive RpM (K : PySem.W.Frag) (G : Hp) : List (Key × V) → List (Key × D) → Prop
  | nil : RpM K G [] []
  | cons {k : Key} {v : V} {vs : List (Key × V)} {d : D} {ds : List (Key × D)} : Rp K G v d → RpM K G vs ds → RpM K G ((k, v) :: vs) ((k, d) :: ds)
end

/-- what is read in G is read in G' -/
structure Le (K : PySem.W.Frag) (G G' : Hp) : Prop where
  rd : ∀ a u, Rd G a u → Rd G' a u
  ls : ∀ a xs, G a = some (.lst xs) → G' a = some (.lst xs)
theorem Le.of {K : PySem.W.Frag} {G G' : Hp} (h : Same G G') : Le K G G' := ⟨fun a u r => by
  rcases r with r | ⟨o, r⟩
  · exact .inl (h _ _ r)
  · exact .inr ⟨o, h _ _ r⟩, fun a xs r => h _ _ r⟩
theorem Le.sqT {K : PySem.W.Frag} {G G' : Hp} (h : Le K G G') {a : Addr} {xs : List V} (s : SqT K G a xs) : SqT K G' a xs := by
  rcases s with s | s
  · exact .inl (h.rd _ _ s)
  · exact .inr s
theorem Le.sqL {K : PySem.W.Frag} {G G' : Hp} (h : Le K G G') {a : Addr} {xs : List V} (s : SqL K G a xs) : SqL K G' a xs := by
  rcases s with s | s
  · exact .inl (h.rd _ _ s)
  · exact .inr s

section
variable {K : PySem.W.Frag} {G G' : Hp}
mutual
theorem Rp.le (h : Le K G G') : ∀ (d : D) (v : V), Rp K G v d → Rp K G' v d
  | .non, _, r => by cases r; exact .non
  | .bl _, _, r => by cases r; exact .bl _
  | .int _, _, r => by cases r; exact .int _
  | .str _, _, r => by cases r; exact .str _
  | .tup ds, _, r => by cases r with | tup s q => exact .tup (h.sqT s) (RpL.le h ds _ q)
  | .lst ds, _, r => by cases r with | lst s q => exact .lst (h.ls _ _ s) (RpL.le h ds _ q)
  | .dct ds, _, r => by cases r with | dct s q => exact .dct (h.rd _ _ s) (RpM.le h ds _ q)
theorem RpL.le (h : Le K G G') : ∀ (ds : List D) (vs : List V), RpL K G vs ds → RpL K G' vs ds
  | [], _, r => by cases r; exact .nil
  | d :: ds, _, r => by cases r with | cons a b => exact .cons (Rp.le h d _ a) (RpL.le h ds _ b)
theorem RpM.le (h : Le K G G') : ∀ (ds : List (Key × D)) (vs : List (Key × V)), RpM K G vs ds → RpM K G' vs ds
  | [], _, r => by cases r; exact .nil
  | (_, d) :: ds, _, r => by cases r with | cons a b => exact .cons (Rp.le h d _ a) (RpM.le h ds _ b)
end
theorem Rp.mono {v : V} {d : D} (r : Rp K G v d) (h : Same G G') : Rp K G' v d := Rp.le (Le.of h) d v r
theorem RpL.mono {v : List V} {d : List D} (r : RpL K G v d) (h : Same G G') : RpL K G' v d := RpL.le (Le.of h) d v r
theorem RpM.mono {v : List (Key × V)} {d : List (Key × D)} (r : RpM K G v d) (h : Same G G') : RpM K G' v d := RpM.le (Le.of h) d v r
theorem RpL.length : ∀ {vs : List V} {ds : List D}, RpL K G vs ds → vs.length = ds.length
  | _, _, .nil => rfl
  | _, _, .cons _ t => by simp [RpL.length t]
theorem RpL.get : ∀ {vs : List V} {ds : List D} {i : Nat} {d : D}, RpL K G vs ds → ds[i]? = some d → ∃ v, vs[i]? = some v ∧ Rp K G v d
  | _, _, _, _, .nil, e => by simp at e
  | _, _, 0, _, .cons r _, e => by simp at e; subst e; exact ⟨_, rfl, r⟩
  | _, _, i + 1, d, .cons _ t, e => by
    obtain ⟨v, h1, h2⟩ := RpL.get (i := i) (d := d) t (by simpa using e)
    exact ⟨v, by simpa using h1, h2⟩
theorem RpL.getV : ∀ {vs : List V} {ds : List D} {i : Nat} {v : V}, RpL K G vs ds → vs[i]? = some v → ∃ d, ds[i]? = some d ∧ Rp K G v d
  | _, _, _, _, .nil, e => by simp at e
  | _, _, 0, _, .cons r _, e => by simp at e; subst e; exact ⟨_, rfl, r⟩
  | _, _, i + 1, v, .cons _ t, e => by
    obtain ⟨d, h1, h2⟩ := RpL.getV (i := i) (v := v) t (by simpa using e)
    exact ⟨d, by simpa using h1, h2⟩
theorem RpL.append : ∀ {xs ys : List V} {ds es : List D}, RpL K G xs ds → RpL K G ys es → RpL K G (xs ++ ys) (ds ++ es)
  | _, _, _, _, .nil, s => s
  | _, _, _, _, .cons r t, s => .cons r (RpL.append t s)
theorem RpL.set {v : V} {d : D} (r : Rp K G v d) : ∀ {xs : List V} {ds : List D} (i : Nat), RpL K G xs ds → RpL K G (xs.set i v) (ds.set i d)
  | _, _, _, .nil => .nil
  | _, _, 0, .cons _ t => .cons r t
  | _, _, i + 1, .cons q t => .cons q (RpL.set r i t)
theorem RpL.take : ∀ {xs : List V} {ds : List D} (n : Nat), RpL K G xs ds → RpL K G (xs.take n) (ds.take n)
  | _, _, 0, _ => .nil
  | _, _, _ + 1, .nil => .nil
  | _, _, n + 1, .cons r t => .cons r (RpL.take n t)
theorem RpL.drop : ∀ {xs : List V} {ds : List D} (n : Nat), RpL K G xs ds → RpL K G (xs.drop n) (ds.drop n)
  | _, _, 0, r => r
  | _, _, _ + 1, .nil => .nil
  | _, _, n + 1, .cons _ t => RpL.drop n t
theorem RpL.reverse : ∀ {xs : List V} {ds : List D}, RpL K G xs ds → RpL K G xs.reverse ds.reverse
  | _, _, .nil => .nil
  | _, _, .cons r t => by rw [List.reverse_cons, List.reverse_cons]; exact RpL.append (RpL.reverse t) (.cons r .nil)
theorem RpL.rep {xs : List V} {ds : List D} (r : RpL K G xs ds) : ∀ n : Nat, RpL K G (List.replicate n xs).flatten (List.replicate n ds).flatten
  | 0 => .nil
  | n + 1 => by rw [List.replicate_succ, List.replicate_succ, List.flatten_cons, List.flatten_cons]; exact RpL.append r (RpL.rep r n)
theorem RpL.ints : ∀ {vs : List V} {ns : List Int}, RpL K G vs (ns.map D.int) → vs = ns.map V.int
  | _, [], r => by cases r; rfl
  | _, n :: ns, r => by
    cases r with
    | cons a b => cases a; rw [RpL.ints b]; rfl
theorem RpL.of_ints : ∀ ns : List Int, RpL K G (ns.map V.int) (ns.map D.int)
  | [] => .nil
  | n :: ns => .cons (.int n) (RpL.of_ints ns)
theorem RpL.bls : ∀ {vs : List V} {ns : List Bool}, RpL K G vs (ns.map D.bl) → vs = ns.map V.bl
  | _, [], r => by cases r; rfl
  | _, n :: ns, r => by
    cases r with
    | cons a b => cases a; rw [RpL.bls b]; rfl
theorem RpL.strs : ∀ {vs : List V} {ns : List Str}, RpL K G vs (ns.map D.str) → vs = ns.map V.str
  | _, [], r => by cases r; rfl
  | _, n :: ns, r => by
    cases r with
    | cons a b => cases a; rw [RpL.strs b]; rfl
theorem RpL.of_strs : ∀ ns : List Str, RpL K G (ns.map V.str) (ns.map D.str)
  | [] => .nil
  | n :: ns => .cons (.str n) (RpL.of_strs ns)
end

/-! ### slots -/
/-- what a slot of the environment holds: a value (frozen data), an own list or dict, the dict of a parameter, the draws -/
inductive Sl where
  | v (d : D) | L (ds : List D) | M (kvs : List (Key × D)) | U (kvs : List (Key × D)) | W (s : Nat → Int) (n : Nat)
abbrev Env := List (Option Sl)
/-- what is fixed while a def's body runs: the heap at the entry, what is frozen there, the address that may change, what is pending -/
structure Cfg where
  B : Hp
  G0 : Hp
  vol : Option Addr
  P : Hp
  l : Addr := 0
  ns : List Int := []
def drw (ns : List Int) (i : Nat) : Int := (ns[i]?).getD 0
def kDraws : Str := "draws"
def kAt : Str := "at"
/-- the dict of the draws -/
def wDict (l : Addr) (n : Nat) : HO := .dK [(Sum.inr kDraws, .ref l), (Sum.inr kAt, .int n)]
def Own (s : Sl) : Prop := match s with
  | .v _ => False
  | _ => True
def SlOk (K : PySem.W.Frag) (C : Cfg) (G H : Hp) (x : V) : Sl → Prop
  | .v d => Rp K G x d
  | .L ds => ∃ a xs, x = .ref a ∧ G a = none ∧ C.B a = none ∧ C.vol ≠ some a ∧ C.P a = none ∧ H a = some (.lst xs) ∧ RpL K G xs ds
  | .M ds => ∃ a xs, x = .ref a ∧ G a = none ∧ C.B a = none ∧ C.vol ≠ some a ∧ C.P a = none ∧ H a = some (.dK xs) ∧ RpM K G xs ds
  | .U ds => ∃ a xs, x = .ref a ∧ G a = none ∧ C.vol = some a ∧ C.P a = none ∧ H a = some (.dK xs) ∧ RpM K G xs ds
  | .W s n => ∃ a, x = .ref a ∧ G a = none ∧ C.vol = some a ∧ C.P a = none ∧ H a = some (wDict C.l n) ∧ G C.l = some (.lst (C.ns.map V.int)) ∧ (∀ i ∈ C.ns, 0 ≤ i ∧ i < 997) ∧ s = drw C.ns

structure Rel (K : PySem.W.Frag) (C : Cfg) (G : Hp) (ρ : Env) (σ : L2.St) (H : Hp) : Prop where
  len : σ.length = ρ.length
  gh : Same G H
  base : ∀ a o, C.B a = some o → C.vol ≠ some a → H a = some o
  volh : ∀ a, C.vol = some a → ∃ o, H a = some o
  fz : ∀ a o, G a = some o → (∃ o, C.G0 a = some o) ∨ C.B a = none
  pend : ∀ a o, C.P a = some o → H a = some o ∧ G a = none ∧ C.B a = none ∧ C.vol ≠ some a
  slot : ∀ (i : Nat) s, ρ[i]? = some (some s) → ∃ x, σ[i]? = some (some x) ∧ SlOk K C G H x s
  apart : ∀ (i j : Nat) si sj x, i ≠ j → ρ[i]? = some (some si) → ρ[j]? = some (some sj) → Own si → Own sj → σ[i]? = some (some x) → σ[j]? = some (some x) → False

/-- the result of an expression: data, or the object of a slot -/
inductive Rf where
  | d (x : D) | s (i : Nat)
def RV (K : PySem.W.Frag) (G : Hp) (σ : L2.St) (x : V) : Rf → Prop
  | .d d => Rp K G x d
  | .s i => σ[i]? = some (some x)
/-- a value that may be read now: frozen, or an own list or dict whose items are frozen -/
def Ro (K : PySem.W.Frag) (G H : Hp) (x : V) (d : D) : Prop :=
  Rp K G x d ∨ (∃ a xs ds, x = .ref a ∧ d = .lst ds ∧ H a = some (.lst xs) ∧ RpL K G xs ds) ∨ ∃ a xs ds, x = .ref a ∧ d = .dct ds ∧ H a = some (.dK xs) ∧ RpM K G xs ds
def slD : Sl → Option D
  | .v d => some d
  | .L ds => some (.lst ds)
  | .M ds => some (.dct ds)
  | .U ds => some (.dct ds)
  | .W _ _ => none
/-- reading a result -/
def rd (ρ : Env) : Rf → Option D
  | .d x => some x
  | .s i => match ρ[i]? with
    | some (some s) => slD s
    | _ => none
/-- freezing a result -/
def fr (ρ : Env) : Rf → Option (D × Env)
  | .d x => some (x, ρ)
  | .s i => match ρ[i]? with
    | some (some (.L ds)) => some (.lst ds, ρ.set i (some (.v (.lst ds))))
    | some (some (.M ds)) => some (.dct ds, ρ.set i (some (.v (.dct ds))))
    | some (some (.v d)) => some (d, ρ)
    | _ => none

section
variable {K : PySem.W.Frag} {C : Cfg} {G G' H H' : Hp} {ρ ρ' : Env} {σ σ' : L2.St} {x : V} {d : D} {r : Rf}
theorem Ro.of (h : Rp K G x d) : Ro K G H x d := .inl h
theorem Ro.rp (h : Ro K G H x d) (gh : Same G H) : Rp K H x d := by
  rcases h with h | ⟨a, xs, ds, rfl, rfl, h1, h2⟩ | ⟨a, xs, ds, rfl, rfl, h1, h2⟩
  · exact h.mono gh
  · exact .lst h1 (h2.mono gh)
  · exact .dct (.inl h1) (h2.mono gh)
theorem SlOk.ro {s : Sl} (h : SlOk K C G H x s) (e : slD s = some d) : Ro K G H x d := by
  cases s with
  | v d => cases e; exact .inl h
  | L ds => cases e; obtain ⟨a, xs, rfl, _, _, _, _, h1, h2⟩ := h; exact .inr (.inl ⟨a, xs, ds, rfl, rfl, h1, h2⟩)
  | M ds => cases e; obtain ⟨a, xs, rfl, _, _, _, _, h1, h2⟩ := h; exact .inr (.inr ⟨a, xs, ds, rfl, rfl, h1, h2⟩)
  | U ds => cases e; obtain ⟨a, xs, rfl, _, _, _, h1, h2⟩ := h; exact .inr (.inr ⟨a, xs, ds, rfl, rfl, h1, h2⟩)
  | W s n => cases e
theorem Rel.rd (R : Rel K C G ρ σ H) (h : RV K G σ x r) (e : rd ρ r = some d) : Ro K G H x d := by
  cases r with
  | d y => cases e; exact .inl h
  | s i =>
    unfold Fd.rd at e
    dsimp only at e
    cases hq : ρ[i]? with
    | none => rw [hq] at e; cases e
    | some o =>
      cases o with
      | none => rw [hq] at e; cases e
      | some s =>
        rw [hq] at e
        obtain ⟨y, hy, ok⟩ := R.slot i s hq
        have : some (some x) = some (some y) := (show σ[i]? = some (some x) from h).symm.trans hy
        cases this
        exact ok.ro e
theorem RV.mono (h : RV K G σ x r) (hs : Same G G') : RV K G' σ x r := by
  cases r with
  | d y => exact Rp.mono h hs
  | s i => exact h
/-- the address of an own slot -/
theorem SlOk.addr {s : Sl} (h : SlOk K C G H x s) (o : Own s) : ∃ a u, x = .ref a ∧ G a = none ∧ C.P a = none ∧ H a = some u := by
  cases s with
  | v d => exact o.elim
  | L ds => obtain ⟨a, xs, rfl, h0, _, _, hp, h1, h2⟩ := h; exact ⟨a, _, rfl, h0, hp, h1⟩
  | M ds => obtain ⟨a, xs, rfl, h0, _, _, hp, h1, h2⟩ := h; exact ⟨a, _, rfl, h0, hp, h1⟩
  | U ds => obtain ⟨a, xs, rfl, h0, _, hp, h1, h2⟩ := h; exact ⟨a, _, rfl, h0, hp, h1⟩
  | W s n => obtain ⟨a, rfl, h0, _, hp, h1, h2⟩ := h; exact ⟨a, _, rfl, h0, hp, h1⟩
/-- a slot's content stays while G grows (not over its own object) and its object stands -/
theorem SlOk.keep {C' : Cfg} {s : Sl} (h : SlOk K C G H x s) (hB : C'.B = C.B) (hV : C'.vol = C.vol) (hs : Same G G') (hg : ∀ a, x = .ref a → Own s → G' a = none ∧ C'.P a = none) (hh : ∀ a u, x = .ref a → Own s → H a = some u → H' a = some u) (hL : C'.l = C.l := by rfl) (hN : C'.ns = C.ns := by rfl) : SlOk K C' G' H' x s := by
  cases s with
  | v d => exact Rp.mono h hs
  | L ds => obtain ⟨a, xs, rfl, h0, hb, hv, hp, h1, h2⟩ := h; exact ⟨a, xs, rfl, (hg a rfl trivial).1, by rw [hB]; exact hb, by rw [hV]; exact hv, (hg a rfl trivial).2, hh a _ rfl trivial h1, h2.mono hs⟩
  | M ds => obtain ⟨a, xs, rfl, h0, hb, hv, hp, h1, h2⟩ := h; exact ⟨a, xs, rfl, (hg a rfl trivial).1, by rw [hB]; exact hb, by rw [hV]; exact hv, (hg a rfl trivial).2, hh a _ rfl trivial h1, h2.mono hs⟩
  | U ds => obtain ⟨a, xs, rfl, h0, hv, hp, h1, h2⟩ := h; exact ⟨a, xs, rfl, (hg a rfl trivial).1, by rw [hV]; exact hv, (hg a rfl trivial).2, hh a _ rfl trivial h1, h2.mono hs⟩
  | W s n => obtain ⟨a, rfl, h0, hv, hp, h1, h2, h3⟩ := h; exact ⟨a, rfl, (hg a rfl trivial).1, by rw [hV]; exact hv, (hg a rfl trivial).2, hh a _ rfl trivial (by rw [hL]; exact h1), by rw [hL, hN]; exact hs _ _ h2, by rw [hN]; exact h3⟩
theorem same_upd {p : Addr} {o : HO} (h : H p = none) : Same H (upd H p o) := fun b u e => by rw [upd_ne (ne_of_none e h)]; exact e
/-- a new object is laid and frozen -/
theorem Rel.alloc {p : Addr} {o : HO} (R : Rel K C G ρ σ H) (hp : H p = none) : Rel K C (upd G p o) ρ σ (upd H p o) := by
  have gp : G p = none := by
    cases q : G p with
    | none => rfl
    | some u => rw [R.gh _ _ q] at hp; cases hp
  have pv : C.vol ≠ some p := fun e => by obtain ⟨u, hu⟩ := R.volh p e; rw [hu] at hp; cases hp
  have bp : C.B p = none := by
    cases q : C.B p with
    | none => rfl
    | some u => rw [R.base _ _ q pv] at hp; cases hp
  have hne : ∀ {b u}, H b = some u → b ≠ p := fun {b u} e q => by rw [q, hp] at e; cases e
  refine ⟨R.len, fun b u e => ?_, fun b u e v => ?_, fun b e => ?_, fun b u e => ?_, fun b u e => ?_, fun i s e => ?_, R.apart⟩
  · by_cases h : b = p
    · subst h; rw [upd_same] at e ⊢; exact e
    · rw [upd_ne h] at e ⊢; exact R.gh _ _ e
  · have q := R.base b u e v; rw [upd_ne (hne q)]; exact q
  · obtain ⟨u, q⟩ := R.volh b e; exact ⟨u, by rw [upd_ne (hne q)]; exact q⟩
  · by_cases h : b = p
    · subst h; exact .inr bp
    · rw [upd_ne h] at e; exact R.fz _ _ e
  · obtain ⟨h1, h2, h3, h4⟩ := R.pend b u e
    exact ⟨by rw [upd_ne (hne h1)]; exact h1, by rw [upd_ne (hne h1)]; exact h2, h3, h4⟩
  · obtain ⟨y, hy, ok⟩ := R.slot i s e
    refine ⟨y, hy, ok.keep rfl rfl (same_upd gp) (fun a ea ow => ?_) (fun a u ea ow hu => ?_)⟩
    · obtain ⟨a', u, e', h0, hq, hu⟩ := ok.addr ow
      rw [ea] at e'; cases e'
      exact ⟨by rw [upd_ne (hne hu)]; exact h0, hq⟩
    · rw [upd_ne (hne hu)]; exact hu
/-- what a pending object becomes -/
def pen (C : Cfg) (p : Addr) (o : HO) : Cfg := { C with P := upd C.P p o }
/-- a new object is laid, pending -/
theorem Rel.allocP {p : Addr} {o : HO} (R : Rel K C G ρ σ H) (hp : H p = none) : Rel K (pen C p o) G ρ σ (upd H p o) := by
  have gp : G p = none := by
    cases q : G p with
    | none => rfl
    | some u => rw [R.gh _ _ q] at hp; cases hp
  have pv : C.vol ≠ some p := fun e => by obtain ⟨u, hu⟩ := R.volh p e; rw [hu] at hp; cases hp
  have bp : C.B p = none := by
    cases q : C.B p with
    | none => rfl
    | some u => rw [R.base _ _ q pv] at hp; cases hp
  have hne : ∀ {b u}, H b = some u → b ≠ p := fun {b u} e q => by rw [q, hp] at e; cases e
  refine ⟨R.len, fun b u e => ?_, fun b u e v => ?_, fun b e => ?_, R.fz, fun b u e => ?_, fun i s e => ?_, R.apart⟩
  · have q := R.gh b u e; rw [upd_ne (hne q)]; exact q
  · have q := R.base b u e v; rw [upd_ne (hne q)]; exact q
  · obtain ⟨u, q⟩ := R.volh b e; exact ⟨u, by rw [upd_ne (hne q)]; exact q⟩
  · by_cases h : b = p
    · subst h
      have e' : upd C.P b o b = some u := e
      rw [upd_same] at e'; cases e'
      exact ⟨upd_same, gp, bp, pv⟩
    · have e' : upd C.P p o b = some u := e
      rw [upd_ne h] at e'
      obtain ⟨h1, h2⟩ := R.pend b u e'
      exact ⟨by rw [upd_ne h]; exact h1, h2⟩
  · obtain ⟨y, hy, ok⟩ := R.slot i s e
    refine ⟨y, hy, ok.keep rfl rfl (fun _ _ z => z) (fun a ea ow => ?_) (fun a u ea ow hu => ?_)⟩
    · obtain ⟨a', u, e', h0, hq, hu⟩ := ok.addr ow
      rw [ea] at e'; cases e'
      exact ⟨h0, by show upd C.P p o a = none; rw [upd_ne (hne hu)]; exact hq⟩
    · rw [upd_ne (hne hu)]; exact hu
/-- a pending object is written -/
theorem Rel.writeP {p : Addr} {o o' : HO} (R : Rel K (pen C p o) G ρ σ H) (cp : C.P p = none) : Rel K (pen C p o') G ρ σ (upd H p o') := by
  obtain ⟨hp, gp, bp, pv⟩ := R.pend p o upd_same
  have ow_ne : ∀ {i : Nat} {s : Sl} {y : V} {a : Addr}, SlOk K (pen C p o) G H y s → Own s → y = .ref a → a ≠ p := fun {i s y a} ok ow e q => by
    obtain ⟨a', u, e', h0, hq, hu⟩ := ok.addr ow
    rw [e] at e'; cases e'
    have hq' : upd C.P p o a = none := hq
    rw [q, upd_same] at hq'; cases hq'
  refine ⟨R.len, fun b u e => ?_, fun b u e v => ?_, fun b e => ?_, R.fz, fun b u e => ?_, fun i s e => ?_, R.apart⟩
  · rw [upd_ne (ne_of_none e gp)]; exact R.gh b u e
  · rw [upd_ne (ne_of_none e bp)]; exact R.base b u e v
  · obtain ⟨u, q⟩ := R.volh b e
    exact ⟨u, by rw [upd_ne (fun z => pv (by rw [← z]; exact e))]; exact q⟩
  · by_cases h : b = p
    · subst h
      have e' : upd C.P b o' b = some u := e
      rw [upd_same] at e'; cases e'
      exact ⟨upd_same, gp, bp, pv⟩
    · have e' : upd C.P p o' b = some u := e
      rw [upd_ne h] at e'
      obtain ⟨h1, h2⟩ := R.pend b u (by show upd C.P p o b = some u; rw [upd_ne h]; exact e')
      exact ⟨by rw [upd_ne h]; exact h1, h2⟩
  · obtain ⟨y, hy, ok⟩ := R.slot i s e
    refine ⟨y, hy, ok.keep rfl rfl (fun _ _ z => z) (fun a ea ow => ?_) (fun a u ea ow hu => ?_)⟩
    · obtain ⟨a', u, e', h0, hq, hu⟩ := ok.addr ow
      rw [ea] at e'; cases e'
      have := ow_ne (i := i) ok ow ea
      exact ⟨h0, by show upd C.P p o' a = none; rw [upd_ne this]; have hq' : upd C.P p o a = none := hq; rw [upd_ne this] at hq'; exact hq'⟩
    · rw [upd_ne (ow_ne (i := i) ok ow ea)]; exact hu
/-- a pending object is frozen -/
theorem Rel.freezeP {p : Addr} {o : HO} (R : Rel K (pen C p o) G ρ σ H) (cp : C.P p = none) : Rel K C (upd G p o) ρ σ H ∧ Same G (upd G p o) := by
  obtain ⟨hp, gp, bp, pv⟩ := R.pend p o upd_same
  refine ⟨⟨R.len, fun b u e => ?_, R.base, R.volh, fun b u e => ?_, fun b u e => ?_, fun i s e => ?_, R.apart⟩, same_upd gp⟩
  · by_cases h : b = p
    · subst h; rw [upd_same] at e; rw [hp]; exact e
    · rw [upd_ne h] at e; exact R.gh _ _ e
  · by_cases h : b = p
    · subst h; exact .inr bp
    · rw [upd_ne h] at e; exact R.fz _ _ e
  · have hb : b ≠ p := ne_of_none e cp
    obtain ⟨h1, h2, h3⟩ := R.pend b u (by show upd C.P p o b = some u; rw [upd_ne hb]; exact e)
    exact ⟨h1, by rw [upd_ne hb]; exact h2, h3⟩
  · obtain ⟨y, hy, ok⟩ := R.slot i s e
    refine ⟨y, hy, ok.keep rfl rfl (same_upd gp) (fun a ea ow => ?_) (fun a u ea ow hu => hu)⟩
    obtain ⟨a', u, e', h0, hq, hu⟩ := ok.addr ow
    rw [ea] at e'; cases e'
    have hq' : upd C.P p o a = none := hq
    have hne : a ≠ p := fun z => by rw [z, upd_same] at hq'; cases hq'
    rw [upd_ne hne] at hq'
    exact ⟨by rw [upd_ne hne]; exact h0, hq'⟩
/-- a pending object becomes a slot's -/
def ownOf : HO → Sl → Prop := fun o s => True
theorem getElem?_set_cases {α : Type} {l : List α} {i j : Nat} {x y : α} (h : (l.set i x)[j]? = some y) : (j = i ∧ y = x ∧ i < l.length) ∨ (j ≠ i ∧ l[j]? = some y) := by
  by_cases e : j = i
  · subst e
    by_cases hl : j < l.length
    · rw [List.getElem?_set_self hl] at h; cases h; exact .inl ⟨rfl, rfl, hl⟩
    · rw [List.getElem?_eq_none (by simpa using hl)] at h; cases h
  · rw [List.getElem?_set_ne (Ne.symm e)] at h; exact .inr ⟨e, h⟩
/-- a value of frozen data is stored -/
theorem Rel.setV {i : Nat} (R : Rel K C G ρ σ H) (h : Rp K G x d) : Rel K C G (ρ.set i (some (.v d))) (σ.set i (some x)) H := by
  refine ⟨by simp [R.len], R.gh, R.base, R.volh, R.fz, R.pend, fun j s e => ?_, fun j k sj sk y ne e1 e2 o1 o2 f1 f2 => ?_⟩
  · rcases getElem?_set_cases e with ⟨rfl, e', hl⟩ | ⟨hj, e'⟩
    · cases e'
      exact ⟨x, by rw [List.getElem?_set_self (by rw [R.len]; exact hl)], h⟩
    · obtain ⟨y, hy, ok⟩ := R.slot j s e'
      exact ⟨y, by rw [List.getElem?_set_ne (Ne.symm hj)]; exact hy, ok⟩
  · rcases getElem?_set_cases e1 with ⟨rfl, e', hl⟩ | ⟨hj, e1'⟩
    · cases e'; exact o1.elim
    · rcases getElem?_set_cases e2 with ⟨rfl, e', hl⟩ | ⟨hk, e2'⟩
      · cases e'; exact o2.elim
      · rw [List.getElem?_set_ne (Ne.symm hj)] at f1
        rw [List.getElem?_set_ne (Ne.symm hk)] at f2
        exact R.apart j k sj sk y ne e1' e2' o1 o2 f1 f2
/-- a slot is forgotten -/
theorem Rel.drop {i : Nat} (R : Rel K C G ρ σ H) : Rel K C G (ρ.set i none) σ H := by
  refine ⟨by simp [R.len], R.gh, R.base, R.volh, R.fz, R.pend, fun j s e => ?_, fun j k sj sk y ne e1 e2 o1 o2 f1 f2 => ?_⟩
  · rcases getElem?_set_cases e with ⟨rfl, e', hl⟩ | ⟨hj, e'⟩
    · cases e'
    · exact R.slot j s e'
  · rcases getElem?_set_cases e1 with ⟨rfl, e', hl⟩ | ⟨hj, e1'⟩
    · cases e'
    · rcases getElem?_set_cases e2 with ⟨rfl, e', hl⟩ | ⟨hk, e2'⟩
      · cases e'
      · exact R.apart j k sj sk y ne e1' e2' o1 o2 f1 f2
theorem Rel.wipe (R : Rel K C G ρ σ H) : Rel K C G ρ σ H := R
/-- an own slot's object changes: a list -/
theorem Rel.setL {i : Nat} {ds es : List D} {a : Addr} {ys : List V} (R : Rel K C G ρ σ H) (hi : ρ[i]? = some (some (.L ds))) (hx : σ[i]? = some (some (.ref a))) (h : RpL K G ys es) :
    Rel K C G (ρ.set i (some (.L es))) σ (upd H a (.lst ys)) := by
  obtain ⟨x', hx', ok⟩ := R.slot i _ hi
  rw [hx] at hx'; cases hx'
  obtain ⟨a', xs, e, g0, b0, v0, p0, h0, _⟩ := ok
  cases e
  have hne : ∀ {b u}, G b = some u → b ≠ a := fun {b u} e z => by rw [z, g0] at e; cases e
  refine ⟨by simp [R.len], fun b u e => ?_, fun b u e v => ?_, fun b e => ?_, R.fz, fun b u e => ?_, fun j s e => ?_, fun j k sj sk y ne e1 e2 o1 o2 f1 f2 => ?_⟩
  · rw [upd_ne (hne e)]; exact R.gh b u e
  · rw [upd_ne (ne_of_none e b0)]; exact R.base b u e v
  · obtain ⟨u, q⟩ := R.volh b e
    exact ⟨u, by rw [upd_ne (fun z => v0 (by rw [← z]; exact e))]; exact q⟩
  · obtain ⟨h1, h2⟩ := R.pend b u e
    exact ⟨by rw [upd_ne (ne_of_none e p0)]; exact h1, h2⟩
  · rcases getElem?_set_cases e with ⟨rfl, e', hl⟩ | ⟨hj, e'⟩
    · cases e'
      exact ⟨_, hx, a, ys, rfl, g0, b0, v0, p0, upd_same, h⟩
    · obtain ⟨y, hy, ok⟩ := R.slot j s e'
      refine ⟨y, hy, ok.keep rfl rfl (fun _ _ z => z) (fun b eb ow => ?_) (fun b u eb ow hu => ?_)⟩
      · obtain ⟨b', u, q, q0, qp, qu⟩ := ok.addr ow
        rw [eb] at q; cases q; exact ⟨q0, qp⟩
      · rw [upd_ne]
        · exact hu
        · rintro rfl
          subst eb
          exact R.apart i j _ _ _ (Ne.symm hj) hi e' trivial ow hx hy
  · have hi' : ∀ {m : Nat} {sm : Sl}, (ρ.set i (some (.L es)))[m]? = some (some sm) → Own sm → ∃ sm', ρ[m]? = some (some sm') ∧ Own sm' := fun {m sm} e o => by
      rcases getElem?_set_cases e with ⟨rfl, e', hl⟩ | ⟨hm, e'⟩
      · exact ⟨_, hi, trivial⟩
      · exact ⟨_, e', o⟩
    obtain ⟨s1, q1, o1'⟩ := hi' e1 o1
    obtain ⟨s2, q2, o2'⟩ := hi' e2 o2
    exact R.apart j k s1 s2 y ne q1 q2 o1' o2' f1 f2
/-- .. a dict -/
theorem Rel.setM {i : Nat} {ds es : List (Key × D)} {a : Addr} {ys : List (Key × V)} (R : Rel K C G ρ σ H) (hi : ρ[i]? = some (some (.M ds))) (hx : σ[i]? = some (some (.ref a))) (h : RpM K G ys es) :
    Rel K C G (ρ.set i (some (.M es))) σ (upd H a (.dK ys)) := by
  obtain ⟨x', hx', ok⟩ := R.slot i _ hi
  rw [hx] at hx'; cases hx'
  obtain ⟨a', xs, e, g0, b0, v0, p0, h0, _⟩ := ok
  cases e
  have hne : ∀ {b u}, G b = some u → b ≠ a := fun {b u} e z => by rw [z, g0] at e; cases e
  refine ⟨by simp [R.len], fun b u e => ?_, fun b u e v => ?_, fun b e => ?_, R.fz, fun b u e => ?_, fun j s e => ?_, fun j k sj sk y ne e1 e2 o1 o2 f1 f2 => ?_⟩
  · rw [upd_ne (hne e)]; exact R.gh b u e
  · rw [upd_ne (ne_of_none e b0)]; exact R.base b u e v
  · obtain ⟨u, q⟩ := R.volh b e
    exact ⟨u, by rw [upd_ne (fun z => v0 (by rw [← z]; exact e))]; exact q⟩
  · obtain ⟨h1, h2⟩ := R.pend b u e
    exact ⟨by rw [upd_ne (ne_of_none e p0)]; exact h1, h2⟩
  · rcases getElem?_set_cases e with ⟨rfl, e', hl⟩ | ⟨hj, e'⟩
    · cases e'
      exact ⟨_, hx, a, ys, rfl, g0, b0, v0, p0, upd_same, h⟩
    · obtain ⟨y, hy, ok⟩ := R.slot j s e'
      refine ⟨y, hy, ok.keep rfl rfl (fun _ _ z => z) (fun b eb ow => ?_) (fun b u eb ow hu => ?_)⟩
      · obtain ⟨b', u, q, q0, qp, qu⟩ := ok.addr ow
        rw [eb] at q; cases q; exact ⟨q0, qp⟩
      · rw [upd_ne]
        · exact hu
        · rintro rfl
          subst eb
          exact R.apart i j _ _ _ (Ne.symm hj) hi e' trivial ow hx hy
  · have hi' : ∀ {m : Nat} {sm : Sl}, (ρ.set i (some (.M es)))[m]? = some (some sm) → Own sm → ∃ sm', ρ[m]? = some (some sm') ∧ Own sm' := fun {m sm} e o => by
      rcases getElem?_set_cases e with ⟨rfl, e', hl⟩ | ⟨hm, e'⟩
      · exact ⟨_, hi, trivial⟩
      · exact ⟨_, e', o⟩
    obtain ⟨s1, q1, o1'⟩ := hi' e1 o1
    obtain ⟨s2, q2, o2'⟩ := hi' e2 o2
    exact R.apart j k s1 s2 y ne q1 q2 o1' o2' f1 f2
end
end Fd

namespace Fd
open PySem PySem.Spec PyProof.Rows L2
section
variable {K : PySem.W.Frag} {C : Cfg} {G G' H H' : Hp} {ρ ρ' : Env} {σ σ' : L2.St} {x : V} {d : D} {r : Rf}
/-- a pending object becomes a slot's own list -/
theorem Rel.ownL {i : Nat} {p : Addr} {xs : List V} {ds : List D} (R : Rel K (pen C p (.lst xs)) G ρ σ H) (cp : C.P p = none) (h : RpL K G xs ds) :
    Rel K C G (ρ.set i (some (.L ds))) (σ.set i (some (.ref p))) H := by
  obtain ⟨hp, gp, bp, pv⟩ := R.pend p _ upd_same
  have nown : ∀ {j : Nat} {s : Sl} {y : V}, ρ[j]? = some (some s) → Own s → σ[j]? = some (some y) → y ≠ .ref p := fun {j s y} e o f z => by
    obtain ⟨y', hy, ok⟩ := R.slot j s e
    rw [f] at hy; cases hy
    obtain ⟨a', u, e', h0, hq, hu⟩ := ok.addr o
    rw [z] at e'; cases e'
    have hq' : upd C.P p (.lst xs) p = none := hq
    rw [upd_same] at hq'; cases hq'
  refine ⟨by simp [R.len], R.gh, R.base, R.volh, R.fz, fun b u e => ?_, fun j s e => ?_, fun j k sj sk y ne e1 e2 o1 o2 f1 f2 => ?_⟩
  · have hb : b ≠ p := ne_of_none e cp
    exact R.pend b u (by show upd C.P p _ b = some u; rw [upd_ne hb]; exact e)
  · rcases getElem?_set_cases e with ⟨rfl, e', hl⟩ | ⟨hj, e'⟩
    · cases e'
      exact ⟨.ref p, by rw [List.getElem?_set_self (by rw [R.len]; exact hl)], p, xs, rfl, gp, bp, pv, cp, hp, h⟩
    · obtain ⟨y, hy, ok⟩ := R.slot j s e'
      refine ⟨y, by rw [List.getElem?_set_ne (Ne.symm hj)]; exact hy, ok.keep rfl rfl (fun _ _ z => z) (fun a ea ow => ?_) (fun a u ea ow hu => hu)⟩
      obtain ⟨a', u, e'', h0, hq, hu⟩ := ok.addr ow
      rw [ea] at e''; cases e''
      have hq' : upd C.P p (.lst xs) a = none := hq
      have hne : a ≠ p := fun z => by rw [z, upd_same] at hq'; cases hq'
      rw [upd_ne hne] at hq'
      exact ⟨h0, hq'⟩
  · rcases getElem?_set_cases e1 with ⟨rfl, e', hl⟩ | ⟨hj, e1'⟩
    · rw [List.getElem?_set_self (by rw [R.len]; exact hl)] at f1
      cases f1
      rcases getElem?_set_cases e2 with ⟨rfl, e', hl⟩ | ⟨hk, e2'⟩
      · exact ne rfl
      · rw [List.getElem?_set_ne (Ne.symm hk)] at f2
        exact nown e2' o2 f2 rfl
    · rw [List.getElem?_set_ne (Ne.symm hj)] at f1
      rcases getElem?_set_cases e2 with ⟨rfl, e', hl⟩ | ⟨hk, e2'⟩
      · rw [List.getElem?_set_self (by rw [R.len]; exact hl)] at f2
        cases f2
        exact nown e1' o1 f1 rfl
      · rw [List.getElem?_set_ne (Ne.symm hk)] at f2
        exact R.apart j k sj sk y ne e1' e2' o1 o2 f1 f2
/-- .. own dict -/
theorem Rel.ownM {i : Nat} {p : Addr} {xs : List (Key × V)} {ds : List (Key × D)} (R : Rel K (pen C p (.dK xs)) G ρ σ H) (cp : C.P p = none) (h : RpM K G xs ds) :
    Rel K C G (ρ.set i (some (.M ds))) (σ.set i (some (.ref p))) H := by
  obtain ⟨hp, gp, bp, pv⟩ := R.pend p _ upd_same
  have nown : ∀ {j : Nat} {s : Sl} {y : V}, ρ[j]? = some (some s) → Own s → σ[j]? = some (some y) → y ≠ .ref p := fun {j s y} e o f z => by
    obtain ⟨y', hy, ok⟩ := R.slot j s e
    rw [f] at hy; cases hy
    obtain ⟨a', u, e', h0, hq, hu⟩ := ok.addr o
    rw [z] at e'; cases e'
    have hq' : upd C.P p (.dK xs) p = none := hq
    rw [upd_same] at hq'; cases hq'
  refine ⟨by simp [R.len], R.gh, R.base, R.volh, R.fz, fun b u e => ?_, fun j s e => ?_, fun j k sj sk y ne e1 e2 o1 o2 f1 f2 => ?_⟩
  · have hb : b ≠ p := ne_of_none e cp
    exact R.pend b u (by show upd C.P p _ b = some u; rw [upd_ne hb]; exact e)
  · rcases getElem?_set_cases e with ⟨rfl, e', hl⟩ | ⟨hj, e'⟩
    · cases e'
      exact ⟨.ref p, by rw [List.getElem?_set_self (by rw [R.len]; exact hl)], p, xs, rfl, gp, bp, pv, cp, hp, h⟩
    · obtain ⟨y, hy, ok⟩ := R.slot j s e'
      refine ⟨y, by rw [List.getElem?_set_ne (Ne.symm hj)]; exact hy, ok.keep rfl rfl (fun _ _ z => z) (fun a ea ow => ?_) (fun a u ea ow hu => hu)⟩
      obtain ⟨a', u, e'', h0, hq, hu⟩ := ok.addr ow
      rw [ea] at e''; cases e''
      have hq' : upd C.P p (.dK xs) a = none := hq
      have hne : a ≠ p := fun z => by rw [z, upd_same] at hq'; cases hq'
      rw [upd_ne hne] at hq'
      exact ⟨h0, hq'⟩
  · rcases getElem?_set_cases e1 with ⟨rfl, e', hl⟩ | ⟨hj, e1'⟩
    · rw [List.getElem?_set_self (by rw [R.len]; exact hl)] at f1
      cases f1
      rcases getElem?_set_cases e2 with ⟨rfl, e', hl⟩ | ⟨hk, e2'⟩
      · exact ne rfl
      · rw [List.getElem?_set_ne (Ne.symm hk)] at f2
        exact nown e2' o2 f2 rfl
    · rw [List.getElem?_set_ne (Ne.symm hj)] at f1
      rcases getElem?_set_cases e2 with ⟨rfl, e', hl⟩ | ⟨hk, e2'⟩
      · rw [List.getElem?_set_self (by rw [R.len]; exact hl)] at f2
        cases f2
        exact nown e1' o1 f1 rfl
      · rw [List.getElem?_set_ne (Ne.symm hk)] at f2
        exact R.apart j k sj sk y ne e1' e2' o1 o2 f1 f2
/-- an own slot is frozen: its object a, its content d -/
theorem Rel.freeze {i : Nat} {s : Sl} {a : Addr} {o : HO} (R : Rel K C G ρ σ H) (hi : ρ[i]? = some (some s)) (hx : σ[i]? = some (some (.ref a))) (ow : Own s) (g0 : G a = none) (b0 : C.B a = none) (p0 : C.P a = none) (h0 : H a = some o)
    (hr : Rp K (upd G a o) (.ref a) d) : Rel K C (upd G a o) (ρ.set i (some (.v d))) σ H := by
  refine ⟨by simp [R.len], fun b u e => ?_, R.base, R.volh, fun b u e => ?_, fun b u e => ?_, fun j t e => ?_, fun j k sj sk y ne e1 e2 o1 o2 f1 f2 => ?_⟩
  · by_cases h : b = a
    · subst h; rw [upd_same] at e; cases e; exact h0
    · rw [upd_ne h] at e; exact R.gh _ _ e
  · by_cases h : b = a
    · subst h; exact .inr b0
    · rw [upd_ne h] at e; exact R.fz _ _ e
  · obtain ⟨h1, h2, h3⟩ := R.pend b u e
    exact ⟨h1, by rw [upd_ne (ne_of_none e p0)]; exact h2, h3⟩
  · rcases getElem?_set_cases e with ⟨rfl, e', hl⟩ | ⟨hj, e'⟩
    · cases e'; exact ⟨_, hx, hr⟩
    · obtain ⟨y, hy, ok⟩ := R.slot j t e'
      refine ⟨y, hy, ok.keep rfl rfl (same_upd g0) (fun b eb ob => ?_) (fun b u eb ob hu => hu)⟩
      obtain ⟨a', u, e'', q0, qp, hu⟩ := ok.addr ob
      rw [eb] at e''; cases e''
      refine ⟨?_, qp⟩
      rw [upd_ne]
      · exact q0
      · rintro rfl
        subst eb
        exact R.apart i j _ _ _ (Ne.symm hj) hi e' ow ob hx hy
  · rcases getElem?_set_cases e1 with ⟨rfl, e', hl⟩ | ⟨hj, e1'⟩
    · cases e'; exact o1.elim
    · rcases getElem?_set_cases e2 with ⟨rfl, e', hl⟩ | ⟨hk, e2'⟩
      · cases e'; exact o2.elim
      · exact R.apart j k sj sk y ne e1' e2' o1 o2 f1 f2
theorem Rel.fr (R : Rel K C G ρ σ H) (h : RV K G σ x r) (e : fr ρ r = some (d, ρ')) : ∃ G', Same G G' ∧ Rel K C G' ρ' σ H ∧ Rp K G' x d := by
  cases r with
  | d y => cases e; exact ⟨G, Same.refl G, R, h⟩
  | s i =>
    unfold Fd.fr at e
    dsimp only at e
    cases hq : ρ[i]? with
    | none => rw [hq] at e; cases e
    | some o =>
      cases o with
      | none => rw [hq] at e; cases e
      | some s =>
        rw [hq] at e
        obtain ⟨y, hy, ok⟩ := R.slot i s hq
        have : some (some x) = some (some y) := (show σ[i]? = some (some x) from h).symm.trans hy
        cases this
        cases s with
        | v y => cases e; exact ⟨G, Same.refl G, R, ok⟩
        | L ds =>
          cases e
          obtain ⟨a, xs, rfl, g0, b0, v0, p0, h0, hr⟩ := ok
          have sm : Same G (upd G a (.lst xs)) := same_upd g0
          have rp : Rp K (upd G a (.lst xs)) (.ref a) (.lst ds) := .lst upd_same (hr.mono sm)
          exact ⟨_, sm, R.freeze hq hy trivial g0 b0 p0 h0 rp, rp⟩
        | M ds =>
          cases e
          obtain ⟨a, xs, rfl, g0, b0, v0, p0, h0, hr⟩ := ok
          have sm : Same G (upd G a (.dK xs)) := same_upd g0
          have rp : Rp K (upd G a (.dK xs)) (.ref a) (.dct ds) := .dct (.inl upd_same) (hr.mono sm)
          exact ⟨_, sm, R.freeze hq hy trivial g0 b0 p0 h0 rp, rp⟩
        | U ds => cases e
        | W s n => cases e

/-! ### lists of results -/
inductive RVL (K : PySem.W.Frag) (G : Hp) (σ : L2.St) : List V → List Rf → Prop
  | nil : RVL K G σ [] []
  | cons {x : V} {xs : List V} {r : Rf} {rs : List Rf} : RV K G σ x r → RVL K G σ xs rs → RVL K G σ (x :: xs) (r :: rs)
inductive RoL (K : PySem.W.Frag) (G H : Hp) : List V → List D → Prop
  | nil : RoL K G H [] []
  | cons {x : V} {xs : List V} {d : D} {ds : List D} : Ro K G H x d → RoL K G H xs ds → RoL K G H (x :: xs) (d :: ds)
def rds (ρ : Env) : List Rf → Option (List D)
  | [] => some []
  | r :: rs => (rd ρ r).bind fun d => (rds ρ rs).bind fun ds => some (d :: ds)
def frs (ρ : Env) : List Rf → Option (List D × Env)
  | [] => some ([], ρ)
  | r :: rs => (fr ρ r).bind fun p => (frs p.2 rs).bind fun q => some (p.1 :: q.1, q.2)
theorem RVL.mono : ∀ {xs : List V} {rs : List Rf}, RVL K G σ xs rs → Same G G' → RVL K G' σ xs rs
  | _, _, .nil, _ => .nil
  | _, _, .cons a b, h => .cons (a.mono h) (RVL.mono b h)
theorem Rel.rds (R : Rel K C G ρ σ H) : ∀ {xs : List V} {rs : List Rf} {ds : List D}, RVL K G σ xs rs → rds ρ rs = some ds → RoL K G H xs ds
  | _, _, _, .nil, e => by cases e; exact .nil
  | _, _, _, .cons a b, e => by
    unfold Fd.rds at e
    obtain ⟨d, e1, e⟩ := Option.bind_eq_some_iff.mp e
    obtain ⟨ds, e2, e⟩ := Option.bind_eq_some_iff.mp e
    cases e
    exact .cons (R.rd a e1) (Rel.rds R b e2)
theorem Rel.frs : ∀ {xs : List V} {rs : List Rf} {ds : List D} {G : Hp} {ρ ρ' : Env}, Rel K C G ρ σ H → RVL K G σ xs rs → frs ρ rs = some (ds, ρ') → ∃ G', Same G G' ∧ Rel K C G' ρ' σ H ∧ RpL K G' xs ds
  | _, _, _, G, _, _, R, .nil, e => by cases e; exact ⟨G, Same.refl G, R, .nil⟩
  | _, _, _, G, _, _, R, .cons a b, e => by
    unfold Fd.frs at e
    obtain ⟨⟨d, ρ1⟩, e1, e⟩ := Option.bind_eq_some_iff.mp e
    obtain ⟨⟨ds, ρ2⟩, e2, e⟩ := Option.bind_eq_some_iff.mp e
    cases e
    obtain ⟨G1, s1, R1, h1⟩ := R.fr a e1
    obtain ⟨G2, s2, R2, h2⟩ := Rel.frs R1 (b.mono s1) e2
    exact ⟨G2, s1.trans s2, R2, .cons (h1.mono s2) h2⟩
theorem RoL.of : ∀ {xs : List V} {ds : List D}, RpL K G xs ds → RoL K G H xs ds
  | _, _, .nil => .nil
  | _, _, .cons a b => .cons (.inl a) (RoL.of b)
end
end Fd

set_option Elab.async false
set_option linter.all false
set_option maxRecDepth 100000
/-! Fd2: the judgements over pure data, the rules for expressions, statements, calls. -/
namespace Fd
open PySem PySem.Spec PyProof.Rows L2

abbrev E := Env → Option (Rf × Env)
abbrev EA := Env → Option (List Rf × Env)
abbrev ET := Env → Option (Bool × Env)
/-- a new list or dict -/
inductive Ct where
  | L (ds : List D) | M (kvs : List (Key × D))
def Ct.d : Ct → D
  | .L ds => .lst ds
  | .M ds => .dct ds
def Ct.sl : Ct → Sl
  | .L ds => .L ds
  | .M ds => .M ds
abbrev EF := Env → Option (Ct × Env)
inductive Fl where
  | nx | rt (d : D) | bk | ct
abbrev S := Env → Option (Fl × Env)
def CtOk (K : PySem.W.Frag) (G : Hp) : HO → Ct → Prop
  | .lst xs, .L ds => RpL K G xs ds
  | .dK xs, .M ds => RpM K G xs ds
  | _, _ => False

def SndE (K : PySem.W.Frag) (t : TE) (f : E) : Prop := ∀ C G ρ σ H r ρ', Rel K C G ρ σ H → f ρ = some (r, ρ') →
  ∀ Q : VK, (∀ v G' H', Same G G' → Rel K C G' ρ' σ H' → RV K G' σ v r → Q v H') → t σ H Q
def SndA (K : PySem.W.Frag) (t : TA) (f : EA) : Prop := ∀ C G ρ σ H rs ρ', Rel K C G ρ σ H → f ρ = some (rs, ρ') →
  ∀ Q : List V → Hp → Prop, (∀ vs G' H', Same G G' → Rel K C G' ρ' σ H' → RVL K G' σ vs rs → Q vs H') → t σ H Q
def SndT (K : PySem.W.Frag) (t : TT) (f : ET) : Prop := ∀ C G ρ σ H b ρ', Rel K C G ρ σ H → f ρ = some (b, ρ') →
  ∀ Q : Bool → Hp → Prop, (∀ G' H', Same G G' → Rel K C G' ρ' σ H' → Q b H') → t σ H Q
def SndF (K : PySem.W.Frag) (t : TE) (f : EF) : Prop := ∀ C G ρ σ H c ρ', Rel K C G ρ σ H → f ρ = some (c, ρ') →
  ∀ Q : VK, (∀ p o G' H', Same G G' → C.P p = none → Rel K (pen C p o) G' ρ' σ H' → CtOk K G' o c → Q (.ref p) H') → t σ H Q
def Post (K : PySem.W.Frag) (C : Cfg) (G : Hp) (ρ' : Env) (D : Ends) : Fl → Prop
  | .nx => ∀ G' σ' H', Same G G' → Rel K C G' ρ' σ' H' → D.nx σ' H'
  | .bk => ∀ G' σ' H', Same G G' → Rel K C G' ρ' σ' H' → D.bk σ' H'
  | .ct => ∀ G' σ' H', Same G G' → Rel K C G' ρ' σ' H' → D.ct σ' H'
  | .rt d => ∀ v G' σ' H', Same G G' → Rel K C G' ρ' σ' H' → Rp K G' v d → D.rt v H'
def SndS (K : PySem.W.Frag) (t : TS) (f : S) : Prop := ∀ C G ρ σ H fl ρ', Rel K C G ρ σ H → f ρ = some (fl, ρ') → ∀ D : Ends, Post K C G ρ' D fl → t D σ H
/-- by values -/
def SndO (K : PySem.W.Frag) (r : R2) (g : D → D → Option D) : Prop := ∀ C G ρ σ H x y dx dy d, Rel K C G ρ σ H → Ro K G H x dx → Ro K G H y dy → g dx dy = some d →
  ∀ Q : VK, (∀ v G' H', Same G G' → Rel K C G' ρ σ H' → Rp K G' v d → Q v H') → r x y H Q
def SndU (K : PySem.W.Frag) (r : V → Hp → VK → Prop) (g : D → Option D) : Prop := ∀ C G ρ σ H x dx d, Rel K C G ρ σ H → Ro K G H x dx → g dx = some d →
  ∀ Q : VK, (∀ v G' H', Same G G' → Rel K C G' ρ σ H' → Rp K G' v d → Q v H') → r x H Q
def SndC (K : PySem.W.Frag) (r : List V → Hp → VK → Prop) (g : List D → Option D) : Prop := ∀ C G ρ σ H vs ds d, Rel K C G ρ σ H → RoL K G H vs ds → g ds = some d →
  ∀ Q : VK, (∀ v G' H', Same G G' → Rel K C G' ρ σ H' → Rp K G' v d → Q v H') → r vs H Q
def SndG (K : PySem.W.Frag) (g : TG) (f : D → Env → Option Env) (tv : List Nat) : Prop := ∀ C G ρ σ H v d ρ', Rel K C G ρ σ H → Rp K G v d → f d ρ = some ρ' →
  ∀ Q : L2.St → Hp → Prop, (∀ G' σ' H', Same G G' → Rel K C G' ρ' σ' H' → (∀ i, i ∉ tv → σ'[i]? = σ[i]?) → σ'.length = σ.length → Q σ' H') → g v σ H Q
def SndGs (K : PySem.W.Frag) (g : TGs) (f : List D → Env → Option Env) (tv : List Nat) : Prop := ∀ C G ρ σ H vs ds ρ', Rel K C G ρ σ H → RpL K G vs ds → f ds ρ = some ρ' →
  ∀ Q : L2.St → Hp → Prop, (∀ G' σ' H', Same G G' → Rel K C G' ρ' σ' H' → (∀ i, i ∉ tv → σ'[i]? = σ[i]?) → σ'.length = σ.length → Q σ' H') → g vs σ H Q
/-- what a walked thing yields -/
def ItOk (K : PySem.W.Frag) (J : It) (ds : List D) (G : Hp) : Prop := ∀ C G' ρ σ H, Same G G' → Rel K C G' ρ σ H → ∀ i,
  (i < ds.length → J.go i H ∧ ∀ x H', J.yld i H x H' → ∃ G'', Same G' G'' ∧ Rel K C G'' ρ σ H' ∧ ∃ d, ds[i]? = some d ∧ Rp K G'' x d) ∧ (ds.length ≤ i → J.stop i H)
def SndI (K : PySem.W.Frag) (wi : TI) (f : Env → Option (List D × Env)) : Prop := ∀ C G ρ σ H ds ρ', Rel K C G ρ σ H → f ρ = some (ds, ρ') →
  ∀ R : It → Hp → Prop, (∀ J G' H', Same G G' → Rel K C G' ρ' σ H' → ItOk K J ds G' → R J H') → wi σ H R

structure EOk (X : Cx) (e : Expr) (t : TE) (f : E) : Prop where
  pe : PE X e t
  sn : SndE X.K t f
structure FOk (X : Cx) (e : Expr) (t : TE) (f : EF) : Prop where
  pe : PE X e t
  sn : SndF X.K t f
structure TOk (X : Cx) (e : Expr) (t : TT) (f : ET) : Prop where
  pt : PT X e t
  sn : SndT X.K t f
structure WOk (X : Cx) (e : Expr) (t : TT) (f : ET) : Prop where
  pw : PW X e t
  sn : SndT X.K t f
structure AOk (X : Cx) (es : List Expr) (t : TA) (f : EA) : Prop where
  pa : PA X es t
  sn : SndA X.K t f
structure OOk (X : Cx) (f : Value → Value → Sem Value) (r : R2) (g : D → D → Option D) : Prop where
  op : OpR X f r
  sn : SndO X.K r g
structure COk (X : Cx) (v : Value) (r : List V → Hp → VK → Prop) (g : List D → Option D) : Prop where
  cr : CallR X v r
  sn : SndC X.K r g
structure SOk (X : Cx) (s : Stmt) (t : TS) (f : S) : Prop where
  ps : PS X s t
  sn : SndS X.K t f
structure SsOk (X : Cx) (s : List Stmt) (t : TS) (f : S) : Prop where
  ps : PSs X s t
  sn : SndS X.K t f
structure GOk (X : Cx) (e : Expr) (g : TG) (f : D → Env → Option Env) (tv : List Nat) : Prop where
  pg : PG X e g
  sn : SndG X.K g f tv
structure GsOk (X : Cx) (e : List Expr) (g : TGs) (f : List D → Env → Option Env) (tv : List Nat) : Prop where
  pg : PGs X e g
  sn : SndGs X.K g f tv
structure IOk (X : Cx) (tg iter : Expr) (wi : TI) (f : Env → Option (List D × Env)) : Prop where
  pi : PI X tg iter wi
  sn : SndI X.K wi f

/-! ### expressions: names, constants -/
def eVar (i : Nat) : E := fun ρ => match ρ[i]? with
  | some (some (.v d)) => some (.d d, ρ)
  | some (some _) => some (.s i, ρ)
  | _ => none
def eC (d : D) : E := fun ρ => some (.d d, ρ)
section
variable {X : Cx} {pos : Pos}
theorem e_var (i : Nat) {x : Str} (hN : X.N[i]? = some x := by rfl) (hv : Vis X.env.scope x := by first | exact Or.inl rfl | exact Or.inr (Or.inl rfl) | exact Or.inr (Or.inr rfl)) (hd : (x == ("__debug__" : Str)) = false := by decide)
    (hcd : (x == ("__classdict__" : Str)) = false := by decide) : EOk X (.Name x pos) (tVar i) (eVar i) := by
  refine ⟨pe_var hN hv hd hcd, fun C G ρ σ H r ρ' R e Q h => ?_⟩
  unfold eVar at e
  cases hq : ρ[i]? with
  | none => rw [hq] at e; cases e
  | some o =>
    cases o with
    | none => rw [hq] at e; cases e
    | some s =>
      obtain ⟨x, hx, ok⟩ := R.slot i s hq
      refine ⟨x, hx, ?_⟩
      rw [hq] at e
      cases s with
      | v d => cases e; exact h _ G H (Same.refl G) R ok
      | L ds => cases e; exact h _ G H (Same.refl G) R hx
      | M ds => cases e; exact h _ G H (Same.refl G) R hx
      | U ds => cases e; exact h _ G H (Same.refl G) R hx
      | W s n => cases e; exact h _ G H (Same.refl G) R hx
theorem snd_c {K : PySem.W.Frag} {v : V} {d : D} (h : ∀ G, Rp K G v d) : SndE K (tC v) (eC d) := fun C G ρ σ H r ρ' R e Q q => by
  cases e
  exact q _ G H (Same.refl G) R (h G)
theorem e_int {i : Int} {j} : EOk X (.Constant (.int i) j pos) (tC (.int i)) (eC (.int i)) := ⟨pe_int, snd_c fun _ => .int i⟩
theorem e_bl {b : Bool} {j} : EOk X (.Constant (.bool b) j pos) (tC (.bl b)) (eC (.bl b)) := ⟨pe_bl, snd_c fun _ => .bl b⟩
theorem e_non {j} : EOk X (.Constant .none j pos) (tC .non) (eC .non) := ⟨pe_non, snd_c fun _ => .non⟩
theorem e_str {x : Str} {j} : EOk X (.Constant (.str x) j pos) (tC (.str x)) (eC (.str x)) := ⟨pe_str, snd_c fun _ => .str x⟩
end

/-! ### two operands -/
def eOp (g : D → D → Option D) (f1 f2 : E) : E := fun ρ => (f1 ρ).bind fun p => (f2 p.2).bind fun q => (rd q.2 p.1).bind fun d1 => (rd q.2 q.1).bind fun d2 => (g d1 d2).bind fun d => some (.d d, q.2)
def eUn (g : D → Option D) (f1 : E) : E := fun ρ => (f1 ρ).bind fun p => (rd p.2 p.1).bind fun d1 => (g d1).bind fun d => some (.d d, p.2)
section
variable {K : PySem.W.Frag} {C : Cfg} {G H : Hp} {ρ ρ' : Env} {σ : L2.St}
theorem snd_op {r : R2} {g : D → D → Option D} {ta tb : TE} {fa fb : E} (ho : SndO K r g) (ha : SndE K ta fa) (hb : SndE K tb fb) : SndE K (tOp r ta tb) (eOp g fa fb) := fun C G ρ σ H s ρ' R e Q q => by
  unfold eOp at e
  obtain ⟨⟨r1, ρ1⟩, e1, e⟩ := Option.bind_eq_some_iff.mp e
  obtain ⟨⟨r2, ρ2⟩, e2, e⟩ := Option.bind_eq_some_iff.mp e
  obtain ⟨d1, e3, e⟩ := Option.bind_eq_some_iff.mp e
  obtain ⟨d2, e4, e⟩ := Option.bind_eq_some_iff.mp e
  obtain ⟨d, e5, e⟩ := Option.bind_eq_some_iff.mp e
  cases e
  refine ha C G ρ σ H _ _ R e1 _ fun v G1 H1 s1 R1 v1 => ?_
  refine hb C G1 ρ1 σ H1 _ _ R1 e2 _ fun u G2 H2 s2 R2 v2 => ?_
  exact ho C G2 ρ2 σ H2 v u d1 d2 d R2 (R2.rd (v1.mono s2) e3) (R2.rd v2 e4) e5 Q fun z G3 H3 s3 R3 v3 => q z G3 H3 (s1.trans (s2.trans s3)) R3 v3
theorem snd_un {r : V → Hp → VK → Prop} {g : D → Option D} {ta : TE} {fa : E} (ho : SndU K r g) (ha : SndE K ta fa) : SndE K (tUn r ta) (eUn g fa) := fun C G ρ σ H s ρ' R e Q q => by
  unfold eUn at e
  obtain ⟨⟨r1, ρ1⟩, e1, e⟩ := Option.bind_eq_some_iff.mp e
  obtain ⟨d1, e3, e⟩ := Option.bind_eq_some_iff.mp e
  obtain ⟨d, e5, e⟩ := Option.bind_eq_some_iff.mp e
  cases e
  refine ha C G ρ σ H _ _ R e1 _ fun v G1 H1 s1 R1 v1 => ?_
  exact ho C G1 ρ1 σ H1 v d1 d R1 (R1.rd v1 e3) e5 Q fun z G3 H3 s3 R3 v3 => q z G3 H3 (s1.trans s3) R3 v3
end
section
variable {X : Cx} {a b c : Expr} {ta tb tc : TE} {fa fb fc : E} {pos : Pos} {r r' : R2} {g g' : D → D → Option D}
theorem e_op {op : Operator} (ho : OOk X (binaryOp op) r g) (ha : EOk X a ta fa) (hb : EOk X b tb fb) : EOk X (.BinOp a op b pos) (tOp r ta tb) (eOp g fa fb) := ⟨pe_op ho.op ha.pe hb.pe, snd_op ho.sn ha.sn hb.sn⟩
theorem e_un {op : UnaryOp} {r : V → Hp → VK → Prop} {g : D → Option D} (ho : UnR X (unaryOp op) r) (hs : SndU X.K r g) (ha : EOk X a ta fa) : EOk X (.UnaryOp op a pos) (tUn r ta) (eUn g fa) := ⟨pe_un ho ha.pe, snd_un hs ha.sn⟩
theorem e_cmp {op : CmpOp} (ho : OOk X (compareOp op) r g) (ha : EOk X a ta fa) (hb : EOk X b tb fb) (hm : behindInMarks op b = false := by first | exact nomark _ | rfl | with_unfolding_all rfl) : EOk X (.Compare a [op] [b] pos) (tOp r ta tb) (eOp g fa fb) :=
  ⟨pe_cmpR ho.op ha.pe hb.pe hm, snd_op ho.sn ha.sn hb.sn⟩
/-- a value that is a bool, as a test -/
def tB' (f : E) : ET := fun ρ => (f ρ).bind fun p => match p.1 with
  | .d (.bl b) => some (b, p.2)
  | _ => none
theorem snd_tB {K : PySem.W.Frag} {t : TE} {f : E} (h : SndE K t f) {t' : TT} (ht : ∀ σ H Q, t σ H (fun x H1 => ∃ c, x = .bl c ∧ Q c H1) → t' σ H Q) : SndT K t' (tB' f) := fun C G ρ σ H b ρ' R e Q q => by
  unfold tB' at e
  obtain ⟨⟨r1, ρ1⟩, e1, e⟩ := Option.bind_eq_some_iff.mp e
  refine ht _ _ _ (h C G ρ σ H _ _ R e1 _ fun v G1 H1 s1 R1 v1 => ?_)
  cases r1 with
  | s i => cases e
  | d x =>
    cases x with
    | bl c => cases e; cases v1; exact ⟨_, rfl, q G1 H1 s1 R1⟩
    | non => cases e
    | int _ => cases e
    | str _ => cases e
    | tup _ => cases e
    | lst _ => cases e
    | dct _ => cases e
theorem t_val {e : Expr} {t : TE} {f : E} (h : EOk X e t f) (he : ∀ whole, isTrue e X.env whole = (do let v ← whole; standAt e.pos; holding [v] (truthy v)) := by intro _; rfl) : TOk X e (tB t) (tB' f) :=
  ⟨pt_val h.pe he, snd_tB h.sn fun _ _ _ h => h⟩
theorem t_cmp {op : CmpOp} (ho : OOk X (compareOp op) r g) (ha : EOk X a ta fa) (hb : EOk X b tb fb) (hm : behindInMarks op b = false := by first | exact nomark _ | rfl | with_unfolding_all rfl) : TOk X (.Compare a [op] [b] pos) (tTest (tOp r ta tb)) (tB' (eOp g fa fb)) :=
  ⟨pt_cmpR ho.op ha.pe hb.pe hm, snd_tB (snd_op ho.sn ha.sn hb.sn) fun _ _ _ h => h⟩
/-- a op b op c -/
def eChain (g g' : D → D → Option D) (f1 f2 f3 : E) : E := fun ρ => (f1 ρ).bind fun p => (f2 p.2).bind fun q => (rd q.2 p.1).bind fun d1 => (rd q.2 q.1).bind fun d2 => (g d1 d2).bind fun d => match d with
  | .bl true => (f3 q.2).bind fun s => (rd s.2 q.1).bind fun d2' => (rd s.2 s.1).bind fun d3 => (g' d2' d3).bind fun d => some (.d d, s.2)
  | .bl false => some (.d (.bl false), q.2)
  | _ => none
theorem snd_chain {K : PySem.W.Frag} (ho : SndO K r g) (ho' : SndO K r' g') (ha : SndE K ta fa) (hb : SndE K tb fb) (hc : SndE K tc fc) : SndE K (tChain r r' ta tb tc) (eChain g g' fa fb fc) := fun C G ρ σ H s ρ' R e Q q => by
  unfold eChain at e
  obtain ⟨⟨r1, ρ1⟩, e1, e⟩ := Option.bind_eq_some_iff.mp e
  obtain ⟨⟨r2, ρ2⟩, e2, e⟩ := Option.bind_eq_some_iff.mp e
  obtain ⟨d1, e3, e⟩ := Option.bind_eq_some_iff.mp e
  obtain ⟨d2, e4, e⟩ := Option.bind_eq_some_iff.mp e
  obtain ⟨d, e5, e⟩ := Option.bind_eq_some_iff.mp e
  refine ha C G ρ σ H _ _ R e1 _ fun v G1 H1 s1 R1 v1 => ?_
  refine hb C G1 ρ1 σ H1 _ _ R1 e2 _ fun u G2 H2 s2 R2 v2 => ?_
  refine ho C G2 ρ2 σ H2 v u d1 d2 d R2 (R2.rd (v1.mono s2) e3) (R2.rd v2 e4) e5 _ fun z G3 H3 s3 R3 v3 => ?_
  cases d with
  | bl k =>
    cases v3
    refine ⟨k, rfl, ?_⟩
    cases k with
    | true =>
      rw [if_pos rfl]
      obtain ⟨⟨r3, ρ3⟩, e6, e⟩ := Option.bind_eq_some_iff.mp e
      obtain ⟨d2', e7, e⟩ := Option.bind_eq_some_iff.mp e
      obtain ⟨d3, e8, e⟩ := Option.bind_eq_some_iff.mp e
      obtain ⟨d', e9, e⟩ := Option.bind_eq_some_iff.mp e
      cases e
      refine hc C G3 ρ2 σ H3 _ _ R3 e6 _ fun w' G4 H4 s4 R4 v4 => ?_
      exact ho' C G4 ρ3 σ H4 u w' d2' d3 d' R4 (R4.rd (v2.mono (s3.trans s4)) e7) (R4.rd v4 e8) e9 Q fun z G5 H5 s5 R5 v5 => q z G5 H5 (s1.trans (s2.trans (s3.trans (s4.trans s5)))) R5 v5
    | false =>
      rw [if_neg Bool.false_ne_true]
      cases e
      exact q _ G3 H3 (s1.trans (s2.trans s3)) R3 (.bl false)
  | non => cases e
  | int _ => cases e
  | str _ => cases e
  | tup _ => cases e
  | lst _ => cases e
  | dct _ => cases e
theorem e_chain {op op' : CmpOp} (ho : OOk X (compareOp op) r g) (ho' : OOk X (compareOp op') r' g') (ha : EOk X a ta fa) (hb : EOk X b tb fb) (hc : EOk X c tc fc)
    (hm : lastMarks [op, op'] [b, c] = false := by with_unfolding_all rfl) : EOk X (.Compare a [op, op'] [b, c] pos) (tChain r r' ta tb tc) (eChain g g' fa fb fc) :=
  ⟨pe_chain ho.op ho'.op ha.pe hb.pe hc.pe hm, snd_chain ho.sn ho'.sn ha.sn hb.sn hc.sn⟩
theorem t_chain {op op' : CmpOp} (ho : OOk X (compareOp op) r g) (ho' : OOk X (compareOp op') r' g') (ha : EOk X a ta fa) (hb : EOk X b tb fb) (hc : EOk X c tc fc)
    (hm : lastMarks [op, op'] [b, c] = false := by with_unfolding_all rfl) : TOk X (.Compare a [op, op'] [b, c] pos) (tTest (tChain r r' ta tb tc)) (tB' (eChain g g' fa fb fc)) :=
  ⟨pt_chain ho.op ho'.op ha.pe hb.pe hc.pe hm, snd_tB (snd_chain ho.sn ho'.sn ha.sn hb.sn hc.sn) fun _ _ _ h => h⟩

/-! ### and, or, not, if -/
variable {tA tA' : TT} {hA hA' : ET} {rest : List Expr}
def tAnd' (f g : ET) : ET := fun ρ => (f ρ).bind fun p => if p.1 = true then g p.2 else some (false, p.2)
def tOr' (f g : ET) : ET := fun ρ => (f ρ).bind fun p => if p.1 = true then some (true, p.2) else g p.2
def tNot' (f : ET) : ET := fun ρ => (f ρ).bind fun p => some (!p.1, p.2)
theorem snd_and {K : PySem.W.Frag} (h1 : SndT K tA hA) (h2 : SndT K tA' hA') : SndT K (tAnd tA tA') (tAnd' hA hA') := fun C G ρ σ H b ρ' R e Q q => by
  unfold tAnd' at e
  obtain ⟨⟨b1, ρ1⟩, e1, e⟩ := Option.bind_eq_some_iff.mp e
  refine h1 C G ρ σ H _ _ R e1 _ fun G1 H1 s1 R1 => ?_
  cases b1 with
  | true => exact h2 C G1 ρ1 σ H1 _ _ R1 e Q fun G2 H2 s2 R2 => q G2 H2 (s1.trans s2) R2
  | false => cases e; exact q G1 H1 s1 R1
theorem snd_or {K : PySem.W.Frag} (h1 : SndT K tA hA) (h2 : SndT K tA' hA') : SndT K (tOr tA tA') (tOr' hA hA') := fun C G ρ σ H b ρ' R e Q q => by
  unfold tOr' at e
  obtain ⟨⟨b1, ρ1⟩, e1, e⟩ := Option.bind_eq_some_iff.mp e
  refine h1 C G ρ σ H _ _ R e1 _ fun G1 H1 s1 R1 => ?_
  cases b1 with
  | true => cases e; exact q G1 H1 s1 R1
  | false => exact h2 C G1 ρ1 σ H1 _ _ R1 e Q fun G2 H2 s2 R2 => q G2 H2 (s1.trans s2) R2
theorem t_not (h : TOk X a tA hA) : TOk X (.UnaryOp .Not a pos) (tNot tA) (tNot' hA) := ⟨pt_not h.pt, fun C G ρ σ H b ρ' R e Q q => by
  unfold tNot' at e
  obtain ⟨⟨b1, ρ1⟩, e1, e⟩ := Option.bind_eq_some_iff.mp e
  cases e
  exact h.sn C G ρ σ H _ _ R e1 _ fun G1 H1 s1 R1 => q G1 H1 s1 R1⟩
theorem w_and1 (h : TOk X a tA hA) : WOk X (.BoolOp .And [a] pos) tA hA := ⟨pw_and1 h.pt, h.sn⟩
theorem w_or1 (h : TOk X a tA hA) : WOk X (.BoolOp .Or [a] pos) tA hA := ⟨pw_or1 h.pt, h.sn⟩
theorem w_and (h : TOk X a tA hA) (h' : WOk X (.BoolOp .And (b :: rest) pos) tA' hA') : WOk X (.BoolOp .And (a :: b :: rest) pos) (tAnd tA tA') (tAnd' hA hA') := ⟨pw_and h.pt h'.pw, snd_and h.sn h'.sn⟩
theorem w_or (h : TOk X a tA hA) (h' : WOk X (.BoolOp .Or (b :: rest) pos) tA' hA') : WOk X (.BoolOp .Or (a :: b :: rest) pos) (tOr tA tA') (tOr' hA hA') := ⟨pw_or h.pt h'.pw, snd_or h.sn h'.sn⟩
theorem WOk.t {e : Expr} (h : WOk X e tA hA) : TOk X e tA hA := ⟨h.pw.pt, h.sn⟩
/-- as values (bools) -/
def eAnd (f g : E) : E := fun ρ => (f ρ).bind fun p => match p.1 with
  | .d (.bl true) => g p.2
  | .d (.bl false) => some (.d (.bl false), p.2)
  | _ => none
def eOr (f g : E) : E := fun ρ => (f ρ).bind fun p => match p.1 with
  | .d (.bl true) => some (.d (.bl true), p.2)
  | .d (.bl false) => g p.2
  | _ => none
def dNot : D → Option D
  | .bl b => some (.bl (!b))
  | _ => none
theorem e_one {op} (h : EOk X a ta fa) : EOk X (.BoolOp op [a] pos) ta fa := ⟨pe_one h.pe, h.sn⟩
theorem e_and (ha : EOk X a ta fa) (hb : EOk X (.BoolOp .And (b :: rest) pos) tb fb) : EOk X (.BoolOp .And (a :: b :: rest) pos) (tAndV ta tb) (eAnd fa fb) := ⟨pe_and ha.pe hb.pe, fun C G ρ σ H r ρ' R e Q q => by
  unfold eAnd at e
  obtain ⟨⟨r1, ρ1⟩, e1, e⟩ := Option.bind_eq_some_iff.mp e
  refine ha.sn C G ρ σ H _ _ R e1 _ fun v G1 H1 s1 R1 v1 => ?_
  cases r1 with
  | s i => cases e
  | d x =>
    cases x with
    | bl k =>
      cases v1
      refine ⟨k, rfl, ?_⟩
      cases k with
      | true => exact hb.sn C G1 ρ1 σ H1 _ _ R1 e Q fun z G2 H2 s2 R2 v2 => q z G2 H2 (s1.trans s2) R2 v2
      | false => cases e; exact q _ G1 H1 s1 R1 (.bl false)
    | non => cases e
    | int _ => cases e
    | str _ => cases e
    | tup _ => cases e
    | lst _ => cases e
    | dct _ => cases e⟩
theorem e_or (ha : EOk X a ta fa) (hb : EOk X (.BoolOp .Or (b :: rest) pos) tb fb) : EOk X (.BoolOp .Or (a :: b :: rest) pos) (tOrV ta tb) (eOr fa fb) := ⟨pe_or ha.pe hb.pe, fun C G ρ σ H r ρ' R e Q q => by
  unfold eOr at e
  obtain ⟨⟨r1, ρ1⟩, e1, e⟩ := Option.bind_eq_some_iff.mp e
  refine ha.sn C G ρ σ H _ _ R e1 _ fun v G1 H1 s1 R1 v1 => ?_
  cases r1 with
  | s i => cases e
  | d x =>
    cases x with
    | bl k =>
      cases v1
      refine ⟨k, rfl, ?_⟩
      cases k with
      | true => cases e; exact q _ G1 H1 s1 R1 (.bl true)
      | false => exact hb.sn C G1 ρ1 σ H1 _ _ R1 e Q fun z G2 H2 s2 R2 v2 => q z G2 H2 (s1.trans s2) R2 v2
    | non => cases e
    | int _ => cases e
    | str _ => cases e
    | tup _ => cases e
    | lst _ => cases e
    | dct _ => cases e⟩
theorem e_not (ha : EOk X a ta fa) : EOk X (.UnaryOp .Not a pos) (tNotV ta) (eUn dNot fa) := ⟨pe_not ha.pe, fun C G ρ σ H r ρ' R e Q q => by
  unfold eUn at e
  obtain ⟨⟨r1, ρ1⟩, e1, e⟩ := Option.bind_eq_some_iff.mp e
  obtain ⟨d1, e3, e⟩ := Option.bind_eq_some_iff.mp e
  obtain ⟨d, e5, e⟩ := Option.bind_eq_some_iff.mp e
  cases e
  refine ha.sn C G ρ σ H _ _ R e1 _ fun v G1 H1 s1 R1 v1 => ?_
  have ro := R1.rd v1 e3
  cases d1 with
  | bl k =>
    cases e5
    rcases ro with ro | ⟨a, xs, ds, h1, h2, _⟩ | ⟨a, xs, ds, h1, h2, _⟩
    · cases ro; exact ⟨k, rfl, q _ G1 H1 s1 R1 (.bl _)⟩
    · cases h2
    · cases h2
  | non => cases e5
  | int _ => cases e5
  | str _ => cases e5
  | tup _ => cases e5
  | lst _ => cases e5
  | dct _ => cases e5⟩
def eIf (c : ET) (f g : E) : E := fun ρ => (c ρ).bind fun p => if p.1 = true then f p.2 else g p.2
theorem e_ifExp (hc : TOk X c tA hA) (ha : EOk X a ta fa) (hb : EOk X b tb fb) : EOk X (.IfExp c a b pos) (tIf tA ta tb) (eIf hA fa fb) := ⟨pe_ifExp hc.pt ha.pe hb.pe, fun C G ρ σ H r ρ' R e Q q => by
  unfold eIf at e
  obtain ⟨⟨b1, ρ1⟩, e1, e⟩ := Option.bind_eq_some_iff.mp e
  refine hc.sn C G ρ σ H _ _ R e1 _ fun G1 H1 s1 R1 => ?_
  cases b1 with
  | true => exact ha.sn C G1 ρ1 σ H1 _ _ R1 e Q fun z G2 H2 s2 R2 v2 => q z G2 H2 (s1.trans s2) R2 v2
  | false => exact hb.sn C G1 ρ1 σ H1 _ _ R1 e Q fun z G2 H2 s2 R2 v2 => q z G2 H2 (s1.trans s2) R2 v2⟩
end

/-! ### argument lists, displays -/
def aNil : EA := fun ρ => some ([], ρ)
def aCons (f : E) (g : EA) : EA := fun ρ => (f ρ).bind fun p => (g p.2).bind fun q => some (p.1 :: q.1, q.2)
def line : Nat := sizeLine
section
variable {X : Cx} {e : Expr} {es : List Expr} {te : TE} {t : TA} {fe : E} {fs : EA} {pos : Pos}
theorem a_nil : AOk X [] tNil aNil := ⟨pa_nil, fun C G ρ σ H r ρ' R e Q q => by cases e; exact q _ G H (Same.refl G) R .nil⟩
theorem a_cons (ha : EOk X e te fe) (hr : AOk X es t fs) (hs : starEach (e :: es) X.env = (false, eval e X.env) :: starEach es X.env := by rfl) : AOk X (e :: es) (tCons te t) (aCons fe fs) := ⟨pa_cons ha.pe hr.pa hs, fun C G ρ σ H r ρ' R e Q q => by
  unfold aCons at e
  obtain ⟨⟨r1, ρ1⟩, e1, e⟩ := Option.bind_eq_some_iff.mp e
  obtain ⟨⟨rs, ρ2⟩, e2, e⟩ := Option.bind_eq_some_iff.mp e
  cases e
  refine ha.sn C G ρ σ H _ _ R e1 _ fun v G1 H1 s1 R1 v1 => ?_
  exact hr.sn C G1 ρ1 σ H1 _ _ R1 e2 _ fun vs G2 H2 s2 R2 v2 => q _ G2 H2 (s1.trans s2) R2 (.cons (v1.mono s2) v2)⟩
def eTup (f : EA) : E := fun ρ => (f ρ).bind fun p => (frs p.2 p.1).bind fun q => if q.1.length ≤ 16777216 then some (.d (.tup q.1), q.2) else none
theorem e_tup {x1} (h : AOk X es t fs) : EOk X (.Tuple es x1 pos) (tTup t) (eTup fs) := ⟨pe_tup h.pa, fun C G ρ σ H r ρ' R e Q q => by
  unfold eTup at e
  obtain ⟨⟨rs, ρ1⟩, e1, e⟩ := Option.bind_eq_some_iff.mp e
  obtain ⟨⟨ds, ρ2⟩, e2, e⟩ := Option.bind_eq_some_iff.mp e
  split at e
  · rename_i hl
    cases e
    refine h.sn C G ρ σ H _ _ R e1 _ fun vs G1 H1 s1 R1 v1 => ?_
    obtain ⟨G2, s2, R2, v2⟩ := R1.frs v1 e2
    refine ⟨by rw [v2.length, sizeLine_eq]; exact hl, fun p hp => ?_⟩
    have gp : G2 p = none := by
      cases z : G2 p with
      | none => rfl
      | some u => rw [R2.gh _ _ z] at hp; cases hp
    exact q _ _ _ (s1.trans (s2.trans (same_upd gp))) (R2.alloc hp) (.tup (SqT.of upd_same) (v2.mono (same_upd gp)))
  · cases e⟩
/-- a new list -/
def fLst (f : EA) : EF := fun ρ => (f ρ).bind fun p => (frs p.2 p.1).bind fun q => if q.1.length ≤ 16777216 then some (.L q.1, q.2) else none
theorem free_P {K : PySem.W.Frag} {C : Cfg} {G H : Hp} {ρ : Env} {σ : L2.St} (R : Rel K C G ρ σ H) {p : Addr} (hp : H p = none) : C.P p = none ∧ G p = none := by
  constructor
  · cases z : C.P p with
    | none => rfl
    | some u => rw [(R.pend _ _ z).1] at hp; cases hp
  · cases z : G p with
    | none => rfl
    | some u => rw [R.gh _ _ z] at hp; cases hp
theorem f_lst (h : AOk X es t fs) : FOk X (.List es pos) (tLst t) (fLst fs) := ⟨pe_lst h.pa, fun C G ρ σ H r ρ' R e Q q => by
  unfold fLst at e
  obtain ⟨⟨rs, ρ1⟩, e1, e⟩ := Option.bind_eq_some_iff.mp e
  obtain ⟨⟨ds, ρ2⟩, e2, e⟩ := Option.bind_eq_some_iff.mp e
  split at e
  · rename_i hl
    cases e
    refine h.sn C G ρ σ H _ _ R e1 _ fun vs G1 H1 s1 R1 v1 => ?_
    obtain ⟨G2, s2, R2, v2⟩ := R1.frs v1 e2
    refine ⟨by rw [v2.length, sizeLine_eq]; exact hl, fun p hp => ?_⟩
    exact q p (.lst vs) _ _ (s1.trans s2) (free_P R2 hp).1 (R2.allocP hp) v2
  · cases e⟩
/-- a new list or dict as a value -/
def eF (f : EF) : E := fun ρ => (f ρ).bind fun p => some (.d p.1.d, p.2)
theorem CtOk.rp {K : PySem.W.Frag} {G G' : Hp} {o : HO} {c : Ct} {p : Addr} (h : CtOk K G o c) (hs : Same G G') (hp : G' p = some o) : Rp K G' (.ref p) c.d := by
  cases o <;> cases c <;> first | exact h.elim | skip
  · exact .lst hp (RpL.mono h hs)
  · exact .dct (.inl hp) (RpM.mono h hs)
theorem e_f {x : Expr} {t : TE} {f : EF} (h : FOk X x t f) : EOk X x t (eF f) := ⟨h.pe, fun C G ρ σ H r ρ' R e Q q => by
  unfold eF at e
  obtain ⟨⟨c, ρ1⟩, e1, e⟩ := Option.bind_eq_some_iff.mp e
  cases e
  refine h.sn C G ρ σ H _ _ R e1 _ fun p o G1 H1 s1 cp R1 ok => ?_
  obtain ⟨R2, s2⟩ := R1.freezeP cp
  exact q _ _ _ (s1.trans s2) R2 (ok.rp s2 upd_same)⟩
def fDict0 : EF := fun ρ => some (.M [], ρ)
theorem f_dict0 : FOk X (.Dict [] [] pos) tDNewK fDict0 := ⟨pe_dnewK, fun C G ρ σ H r ρ' R e Q q p hp => by
  cases e
  exact q p (.dK []) _ _ (Same.refl G) (free_P R hp).1 (R.allocP hp) .nil⟩
end

/-! ### calls -/
def eCB (g : List D → Option D) (f : EA) : E := fun ρ => (f ρ).bind fun p => (rds p.2 p.1).bind fun ds => (g ds).bind fun d => some (.d d, p.2)
theorem snd_cb {K : PySem.W.Frag} {r : List V → Hp → VK → Prop} {g : List D → Option D} {t : TA} {f : EA} (hc : SndC K r g) (h : SndA K t f) : SndE K (tCB r t) (eCB g f) := fun C G ρ σ H s ρ' R e Q q => by
  unfold eCB at e
  obtain ⟨⟨rs, ρ1⟩, e1, e⟩ := Option.bind_eq_some_iff.mp e
  obtain ⟨ds, e2, e⟩ := Option.bind_eq_some_iff.mp e
  obtain ⟨d, e3, e⟩ := Option.bind_eq_some_iff.mp e
  cases e
  refine h C G ρ σ H _ _ R e1 _ fun vs G1 H1 s1 R1 v1 => ?_
  exact hc C G1 ρ1 σ H1 vs ds d R1 (R1.rds v1 e2) e3 Q fun z G2 H2 s2 R2 v2 => q z G2 H2 (s1.trans s2) R2 v2
section
variable {X : Cx} {x : Str} {p pos : Pos} {e : Expr} {es : List Expr} {t : TA} {id T : String} {r : List V → Hp → VK → Prop} {g : List D → Option D} {fs : EA}
theorem e_callB (hc : COk X (.builtin id) r g) (hg : Gl X x) (hm : X.mg x = none) (hv : bootBuiltins x = some (.builtin id)) (ha : AOk X (e :: es) t fs) (hn : x ≠ "__name__" := by decide) (hdb : (x == ("__debug__" : Str)) = false := by decide)
    (he : starEach (e :: es) X.env = (false, eval e X.env) :: starEach es X.env := by rfl) (hpl : (backTo pos (starEach es X.env)).any (·.1) = false := by rfl) : EOk X (.Call (.Name x p) (e :: es) [] pos) (tCB r t) (eCB g fs) :=
  ⟨pe_callB hc.cr hg hm hv ha.pa hn hdb he hpl, snd_cb hc.sn ha.sn⟩
theorem e_callTy (hc : COk X (.type T) r g) (hg : Gl X x) (hm : X.mg x = none) (hv : bootBuiltins x = some (.type T)) (ha : AOk X (e :: es) t fs) (hn : x ≠ "__name__" := by decide) (hdb : (x == ("__debug__" : Str)) = false := by decide)
    (he : starEach (e :: es) X.env = (false, eval e X.env) :: starEach es X.env := by rfl) (hpl : (backTo pos (starEach es X.env)).any (·.1) = false := by rfl) : EOk X (.Call (.Name x p) (e :: es) [] pos) (tCB r t) (eCB g fs) :=
  ⟨pe_callTy hc.cr hg hm hv ha.pa hn hdb he hpl, snd_cb hc.sn ha.sn⟩
end

/-- the promise of a def: on data ds it hands back F ds -/
def spD (K : PySem.W.Frag) (F : List D → Option D) : Sp := fun vs H Q _ => ∃ G ds d, Same G H ∧ RpL K G vs ds ∧ F ds = some d ∧
  ∀ v H' G', Same G G' → Same H H' → Same G' H' → (∀ a o, G' a = some o → (∃ o, G a = some o) ∨ H a = none) → Rp K G' v d → Q v H'
def eCall (F : List D → Option D) (f : EA) : E := fun ρ => (f ρ).bind fun p => (frs p.2 p.1).bind fun q => (F q.1).bind fun d => some (.d d, q.2)
/-- behind a call -/
theorem Rel.after {K : PySem.W.Frag} {C : Cfg} {G G' H H' : Hp} {ρ : Env} {σ : L2.St} (R : Rel K C G ρ σ H) (s1 : Same G G') (s2 : Same H H') (s3 : Same G' H') (hf : ∀ a o, G' a = some o → (∃ o, G a = some o) ∨ H a = none) : Rel K C G' ρ σ H' := by
  have own : ∀ {a u}, G a = none → H a = some u → G' a = none := fun {a u} g h => by
    cases z : G' a with
    | none => rfl
    | some o =>
      rcases hf a o z with ⟨o', q⟩ | q
      · rw [g] at q; cases q
      · rw [h] at q; cases q
  refine ⟨R.len, s3, fun a o e v => s2 _ _ (R.base a o e v), fun a e => ?_, fun a o e => ?_, fun a o e => ?_, fun i s e => ?_, R.apart⟩
  · obtain ⟨o, q⟩ := R.volh a e; exact ⟨o, s2 _ _ q⟩
  · rcases hf a o e with ⟨o', q⟩ | q
    · exact R.fz a o' q
    · refine .inr ?_
      cases z : C.B a with
      | none => rfl
      | some u =>
        by_cases hv : C.vol = some a
        · obtain ⟨o2, q2⟩ := R.volh a hv; rw [q2] at q; cases q
        · rw [R.base a u z hv] at q; cases q
  · obtain ⟨h1, h2, h3⟩ := R.pend a o e
    exact ⟨s2 _ _ h1, own h2 h1, h3⟩
  · obtain ⟨y, hy, ok⟩ := R.slot i s e
    refine ⟨y, hy, ok.keep rfl rfl s1 (fun a ea ow => ?_) (fun a u ea ow hu => s2 _ _ hu)⟩
    obtain ⟨a', u, e', q0, qp, hu⟩ := ok.addr ow
    rw [ea] at e'; cases e'
    exact ⟨own q0 hu, qp⟩
section
variable {X : Cx} {x : Str} {p pos : Pos} {e : Expr} {es : List Expr} {t : TA} {fs : EA} {k : Nat} {f : Addr} {fd : FuncData} {ps : List Str} {F : List D → Option D}
theorem snd_call {K : PySem.W.Frag} {EX : XK} (ha : SndA K t fs) : SndE K (tCall (spD K F) [] EX t) (eCall F fs) := fun C G ρ σ H r ρ' R e Q q => by
  unfold eCall at e
  obtain ⟨⟨rs, ρ1⟩, e1, e⟩ := Option.bind_eq_some_iff.mp e
  obtain ⟨⟨ds, ρ2⟩, e2, e⟩ := Option.bind_eq_some_iff.mp e
  obtain ⟨d, e3, e⟩ := Option.bind_eq_some_iff.mp e
  cases e
  refine ha C G ρ σ H _ _ R e1 _ fun vs G1 H1 s1 R1 v1 => ?_
  obtain ⟨G2, s2, R2, v2⟩ := R1.frs v1 e2
  rw [List.append_nil]
  exact ⟨G2, ds, d, R2.gh, v2, e3, fun v H' G' a b c h r => q v G' H' (s1.trans (s2.trans a)) (R2.after a b c h) r⟩
theorem e_call (Fn : FnOk X.prog X.w X.K X.mg X.base CX0 k f fd ps (spD X.K F)) (hr : Room k X.A) (hg : Gl X x) (hm : X.mg x = some (.ref f)) (hk : PySem.W.keepIn X.K (.ref f) = true) (hb : Binds X.K fd ps [])
    (ha : AOk X (e :: es) t fs) (hdb : (x == ("__debug__" : Str)) = false := by decide) (he : starEach (e :: es) X.env = (false, eval e X.env) :: starEach es X.env := by rfl) (hpl : (backTo pos (starEach es X.env)).any (·.1) = false := by rfl) :
    EOk X (.Call (.Name x p) (e :: es) [] pos) (tCall (spD X.K F) [] E0 t) (eCall F fs) :=
  ⟨pe_call Fn hr hg hm hk hb .nil pass0 ha.pa hdb he hpl, snd_call ha.sn⟩
end

/-! ### targets -/
def gName' (i : Nat) : D → Env → Option Env := fun d ρ => some (ρ.set i (some (.v d)))
def gNil' : List D → Env → Option Env := fun ds ρ => match ds with
  | [] => some ρ
  | _ => none
def gCons' (f : D → Env → Option Env) (g : List D → Env → Option Env) : List D → Env → Option Env := fun ds ρ => match ds with
  | d :: r => (f d ρ).bind fun ρ' => g r ρ'
  | [] => none
def gTup' (n : Nat) (g : List D → Env → Option Env) : D → Env → Option Env := fun d ρ => match d with
  | .tup ds => if ds.length = n then g ds ρ else none
  | _ => none
section
variable {X : Cx} {pos : Pos}
theorem g_name {i : Nat} {x : Str} (hN : X.N.Nodup) (hi : X.N[i]? = some x) (hx : Loc X.env.scope x) (hf : X.fn x = true ∨ X.env.scope.names.lookup x = some .local := by first | exact .inl rfl | exact .inr rfl | assumption) : GOk X (.Name x pos) (gName i) (gName' i) [i] :=
  ⟨pg_name hN hi hx hf, fun C G ρ σ H v d ρ' R r e Q q => by
    cases e
    exact q G _ H (Same.refl G) (R.setV r) (fun j hj => by rw [List.getElem?_set_ne (fun z => hj (by simp [z]))]) (by simp)⟩
theorem gs_nil : GsOk X [] gNil gNil' [] := ⟨pgs_nil, fun C G ρ σ H vs ds ρ' R r e Q q => by
  cases r with
  | nil => cases e; exact ⟨rfl, q G σ H (Same.refl G) R (fun _ _ => rfl) rfl⟩
  | cons a b => cases e⟩
theorem gs_cons {e : Expr} {es : List Expr} {t : TG} {u : TGs} {f : D → Env → Option Env} {g : List D → Env → Option Env} {tv tv' : List Nat} (h1 : GOk X e t f tv) (h2 : GsOk X es u g tv')
    (hs : (assignEach (e :: es) X.env).map (·.2) = assign e X.env :: (assignEach es X.env).map (·.2) := by rfl) : GsOk X (e :: es) (gCons t u) (gCons' f g) (tv ++ tv') := ⟨pgs_cons h1.pg h2.pg hs, fun C G ρ σ H vs ds ρ' R r e Q q => by
  cases r with
  | nil => cases e
  | cons a b =>
    obtain ⟨ρ1, e1, e⟩ := Option.bind_eq_some_iff.mp e
    refine ⟨_, _, rfl, h1.sn C G ρ σ H _ _ _ R a e1 _ fun G1 σ1 H1 s1 R1 k1 l1 => ?_⟩
    refine h2.sn C G1 ρ1 σ1 H1 _ _ _ R1 (b.mono s1) e Q fun G2 σ2 H2 s2 R2 k2 l2 => ?_
    exact q G2 σ2 H2 (s1.trans s2) R2 (fun i hi => by
      rw [List.mem_append, not_or] at hi
      rw [k2 i hi.2, k1 i hi.1]) (l2.trans l1)⟩
theorem g_tup {es : List Expr} {k : Nat} {t : TGs} {n : Nat} {g : List D → Env → Option Env} {tv : List Nat} (hc : X.calm = true) (h : GsOk X es t g tv)
    (hn : (assignEach es X.env).length = n := by rfl) (hst : (assignEach es X.env).findIdx? (·.1) = none := by rfl) : GOk X (.Tuple es k pos) (gTup X.K n t) (gTup' n g) tv := ⟨pg_tup hc h.pg hn hst, fun C G ρ σ H v d ρ' R r e Q q => by
  cases d with
  | tup ds =>
    unfold gTup' at e
    dsimp only at e
    split at e
    · rename_i hl
      cases r with
      | tup s a => exact ⟨_, _, rfl, (Le.of R.gh (K := X.K)).sqT s, a.length.trans hl, h.sn C G ρ σ H _ _ _ R a e Q q⟩
    · cases e
  | bl _ => cases e
  | non => cases e
  | int _ => cases e
  | str _ => cases e
  | lst _ => cases e
  | dct _ => cases e⟩
end

/-! ### statements -/
def sNil : S := fun ρ => some (.nx, ρ)
def sSeq (f g : S) : S := fun ρ => (f ρ).bind fun p => match p.1 with
  | .nx => g p.2
  | _ => some p
/-- slots forgotten -/
def dropE (ρ : Env) : List Nat → Env
  | [] => ρ
  | i :: is => (dropE ρ is).set i none
def sFg (js : List Nat) (f : S) : S := fun ρ => (f ρ).bind fun p => some (p.1, dropE p.2 js)
def sSet (g : D → Env → Option Env) (f : E) : S := fun ρ => (f ρ).bind fun p => (fr p.2 p.1).bind fun q => (g q.1 q.2).bind fun ρ' => some (.nx, ρ')
def sOwn (i : Nat) (f : EF) : S := fun ρ => (f ρ).bind fun p => some (.nx, p.2.set i (some p.1.sl))
def sRet (f : E) : S := fun ρ => (f ρ).bind fun p => (fr p.2 p.1).bind fun q => some (.rt q.1, q.2)
def sDrop (f : E) : S := fun ρ => (f ρ).bind fun p => some (.nx, p.2)
def sIf (c : ET) (f g : S) : S := fun ρ => (c ρ).bind fun p => if p.1 = true then f p.2 else g p.2
def sAug (i : Nat) (g : D → D → Option D) (f : E) : S := fun ρ => match ρ[i]? with
  | some (some (.v d1)) => (f ρ).bind fun p => (rd p.2 p.1).bind fun d2 => (g d1 d2).bind fun d => some (.nx, p.2.set i (some (.v d)))
  | _ => none
section
variable {K : PySem.W.Frag} {C : Cfg} {G G' H : Hp} {ρ ρ' : Env} {σ : L2.St} {D' : Ends} {fl : Fl}
theorem Post.mono (h : Post K C G ρ D' fl) (s : Same G G') : Post K C G' ρ D' fl := by
  cases fl with
  | nx => exact fun G2 σ' H' s2 => h G2 σ' H' (s.trans s2)
  | bk => exact fun G2 σ' H' s2 => h G2 σ' H' (s.trans s2)
  | ct => exact fun G2 σ' H' s2 => h G2 σ' H' (s.trans s2)
  | rt d => exact fun v G2 σ' H' s2 => h v G2 σ' H' (s.trans s2)
theorem Rel.dropE (R : Rel K C G ρ σ H) : ∀ js : List Nat, Rel K C G (dropE ρ js) σ H
  | [] => R
  | i :: is => (Rel.dropE R is).drop
theorem snd_seq {t u : TS} {f g : S} (h1 : SndS K t f) (h2 : SndS K u g) : SndS K (tSeq t u) (sSeq f g) := fun C G ρ σ H fl ρ' R e D' q => by
  unfold sSeq at e
  obtain ⟨⟨fl1, ρ1⟩, e1, e⟩ := Option.bind_eq_some_iff.mp e
  refine h1 C G ρ σ H _ _ R e1 _ ?_
  cases fl1 with
  | nx => exact fun G1 σ1 H1 s1 R1 => h2 C G1 ρ1 σ1 H1 _ _ R1 e D' (q.mono s1)
  | bk => cases e; exact q
  | ct => cases e; exact q
  | rt d => cases e; exact q
theorem snd_fg {t : TS} {f : S} (js : List Nat) (h : SndS K t f) : SndS K t (sFg js f) := fun C G ρ σ H fl ρ' R e D' q => by
  unfold sFg at e
  obtain ⟨⟨fl1, ρ1⟩, e1, e⟩ := Option.bind_eq_some_iff.mp e
  cases e
  refine h C G ρ σ H _ _ R e1 _ ?_
  cases fl1 with
  | nx => exact fun G1 σ1 H1 s1 R1 => q G1 σ1 H1 s1 (R1.dropE js)
  | bk => exact fun G1 σ1 H1 s1 R1 => q G1 σ1 H1 s1 (R1.dropE js)
  | ct => exact fun G1 σ1 H1 s1 R1 => q G1 σ1 H1 s1 (R1.dropE js)
  | rt d => exact fun v G1 σ1 H1 s1 R1 => q v G1 σ1 H1 s1 (R1.dropE js)
theorem snd_set {te : TE} {f : E} {g : TG} {gf : D → Env → Option Env} {tv : List Nat} (he : SndE K te f) (hg : SndG K g gf tv) : SndS K (tAsg te g) (sSet gf f) := fun C G ρ σ H fl ρ' R e D' q => by
  unfold sSet at e
  obtain ⟨⟨r, ρ1⟩, e1, e⟩ := Option.bind_eq_some_iff.mp e
  obtain ⟨⟨d, ρ2⟩, e2, e⟩ := Option.bind_eq_some_iff.mp e
  obtain ⟨ρ3, e3, e⟩ := Option.bind_eq_some_iff.mp e
  cases e
  refine he C G ρ σ H _ _ R e1 _ fun v G1 H1 s1 R1 v1 => ?_
  obtain ⟨G2, s2, R2, v2⟩ := R1.fr v1 e2
  exact hg C G2 ρ2 σ H1 v d _ R2 v2 e3 _ fun G3 σ3 H3 s3 R3 _ _ => q G3 σ3 H3 (s1.trans (s2.trans s3)) R3
theorem Rel.own {i : Nat} {p : Addr} {o : HO} {c : Ct} (R : Rel K (pen C p o) G ρ σ H) (cp : C.P p = none) (h : CtOk K G o c) : Rel K C G (ρ.set i (some c.sl)) (σ.set i (some (.ref p))) H := by
  cases o <;> cases c <;> first | exact h.elim | skip
  · exact R.ownL cp h
  · exact R.ownM cp h
theorem snd_own {te : TE} {f : EF} (i : Nat) (he : SndF K te f) : SndS K (tAsg te (gName i)) (sOwn i f) := fun C G ρ σ H fl ρ' R e D' q => by
  unfold sOwn at e
  obtain ⟨⟨c, ρ1⟩, e1, e⟩ := Option.bind_eq_some_iff.mp e
  cases e
  exact he C G ρ σ H _ _ R e1 _ fun p o G1 H1 s1 cp R1 ok => q G1 _ H1 s1 (R1.own cp ok)
theorem snd_ret {te : TE} {f : E} (he : SndE K te f) : SndS K (tRet te) (sRet f) := fun C G ρ σ H fl ρ' R e D' q => by
  unfold sRet at e
  obtain ⟨⟨r, ρ1⟩, e1, e⟩ := Option.bind_eq_some_iff.mp e
  obtain ⟨⟨d, ρ2⟩, e2, e⟩ := Option.bind_eq_some_iff.mp e
  cases e
  refine he C G ρ σ H _ _ R e1 _ fun v G1 H1 s1 R1 v1 => ?_
  obtain ⟨G2, s2, R2, v2⟩ := R1.fr v1 e2
  exact q v G2 σ H1 (s1.trans s2) R2 v2
theorem snd_drop {te : TE} {f : E} (he : SndE K te f) : SndS K (tDrop te) (sDrop f) := fun C G ρ σ H fl ρ' R e D' q => by
  unfold sDrop at e
  obtain ⟨⟨r, ρ1⟩, e1, e⟩ := Option.bind_eq_some_iff.mp e
  cases e
  exact he C G ρ σ H _ _ R e1 _ fun v G1 H1 s1 R1 v1 => q G1 σ H1 s1 R1
theorem snd_if {c : TT} {t u : TS} {hc : ET} {f g : S} (h0 : SndT K c hc) (h1 : SndS K t f) (h2 : SndS K u g) : SndS K (tIfS c t u) (sIf hc f g) := fun C G ρ σ H fl ρ' R e D' q => by
  unfold sIf at e
  obtain ⟨⟨b, ρ1⟩, e1, e⟩ := Option.bind_eq_some_iff.mp e
  refine h0 C G ρ σ H _ _ R e1 _ fun G1 H1 s1 R1 => ?_
  cases b with
  | true => exact h1 C G1 ρ1 σ H1 _ _ R1 e D' (q.mono s1)
  | false => exact h2 C G1 ρ1 σ H1 _ _ R1 e D' (q.mono s1)
end
section
variable {X : Cx} {st : Stmt} {rest sts : List Stmt} {t u : TS} {f g : S} {e : Expr} {te : TE} {fe : E} {pos : Pos}
theorem ss_nil : SsOk X [] tNext sNil := ⟨pss_nil, fun C G ρ σ H fl ρ' R e D' q => by cases e; exact q G σ H (Same.refl G) R⟩
theorem ss_cons (h1 : SOk X st t f) (h2 : SsOk X rest u g) : SsOk X (st :: rest) (tSeq t u) (sSeq f g) := ⟨pss_cons h1.ps h2.ps, snd_seq h1.sn h2.sn⟩
theorem ss_one (h1 : SOk X st t f) : SsOk X [st] t f := ⟨pss_one h1.ps, h1.sn⟩
theorem ss_fg (js : List Nat) (h : SsOk X sts t f) : SsOk X sts t (sFg js f) := ⟨h.ps, snd_fg js h.sn⟩
theorem s_fg (js : List Nat) (h : SOk X st t f) : SOk X st t (sFg js f) := ⟨h.ps, snd_fg js h.sn⟩
/-- target = value, any target -/
theorem s_asg {tg : Expr} {gt : TG} {gf : D → Env → Option Env} {tv : List Nat} (he : EOk X e te fe) (hg : GOk X tg gt gf tv) (hs : swapsWithSole [tg] e pos.line X.env = pure false := by rfl) (hw : swappedStores [tg] e X.env = pure none := by rfl)
    (h1 : (assignEach [tg] X.env).map (·.2) = [assign tg X.env] := by rfl) : SOk X (.Assign [tg] e pos) (tAsg te gt) (sSet gf fe) := ⟨ps_asg he.pe hg.pg hs hw h1, snd_set he.sn hg.sn⟩
/-- name = value -/
theorem s_set {i : Nat} {x : Str} {pos' : Pos} (hN : X.N.Nodup) (hi : X.N[i]? = some x) (hx : Loc X.env.scope x) (he : EOk X e te fe) (hs : swapsWith e (some (.Name x pos')) pos.line X.env = pure false := by rfl) (hf : X.fn x = true ∨ X.env.scope.names.lookup x = some .local := by first | exact .inl rfl | exact .inr rfl | assumption) :
    SOk X (.Assign [.Name x pos'] e pos) (tAsg te (gName i)) (sSet (gName' i) fe) := ⟨ps_set hN hi hx he.pe hs hf, snd_set (tv := [i]) he.sn fun C G ρ σ H v d ρ' R r e Q q => by
    cases e
    exact q G _ H (Same.refl G) (R.setV r) (fun j hj => by rw [List.getElem?_set_ne (fun z => hj (by simp [z]))]) (by simp)⟩
/-- name = a new list or dict, the slot's own -/
theorem s_own {i : Nat} {x : Str} {pos' : Pos} {ff : EF} (hN : X.N.Nodup) (hi : X.N[i]? = some x) (hx : Loc X.env.scope x) (he : FOk X e te ff) (hs : swapsWith e (some (.Name x pos')) pos.line X.env = pure false := by rfl) (hf : X.fn x = true ∨ X.env.scope.names.lookup x = some .local := by first | exact .inl rfl | exact .inr rfl | assumption) :
    SOk X (.Assign [.Name x pos'] e pos) (tAsg te (gName i)) (sOwn i ff) := ⟨ps_set hN hi hx he.pe hs hf, snd_own i he.sn⟩
theorem s_ret (he : EOk X e te fe) : SOk X (.Return (some e) pos) (tRet te) (sRet fe) := ⟨ps_ret he.pe, snd_ret he.sn⟩
theorem s_expr (he : EOk X e te fe) (hs : swapsWith e none pos.line X.env = pure false := by rfl) : SOk X (.Expr e pos) (tDrop te) (sDrop fe) := ⟨ps_expr he.pe hs, snd_drop he.sn⟩
theorem s_if {c : Expr} {a b : List Stmt} {tc : TT} {hc : ET} (h0 : TOk X c tc hc) (ha : SsOk X a t f) (hb : SsOk X b u g) : SOk X (.If c a b pos) (tIfS tc t u) (sIf hc f g) := ⟨ps_if h0.pt ha.ps hb.ps, snd_if h0.sn ha.sn hb.sn⟩
/-- name op= e, the name a value -/
theorem s_aug {i : Nat} {x : Str} {op : Operator} {r : R2} {g : D → D → Option D} {pos' : Pos} (hN : X.N.Nodup) (hi : X.N[i]? = some x) (hx : Loc X.env.scope x) (he : EOk X e te fe) (ho : PIp X op (fun x y H Q => r x y H Q)) (hsn : SndO X.K r g)
    (hf : X.fn x = true ∨ X.env.scope.names.lookup x = some .local := by first | exact .inl rfl | exact .inr rfl | assumption) : SOk X (.AugAssign (.Name x pos') op e pos) (tAug i te (fun x y H Q => r x y H Q)) (sAug i g fe) := ⟨ps_aug hN hi hx he.pe ho hf, fun C G ρ σ H fl ρ' R e D' q => by
  unfold sAug at e
  cases hq : ρ[i]? with
  | none => rw [hq] at e; cases e
  | some o =>
    rw [hq] at e
    cases o with
    | none => cases e
    | some s =>
      cases s with
      | v d1 =>
        obtain ⟨⟨r1, ρ1⟩, e1, e⟩ := Option.bind_eq_some_iff.mp e
        obtain ⟨d2, e2, e⟩ := Option.bind_eq_some_iff.mp e
        obtain ⟨d, e3, e⟩ := Option.bind_eq_some_iff.mp e
        cases e
        obtain ⟨x, hx', ok⟩ := R.slot i _ hq
        refine ⟨x, hx', he.sn C G ρ σ H _ _ R e1 _ fun v G1 H1 s1 R1 v1 => ?_⟩
        refine hsn C G1 ρ1 σ H1 x v d1 d2 d R1 (.inl (Rp.mono ok s1)) (R1.rd v1 e2) e3 _ fun z G2 H2 s2 R2 v2 => ?_
        exact q G2 _ H2 (s1.trans s2) (R2.setV v2)
      | L _ => cases e
      | M _ => cases e
      | U _ => cases e
      | W _ _ => cases e⟩
end

/-! ### a def's promise by its body -/
def runF (n m : Nat) (s : S) (ds : List D) : Option D :=
  if ds.length = m then (s (ds.map (fun d => some (.v d)) ++ List.replicate (n - m) none)).bind fun p => match p.1 with
    | .rt d => some d
    | .nx => some .non
    | _ => none
  else none
theorem RpL.slots {K : PySem.W.Frag} {G : Hp} : ∀ {vs : List V} {ds : List D} {n : Nat} (i : Nat) (s : Sl), RpL K G vs ds → (ds.map (fun d => some (.v d)) ++ List.replicate n none : Env)[i]? = some (some s) → ∃ x d, (vs.map some ++ List.replicate n none : L2.St)[i]? = some (some x) ∧ s = .v d ∧ Rp K G x d
  | _, _, n, i, s, .nil, e => by
    rw [List.map_nil, List.nil_append, List.getElem?_replicate] at e
    split at e <;> cases e
  | _, _, n, 0, s, .cons a b, e => by
    rw [List.map_cons, List.cons_append, List.getElem?_cons_zero] at e
    cases e
    exact ⟨_, _, rfl, rfl, a⟩
  | _, _, n, i + 1, s, .cons a b, e => by
    rw [List.map_cons, List.cons_append, List.getElem?_cons_succ] at e
    obtain ⟨x, d, h1, h2⟩ := RpL.slots i s b e
    exact ⟨x, d, by rw [List.map_cons, List.cons_append, List.getElem?_cons_succ]; exact h1, h2⟩
theorem rel_start {K : PySem.W.Frag} {G H : Hp} {vs : List V} {ds : List D} {n : Nat} (gh : Same G H) (r : RpL K G vs ds) : Rel K { B := H, G0 := G, vol := none, P := fun _ => none } G (ds.map (fun d => some (.v d)) ++ List.replicate n none) (vs.map some ++ List.replicate n none) H := by
  refine ⟨by simp [r.length], gh, fun a o e _ => e, fun a e => (by cases e), fun a o e => .inl ⟨o, e⟩, fun a o e => (by cases e), fun i s e => ?_, fun i j si sj x ne e1 e2 o1 o2 f1 f2 => ?_⟩
  · obtain ⟨x, d, h1, rfl, h2⟩ := r.slots i s e
    exact ⟨x, h1, h2⟩
  · obtain ⟨x, d, h1, rfl, h2⟩ := r.slots i si e1
    exact o1.elim
section
variable {P : Program} {w : World} {K : PySem.W.Frag} {mg : Str → Option Value} {base : Heap}
theorem fun_okD {x qual : Str} {st : Stmt} {f : Addr} {fd : FuncData} {N ps : List Str} {k n m : Nat} {s : S} (F : Fun K x qual st f fd) (Sc : FnScope N ps (defScope st)) (hn : N.length = n) (hm : ps.length = m)
    (hb : ∀ (cdv : Value) (A : Around) (outer : List PySem.Env) (s0 : Shared) (H : Hp) (EX : XK), Room k (A.deeper (envOfC qual (defScope st) s0.heap.objs.size f cdv)) →
      ∃ t, SsOk (cxOf CX0 P w K mg base N qual (defScope st) f cdv A outer s0 H EX).nox (defBody st) t s) : FnOk P w K mg base CX0 (k + 1) f fd ps (spD K (runF n m s)) := by
  refine F.ok Sc (fun vs H Q EX h => ?_) (fun cdv A outer s0 H vs Q EX hr h => ?_)
  · obtain ⟨G, ds, d, _, r, e, _⟩ := h
    unfold runF at e
    split at e
    · rename_i hl; rw [r.length, hl, hm]
    · cases e
  · obtain ⟨G, ds, d, gh, r, e, q⟩ := h
    unfold runF at e
    split at e
    · rename_i hl
      obtain ⟨⟨fl, ρ'⟩, e1, e⟩ := Option.bind_eq_some_iff.mp e
      obtain ⟨t, ok⟩ := hb cdv A outer s0 H EX hr
      refine ⟨t, ok.ps, ?_⟩
      have hst : L2.start N vs = vs.map some ++ List.replicate (n - m) none := by unfold L2.start; rw [hn, r.length, hl]
      rw [hst]
      refine ok.sn _ G _ _ H fl ρ' (rel_start gh r) e1 _ ?_
      cases fl with
      | nx =>
        cases e
        exact fun G' σ' H' s1 R => q _ H' G' s1 (fun a o z => R.base a o z (by intro z; cases z)) R.gh (fun a o z => R.fz a o z) .non
      | rt d' =>
        cases e
        exact fun v G' σ' H' s1 R rv => q v H' G' s1 (fun a o z => R.base a o z (by intro z; cases z)) R.gh (fun a o z => R.fz a o z) rv
      | bk => cases e
      | ct => cases e
    · cases e
end
end Fd

set_option Elab.async false
set_option linter.all false
set_option maxRecDepth 100000
/-! Fd3: operators, comparisons, subscripts, the small built-in functions. -/
namespace Fd
open PySem PySem.Spec PyProof.Rows L2

/-! ### ints -/
def dI (g : Int → Int → Option D) : D → D → Option D
  | .int i, .int j => g i j
  | _, _ => none
theorem Ro.int {K : PySem.W.Frag} {G H : Hp} {x : V} {i : Int} (h : Ro K G H x (.int i)) : x = .int i := by
  rcases h with h | ⟨_, _, _, _, h, _⟩ | ⟨_, _, _, _, h, _⟩
  · cases h; rfl
  · cases h
  · cases h
theorem Ro.bl {K : PySem.W.Frag} {G H : Hp} {x : V} {i : Bool} (h : Ro K G H x (.bl i)) : x = .bl i := by
  rcases h with h | ⟨_, _, _, _, h, _⟩ | ⟨_, _, _, _, h, _⟩
  · cases h; rfl
  · cases h
  · cases h
theorem Ro.str {K : PySem.W.Frag} {G H : Hp} {x : V} {i : Str} (h : Ro K G H x (.str i)) : x = .str i := by
  rcases h with h | ⟨_, _, _, _, h, _⟩ | ⟨_, _, _, _, h, _⟩
  · cases h; rfl
  · cases h
  · cases h
theorem Ro.tup {K : PySem.W.Frag} {G H : Hp} {x : V} {ds : List D} (h : Ro K G H x (.tup ds)) : ∃ a xs, x = .ref a ∧ SqT K G a xs ∧ RpL K G xs ds := by
  rcases h with h | ⟨_, _, _, _, h, _⟩ | ⟨_, _, _, _, h, _⟩
  · cases h with | tup s r => exact ⟨_, _, rfl, s, r⟩
  · cases h
  · cases h
/-- a list that may be read: its items are frozen -/
theorem Ro.lst {K : PySem.W.Frag} {G H : Hp} {x : V} {ds : List D} (h : Ro K G H x (.lst ds)) (gh : Same G H) : ∃ a xs, x = .ref a ∧ H a = some (.lst xs) ∧ RpL K G xs ds := by
  rcases h with h | ⟨a, xs, ds', rfl, h, h1, h2⟩ | ⟨_, _, _, _, h, _⟩
  · cases h with | lst s r => exact ⟨_, _, rfl, gh _ _ s, r⟩
  · cases h; exact ⟨a, xs, rfl, h1, h2⟩
  · cases h
theorem Ro.dct {K : PySem.W.Frag} {G H : Hp} {x : V} {ds : List (Key × D)} (h : Ro K G H x (.dct ds)) (gh : Same G H) : ∃ a xs, x = .ref a ∧ Rd H a (.dK xs) ∧ RpM K G xs ds := by
  rcases h with h | ⟨_, _, _, _, h, _⟩ | ⟨a, xs, ds', rfl, h, h1, h2⟩
  · cases h with | dct s r => exact ⟨_, _, rfl, (Le.of gh (K := K)).rd _ _ s, r⟩
  · cases h
  · cases h; exact ⟨a, xs, rfl, .inl h1, h2⟩
/-- flat data -/
theorem snd_I0 {K : PySem.W.Frag} {g : Int → Int → V} {g' : Int → Int → Option D} (h : ∀ i j d, g' i j = some d → ∀ G, Rp K G (g i j) d) : SndO K (rI0 g) (dI g') := fun C G ρ σ H x y dx dy d R rx ry e Q q => by
  cases dx <;> cases dy <;> first | cases e | skip
  obtain rfl := rx.int
  obtain rfl := ry.int
  exact ⟨_, _, rfl, rfl, q _ G H (Same.refl G) R (h _ _ _ e G)⟩
theorem snd_I {K : PySem.W.Frag} {Cc : Int → Int → Prop} {g : Int → Int → V} {g' : Int → Int → Option D} (h : ∀ i j d, g' i j = some d → Cc i j ∧ ∀ G, Rp K G (g i j) d) : SndO K (rI Cc g) (dI g') := fun C G ρ σ H x y dx dy d R rx ry e Q q => by
  cases dx <;> cases dy <;> first | cases e | skip
  obtain rfl := rx.int
  obtain rfl := ry.int
  exact ⟨_, _, rfl, rfl, (h _ _ _ e).1, q _ G H (Same.refl G) R ((h _ _ _ e).2 G)⟩
def dSub : D → D → Option D := dI fun i j => some (.int (i - j))
def dFdiv : D → D → Option D := dI fun i j => if 0 < j ∧ j < 1073741824 then some (.int (i / j)) else none
def dMod : D → D → Option D := dI fun i j => if 0 < j then some (.int (i % j)) else none
def dPow : D → D → Option D := dI fun i j => if 0 ≤ j ∧ j ≤ 1000000 ∧ i.natAbs < 18446744073709551616 then some (.int (i ^ j.toNat)) else none
def dShl : D → D → Option D := dI fun i j => if 0 ≤ j ∧ j ≤ 1000000 ∧ i.natAbs < 18446744073709551616 then some (.int (i * 2 ^ j.toNat)) else none
def dShr : D → D → Option D := dI fun i j => if 0 ≤ j then some (.int (i / 2 ^ j.toNat)) else none
def dBand : D → D → Option D := dI fun i j => some (.int (Builtin.bitAnd i j))
def dLt : D → D → Option D := dI fun i j => some (.bl (decide (i < j)))
def dLe : D → D → Option D := dI fun i j => some (.bl (decide (i ≤ j)))
def dGt : D → D → Option D := dI fun i j => some (.bl (decide (j < i)))
def dGe : D → D → Option D := dI fun i j => some (.bl (decide (j ≤ i)))
def dNeg : D → Option D
  | .int i => some (.int (-i))
  | _ => none
section
variable {X : Cx}
theorem o_sub : OOk X (binaryOp .Sub) (rI0 fun i j => .int (i - j)) dSub := ⟨op_sub, snd_I0 fun i j d e G => by cases e; exact .int _⟩
theorem o_fdiv : OOk X (binaryOp .FloorDiv) (rI CDiv fun i j => .int (i / j)) dFdiv := ⟨op_fdiv, snd_I fun i j d e => by
  split at e
  · rename_i h; cases e; exact ⟨h, fun _ => .int _⟩
  · cases e⟩
theorem o_mod : OOk X (binaryOp .Mod) (rI (fun _ j => 0 < j) fun i j => .int (i % j)) dMod := ⟨op_mod, snd_I fun i j d e => by
  split at e
  · rename_i h; cases e; exact ⟨h, fun _ => .int _⟩
  · cases e⟩
theorem o_pow : OOk X (binaryOp .Pow) (rI CPow fun i j => .int (i ^ j.toNat)) dPow := ⟨op_pow, snd_I fun i j d e => by
  split at e
  · rename_i h; cases e; exact ⟨⟨h.1, h.2.1, by have := h.2.2; omega⟩, fun _ => .int _⟩
  · cases e⟩
theorem o_shl : OOk X (binaryOp .LShift) (rI CPow fun i j => .int (i * 2 ^ j.toNat)) dShl := ⟨op_shl, snd_I fun i j d e => by
  split at e
  · rename_i h; cases e; exact ⟨⟨h.1, h.2.1, by have := h.2.2; omega⟩, fun _ => .int _⟩
  · cases e⟩
theorem o_shr : OOk X (binaryOp .RShift) (rI (fun _ j => 0 ≤ j) fun i j => .int (i / 2 ^ j.toNat)) dShr := ⟨op_shr, snd_I fun i j d e => by
  split at e
  · rename_i h; cases e; exact ⟨h, fun _ => .int _⟩
  · cases e⟩
theorem o_band : OOk X (binaryOp .BitAnd) (rI0 fun i j => .int (Builtin.bitAnd i j)) dBand := ⟨op_and, snd_I0 fun i j d e G => by cases e; exact .int _⟩
theorem o_lt : OOk X (compareOp .Lt) (rI0 fun i j => .bl (decide (i < j))) dLt := ⟨op_lt, snd_I0 fun i j d e G => by cases e; exact .bl _⟩
theorem o_le : OOk X (compareOp .LtE) (rI0 fun i j => .bl (decide (i ≤ j))) dLe := ⟨op_le, snd_I0 fun i j d e G => by cases e; exact .bl _⟩
theorem o_gt : OOk X (compareOp .Gt) (rI0 fun i j => .bl (decide (j < i))) dGt := ⟨op_gt, snd_I0 fun i j d e G => by cases e; exact .bl _⟩
theorem o_ge : OOk X (compareOp .GtE) (rI0 fun i j => .bl (decide (j ≤ i))) dGe := ⟨op_ge, snd_I0 fun i j d e G => by cases e; exact .bl _⟩
theorem e_neg {a : Expr} {ta : TE} {fa : E} {pos : Pos} (ha : EOk X a ta fa) : EOk X (.UnaryOp .USub a pos) (tUn (rU fun i => .int (-i)) ta) (eUn dNeg fa) := e_un un_neg (fun C G ρ σ H x dx d R rx e Q q => by
  cases dx <;> first | cases e | skip
  obtain rfl := rx.int
  exact ⟨_, rfl, q _ G H (Same.refl G) R (.int _)⟩) ha

/-! ### +, * -/
def dAdd : D → D → Option D
  | .int i, .int j => some (.int (i + j))
  | .tup a, .tup b => if a.length + b.length ≤ 16777216 then some (.tup (a ++ b)) else none
  | .lst a, .lst b => if a.length + b.length ≤ 16777216 then some (.lst (a ++ b)) else none
  | .str a, .str b => if a.length + b.length ≤ 16777216 then some (.str (a ++ b)) else none
  | _, _ => none
/-- .. of ints alone -/
def dAddI : D → D → Option D := dI fun i j => some (.int (i + j))
def dMul : D → D → Option D
  | .int i, .int j => if -18446744073709551616 < i ∧ i < 18446744073709551616 ∨ -18446744073709551616 < j ∧ j < 18446744073709551616 then some (.int (i * j)) else none
  | .lst a, .int k => if 0 ≤ k ∧ k < 16777216 ∧ a.length * k.toNat ≤ 16777216 then some (.lst (List.replicate k.toNat a).flatten) else none
  | _, _ => none
theorem o_addI : OOk X (binaryOp .Add) (rI0 fun i j => .int (i + j)) dAddI := ⟨op_add, snd_I0 fun i j d e G => by cases e; exact .int _⟩
theorem RpL.nil_iff {K : PySem.W.Frag} {G : Hp} {xs : List V} {ds : List D} (r : RpL K G xs ds) : xs = [] ↔ ds = [] := by
  cases r <;> simp
def rAddAll (K : PySem.W.Frag) : R2 := fun x y H Q => (rI0 (fun i j => .int (i + j)) x y H Q ∨ ∃ i j, x = .str i ∧ y = .str j ∧ i.length + j.length ≤ sizeLine ∧ Q (.str (i ++ j)) H) ∨ rCatA K x y H Q ∨ rCat x y H Q
theorem free_ {K : PySem.W.Frag} {C : Cfg} {G H : Hp} {ρ : Env} {σ : L2.St} (R : Rel K C G ρ σ H) {p : Addr} (hp : H p = none) : G p = none := (free_P R hp).2
/-- a new tuple, a new list -/
theorem Rel.newT {K : PySem.W.Frag} {C : Cfg} {G H : Hp} {ρ : Env} {σ : L2.St} (R : Rel K C G ρ σ H) {p : Addr} (hp : H p = none) {xs : List V} {ds : List D} (h : RpL K G xs ds) :
    Same G (upd G p (.tup xs)) ∧ Rel K C (upd G p (.tup xs)) ρ σ (upd H p (.tup xs)) ∧ Rp K (upd G p (.tup xs)) (.ref p) (.tup ds) :=
  ⟨same_upd (free_ R hp), R.alloc hp, .tup (SqT.of upd_same) (h.mono (same_upd (free_ R hp)))⟩
theorem Rel.newL {K : PySem.W.Frag} {C : Cfg} {G H : Hp} {ρ : Env} {σ : L2.St} (R : Rel K C G ρ σ H) {p : Addr} (hp : H p = none) {xs : List V} {ds : List D} (h : RpL K G xs ds) :
    Same G (upd G p (.lst xs)) ∧ Rel K C (upd G p (.lst xs)) ρ σ (upd H p (.lst xs)) ∧ Rp K (upd G p (.lst xs)) (.ref p) (.lst ds) :=
  ⟨same_upd (free_ R hp), R.alloc hp, .lst upd_same (h.mono (same_upd (free_ R hp)))⟩
theorem Rel.newD {K : PySem.W.Frag} {C : Cfg} {G H : Hp} {ρ : Env} {σ : L2.St} (R : Rel K C G ρ σ H) {p : Addr} (hp : H p = none) {xs : List (Key × V)} {ds : List (Key × D)} (h : RpM K G xs ds) :
    Same G (upd G p (.dK xs)) ∧ Rel K C (upd G p (.dK xs)) ρ σ (upd H p (.dK xs)) ∧ Rp K (upd G p (.dK xs)) (.ref p) (.dct ds) :=
  ⟨same_upd (free_ R hp), R.alloc hp, .dct (.inl upd_same) (h.mono (same_upd (free_ R hp)))⟩
theorem o_add : OOk X (binaryOp .Add) (rAddAll X.K) dAdd := ⟨(op_add.or op_add_str).or (op_catA.or op_cat), fun C G ρ σ H x y dx dy d R rx ry e Q q => by
  cases dx <;> cases dy <;> first | cases e | skip
  · obtain rfl := rx.int
    obtain rfl := ry.int
    exact .inl (.inl ⟨_, _, rfl, rfl, q _ G H (Same.refl G) R (.int _)⟩)
  · obtain rfl := rx.str
    obtain rfl := ry.str
    unfold dAdd at e
    dsimp only at e
    split at e
    · rename_i h
      cases e
      exact .inl (.inr ⟨_, _, rfl, rfl, by rw [sizeLine_eq]; exact h, q _ G H (Same.refl G) R (.str _)⟩)
    · cases e
  · obtain ⟨a, xs, rfl, s1, r1⟩ := rx.tup
    obtain ⟨b, ys, rfl, s2, r2⟩ := ry.tup
    unfold dAdd at e
    dsimp only at e
    split at e
    · rename_i h
      cases e
      refine .inr (.inl ⟨a, b, xs, ys, rfl, rfl, (Le.of R.gh (K := X.K)).sqT s1, (Le.of R.gh (K := X.K)).sqT s2, by rw [r1.length, r2.length, sizeLine_eq]; exact h, fun hx => ?_, fun hx hy => ?_, fun hx hy p hp => ?_⟩)
      · rw [r1.nil_iff] at hx
        subst hx
        exact q _ G H (Same.refl G) R (.tup s2 r2)
      · rw [r2.nil_iff] at hy
        subst hy
        exact q _ G H (Same.refl G) R (.tup s1 (by rw [List.append_nil]; exact r1))
      · obtain ⟨a1, a2, a3⟩ := R.newT hp (r1.append r2)
        exact q _ _ _ a1 a2 a3
    · cases e
  · obtain ⟨a, xs, rfl, s1, r1⟩ := rx.lst R.gh
    obtain ⟨b, ys, rfl, s2, r2⟩ := ry.lst R.gh
    unfold dAdd at e
    dsimp only at e
    split at e
    · rename_i h
      cases e
      refine .inr (.inr ⟨a, b, xs, ys, rfl, rfl, s1, s2, by rw [r1.length, r2.length, sizeLine_eq]; exact h, fun p hp => ?_⟩)
      obtain ⟨a1, a2, a3⟩ := R.newL hp (r1.append r2)
      exact q _ _ _ a1 a2 a3
    · cases e⟩
theorem o_mul : OOk X (binaryOp .Mult) (fun x y H Q => rI CMul (fun i j => .int (i * j)) x y H Q ∨ rRep x y H Q) dMul := ⟨op_mul.or op_rep, fun C G ρ σ H x y dx dy d R rx ry e Q q => by
  cases dx <;> cases dy <;> first | cases e | skip
  · obtain rfl := rx.int
    obtain rfl := ry.int
    unfold dMul at e
    dsimp only at e
    split at e
    · rename_i h
      cases e
      exact .inl ⟨_, _, rfl, rfl, by unfold CMul; omega, q _ G H (Same.refl G) R (.int _)⟩
    · cases e
  · obtain ⟨a, xs, rfl, s1, r1⟩ := rx.lst R.gh
    obtain rfl := ry.int
    unfold dMul at e
    dsimp only at e
    split at e
    · rename_i h
      cases e
      refine .inr ⟨a, _, xs, rfl, rfl, s1, by omega, by omega, by rw [r1.length, sizeLine_eq]; exact h.2.2, fun p hp => ?_⟩
      obtain ⟨a1, a2, a3⟩ := R.newL hp (r1.rep _)
      exact q _ _ _ a1 a2 a3
    · cases e⟩
/-- in place, ints -/
theorem ip_addI : PIp X .Add (fun x y H Q => rI0 (fun i j => .int (i + j)) x y H Q) := ip_add
theorem ip_subI : PIp X .Sub (fun x y H Q => rI0 (fun i j => .int (i - j)) x y H Q) := ip_sub
end

/-! ### == and in, deep -/
mutual
def deq : D → D → Bool
  | .non, .non => true
  | .bl a, .bl b => a == b
  | .bl a, .int j => (if a then 1 else 0) == j
  | .int i, .bl b => i == (if b then 1 else 0)
  | .int i, .int j => i == j
  | .str x, .str y => x == y
  | .lst xs, .lst ys => deqL xs ys
  | .tup xs, .tup ys => deqL xs ys
  | _, _ => false
def deqL : List D → List D → Bool
  | [], [] => true
  | x :: xs, y :: ys => deq x y && deqL xs ys
  | _, _ => false
end
def lev : Nat → D → Bool
  | _, .non => true
  | _, .bl _ => true
  | _, .int _ => true
  | _, .str _ => true
  | 0, .tup _ => false
  | 0, .lst _ => false
  | n + 1, .tup ds => ds.all (lev n)
  | n + 1, .lst ds => ds.all (lev n)
  | _, .dct _ => false
mutual
def toPy : D → PyData
  | .non => .none
  | .bl b => .bool b
  | .int i => .int i
  | .str x => .str x
  | .tup ds => .tuple (toPys ds)
  | .lst ds => .list (toPys ds)
  | .dct _ => .dict []
def toPys : List D → List PyData
  | [] => []
  | d :: ds => toPy d :: toPys ds
end
mutual
theorem deq_eqv : ∀ d e : D, PyData.eqv (toPy d) (toPy e) = deq d e
  | .non, e => by cases e <;> simp [toPy, PyData.eqv, deq]
  | .bl a, e => by cases e <;> simp [toPy, PyData.eqv, deq]
  | .int a, e => by cases e <;> simp [toPy, PyData.eqv, deq]
  | .str a, e => by cases e <;> simp [toPy, PyData.eqv, deq]
  | .dct a, e => by cases e <;> simp [toPy, PyData.eqv, deq]
  | .tup a, .tup b => by simp only [toPy, PyData.eqv, deq]; exact deqL_eqv a b
  | .lst a, .lst b => by simp only [toPy, PyData.eqv, deq]; exact deqL_eqv a b
  | .tup a, .non => by simp [toPy, PyData.eqv, deq]
  | .tup a, .bl _ => by simp [toPy, PyData.eqv, deq]
  | .tup a, .int _ => by simp [toPy, PyData.eqv, deq]
  | .tup a, .str _ => by simp [toPy, PyData.eqv, deq]
  | .tup a, .lst _ => by simp [toPy, PyData.eqv, deq]
  | .tup a, .dct _ => by simp [toPy, PyData.eqv, deq]
  | .lst a, .non => by simp [toPy, PyData.eqv, deq]
  | .lst a, .bl _ => by simp [toPy, PyData.eqv, deq]
  | .lst a, .int _ => by simp [toPy, PyData.eqv, deq]
  | .lst a, .str _ => by simp [toPy, PyData.eqv, deq]
  | .lst a, .tup _ => by simp [toPy, PyData.eqv, deq]
  | .lst a, .dct _ => by simp [toPy, PyData.eqv, deq]
theorem deqL_eqv : ∀ ds es : List D, PyData.eqvAll (toPys ds) (toPys es) = deqL ds es
  | [], [] => by simp [toPys, PyData.eqvAll, deqL]
  | [], _ :: _ => by simp [toPys, PyData.eqvAll, deqL]
  | _ :: _, [] => by simp [toPys, PyData.eqvAll, deqL]
  | d :: ds, e :: es => by simp only [toPys, PyData.eqvAll, deqL, deq_eqv d e, deqL_eqv ds es]
end
theorem lev_plain : ∀ (n : Nat) (d : D), lev n d = true → (toPy d).plain = true ∧ (toPy d).depth ≤ n := by
  intro n
  have all : ∀ (m : Nat), (∀ d, lev m d = true → (toPy d).plain = true ∧ (toPy d).depth ≤ m) → ∀ ds : List D, ds.all (lev m) = true → PyData.plainAll (toPys ds) = true ∧ PyData.depthAll (toPys ds) ≤ m := by
    intro m ih ds
    induction ds with
    | nil => intro _; simp [toPys, PyData.plainAll, PyData.depthAll]
    | cons d ds ih2 =>
      intro h
      rw [List.all_cons, Bool.and_eq_true] at h
      obtain ⟨a, b⟩ := ih d h.1
      obtain ⟨a2, b2⟩ := ih2 h.2
      refine ⟨by simp [toPys, PyData.plainAll, a, a2], by simp only [toPys, PyData.depthAll]; omega⟩
  induction n with
  | zero =>
    intro d h
    cases d <;> simp_all [lev, toPy, PyData.plain, PyData.depth]
  | succ n ih =>
    intro d h
    cases d with
    | tup ds =>
      have h' : ds.all (lev n) = true := h
      obtain ⟨a, b⟩ := all n ih ds h'
      simp only [toPy, PyData.plain, PyData.depth]
      exact ⟨a, by omega⟩
    | lst ds =>
      have h' : ds.all (lev n) = true := h
      obtain ⟨a, b⟩ := all n ih ds h'
      simp only [toPy, PyData.plain, PyData.depth]
      exact ⟨a, by omega⟩
    | dct _ => simp [lev] at h
    | non => simp [toPy, PyData.plain, PyData.depth]
    | bl _ => simp [toPy, PyData.plain, PyData.depth]
    | int _ => simp [toPy, PyData.plain, PyData.depth]
    | str _ => simp [toPy, PyData.plain, PyData.depth]
theorem lev_plainAll {n : Nat} {ds : List D} (h : ds.all (lev n) = true) : PyData.plainAll (toPys ds) = true ∧ PyData.depthAll (toPys ds) ≤ n := by
  have := lev_plain (n + 1) (.lst ds) (by simpa [lev] using h)
  simp only [toPy, PyData.plain, PyData.depth] at this
  exact ⟨this.1, by omega⟩
mutual
theorem Rp.dp {K : PySem.W.Frag} {G : Hp} : ∀ (d : D) (v : V) (n : Nat), lev n d = true → Rp K G v d → Dp K G v (toPy d)
  | .non, _, _, _, r => by cases r; exact .non
  | .bl _, _, _, _, r => by cases r; exact .bl _
  | .int _, _, _, _, r => by cases r; exact .int _
  | .str _, _, _, _, r => by cases r; exact .str _
  | .tup ds, _, 0, h, r => by simp [lev] at h
  | .lst ds, _, 0, h, r => by simp [lev] at h
  | .tup ds, _, n + 1, h, r => by
    cases r with | tup s q => exact .tup s (RpL.dp ds _ n (by simpa only [lev] using h) q)
  | .lst ds, _, n + 1, h, r => by
    cases r with | lst s q => exact .lst (SqL.of s) (RpL.dp ds _ n (by simpa only [lev] using h) q)
  | .dct _, _, n, h, _ => by cases n <;> simp [lev] at h
theorem RpL.dp {K : PySem.W.Frag} {G : Hp} : ∀ (ds : List D) (vs : List V) (n : Nat), ds.all (lev n) = true → RpL K G vs ds → DpAll K G vs (toPys ds)
  | [], _, _, _, r => by cases r; exact .nil
  | d :: ds, _, n, h, r => by
    rw [List.all_cons, Bool.and_eq_true] at h
    cases r with | cons a b => exact .cons (Rp.dp d _ n h.1 a) (RpL.dp ds _ n h.2 b)
end
def LV : Nat := 60
def dEq (a b : D) : Option D := if lev LV a && lev LV b then some (.bl (deq a b)) else none
def dNe (a b : D) : Option D := if lev LV a && lev LV b then some (.bl (!deq a b)) else none
def rEqP (K : PySem.W.Frag) : R2 := fun x y H Q => ∃ d e, Dp K H x d ∧ Dp K H y e ∧ d.plain = true ∧ e.plain = true ∧ d.depth ≤ 60 ∧ e.depth ≤ 60 ∧ Q (.bl (PyData.eqv d e)) H
def rNeP (K : PySem.W.Frag) : R2 := fun x y H Q => ∃ d e, Dp K H x d ∧ Dp K H y e ∧ d.plain = true ∧ e.plain = true ∧ d.depth ≤ 60 ∧ e.depth ≤ 60 ∧ Q (.bl (!PyData.eqv d e)) H
theorem Ro.dp {K : PySem.W.Frag} {G H : Hp} {x : V} {d : D} {n : Nat} (h : Ro K G H x d) (gh : Same G H) (l : lev n d = true) : Dp K H x (toPy d) := Rp.dp d x n l (h.rp gh)
section
variable {X : Cx}
theorem o_eqD (hu : X.A.units + 64 < cLine) : OOk X (compareOp .Eq) (rEqP X.K) dEq := ⟨by
    intro pins s σ H x y v u Q I rx ry h
    obtain ⟨d, e, hd, he, pd, pe, dd, de, q⟩ := h
    obtain ⟨as, r1⟩ := Dp.reads I d x v hd rx
    obtain ⟨bs, r2⟩ := Dp.reads I e y u he ry
    exact SeqAt.eq_plain r1 r2 pd pe (by omega) ⟨.bl _, H, I, rfl, q⟩, fun C G ρ σ H x y dx dy d R rx ry e Q q => by
  unfold dEq at e
  split at e
  · rename_i h
    rw [Bool.and_eq_true] at h
    cases e
    obtain ⟨a1, a2⟩ := lev_plain _ _ h.1
    obtain ⟨b1, b2⟩ := lev_plain _ _ h.2
    exact ⟨_, _, rx.dp R.gh h.1, ry.dp R.gh h.2, a1, b1, a2, b2, by rw [deq_eqv]; exact q _ G H (Same.refl G) R (.bl _)⟩
  · cases e⟩
theorem o_neD (hu : X.A.units + 64 < cLine) : OOk X (compareOp .NotEq) (rNeP X.K) dNe := ⟨by
    intro pins s σ H x y v u Q I rx ry h
    obtain ⟨d, e, hd, he, pd, pe, dd, de, q⟩ := h
    obtain ⟨as, r1⟩ := Dp.reads I d x v hd rx
    obtain ⟨bs, r2⟩ := Dp.reads I e y u he ry
    exact SeqAt.ne_plain r1 r2 pd pe (by omega) ⟨.bl _, H, I, rfl, q⟩, fun C G ρ σ H x y dx dy d R rx ry e Q q => by
  unfold dNe at e
  split at e
  · rename_i h
    rw [Bool.and_eq_true] at h
    cases e
    obtain ⟨a1, a2⟩ := lev_plain _ _ h.1
    obtain ⟨b1, b2⟩ := lev_plain _ _ h.2
    exact ⟨_, _, rx.dp R.gh h.1, ry.dp R.gh h.2, a1, b1, a2, b2, by rw [deq_eqv]; exact q _ G H (Same.refl G) R (.bl _)⟩
  · cases e⟩
/-- is None -/
def isNon : D → Bool
  | .non => true
  | _ => false
def dIsN : D → D → Option D
  | a, .non => some (.bl (isNon a))
  | _, _ => none
def dNotN : D → D → Option D
  | a, .non => some (.bl (!isNon a))
  | _, _ => none
def dIsB : D → D → Option D
  | .bl a, .bl b => some (.bl (decide (a = b)))
  | _, _ => none
def dNotB : D → D → Option D
  | .bl a, .bl b => some (.bl (!decide (a = b)))
  | _, _ => none
theorem Rp.non_iff {K : PySem.W.Frag} {G : Hp} {x : V} {d : D} (h : Rp K G x d) : decide (x = .non) = isNon d := by
  cases h <;> simp [isNon]
theorem Ro.non {K : PySem.W.Frag} {G H : Hp} {x : V} (h : Ro K G H x .non) : x = .non := by
  rcases h with h | ⟨_, _, _, _, h, _⟩ | ⟨_, _, _, _, h, _⟩
  · cases h; rfl
  · cases h
  · cases h
theorem o_isN : OOk X (compareOp .Is) (fun x y H Q => y = .non ∧ Q (.bl (decide (x = .non))) H) dIsN := ⟨op_isN, fun C G ρ σ H x y dx dy d R rx ry e Q q => by
  cases dy <;> simp only [dIsN, dNotN] at e <;> first | cases e | skip
  refine ⟨ry.non, ?_⟩
  rw [(rx.rp R.gh).non_iff]
  exact q _ G H (Same.refl G) R (.bl _)⟩
theorem o_notN : OOk X (compareOp .IsNot) (fun x y H Q => y = .non ∧ Q (.bl (!decide (x = .non))) H) dNotN := ⟨op_notN, fun C G ρ σ H x y dx dy d R rx ry e Q q => by
  cases dy <;> simp only [dIsN, dNotN] at e <;> first | cases e | skip
  refine ⟨ry.non, ?_⟩
  rw [(rx.rp R.gh).non_iff]
  exact q _ G H (Same.refl G) R (.bl _)⟩
theorem o_isB : OOk X (compareOp .Is) (fun x y H Q => ∃ a b, x = .bl a ∧ y = .bl b ∧ Q (.bl (decide (a = b))) H) dIsB := ⟨op_is_bl, fun C G ρ σ H x y dx dy d R rx ry e Q q => by
  cases dx <;> cases dy <;> first | cases e | skip
  obtain rfl := rx.bl
  obtain rfl := ry.bl
  exact ⟨_, _, rfl, rfl, q _ G H (Same.refl G) R (.bl _)⟩⟩
theorem o_notB : OOk X (compareOp .IsNot) (fun x y H Q => ∃ a b, x = .bl a ∧ y = .bl b ∧ Q (.bl (!decide (a = b))) H) dNotB := ⟨op_isnot_bl, fun C G ρ σ H x y dx dy d R rx ry e Q q => by
  cases dx <;> cases dy <;> first | cases e | skip
  obtain rfl := rx.bl
  obtain rfl := ry.bl
  exact ⟨_, _, rfl, rfl, q _ G H (Same.refl G) R (.bl _)⟩⟩
end

/-! ### dicts: what is there -/
def mget (kvs : List (Key × D)) (k : Key) : Option D := (kvs.find? fun kv => decide (kv.1 = k)).map (·.2)
def mput (kvs : List (Key × D)) (k : Key) (d : D) : List (Key × D) := if (kvs.any fun kv => decide (kv.1 = k)) = true then kvs.map fun kv => if kv.1 = k then (kv.1, d) else kv else kvs ++ [(k, d)]
def dkey : D → Option Key
  | .int i => some (.inl i)
  | .str x => some (.inr x)
  | _ => none
end Fd

set_option Elab.async false
set_option linter.all false
set_option maxRecDepth 100000
/-! Fd4: in, subscripts, slices, lengths, conversions. -/
namespace Fd
open PySem PySem.Spec PyProof.Rows L2

theorem PE.or {X : Cx} {e : Expr} {t t' : TE} (h : PE X e t) (h' : PE X e t') : PE X e (fun σ H Q => t σ H Q ∨ t' σ H Q) := ⟨fun pins s σ H Q I q => by
  rcases q with q | q
  · exact h.run pins s σ H Q I q
  · exact h'.run pins s σ H Q I q⟩
theorem kv_of {K : PySem.W.Frag} {G : Hp} {x : V} {d : D} {k : Key} (h : Rp K G x d) (e : dkey d = some k) : x = kV k := by
  cases h <;> cases e <;> rfl
theorem Ro.key {K : PySem.W.Frag} {G H : Hp} {x : V} {d : D} {k : Key} (h : Ro K G H x d) (e : dkey d = some k) : x = kV k := by
  rcases h with h | ⟨_, _, _, _, rfl, _⟩ | ⟨_, _, _, _, rfl, _⟩
  · exact kv_of h e
  · cases e
  · cases e
theorem RpM.get {K : PySem.W.Frag} {G : Hp} (k : Key) : ∀ {kvs : List (Key × V)} {ds : List (Key × D)}, RpM K G kvs ds → match mget ds k with
    | some d => ∃ v, valV kvs k = some v ∧ Rp K G v d
    | none => valV kvs k = none
  | _, _, .nil => rfl
  | _, _, .cons (k := k') (v := v) (d := d) (vs := vs) (ds := ds) a b => by
    by_cases h : k' = k
    · subst h
      have e1 : mget ((k', d) :: ds) k' = some d := by simp [mget]
      rw [e1]
      exact ⟨v, by simp [valV], a⟩
    · have e1 : mget ((k', d) :: ds) k = mget ds k := by simp [mget, List.find?_cons, h]
      have e2 : valV ((k', v) :: vs) k = valV vs k := valV_neg h
      rw [e1, e2]
      exact RpM.get k b
theorem RpM.length {K : PySem.W.Frag} {G : Hp} : ∀ {kvs : List (Key × V)} {ds : List (Key × D)}, RpM K G kvs ds → kvs.length = ds.length
  | _, _, .nil => rfl
  | _, _, .cons _ b => by simp [RpM.length b]
theorem RpM.anyK {K : PySem.W.Frag} {G : Hp} (k : Key) : ∀ {kvs : List (Key × V)} {ds : List (Key × D)}, RpM K G kvs ds → (kvs.any fun kv => decide (kv.1 = k)) = (ds.any fun kv => decide (kv.1 = k))
  | _, _, .nil => rfl
  | _, _, .cons _ b => by rw [List.any_cons, List.any_cons, RpM.anyK k b]
theorem RpM.map {K : PySem.W.Frag} {G : Hp} (k : Key) {v : V} {d : D} (r : Rp K G v d) : ∀ {kvs : List (Key × V)} {ds : List (Key × D)}, RpM K G kvs ds → RpM K G (kvs.map fun kv => if kv.1 = k then (kv.1, v) else kv) (ds.map fun kv => if kv.1 = k then (kv.1, d) else kv)
  | _, _, .nil => .nil
  | _, _, .cons (k := k') a b => by
    rw [List.map_cons, List.map_cons]
    by_cases h : k' = k
    · simp only [h, if_true]; exact .cons r (RpM.map k r b)
    · simp only [h, if_false]; exact .cons a (RpM.map k r b)
theorem RpM.append {K : PySem.W.Frag} {G : Hp} : ∀ {xs ys : List (Key × V)} {ds es : List (Key × D)}, RpM K G xs ds → RpM K G ys es → RpM K G (xs ++ ys) (ds ++ es)
  | _, _, _, _, .nil, h => h
  | _, _, _, _, .cons a b, h => .cons a (RpM.append b h)
theorem RpM.put {K : PySem.W.Frag} {G : Hp} (k : Key) {v : V} {d : D} (r : Rp K G v d) {kvs : List (Key × V)} {ds : List (Key × D)} (h : RpM K G kvs ds) : RpM K G (putK kvs k v) (mput ds k d) := by
  unfold putK mput
  rw [h.anyK k]
  split
  · exact h.map k r
  · exact h.append (.cons r .nil)

/-! ### in -/
def dIn (a b : D) : Option D := match b with
  | .lst ds => if ds.all (lev LV) && lev LV a then some (.bl (ds.any fun z => deq z a)) else none
  | .tup ds => if ds.all (lev LV) && lev LV a then some (.bl (ds.any fun z => deq z a)) else none
  | .dct kvs => (dkey a).bind fun k => some (.bl (mget kvs k).isSome)
  | _ => none
def dNot' (o : Option D) : Option D := o.bind dNot
def dNotIn (a b : D) : Option D := match b with
  | .lst ds => if ds.all (lev LV) && lev LV a then some (.bl (!ds.any fun z => deq z a)) else none
  | .tup ds => if ds.all (lev LV) && lev LV a then some (.bl (!ds.any fun z => deq z a)) else none
  | .dct kvs => (dkey a).bind fun k => some (.bl (!(mget kvs k).isSome))
  | _ => none
def rInP (K : PySem.W.Frag) (n : Bool) : R2 := fun x y H Q => (∃ d ds, Dp K H x d ∧ (Dp K H y (.list ds) ∨ Dp K H y (.tuple ds)) ∧ d.plain = true ∧ PyData.plainAll ds = true ∧ d.depth ≤ 60 ∧ Q (.bl (if n then !(ds.any fun z => PyData.eqv z d) else ds.any fun z => PyData.eqv z d)) H) ∨
  ∃ a o, y = .ref a ∧ DGet H a x o ∧ Q (.bl (if n then !o.isSome else o.isSome)) H
theorem any_toPys (a : D) : ∀ ds : List D, ((toPys ds).any fun z => PyData.eqv z (toPy a)) = ds.any fun z => deq z a
  | [] => rfl
  | d :: ds => by simp only [toPys, List.any_cons, deq_eqv, any_toPys a ds]
section
variable {X : Cx}
theorem op_inP (hu : X.A.units + 65 < cLine) : OpR X (compareOp .In) (rInP X.K false) := by
  intro pins s σ H x y v u Q I rx ry h
  rcases h with ⟨d, ds, hd, hy, pd, pds, dd, q⟩ | ⟨a, o, rfl, g, q⟩
  · obtain ⟨as, r1⟩ := Dp.reads I d x v hd rx
    rcases hy with hy | hy
    · obtain ⟨bs, r2⟩ := Dp.reads I _ y u hy ry
      exact SeqAt.in_list_data r2 r1 pds pd (by omega) ⟨.bl _, H, I, rfl, q⟩
    · obtain ⟨bs, r2⟩ := Dp.reads I _ y u hy ry
      exact SeqAt.in_tuple_data r2 r1 pds pd (by omega) ⟨.bl _, H, I, rfl, q⟩
  · obtain rfl : u = Value.ref a := ry
    exact d_in (by omega) I g rx fun s3 I3 => ⟨.bl o.isSome, H, I3, rfl, q⟩
theorem op_notInP (hu : X.A.units + 65 < cLine) : OpR X (compareOp .NotIn) (rInP X.K true) := by
  intro pins s σ H x y v u Q I rx ry h
  rcases h with ⟨d, ds, hd, hy, pd, pds, dd, q⟩ | ⟨a, o, rfl, g, q⟩
  · obtain ⟨as, r1⟩ := Dp.reads I d x v hd rx
    rcases hy with hy | hy
    · obtain ⟨bs, r2⟩ := Dp.reads I _ y u hy ry
      exact SeqAt.notIn_list_data r2 r1 pds pd (by omega) ⟨.bl _, H, I, rfl, q⟩
    · obtain ⟨bs, r2⟩ := Dp.reads I _ y u hy ry
      exact SeqAt.notIn_tuple_data r2 r1 pds pd (by omega) ⟨.bl _, H, I, rfl, q⟩
  · obtain rfl : u = Value.ref a := ry
    exact d_notIn (by omega) I g rx fun s3 I3 => ⟨.bl (!o.isSome), H, I3, rfl, q⟩
theorem RpL.dpl {K : PySem.W.Frag} {G : Hp} {ds : List D} {n : Nat} {x : V} (h : ds.all (lev n) = true) (r : Rp K G x (.lst ds)) : Dp K G x (.list (toPys ds)) := Rp.dp (.lst ds) x (n + 1) (by simpa only [lev] using h) r
theorem RpL.dpt {K : PySem.W.Frag} {G : Hp} {ds : List D} {n : Nat} {x : V} (h : ds.all (lev n) = true) (r : Rp K G x (.tup ds)) : Dp K G x (.tuple (toPys ds)) := Rp.dp (.tup ds) x (n + 1) (by simpa only [lev] using h) r
theorem snd_inP {K : PySem.W.Frag} (n : Bool) {g : D → D → Option D} (h1 : ∀ a ds d, (g a (.lst ds) = some d ∨ g a (.tup ds) = some d) → (ds.all (lev LV) && lev LV a) = true ∧ d = .bl (if n then !(ds.any fun z => deq z a) else ds.any fun z => deq z a))
    (h2 : ∀ a kvs d, g a (.dct kvs) = some d → ∃ k, dkey a = some k ∧ d = .bl (if n then !(mget kvs k).isSome else (mget kvs k).isSome)) (h3 : ∀ a b d, g a b = some d → (∃ ds, b = .lst ds) ∨ (∃ ds, b = .tup ds) ∨ ∃ kvs, b = .dct kvs) : SndO K (rInP K n) g := fun C G ρ σ H x y dx dy d R rx ry e Q q => by
  rcases h3 _ _ _ e with ⟨ds, rfl⟩ | ⟨ds, rfl⟩ | ⟨kvs, rfl⟩
  · obtain ⟨hl, rfl⟩ := h1 _ _ _ (.inl e)
    rw [Bool.and_eq_true] at hl
    obtain ⟨a1, a2⟩ := lev_plain _ _ hl.2
    obtain ⟨b1, b2⟩ := lev_plainAll hl.1
    refine .inl ⟨_, _, rx.dp R.gh hl.2, .inl (RpL.dpl hl.1 (ry.rp R.gh)), a1, b1, a2, ?_⟩
    rw [any_toPys]
    exact q _ G H (Same.refl G) R (.bl _)
  · obtain ⟨hl, rfl⟩ := h1 _ _ _ (.inr e)
    rw [Bool.and_eq_true] at hl
    obtain ⟨a1, a2⟩ := lev_plain _ _ hl.2
    obtain ⟨b1, b2⟩ := lev_plainAll hl.1
    refine .inl ⟨_, _, rx.dp R.gh hl.2, .inr (RpL.dpt hl.1 (ry.rp R.gh)), a1, b1, a2, ?_⟩
    rw [any_toPys]
    exact q _ G H (Same.refl G) R (.bl _)
  · obtain ⟨k, hk, rfl⟩ := h2 _ _ _ e
    obtain ⟨a, xs, rfl, hr, hm⟩ := ry.dct R.gh
    obtain rfl := rx.key hk
    have hg := hm.get k
    refine .inr ⟨a, valV xs k, rfl, .inl ⟨xs, k, hr, rfl, rfl⟩, ?_⟩
    have e2 : (valV xs k).isSome = (mget kvs k).isSome := by
      cases hq : mget kvs k with
      | none => rw [hq] at hg; rw [hg]; rfl
      | some d => rw [hq] at hg; obtain ⟨v, hv, _⟩ := hg; rw [hv]; rfl
    rw [e2]
    exact q _ G H (Same.refl G) R (.bl _)
theorem o_in (hu : X.A.units + 65 < cLine) : OOk X (compareOp .In) (rInP X.K false) dIn := ⟨op_inP hu, snd_inP false (fun a ds d h => by
    rcases h with h | h <;> (unfold dIn at h; dsimp only at h; split at h <;> first | (cases h; exact ⟨by assumption, rfl⟩) | cases h)) (fun a kvs d h => by
    unfold dIn at h
    obtain ⟨k, hk, h⟩ := Option.bind_eq_some_iff.mp h
    cases h
    exact ⟨k, hk, rfl⟩) (fun a b d h => by
    cases b <;> first | cases h | skip
    · exact .inr (.inl ⟨_, rfl⟩)
    · exact .inl ⟨_, rfl⟩
    · exact .inr (.inr ⟨_, rfl⟩))⟩
theorem o_notIn (hu : X.A.units + 65 < cLine) : OOk X (compareOp .NotIn) (rInP X.K true) dNotIn := ⟨op_notInP hu, snd_inP true (fun a ds d h => by
    rcases h with h | h <;> (unfold dNotIn at h; dsimp only at h; split at h <;> first | (cases h; exact ⟨by assumption, rfl⟩) | cases h)) (fun a kvs d h => by
    unfold dNotIn at h
    obtain ⟨k, hk, h⟩ := Option.bind_eq_some_iff.mp h
    cases h
    exact ⟨k, hk, rfl⟩) (fun a b d h => by
    cases b <;> first | cases h | skip
    · exact .inr (.inl ⟨_, rfl⟩)
    · exact .inl ⟨_, rfl⟩
    · exact .inr (.inr ⟨_, rfl⟩))⟩
end

/-! ### subscripts -/
/-- the item at a place of any sign -/
def atD (ds : List D) (i : Int) : Option D := if 0 ≤ i then ds[i.toNat]? else if -(ds.length : Int) ≤ i then ds[(i + ds.length).toNat]? else none
theorem atD_spec {K : PySem.W.Frag} {G : Hp} {xs : List V} {ds : List D} {i : Int} {d : D} (h : RpL K G xs ds) (e : atD ds i = some d) : ∃ v, atI xs i = some v ∧ Rp K G v d := by
  unfold atD at e
  unfold atI ixN
  rw [h.length]
  split at e
  · rename_i h0
    obtain ⟨v, hv, r⟩ := h.get e
    have hl : i.toNat < ds.length := (List.getElem?_eq_some_iff.mp e).1
    rw [if_pos h0, if_pos (by omega)]
    exact ⟨v, hv, r⟩
  · rename_i h0
    split at e
    · rename_i h1
      obtain ⟨v, hv, r⟩ := h.get e
      rw [if_neg h0, if_pos h1]
      exact ⟨v, hv, r⟩
    · cases e
def dIx (a b : D) : Option D := match a with
  | .tup ds => match b with
    | .int i => atD ds i
    | _ => none
  | .lst ds => match b with
    | .int i => atD ds i
    | _ => none
  | .dct kvs => (dkey b).bind fun k => mget kvs k
  | .str z => match b with
    | .int i => if 0 ≤ i ∧ z.length ≤ 16777216 then (z.cps.toList[i.toNat]?).map fun c => .str ⟨#[c]⟩ else none
    | _ => none
  | _ => none
def tIxAll (K : PySem.W.Frag) (ta tb : TE) : TE := fun σ H Q => tOp (rIx K) ta tb σ H Q ∨ tDGet ta tb σ H Q
section
variable {X : Cx} {a b : Expr} {ta tb : TE} {fa fb : E} {pos : Pos}
theorem e_ix (hu : X.A.units + 1 < cLine) (ha : EOk X a ta fa) (hb : EOk X b tb fb) (hs : PlainIx b := by exact fun _ _ => rfl) : EOk X (.Subscript a b pos) (tIxAll X.K ta tb) (eOp dIx fa fb) := ⟨PE.or (pe_ix ix_seq ha.pe hb.pe hs) (pe_dget hu ha.pe hb.pe hs), fun C G ρ σ H r ρ' R e Q q => by
  unfold eOp at e
  obtain ⟨⟨r1, ρ1⟩, e1, e⟩ := Option.bind_eq_some_iff.mp e
  obtain ⟨⟨r2, ρ2⟩, e2, e⟩ := Option.bind_eq_some_iff.mp e
  obtain ⟨d1, e3, e⟩ := Option.bind_eq_some_iff.mp e
  obtain ⟨d2, e4, e⟩ := Option.bind_eq_some_iff.mp e
  obtain ⟨d, e5, e⟩ := Option.bind_eq_some_iff.mp e
  cases e
  cases d1 with
  | tup ds =>
    cases d2 <;> first | cases e5 | skip
    refine .inl (ha.sn C G ρ σ H _ _ R e1 _ fun v G1 H1 s1 R1 v1 => hb.sn C G1 ρ1 σ H1 _ _ R1 e2 _ fun u G2 H2 s2 R2 v2 => ?_)
    obtain ⟨p, xs, rfl, hs, hr⟩ := (R2.rd (v1.mono s2) e3).tup
    obtain rfl := (R2.rd v2 e4).int
    obtain ⟨v, hv, rv⟩ := atD_spec hr e5
    exact .inr (.inl ⟨p, xs, _, v, rfl, rfl, (Le.of R2.gh (K := X.K)).sqT hs, hv, q v G2 H2 (s1.trans s2) R2 rv⟩)
  | lst ds =>
    cases d2 <;> first | cases e5 | skip
    refine .inl (ha.sn C G ρ σ H _ _ R e1 _ fun v G1 H1 s1 R1 v1 => hb.sn C G1 ρ1 σ H1 _ _ R1 e2 _ fun u G2 H2 s2 R2 v2 => ?_)
    obtain ⟨p, xs, rfl, hs, hr⟩ := (R2.rd (v1.mono s2) e3).lst R2.gh
    obtain rfl := (R2.rd v2 e4).int
    obtain ⟨v, hv, rv⟩ := atD_spec hr e5
    exact .inl ⟨p, xs, _, v, rfl, rfl, SqL.of hs, hv, q v G2 H2 (s1.trans s2) R2 rv⟩
  | dct kvs =>
    obtain ⟨k, hk, e5⟩ := Option.bind_eq_some_iff.mp e5
    refine .inr (ha.sn C G ρ σ H _ _ R e1 _ fun v G1 H1 s1 R1 v1 => hb.sn C G1 ρ1 σ H1 _ _ R1 e2 _ fun u G2 H2 s2 R2 v2 => ?_)
    obtain ⟨p, xs, rfl, hs, hr⟩ := (R2.rd (v1.mono s2) e3).dct R2.gh
    obtain rfl := (R2.rd v2 e4).key hk
    have hg := hr.get k
    rw [e5] at hg
    obtain ⟨v, hv, rv⟩ := hg
    exact ⟨p, v, rfl, .inl ⟨xs, k, hs, rfl, hv.symm⟩, q v G2 H2 (s1.trans s2) R2 rv⟩
  | str z =>
    cases d2 <;> first | cases e5 | skip
    rename_i i
    unfold dIx at e5
    dsimp only at e5
    split at e5
    · rename_i hi
      obtain ⟨c, hc, e5⟩ := Option.map_eq_some_iff.mp e5
      subst e5
      refine .inl (ha.sn C G ρ σ H _ _ R e1 _ fun v G1 H1 s1 R1 v1 => hb.sn C G1 ρ1 σ H1 _ _ R1 e2 _ fun u G2 H2 s2 R2 v2 => ?_)
      obtain rfl := (R2.rd (v1.mono s2) e3).str
      obtain rfl := (R2.rd v2 e4).int
      refine .inr (.inr ⟨z, i, c, rfl, rfl, by rw [sizeLine_eq]; exact hi.2, ?_, q _ G2 H2 (s1.trans s2) R2 (.str _)⟩)
      have := atI_nat hc
      rw [Int.toNat_of_nonneg hi.1] at this
      exact this
    · cases e5
  | non => cases e5
  | bl _ => cases e5
  | int _ => cases e5⟩
end

/-! ### slices -/
structure POk (X : Cx) (e : Option Expr) (t : TO) (f : Env → Option (Option Int × Env)) : Prop where
  po : PO X e t
  sn : ∀ C G ρ σ H r ρ', Rel X.K C G ρ σ H → f ρ = some (r, ρ') → ∀ Q : Option Int → Hp → Prop, (∀ G' H', Same G G' → Rel X.K C G' ρ' σ H' → Q r H') → t σ H Q
def pNone : Env → Option (Option Int × Env) := fun ρ => some (none, ρ)
def pSome (f : E) : Env → Option (Option Int × Env) := fun ρ => (f ρ).bind fun p => match p.1 with
  | .d (.int i) => some (some i, p.2)
  | _ => none
/-- the items of ds[lo:hi] -/
def cutD (ds : List D) (lo hi : Option Int) : List D := (ds.drop (HT.sIx ds.length 0 lo)).take (HT.sIx ds.length ds.length hi - HT.sIx ds.length 0 lo)
theorem cut_rp {K : PySem.W.Frag} {G : Hp} {xs : List V} {ds : List D} (h : RpL K G xs ds) (lo hi : Option Int) : RpL K G (cutV xs lo hi) (cutD ds lo hi) := by
  unfold cutV cutD
  rw [h.length]
  exact (h.drop _).take _
def eSl (f1 : E) (fl fh : Env → Option (Option Int × Env)) : E := fun ρ => (f1 ρ).bind fun p => (fl p.2).bind fun l => (fh l.2).bind fun h => (rd h.2 p.1).bind fun d => match d with
  | .tup ds => some (.d (.tup (cutD ds l.1 h.1)), h.2)
  | .lst ds => some (.d (.lst (cutD ds l.1 h.1)), h.2)
  | _ => none
section
variable {X : Cx} {e : Expr} {te : TE} {fe : E} {lo hi : Option Expr} {tl th : TO} {fl fh : Env → Option (Option Int × Env)} {pos p2 : Pos}
theorem p_none : POk X none tNoPart pNone := ⟨po_none, fun C G ρ σ H r ρ' R e Q q => by cases e; exact q G H (Same.refl G) R⟩
theorem p_some (h : EOk X e te fe) : POk X (some e) (tPart te) (pSome fe) := ⟨po_some h.pe, fun C G ρ σ H r ρ' R e Q q => by
  unfold pSome at e
  obtain ⟨⟨r1, ρ1⟩, e1, e⟩ := Option.bind_eq_some_iff.mp e
  refine h.sn C G ρ σ H _ _ R e1 _ fun v G1 H1 s1 R1 v1 => ?_
  cases r1 with
  | s i => cases e
  | d x =>
    cases x with
    | int i => cases e; cases v1; exact ⟨i, rfl, q G1 H1 s1 R1⟩
    | non => cases e
    | bl _ => cases e
    | str _ => cases e
    | tup _ => cases e
    | lst _ => cases e
    | dct _ => cases e⟩
theorem sIx_full {n : Nat} {lo hi : Option Int} (h1 : HT.sIx n 0 lo = 0) (h2 : HT.sIx n n hi = n) {α : Type} (xs : List α) (hn : xs.length = n) : (xs.drop (HT.sIx n 0 lo)).take (HT.sIx n n hi - HT.sIx n 0 lo) = xs := by
  rw [h1, h2, List.drop_zero, Nat.sub_zero, ← hn, List.take_length]
theorem e_slice (he : EOk X e te fe) (hl : POk X lo tl fl) (hh : POk X hi th fh) : EOk X (.Subscript e (.Slice lo hi none p2) pos) (tSl (fun x lo hi H Q => rSlL X.K x lo hi H Q ∨ rSlA X.K x lo hi H Q) te tl th) (eSl fe fl fh) :=
  ⟨pe_slice (sl_list.or sl_tupA) he.pe hl.po hh.po, fun C G ρ σ H r ρ' R e Q q => by
  unfold eSl at e
  obtain ⟨⟨r1, ρ1⟩, e1, e⟩ := Option.bind_eq_some_iff.mp e
  obtain ⟨⟨l, ρ2⟩, e2, e⟩ := Option.bind_eq_some_iff.mp e
  obtain ⟨⟨h, ρ3⟩, e3, e⟩ := Option.bind_eq_some_iff.mp e
  obtain ⟨d, e4, e⟩ := Option.bind_eq_some_iff.mp e
  refine he.sn C G ρ σ H _ _ R e1 _ fun v G1 H1 s1 R1 v1 => ?_
  refine hl.sn C G1 ρ1 σ H1 _ _ R1 e2 _ fun G2 H2 s2 R2 => ?_
  refine hh.sn C G2 ρ2 σ H2 _ _ R2 e3 _ fun G3 H3 s3 R3 => ?_
  have ro := R3.rd (v1.mono (s2.trans s3)) e4
  cases d with
  | tup ds =>
    cases e
    obtain ⟨a, xs, rfl, hs, hr⟩ := ro.tup
    refine .inr ⟨a, xs, rfl, (Le.of R3.gh (K := X.K)).sqT hs, fun hw => ?_, fun hw p hp => ?_⟩
    · refine q _ G3 H3 (s1.trans (s2.trans s3)) R3 (.tup hs ?_)
      have : cutD ds l h = ds := by
        unfold cutD
        rw [hr.length] at hw
        exact sIx_full hw.1 hw.2 ds rfl
      rw [this]; exact hr
    · obtain ⟨a1, a2, a3⟩ := R3.newT hp (cut_rp hr l h)
      exact q _ _ _ (s1.trans (s2.trans (s3.trans a1))) a2 a3
  | lst ds =>
    cases e
    obtain ⟨a, xs, rfl, hs, hr⟩ := ro.lst R3.gh
    refine .inl ⟨a, xs, rfl, SqL.of hs, fun p hp => ?_⟩
    obtain ⟨a1, a2, a3⟩ := R3.newL hp (cut_rp hr l h)
    exact q _ _ _ (s1.trans (s2.trans (s3.trans a1))) a2 a3
  | non => cases e
  | bl _ => cases e
  | int _ => cases e
  | str _ => cases e
  | dct _ => cases e⟩
/-- xs[::-1] of a list -/
def dRev : D → Option D
  | .lst ds => some (.lst ds.reverse)
  | .tup ds => some (.tup ds.reverse)
  | _ => none
theorem e_revL {k : Nat} {p1 p2 p3 : Pos} (he : EOk X e te fe) : EOk X (.Subscript e (.Slice none none (some (.UnaryOp .USub (.Constant (.int 1) k p1) p2)) p3) pos) (tRevL X.K te) (eUn (fun d => match d with | .lst ds => some (.lst ds.reverse) | _ => none) fe) := ⟨pe_revL he.pe, fun C G ρ σ H r ρ' R e Q q => by
  unfold eUn at e
  obtain ⟨⟨r1, ρ1⟩, e1, e⟩ := Option.bind_eq_some_iff.mp e
  obtain ⟨d1, e3, e⟩ := Option.bind_eq_some_iff.mp e
  obtain ⟨d, e5, e⟩ := Option.bind_eq_some_iff.mp e
  cases e
  refine he.sn C G ρ σ H _ _ R e1 _ fun v G1 H1 s1 R1 v1 => ?_
  cases d1 with
  | lst ds =>
    cases e5
    obtain ⟨a, xs, rfl, hs, hr⟩ := (R1.rd v1 e3).lst R1.gh
    refine ⟨a, xs, rfl, SqL.of hs, fun p hp => ?_⟩
    obtain ⟨a1, a2, a3⟩ := R1.newL hp hr.reverse
    exact q _ _ _ (s1.trans a1) a2 a3
  | tup _ => cases e5
  | non => cases e5
  | bl _ => cases e5
  | int _ => cases e5
  | str _ => cases e5
  | dct _ => cases e5⟩
end

/-! ### small built-in functions -/
def cLen : List D → Option D
  | [.lst ds] => some (.int ds.length)
  | [.tup ds] => some (.int ds.length)
  | [.dct ds] => some (.int ds.length)
  | _ => none
def cAbs : List D → Option D
  | [.int i] => some (.int (if i < 0 then -i else i))
  | _ => none
def cInt : List D → Option D
  | [.int i] => some (.int i)
  | [.bl k] => some (.int (if k then 1 else 0))
  | _ => none
def cMax2 : List D → Option D
  | [.int i, .int j] => some (.int (if j > i then j else i))
  | _ => none
def cMin2 : List D → Option D
  | [.int i, .int j] => some (.int (if j < i then j else i))
  | _ => none
def cTuple : List D → Option D
  | [.lst ds] => some (.tup ds)
  | [.tup ds] => some (.tup ds)
  | _ => none
def cList : List D → Option D
  | [.lst ds] => some (.lst ds)
  | [.tup ds] => some (.lst ds)
  | _ => none
theorem RoL.one {K : PySem.W.Frag} {G H : Hp} {vs : List V} {d : D} (h : RoL K G H vs [d]) : ∃ v, vs = [v] ∧ Ro K G H v d := by
  cases h with | cons a b => cases b; exact ⟨_, rfl, a⟩
theorem RoL.two {K : PySem.W.Frag} {G H : Hp} {vs : List V} {d e : D} (h : RoL K G H vs [d, e]) : ∃ v u, vs = [v, u] ∧ Ro K G H v d ∧ Ro K G H u e := by
  cases h with | cons a b => cases b with | cons b c => cases c; exact ⟨_, _, rfl, a, b⟩
section
variable {X : Cx}
theorem call_lenM : CallR X (.builtin "len") (fun xs H Q => ∃ p kvs, xs = [.ref p] ∧ Rd H p (.dK kvs) ∧ Q (.int kvs.length) H) := by
  intro pins s σ H xs us Q I r h
  obtain ⟨p, kvs, rfl, e, q⟩ := h
  obtain ⟨u, rfl, rx⟩ := vals1 r
  cases rx
  exact d_len I e fun t s' I' => ⟨.int _, H, I', ⟨_, rfl⟩, q⟩
theorem c_len : COk X (.builtin "len") (fun xs H Q => (∃ p ys, xs = [.ref p] ∧ (SqL X.K H p ys ∨ SqT X.K H p ys) ∧ Q (.int ys.length) H) ∨ ∃ p kvs, xs = [.ref p] ∧ Rd H p (.dK kvs) ∧ Q (.int kvs.length) H) cLen := ⟨call_len_seq.or call_lenM, fun C G ρ σ H vs ds d R r e Q q => by
  unfold cLen at e
  split at e
  · cases e
    obtain ⟨v, rfl, a⟩ := r.one
    obtain ⟨p, xs, rfl, hs, hr⟩ := a.lst R.gh
    exact .inl ⟨p, xs, rfl, .inl (SqL.of hs), by rw [hr.length]; exact q _ G H (Same.refl G) R (.int _)⟩
  · cases e
    obtain ⟨v, rfl, a⟩ := r.one
    obtain ⟨p, xs, rfl, hs, hr⟩ := a.tup
    exact .inl ⟨p, xs, rfl, .inr ((Le.of R.gh (K := X.K)).sqT hs), by rw [hr.length]; exact q _ G H (Same.refl G) R (.int _)⟩
  · cases e
    obtain ⟨v, rfl, a⟩ := r.one
    obtain ⟨p, xs, rfl, hs, hr⟩ := a.dct R.gh
    exact .inr ⟨p, xs, rfl, hs, by rw [hr.length]; exact q _ G H (Same.refl G) R (.int _)⟩
  · cases e⟩
theorem c_abs : COk X (.builtin "abs") (fun xs H Q => ∃ i, xs = [.int i] ∧ Q (.int (if i < 0 then -i else i)) H) cAbs := ⟨call_abs, fun C G ρ σ H vs ds d R r e Q q => by
  unfold cAbs at e
  split at e
  · cases e
    obtain ⟨v, rfl, a⟩ := r.one
    obtain rfl := a.int
    exact ⟨_, rfl, q _ G H (Same.refl G) R (.int _)⟩
  · cases e⟩
theorem c_int : COk X (.type "int") (fun xs H Q => (∃ i, xs = [.int i] ∧ Q (.int i) H) ∨ ∃ k, xs = [.bl k] ∧ Q (.int (if k then 1 else 0)) H) cInt := ⟨call_int1, fun C G ρ σ H vs ds d R r e Q q => by
  unfold cInt at e
  split at e
  · cases e
    obtain ⟨v, rfl, a⟩ := r.one
    obtain rfl := a.int
    exact .inl ⟨_, rfl, q _ G H (Same.refl G) R (.int _)⟩
  · cases e
    obtain ⟨v, rfl, a⟩ := r.one
    obtain rfl := a.bl
    exact .inr ⟨_, rfl, q _ G H (Same.refl G) R (.int _)⟩
  · cases e⟩
theorem c_max2 (hc : X.calm = true) : COk X (.builtin "max") (fun xs H Q => ∃ i j, xs = [.int i, .int j] ∧ Q (.int (if j > i then j else i)) H) cMax2 := ⟨call_max2 hc, fun C G ρ σ H vs ds d R r e Q q => by
  unfold cMax2 at e
  split at e
  · cases e
    obtain ⟨v, u, rfl, a, b⟩ := r.two
    obtain rfl := a.int
    obtain rfl := b.int
    exact ⟨_, _, rfl, q _ G H (Same.refl G) R (.int _)⟩
  · cases e⟩
theorem c_min2 (hc : X.calm = true) : COk X (.builtin "min") (fun xs H Q => ∃ i j, xs = [.int i, .int j] ∧ Q (.int (if j < i then j else i)) H) cMin2 := ⟨call_min2 hc, fun C G ρ σ H vs ds d R r e Q q => by
  unfold cMin2 at e
  split at e
  · cases e
    obtain ⟨v, u, rfl, a, b⟩ := r.two
    obtain rfl := a.int
    obtain rfl := b.int
    exact ⟨_, _, rfl, q _ G H (Same.refl G) R (.int _)⟩
  · cases e⟩
theorem c_tuple : COk X (.type "tuple") (fun xs H Q => ∃ p ys, xs = [.ref p] ∧ ((SqL X.K H p ys ∧ ∀ l, H l = none → Q (.ref l) (upd H l (.tup ys))) ∨ (SqT X.K H p ys ∧ Q (.ref p) H))) cTuple := ⟨call_tuple_of, fun C G ρ σ H vs ds d R r e Q q => by
  unfold cTuple at e
  split at e
  · cases e
    obtain ⟨v, rfl, a⟩ := r.one
    obtain ⟨p, xs, rfl, hs, hr⟩ := a.lst R.gh
    refine ⟨p, xs, rfl, .inl ⟨SqL.of hs, fun l hl => ?_⟩⟩
    obtain ⟨a1, a2, a3⟩ := R.newT hl hr
    exact q _ _ _ a1 a2 a3
  · cases e
    obtain ⟨v, rfl, a⟩ := r.one
    obtain ⟨p, xs, rfl, hs, hr⟩ := a.tup
    exact ⟨p, xs, rfl, .inr ⟨(Le.of R.gh (K := X.K)).sqT hs, q _ G H (Same.refl G) R (.tup hs hr)⟩⟩
  · cases e⟩
theorem c_list : COk X (.type "list") (fun xs H Q => ∃ p ys, xs = [.ref p] ∧ (SqL X.K H p ys ∨ SqT X.K H p ys) ∧ ∀ l, H l = none → Q (.ref l) (upd H l (.lst ys))) cList := ⟨call_list_of, fun C G ρ σ H vs ds d R r e Q q => by
  unfold cList at e
  split at e
  · cases e
    obtain ⟨v, rfl, a⟩ := r.one
    obtain ⟨p, xs, rfl, hs, hr⟩ := a.lst R.gh
    refine ⟨p, xs, rfl, .inl (SqL.of hs), fun l hl => ?_⟩
    obtain ⟨a1, a2, a3⟩ := R.newL hl hr
    exact q _ _ _ a1 a2 a3
  · cases e
    obtain ⟨v, rfl, a⟩ := r.one
    obtain ⟨p, xs, rfl, hs, hr⟩ := a.tup
    refine ⟨p, xs, rfl, .inr ((Le.of R.gh (K := X.K)).sqT hs), fun l hl => ?_⟩
    obtain ⟨a1, a2, a3⟩ := R.newL hl hr
    exact q _ _ _ a1 a2 a3
  · cases e⟩
end
/-! ### isinstance -/
def tyOf : D → String
  | .int _ => "int"
  | .bl _ => "bool"
  | .str _ => "str"
  | .tup _ => "tuple"
  | .lst _ => "list"
  | .dct _ => "dict"
  | .non => "NoneType"
/-- isinstance(x, T), T one of int, bool, str, tuple -/
def isTy (T : String) (d : D) : Bool := match d with
  | .int _ => T == "int"
  | .bl _ => T == "bool" || T == "int"
  | .str _ => T == "str"
  | .tup _ => T == "tuple"
  | .lst _ => T == "list"
  | .dct _ => T == "dict"
  | .non => T == "NoneType"
theorem tyX_of {K : PySem.W.Frag} {G H : Hp} {x : V} {d : D} (h : Ro K G H x d) (gh : Same G H) : TyX K H x (.type (tyOf d)) := by
  have r := h.rp gh
  cases r with
  | non => exact .base .non
  | bl b => exact .base (.bl b)
  | int i => exact .base (.int i)
  | str x => exact .base (.str x)
  | tup s q =>
    rcases s with (s | ⟨o, s⟩) | ⟨o, its, n, s, c, _⟩
    · exact .base (.tup s)
    · exact .fTuple s
    · exact .kTuple s c
  | lst s q => exact .base (.lst s)
  | dct s q =>
    rcases s with s | ⟨o, s⟩
    · exact .base (.dK s)
    · exact .fDict s
def tIsi (K : PySem.W.Frag) (T : String) (te : TE) : TE := tCB (rIsi K) (tCons te (tCons (tC (.ty T)) tNil))
structure TyTab (T : String) : Prop where
  h : ∀ d : D, kitB (tyOf d) T = some (isTy T d)
theorem tt_int : TyTab "int" := ⟨fun d => match d with
  | .non  => (show kitB "NoneType" "int" = some false by decide +kernel)
  | .bl _ => (show kitB "bool" "int" = some true by decide +kernel)
  | .int _ => (show kitB "int" "int" = some true by decide +kernel)
  | .str _ => (show kitB "str" "int" = some false by decide +kernel)
  | .tup _ => (show kitB "tuple" "int" = some false by decide +kernel)
  | .lst _ => (show kitB "list" "int" = some false by decide +kernel)
  | .dct _ => (show kitB "dict" "int" = some false by decide +kernel)⟩
theorem tt_bool : TyTab "bool" := ⟨fun d => match d with
  | .non  => (show kitB "NoneType" "bool" = some false by decide +kernel)
  | .bl _ => (show kitB "bool" "bool" = some true by decide +kernel)
  | .int _ => (show kitB "int" "bool" = some false by decide +kernel)
  | .str _ => (show kitB "str" "bool" = some false by decide +kernel)
  | .tup _ => (show kitB "tuple" "bool" = some false by decide +kernel)
  | .lst _ => (show kitB "list" "bool" = some false by decide +kernel)
  | .dct _ => (show kitB "dict" "bool" = some false by decide +kernel)⟩
theorem tt_str : TyTab "str" := ⟨fun d => match d with
  | .non  => (show kitB "NoneType" "str" = some false by decide +kernel)
  | .bl _ => (show kitB "bool" "str" = some false by decide +kernel)
  | .int _ => (show kitB "int" "str" = some false by decide +kernel)
  | .str _ => (show kitB "str" "str" = some true by decide +kernel)
  | .tup _ => (show kitB "tuple" "str" = some false by decide +kernel)
  | .lst _ => (show kitB "list" "str" = some false by decide +kernel)
  | .dct _ => (show kitB "dict" "str" = some false by decide +kernel)⟩
theorem tt_tuple : TyTab "tuple" := ⟨fun d => match d with
  | .non  => (show kitB "NoneType" "tuple" = some false by decide +kernel)
  | .bl _ => (show kitB "bool" "tuple" = some false by decide +kernel)
  | .int _ => (show kitB "int" "tuple" = some false by decide +kernel)
  | .str _ => (show kitB "str" "tuple" = some false by decide +kernel)
  | .tup _ => (show kitB "tuple" "tuple" = some true by decide +kernel)
  | .lst _ => (show kitB "list" "tuple" = some false by decide +kernel)
  | .dct _ => (show kitB "dict" "tuple" = some false by decide +kernel)⟩
def dIsi (T : String) (d : D) : Option D := some (.bl (isTy T d))
section
variable {X : Cx} {e : Expr} {te : TE} {fe : E} {p p2 pos : Pos} {x : Str} {T : String}
theorem e_isi (ht : TyTab T) (hg : Gl X "isinstance") (hm : X.mg "isinstance" = none) (hg2 : Gl X x) (hm2 : X.mg x = none) (hv2 : bootBuiltins x = some (.type T)) (he : EOk X e te fe) (hn : x ≠ "__name__" := by decide) (hdb : (x == ("__debug__" : Str)) = false := by decide)
    (he1 : starEach [e, .Name x p2] X.env = (false, eval e X.env) :: starEach [.Name x p2] X.env := by rfl) (he2 : starEach [.Name x p2] X.env = (false, eval (.Name x p2) X.env) :: starEach [] X.env := by rfl) (hpl : (backTo pos (starEach [.Name x p2] X.env)).any (·.1) = false := by rfl) :
    EOk X (.Call (.Name "isinstance" p) [e, .Name x p2] [] pos) (tIsi X.K T te) (eUn (dIsi T) fe) := ⟨pe_callB call_isi hg hm (by decide +kernel) (pa_cons he.pe (pa_cons (pe_bltn (v := .ty T) hg2 hm2 hv2 rfl hn hdb) pa_nil he2) he1) (by decide) (by decide) he1 hpl, fun C G ρ σ H r ρ' R e Q q => by
  unfold eUn at e
  obtain ⟨⟨r1, ρ1⟩, e1, e⟩ := Option.bind_eq_some_iff.mp e
  obtain ⟨d1, e3, e⟩ := Option.bind_eq_some_iff.mp e
  obtain ⟨d, e5, e⟩ := Option.bind_eq_some_iff.mp e
  cases e
  cases e5
  refine he.sn C G ρ σ H _ _ R e1 _ fun v G1 H1 s1 R1 v1 => ?_
  exact ⟨v, .ty T, _, _, _, rfl, .ty T, tyX_of (R1.rd v1 e3) R1.gh, kit_ty (ht.h d1), q _ G1 H1 s1 R1 (.bl _)⟩⟩
end
end Fd

set_option Elab.async false
set_option linter.all false
set_option maxRecDepth 100000
/-! Fd5: loops, comprehensions, lists and dicts that change. -/
namespace Fd
open PySem PySem.Spec PyProof.Rows L2

/-! ### what is walked -/
def iSeq (f : E) : Env → Option (List D × Env) := fun ρ => (f ρ).bind fun p => (fr p.2 p.1).bind fun q => match q.1 with
  | .lst ds => some (ds, q.2)
  | .tup ds => some (ds, q.2)
  | _ => none
theorem PI.or {X : Cx} {tg iter : Expr} {w w' : TI} (h : PI X tg iter w) (h' : PI X tg iter w') : PI X tg iter (fun σ H R => w σ H R ∨ w' σ H R) := ⟨fun pins s σ H R I q => by
  rcases q with q | q
  · exact h.run pins s σ H R I q
  · exact h'.run pins s σ H R I q⟩
theorem itl_ok {K : PySem.W.Frag} {G : Hp} {a : Addr} {xs : List V} {ds : List D} (h : G a = some (.lst xs)) (r : RpL K G xs ds) : ItOk K (Itl K a) ds G := fun C G' ρ σ H s R i => by
  have hs : SqL K H a xs := SqL.of (R.gh _ _ (s _ _ h))
  constructor
  · intro hi
    have hx : i < xs.length := by rw [r.length]; exact hi
    refine ⟨⟨xs, xs[i], hs, by simp [hx]⟩, fun x H' y => ?_⟩
    obtain ⟨rfl, y⟩ := y
    obtain ⟨d, h1, h2⟩ := r.getV (y xs hs)
    exact ⟨G', Same.refl _, R, d, h1, h2.mono s⟩
  · intro hi
    exact ⟨xs, hs, by rw [r.length]; exact hi⟩
theorem itt_ok {K : PySem.W.Frag} {G : Hp} {a : Addr} {xs : List V} {ds : List D} (h : SqT K G a xs) (r : RpL K G xs ds) : ItOk K (Itt K a) ds G := fun C G' ρ σ H s R i => by
  have hs : SqT K H a xs := (Le.of R.gh (K := K)).sqT ((Le.of s (K := K)).sqT h)
  constructor
  · intro hi
    have hx : i < xs.length := by rw [r.length]; exact hi
    refine ⟨⟨xs, xs[i], hs, by simp [hx]⟩, fun x H' y => ?_⟩
    obtain ⟨rfl, y⟩ := y
    obtain ⟨d, h1, h2⟩ := r.getV (y xs hs)
    exact ⟨G', Same.refl _, R, d, h1, h2.mono s⟩
  · intro hi
    exact ⟨xs, hs, by rw [r.length]; exact hi⟩
def rngD (lo : Int) (n : Nat) : List D := (List.range n).map fun i : Nat => .int (lo + (i : Int))
theorem rngD_length (lo : Int) (n : Nat) : (rngD lo n).length = n := by simp [rngD]
theorem itr_ok {K : PySem.W.Frag} {G : Hp} (lo : Int) (n : Nat) : ItOk K (Itr lo n) (rngD lo n) G := fun C G' ρ σ H s R i => by
  rw [rngD_length]
  refine ⟨fun hi => ⟨hi, fun x H' y => ?_⟩, fun hi => hi⟩
  obtain ⟨rfl, rfl⟩ := y
  exact ⟨G', Same.refl _, R, .int (lo + i), by simp [rngD, hi], .int _⟩
def rngC (lo c : Int) (n : Nat) : List D := (List.range n).map fun i : Nat => .int (lo + (i : Int) * c)
theorem itc_ok {K : PySem.W.Frag} {G : Hp} (lo c : Int) (n : Nat) : ItOk K (Itc lo c n) (rngC lo c n) G := fun C G' ρ σ H s R i => by
  have hl : (rngC lo c n).length = n := by simp [rngC]
  rw [hl]
  refine ⟨fun hi => ⟨hi, fun x H' y => ?_⟩, fun hi => hi⟩
  obtain ⟨rfl, rfl⟩ := y
  exact ⟨G', Same.refl _, R, .int (lo + i * c), by simp [rngC, hi], .int _⟩
theorem zip_get {α β : Type} : ∀ {xs : List α} {ys : List β} {i : Nat} {x : α} {y : β}, xs[i]? = some x → ys[i]? = some y → (xs.zip ys)[i]? = some (x, y)
  | [], _, _, _, _, h, _ => by simp at h
  | _ :: _, [], _, _, _, _, h => by simp at h
  | _ :: _, _ :: _, 0, _, _, h, h' => by simp at h h'; simp [h, h']
  | _ :: xs, _ :: ys, i + 1, x, y, h, h' => by
    have := zip_get (xs := xs) (ys := ys) (i := i) (by simpa using h) (by simpa using h')
    simpa using this
def zipD (xs ys : List D) : List D := (xs.zip ys).map fun p => .tup [p.1, p.2]
theorem zip_ok {K : PySem.W.Frag} {G : Hp} {J : It} {xs ys : List V} {ds es : List D} (r1 : RpL K G xs ds) (r2 : RpL K G ys es)
    (go : ∀ H i, Same G H → i < xs.length → i < ys.length → J.go i H) (stop : ∀ H i, Same G H → (xs.length ≤ i ∨ ys.length ≤ i) → J.stop i H)
    (yl : ∀ H i x H', Same G H → J.yld i H x H' → ∃ T a b, x = .ref T ∧ H T = none ∧ H' = upd H T (.tup [a, b]) ∧ xs[i]? = some a ∧ ys[i]? = some b) : ItOk K J (zipD ds es) G := fun C G' ρ σ H s R i => by
  have hl : (zipD ds es).length = min xs.length ys.length := by simp [zipD, r1.length, r2.length]
  rw [hl]
  have gh : Same G H := s.trans R.gh
  refine ⟨fun hi => ⟨go H i gh (by omega) (by omega), fun x H' y => ?_⟩, fun hi => stop H i gh (by omega)⟩
  obtain ⟨T, a, b, rfl, hT, rfl, h1, h2⟩ := yl H i x H' gh y
  obtain ⟨d1, e1, q1⟩ := r1.getV h1
  obtain ⟨d2, e2, q2⟩ := r2.getV h2
  obtain ⟨a1, a2, a3⟩ := R.newT hT (xs := [a, b]) (ds := [d1, d2]) (.cons (q1.mono s) (.cons (q2.mono s) .nil))
  exact ⟨_, a1, a2, .tup [d1, d2], by simp [zipD, zip_get e1 e2], a3⟩
section
variable {X : Cx} {tg l : Expr} {tl : TE} {fl : E} {pos p : Pos}
theorem i_seq (hl : EOk X l tl fl) : IOk X tg l (fun σ H R => iList X.K tl σ H R ∨ iTup X.K tl σ H R) (iSeq fl) := ⟨PI.or (pi_list hl.pe) (pi_tup hl.pe), fun C G ρ σ H ds ρ' R e RR q => by
  unfold iSeq at e
  obtain ⟨⟨r1, ρ1⟩, e1, e⟩ := Option.bind_eq_some_iff.mp e
  obtain ⟨⟨d, ρ2⟩, e2, e⟩ := Option.bind_eq_some_iff.mp e
  cases d with
  | lst es =>
    cases e
    refine .inl (hl.sn C G ρ σ H _ _ R e1 _ fun v G1 H1 s1 R1 v1 => ?_)
    obtain ⟨G2, s2, R2, v2⟩ := R1.fr v1 e2
    cases v2 with
    | lst h r => exact ⟨_, rfl, ⟨_, SqL.of (R2.gh _ _ h)⟩, q _ G2 H1 (s1.trans s2) R2 (itl_ok h r)⟩
  | tup es =>
    cases e
    refine .inr (hl.sn C G ρ σ H _ _ R e1 _ fun v G1 H1 s1 R1 v1 => ?_)
    obtain ⟨G2, s2, R2, v2⟩ := R1.fr v1 e2
    cases v2 with
    | tup h r => exact ⟨_, rfl, ⟨_, (Le.of R2.gh (K := X.K)).sqT h⟩, q _ G2 H1 (s1.trans s2) R2 (itt_ok h r)⟩
  | non => cases e
  | bl _ => cases e
  | int _ => cases e
  | str _ => cases e
  | dct _ => cases e⟩
def iR1 (fa : EA) : Env → Option (List D × Env) := fun ρ => (fa ρ).bind fun p => match p.1 with
  | [.d (.int j)] => if -4611686018427387904 ≤ j ∧ j < 4611686018427387904 then some (rngD 0 j.toNat, p.2) else none
  | _ => none
def iR2 (fa : EA) : Env → Option (List D × Env) := fun ρ => (fa ρ).bind fun p => match p.1 with
  | [.d (.int i), .d (.int j)] => if -4611686018427387904 ≤ i ∧ i < 4611686018427387904 ∧ -4611686018427387904 ≤ j ∧ j < 4611686018427387904 then some (rngD i (j - i).toNat, p.2) else none
  | _ => none
/-- how many turns a range of a positive step has -/
def iR3 (fa : EA) : Env → Option (List D × Env) := fun ρ => (fa ρ).bind fun p => match p.1 with
  | [.d (.int i), .d (.int j), .d (.int c)] => if c ≠ 0 ∧ c.natAbs < 1073741824 ∧ Builtin.Range.small i j c = true ∧ 0 ≤ Builtin.Range.rangeSize i j c then some (rngC i c (Builtin.Range.rangeSize i j c).toNat, p.2) else none
  | _ => none
theorem RVL.one {K : PySem.W.Frag} {G : Hp} {σ : L2.St} {vs : List V} {d : D} (h : RVL K G σ vs [.d d]) : ∃ v, vs = [v] ∧ Rp K G v d := by
  cases h with | cons a b => cases b; exact ⟨_, rfl, a⟩
theorem i_range1 {a : Expr} {ta : TA} {fa : EA} (hg : Gl X "range") (hm : X.mg "range" = none) (ha : AOk X [a] ta fa) (hs : starEach [a] X.env = [(false, eval a X.env)] := by rfl) : IOk X tg (.Call (.Name "range" p) [a] [] pos) (iRng1 ta) (iR1 fa) :=
  ⟨pi_range1 hg hm ha.pa hs, fun C G ρ σ H ds ρ' R e RR q => by
  unfold iR1 at e
  obtain ⟨⟨rs, ρ1⟩, e1, e⟩ := Option.bind_eq_some_iff.mp e
  refine ha.sn C G ρ σ H _ _ R e1 _ fun vs G1 H1 s1 R1 v1 => ?_
  dsimp only at e
  split at e
  · split at e
    · rename_i h
      cases e
      obtain ⟨v, rfl, r⟩ := v1.one
      cases r
      exact ⟨_, rfl, by omega, by omega, q _ G1 H1 s1 R1 (itr_ok _ _)⟩
    · cases e
  · cases e⟩
theorem i_range2 {a b : Expr} {ta : TA} {fa : EA} (hg : Gl X "range") (hm : X.mg "range" = none) (ha : AOk X [a, b] ta fa) (hs : starEach [a, b] X.env = [(false, eval a X.env), (false, eval b X.env)] := by rfl) (hs2 : starEach [b] X.env = [(false, eval b X.env)] := by rfl) :
    IOk X tg (.Call (.Name "range" p) [a, b] [] pos) (iRng2 ta) (iR2 fa) := ⟨pi_range2 hg hm ha.pa hs hs2, fun C G ρ σ H ds ρ' R e RR q => by
  unfold iR2 at e
  obtain ⟨⟨rs, ρ1⟩, e1, e⟩ := Option.bind_eq_some_iff.mp e
  refine ha.sn C G ρ σ H _ _ R e1 _ fun vs G1 H1 s1 R1 v1 => ?_
  dsimp only at e
  split at e
  · split at e
    · rename_i h
      cases e
      cases v1 with | cons a1 b1 =>
      cases b1 with | cons a2 b2 =>
      cases b2
      cases a1
      cases a2
      exact ⟨_, _, rfl, by omega, q _ G1 H1 s1 R1 (itr_ok _ _)⟩
    · cases e
  · cases e⟩
theorem i_range3 {a b c : Expr} {ta : TA} {fa : EA} (hg : Gl X "range") (hm : X.mg "range" = none) (ha : AOk X [a, b, c] ta fa)
    (hs : starEach [a, b, c] X.env = (false, eval a X.env) :: starEach [b, c] X.env := by rfl) (hpl : (backTo pos (starEach [b, c] X.env)).any (·.1) = false := by rfl) :
    IOk X tg (.Call (.Name "range" p) [a, b, c] [] pos) (iRng3 ta) (iR3 fa) := ⟨pi_range3 hg hm ha.pa hs hpl, fun C G ρ σ H ds ρ' R e RR q => by
  unfold iR3 at e
  obtain ⟨⟨rs, ρ1⟩, e1, e⟩ := Option.bind_eq_some_iff.mp e
  refine ha.sn C G ρ σ H _ _ R e1 _ fun vs G1 H1 s1 R1 v1 => ?_
  dsimp only at e
  split at e
  · split at e
    · rename_i h
      cases e
      cases v1 with | cons a1 b1 =>
      cases b1 with | cons a2 b2 =>
      cases b2 with | cons a3 b3 =>
      cases b3
      cases a1
      cases a2
      cases a3
      exact ⟨_, _, _, _, rfl, ⟨h.1, h.2.1, h.2.2.1, (Int.toNat_of_nonneg h.2.2.2).symm⟩, q _ G1 H1 s1 R1 (itc_ok _ _ _)⟩
    · cases e
  · cases e⟩
def iZip (fa : EA) : Env → Option (List D × Env) := fun ρ => (fa ρ).bind fun p => (frs p.2 p.1).bind fun q => match q.1 with
  | [.lst ds, .lst es] => some (zipD ds es, q.2)
  | [.tup ds, .tup es] => some (zipD ds es, q.2)
  | _ => none
theorem i_zip {e e2 : Expr} {ta : TA} {fa : EA} {tpos : Pos} {elts : List Expr} {kk : Nat} (hg : Gl X "zip") (hm : X.mg "zip" = none) (ha : AOk X [e, e2] ta fa)
    (hs : starEach [e, e2] X.env = (false, eval e X.env) :: starEach [e2] X.env := by rfl) (hpl : (backTo pos (starEach [e2] X.env)).any (·.1) = false := by rfl) :
    IOk X (.Tuple elts kk tpos) (.Call (.Name "zip" p) [e, e2] [] pos) (RZ.iZipA X.K ta) (iZip fa) := ⟨RZ.pi_zipA hg hm ha.pa hs hpl, fun C G ρ σ H ds ρ' R e RR q => by
  unfold iZip at e
  obtain ⟨⟨rs, ρ1⟩, e1, e⟩ := Option.bind_eq_some_iff.mp e
  obtain ⟨⟨ds', ρ2⟩, e2, e⟩ := Option.bind_eq_some_iff.mp e
  refine ha.sn C G ρ σ H _ _ R e1 _ fun vs G1 H1 s1 R1 v1 => ?_
  obtain ⟨G2, s2, R2, v2⟩ := R1.frs v1 e2
  dsimp only at e
  split at e
  · cases e
    cases v2 with | cons a1 b1 =>
    cases b1 with | cons a2 b2 =>
    cases b2
    cases a1 with | lst h1 r1 =>
    cases a2 with | lst h2 r2 =>
    refine ⟨_, _, _, _, rfl, .inl ⟨SqL.of (R2.gh _ _ h1), SqL.of (R2.gh _ _ h2), q _ G2 H1 (s1.trans s2) R2 (zip_ok r1 r2 (fun H i s a b => ⟨_, _, _, _, SqL.of (s _ _ h1), SqL.of (s _ _ h2), List.getElem?_eq_getElem a, List.getElem?_eq_getElem b⟩)
      (fun H i s h => ⟨_, _, SqL.of (s _ _ h1), SqL.of (s _ _ h2), h⟩) (fun H i x H' s y => ?_))⟩⟩
    obtain ⟨T, a, b, y1, y2, y3, y4, y5⟩ := y
    exact ⟨T, a, b, y1, y2, y3, y4 _ (SqL.of (s _ _ h1)), y5 _ (SqL.of (s _ _ h2))⟩
  · cases e
    cases v2 with | cons a1 b1 =>
    cases b1 with | cons a2 b2 =>
    cases b2
    cases a1 with | tup h1 r1 =>
    cases a2 with | tup h2 r2 =>
    have t1 : ∀ {H : Hp}, Same G2 H → SqT X.K H _ _ := fun s => (Le.of s (K := X.K)).sqT h1
    have t2 : ∀ {H : Hp}, Same G2 H → SqT X.K H _ _ := fun s => (Le.of s (K := X.K)).sqT h2
    refine ⟨_, _, _, _, rfl, .inr ⟨t1 R2.gh, t2 R2.gh, q _ G2 H1 (s1.trans s2) R2 (zip_ok r1 r2 (fun H i s a b => ⟨_, _, _, _, t1 s, t2 s, List.getElem?_eq_getElem a, List.getElem?_eq_getElem b⟩)
      (fun H i s h => ⟨_, _, t1 s, t2 s, h⟩) (fun H i x H' s y => ?_))⟩⟩
    obtain ⟨T, a, b, y1, y2, y3, y4, y5⟩ := y
    exact ⟨T, a, b, y1, y2, y3, y4 _ (t1 s), y5 _ (t2 s)⟩
  · cases e⟩
end

/-! ### for -/
def forF (g : D → Env → Option Env) (b : S) : List D → Env → Option (Fl × Env)
  | [], ρ => some (.nx, ρ)
  | d :: ds, ρ => (g d ρ).bind fun ρ1 => (b ρ1).bind fun p => match p.1 with
    | .nx => forF g b ds p.2
    | .ct => forF g b ds p.2
    | .bk => some (.nx, p.2)
    | .rt x => some (.rt x, p.2)
def sFor (it : Env → Option (List D × Env)) (g : D → Env → Option Env) (b : S) : S := fun ρ => (it ρ).bind fun p => forF g b p.1 p.2
theorem snd_for {K : PySem.W.Frag} {wi : TI} {it : Env → Option (List D × Env)} {g : TG} {gf : D → Env → Option Env} {tv : List Nat} {tb : TS} {b : S} (hi : SndI K wi it) (hg : SndG K g gf tv) (hb : SndS K tb b) : SndS K (tFor wi g tb) (sFor it gf b) := fun C G ρ σ H fl ρ' R e D' q => by
  unfold sFor at e
  obtain ⟨⟨ds, ρ1⟩, e1, e⟩ := Option.bind_eq_some_iff.mp e
  refine hi C G ρ σ H _ _ R e1 _ fun J G1 H1 s1 R1 ok => ?_
  refine ⟨fun i m σ' H' => m = ds.length - i ∧ i ≤ ds.length ∧ ∃ ρi Gi, Same G1 Gi ∧ Rel K C Gi ρi σ' H' ∧ forF gf b (ds.drop i) ρi = some (fl, ρ'), ⟨ds.length, by simp, Nat.zero_le _, ρ1, G1, Same.refl _, R1, by simpa using e⟩, ?_⟩
  rintro i m σ' H' ⟨rfl, hi', ρi, Gi, si, Ri, ei⟩
  obtain ⟨go, stop⟩ := ok C Gi ρi σ' H' si Ri i
  by_cases hlt : i < ds.length
  · obtain ⟨g1, g2⟩ := go hlt
    refine .inr ⟨g1, fun σ'' H'' => ∃ ρj Gj, Same G1 Gj ∧ Rel K C Gj ρj σ'' H'' ∧ forF gf b (ds.drop (i + 1)) ρj = some (fl, ρ'), fun σ'' H'' h => ⟨ds.length - (i + 1), by omega, rfl, hlt, h⟩, fun x H2 y => ?_⟩
    obtain ⟨G2, s2, R2, d, hd, rd⟩ := g2 x H2 y
    have hd' : ds.drop i = d :: ds.drop (i + 1) := by
      rw [List.drop_eq_getElem_cons hlt]
      rw [List.getElem?_eq_getElem hlt] at hd
      rw [Option.some.inj hd]
    rw [hd'] at ei
    unfold forF at ei
    obtain ⟨ρ2, e2, ei⟩ := Option.bind_eq_some_iff.mp ei
    obtain ⟨⟨fl3, ρ3⟩, e3, ei⟩ := Option.bind_eq_some_iff.mp ei
    refine hg C G2 ρi σ' H2 x d _ R2 rd e2 _ fun G3 σ3 H3 s3 R3 _ _ => ?_
    refine hb C G3 ρ2 σ3 H3 _ _ R3 e3 _ ?_
    cases fl3 with
    | nx => exact fun G4 σ4 H4 s4 R4 => ⟨ρ3, G4, si.trans (s2.trans (s3.trans s4)), R4, ei⟩
    | ct => exact fun G4 σ4 H4 s4 R4 => ⟨ρ3, G4, si.trans (s2.trans (s3.trans s4)), R4, ei⟩
    | bk =>
      cases ei
      exact fun G4 σ4 H4 s4 R4 => q G4 σ4 H4 (s1.trans (si.trans (s2.trans (s3.trans s4)))) R4
    | rt x =>
      cases ei
      exact fun v G4 σ4 H4 s4 R4 => q v G4 σ4 H4 (s1.trans (si.trans (s2.trans (s3.trans s4)))) R4
  · have : i = ds.length := by omega
    subst this
    rw [List.drop_length] at ei
    cases ei
    exact .inl ⟨stop (Nat.le_refl _), q Gi σ' H' (s1.trans si) Ri⟩
theorem s_for {X : Cx} {tg iter : Expr} {body : List Stmt} {wi : TI} {it : Env → Option (List D × Env)} {g : TG} {gf : D → Env → Option Env} {tv : List Nat} {tb : TS} {b : S} {pos : Pos} (hp : PassesOwn (model X.prog X.w) X.A X.env X.xe) (hc : X.calm = true) (hi : IOk X tg iter wi it) (hg : GOk X tg g gf tv) (hb : SsOk X body tb b)
    (hs : ∀ x, foldedSetIterable iter X.env x = pure x := by intro _; rfl) : SOk X (.For tg iter body [] pos) (tFor wi g tb) (sFor it gf b) := ⟨ps_for hp hc hi.pi hg.pg hb.ps hs, snd_for hi.sn hg.sn hb.sn⟩

/-! ### while -/
def whF (c : ET) (b : S) : Nat → Env → Option (Fl × Env)
  | 0, _ => none
  | n + 1, ρ => (c ρ).bind fun p => if p.1 = true then (b p.2).bind fun q => match q.1 with
      | .nx => whF c b n q.2
      | .ct => whF c b n q.2
      | .bk => some (.nx, q.2)
      | .rt x => some (.rt x, q.2)
    else some (.nx, p.2)
theorem snd_while {K : PySem.W.Frag} {tc : TT} {c : ET} {tb : TS} {b : S} (n : Nat) (hc : SndT K tc c) (hb : SndS K tb b) : SndS K (tWhile tc tb) (whF c b n) := fun C G ρ σ H fl ρ' R e D' q => by
  refine ⟨fun m σ' H' => ∃ ρi Gi, Same G Gi ∧ Rel K C Gi ρi σ' H' ∧ whF c b m ρi = some (fl, ρ'), ⟨n, ρ, G, Same.refl _, R, e⟩, ?_⟩
  rintro m σ' H' ⟨ρi, Gi, si, Ri, ei⟩
  cases m with
  | zero => cases ei
  | succ m =>
    unfold whF at ei
    obtain ⟨⟨k, ρ1⟩, e1, ei⟩ := Option.bind_eq_some_iff.mp ei
    refine hc C Gi ρi σ' H' _ _ Ri e1 _ fun G1 H1 s1 R1 => ?_
    cases k with
    | false =>
      cases ei
      exact q G1 σ' H1 (si.trans s1) R1
    | true =>
      rw [if_pos rfl] at ei ⊢
      obtain ⟨⟨fl3, ρ3⟩, e3, ei⟩ := Option.bind_eq_some_iff.mp ei
      refine ⟨fun σ'' H'' => ∃ ρj Gj, Same G Gj ∧ Rel K C Gj ρj σ'' H'' ∧ whF c b m ρj = some (fl, ρ'), fun σ'' H'' h => ⟨m, Nat.lt_succ_self m, h⟩, ?_⟩
      refine hb C G1 ρ1 σ' H1 _ _ R1 e3 _ ?_
      cases fl3 with
      | nx => exact fun G4 σ4 H4 s4 R4 => ⟨ρ3, G4, si.trans (s1.trans s4), R4, ei⟩
      | ct => exact fun G4 σ4 H4 s4 R4 => ⟨ρ3, G4, si.trans (s1.trans s4), R4, ei⟩
      | bk =>
        cases ei
        exact fun G4 σ4 H4 s4 R4 => q G4 σ4 H4 (si.trans (s1.trans s4)) R4
      | rt x =>
        cases ei
        exact fun v G4 σ4 H4 s4 R4 => q v G4 σ4 H4 (si.trans (s1.trans s4)) R4
theorem s_while {X : Cx} {c : Expr} {body : List Stmt} {tc : TT} {hc : ET} {tb : TS} {b : S} {pos : Pos} (n : Nat) (hp : PassesOwn (model X.prog X.w) X.A X.env X.xe) (h1 : TOk X c tc hc) (h2 : SsOk X body tb b) : SOk X (.While c body [] pos) (tWhile tc tb) (whF hc b n) := ⟨ps_while hp h1.pt h2.ps, snd_while n h1.sn h2.sn⟩

/-! ### comprehensions -/
def compF (g : D → Env → Option Env) (tt : ET) (f : E) (vs : List Nat) : List D → Env → Option (List D × Env)
  | [], ρ => some ([], ρ)
  | d :: ds, ρ => (g d ρ).bind fun ρ1 => (tt ρ1).bind fun b => if b.1 = true then (f b.2).bind fun r => (fr r.2 r.1).bind fun x => (compF g tt f vs ds (dropE x.2 vs)).bind fun p => some (x.1 :: p.1, p.2)
    else compF g tt f vs ds (dropE b.2 vs)
/-- the block's own names get their outer values back -/
def rst (ρ1 ρ2 : Env) : List Nat → Option Env
  | [] => some ρ2
  | v :: vs => (rst ρ1 ρ2 vs).bind fun ρ => match ρ1[v]? with
    | some (some (.v d)) => some (ρ.set v (some (.v d)))
    | some (some _) => none
    | _ => some ρ
def fLc (it : Env → Option (List D × Env)) (g : D → Env → Option Env) (tt : ET) (f : E) (vs : List Nat) : EF := fun ρ => (it ρ).bind fun p => (compF g tt f vs p.1 (dropE p.2 vs)).bind fun q => (rst p.2 (dropE q.2 vs) vs).bind fun ρo =>
  if q.1.length ≤ 16777216 then some (.L q.1, ρo) else none
section
variable {K : PySem.W.Frag} {C : Cfg} {G G' H : Hp} {ρ ρ' ρ1 ρ2 : Env} {σ σ' : L2.St}
theorem dropE_get {i : Nat} {s : Sl} : ∀ {vs : List Nat}, (dropE ρ vs)[i]? = some (some s) → ρ[i]? = some (some s) ∧ i ∉ vs
  | [], h => ⟨h, by simp⟩
  | v :: vs, h => by
    unfold dropE at h
    rcases getElem?_set_cases h with ⟨rfl, e, _⟩ | ⟨hj, e⟩
    · cases e
    · obtain ⟨a, b⟩ := dropE_get e
      exact ⟨a, by simp only [List.mem_cons, not_or]; exact ⟨hj, b⟩⟩
theorem dropE_length (ρ : Env) : ∀ vs : List Nat, (dropE ρ vs).length = ρ.length
  | [] => rfl
  | v :: vs => by unfold dropE; rw [List.length_set, dropE_length ρ vs]
/-- the slots' own values elsewhere -/
theorem Rel.reσ (R : Rel K C G ρ σ H) {vs : List Nat} (h : ∀ i, i ∉ vs → σ'[i]? = σ[i]?) (hl : σ'.length = σ.length) : Rel K C G (Fd.dropE ρ vs) σ' H := by
  have R' := R.dropE vs
  refine ⟨hl.trans R'.len, R'.gh, R'.base, R'.volh, R'.fz, R'.pend, fun i s e => ?_, fun i j si sj x ne e1 e2 o1 o2 f1 f2 => ?_⟩
  · obtain ⟨_, hi⟩ := dropE_get e
    obtain ⟨x, hx, ok⟩ := R'.slot i s e
    exact ⟨x, (h i hi).trans hx, ok⟩
  · have h1 := (dropE_get e1).2
    have h2 := (dropE_get e2).2
    exact R'.apart i j si sj x ne e1 e2 o1 o2 ((h i h1).symm.trans f1) ((h j h2).symm.trans f2)
theorem wipe_ext {σ σ' : L2.St} {vs : List Nat} (h : ∀ i, i ∉ vs → σ'[i]? = σ[i]?) (hl : σ'.length = σ.length) : wipe σ' vs = wipe σ vs := by
  have key : ∀ (τ : L2.St) (i : Nat) (vs : List Nat), (wipe τ vs)[i]? = if i ∈ vs ∧ i < τ.length then some none else τ[i]? := by
    intro τ i vs
    induction vs with
    | nil => simp [wipe]
    | cons v vs ih =>
      unfold wipe
      by_cases e : v = i
      · subst e
        by_cases hv : v < τ.length
        · rw [List.getElem?_set_self (by rw [wipe_length]; exact hv)]; simp [hv]
        · rw [List.getElem?_eq_none (by rw [List.length_set, wipe_length]; omega)]
          rw [if_neg (by simp [hv]), List.getElem?_eq_none (by omega)]
      · rw [List.getElem?_set_ne e, ih]
        simp only [List.mem_cons]
        have : ¬ i = v := fun z => e z.symm
        simp [this]
  apply List.ext_getElem?
  intro i
  rw [key, key, hl]
  by_cases hi : i ∈ vs
  · by_cases hb : i < σ.length
    · rw [if_pos ⟨hi, hb⟩, if_pos ⟨hi, hb⟩]
    · rw [if_neg (fun z => hb z.2), if_neg (fun z => hb z.2), List.getElem?_eq_none (by omega), List.getElem?_eq_none (by omega)]
  · rw [if_neg (fun z => hi z.1), if_neg (fun z => hi z.1), h i hi]
theorem wipe_out' {σ : L2.St} {vs : List Nat} {i : Nat} (h : i ∉ vs) : (wipe σ vs)[i]? = σ[i]? := by
  induction vs with
  | nil => rfl
  | cons v vs ih =>
    unfold wipe
    rw [List.mem_cons, not_or] at h
    rw [List.getElem?_set_ne (fun z => h.1 z.symm), ih h.2]
theorem wipe_wipe (σ : L2.St) (vs : List Nat) : wipe (wipe σ vs) vs = wipe σ vs := wipe_ext (fun i hi => wipe_out' hi) (wipe_length σ vs)
/-- a slot gets a value that its place holds -/
theorem Rel.putV {i : Nat} {x : V} {d : D} (R : Rel K C G ρ σ H) (hx : σ[i]? = some (some x)) (h : Rp K G x d) : Rel K C G (ρ.set i (some (.v d))) σ H := by
  have := R.setV (i := i) h
  have e : σ.set i (some x) = σ := by
    apply List.ext_getElem?
    intro j
    by_cases hj : j = i
    · subst hj
      have hl : j < σ.length := (List.getElem?_eq_some_iff.mp hx).1
      rw [List.getElem?_set_self hl, hx]
    · rw [List.getElem?_set_ne (Ne.symm hj)]
  rw [e] at this
  exact this
theorem Rel.rst (R1 : Rel K C G ρ1 σ H) {G2 H2 : Hp} (s : Same G G2) (R2 : Rel K C G2 ρ2 σ H2) : ∀ {vs : List Nat} {ρo : Env}, rst ρ1 ρ2 vs = some ρo → Rel K C G2 ρo σ H2
  | [], _, e => by cases e; exact R2
  | v :: vs, ρo, e => by
    unfold Fd.rst at e
    obtain ⟨ρ, e1, e⟩ := Option.bind_eq_some_iff.mp e
    have ih := Rel.rst R1 s R2 e1
    cases hq : ρ1[v]? with
    | none => rw [hq] at e; cases e; exact ih
    | some o =>
      rw [hq] at e
      cases o with
      | none => cases e; exact ih
      | some sl =>
        cases sl with
        | v d =>
          cases e
          obtain ⟨x, hx, ok⟩ := R1.slot v _ hq
          exact ih.putV hx (Rp.mono ok s)
        | L _ => cases e
        | M _ => cases e
        | U _ => cases e
        | W _ _ => cases e
theorem snd_lc {wi : TI} {it : Env → Option (List D × Env)} {g : TG} {gf : D → Env → Option Env} {tv vs : List Nat} {tt : TT} {tf : ET} {te : TE} {ef : E} (hi : SndI K wi it) (hg : SndG K g gf tv) (hsub : ∀ i ∈ tv, i ∈ vs) (ht : SndT K tt tf) (he : SndE K te ef) :
    SndF K (tLc wi g tt te vs) (fLc it gf tf ef vs) := fun C G ρ σ H c ρ' R e Q q => by
  unfold fLc at e
  obtain ⟨⟨ds, ρ1⟩, e1, e⟩ := Option.bind_eq_some_iff.mp e
  obtain ⟨⟨xs, ρ2⟩, e2, e⟩ := Option.bind_eq_some_iff.mp e
  obtain ⟨ρo, e3, e⟩ := Option.bind_eq_some_iff.mp e
  split at e
  · rename_i hlen
    cases e
    refine hi C G ρ σ H _ _ R e1 _ fun J G1 H1 s1 R1 ok D hD => ?_
    obtain ⟨cp, gp⟩ := free_P R1 hD
    have hsz : xs.length ≤ sizeLine := by rw [sizeLine_eq]; exact hlen
    refine ⟨fun i m H' => m = ds.length - i ∧ i ≤ ds.length ∧ ∃ ρi Gi aV aD rest, Same G1 Gi ∧ Rel K (pen C D (.lst aV)) Gi ρi (wipe σ vs) H' ∧ RpL K Gi aV aD ∧ compF gf tf ef vs (ds.drop i) ρi = some (rest, ρ2) ∧ xs = aD ++ rest,
      ⟨ds.length, by simp, Nat.zero_le _, dropE ρ1 vs, G1, [], [], xs, Same.refl _, ?_, .nil, by simpa using e2, rfl⟩, ?_⟩
    · exact (R1.allocP hD).reσ (fun i hi => wipe_out' hi) (wipe_length σ vs)
    rintro i m H' ⟨rfl, hi', ρi, Gi, aV, aD, rest, si, Ri, ra, ei, ex⟩
    obtain ⟨go, stop⟩ := ok _ Gi ρi (wipe σ vs) H' si Ri i
    by_cases hlt : i < ds.length
    · obtain ⟨g1, g2⟩ := go hlt
      refine .inr ⟨g1, fun H'' => ∃ ρi Gi aV aD rest, Same G1 Gi ∧ Rel K (pen C D (.lst aV)) Gi ρi (wipe σ vs) H'' ∧ RpL K Gi aV aD ∧ compF gf tf ef vs (ds.drop (i + 1)) ρi = some (rest, ρ2) ∧ xs = aD ++ rest, fun H'' h => ⟨ds.length - (i + 1), by omega, rfl, hlt, h⟩, fun x H2 y => ?_⟩
      obtain ⟨G2, s2, R2, d, hd, rd⟩ := g2 x H2 y
      have hd' : ds.drop i = d :: ds.drop (i + 1) := by
        rw [List.drop_eq_getElem_cons hlt]
        rw [List.getElem?_eq_getElem hlt] at hd
        rw [Option.some.inj hd]
      rw [hd'] at ei
      unfold compF at ei
      obtain ⟨ρ3, e4, ei⟩ := Option.bind_eq_some_iff.mp ei
      obtain ⟨⟨b, ρ4⟩, e5, ei⟩ := Option.bind_eq_some_iff.mp ei
      refine hg _ G2 ρi (wipe σ vs) H2 x d _ R2 rd e4 _ fun G3 σ3 H3 s3 R3 k3 l3 => ?_
      have kk : ∀ j, j ∉ vs → σ3[j]? = (wipe σ vs)[j]? := fun j hj => k3 j fun z => hj (hsub j z)
      have wk : ∀ j, j ∉ vs → (wipe σ vs)[j]? = σ3[j]? := fun j hj => (kk j hj).symm
      have w3 : wipe σ3 vs = wipe σ vs := by rw [wipe_ext kk l3, wipe_wipe]
      refine ⟨w3, ht _ G3 ρ3 σ3 H3 _ _ R3 e5 _ fun G4 H4 s4 R4 => ?_⟩
      cases b with
      | false =>
        rw [if_neg Bool.false_ne_true] at ei ⊢
        exact ⟨dropE ρ4 vs, G4, aV, aD, rest, si.trans (s2.trans (s3.trans s4)), R4.reσ wk l3.symm, ra.mono (s2.trans (s3.trans s4)), ei, ex⟩
      | true =>
        rw [if_pos rfl] at ei ⊢
        obtain ⟨⟨r, ρ5⟩, e6, ei⟩ := Option.bind_eq_some_iff.mp ei
        obtain ⟨⟨z, ρ6⟩, e7, ei⟩ := Option.bind_eq_some_iff.mp ei
        obtain ⟨⟨rest', ρ7⟩, e8, ei⟩ := Option.bind_eq_some_iff.mp ei
        cases ei
        refine he _ G4 ρ4 σ3 H4 _ _ R4 e6 _ fun v G5 H5 s5 R5 v5 => ?_
        obtain ⟨G6, s6, R6, v6⟩ := R5.fr v5 e7
        have sm : Same Gi G6 := s2.trans (s3.trans (s4.trans (s5.trans s6)))
        have hlenV : aV.length = aD.length := ra.length
        have : xs.length = aD.length + (rest'.length + 1) := by rw [ex]; simp
        refine ⟨aV, (R6.pend D _ upd_same).1, by omega, dropE ρ6 vs, G6, aV ++ [v], aD ++ [z], rest', si.trans sm, ?_, (ra.mono sm).append (.cons v6 .nil), e8, by rw [ex]; simp⟩
        exact (R6.writeP cp).reσ wk l3.symm
    · have : i = ds.length := by omega
      subst this
      rw [List.drop_length] at ei
      cases ei
      refine .inl ⟨stop (Nat.le_refl _), ?_⟩
      rw [List.append_nil] at ex
      subst ex
      refine q D (.lst aV) Gi H' (s1.trans si) cp ?_ ra
      have R2 : Rel K (pen C D (.lst aV)) Gi (dropE ρ2 vs) σ H' := Ri.reσ (fun i hi => (wipe_out' hi).symm) (wipe_length σ vs).symm
      have R1' : Rel K (pen C D (.lst [])) G1 ρ1 σ (upd H1 D (.lst [])) := R1.allocP hD
      -- the outer values
      have key : ∀ {us : List Nat} {ρo : Env}, rst ρ1 (dropE ρ2 vs) us = some ρo → Rel K (pen C D (.lst aV)) Gi ρo σ H' := by
        intro us
        induction us with
        | nil => intro ρo e; cases e; exact R2
        | cons u us ih =>
          intro ρo e
          unfold rst at e
          obtain ⟨ρ, e1, e⟩ := Option.bind_eq_some_iff.mp e
          have ih' := ih e1
          cases hq : ρ1[u]? with
          | none => rw [hq] at e; cases e; exact ih'
          | some o =>
            rw [hq] at e
            cases o with
            | none => cases e; exact ih'
            | some sl =>
              cases sl with
              | v d =>
                cases e
                obtain ⟨x, hx, ok⟩ := R1.slot u _ hq
                exact ih'.putV hx (Rp.mono ok si)
              | L _ => cases e
              | M _ => cases e
              | U _ => cases e
              | W _ _ => cases e
      exact key e3
  · cases e
end
section
variable {X : Cx} {elt tg iter : Expr} {ifs : List Expr} {scope : Scope} {own : List (Str × Nat)} {pos : Pos} {wi : TI} {it : Env → Option (List D × Env)} {g : TG} {gf : D → Env → Option Env} {tv : List Nat} {tt : TT} {tf : ET} {te : TE} {ef : E}
structure TsOk (X : Cx) (ifs : List Expr) (t : TT) (f : ET) : Prop where
  pts : PTs X ifs t
  sn : SndT X.K t f
def tYes' : ET := fun ρ => some (true, ρ)
theorem ts_nil : TsOk X [] tYes tYes' := ⟨pts_nil, fun C G ρ σ H b ρ' R e Q q => by cases e; exact q G H (Same.refl G) R⟩
theorem ts_one {c : Expr} (h : TOk X c tt tf) : TsOk X [c] tt tf := ⟨pts_one h.pt, h.sn⟩
abbrev BIx := Shared × Hp × Addr × List (Str × Addr) × List Addr
def blkOf (X : Cx) (scope : Scope) : BIx → Cx := fun p => X.blk p.1 p.2.1 scope (compEnvC scope p.2.2.2.1 p.2.2.1 X.env) p.2.2.2.2
/-- what a walk asks, whichever block it stands in -/
def anyE (X : Cx) (scope : Scope) (e : Expr) (f : E) : TE := fun σ H Q => ∀ i, ∃ t, PE (blkOf X scope i) e t ∧ SndE X.K t f ∧ t σ H Q
def anyT (X : Cx) (scope : Scope) (e : List Expr) (f : ET) : TT := fun σ H Q => ∀ i, ∃ t, PTs (blkOf X scope i) e t ∧ SndT X.K t f ∧ t σ H Q
def anyG (X : Cx) (scope : Scope) (e : Expr) (f : D → Env → Option Env) (tv : List Nat) : TG := fun v σ H Q => ∀ i, ∃ t, PG (blkOf X scope i) e t ∧ SndG X.K t f tv ∧ t v σ H Q
theorem anyE_ok {e : Expr} {f : E} (h : ∀ i, ∃ t, EOk (blkOf X scope i) e t f) (i : BIx) : EOk (blkOf X scope i) e (anyE X scope e f) f :=
  ⟨⟨fun pins s σ H Q I k => by
    obtain ⟨t, p, _, q⟩ := k i
    exact p.run pins s σ H Q I q⟩, fun C G ρ σ H r ρ' R e Q q j => by
    obtain ⟨t, ok⟩ := h j
    exact ⟨t, ok.pe, ok.sn, ok.sn C G ρ σ H r ρ' R e Q q⟩⟩
theorem anyT_ok {e : List Expr} {f : ET} (h : ∀ i, ∃ t, TsOk (blkOf X scope i) e t f) (i : BIx) : TsOk (blkOf X scope i) e (anyT X scope e f) f :=
  ⟨⟨fun pins s σ H Q I k => by
    obtain ⟨t, p, _, q⟩ := k i
    exact p.run pins s σ H Q I q⟩, fun C G ρ σ H r ρ' R e Q q j => by
    obtain ⟨t, ok⟩ := h j
    exact ⟨t, ok.pts, ok.sn, ok.sn C G ρ σ H r ρ' R e Q q⟩⟩
theorem anyG_ok {e : Expr} {f : D → Env → Option Env} {tv : List Nat} (h : ∀ i, ∃ t, GOk (blkOf X scope i) e t f tv) (i : BIx) : GOk (blkOf X scope i) e (anyG X scope e f tv) f tv :=
  ⟨⟨fun pins s σ H v u Q I r k => by
    obtain ⟨t, p, _, q⟩ := k i
    exact p.run pins s σ H v u Q I r q⟩, fun C G ρ σ H v d ρ' R r e => by
    have hh : ∀ j, ∃ t, PG (blkOf X scope j) _ t ∧ SndG X.K t f tv := fun j => by
      obtain ⟨t, ok⟩ := h j
      exact ⟨t, ok.pg, ok.sn⟩
    first
      | (intro Q q j
         obtain ⟨t, p, sn⟩ := hh j
         exact ⟨t, p, sn, sn C G ρ σ H v d ρ' R r e Q q⟩)
      | exact ⟨by intro Q q j; obtain ⟨t, p, sn⟩ := hh j; exact ⟨t, p, sn, (sn C G ρ σ H v d ρ' R r e).1 Q q⟩, by obtain ⟨t, p, sn⟩ := hh default; exact (sn C G ρ σ H v d ρ' R r e).2⟩⟩
theorem f_lc (hc : X.calm = true) (hN : X.N.Nodup) (hi : IOk X tg iter wi it) (ok : BlkOk X.N X.env.scope scope own) (hsub : ∀ i ∈ tv, i ∈ own.map (·.2))
    (hg : ∀ (s : Shared) (H : Hp) (C : Addr) (cl : List (Str × Addr)) (fp : List Addr), ∃ g, GOk (X.blk s H scope (compEnvC scope cl C X.env) fp) tg g gf tv) (ht : ∀ (s : Shared) (H : Hp) (C : Addr) (cl : List (Str × Addr)) (fp : List Addr), ∃ tt, TsOk (X.blk s H scope (compEnvC scope cl C X.env) fp) ifs tt tf)
    (he : ∀ (s : Shared) (H : Hp) (C : Addr) (cl : List (Str × Addr)) (fp : List Addr), ∃ te, EOk (X.blk s H scope (compEnvC scope cl C X.env) fp) elt te ef) (hs : ∀ x, foldedSetIterable iter X.env x = pure x := by intro _; rfl) :
    FOk X (.ListComp elt [⟨tg, iter, ifs, 0⟩] scope pos) (tLc wi (anyG X scope tg gf tv) (anyT X scope ifs tf) (anyE X scope elt ef) (own.map (·.2))) (fLc it gf tf ef (own.map (·.2))) :=
  have hg' := fun i => anyG_ok (f := gf) (tv := tv) (fun p : BIx => hg p.1 p.2.1 p.2.2.1 p.2.2.2.1 p.2.2.2.2) i
  have ht' := fun i => anyT_ok (f := tf) (fun p : BIx => ht p.1 p.2.1 p.2.2.1 p.2.2.2.1 p.2.2.2.2) i
  have he' := fun i => anyE_ok (f := ef) (fun p : BIx => he p.1 p.2.1 p.2.2.1 p.2.2.2.1 p.2.2.2.2) i
  ⟨pe_lc hc hN hi.pi ok (fun s H C cl fp => (hg' (s, H, C, cl, fp)).pg) (fun s H C cl fp => (ht' (s, H, C, cl, fp)).pts) (fun s H C cl fp => (he' (s, H, C, cl, fp)).pe) hs,
    snd_lc hi.sn (hg' (X.s_0, X.H_0, 0, [], [])).sn hsub (ht' (X.s_0, X.H_0, 0, [], [])).sn (he' (X.s_0, X.H_0, 0, [], [])).sn⟩
/-- y = [..], the slot's own list, or frozen -/
theorem s_ownLc {i : Nat} {y : Str} {py spos : Pos} (hc : X.calm = true) (hN : X.N.Nodup) (hy : X.N[i]? = some y) (hyl : X.env.scope.names.lookup y = some .local)
    (hsw : swapsWith (.ListComp elt [⟨tg, iter, ifs, 0⟩] scope pos) (some (.Name y py)) spos.line X.env = pure true) (hi : IOk X tg iter wi it) (ok : BlkOk X.N X.env.scope scope own) (hsub : ∀ i ∈ tv, i ∈ own.map (·.2))
    (hg : ∀ (s : Shared) (H : Hp) (C : Addr) (cl : List (Str × Addr)) (fp : List Addr), ∃ g, GOk (X.blk s H scope (compEnvC scope cl C X.env) fp) tg g gf tv) (ht : ∀ (s : Shared) (H : Hp) (C : Addr) (cl : List (Str × Addr)) (fp : List Addr), ∃ tt, TsOk (X.blk s H scope (compEnvC scope cl C X.env) fp) ifs tt tf)
    (he : ∀ (s : Shared) (H : Hp) (C : Addr) (cl : List (Str × Addr)) (fp : List Addr), ∃ te, EOk (X.blk s H scope (compEnvC scope cl C X.env) fp) elt te ef) (hs : ∀ x, foldedSetIterable iter X.env x = pure x := by intro _; rfl) :
    SOk X (.Assign [.Name y py] (.ListComp elt [⟨tg, iter, ifs, 0⟩] scope pos) spos) (tAsg (tLc wi (anyG X scope tg gf tv) (anyT X scope ifs tf) (anyE X scope elt ef) (own.map (·.2))) (gName i)) (sOwn i (fLc it gf tf ef (own.map (·.2)))) :=
  have hg' := fun i => anyG_ok (f := gf) (tv := tv) (fun p : BIx => hg p.1 p.2.1 p.2.2.1 p.2.2.2.1 p.2.2.2.2) i
  have ht' := fun i => anyT_ok (f := tf) (fun p : BIx => ht p.1 p.2.1 p.2.2.1 p.2.2.2.1 p.2.2.2.2) i
  have he' := fun i => anyE_ok (f := ef) (fun p : BIx => he p.1 p.2.1 p.2.2.1 p.2.2.2.1 p.2.2.2.2) i
  ⟨ps_setLc hc hN hy hyl hsw hi.pi ok (fun s H C cl fp => (hg' (s, H, C, cl, fp)).pg) (fun s H C cl fp => (ht' (s, H, C, cl, fp)).pts) (fun s H C cl fp => (he' (s, H, C, cl, fp)).pe) hs,
    snd_own i (snd_lc hi.sn (hg' (X.s_0, X.H_0, 0, [], [])).sn hsub (ht' (X.s_0, X.H_0, 0, [], [])).sn (he' (X.s_0, X.H_0, 0, [], [])).sn)⟩
end

/-! ### a list, a dict that changes -/
def isL (ρ : Env) (i : Nat) : Bool := match ρ[i]? with
  | some (some (.L _)) => true
  | _ => false
def isM (ρ : Env) (i : Nat) : Bool := match ρ[i]? with
  | some (some (.M _)) => true
  | _ => false
def sApp (i : Nat) (f : E) : S := fun ρ => if isL ρ i = true then (f ρ).bind fun p => (fr p.2 p.1).bind fun q => match q.2[i]? with
    | some (some (.L ds)) => if ds.length < 16777216 then some (.nx, q.2.set i (some (.L (ds ++ [q.1])))) else none
    | _ => none
  else none
def sExt (i : Nat) (f : E) : S := fun ρ => if isL ρ i = true then (f ρ).bind fun p => (fr p.2 p.1).bind fun q => match q.1 with
    | .lst es => match q.2[i]? with
      | some (some (.L ds)) => if ds.length + es.length ≤ 16777216 then some (.nx, q.2.set i (some (.L (ds ++ es)))) else none
      | _ => none
    | _ => none
  else none
section
variable {X : Cx} {e : Expr} {te : TE} {fe : E} {pos apos cpos p : Pos} {x : Str}
theorem slotL {K : PySem.W.Frag} {C : Cfg} {G H : Hp} {ρ : Env} {σ : L2.St} {i : Nat} {ds : List D} (R : Rel K C G ρ σ H) (h : ρ[i]? = some (some (.L ds))) : ∃ a xs, σ[i]? = some (some (.ref a)) ∧ H a = some (.lst xs) ∧ RpL K G xs ds := by
  obtain ⟨x, hx, a, xs, rfl, _, _, _, _, h1, h2⟩ := R.slot i _ h
  exact ⟨a, xs, hx, h1, h2⟩
theorem slotM {K : PySem.W.Frag} {C : Cfg} {G H : Hp} {ρ : Env} {σ : L2.St} {i : Nat} {ds : List (Key × D)} (R : Rel K C G ρ σ H) (h : ρ[i]? = some (some (.M ds))) : ∃ a xs, σ[i]? = some (some (.ref a)) ∧ H a = some (.dK xs) ∧ RpM K G xs ds := by
  obtain ⟨x, hx, a, xs, rfl, _, _, _, _, h1, h2⟩ := R.slot i _ h
  exact ⟨a, xs, hx, h1, h2⟩
theorem isL_slot {K : PySem.W.Frag} {C : Cfg} {G H : Hp} {ρ : Env} {σ : L2.St} {i : Nat} (R : Rel K C G ρ σ H) (h : isL ρ i = true) : ∃ a xs, σ[i]? = some (some (.ref a)) ∧ H a = some (.lst xs) := by
  unfold isL at h
  split at h
  · rename_i ds hq
    obtain ⟨a, xs, h1, h2, _⟩ := slotL R hq
    exact ⟨a, xs, h1, h2⟩
  · cases h
theorem isM_slot {K : PySem.W.Frag} {C : Cfg} {G H : Hp} {ρ : Env} {σ : L2.St} {i : Nat} (R : Rel K C G ρ σ H) (h : isM ρ i = true) : ∃ a xs, σ[i]? = some (some (.ref a)) ∧ H a = some (.dK xs) := by
  unfold isM at h
  split at h
  · rename_i ds hq
    obtain ⟨a, xs, h1, h2, _⟩ := slotM R hq
    exact ⟨a, xs, h1, h2⟩
  · cases h
theorem s_append {i : Nat} (hx : PE X (.Name x p) (tVar i)) (he : EOk X e te fe) (hbase : attributeBase (.Name x p) "append" X.env (eval (.Name x p) X.env) = eval (.Name x p) X.env := by rfl)
    (hfew : ((backTo cpos (starEach [e] X.env)).all (fun x => !x.1) && (backToKw cpos (keywordEach [] X.env)).all (fun x => x.1.isSome) && decide ([e].length + ([] : List Keyword).length + (if ([] : List Keyword).isEmpty then 0 else 1) < 30)) = true := by rfl)
    (hline : (apos.endLine == cpos.line) = true := by rfl) (hs : starEach [e] X.env = (false, eval e X.env) :: starEach [] X.env := by rfl) (hplain : (backTo cpos (starEach [] X.env)).any (·.1) = false := by rfl)
    (hsw : swapsWith (.Call (.Attribute (.Name x p) "append" apos) [e] [] cpos) none pos.line X.env = pure false := by rfl) :
    SOk X (.Expr (.Call (.Attribute (.Name x p) "append" apos) [e] [] cpos) pos) (tDrop (tBM X.K "list" rAppend (tVar i) (tCons te tNil))) (sApp i fe) :=
  ⟨ps_expr (pe_bm PySem.F.plainAttrs_list PySem.F.slot_list_append PySem.F.type_list_append mt_append hx (pa_cons he.pe pa_nil hs) hbase hfew hline hs hplain) hsw, fun C G ρ σ H fl ρ' R e D' q => by
  unfold sApp at e
  split at e
  · rename_i hL
    obtain ⟨⟨r, ρ1⟩, e1, e⟩ := Option.bind_eq_some_iff.mp e
    obtain ⟨⟨d, ρ2⟩, e2, e⟩ := Option.bind_eq_some_iff.mp e
    dsimp only at e
    split at e
    · rename_i ds hq
      split at e
      · rename_i hlen
        cases e
        obtain ⟨a, xs, ha, hx⟩ := isL_slot R hL
        refine ⟨_, ha, .inl ⟨rfl, xs, SqL.of hx⟩, he.sn C G ρ σ H _ _ R e1 _ fun v G1 H1 s1 R1 v1 => ?_⟩
        obtain ⟨G2, s2, R2, v2⟩ := R1.fr v1 e2
        obtain ⟨a', xs', ha', hx', hr⟩ := slotL R2 hq
        rw [ha] at ha'; cases ha'
        refine ⟨a, xs', v, rfl, rfl, hx', by rw [hr.length, sizeLine_eq]; exact hlen, ?_⟩
        exact q G2 σ _ (s1.trans s2) (R2.setL hq ha (hr.append (.cons v2 .nil)))
      · cases e
    · cases e
  · cases e⟩
theorem s_extend {i : Nat} (hx : PE X (.Name x p) (tVar i)) (he : EOk X e te fe) (hbase : attributeBase (.Name x p) "extend" X.env (eval (.Name x p) X.env) = eval (.Name x p) X.env := by rfl)
    (hfew : ((backTo cpos (starEach [e] X.env)).all (fun x => !x.1) && (backToKw cpos (keywordEach [] X.env)).all (fun x => x.1.isSome) && decide ([e].length + ([] : List Keyword).length + (if ([] : List Keyword).isEmpty then 0 else 1) < 30)) = true := by rfl)
    (hline : (apos.endLine == cpos.line) = true := by rfl) (hs : starEach [e] X.env = (false, eval e X.env) :: starEach [] X.env := by rfl) (hplain : (backTo cpos (starEach [] X.env)).any (·.1) = false := by rfl)
    (hsw : swapsWith (.Call (.Attribute (.Name x p) "extend" apos) [e] [] cpos) none pos.line X.env = pure false := by rfl) :
    SOk X (.Expr (.Call (.Attribute (.Name x p) "extend" apos) [e] [] cpos) pos) (tDrop (tBM X.K "list" rExtend (tVar i) (tCons te tNil))) (sExt i fe) :=
  ⟨ps_expr (pe_bm PySem.F.plainAttrs_list PySem.F.slot_list_extend PySem.F.type_list_extend mt_extend hx (pa_cons he.pe pa_nil hs) hbase hfew hline hs hplain) hsw, fun C G ρ σ H fl ρ' R e D' q => by
  unfold sExt at e
  split at e
  · rename_i hL
    obtain ⟨⟨r, ρ1⟩, e1, e⟩ := Option.bind_eq_some_iff.mp e
    obtain ⟨⟨d, ρ2⟩, e2, e⟩ := Option.bind_eq_some_iff.mp e
    dsimp only at e
    split at e
    · rename_i es
      split at e
      · rename_i ds hq
        split at e
        · rename_i hlen
          cases e
          obtain ⟨a, xs, ha, hx⟩ := isL_slot R hL
          refine ⟨_, ha, .inl ⟨rfl, xs, SqL.of hx⟩, he.sn C G ρ σ H _ _ R e1 _ fun v G1 H1 s1 R1 v1 => ?_⟩
          obtain ⟨G2, s2, R2, v2⟩ := R1.fr v1 e2
          obtain ⟨a', xs', ha', hx', hr⟩ := slotL R2 hq
          rw [ha] at ha'; cases ha'
          cases v2 with | lst hb rb =>
          refine ⟨a, _, xs', _, rfl, rfl, hx', R2.gh _ _ hb, by rw [hr.length, rb.length, sizeLine_eq]; exact hlen, ?_⟩
          exact q G2 σ _ (s1.trans s2) (R2.setL hq ha (hr.append rb))
        · cases e
      · cases e
    · cases e
  · cases e⟩
/-- xs[i] = e, d[k] = e -/
def rSetAll : V → V → V → Hp → (Hp → Prop) → Prop := rSetL
def ixD (n : Nat) (i : Int) : Option Nat := if 0 ≤ i then (if i < n then some i.toNat else none) else if -(n : Int) ≤ i then some (i + n).toNat else none
def sIxL (j : Nat) (fi fe : E) : S := fun ρ => (fe ρ).bind fun p => (fr p.2 p.1).bind fun q => if isL q.2 j = true then (fi q.2).bind fun r => match r.1 with
    | .d (.int k) => match r.2[j]? with
      | some (some (.L ds)) => (ixD ds.length k).bind fun n => some (.nx, r.2.set j (some (.L (ds.set n q.1))))
      | _ => none
    | _ => none
  else none
theorem s_setIx {j : Nat} {i : Expr} {ti : TE} {fi : E} {tpos : Pos} (hx : PE X (.Name x p) (tVar j)) (hi : EOk X i ti fi) (he : EOk X e te fe) (hs : swapsWithSole [.Subscript (.Name x p) i tpos] e pos.line X.env = pure false := by rfl) (hw : swappedStores [.Subscript (.Name x p) i tpos] e X.env = pure none := by rfl)
    (h1 : (assignEach [.Subscript (.Name x p) i tpos] X.env).map (·.2) = [assign (.Subscript (.Name x p) i tpos) X.env] := by rfl)
    (ha : ∀ v, assign (.Subscript (.Name x p) i tpos) X.env v = (do
      let ov ← holding [v] (eval (.Name x p) X.env)
      let iv ← holding [v, ov] (eval i X.env)
      standAt tpos
      holding [v, ov, iv] (setItem ov iv v)
      release [v, ov, iv] []) := by intro _; rfl) : SOk X (.Assign [.Subscript (.Name x p) i tpos] e pos) (tAsg te (gSub (tVar j) ti rSetL)) (sIxL j fi fe) := ⟨ps_asg he.pe (pg_sub hx hi.pe set_list ha) hs hw h1, fun C G ρ σ H fl ρ' R e D' q => by
  unfold sIxL at e
  obtain ⟨⟨r, ρ1⟩, e1, e⟩ := Option.bind_eq_some_iff.mp e
  obtain ⟨⟨d, ρ2⟩, e2, e⟩ := Option.bind_eq_some_iff.mp e
  split at e
  · rename_i hL
    obtain ⟨⟨r3, ρ3⟩, e3, e⟩ := Option.bind_eq_some_iff.mp e
    refine he.sn C G ρ σ H _ _ R e1 _ fun v G1 H1 s1 R1 v1 => ?_
    obtain ⟨G2, s2, R2, v2⟩ := R1.fr v1 e2
    dsimp only at e
    split at e
    · rename_i k
      split at e
      · rename_i ds hq
        obtain ⟨n, e4, e⟩ := Option.bind_eq_some_iff.mp e
        cases e
        obtain ⟨a0, xs0, ha0, _⟩ := isL_slot R2 hL
        refine ⟨_, ha0, hi.sn C G2 ρ2 σ H1 _ _ R2 e3 _ fun u G3 H3 s3 R3 v3 => ?_⟩
        obtain ⟨a, xs, ha, hx, hr⟩ := slotL R3 hq
        rw [ha0] at ha; cases ha
        cases v3
        refine ⟨a0, xs, k, n, rfl, rfl, hx, ?_, ?_⟩
        · rw [hr.length]; exact e4
        · exact q G3 σ _ (s1.trans (s2.trans s3)) (R3.setL hq ha0 (hr.set (v2.mono s3) n))
      · cases e
    · cases e
  · cases e⟩
/-- d[k] = e -/
def sKeyM (j : Nat) (fi fe : E) : S := fun ρ => (fe ρ).bind fun p => (fr p.2 p.1).bind fun q => if isM q.2 j = true then (fi q.2).bind fun r => match r.1 with
    | .d kd => (dkey kd).bind fun k => match r.2[j]? with
      | some (some (.M ds)) => if ds.length < 16777216 then some (.nx, r.2.set j (some (.M (mput ds k q.1)))) else none
      | _ => none
    | _ => none
  else none
theorem s_setKey {j : Nat} {i : Expr} {ti : TE} {fi : E} {tpos : Pos} (hu : X.A.units + 1 < cLine) (hx : PE X (.Name x p) (tVar j)) (hi : EOk X i ti fi) (he : EOk X e te fe) (hs : swapsWith e (some (.Subscript (.Name x p) i tpos)) pos.line X.env = pure false := by rfl) :
    SOk X (.Assign [.Subscript (.Name x p) i tpos] e pos) (sDPut (tVar j) ti te) (sKeyM j fi fe) := ⟨ps_dput hu hx hi.pe he.pe hs, fun C G ρ σ H fl ρ' R e D' q => by
  unfold sKeyM at e
  obtain ⟨⟨r, ρ1⟩, e1, e⟩ := Option.bind_eq_some_iff.mp e
  obtain ⟨⟨d, ρ2⟩, e2, e⟩ := Option.bind_eq_some_iff.mp e
  split at e
  · rename_i hL
    obtain ⟨⟨r3, ρ3⟩, e3, e⟩ := Option.bind_eq_some_iff.mp e
    refine he.sn C G ρ σ H _ _ R e1 _ fun v G1 H1 s1 R1 v1 => ?_
    obtain ⟨G2, s2, R2, v2⟩ := R1.fr v1 e2
    dsimp only at e
    split at e
    · rename_i kd
      obtain ⟨k, e4, e⟩ := Option.bind_eq_some_iff.mp e
      split at e
      · rename_i ds hq
        split at e
        · rename_i hlen
          cases e
          obtain ⟨a0, xs0, ha0, _⟩ := isM_slot R2 hL
          refine ⟨_, ha0, hi.sn C G2 ρ2 σ H1 _ _ R2 e3 _ fun u G3 H3 s3 R3 v3 => ?_⟩
          obtain ⟨a, xs, ha, hx, hr⟩ := slotM R3 hq
          rw [ha0] at ha; cases ha
          obtain rfl := kv_of v3 e4
          refine ⟨a0, _, rfl, DPut.k hx (by rw [hr.length, sizeLine_eq]; exact hlen), ?_⟩
          exact q G3 σ _ (s1.trans (s2.trans s3)) (R3.setM hq ha0 (hr.put k (v2.mono s3)))
        · cases e
      · cases e
    · cases e
  · cases e⟩
end
end Fd

set_option Elab.async false
set_option linter.all false
set_option maxRecDepth 100000
/-! Fd6: several targets at once; calls that draw. -/
namespace Fd
open PySem PySem.Spec PyProof.Rows L2

/-! ### a, b = e1, e2 -/
inductive PenL (K : PySem.W.Frag) (G : Hp) : Cfg → Cfg → List V → List Sl → Prop
  | nil {C : Cfg} : PenL K G C C [] []
  | v {C C' : Cfg} {x : V} {xs : List V} {d : D} {ss : List Sl} : Rp K G x d → PenL K G C C' xs ss → PenL K G C C' (x :: xs) (.v d :: ss)
  | own {C C' : Cfg} {p : Addr} {o : HO} {c : Ct} {xs : List V} {ss : List Sl} : C.P p = none → CtOk K G o c → PenL K G (pen C p o) C' xs ss → PenL K G C C' (.ref p :: xs) (c.sl :: ss)
theorem CtOk.mono {K : PySem.W.Frag} {G G' : Hp} {o : HO} {c : Ct} (h : CtOk K G o c) (s : Same G G') : CtOk K G' o c := by
  cases o <;> cases c <;> first | exact h.elim | skip
  · exact RpL.mono h s
  · exact RpM.mono h s
theorem PenL.mono {K : PySem.W.Frag} {G G' : Hp} (s : Same G G') : ∀ {C C' : Cfg} {xs : List V} {ss : List Sl}, PenL K G C C' xs ss → PenL K G' C C' xs ss
  | _, _, _, _, .nil => .nil
  | _, _, _, _, .v r h => .v (r.mono s) (PenL.mono s h)
  | _, _, _, _, .own a b h => .own a (b.mono s) (PenL.mono s h)
abbrev ELs := Env → Option (List Sl × Env)
def SndLs (K : PySem.W.Frag) (t : TA) (f : ELs) : Prop := ∀ C G ρ σ H ss ρ', Rel K C G ρ σ H → f ρ = some (ss, ρ') →
  ∀ Q : List V → Hp → Prop, (∀ vs C' G' H', Same G G' → PenL K G' C C' vs ss → Rel K C' G' ρ' σ H' → Q vs H') → t σ H Q
structure LOk (X : Cx) (es : List Expr) (t : TA) (f : ELs) : Prop where
  pa : PA X es t
  sn : SndLs X.K t f
def lNil : ELs := fun ρ => some ([], ρ)
def lE (f : E) (g : ELs) : ELs := fun ρ => (f ρ).bind fun p => (fr p.2 p.1).bind fun x => (g x.2).bind fun q => some (.v x.1 :: q.1, q.2)
def lF (f : EF) (g : ELs) : ELs := fun ρ => (f ρ).bind fun p => (g p.2).bind fun q => some (p.1.sl :: q.1, q.2)
/-- the slots' new contents -/
def setAll (ρ : Env) : List Nat → List Sl → Env
  | i :: is, s :: ss => (setAll ρ is ss).set i (some s)
  | _, _ => ρ
def setAllV (σ : L2.St) : List Nat → List V → L2.St
  | i :: is, s :: ss => (setAllV σ is ss).set i (some s)
  | _, _ => σ
def sPar (is : List Nat) (f : ELs) : S := fun ρ => (f ρ).bind fun p => if p.1.length = is.length then some (.nx, setAll p.2 is p.1) else none
section
variable {K : PySem.W.Frag}
theorem PenL.len {G : Hp} : ∀ {C C' : Cfg} {xs : List V} {ss : List Sl}, PenL K G C C' xs ss → xs.length = ss.length
  | _, _, _, _, .nil => rfl
  | _, _, _, _, .v _ h => by simp [PenL.len h]
  | _, _, _, _, .own _ _ h => by simp [PenL.len h]
theorem PenL.store {G H : Hp} {ρ : Env} {σ : L2.St} : ∀ {C C' : Cfg} {xs : List V} {ss : List Sl} {is : List Nat}, PenL K G C C' xs ss → Rel K C' G ρ σ H → is.length = ss.length → Rel K C G (setAll ρ is ss) (setAllV σ is xs) H
  | _, _, _, _, [], .nil, R, _ => R
  | _, _, _, _, _ :: _, .nil, R, h => by cases h
  | _, _, _, _, [], .v _ _, _, h => by cases h
  | _, _, _, _, i :: is, .v r h, R, hl => by
    have := PenL.store (is := is) h R (by simpa using hl)
    exact this.setV r
  | _, _, _, _, [], .own _ _ _, _, h => by cases h
  | _, _, _, _, i :: is, .own a b h, R, hl => by
    have := PenL.store (is := is) h R (by simpa using hl)
    exact this.own a b
end
section
variable {X : Cx} {e : Expr} {es : List Expr} {te : TE} {t : TA} {fe : E} {ff : EF} {fs : ELs}
theorem l_nil : LOk X [] tNil lNil := ⟨pa_nil, fun C G ρ σ H r ρ' R e Q q => by cases e; exact q _ C G H (Same.refl G) .nil R⟩
theorem l_e (ha : EOk X e te fe) (hr : LOk X es t fs) (hs : starEach (e :: es) X.env = (false, eval e X.env) :: starEach es X.env := by rfl) : LOk X (e :: es) (tCons te t) (lE fe fs) := ⟨pa_cons ha.pe hr.pa hs, fun C G ρ σ H r ρ' R e Q q => by
  unfold lE at e
  obtain ⟨⟨r1, ρ1⟩, e1, e⟩ := Option.bind_eq_some_iff.mp e
  obtain ⟨⟨d, ρ2⟩, e2, e⟩ := Option.bind_eq_some_iff.mp e
  obtain ⟨⟨ss, ρ3⟩, e3, e⟩ := Option.bind_eq_some_iff.mp e
  cases e
  refine ha.sn C G ρ σ H _ _ R e1 _ fun v G1 H1 s1 R1 v1 => ?_
  obtain ⟨G2, s2, R2, v2⟩ := R1.fr v1 e2
  exact hr.sn C G2 ρ2 σ H1 _ _ R2 e3 _ fun vs C' G3 H3 s3 pl R3 => q _ C' G3 H3 (s1.trans (s2.trans s3)) (.v (v2.mono s3) pl) R3⟩
theorem l_f (ha : FOk X e te ff) (hr : LOk X es t fs) (hs : starEach (e :: es) X.env = (false, eval e X.env) :: starEach es X.env := by rfl) : LOk X (e :: es) (tCons te t) (lF ff fs) := ⟨pa_cons ha.pe hr.pa hs, fun C G ρ σ H r ρ' R e Q q => by
  unfold lF at e
  obtain ⟨⟨c, ρ1⟩, e1, e⟩ := Option.bind_eq_some_iff.mp e
  obtain ⟨⟨ss, ρ3⟩, e3, e⟩ := Option.bind_eq_some_iff.mp e
  cases e
  refine ha.sn C G ρ σ H _ _ R e1 _ fun p o G1 H1 s1 cp R1 ok => ?_
  exact hr.sn (pen C p o) G1 ρ1 σ H1 _ _ R1 e3 _ fun vs C' G3 H3 s3 pl R3 => q _ C' G3 H3 (s1.trans s3) (.own cp (ok.mono s3) pl) R3⟩
theorem s_par2 {i j : Nat} {x y : Str} {a b : Expr} {ta : TA} {fa : ELs} {px py pt pos : Pos} {kt k2 pt2} (hc : X.calm = true) (hN : X.N.Nodup) (hi : X.N[i]? = some x) (hj : X.N[j]? = some y) (hij : i ≠ j)
    (hx : X.env.scope.names.lookup x = some .local) (hy : X.env.scope.names.lookup y = some .local) (ha : LOk X [a, b] ta fa)
    (hw : swappedStores [.Tuple [.Name x px, .Name y py] kt pt] (.Tuple [a, b] k2 pt2) X.env = pure (some [x, y]))
    (hs : swapsWithSole [.Tuple [.Name x px, .Name y py] kt pt] (.Tuple [a, b] k2 pt2) pos.line X.env = pure false := by rfl) :
    SOk X (.Assign [.Tuple [.Name x px, .Name y py] kt pt] (.Tuple [a, b] k2 pt2) pos) (tPar i j ta) (sPar [i, j] fa) := ⟨ps_par hc hN hi hj hij hx hy ha.pa hw hs, fun C G ρ σ H fl ρ' R e D' q => by
  unfold sPar at e
  obtain ⟨⟨ss, ρ1⟩, e1, e⟩ := Option.bind_eq_some_iff.mp e
  split at e
  · rename_i hl
    cases e
    refine ha.sn C G ρ σ H _ _ R e1 _ fun vs C' G1 H1 s1 pl R1 => ?_
    have hv := pl.len.trans hl
    have st := pl.store R1 hl.symm
    match vs, hv with
    | [v, w], _ =>
      refine ⟨v, w, rfl, ?_⟩
      rw [List.set_comm _ _ hij]
      exact q G1 _ H1 s1 st
  · cases e⟩
theorem s_par3 {i j l : Nat} {x y z : Str} {a b c : Expr} {ta : TA} {fa : ELs} {px py pz pt pos : Pos} {kt k2 pt2} (hc : X.calm = true) (hN : X.N.Nodup) (hi : X.N[i]? = some x) (hj : X.N[j]? = some y) (hl : X.N[l]? = some z) (hij : i ≠ j) (hil : i ≠ l) (hjl : j ≠ l)
    (hx : X.env.scope.names.lookup x = some .local) (hy : X.env.scope.names.lookup y = some .local) (hz : X.env.scope.names.lookup z = some .local) (ha : LOk X [a, b, c] ta fa)
    (hw : swappedStores [.Tuple [.Name x px, .Name y py, .Name z pz] kt pt] (.Tuple [a, b, c] k2 pt2) X.env = pure (some [x, y, z]))
    (hs : swapsWithSole [.Tuple [.Name x px, .Name y py, .Name z pz] kt pt] (.Tuple [a, b, c] k2 pt2) pos.line X.env = pure false := by rfl) :
    SOk X (.Assign [.Tuple [.Name x px, .Name y py, .Name z pz] kt pt] (.Tuple [a, b, c] k2 pt2) pos) (tPar3 i j l ta) (sPar [i, j, l] fa) := ⟨ps_par3 hc hN hi hj hl hij hil hjl hx hy hz ha.pa hw hs, fun C G ρ σ H fl ρ' R e D' q => by
  unfold sPar at e
  obtain ⟨⟨ss, ρ1⟩, e1, e⟩ := Option.bind_eq_some_iff.mp e
  split at e
  · rename_i hlen
    cases e
    refine ha.sn C G ρ σ H _ _ R e1 _ fun vs C' G1 H1 s1 pl R1 => ?_
    have hv := pl.len.trans hlen
    have st := pl.store R1 hlen.symm
    match vs, hv with
    | [u, v, w], _ =>
      refine ⟨u, v, w, rfl, ?_⟩
      rw [List.set_comm _ _ hjl, List.set_comm _ _ hil, List.set_comm _ _ hij] at *
      first
        | exact q G1 _ H1 s1 st
        | (have e' : (((σ.set i (some u)).set j (some v)).set l (some w)) = setAllV σ [i, j, l] [u, v, w] := by
             show _ = ((σ.set l (some w)).set j (some v)).set i (some u)
             rw [List.set_comm _ _ hij, List.set_comm _ _ hil, List.set_comm _ _ hjl]
           rw [e']; exact q G1 _ H1 s1 st)
  · cases e⟩
end

/-! ### calls that draw -/
/-- the promise of a def whose first argument is the dict of the draws -/
def spW (K : PySem.W.Frag) (F : (Nat → Int) → Nat → List D → Option (D × Nat)) : Sp := fun vs H Q _ => ∃ (G : Hp) (wa l : Addr) (vs' : List V) (ns : List Int) (n : Nat) (ds : List D) (d : D) (n' : Nat), vs = .ref wa :: vs' ∧ Same G H ∧ G wa = none ∧ H wa = some (wDict l n) ∧ G l = some (.lst (ns.map V.int)) ∧ (∀ i ∈ ns, 0 ≤ i ∧ i < 997) ∧
  RpL K G vs' ds ∧ F (drw ns) n ds = some (d, n') ∧
  ∀ v H' G', Same G G' → (∀ a o, a ≠ wa → H a = some o → H' a = some o) → G' wa = none → H' wa = some (wDict l n') → Same G' H' → (∀ a o, G' a = some o → (∃ o, G a = some o) ∨ H a = none) → Rp K G' v d → Q v H'
def eCallW (F : (Nat → Int) → Nat → List D → Option (D × Nat)) (f : EA) : E := fun ρ => (f ρ).bind fun p => match p.1 with
  | .s i :: rs => (frs p.2 rs).bind fun q => match q.2[i]? with
    | some (some (.W s n)) => (F s n q.1).bind fun r => some (.d r.1, q.2.set i (some (.W s r.2)))
    | _ => none
  | _ => none
theorem Rel.afterW {K : PySem.W.Frag} {C : Cfg} {G G' H H' : Hp} {ρ : Env} {σ : L2.St} {i : Nat} {wa : Addr} {s : Nat → Int} {n n' : Nat} (R : Rel K C G ρ σ H) (hi : ρ[i]? = some (some (.W s n))) (hx : σ[i]? = some (some (.ref wa)))
    (s1 : Same G G') (s2 : ∀ a o, a ≠ wa → H a = some o → H' a = some o) (gw : G' wa = none) (hw : H' wa = some (wDict C.l n')) (s3 : Same G' H') (hf : ∀ a o, G' a = some o → (∃ o, G a = some o) ∨ H a = none) : Rel K C G' (ρ.set i (some (.W s n'))) σ H' := by
  obtain ⟨x0, hx0, wa0, ex0, g0, hv, hp, h0, hq, hb, hs⟩ := R.slot i _ hi
  rw [hx] at hx0; cases hx0; cases ex0
  have own : ∀ {a u}, G a = none → H a = some u → G' a = none := fun {a u} g h => by
    cases z : G' a with
    | none => rfl
    | some o =>
      rcases hf a o z with ⟨o', q⟩ | q
      · rw [g] at q; cases q
      · rw [h] at q; cases q
  have hil : i < ρ.length := (List.getElem?_eq_some_iff.mp hi).1
  refine ⟨by simp [R.len], s3, fun a o e v => ?_, fun a e => ?_, fun a o e => ?_, fun a o e => ?_, fun j s e => ?_, fun j k sj sk y ne e1 e2 o1 o2 f1 f2 => ?_⟩
  · exact s2 a o (fun z => v (by rw [z]; exact hv)) (R.base a o e v)
  · rw [hv] at e; cases e; exact ⟨_, hw⟩
  · rcases hf a o e with ⟨o', q⟩ | q
    · exact R.fz a o' q
    · refine .inr ?_
      cases z : C.B a with
      | none => rfl
      | some u =>
        by_cases hv' : C.vol = some a
        · obtain ⟨o2, q2⟩ := R.volh a hv'; rw [q2] at q; cases q
        · rw [R.base a u z hv'] at q; cases q
  · obtain ⟨h1, h2, h3, h4⟩ := R.pend a o e
    have hne : a ≠ wa := fun z => by rw [z, hp] at e; cases e
    exact ⟨s2 _ _ hne h1, own h2 h1, h3, h4⟩
  · rcases getElem?_set_cases e with ⟨rfl, e', hl⟩ | ⟨hj, e'⟩
    · cases e'
      exact ⟨.ref wa, hx, wa, rfl, gw, hv, hp, hw, s1 _ _ hq, hb, hs⟩
    · obtain ⟨y, hy, ok⟩ := R.slot j s e'
      refine ⟨y, hy, ok.keep rfl rfl s1 (fun a ea ow => ?_) (fun a u ea ow hu => ?_)⟩
      · obtain ⟨a', u, e'', q0, qp, hu⟩ := ok.addr ow
        rw [ea] at e''; cases e''
        exact ⟨own q0 hu, qp⟩
      · refine s2 _ _ (fun z => ?_) hu
        subst z
        subst ea
        exact R.apart i j _ _ _ (Ne.symm hj) hi e' trivial ow hx hy
  · have hi' : ∀ {m : Nat} {sm : Sl}, (ρ.set i (some (.W s n')))[m]? = some (some sm) → Own sm → ∃ sm', ρ[m]? = some (some sm') ∧ Own sm' := fun {m sm} e o => by
      rcases getElem?_set_cases e with ⟨rfl, e', hl⟩ | ⟨hm, e'⟩
      · exact ⟨_, hi, trivial⟩
      · exact ⟨_, e', o⟩
    obtain ⟨s1, q1, o1'⟩ := hi' e1 o1
    obtain ⟨s2, q2, o2'⟩ := hi' e2 o2
    exact R.apart j k s1 s2 y ne q1 q2 o1' o2' f1 f2
theorem snd_callW {K : PySem.W.Frag} {F : (Nat → Int) → Nat → List D → Option (D × Nat)} {t : TA} {fs : EA} {EX : XK} (ha : SndA K t fs) : SndE K (tCall (spW K F) [] EX t) (eCallW F fs) := fun C G ρ σ H r ρ' R e Q q => by
  unfold eCallW at e
  obtain ⟨⟨rs, ρ1⟩, e1, e⟩ := Option.bind_eq_some_iff.mp e
  refine ha C G ρ σ H _ _ R e1 _ fun vs G1 H1 s1 R1 v1 => ?_
  dsimp only at e
  split at e
  · rename_i i rs'
    obtain ⟨⟨ds, ρ2⟩, e2, e⟩ := Option.bind_eq_some_iff.mp e
    dsimp only at e
    split at e
    · rename_i s n hq
      obtain ⟨⟨d, n'⟩, e3, e⟩ := Option.bind_eq_some_iff.mp e
      cases e
      cases v1 with | cons a b =>
      obtain ⟨G2, s2, R2, v2⟩ := R1.frs b e2
      obtain ⟨x, hx, wa, ex, g0, hv, hp, hw, hl, hb, hs⟩ := R2.slot i _ hq
      have hx' := (show σ[i]? = some (some _) from a).symm.trans hx
      cases hx'
      subst ex
      subst hs
      rw [List.append_nil]
      exact ⟨G2, wa, C.l, _, C.ns, n, ds, d, n', rfl, R2.gh, g0, hw, hl, hb, v2, e3, fun v H' G' a1 a2 a3 a4 a5 a6 rp => q v G' H' (s1.trans (s2.trans a1)) (R2.afterW hq hx a1 a2 a3 a4 a5 a6) rp⟩
    · cases e
  · cases e
section
variable {X : Cx} {x : Str} {p pos : Pos} {e : Expr} {es : List Expr} {t : TA} {fs : EA} {k : Nat} {f : Addr} {fd : FuncData} {ps : List Str} {F : (Nat → Int) → Nat → List D → Option (D × Nat)}
theorem e_callW (Fn : FnOk X.prog X.w X.K X.mg X.base CX0 k f fd ps (spW X.K F)) (hr : Room k X.A) (hg : Gl X x) (hm : X.mg x = some (.ref f)) (hk : PySem.W.keepIn X.K (.ref f) = true) (hb : Binds X.K fd ps [])
    (ha : AOk X (e :: es) t fs) (hdb : (x == ("__debug__" : Str)) = false := by decide) (he : starEach (e :: es) X.env = (false, eval e X.env) :: starEach es X.env := by rfl) (hpl : (backTo pos (starEach es X.env)).any (·.1) = false := by rfl) :
    EOk X (.Call (.Name x p) (e :: es) [] pos) (tCall (spW X.K F) [] E0 t) (eCallW F fs) :=
  ⟨pe_call Fn hr hg hm hk hb .nil pass0 ha.pa hdb he hpl, snd_callW ha.sn⟩
end
/-- where the draws stand behind a body -/
def atW (ρ : Env) : Option Nat := match ρ[0]? with
  | some (some (Sl.W _ k)) => some k
  | _ => none
/-- .. by its body -/
def runW (n m : Nat) (s : S) (st : Nat → Int) (k : Nat) (ds : List D) : Option (D × Nat) :=
  if ds.length = m then (s (some (.W st k) :: (ds.map (fun d => some (.v d)) ++ List.replicate (n - (m + 1)) none))).bind fun p => (atW p.2).bind fun k' => match p.1 with
    | .rt d => some (d, k')
    | .nx => some (.non, k')
    | _ => none
  else none
section
variable {P : Program} {w : World} {K : PySem.W.Frag} {mg : Str → Option Value} {base : Heap}
theorem fun_okW {x qual : Str} {st : Stmt} {f : Addr} {fd : FuncData} {N ps : List Str} {k n m : Nat} {s : S} (F : Fun K x qual st f fd) (Sc : FnScope N ps (defScope st)) (hn : N.length = n) (hm : ps.length = m + 1)
    (hb : ∀ (cdv : Value) (A : Around) (outer : List PySem.Env) (s0 : Shared) (H : Hp) (EX : XK), Room k (A.deeper (envOfC qual (defScope st) s0.heap.objs.size f cdv)) →
      ∃ t, SsOk (cxOf CX0 P w K mg base N qual (defScope st) f cdv A outer s0 H EX).nox (defBody st) t s) : FnOk P w K mg base CX0 (k + 1) f fd ps (spW K (runW n m s)) := by
  refine F.ok Sc (fun vs H Q EX h => ?_) (fun cdv A outer s0 H vs Q EX hr h => ?_)
  · obtain ⟨G, wa, l, vs', ns, n1, ds, d, n2, rfl, _, _, _, _, _, r, e, _⟩ := h
    unfold runW at e
    split at e
    · rename_i hl; rw [List.length_cons, r.length, hl, hm]
    · cases e
  · obtain ⟨G, wa, l, vs', ns, n1, ds, d, n2, rfl, gh, gw, hw, hl, hb', r, e, q⟩ := h
    unfold runW at e
    split at e
    · rename_i hlen
      obtain ⟨⟨fl, ρ'⟩, e1, e⟩ := Option.bind_eq_some_iff.mp e
      obtain ⟨k', e2, e⟩ := Option.bind_eq_some_iff.mp e
      obtain ⟨t, ok⟩ := hb cdv A outer s0 H EX hr
      refine ⟨t, ok.ps, ?_⟩
      have hst : L2.start N (.ref wa :: vs') = some (.ref wa) :: (vs'.map some ++ List.replicate (n - (m + 1)) none) := by unfold L2.start; rw [hn, List.length_cons, r.length, hlen]; rfl
      rw [hst]
      have R0 : Rel K { B := H, G0 := G, vol := some wa, P := fun _ => none, l := l, ns := ns } G (some (.W (drw ns) n1) :: (ds.map (fun d => some (.v d)) ++ List.replicate (n - (m + 1)) none)) (some (.ref wa) :: (vs'.map some ++ List.replicate (n - (m + 1)) none)) H := by
        refine ⟨by simp [r.length], gh, fun a o e _ => e, fun a e => (by cases e; exact ⟨_, hw⟩), fun a o e => .inl ⟨o, e⟩, fun a o e => (by cases e), fun i s e => ?_, fun i j si sj x ne e1 e2 o1 o2 f1 f2 => ?_⟩
        · cases i with
          | zero =>
            cases e
            exact ⟨_, rfl, wa, rfl, gw, rfl, rfl, hw, hl, hb', rfl⟩
          | succ i =>
            rw [List.getElem?_cons_succ] at e
            obtain ⟨x, d, h1, rfl, h2⟩ := r.slots i s e
            exact ⟨x, by rw [List.getElem?_cons_succ]; exact h1, h2⟩
        · have only : ∀ {i : Nat} {s : Sl}, (some (Sl.W (drw ns) n1) :: (ds.map (fun d => some (.v d)) ++ List.replicate (n - (m + 1)) none) : Env)[i]? = some (some s) → Own s → i = 0 := fun {i s} e o => by
            cases i with
            | zero => rfl
            | succ i =>
              rw [List.getElem?_cons_succ] at e
              obtain ⟨x, d, h1, rfl, h2⟩ := r.slots i s e
              exact o.elim
          exact ne ((only e1 o1).trans (only e2 o2).symm)
      have fin : ∀ v G' σ' H', Same G G' → Rel K { B := H, G0 := G, vol := some wa, P := fun _ => none, l := l, ns := ns } G' ρ' σ' H' → Rp K G' v d → n2 = k' → Q v H' := fun v G' σ' H' s1 R rp en => by
        subst en
        unfold atW at e2
        split at e2
        · rename_i st' k'' hq
          cases e2
          obtain ⟨x, hx, wa', ex, g0, hv, hp, hw', hl', hb'', hs'⟩ := R.slot 0 _ hq
          cases hv
          exact q v H' G' s1 (fun a o hne z => R.base a o z (by intro z'; cases z'; exact hne rfl)) g0 hw' R.gh (fun a o z => R.fz a o z) rp
        · cases e2
      refine ok.sn _ G _ _ H fl ρ' R0 e1 _ ?_
      cases fl with
      | nx => cases e; exact fun G' σ' H' s1 R => fin _ G' σ' H' s1 R .non rfl
      | rt d' => cases e; exact fun v G' σ' H' s1 R rp => fin v G' σ' H' s1 R rp rfl
      | bk => cases e
      | ct => cases e
    · cases e
end
end Fd

set_option Elab.async false
set_option linter.all false
set_option maxRecDepth 100000
/-! Fd7: a def as its callers know it; short forms. -/
namespace Fd
open PySem PySem.Spec PyProof.Rows L2

/-- a def of the text as its callers know it -/
structure Cal (P : Program) (w : World) (K : PySem.W.Frag) (mg : Str → Option Value) (base : Heap) (x : Str) (k : Nat) (ps : List Str) (sp : Sp) : Prop where
  ex : ∃ f fd, FnOk P w K mg base CX0 k f fd ps sp ∧ mg x = some (.ref f) ∧ PySem.W.keepIn K (.ref f) = true ∧ Binds K fd ps []
section
variable {X : Cx} {x : Str} {p pos : Pos} {e : Expr} {es : List Expr} {t : TA} {fs : EA} {k j : Nat} {ps : List Str}
theorem e_usr {F : List D → Option D} (c : Cal X.prog X.w X.K X.mg X.base x k ps (spD X.K F)) (hr : Room j X.A) (hg : Gl X x) (ha : AOk X (e :: es) t fs) (hk : k ≤ j := by decide)
    (hdb : (x == ("__debug__" : Str)) = false := by decide) (he : starEach (e :: es) X.env = (false, eval e X.env) :: starEach es X.env := by rfl) (hpl : (backTo pos (starEach es X.env)).any (·.1) = false := by rfl) :
    EOk X (.Call (.Name x p) (e :: es) [] pos) (tCall (spD X.K F) [] E0 t) (eCall F fs) := by
  obtain ⟨f, fd, a, b, c, d⟩ := c.ex
  exact e_call a (hr.mono hk) hg b c d ha hdb he hpl
theorem e_usrW {F : (Nat → Int) → Nat → List D → Option (D × Nat)} (c : Cal X.prog X.w X.K X.mg X.base x k ps (spW X.K F)) (hr : Room j X.A) (hg : Gl X x) (ha : AOk X (e :: es) t fs) (hk : k ≤ j := by decide)
    (hdb : (x == ("__debug__" : Str)) = false := by decide) (he : starEach (e :: es) X.env = (false, eval e X.env) :: starEach es X.env := by rfl) (hpl : (backTo pos (starEach es X.env)).any (·.1) = false := by rfl) :
    EOk X (.Call (.Name x p) (e :: es) [] pos) (tCall (spW X.K F) [] E0 t) (eCallW F fs) := by
  obtain ⟨f, fd, a, b, c, d⟩ := c.ex
  exact e_callW a (hr.mono hk) hg b c d ha hdb he hpl
theorem Cal.of {P : Program} {w : World} {K : PySem.W.Frag} {mg : Str → Option Value} {base : Heap} {f : Addr} {fd : FuncData} {sp : Sp} {qual : Str} {st : Stmt} (Fn : Fun K x qual st f fd) (a : FnOk P w K mg base CX0 k f fd ps sp) (b : mg x = some (.ref f)) (d : Binds K fd ps []) : Cal P w K mg base x k ps sp :=
  ⟨f, fd, a, b, Fn.kp, d⟩
end
theorem u65 {k : Nat} {A : Around} (r : Room k A) : A.units + 65 < cLine := by have := r.un; omega
theorem u64 {k : Nat} {A : Around} (r : Room k A) : A.units + 64 < cLine := by have := r.un; omega
theorem u1 {k : Nat} {A : Around} (r : Room k A) : A.units + 1 < cLine := by have := r.un; omega
/-- name = [..], frozen -/
theorem s_setLcV {X : Cx} {elt tg iter : Expr} {ifs : List Expr} {scope : Scope} {own : List (Str × Nat)} {pos : Pos} {wi : TI} {it : Env → Option (List D × Env)} {g : TG} {gf : D → Env → Option Env} {tv : List Nat} {tt : TT} {tf : ET} {te : TE} {ef : E}
    {i : Nat} {y : Str} {py spos : Pos} (hc : X.calm = true) (hN : X.N.Nodup) (hy : X.N[i]? = some y) (hyl : X.env.scope.names.lookup y = some .local)
    (hsw : swapsWith (.ListComp elt [⟨tg, iter, ifs, 0⟩] scope pos) (some (.Name y py)) spos.line X.env = pure true) (hi : IOk X tg iter wi it) (ok : BlkOk X.N X.env.scope scope own) (hsub : ∀ i ∈ tv, i ∈ own.map (·.2))
    (hg : ∀ (s : Shared) (H : Hp) (C : Addr) (cl : List (Str × Addr)) (fp : List Addr), ∃ g, GOk (X.blk s H scope (compEnvC scope cl C X.env) fp) tg g gf tv) (ht : ∀ (s : Shared) (H : Hp) (C : Addr) (cl : List (Str × Addr)) (fp : List Addr), ∃ tt, TsOk (X.blk s H scope (compEnvC scope cl C X.env) fp) ifs tt tf)
    (he : ∀ (s : Shared) (H : Hp) (C : Addr) (cl : List (Str × Addr)) (fp : List Addr), ∃ te, EOk (X.blk s H scope (compEnvC scope cl C X.env) fp) elt te ef) (hs : ∀ x, foldedSetIterable iter X.env x = pure x := by intro _; rfl) :
    SOk X (.Assign [.Name y py] (.ListComp elt [⟨tg, iter, ifs, 0⟩] scope pos) spos) (tAsg (tLc wi (anyG X scope tg gf tv) (anyT X scope ifs tf) (anyE X scope elt ef) (own.map (·.2))) (gName i)) (sSet (gName' i) (eF (fLc it gf tf ef (own.map (·.2))))) :=
  have hg' := fun i => anyG_ok (f := gf) (tv := tv) (fun p : BIx => hg p.1 p.2.1 p.2.2.1 p.2.2.2.1 p.2.2.2.2) i
  have ht' := fun i => anyT_ok (f := tf) (fun p : BIx => ht p.1 p.2.1 p.2.2.1 p.2.2.2.1 p.2.2.2.2) i
  have he' := fun i => anyE_ok (f := ef) (fun p : BIx => he p.1 p.2.1 p.2.2.1 p.2.2.2.1 p.2.2.2.2) i
  ⟨ps_setLc hc hN hy hyl hsw hi.pi ok (fun s H C cl fp => (hg' (s, H, C, cl, fp)).pg) (fun s H C cl fp => (ht' (s, H, C, cl, fp)).pts) (fun s H C cl fp => (he' (s, H, C, cl, fp)).pe) hs, by
    have h1 := snd_lc hi.sn (hg' (X.s_0, X.H_0, 0, [], [])).sn hsub (ht' (X.s_0, X.H_0, 0, [], [])).sn (he' (X.s_0, X.H_0, 0, [], [])).sn
    refine snd_set (tv := [i]) (fun C G ρ σ H r ρ' R e Q q => ?_) (fun C G ρ σ H v d ρ' R r e Q q => ?_)
    · unfold eF at e
      obtain ⟨⟨c, ρ1⟩, e1, e⟩ := Option.bind_eq_some_iff.mp e
      cases e
      refine h1 C G ρ σ H _ _ R e1 _ fun p o G1 H1 s1 cp R1 ok => ?_
      obtain ⟨R2, s2⟩ := R1.freezeP cp
      exact q _ _ _ (s1.trans s2) R2 (ok.rp s2 upd_same)
    · cases e
      exact q G _ H (Same.refl G) (R.setV r) (fun j hj => by rw [List.getElem?_set_ne (fun z => hj (by simp [z]))]) (by simp)⟩
end Fd

set_option Elab.async false
set_option linter.all false
set_option maxRecDepth 100000
/-! Fd9: calls over whole lists: all, any, sum, min, max, count. -/
namespace Fd
open PySem PySem.Spec PyProof.Rows L2
def dInts : List D → Option (List Int)
  | [] => some []
  | .int i :: ds => (dInts ds).map (i :: ·)
  | _ :: _ => none
def dBls : List D → Option (List Bool)
  | [] => some []
  | .bl i :: ds => (dBls ds).map (i :: ·)
  | _ :: _ => none
theorem dInts_eq : ∀ {ds : List D} {ns : List Int}, dInts ds = some ns → ds = ns.map .int
  | [], ns, e => by cases e; rfl
  | d :: ds, ns, e => by
    cases d with
    | int i =>
      cases h : dInts ds with
      | none => simp [dInts, h] at e
      | some ms =>
        simp [dInts, h] at e
        subst e
        rw [dInts_eq h]; rfl
    | _ => cases e
theorem dInts_map : ∀ ns : List Int, dInts (ns.map .int) = some ns
  | [] => rfl
  | n :: ns => by show (dInts (ns.map .int)).map (n :: ·) = _; rw [dInts_map ns]; rfl
theorem dBls_eq : ∀ {ds : List D} {ns : List Bool}, dBls ds = some ns → ds = ns.map .bl
  | [], ns, e => by cases e; rfl
  | d :: ds, ns, e => by
    cases d with
    | bl i =>
      cases h : dBls ds with
      | none => simp [dBls, h] at e
      | some ms =>
        simp [dBls, h] at e
        subst e
        rw [dBls_eq h]; rfl
    | _ => cases e
theorem dBls_map : ∀ ns : List Bool, dBls (ns.map .bl) = some ns
  | [] => rfl
  | n :: ns => by show (dBls (ns.map .bl)).map (n :: ·) = _; rw [dBls_map ns]; rfl
def cAll : List D → Option D
  | [.lst ds] => (dBls ds).map fun bs => .bl (bs.all id)
  | _ => none
def cAny : List D → Option D
  | [.lst ds] => (dBls ds).map fun bs => .bl (bs.any id)
  | _ => none
def cSum : List D → Option D
  | [.lst ds] => (dInts ds).map fun bs => .int bs.sum
  | _ => none
section
variable {X : Cx}
theorem c_all (hc : X.calm = true) : COk X (.builtin "all") (rAll X.K) cAll := ⟨cr_all hc, fun C G ρ σ H vs ds d R r e Q q => by
  unfold cAll at e
  split at e
  · rename_i es
    obtain ⟨bs, e1, rfl⟩ := Option.map_eq_some_iff.mp e
    obtain ⟨v, rfl, a⟩ := r.one
    obtain ⟨p, xs, rfl, hs, hr⟩ := a.lst R.gh
    rw [dBls_eq e1] at hr
    exact ⟨p, bs, rfl, SqL.of (hr.bls ▸ hs), q _ G H (Same.refl G) R (.bl _)⟩
  · cases e⟩
theorem c_any (hc : X.calm = true) : COk X (.builtin "any") (rAny X.K) cAny := ⟨cr_any hc, fun C G ρ σ H vs ds d R r e Q q => by
  unfold cAny at e
  split at e
  · rename_i es
    obtain ⟨bs, e1, rfl⟩ := Option.map_eq_some_iff.mp e
    obtain ⟨v, rfl, a⟩ := r.one
    obtain ⟨p, xs, rfl, hs, hr⟩ := a.lst R.gh
    rw [dBls_eq e1] at hr
    exact ⟨p, bs, rfl, SqL.of (hr.bls ▸ hs), q _ G H (Same.refl G) R (.bl _)⟩
  · cases e⟩
theorem c_sum (hc : X.calm = true) : COk X (.builtin "sum") (rSum X.K) cSum := ⟨cr_sum hc, fun C G ρ σ H vs ds d R r e Q q => by
  unfold cSum at e
  split at e
  · rename_i es
    obtain ⟨bs, e1, rfl⟩ := Option.map_eq_some_iff.mp e
    obtain ⟨v, rfl, a⟩ := r.one
    obtain ⟨p, xs, rfl, hs, hr⟩ := a.lst R.gh
    rw [dInts_eq e1] at hr
    exact ⟨p, bs, rfl, SqL.of (hr.ints ▸ hs), q _ G H (Same.refl G) R (.int _)⟩
  · cases e⟩
end
/-! ### order -/
def ltD (a b : D) : Bool := PySem.W.dataLt (toPy a) (toPy b)
def alikeD (a b : D) : Bool := PySem.W.alike (toPy a) (toPy b)
def minF (d : D) (ds : List D) : D := ds.foldl (fun a y => if ltD y a then y else a) d
def maxF (d : D) (ds : List D) : D := ds.foldl (fun a y => if ltD a y then y else a) d
theorem ltD_int (i j : Int) : ltD (.int i) (.int j) = decide (i < j) := PySem.W.dataLt_int i j
theorem alikeD_int (i j : Int) : alikeD (.int i) (.int j) = true := by unfold alikeD; simp [toPy, PySem.W.alike]
def allAlike (ds : List D) : Bool := ds.all (lev LV) && ds.all fun x => (match x with
  | .non => false
  | _ => true) && ds.all fun y => alikeD x y
mutual
theorem toPy_inj : ∀ (n : Nat) (d e : D), lev n d = true → lev n e = true → toPy d = toPy e → d = e
  | n, .non, e, _, h2, h => by cases e <;> simp [toPy] at h ⊢
  | n, .bl _, e, _, h2, h => by cases e <;> simp [toPy] at h ⊢; exact h
  | n, .int _, e, _, h2, h => by cases e <;> simp [toPy] at h ⊢; exact h
  | n, .str _, e, _, h2, h => by cases e <;> simp [toPy] at h ⊢; exact h
  | n, .dct _, e, h1, h2, h => by cases n <;> simp [lev] at h1
  | 0, .tup _, e, h1, h2, h => by simp [lev] at h1
  | 0, .lst _, e, h1, h2, h => by simp [lev] at h1
  | n + 1, .tup ds, .tup es, h1, h2, h => by
    simp only [toPy, PyData.tuple.injEq] at h
    rw [toPys_inj n ds es (by simpa only [lev] using h1) (by simpa only [lev] using h2) h]
  | n + 1, .lst ds, .lst es, h1, h2, h => by
    simp only [toPy, PyData.list.injEq] at h
    rw [toPys_inj n ds es (by simpa only [lev] using h1) (by simpa only [lev] using h2) h]
  | n + 1, .tup ds, .non, _, _, h => by simp [toPy] at h
  | n + 1, .tup ds, .bl _, _, _, h => by simp [toPy] at h
  | n + 1, .tup ds, .int _, _, _, h => by simp [toPy] at h
  | n + 1, .tup ds, .str _, _, _, h => by simp [toPy] at h
  | n + 1, .tup ds, .lst _, _, _, h => by simp [toPy] at h
  | n + 1, .tup ds, .dct _, _, h2, h => by simp [lev] at h2
  | n + 1, .lst ds, .non, _, _, h => by simp [toPy] at h
  | n + 1, .lst ds, .bl _, _, _, h => by simp [toPy] at h
  | n + 1, .lst ds, .int _, _, _, h => by simp [toPy] at h
  | n + 1, .lst ds, .str _, _, _, h => by simp [toPy] at h
  | n + 1, .lst ds, .tup _, _, _, h => by simp [toPy] at h
  | n + 1, .lst ds, .dct _, _, h2, h => by simp [lev] at h2
theorem toPys_inj : ∀ (n : Nat) (ds es : List D), ds.all (lev n) = true → es.all (lev n) = true → toPys ds = toPys es → ds = es
  | n, [], [], _, _, _ => rfl
  | n, [], _ :: _, _, _, h => by simp [toPys] at h
  | n, _ :: _, [], _, _, h => by simp [toPys] at h
  | n, d :: ds, e :: es, h1, h2, h => by
    simp only [toPys, List.cons.injEq] at h
    rw [List.all_cons, Bool.and_eq_true] at h1 h2
    rw [toPy_inj n d e h1.1 h2.1 h.1, toPys_inj n ds es h1.2 h2.2 h.2]
end
theorem toPys_map : ∀ ds : List D, toPys ds = ds.map toPy
  | [] => rfl
  | d :: ds => by rw [toPys, toPys_map ds]; rfl
theorem toPy_minF (d : D) (ds : List D) : toPy (minF d ds) = PySem.W.minD (toPy d) (toPys ds) := by
  unfold minF PySem.W.minD
  induction ds generalizing d with
  | nil => rfl
  | cons x ds ih =>
    rw [toPys, List.foldl_cons, List.foldl_cons, ih]
    unfold ltD
    split <;> rfl
theorem toPy_maxF (d : D) (ds : List D) : toPy (maxF d ds) = PySem.W.maxD (toPy d) (toPys ds) := by
  unfold maxF PySem.W.maxD
  induction ds generalizing d with
  | nil => rfl
  | cons x ds ih =>
    rw [toPys, List.foldl_cons, List.foldl_cons, ih]
    unfold ltD
    split <;> rfl
theorem minF_mem (d : D) (ds : List D) : minF d ds ∈ d :: ds := by
  unfold minF
  induction ds generalizing d with
  | nil => exact List.mem_singleton.mpr rfl
  | cons x ds ih =>
    rw [List.foldl_cons]
    have := ih (if ltD x d = true then x else d)
    split at this
    · rename_i h; rw [if_pos h]
      rcases List.mem_cons.mp this with e | e
      · rw [e]; exact List.mem_cons_of_mem _ List.mem_cons_self
      · exact List.mem_cons_of_mem _ (List.mem_cons_of_mem _ e)
    · rename_i h; rw [if_neg h]
      rcases List.mem_cons.mp this with e | e
      · rw [e]; exact List.mem_cons_self
      · exact List.mem_cons_of_mem _ (List.mem_cons_of_mem _ e)
theorem maxF_mem (d : D) (ds : List D) : maxF d ds ∈ d :: ds := by
  unfold maxF
  induction ds generalizing d with
  | nil => exact List.mem_singleton.mpr rfl
  | cons x ds ih =>
    rw [List.foldl_cons]
    have := ih (if ltD d x = true then x else d)
    split at this
    · rename_i h; rw [if_pos h]
      rcases List.mem_cons.mp this with e | e
      · rw [e]; exact List.mem_cons_of_mem _ List.mem_cons_self
      · exact List.mem_cons_of_mem _ (List.mem_cons_of_mem _ e)
    · rename_i h; rw [if_neg h]
      rcases List.mem_cons.mp this with e | e
      · rw [e]; exact List.mem_cons_self
      · exact List.mem_cons_of_mem _ (List.mem_cons_of_mem _ e)
def cMin : List D → Option D
  | [.lst (d :: ds)] => if allAlike (d :: ds) = true then some (minF d ds) else none
  | [.tup (d :: ds)] => if allAlike (d :: ds) = true then some (minF d ds) else none
  | _ => none
def cMax : List D → Option D
  | [.lst (d :: ds)] => if allAlike (d :: ds) = true then some (maxF d ds) else none
  | [.tup (d :: ds)] => if allAlike (d :: ds) = true then some (maxF d ds) else none
  | _ => none
/-- min or max of data -/
def rBest (K : PySem.W.Frag) (best : PyData → List PyData → PyData) : List V → Hp → VK → Prop := fun vs H Q => ∃ (a : Addr) (xs : List V) (d : PyData) (ds : List PyData), vs = [.ref a] ∧ (SqL K H a xs ∨ SqT K H a xs) ∧ DpAll K H xs (d :: ds) ∧ PySem.W.AlikeAll (d :: ds) ∧
  PyData.depthAll (d :: ds) ≤ 60 ∧ ∀ (i : Nat) x e, xs[i]? = some x → (d :: ds)[i]? = some e → e = best d ds → Q x H
theorem vals_at : ∀ {xs : List V} {us : List Value} {i : Nat} {u : Value}, Vals xs us → us[i]? = some u → ∃ x, xs[i]? = some x ∧ RelV x u
  | _, _, 0, u, .cons r t, h => ⟨_, rfl, by cases h; exact r⟩
  | _, _, i + 1, u, .cons r t, h => by
    obtain ⟨x, h1, h2⟩ := vals_at t (by simpa using h)
    exact ⟨x, by simpa using h1, h2⟩
theorem dmem_best {d : PyData} {ds : List PyData} {f : PyData → PyData → Bool} : ds.foldl (fun a y => if f y a then y else a) d ∈ d :: ds := by
  induction ds generalizing d with
  | nil => exact List.mem_singleton.mpr rfl
  | cons x ds ih =>
    rw [List.foldl_cons]
    have := @ih (if f x d = true then x else d)
    split at this
    · rename_i h; rw [if_pos h]
      rcases List.mem_cons.mp this with e | e
      · rw [e]; exact List.mem_cons_of_mem _ List.mem_cons_self
      · exact List.mem_cons_of_mem _ (List.mem_cons_of_mem _ e)
    · rename_i h; rw [if_neg h]
      rcases List.mem_cons.mp this with e | e
      · rw [e]; exact List.mem_cons_self
      · exact List.mem_cons_of_mem _ (List.mem_cons_of_mem _ e)
section
variable {X : Cx}
theorem readsAll_get {h : Heap} : ∀ {us : List Value} {ds : List PyData} {as : List Addr} {i : Nat} {u : Value}, ReadsAll h us ds as → us[i]? = some u → ∃ d bs, ds[i]? = some d ∧ Reads h u d bs
  | _, _, _, 0, u, .cons r rs, e => by cases e; exact ⟨_, _, rfl, r⟩
  | _, _, _, i + 1, u, .cons r rs, e => by
    obtain ⟨d, bs, h1, h2⟩ := readsAll_get rs (by simpa using e)
    exact ⟨d, bs, by simpa using h1, h2⟩
theorem best_of {its : List Value} {h h' : Heap} {xs : List V} {d b : PyData} {ds : List PyData} {as bs : List Addr} {i : Nat} {v : Value} (rv : Vals xs its) (ra : ReadsAll h its (d :: ds) as) (al : PySem.W.AlikeAll (d :: ds)) (mb : b ∈ d :: ds)
    (hv : its.toArray[i]? = some v) (k : ∀ b o, h.get? b = some o → h'.get? b = some o) (r : Reads h' v b bs) : ∃ x, xs[i]? = some x ∧ RelV x v ∧ (d :: ds)[i]? = some b := by
  have hv' : its[i]? = some v := by simpa using hv
  obtain ⟨x, h1, h2⟩ := vals_at rv hv'
  obtain ⟨e, cs, h3, h4⟩ := readsAll_get ra hv'
  have me : e ∈ d :: ds := List.mem_of_getElem? h3
  have := PySem.W.alike_unique _ _ _ _ _ (al.1 _ me _ mb) (PyProof.Rows.Reads.keeps k h4) r
  exact ⟨x, h1, h2, by rw [h3, this]⟩
theorem cr_minD (hc : X.calm = true) (hu : X.A.units + 64 < cLine) : CallR X (.builtin "min") (rBest X.K PySem.W.minD) := by
  intro pins s σ H vs us Q I r h
  obtain ⟨a, xs, d, ds, rfl, hs, hd, al, dp, q⟩ := h
  rw [Vals.ref1 r]
  rcases hs with hs | hs
  · obtain ⟨its, rv, hl, _⟩ := I.list hs
    obtain ⟨as, ra⟩ := Dp.readsAll I (d :: ds) xs its hd rv
    refine PySem.W.min_list_data (I.ok.hd hc) hl.isList (by simpa using ra) al (by omega) fun i v h' tk bs hv hr k => ?_
    obtain ⟨x, h1, h2, h3⟩ := best_of rv ra al dmem_best hv k hr
    exact ⟨x, H, I.kept k, h2, q i x _ h1 h3 rfl⟩
  · obtain ⟨its, rv, hl, _⟩ := I.tuple hs
    obtain ⟨as, ra⟩ := Dp.readsAll I (d :: ds) xs its hd rv
    refine PySem.W.min_tuple_data (I.ok.hd hc) hl (by simpa using ra) al (by omega) fun i v h' tk bs hv hr k => ?_
    obtain ⟨x, h1, h2, h3⟩ := best_of rv ra al dmem_best hv k hr
    exact ⟨x, H, I.kept k, h2, q i x _ h1 h3 rfl⟩
theorem cr_maxD (hc : X.calm = true) (hu : X.A.units + 64 < cLine) : CallR X (.builtin "max") (rBest X.K PySem.W.maxD) := by
  intro pins s σ H vs us Q I r h
  obtain ⟨a, xs, d, ds, rfl, hs, hd, al, dp, q⟩ := h
  rw [Vals.ref1 r]
  have mm : PySem.W.maxD d ds ∈ d :: ds := dmem_best (f := fun y a => PySem.W.dataLt a y)
  rcases hs with hs | hs
  · obtain ⟨its, rv, hl, _⟩ := I.list hs
    obtain ⟨as, ra⟩ := Dp.readsAll I (d :: ds) xs its hd rv
    refine PySem.W.max_list_data (I.ok.hd hc) hl.isList (by simpa using ra) al (by omega) fun i v h' tk bs hv hr k => ?_
    obtain ⟨x, h1, h2, h3⟩ := best_of rv ra al mm hv k hr
    exact ⟨x, H, I.kept k, h2, q i x _ h1 h3 rfl⟩
  · obtain ⟨its, rv, hl, _⟩ := I.tuple hs
    obtain ⟨as, ra⟩ := Dp.readsAll I (d :: ds) xs its hd rv
    refine PySem.W.max_tuple_data (I.ok.hd hc) hl (by simpa using ra) al (by omega) fun i v h' tk bs hv hr k => ?_
    obtain ⟨x, h1, h2, h3⟩ := best_of rv ra al mm hv k hr
    exact ⟨x, H, I.kept k, h2, q i x _ h1 h3 rfl⟩
theorem allAlike_spec {ds : List D} (h : allAlike ds = true) : ds.all (lev LV) = true ∧ PySem.W.AlikeAll (toPys ds) := by
  unfold allAlike at h
  rw [Bool.and_eq_true] at h
  refine ⟨h.1, fun x hx y hy => ?_, fun x hx => ?_⟩
  · rw [toPys_map] at hx hy
    obtain ⟨a, ha, rfl⟩ := List.mem_map.mp hx
    obtain ⟨b, hb, rfl⟩ := List.mem_map.mp hy
    have := List.all_eq_true.mp h.2 a ha
    rw [Bool.and_eq_true] at this
    exact List.all_eq_true.mp this.2 b hb
  · rw [toPys_map] at hx
    obtain ⟨a, ha, rfl⟩ := List.mem_map.mp hx
    have := List.all_eq_true.mp h.2 a ha
    rw [Bool.and_eq_true] at this
    intro z
    cases a <;> simp [toPy] at z this
theorem toPys_get : ∀ {ds : List D} {i : Nat} {e : PyData}, (toPys ds)[i]? = some e → ∃ d, ds[i]? = some d ∧ e = toPy d := fun {ds i e} h => by
  rw [toPys_map, List.getElem?_map] at h
  obtain ⟨d, h1, h2⟩ := Option.map_eq_some_iff.mp h
  exact ⟨d, h1, h2.symm⟩
theorem snd_best {K : PySem.W.Frag} {best : PyData → List PyData → PyData} {bf : D → List D → D} (hb : ∀ d ds, toPy (bf d ds) = best (toPy d) (toPys ds)) (hm : ∀ d ds, bf d ds ∈ d :: ds) {C : Cfg} {G H : Hp} {ρ : Env} {σ : L2.St} {v : V} {d : D} {ds : List D} (R : Rel K C G ρ σ H)
    {w : D} (hw : w = .lst (d :: ds) ∨ w = .tup (d :: ds)) (a : Ro K G H v w) (al : allAlike (d :: ds) = true) (Q : VK) (q : ∀ x G1 H1, Same G G1 → Rel K C G1 ρ σ H1 → RV K G1 σ x (.d (bf d ds)) → Q x H1) : rBest K best [v] H Q := by
  obtain ⟨l1, l2⟩ := allAlike_spec al
  have fin : ∀ (p : Addr) (xs : List V), v = .ref p → (SqL K H p xs ∨ SqT K H p xs) → RpL K G xs (d :: ds) → rBest K best [v] H Q := fun p xs ev hs hr => by
    refine ⟨p, xs, toPy d, toPys ds, by rw [ev], hs, RpL.dp (d :: ds) xs LV l1 (hr.mono R.gh), l2, (lev_plainAll l1).2, fun i x e hx he eb => ?_⟩
    obtain ⟨d', h1, h2⟩ := toPys_get (ds := d :: ds) he
    have h3 : d' = bf d ds := by
      refine toPy_inj LV _ _ ?_ ?_ (by rw [← h2, eb, hb])
      · exact List.all_eq_true.mp l1 _ (List.mem_of_getElem? h1)
      · exact List.all_eq_true.mp l1 _ (hm d ds)
    obtain ⟨y, h4, h5⟩ := hr.get h1
    rw [hx] at h4; cases h4
    exact q x G H (Same.refl G) R (by rw [← h3]; exact h5)
  rcases hw with rfl | rfl
  · obtain ⟨p, xs, rfl, hs, hr⟩ := a.lst R.gh
    exact fin p xs rfl (.inl (SqL.of hs)) hr
  · obtain ⟨p, xs, rfl, hs, hr⟩ := a.tup
    exact fin p xs rfl (.inr ((Le.of R.gh (K := K)).sqT hs)) hr
theorem c_min (hc : X.calm = true) (hu : X.A.units + 65 < cLine) : COk X (.builtin "min") (rBest X.K PySem.W.minD) cMin := ⟨cr_minD hc (by omega), fun C G ρ σ H vs ds d R r e Q q => by
  unfold cMin at e
  split at e
  · split at e
    · rename_i h
      cases e
      obtain ⟨v, rfl, a⟩ := r.one
      exact snd_best toPy_minF minF_mem R (.inl rfl) a h Q q
    · cases e
  · split at e
    · rename_i h
      cases e
      obtain ⟨v, rfl, a⟩ := r.one
      exact snd_best toPy_minF minF_mem R (.inr rfl) a h Q q
    · cases e
  · cases e⟩
theorem c_max (hc : X.calm = true) (hu : X.A.units + 65 < cLine) : COk X (.builtin "max") (rBest X.K PySem.W.maxD) cMax := ⟨cr_maxD hc (by omega), fun C G ρ σ H vs ds d R r e Q q => by
  unfold cMax at e
  split at e
  · split at e
    · rename_i h
      cases e
      obtain ⟨v, rfl, a⟩ := r.one
      exact snd_best toPy_maxF maxF_mem R (.inl rfl) a h Q q
    · cases e
  · split at e
    · rename_i h
      cases e
      obtain ⟨v, rfl, a⟩ := r.one
      exact snd_best toPy_maxF maxF_mem R (.inr rfl) a h Q q
    · cases e
  · cases e⟩
end

/-! ### count -/
def dCount (a b : D) : Option D := match a with
  | .lst ds => match b with
    | .int k => (dInts ds).map fun ns => .int (ns.count k : Nat)
    | _ => none
  | _ => none
def isLst : D → Bool
  | .lst _ => true
  | _ => false
/-- a list's method that changes nothing -/
def eMet (g : D → D → Option D) (f1 f2 : E) : E := fun ρ => (f1 ρ).bind fun p => (rd p.2 p.1).bind fun d0 => if isLst d0 = true then (f2 p.2).bind fun q => (rd q.2 p.1).bind fun d1 => (rd q.2 q.1).bind fun d2 => (g d1 d2).bind fun d => some (.d d, q.2) else none
section
variable {X : Cx} {o e : Expr} {to te : TE} {fo fe : E} {apos cpos : Pos}
theorem snd_met {K : PySem.W.Frag} {r : V → List V → Hp → VK → Prop} {g : D → D → Option D} (hg : ∀ C G ρ σ H x y dx dy d, Rel K C G ρ σ H → Ro K G H x dx → Ro K G H y dy → g dx dy = some d → ∀ Q : VK, (∀ z G' H', Same G G' → Rel K C G' ρ σ H' → RV K G' σ z (.d d) → Q z H') → r x [y] H Q)
    (ho : SndE K to fo) (he : SndE K te fe) : SndE K (tBM K "list" r to (tCons te tNil)) (eMet g fo fe) := fun C G ρ σ H r ρ' R e Q q => by
  unfold eMet at e
  obtain ⟨⟨r1, ρ1⟩, e1, e⟩ := Option.bind_eq_some_iff.mp e
  obtain ⟨d0, e0, e⟩ := Option.bind_eq_some_iff.mp e
  split at e
  · rename_i hl
    obtain ⟨⟨r2, ρ2⟩, e2, e⟩ := Option.bind_eq_some_iff.mp e
    obtain ⟨d1, e3, e⟩ := Option.bind_eq_some_iff.mp e
    obtain ⟨d2, e4, e⟩ := Option.bind_eq_some_iff.mp e
    obtain ⟨d, e5, e⟩ := Option.bind_eq_some_iff.mp e
    cases e
    refine ho C G ρ σ H _ _ R e1 _ fun v G1 H1 s1 R1 v1 => ?_
    refine ⟨?_, he C G1 ρ1 σ H1 _ _ R1 e2 _ fun u G2 H2 s2 R2 v2 => ?_⟩
    · cases d0 with
      | lst ds =>
        obtain ⟨p, xs, rfl, hs, hr⟩ := (R1.rd v1 e0).lst R1.gh
        exact .inl ⟨rfl, xs, SqL.of hs⟩
      | _ => cases hl
    · exact hg C G2 ρ2 σ H2 v u d1 d2 d R2 (R2.rd (v1.mono s2) e3) (R2.rd v2 e4) e5 Q fun z G3 H3 s3 R3 v3 => q z G3 H3 (s1.trans (s2.trans s3)) R3 v3
  · cases e
theorem e_count (hu : X.A.units + 65 < cLine) (ho : EOk X o to fo) (he : EOk X e te fe) (hbase : attributeBase o "count" X.env (eval o X.env) = eval o X.env := by rfl)
    (hfew : ((backTo cpos (starEach [e] X.env)).all (fun x => !x.1) && (backToKw cpos (keywordEach [] X.env)).all (fun x => x.1.isSome) && decide ([e].length + ([] : List Keyword).length + (if ([] : List Keyword).isEmpty then 0 else 1) < 30)) = true := by rfl)
    (hline : (apos.endLine == cpos.line) = true := by rfl) (hs : starEach [e] X.env = (false, eval e X.env) :: starEach [] X.env := by rfl) (hplain : (backTo cpos (starEach [] X.env)).any (·.1) = false := by rfl) :
    EOk X (.Call (.Attribute o "count" apos) [e] [] cpos) (tBM X.K "list" (rCntI X.K) to (tCons te tNil)) (eMet dCount fo fe) :=
  ⟨pe_bm PySem.F.plainAttrs_list PySem.F.slot_list_count PySem.F.type_list_count mt_lcount ho.pe (pa_cons he.pe pa_nil hs) hbase hfew hline hs hplain, snd_met (fun C G ρ σ H x y dx dy d R rx ry e Q q => by
    unfold dCount at e
    split at e
    · split at e
      · rename_i ds k
        obtain ⟨ns, e6, rfl⟩ := Option.map_eq_some_iff.mp e
        obtain ⟨p, xs, rfl, hs, hr⟩ := rx.lst R.gh
        obtain rfl := ry.int
        rw [dInts_eq e6] at hr
        exact ⟨p, ns, k, rfl, rfl, SqL.of (hr.ints ▸ hs), q _ G H (Same.refl G) R (.int _)⟩
      · cases e
    · cases e) ho.sn he.sn⟩
end
end Fd

set_option Elab.async false
set_option linter.all false
/-! Rewriting rules by which a body is worked out on data. -/
namespace Fd
theorem vAdd (i j : Int) : dAdd (.int i) (.int j) = some (.int (i + j)) := rfl
theorem vAddI (i j : Int) : dAddI (.int i) (.int j) = some (.int (i + j)) := rfl
theorem vSub (i j : Int) : dSub (.int i) (.int j) = some (.int (i - j)) := rfl
theorem vMulL {i j : Int} (h1 : -18446744073709551616 < i) (h2 : i < 18446744073709551616) : dMul (.int i) (.int j) = some (.int (i * j)) := by
  simp [dMul]; omega
theorem vMulR {i j : Int} (h1 : -18446744073709551616 < j) (h2 : j < 18446744073709551616) : dMul (.int i) (.int j) = some (.int (i * j)) := by
  simp [dMul]; omega
theorem vFdiv {i j : Int} (h1 : 0 < j) (h2 : j < 1073741824) : dFdiv (.int i) (.int j) = some (.int (i / j)) := by simp [dFdiv, dI, h1, h2]
theorem vMod {i j : Int} (h1 : 0 < j) : dMod (.int i) (.int j) = some (.int (i % j)) := by simp [dMod, dI, h1]
theorem vPow {i j : Int} (h1 : 0 ≤ j) (h2 : j ≤ 1000000) (h3 : -18446744073709551616 < i) (h4 : i < 18446744073709551616) : dPow (.int i) (.int j) = some (.int (i ^ j.toNat)) := by simp [dPow, dI, h1, h2]; omega
theorem vShl {i j : Int} (h1 : 0 ≤ j) (h2 : j ≤ 1000000) (h3 : -18446744073709551616 < i) (h4 : i < 18446744073709551616) : dShl (.int i) (.int j) = some (.int (i * 2 ^ j.toNat)) := by simp [dShl, dI, h1, h2]; omega
theorem vShr {i j : Int} (h1 : 0 ≤ j) : dShr (.int i) (.int j) = some (.int (i / 2 ^ j.toNat)) := by simp [dShr, dI, h1]
theorem vLt (i j : Int) : dLt (.int i) (.int j) = some (.bl (decide (i < j))) := rfl
theorem vLe (i j : Int) : dLe (.int i) (.int j) = some (.bl (decide (i ≤ j))) := rfl
theorem vGt (i j : Int) : dGt (.int i) (.int j) = some (.bl (decide (j < i))) := rfl
theorem vGe (i j : Int) : dGe (.int i) (.int j) = some (.bl (decide (j ≤ i))) := rfl
theorem vNeg (i : Int) : dNeg (.int i) = some (.int (-i)) := rfl
theorem vEqI (i j : Int) : dEq (.int i) (.int j) = some (.bl (i == j)) := by simp [dEq, lev, deq]
theorem vNeI (i j : Int) : dNe (.int i) (.int j) = some (.bl (!(i == j))) := by simp [dNe, lev, deq]
theorem vEqN (i : Int) : dEq (.int i) .non = some (.bl false) := by simp [dEq, lev, deq]
theorem bT {i j : Int} (h : i = j) : (i == j) = true := by simp [h]
theorem bF {i j : Int} (h : i ≠ j) : (i == j) = false := by simp [h]
theorem dT {p : Prop} [Decidable p] (h : p) : decide p = true := decide_eq_true h
theorem dF {p : Prop} [Decidable p] (h : ¬ p) : decide p = false := decide_eq_false h
theorem vIxT (ds : List D) (i : Int) : dIx (.tup ds) (.int i) = atD ds i := rfl
theorem vIxL (ds : List D) (i : Int) : dIx (.lst ds) (.int i) = atD ds i := rfl
theorem vIxM (kvs : List (L2.Key × D)) (d : D) : dIx (.dct kvs) d = (dkey d).bind fun k => mget kvs k := rfl
/-- a sequence of statements, step by step -/
theorem seq_nx {f g : S} {ρ ρ' : Env} (h : f ρ = some (.nx, ρ')) : sSeq f g ρ = g ρ' := by simp [sSeq, h]
theorem seq_rt {f g : S} {ρ ρ' : Env} {d : D} (h : f ρ = some (.rt d, ρ')) : sSeq f g ρ = some (.rt d, ρ') := by simp [sSeq, h]
end Fd
namespace Fd
theorem bindM {α β : Type} (o : Option α) (k : α → Option β) : o.bind k = (match o with
  | some x => k x
  | none => none) := by cases o <;> rfl
theorem ex_some {α β : Type} {f : Option (α × β)} {a : α} {b : β} (h : f = some (a, b)) : ∃ b', f = some (a, b') := ⟨_, h⟩
end Fd
namespace Fd
theorem runW_rt {n m : Nat} {s : S} {st : Nat → Int} {k k' : Nat} {ds : List D} {ρ' : Env} {d : D} (h : s (some (.W st k) :: (ds.map (fun d => some (.v d)) ++ List.replicate (n - (m + 1)) none)) = some (.rt d, ρ')) (h2 : atW ρ' = some k') (hl : ds.length = m := by rfl) : runW n m s st k ds = some (d, k') := by
  unfold runW
  rw [if_pos hl, h]
  simp [h2]
theorem runF_rt {n m : Nat} {s : S} {ds : List D} {ρ' : Env} {d : D} (h : s (ds.map (fun d => some (.v d)) ++ List.replicate (n - m) none) = some (.rt d, ρ')) (hl : ds.length = m := by rfl) : runF n m s ds = some d := by
  unfold runF
  rw [if_pos hl, h]
  rfl
end Fd

namespace Fd
/-- one turn of a comprehension -/
def cEl (g : D → Env → Option Env) (tt : ET) (f : E) (vs : List Nat) (d : D) (ρ : Env) : Option (Option D × Env) := (g d ρ).bind fun ρ1 => (tt ρ1).bind fun b => if b.1 = true then (f b.2).bind fun r => (fr r.2 r.1).bind fun x => some (some x.1, dropE x.2 vs) else some (none, dropE b.2 vs)
theorem comp_fm {g : D → Env → Option Env} {tt : ET} {f : E} {vs : List Nat} {ρ : Env} (o : D → Option D) : ∀ {ds : List D}, (∀ d ∈ ds, cEl g tt f vs d ρ = some (o d, ρ)) → compF g tt f vs ds ρ = some (ds.filterMap o, ρ)
  | [], _ => rfl
  | d :: ds, h => by
    have h1 := h d List.mem_cons_self
    have ih := comp_fm o (ds := ds) fun x hx => h x (List.mem_cons_of_mem _ hx)
    unfold cEl at h1
    unfold compF
    obtain ⟨ρ1, e1, h1⟩ := Option.bind_eq_some_iff.mp h1
    obtain ⟨⟨b, ρ2⟩, e2, h1⟩ := Option.bind_eq_some_iff.mp h1
    rw [e1, Option.bind_some, e2, Option.bind_some]
    cases b with
    | true =>
      rw [if_pos rfl] at h1
      obtain ⟨⟨r, ρ3⟩, e3, h1⟩ := Option.bind_eq_some_iff.mp h1
      obtain ⟨⟨x, ρ4⟩, e4, h1⟩ := Option.bind_eq_some_iff.mp h1
      simp only [Option.some.injEq, Prod.mk.injEq] at h1
      rw [if_pos rfl, e3, Option.bind_some, e4, Option.bind_some, h1.2, ih, List.filterMap_cons, ← h1.1]
      rfl
    | false =>
      rw [if_neg (by simp)] at h1
      simp only [Option.some.injEq, Prod.mk.injEq] at h1
      rw [if_neg (by simp), h1.2, ih, List.filterMap_cons, ← h1.1]
theorem fLc_of {it : Env → Option (List D × Env)} {g : D → Env → Option Env} {tt : ET} {f : E} {vs : List Nat} {ρ ρ1 ρ2 : Env} {ds : List D} (o : D → Option D) (h1 : it ρ = some (ds, ρ1)) (h2 : ∀ d ∈ ds, cEl g tt f vs d (dropE ρ1 vs) = some (o d, dropE ρ1 vs))
    (h3 : rst ρ1 (dropE (dropE ρ1 vs) vs) vs = some ρ2) (hl : ds.length ≤ 16777216) : fLc it g tt f vs ρ = some (.L (ds.filterMap o), ρ2) := by
  unfold fLc
  rw [h1, Option.bind_some]
  dsimp only
  rw [comp_fm o h2, Option.bind_some, h3, Option.bind_some]
  dsimp only
  rw [if_pos (Nat.le_trans (List.length_filterMap_le _ _) hl)]
theorem fm_some (h : D → D) (ds : List D) : ds.filterMap (fun d => some (h d)) = ds.map h := by
  induction ds with
  | nil => rfl
  | cons x xs ih => simp [ih]
theorem mem_rngD {lo : Int} {n : Nat} {d : D} : d ∈ rngD lo n ↔ ∃ i : Nat, i < n ∧ d = .int (lo + i) := by
  simp only [rngD, List.mem_map, List.mem_range]
  constructor
  · rintro ⟨i, h, rfl⟩; exact ⟨i, h, rfl⟩
  · rintro ⟨i, h, rfl⟩; exact ⟨i, h, rfl⟩
theorem rngD_get {lo : Int} {n i : Nat} {d : D} (h : (rngD lo n)[i]? = some d) : i < n ∧ d = .int (lo + i) := by
  unfold rngD at h
  rw [List.getElem?_map] at h
  obtain ⟨j, h1, h2⟩ := Option.map_eq_some_iff.mp h
  obtain ⟨hl, h3⟩ := List.getElem?_eq_some_iff.mp h1
  rw [List.length_range] at hl
  rw [List.getElem_range] at h3
  subst h3
  exact ⟨hl, h2.symm⟩
theorem set_of {i : Nat} {f : E} {ρ ρ1 ρ2 : Env} {r : Rf} {d : D} (h : f ρ = some (r, ρ1)) (h2 : fr ρ1 r = some (d, ρ2)) : sSet (gName' i) f ρ = some (.nx, ρ2.set i (some (.v d))) := by
  simp [sSet, h, h2, gName']
theorem eF_of {f : EF} {ρ ρ1 : Env} {c : Ct} (h : f ρ = some (c, ρ1)) : eF f ρ = some (.d c.d, ρ1) := by simp [eF, h]
theorem setL_of {i : Nat} {f : EF} {ρ ρ1 : Env} {ds : List D} (h : f ρ = some (.L ds, ρ1)) : sSet (gName' i) (eF f) ρ = some (.nx, ρ1.set i (some (.v (.lst ds)))) := set_of (eF_of h) rfl
theorem own_of {i : Nat} {f : EF} {ρ ρ1 : Env} {c : Ct} (h : f ρ = some (c, ρ1)) : sOwn i f ρ = some (.nx, ρ1.set i (some c.sl)) := by simp [sOwn, h]
theorem forF_fold {α : Type} {g : D → Env → Option Env} {b : S} {En : α → Env} {st : α → D → α} (P : α → Prop) : ∀ {ds : List D} {a : α}, P a → (∀ a d, d ∈ ds → P a → (∃ ρ1, g d (En a) = some ρ1 ∧ b ρ1 = some (.nx, En (st a d))) ∧ P (st a d)) → forF g b ds (En a) = some (.nx, En (ds.foldl st a))
  | [], a, _, _ => rfl
  | d :: ds, a, hP, h => by
    obtain ⟨⟨ρ1, e1, e2⟩, p⟩ := h a d List.mem_cons_self hP
    unfold forF
    rw [e1, Option.bind_some, e2, Option.bind_some, List.foldl_cons]
    exact forF_fold P p fun a x hx => h a x (List.mem_cons_of_mem _ hx)
theorem forF_eq {g : D → Env → Option Env} {b : S} {ds : List D} (En : Nat → Env) (h : ∀ i d, ds[i]? = some d → ∃ ρ1, g d (En i) = some ρ1 ∧ b ρ1 = some (.nx, En (i + 1))) : forF g b ds (En 0) = some (.nx, En ds.length) := by
  suffices ∀ k, ∀ es : List D, es = ds.drop k → k ≤ ds.length → forF g b es (En k) = some (.nx, En ds.length) from this 0 ds (by simp) (Nat.zero_le _)
  intro k es
  induction es generalizing k with
  | nil =>
    intro e hk
    have : ds.length ≤ k := by
      have := congrArg List.length e
      simp at this; omega
    have : k = ds.length := by omega
    subst this; rfl
  | cons d es ih =>
    intro e hk
    have hlt : k < ds.length := by
      have := congrArg List.length e
      simp at this; omega
    have hd : ds[k]? = some d := by
      have := List.drop_eq_getElem_cons hlt
      rw [this] at e
      cases e
      exact List.getElem?_eq_getElem hlt
    obtain ⟨ρ1, e1, e2⟩ := h k d hd
    unfold forF
    rw [e1, Option.bind_some, e2, Option.bind_some]
    dsimp only
    exact ih (k + 1) (by rw [← List.tail_drop, ← e]; rfl) hlt
theorem sFor_of {it : Env → Option (List D × Env)} {g : D → Env → Option Env} {b : S} {ρ ρ1 : Env} {ds : List D} {r : Option (Fl × Env)} (h1 : it ρ = some (ds, ρ1)) (h2 : forF g b ds ρ1 = r) : sFor it g b ρ = r := by simp [sFor, h1, h2]
end Fd
namespace Fd
theorem fLc_at {it : Env → Option (List D × Env)} {g : D → Env → Option Env} {tt : ET} {f : E} {vs : List Nat} {ρ : Env} {ds : List D} (o : D → Option D) (h1 : it ρ = some (ds, ρ)) (hl : ds.length ≤ 16777216) (h2 : ∀ d ∈ ds, cEl g tt f vs d ρ = some (o d, ρ))
    (hd : dropE ρ vs = ρ := by rfl) (hr : rst ρ ρ vs = some ρ := by rfl) : fLc it g tt f vs ρ = some (.L (ds.filterMap o), ρ) :=
  fLc_of o h1 (by rw [hd]; exact h2) (by rw [hd, hd]; exact hr) hl
end Fd
namespace Fd
theorem vAt0 (a : D) (l : List D) : atD (a :: l) 0 = some a := rfl
theorem vAt1 (a b : D) (l : List D) : atD (a :: b :: l) 1 = some b := rfl
theorem vAt2 (a b c : D) (l : List D) : atD (a :: b :: c :: l) 2 = some c := rfl
theorem vAt3 (a b c d : D) (l : List D) : atD (a :: b :: c :: d :: l) 3 = some d := rfl
end Fd

set_option Elab.async false
set_option linter.all false
set_option maxRecDepth 100000
/-! The defs of the text: names, what each computes on data, and that it does so. Printed by gen.py. -/
namespace K01
open PySem PySem.Spec PyProof.Rows L2 Fd

def FUEL : Nat := 1000000
def top (i : Nat) : Stmt := PySem.Challenge.pw_framewright_k01_whole_known_two_rates_si.main.body.getD i (.Pass ⟨0, 0, 0, 0⟩)
structure Txt (mg : Str → Option Value) : Prop where
  b_abs : mg "abs" = none
  b_int : mg "int" = none
  b_len : mg "len" = none
  b_max : mg "max" = none
  b_min : mg "min" = none
  b_range : mg "range" = none
  b_tuple : mg "tuple" = none
/-! common -/
abbrev t_common : Stmt := top 1
abbrev N_common : List Str := ["a", "b"]
abbrev P_common : List Str := ["a", "b"]
theorem sc_common : FnScope N_common P_common (defScope t_common) := ⟨rfl, rfl, rfl, by decide +kernel, rfl, by decide +kernel, by decide +kernel⟩
def s_common : S := (sSeq (whF (tB' (eOp dNe (eVar 1) (eC (.int 0)))) (sFg [] (sPar [0, 1] (lE (eVar 1) (lE (eOp dMod (eVar 0) (eVar 1)) lNil)))) FUEL)
    (sRet (eCB cAbs (aCons (eVar 0) aNil))))
def F_common : List D → Option D := runF 2 2 s_common
theorem ok_common {P : Program} {w : World} {K : PySem.W.Frag} {mg : Str → Option Value} {base : Heap} {f : Addr} {fd : FuncData} (Fn : Fun K "common" "common" t_common f fd) (T : Txt mg) : FnOk P w K mg base CX0 1 f fd P_common (spD K F_common) := by
  have nd := sc_common.nd
  exact fun_okD (s := s_common) Fn sc_common rfl rfl (fun cdv A outer s0 H EX hr => ⟨_, (ss_cons (s_while FUEL PassesOwn.never (t_cmp (o_neD (u64 hr)) (e_var 1) e_int) (ss_fg [] (ss_one (s_par2 (i := 0) (j := 1) rfl nd rfl rfl (by decide) rfl rfl (l_e (e_var 1) (l_e (e_op o_mod (e_var 0) (e_var 1)) l_nil)) rfl))))
    (ss_one (s_ret (e_callB c_abs rfl T.b_abs (by decide +kernel) (a_cons (e_var 0) a_nil)))))⟩)
/-! fraction -/
abbrev t_fraction : Stmt := top 2
abbrev N_fraction : List Str := ["a", "b", "by"]
abbrev P_fraction : List Str := ["a", "b"]
theorem sc_fraction : FnScope N_fraction P_fraction (defScope t_fraction) := ⟨rfl, rfl, rfl, by decide +kernel, rfl, by decide +kernel, by decide +kernel⟩
def s_fraction : S := (sSeq (sSet (gName' 2) (eCall F_common (aCons (eVar 0) (aCons (eVar 1) aNil))))
    (sSeq (sIf (tB' (eOp dLt (eVar 1) (eC (.int 0)))) (sSet (gName' 2) (eUn dNeg (eVar 2))) sNil)
    (sRet (eTup (aCons (eOp dFdiv (eVar 0) (eVar 2)) (aCons (eOp dFdiv (eVar 1) (eVar 2)) aNil))))))
def F_fraction : List D → Option D := runF 3 2 s_fraction
theorem ok_fraction {P : Program} {w : World} {K : PySem.W.Frag} {mg : Str → Option Value} {base : Heap} {f : Addr} {fd : FuncData} (Fn : Fun K "fraction" "fraction" t_fraction f fd) (T : Txt mg) (C_common : Cal P w K mg base "common" 1 P_common (spD K F_common)) : FnOk P w K mg base CX0 2 f fd P_fraction (spD K F_fraction) := by
  have nd := sc_fraction.nd
  exact fun_okD (s := s_fraction) Fn sc_fraction rfl rfl (fun cdv A outer s0 H EX hr => ⟨_, (ss_cons (s_set (i := 2) nd rfl (by first | exact Or.inl rfl | exact Or.inr rfl) (e_usr C_common hr rfl (a_cons (e_var 0) (a_cons (e_var 1) a_nil))))
    (ss_cons (s_if (t_cmp o_lt (e_var 1) e_int) (ss_one (s_set (i := 2) nd rfl (by first | exact Or.inl rfl | exact Or.inr rfl) (e_neg (e_var 2)))) ss_nil)
    (ss_one (s_ret (e_tup (a_cons (e_op o_fdiv (e_var 0) (e_var 2)) (a_cons (e_op o_fdiv (e_var 1) (e_var 2)) a_nil)))))))⟩)
/-! times -/
abbrev t_times : Stmt := top 3
abbrev N_times : List Str := ["one", "other"]
abbrev P_times : List Str := ["one", "other"]
theorem sc_times : FnScope N_times P_times (defScope t_times) := ⟨rfl, rfl, rfl, by decide +kernel, rfl, by decide +kernel, by decide +kernel⟩
def s_times : S := (sRet (eCall F_fraction (aCons (eOp dMul (eOp dIx (eVar 0) (eC (.int 0))) (eOp dIx (eVar 1) (eC (.int 0)))) (aCons (eOp dMul (eOp dIx (eVar 0) (eC (.int 1))) (eOp dIx (eVar 1) (eC (.int 1)))) aNil))))
def F_times : List D → Option D := runF 2 2 s_times
theorem ok_times {P : Program} {w : World} {K : PySem.W.Frag} {mg : Str → Option Value} {base : Heap} {f : Addr} {fd : FuncData} (Fn : Fun K "times" "times" t_times f fd) (T : Txt mg) (C_fraction : Cal P w K mg base "fraction" 2 P_fraction (spD K F_fraction)) : FnOk P w K mg base CX0 3 f fd P_times (spD K F_times) := by
  have nd := sc_times.nd
  exact fun_okD (s := s_times) Fn sc_times rfl rfl (fun cdv A outer s0 H EX hr => ⟨_, (ss_one (s_ret (e_usr C_fraction hr rfl (a_cons (e_op o_mul (e_ix (u1 hr) (e_var 0) e_int) (e_ix (u1 hr) (e_var 1) e_int)) (a_cons (e_op o_mul (e_ix (u1 hr) (e_var 0) e_int) (e_ix (u1 hr) (e_var 1) e_int)) a_nil)))))⟩)
/-! parted -/
abbrev t_parted : Stmt := top 4
abbrev N_parted : List Str := ["one", "other"]
abbrev P_parted : List Str := ["one", "other"]
theorem sc_parted : FnScope N_parted P_parted (defScope t_parted) := ⟨rfl, rfl, rfl, by decide +kernel, rfl, by decide +kernel, by decide +kernel⟩
def s_parted : S := (sRet (eCall F_fraction (aCons (eOp dMul (eOp dIx (eVar 0) (eC (.int 0))) (eOp dIx (eVar 1) (eC (.int 1)))) (aCons (eOp dMul (eOp dIx (eVar 0) (eC (.int 1))) (eOp dIx (eVar 1) (eC (.int 0)))) aNil))))
def F_parted : List D → Option D := runF 2 2 s_parted
theorem ok_parted {P : Program} {w : World} {K : PySem.W.Frag} {mg : Str → Option Value} {base : Heap} {f : Addr} {fd : FuncData} (Fn : Fun K "parted" "parted" t_parted f fd) (T : Txt mg) (C_fraction : Cal P w K mg base "fraction" 2 P_fraction (spD K F_fraction)) : FnOk P w K mg base CX0 3 f fd P_parted (spD K F_parted) := by
  have nd := sc_parted.nd
  exact fun_okD (s := s_parted) Fn sc_parted rfl rfl (fun cdv A outer s0 H EX hr => ⟨_, (ss_one (s_ret (e_usr C_fraction hr rfl (a_cons (e_op o_mul (e_ix (u1 hr) (e_var 0) e_int) (e_ix (u1 hr) (e_var 1) e_int)) (a_cons (e_op o_mul (e_ix (u1 hr) (e_var 0) e_int) (e_ix (u1 hr) (e_var 1) e_int)) a_nil)))))⟩)
/-! floor_of -/
abbrev t_floor_of : Stmt := top 5
abbrev N_floor_of : List Str := ["one"]
abbrev P_floor_of : List Str := ["one"]
theorem sc_floor_of : FnScope N_floor_of P_floor_of (defScope t_floor_of) := ⟨rfl, rfl, rfl, by decide +kernel, rfl, by decide +kernel, by decide +kernel⟩
def s_floor_of : S := (sRet (eOp dFdiv (eOp dIx (eVar 0) (eC (.int 0))) (eOp dIx (eVar 0) (eC (.int 1)))))
def F_floor_of : List D → Option D := runF 1 1 s_floor_of
theorem ok_floor_of {P : Program} {w : World} {K : PySem.W.Frag} {mg : Str → Option Value} {base : Heap} {f : Addr} {fd : FuncData} (Fn : Fun K "floor_of" "floor_of" t_floor_of f fd) (T : Txt mg) : FnOk P w K mg base CX0 1 f fd P_floor_of (spD K F_floor_of) := by
  have nd := sc_floor_of.nd
  exact fun_okD (s := s_floor_of) Fn sc_floor_of rfl rfl (fun cdv A outer s0 H EX hr => ⟨_, (ss_one (s_ret (e_op o_fdiv (e_ix (u1 hr) (e_var 0) e_int) (e_ix (u1 hr) (e_var 0) e_int))))⟩)
/-! frame_at -/
abbrev t_frame_at : Stmt := top 7
abbrev N_frame_at : List Str := ["rate", "time"]
abbrev P_frame_at : List Str := ["rate", "time"]
theorem sc_frame_at : FnScope N_frame_at P_frame_at (defScope t_frame_at) := ⟨rfl, rfl, rfl, by decide +kernel, rfl, by decide +kernel, by decide +kernel⟩
def s_frame_at : S := (sRet (eCall F_floor_of (aCons (eCall F_times (aCons (eVar 0) (aCons (eVar 1) aNil))) aNil)))
def F_frame_at : List D → Option D := runF 2 2 s_frame_at
theorem ok_frame_at {P : Program} {w : World} {K : PySem.W.Frag} {mg : Str → Option Value} {base : Heap} {f : Addr} {fd : FuncData} (Fn : Fun K "frame_at" "frame_at" t_frame_at f fd) (T : Txt mg) (C_times : Cal P w K mg base "times" 3 P_times (spD K F_times)) (C_floor_of : Cal P w K mg base "floor_of" 1 P_floor_of (spD K F_floor_of)) : FnOk P w K mg base CX0 4 f fd P_frame_at (spD K F_frame_at) := by
  have nd := sc_frame_at.nd
  exact fun_okD (s := s_frame_at) Fn sc_frame_at rfl rfl (fun cdv A outer s0 H EX hr => ⟨_, (ss_one (s_ret (e_usr C_floor_of hr rfl (a_cons (e_usr C_times hr rfl (a_cons (e_var 0) (a_cons (e_var 1) a_nil))) a_nil))))⟩)
/-! begin_of -/
abbrev t_begin_of : Stmt := top 8
abbrev N_begin_of : List Str := ["rate", "frame"]
abbrev P_begin_of : List Str := ["rate", "frame"]
theorem sc_begin_of : FnScope N_begin_of P_begin_of (defScope t_begin_of) := ⟨rfl, rfl, rfl, by decide +kernel, rfl, by decide +kernel, by decide +kernel⟩
def s_begin_of : S := (sRet (eCall F_parted (aCons (eTup (aCons (eVar 1) (aCons (eC (.int 1)) aNil))) (aCons (eVar 0) aNil))))
def F_begin_of : List D → Option D := runF 2 2 s_begin_of
theorem ok_begin_of {P : Program} {w : World} {K : PySem.W.Frag} {mg : Str → Option Value} {base : Heap} {f : Addr} {fd : FuncData} (Fn : Fun K "begin_of" "begin_of" t_begin_of f fd) (T : Txt mg) (C_parted : Cal P w K mg base "parted" 3 P_parted (spD K F_parted)) : FnOk P w K mg base CX0 4 f fd P_begin_of (spD K F_begin_of) := by
  have nd := sc_begin_of.nd
  exact fun_okD (s := s_begin_of) Fn sc_begin_of rfl rfl (fun cdv A outer s0 H EX hr => ⟨_, (ss_one (s_ret (e_usr C_parted hr rfl (a_cons (e_tup (a_cons (e_var 1) (a_cons e_int a_nil))) (a_cons (e_var 0) a_nil)))))⟩)
/-! told_at -/
abbrev t_told_at : Stmt := top 9
abbrev N_told_at : List Str := ["one", "other", "frame"]
abbrev P_told_at : List Str := ["one", "other", "frame"]
theorem sc_told_at : FnScope N_told_at P_told_at (defScope t_told_at) := ⟨rfl, rfl, rfl, by decide +kernel, rfl, by decide +kernel, by decide +kernel⟩
def s_told_at : S := (sRet (eCall F_frame_at (aCons (eVar 0) (aCons (eCall F_begin_of (aCons (eVar 1) (aCons (eVar 2) aNil))) aNil))))
def F_told_at : List D → Option D := runF 3 3 s_told_at
theorem ok_told_at {P : Program} {w : World} {K : PySem.W.Frag} {mg : Str → Option Value} {base : Heap} {f : Addr} {fd : FuncData} (Fn : Fun K "told_at" "told_at" t_told_at f fd) (T : Txt mg) (C_frame_at : Cal P w K mg base "frame_at" 4 P_frame_at (spD K F_frame_at)) (C_begin_of : Cal P w K mg base "begin_of" 4 P_begin_of (spD K F_begin_of)) : FnOk P w K mg base CX0 5 f fd P_told_at (spD K F_told_at) := by
  have nd := sc_told_at.nd
  exact fun_okD (s := s_told_at) Fn sc_told_at rfl rfl (fun cdv A outer s0 H EX hr => ⟨_, (ss_one (s_ret (e_usr C_frame_at hr rfl (a_cons (e_var 0) (a_cons (e_usr C_begin_of hr rfl (a_cons (e_var 1) (a_cons (e_var 2) a_nil))) a_nil)))))⟩)
/-! shown_times -/
abbrev t_shown_times : Stmt := top 10
abbrev N_shown_times : List Str := ["one", "other", "many", "shown", "frame"]
abbrev P_shown_times : List Str := ["one", "other", "many"]
theorem sc_shown_times : FnScope N_shown_times P_shown_times (defScope t_shown_times) := ⟨rfl, rfl, rfl, by decide +kernel, rfl, by decide +kernel, by decide +kernel⟩
def s_shown_times : S := (sSeq (sSet (gName' 3) (eF (fLc (iR1 (aCons (eVar 2) aNil)) (gName' 4) tYes' (eCall F_told_at (aCons (eVar 0) (aCons (eVar 1) (aCons (eVar 4) aNil)))) [4])))
    (sRet (eCB cTuple (aCons (eF (fLc (iR1 (aCons (eOp dAdd (eOp dIx (eVar 3) (eUn dNeg (eC (.int 1)))) (eC (.int 1))) aNil)) (gName' 4) tYes' (eMet dCount (eVar 3) (eVar 4)) [4])) aNil))))
def F_shown_times : List D → Option D := runF 5 3 s_shown_times
theorem ok_shown_times {P : Program} {w : World} {K : PySem.W.Frag} {mg : Str → Option Value} {base : Heap} {f : Addr} {fd : FuncData} (Fn : Fun K "shown_times" "shown_times" t_shown_times f fd) (T : Txt mg) (C_told_at : Cal P w K mg base "told_at" 5 P_told_at (spD K F_told_at)) : FnOk P w K mg base CX0 6 f fd P_shown_times (spD K F_shown_times) := by
  have nd := sc_shown_times.nd
  exact fun_okD (s := s_shown_times) Fn sc_shown_times rfl rfl (fun cdv A outer s0 H EX hr => ⟨_, (ss_cons (s_set (i := 3) nd rfl (by first | exact Or.inl rfl | exact Or.inr rfl) (e_f (f_lc (own := [(("frame" : Str), 4)]) rfl nd (i_range1 rfl T.b_range (a_cons (e_var 2) a_nil)) (blkOk_by (own := [(("frame" : Str), 4)]) (N := N_shown_times) (sc := defScope t_shown_times) (by decide +kernel)) (by decide) (fun _ _ _ _ _ => ⟨_, (g_name (i := 4) nd rfl (by first | exact Or.inl rfl | exact Or.inr rfl))⟩) (fun _ _ _ _ _ => ⟨_, ts_nil⟩) (fun _ _ _ _ _ => ⟨_, (e_usr C_told_at hr rfl (a_cons (e_var 0) (a_cons (e_var 1) (a_cons (e_var 4) a_nil))))⟩))))
    (ss_one (s_ret (e_callTy c_tuple rfl T.b_tuple (by decide +kernel) (a_cons (e_f (f_lc (own := [(("frame" : Str), 4)]) rfl nd (i_range1 rfl T.b_range (a_cons (e_op o_add (e_ix (u1 hr) (e_var 3) (e_neg e_int)) e_int) a_nil)) (blkOk_by (own := [(("frame" : Str), 4)]) (N := N_shown_times) (sc := defScope t_shown_times) (by decide +kernel)) (by decide) (fun _ _ _ _ _ => ⟨_, (g_name (i := 4) nd rfl (by first | exact Or.inl rfl | exact Or.inr rfl))⟩) (fun _ _ _ _ _ => ⟨_, ts_nil⟩) (fun _ _ _ _ _ => ⟨_, (e_count (u65 hr) (e_var 3) (e_var 4))⟩))) a_nil)))))⟩)
/-! is_even -/
abbrev t_is_even : Stmt := top 11
abbrev N_is_even : List Str := ["counts", "inner"]
abbrev P_is_even : List Str := ["counts"]
theorem sc_is_even : FnScope N_is_even P_is_even (defScope t_is_even) := ⟨rfl, rfl, rfl, by decide +kernel, rfl, by decide +kernel, by decide +kernel⟩
def s_is_even : S := (sSeq (sSet (gName' 1) (eSl (eVar 0) pNone (pSome (eUn dNeg (eC (.int 1))))))
    (sRet (eOr (eOp dEq (eVar 1) (eTup aNil)) (eOp dLt (eOp dSub (eCB cMax (aCons (eVar 1) aNil)) (eCB cMin (aCons (eVar 1) aNil))) (eC (.int 2))))))
def F_is_even : List D → Option D := runF 2 1 s_is_even
theorem ok_is_even {P : Program} {w : World} {K : PySem.W.Frag} {mg : Str → Option Value} {base : Heap} {f : Addr} {fd : FuncData} (Fn : Fun K "is_even" "is_even" t_is_even f fd) (T : Txt mg) : FnOk P w K mg base CX0 1 f fd P_is_even (spD K F_is_even) := by
  have nd := sc_is_even.nd
  exact fun_okD (s := s_is_even) Fn sc_is_even rfl rfl (fun cdv A outer s0 H EX hr => ⟨_, (ss_cons (s_set (i := 1) nd rfl (by first | exact Or.inl rfl | exact Or.inr rfl) (e_slice (e_var 0) p_none (p_some (e_neg e_int))))
    (ss_one (s_ret (e_or (e_cmp (o_eqD (u64 hr)) (e_var 1) (e_tup a_nil)) (e_one (e_cmp o_lt (e_op o_sub (e_callB (c_max rfl (u65 hr)) rfl T.b_max (by decide +kernel) (a_cons (e_var 1) a_nil)) (e_callB (c_min rfl (u65 hr)) rfl T.b_min (by decide +kernel) (a_cons (e_var 1) a_nil))) e_int))))))⟩)
/-! again_of -/
abbrev t_again_of : Stmt := top 12
abbrev N_again_of : List Str := ["one", "other"]
abbrev P_again_of : List Str := ["one", "other"]
theorem sc_again_of : FnScope N_again_of P_again_of (defScope t_again_of) := ⟨rfl, rfl, rfl, by decide +kernel, rfl, by decide +kernel, by decide +kernel⟩
def s_again_of : S := (sRet (eCall F_parted (aCons (eVar 0) (aCons (eVar 1) aNil))))
def F_again_of : List D → Option D := runF 2 2 s_again_of
theorem ok_again_of {P : Program} {w : World} {K : PySem.W.Frag} {mg : Str → Option Value} {base : Heap} {f : Addr} {fd : FuncData} (Fn : Fun K "again_of" "again_of" t_again_of f fd) (T : Txt mg) (C_parted : Cal P w K mg base "parted" 3 P_parted (spD K F_parted)) : FnOk P w K mg base CX0 4 f fd P_again_of (spD K F_again_of) := by
  have nd := sc_again_of.nd
  exact fun_okD (s := s_again_of) Fn sc_again_of rfl rfl (fun cdv A outer s0 H EX hr => ⟨_, (ss_one (s_ret (e_usr C_parted hr rfl (a_cons (e_var 0) (a_cons (e_var 1) a_nil)))))⟩)
/-! least_multiple -/
abbrev t_least_multiple : Stmt := top 13
abbrev N_least_multiple : List Str := ["a", "b"]
abbrev P_least_multiple : List Str := ["a", "b"]
theorem sc_least_multiple : FnScope N_least_multiple P_least_multiple (defScope t_least_multiple) := ⟨rfl, rfl, rfl, by decide +kernel, rfl, by decide +kernel, by decide +kernel⟩
def s_least_multiple : S := (sRet (eOp dMul (eOp dFdiv (eVar 0) (eCall F_common (aCons (eVar 0) (aCons (eVar 1) aNil)))) (eVar 1)))
def F_least_multiple : List D → Option D := runF 2 2 s_least_multiple
theorem ok_least_multiple {P : Program} {w : World} {K : PySem.W.Frag} {mg : Str → Option Value} {base : Heap} {f : Addr} {fd : FuncData} (Fn : Fun K "least_multiple" "least_multiple" t_least_multiple f fd) (T : Txt mg) (C_common : Cal P w K mg base "common" 1 P_common (spD K F_common)) : FnOk P w K mg base CX0 2 f fd P_least_multiple (spD K F_least_multiple) := by
  have nd := sc_least_multiple.nd
  exact fun_okD (s := s_least_multiple) Fn sc_least_multiple rfl rfl (fun cdv A outer s0 H EX hr => ⟨_, (ss_one (s_ret (e_op o_mul (e_op o_fdiv (e_var 0) (e_usr C_common hr rfl (a_cons (e_var 0) (a_cons (e_var 1) a_nil)))) (e_var 1))))⟩)
/-! common_rate -/
abbrev t_common_rate : Stmt := top 14
abbrev N_common_rate : List Str := ["rates", "upper", "lower", "a", "b"]
abbrev P_common_rate : List Str := ["rates"]
theorem sc_common_rate : FnScope N_common_rate P_common_rate (defScope t_common_rate) := ⟨rfl, rfl, rfl, by decide +kernel, rfl, by decide +kernel, by decide +kernel⟩
def s_common_rate : S := (sSeq (sSet (gTup' 2 (gCons' (gName' 1) (gCons' (gName' 2) gNil'))) (eOp dIx (eVar 0) (eC (.int 0))))
    (sSeq (sFor (iSeq (eSl (eVar 0) (pSome (eC (.int 1))) pNone)) (gTup' 2 (gCons' (gName' 3) (gCons' (gName' 4) gNil'))) (sFg [3, 4] (sPar [1, 2] (lE (eCall F_least_multiple (aCons (eVar 1) (aCons (eVar 3) aNil))) (lE (eCall F_common (aCons (eVar 2) (aCons (eVar 4) aNil))) lNil)))))
    (sRet (eCall F_fraction (aCons (eVar 1) (aCons (eVar 2) aNil))))))
def F_common_rate : List D → Option D := runF 5 1 s_common_rate
theorem ok_common_rate {P : Program} {w : World} {K : PySem.W.Frag} {mg : Str → Option Value} {base : Heap} {f : Addr} {fd : FuncData} (Fn : Fun K "common_rate" "common_rate" t_common_rate f fd) (T : Txt mg) (C_common : Cal P w K mg base "common" 1 P_common (spD K F_common)) (C_fraction : Cal P w K mg base "fraction" 2 P_fraction (spD K F_fraction)) (C_least_multiple : Cal P w K mg base "least_multiple" 2 P_least_multiple (spD K F_least_multiple)) : FnOk P w K mg base CX0 3 f fd P_common_rate (spD K F_common_rate) := by
  have nd := sc_common_rate.nd
  exact fun_okD (s := s_common_rate) Fn sc_common_rate rfl rfl (fun cdv A outer s0 H EX hr => ⟨_, (ss_cons (s_asg (e_ix (u1 hr) (e_var 0) e_int) (g_tup rfl (gs_cons (g_name (i := 1) nd rfl (by first | exact Or.inl rfl | exact Or.inr rfl)) (gs_cons (g_name (i := 2) nd rfl (by first | exact Or.inl rfl | exact Or.inr rfl)) gs_nil))))
    (ss_cons (s_for PassesOwn.never rfl (i_seq (e_slice (e_var 0) (p_some e_int) p_none)) (g_tup rfl (gs_cons (g_name (i := 3) nd rfl (by first | exact Or.inl rfl | exact Or.inr rfl)) (gs_cons (g_name (i := 4) nd rfl (by first | exact Or.inl rfl | exact Or.inr rfl)) gs_nil))) (ss_fg [3, 4] (ss_one (s_par2 (i := 1) (j := 2) rfl nd rfl rfl (by decide) rfl rfl (l_e (e_usr C_least_multiple hr rfl (a_cons (e_var 1) (a_cons (e_var 3) a_nil))) (l_e (e_usr C_common hr rfl (a_cons (e_var 2) (a_cons (e_var 4) a_nil))) l_nil)) rfl))))
    (ss_one (s_ret (e_usr C_fraction hr rfl (a_cons (e_var 1) (a_cons (e_var 2) a_nil)))))))⟩)
/-! shared_begins -/
abbrev t_shared_begins : Stmt := top 15
abbrev N_shared_begins : List Str := ["one", "other", "many", "found", "frame", "told"]
abbrev P_shared_begins : List Str := ["one", "other", "many"]
theorem sc_shared_begins : FnScope N_shared_begins P_shared_begins (defScope t_shared_begins) := ⟨rfl, rfl, rfl, by decide +kernel, rfl, by decide +kernel, by decide +kernel⟩
def s_shared_begins : S := (sSeq (sOwn 3 (fLst aNil))
    (sSeq (sFor (iR1 (aCons (eVar 2) aNil)) (gName' 4) (sFg [4, 5] (sSeq (sSet (gName' 5) (eCall F_times (aCons (eVar 1) (aCons (eCall F_begin_of (aCons (eVar 0) (aCons (eVar 4) aNil))) aNil))))
    (sIf (tB' (eOp dEq (eOp dIx (eVar 5) (eC (.int 1))) (eC (.int 1)))) (sApp 3 (eTup (aCons (eVar 4) (aCons (eOp dIx (eVar 5) (eC (.int 0))) aNil)))) sNil))))
    (sRet (eCB cTuple (aCons (eVar 3) aNil)))))
def F_shared_begins : List D → Option D := runF 6 3 s_shared_begins
theorem ok_shared_begins {P : Program} {w : World} {K : PySem.W.Frag} {mg : Str → Option Value} {base : Heap} {f : Addr} {fd : FuncData} (Fn : Fun K "shared_begins" "shared_begins" t_shared_begins f fd) (T : Txt mg) (C_times : Cal P w K mg base "times" 3 P_times (spD K F_times)) (C_begin_of : Cal P w K mg base "begin_of" 4 P_begin_of (spD K F_begin_of)) : FnOk P w K mg base CX0 5 f fd P_shared_begins (spD K F_shared_begins) := by
  have nd := sc_shared_begins.nd
  exact fun_okD (s := s_shared_begins) Fn sc_shared_begins rfl rfl (fun cdv A outer s0 H EX hr => ⟨_, (ss_cons (s_own (i := 3) nd rfl (by first | exact Or.inl rfl | exact Or.inr rfl) (f_lst a_nil))
    (ss_cons (s_for PassesOwn.never rfl (i_range1 rfl T.b_range (a_cons (e_var 2) a_nil)) (g_name (i := 4) nd rfl (by first | exact Or.inl rfl | exact Or.inr rfl)) (ss_fg [4, 5] (ss_cons (s_set (i := 5) nd rfl (by first | exact Or.inl rfl | exact Or.inr rfl) (e_usr C_times hr rfl (a_cons (e_var 1) (a_cons (e_usr C_begin_of hr rfl (a_cons (e_var 0) (a_cons (e_var 4) a_nil))) a_nil))))
    (ss_one (s_if (t_cmp (o_eqD (u64 hr)) (e_ix (u1 hr) (e_var 5) e_int) e_int) (ss_one (s_append (i := 3) (pv 3) (e_tup (a_cons (e_var 4) (a_cons (e_ix (u1 hr) (e_var 5) e_int) a_nil))))) ss_nil)))))
    (ss_one (s_ret (e_callTy c_tuple rfl T.b_tuple (by decide +kernel) (a_cons (e_var 3) a_nil))))))⟩)
/-! _law_draws -/
abbrev t_law_draws : Stmt := top 17
abbrev N_law_draws : List Str := ["script", "many", "draws", "mixed", "k", "cell", "rest", "turn"]
abbrev P_law_draws : List Str := ["script", "many"]
theorem sc_law_draws : FnScope N_law_draws P_law_draws (defScope t_law_draws) := ⟨rfl, rfl, rfl, by decide +kernel, rfl, by decide +kernel, by decide +kernel⟩
/-! _law_next -/
abbrev t_law_next : Stmt := top 18
abbrev N_law_next : List Str := ["w", "many"]
abbrev P_law_next : List Str := ["w", "many"]
theorem sc_law_next : FnScope N_law_next P_law_next (defScope t_law_next) := ⟨rfl, rfl, rfl, by decide +kernel, rfl, by decide +kernel, by decide +kernel⟩
/-- a draw -/
def F_law_next (s : Nat → Int) (n : Nat) (ds : List D) : Option (D × Nat) := match ds with
  | [.int k] => if 0 < k then some (.int (s n % k), n + 1) else none
  | _ => none
/-! _law_least -/
abbrev t_law_least : Stmt := top 19
abbrev N_law_least : List Str := ["a", "b", "one", "other"]
abbrev P_law_least : List Str := ["a", "b"]
theorem sc_law_least : FnScope N_law_least P_law_least (defScope t_law_least) := ⟨rfl, rfl, rfl, by decide +kernel, rfl, by decide +kernel, by decide +kernel⟩
def s_law_least : S := (sSeq (sPar [2, 3] (lE (eCB cAbs (aCons (eVar 0) aNil)) (lE (eCB cAbs (aCons (eVar 1) aNil)) lNil)))
    (sSeq (whF (tB' (eOp dGt (eVar 3) (eC (.int 0)))) (sFg [] (sPar [2, 3] (lE (eVar 3) (lE (eOp dMod (eVar 2) (eVar 3)) lNil)))) FUEL)
    (sSeq (sSet (gName' 2) (eIf (tB' (eOp dGt (eVar 1) (eC (.int 0)))) (eVar 2) (eOp dSub (eC (.int 0)) (eVar 2))))
    (sRet (eTup (aCons (eOp dFdiv (eVar 0) (eVar 2)) (aCons (eOp dFdiv (eVar 1) (eVar 2)) aNil)))))))
def F_law_least : List D → Option D := runF 4 2 s_law_least
theorem ok_law_least {P : Program} {w : World} {K : PySem.W.Frag} {mg : Str → Option Value} {base : Heap} {f : Addr} {fd : FuncData} (Fn : Fun K "_law_least" "_law_least" t_law_least f fd) (T : Txt mg) : FnOk P w K mg base CX0 1 f fd P_law_least (spD K F_law_least) := by
  have nd := sc_law_least.nd
  exact fun_okD (s := s_law_least) Fn sc_law_least rfl rfl (fun cdv A outer s0 H EX hr => ⟨_, (ss_cons (s_par2 (i := 2) (j := 3) rfl nd rfl rfl (by decide) rfl rfl (l_e (e_callB c_abs rfl T.b_abs (by decide +kernel) (a_cons (e_var 0) a_nil)) (l_e (e_callB c_abs rfl T.b_abs (by decide +kernel) (a_cons (e_var 1) a_nil)) l_nil)) rfl)
    (ss_cons (s_while FUEL PassesOwn.never (t_cmp o_gt (e_var 3) e_int) (ss_fg [] (ss_one (s_par2 (i := 2) (j := 3) rfl nd rfl rfl (by decide) rfl rfl (l_e (e_var 3) (l_e (e_op o_mod (e_var 2) (e_var 3)) l_nil)) rfl))))
    (ss_cons (s_set (i := 2) nd rfl (by first | exact Or.inl rfl | exact Or.inr rfl) (e_ifExp (t_cmp o_gt (e_var 1) e_int) (e_var 2) (e_op o_sub e_int (e_var 2))))
    (ss_one (s_ret (e_tup (a_cons (e_op o_fdiv (e_var 0) (e_var 2)) (a_cons (e_op o_fdiv (e_var 1) (e_var 2)) a_nil))))))))⟩)
/-! _law_holds -/
abbrev t_law_holds : Stmt := top 20
abbrev N_law_holds : List Str := ["w", "a", "b", "c", "d", "one", "other", "frame", "told", "time", "many", "rows", "counts", "m", "n", "part", "whole", "shared_all", "k"]
abbrev P_law_holds : List Str := ["w"]
theorem sc_law_holds : FnScope N_law_holds P_law_holds (defScope t_law_holds) := ⟨rfl, rfl, rfl, by decide +kernel, rfl, by decide +kernel, by decide +kernel⟩
def s_law_holds : S := (sSeq (sSet (gTup' 4 (gCons' (gName' 1) (gCons' (gName' 2) (gCons' (gName' 3) (gCons' (gName' 4) gNil'))))) (eTup (aCons (eOp dAdd (eC (.int 1)) (eCallW F_law_next (aCons (eVar 0) (aCons (eC (.int 30)) aNil)))) (aCons (eOp dAdd (eC (.int 1)) (eCallW F_law_next (aCons (eVar 0) (aCons (eC (.int 4)) aNil)))) (aCons (eOp dAdd (eC (.int 1)) (eCallW F_law_next (aCons (eVar 0) (aCons (eC (.int 30)) aNil)))) (aCons (eOp dAdd (eC (.int 1)) (eCallW F_law_next (aCons (eVar 0) (aCons (eC (.int 4)) aNil)))) aNil))))))
    (sSeq (sSet (gTup' 2 (gCons' (gName' 5) (gCons' (gName' 6) gNil'))) (eTup (aCons (eCall F_law_least (aCons (eVar 1) (aCons (eVar 2) aNil))) (aCons (eCall F_law_least (aCons (eVar 3) (aCons (eVar 4) aNil))) aNil))))
    (sSeq (sSet (gName' 7) (eCallW F_law_next (aCons (eVar 0) (aCons (eC (.int 60)) aNil))))
    (sSeq (sSet (gName' 8) (eOp dFdiv (eOp dMul (eOp dMul (eVar 7) (eOp dIx (eVar 6) (eC (.int 1)))) (eOp dIx (eVar 5) (eC (.int 0)))) (eOp dMul (eOp dIx (eVar 6) (eC (.int 0))) (eOp dIx (eVar 5) (eC (.int 1))))))
    (sSeq (sIf (tOr' (tB' (eOp dNe (eCall F_told_at (aCons (eVar 5) (aCons (eVar 6) (aCons (eVar 7) aNil)))) (eVar 8))) (tB' (eOp dNe (eCall F_begin_of (aCons (eVar 5) (aCons (eVar 7) aNil))) (eCall F_law_least (aCons (eOp dMul (eVar 7) (eOp dIx (eVar 5) (eC (.int 1)))) (aCons (eOp dIx (eVar 5) (eC (.int 0))) aNil)))))) (sRet (eC (.bl false))) sNil)
    (sSeq (sSet (gName' 9) (eCall F_law_least (aCons (eCallW F_law_next (aCons (eVar 0) (aCons (eC (.int 90)) aNil))) (aCons (eOp dAdd (eC (.int 1)) (eCallW F_law_next (aCons (eVar 0) (aCons (eC (.int 9)) aNil)))) aNil))))
    (sSeq (sIf (tB' (eOp dNe (eCall F_frame_at (aCons (eVar 5) (aCons (eVar 9) aNil))) (eOp dFdiv (eOp dMul (eOp dIx (eVar 9) (eC (.int 0))) (eOp dIx (eVar 5) (eC (.int 0)))) (eOp dMul (eOp dIx (eVar 9) (eC (.int 1))) (eOp dIx (eVar 5) (eC (.int 1))))))) (sRet (eC (.bl false))) sNil)
    (sSeq (sSet (gName' 10) (eOp dAdd (eC (.int 1)) (eCallW F_law_next (aCons (eVar 0) (aCons (eC (.int 25)) aNil)))))
    (sSeq (sSet (gName' 11) (eF (fLc (iR1 (aCons (eVar 10) aNil)) (gName' 18) tYes' (eOp dFdiv (eOp dMul (eOp dMul (eVar 18) (eOp dIx (eVar 6) (eC (.int 1)))) (eOp dIx (eVar 5) (eC (.int 0)))) (eOp dMul (eOp dIx (eVar 6) (eC (.int 0))) (eOp dIx (eVar 5) (eC (.int 1))))) [18])))
    (sSeq (sSet (gName' 12) (eCB cTuple (aCons (eF (fLc (iR1 (aCons (eOp dAdd (eOp dIx (eVar 11) (eUn dNeg (eC (.int 1)))) (eC (.int 1))) aNil)) (gName' 18) tYes' (eMet dCount (eVar 11) (eVar 18)) [18])) aNil)))
    (sSeq (sIf (tB' (eOp dNotB (eCall F_is_even (aCons (eTup (aCons (eC (.int 0)) (aCons (eC (.int 2)) (aCons (eC (.int 1)) aNil)))) aNil)) (eC (.bl false)))) (sRet (eC (.bl false))) sNil)
    (sSeq (sIf (tOr' (tB' (eOp dNe (eCall F_shown_times (aCons (eVar 5) (aCons (eVar 6) (aCons (eVar 10) aNil)))) (eVar 12))) (tB' (eOp dNotB (eCall F_is_even (aCons (eVar 12) aNil)) (eC (.bl true))))) (sRet (eC (.bl false))) sNil)
    (sSeq (sSet (gTup' 2 (gCons' (gName' 13) (gCons' (gName' 14) gNil'))) (eCall F_again_of (aCons (eVar 5) (aCons (eVar 6) aNil))))
    (sSeq (sSet (gName' 15) (eCall F_law_least (aCons (eOp dMul (eOp dIx (eVar 5) (eC (.int 0))) (eOp dIx (eVar 6) (eC (.int 1)))) (aCons (eOp dMul (eOp dIx (eVar 5) (eC (.int 1))) (eOp dIx (eVar 6) (eC (.int 0)))) aNil))))
    (sSeq (sIf (tOr' (tB' (eOp dNe (eTup (aCons (eVar 13) (aCons (eVar 14) aNil))) (eVar 15))) (tB' (eOp dNe (eCall F_again_of (aCons (eTup (aCons (eC (.int 24)) (aCons (eC (.int 1)) aNil))) (aCons (eTup (aCons (eC (.int 30)) (aCons (eC (.int 1)) aNil))) aNil))) (eTup (aCons (eC (.int 4)) (aCons (eC (.int 5)) aNil)))))) (sRet (eC (.bl false))) sNil)
    (sSeq (sSet (gName' 16) (eCall F_common_rate (aCons (eTup (aCons (eVar 5) (aCons (eVar 6) aNil))) aNil)))
    (sSeq (sIf (tOr' (tB' (eOp dNe (eOp dMod (eOp dMul (eOp dIx (eVar 16) (eC (.int 0))) (eOp dIx (eVar 5) (eC (.int 1)))) (eOp dMul (eOp dIx (eVar 16) (eC (.int 1))) (eOp dIx (eVar 5) (eC (.int 0))))) (eC (.int 0)))) (tB' (eOp dNe (eOp dMod (eOp dMul (eOp dIx (eVar 16) (eC (.int 0))) (eOp dIx (eVar 6) (eC (.int 1)))) (eOp dMul (eOp dIx (eVar 16) (eC (.int 1))) (eOp dIx (eVar 6) (eC (.int 0))))) (eC (.int 0))))) (sRet (eC (.bl false))) sNil)
    (sSeq (sSet (gName' 17) (eCall F_shared_begins (aCons (eVar 5) (aCons (eVar 6) (aCons (eOp dMul (eC (.int 3)) (eVar 13)) aNil)))))
    (sRet (eAnd (eOp dEq (eVar 17) (eCB cTuple (aCons (eF (fLc (iR1 (aCons (eC (.int 3)) aNil)) (gName' 18) tYes' (eTup (aCons (eOp dMul (eVar 18) (eVar 13)) (aCons (eOp dMul (eVar 18) (eVar 14)) aNil))) [18])) aNil))) (eOp dEq (eCall F_common_rate (aCons (eTup (aCons (eTup (aCons (eC (.int 24)) (aCons (eC (.int 1)) aNil))) (aCons (eTup (aCons (eC (.int 30)) (aCons (eC (.int 1)) aNil))) aNil))) aNil)) (eTup (aCons (eC (.int 120)) (aCons (eC (.int 1)) aNil))))))))))))))))))))))))
def F_law_holds : (Nat → Int) → Nat → List D → Option (D × Nat) := runW 19 0 s_law_holds
theorem ok_law_holds {P : Program} {w : World} {K : PySem.W.Frag} {mg : Str → Option Value} {base : Heap} {f : Addr} {fd : FuncData} (Fn : Fun K "_law_holds" "_law_holds" t_law_holds f fd) (T : Txt mg) (C_frame_at : Cal P w K mg base "frame_at" 4 P_frame_at (spD K F_frame_at)) (C_begin_of : Cal P w K mg base "begin_of" 4 P_begin_of (spD K F_begin_of)) (C_told_at : Cal P w K mg base "told_at" 5 P_told_at (spD K F_told_at)) (C_shown_times : Cal P w K mg base "shown_times" 6 P_shown_times (spD K F_shown_times)) (C_is_even : Cal P w K mg base "is_even" 1 P_is_even (spD K F_is_even)) (C_again_of : Cal P w K mg base "again_of" 4 P_again_of (spD K F_again_of)) (C_common_rate : Cal P w K mg base "common_rate" 3 P_common_rate (spD K F_common_rate)) (C_shared_begins : Cal P w K mg base "shared_begins" 5 P_shared_begins (spD K F_shared_begins)) (C_law_next : Cal P w K mg base "_law_next" 1 P_law_next (spW K F_law_next)) (C_law_least : Cal P w K mg base "_law_least" 1 P_law_least (spD K F_law_least)) : FnOk P w K mg base CX0 7 f fd P_law_holds (spW K F_law_holds) := by
  have nd := sc_law_holds.nd
  exact fun_okW (s := s_law_holds) Fn sc_law_holds rfl rfl (fun cdv A outer s0 H EX hr => ⟨_, (ss_cons (s_asg (e_tup (a_cons (e_op o_add e_int (e_usrW C_law_next hr rfl (a_cons (e_var 0) (a_cons e_int a_nil)))) (a_cons (e_op o_add e_int (e_usrW C_law_next hr rfl (a_cons (e_var 0) (a_cons e_int a_nil)))) (a_cons (e_op o_add e_int (e_usrW C_law_next hr rfl (a_cons (e_var 0) (a_cons e_int a_nil)))) (a_cons (e_op o_add e_int (e_usrW C_law_next hr rfl (a_cons (e_var 0) (a_cons e_int a_nil)))) a_nil))))) (g_tup rfl (gs_cons (g_name (i := 1) nd rfl (by first | exact Or.inl rfl | exact Or.inr rfl)) (gs_cons (g_name (i := 2) nd rfl (by first | exact Or.inl rfl | exact Or.inr rfl)) (gs_cons (g_name (i := 3) nd rfl (by first | exact Or.inl rfl | exact Or.inr rfl)) (gs_cons (g_name (i := 4) nd rfl (by first | exact Or.inl rfl | exact Or.inr rfl)) gs_nil))))))
    (ss_cons (s_asg (e_tup (a_cons (e_usr C_law_least hr rfl (a_cons (e_var 1) (a_cons (e_var 2) a_nil))) (a_cons (e_usr C_law_least hr rfl (a_cons (e_var 3) (a_cons (e_var 4) a_nil))) a_nil))) (g_tup rfl (gs_cons (g_name (i := 5) nd rfl (by first | exact Or.inl rfl | exact Or.inr rfl)) (gs_cons (g_name (i := 6) nd rfl (by first | exact Or.inl rfl | exact Or.inr rfl)) gs_nil))))
    (ss_cons (s_set (i := 7) nd rfl (by first | exact Or.inl rfl | exact Or.inr rfl) (e_usrW C_law_next hr rfl (a_cons (e_var 0) (a_cons e_int a_nil))))
    (ss_cons (s_set (i := 8) nd rfl (by first | exact Or.inl rfl | exact Or.inr rfl) (e_op o_fdiv (e_op o_mul (e_op o_mul (e_var 7) (e_ix (u1 hr) (e_var 6) e_int)) (e_ix (u1 hr) (e_var 5) e_int)) (e_op o_mul (e_ix (u1 hr) (e_var 6) e_int) (e_ix (u1 hr) (e_var 5) e_int))))
    (ss_cons (s_if (WOk.t (w_or (t_cmp (o_neD (u64 hr)) (e_usr C_told_at hr rfl (a_cons (e_var 5) (a_cons (e_var 6) (a_cons (e_var 7) a_nil)))) (e_var 8)) (w_or1 (t_cmp (o_neD (u64 hr)) (e_usr C_begin_of hr rfl (a_cons (e_var 5) (a_cons (e_var 7) a_nil))) (e_usr C_law_least hr rfl (a_cons (e_op o_mul (e_var 7) (e_ix (u1 hr) (e_var 5) e_int)) (a_cons (e_ix (u1 hr) (e_var 5) e_int) a_nil))))))) (ss_one (s_ret e_bl)) ss_nil)
    (ss_cons (s_set (i := 9) nd rfl (by first | exact Or.inl rfl | exact Or.inr rfl) (e_usr C_law_least hr rfl (a_cons (e_usrW C_law_next hr rfl (a_cons (e_var 0) (a_cons e_int a_nil))) (a_cons (e_op o_add e_int (e_usrW C_law_next hr rfl (a_cons (e_var 0) (a_cons e_int a_nil)))) a_nil))))
    (ss_cons (s_if (t_cmp (o_neD (u64 hr)) (e_usr C_frame_at hr rfl (a_cons (e_var 5) (a_cons (e_var 9) a_nil))) (e_op o_fdiv (e_op o_mul (e_ix (u1 hr) (e_var 9) e_int) (e_ix (u1 hr) (e_var 5) e_int)) (e_op o_mul (e_ix (u1 hr) (e_var 9) e_int) (e_ix (u1 hr) (e_var 5) e_int)))) (ss_one (s_ret e_bl)) ss_nil)
    (ss_cons (s_set (i := 10) nd rfl (by first | exact Or.inl rfl | exact Or.inr rfl) (e_op o_add e_int (e_usrW C_law_next hr rfl (a_cons (e_var 0) (a_cons e_int a_nil)))))
    (ss_cons (s_set (i := 11) nd rfl (by first | exact Or.inl rfl | exact Or.inr rfl) (e_f (f_lc (own := [(("k" : Str), 18)]) rfl nd (i_range1 rfl T.b_range (a_cons (e_var 10) a_nil)) (blkOk_by (own := [(("k" : Str), 18)]) (N := N_law_holds) (sc := defScope t_law_holds) (by decide +kernel)) (by decide) (fun _ _ _ _ _ => ⟨_, (g_name (i := 18) nd rfl (by first | exact Or.inl rfl | exact Or.inr rfl))⟩) (fun _ _ _ _ _ => ⟨_, ts_nil⟩) (fun _ _ _ _ _ => ⟨_, (e_op o_fdiv (e_op o_mul (e_op o_mul (e_var 18) (e_ix (u1 hr) (e_var 6) e_int)) (e_ix (u1 hr) (e_var 5) e_int)) (e_op o_mul (e_ix (u1 hr) (e_var 6) e_int) (e_ix (u1 hr) (e_var 5) e_int)))⟩))))
    (ss_cons (s_set (i := 12) nd rfl (by first | exact Or.inl rfl | exact Or.inr rfl) (e_callTy c_tuple rfl T.b_tuple (by decide +kernel) (a_cons (e_f (f_lc (own := [(("k" : Str), 18)]) rfl nd (i_range1 rfl T.b_range (a_cons (e_op o_add (e_ix (u1 hr) (e_var 11) (e_neg e_int)) e_int) a_nil)) (blkOk_by (own := [(("k" : Str), 18)]) (N := N_law_holds) (sc := defScope t_law_holds) (by decide +kernel)) (by decide) (fun _ _ _ _ _ => ⟨_, (g_name (i := 18) nd rfl (by first | exact Or.inl rfl | exact Or.inr rfl))⟩) (fun _ _ _ _ _ => ⟨_, ts_nil⟩) (fun _ _ _ _ _ => ⟨_, (e_count (u65 hr) (e_var 11) (e_var 18))⟩))) a_nil)))
    (ss_cons (s_if (t_cmp o_notB (e_usr C_is_even hr rfl (a_cons (e_tup (a_cons e_int (a_cons e_int (a_cons e_int a_nil)))) a_nil)) e_bl) (ss_one (s_ret e_bl)) ss_nil)
    (ss_cons (s_if (WOk.t (w_or (t_cmp (o_neD (u64 hr)) (e_usr C_shown_times hr rfl (a_cons (e_var 5) (a_cons (e_var 6) (a_cons (e_var 10) a_nil)))) (e_var 12)) (w_or1 (t_cmp o_notB (e_usr C_is_even hr rfl (a_cons (e_var 12) a_nil)) e_bl)))) (ss_one (s_ret e_bl)) ss_nil)
    (ss_cons (s_asg (e_usr C_again_of hr rfl (a_cons (e_var 5) (a_cons (e_var 6) a_nil))) (g_tup rfl (gs_cons (g_name (i := 13) nd rfl (by first | exact Or.inl rfl | exact Or.inr rfl)) (gs_cons (g_name (i := 14) nd rfl (by first | exact Or.inl rfl | exact Or.inr rfl)) gs_nil))))
    (ss_cons (s_set (i := 15) nd rfl (by first | exact Or.inl rfl | exact Or.inr rfl) (e_usr C_law_least hr rfl (a_cons (e_op o_mul (e_ix (u1 hr) (e_var 5) e_int) (e_ix (u1 hr) (e_var 6) e_int)) (a_cons (e_op o_mul (e_ix (u1 hr) (e_var 5) e_int) (e_ix (u1 hr) (e_var 6) e_int)) a_nil))))
    (ss_cons (s_if (WOk.t (w_or (t_cmp (o_neD (u64 hr)) (e_tup (a_cons (e_var 13) (a_cons (e_var 14) a_nil))) (e_var 15)) (w_or1 (t_cmp (o_neD (u64 hr)) (e_usr C_again_of hr rfl (a_cons (e_tup (a_cons e_int (a_cons e_int a_nil))) (a_cons (e_tup (a_cons e_int (a_cons e_int a_nil))) a_nil))) (e_tup (a_cons e_int (a_cons e_int a_nil))))))) (ss_one (s_ret e_bl)) ss_nil)
    (ss_cons (s_set (i := 16) nd rfl (by first | exact Or.inl rfl | exact Or.inr rfl) (e_usr C_common_rate hr rfl (a_cons (e_tup (a_cons (e_var 5) (a_cons (e_var 6) a_nil))) a_nil)))
    (ss_cons (s_if (WOk.t (w_or (t_cmp (o_neD (u64 hr)) (e_op o_mod (e_op o_mul (e_ix (u1 hr) (e_var 16) e_int) (e_ix (u1 hr) (e_var 5) e_int)) (e_op o_mul (e_ix (u1 hr) (e_var 16) e_int) (e_ix (u1 hr) (e_var 5) e_int))) e_int) (w_or1 (t_cmp (o_neD (u64 hr)) (e_op o_mod (e_op o_mul (e_ix (u1 hr) (e_var 16) e_int) (e_ix (u1 hr) (e_var 6) e_int)) (e_op o_mul (e_ix (u1 hr) (e_var 16) e_int) (e_ix (u1 hr) (e_var 6) e_int))) e_int)))) (ss_one (s_ret e_bl)) ss_nil)
    (ss_cons (s_set (i := 17) nd rfl (by first | exact Or.inl rfl | exact Or.inr rfl) (e_usr C_shared_begins hr rfl (a_cons (e_var 5) (a_cons (e_var 6) (a_cons (e_op o_mul e_int (e_var 13)) a_nil)))))
    (ss_one (s_ret (e_and (e_cmp (o_eqD (u64 hr)) (e_var 17) (e_callTy c_tuple rfl T.b_tuple (by decide +kernel) (a_cons (e_f (f_lc (own := [(("k" : Str), 18)]) rfl nd (i_range1 rfl T.b_range (a_cons e_int a_nil)) (blkOk_by (own := [(("k" : Str), 18)]) (N := N_law_holds) (sc := defScope t_law_holds) (by decide +kernel)) (by decide) (fun _ _ _ _ _ => ⟨_, (g_name (i := 18) nd rfl (by first | exact Or.inl rfl | exact Or.inr rfl))⟩) (fun _ _ _ _ _ => ⟨_, ts_nil⟩) (fun _ _ _ _ _ => ⟨_, (e_tup (a_cons (e_op o_mul (e_var 18) (e_var 13)) (a_cons (e_op o_mul (e_var 18) (e_var 14)) a_nil)))⟩))) a_nil))) (e_one (e_cmp (o_eqD (u64 hr)) (e_usr C_common_rate hr rfl (a_cons (e_tup (a_cons (e_tup (a_cons e_int (a_cons e_int a_nil))) (a_cons (e_tup (a_cons e_int (a_cons e_int a_nil))) a_nil))) a_nil)) (e_tup (a_cons e_int (a_cons e_int a_nil))))))))))))))))))))))))))⟩)
/-! law -/
abbrev t_law : Stmt := top 21
abbrev N_law : List Str := ["script", "w", "turn"]
abbrev P_law : List Str := ["script"]
theorem sc_law : FnScope N_law P_law (defScope t_law) := ⟨rfl, rfl, rfl, by decide +kernel, rfl, by decide +kernel, by decide +kernel⟩
end K01

set_option Elab.async false
set_option linter.all false
set_option maxRecDepth 100000
namespace K01
open PySem PySem.Spec PyProof.Rows L2 Fd
section
variable {P : Program} {w : World} {K : PySem.W.Frag} {mg : Str → Option Value} {base : Heap} {f : Addr} {fd : FuncData}
theorem wd_draws (l : Addr) (n : Int) : valV ([(Sum.inr kDraws, V.ref l), (Sum.inr kAt, V.int n)] : List (Key × V)) (Sum.inr ("draws" : Str)) = some (V.ref l) := by
  have : kDraws = ("draws" : Str) := rfl
  rw [this]; exact valV_pos rfl
theorem wd_at (l : Addr) (n : Int) : valV ([(Sum.inr kDraws, V.ref l), (Sum.inr kAt, V.int n)] : List (Key × V)) (Sum.inr ("at" : Str)) = some (V.int n) := by
  have h : ¬ (Sum.inr kDraws : Key) = Sum.inr ("at" : Str) := by decide +kernel
  have h2 : (Sum.inr kAt : Key) = Sum.inr ("at" : Str) := rfl
  rw [valV_neg (p := (Sum.inr kDraws, V.ref l)) h]
  exact valV_pos h2
theorem wd_put (l : Addr) (n m : Int) : putK ([(Sum.inr kDraws, V.ref l), (Sum.inr kAt, V.int n)] : List (Key × V)) (Sum.inr ("at" : Str)) (V.int m) = [(Sum.inr kDraws, V.ref l), (Sum.inr kAt, V.int m)] := by
  have h : ¬ (Sum.inr kDraws : Key) = Sum.inr ("at" : Str) := by decide +kernel
  have h2 : (Sum.inr kAt : Key) = Sum.inr ("at" : Str) := rfl
  unfold putK
  rw [if_pos (by simp [h2])]
  simp only [List.map_cons, List.map_nil, if_neg h, h2, if_true]
theorem ok_law_next (Fn : Fun K "_law_next" "_law_next" t_law_next f fd) (T : Txt mg) : FnOk P w K mg base CX0 1 f fd P_law_next (spW K F_law_next) := by
  have nd := sc_law_next.nd
  refine Fn.ok sc_law_next (fun vs H Q EX h => ?_) (fun cdv A outer s0 H vs Q EX hr h => ?_)
  · obtain ⟨G, wa, l, vs', ns, n, ds, d, n', rfl, _, _, _, _, _, r, e, _⟩ := h
    cases r with
    | nil => cases e
    | cons a b =>
      cases b with
      | nil => rfl
      | cons a' b' =>
        unfold F_law_next at e
        split at e
        · rename_i he; cases he
        · cases e
  · obtain ⟨G, wa, l, vs', ns, n, ds, d, n', rfl, gh, gw, hw, hl, hb, r, e, q⟩ := h
    unfold F_law_next at e
    split at e
    · rename_i k
      split at e
      · rename_i hk
        cases e
        cases r with | cons a b =>
        cases b
        cases a
        have hl' : H l = some (.lst (ns.map V.int)) := gh _ _ hl
        refine ⟨_, pss_cons (ps_daug (u1 hr) (pv 0) pe_str pe_int in_add (fun _ _ _ => rfl)) (pss_cons (ps_if (pt_cmpR op_gt (pe_dget (u1 hr) (pv 0) pe_str (fun _ _ => rfl)) (pe_callB call_len_seq (by rfl) T.b_len PySem.boot_len (pa_cons (pe_dget (u1 hr) (pv 0) pe_str (fun _ _ => rfl)) pa_nil)) (nomark _))
          (pss_one (ps_ret pe_int)) pss_nil)
          (pss_one (ps_ret (pe_op op_mod (pe_callTy call_int1 (by rfl) T.b_int (by decide +kernel) (pa_cons (pe_ix ix_list (pe_dget (u1 hr) (pv 0) pe_str (fun _ _ => rfl)) (pe_op op_sub (pe_dget (u1 hr) (pv 0) pe_str (fun _ _ => rfl)) pe_int) (fun _ _ => rfl)) pa_nil)) (pv 1))))), ?_⟩
        have hw' : H wa = some (.dK [(Sum.inr kDraws, .ref l), (Sum.inr kAt, .int (n : Int))]) := hw
        refine ⟨_, rfl, wa, _, rfl, .inl ⟨_, Sum.inr "at", .inl hw', rfl, (wd_at l n).symm⟩, n, 1, rfl, rfl, _, DPut.k (k := Sum.inr "at") hw' (by show 2 < sizeLine; decide), ?_⟩
        rw [wd_put]
        have hne : l ≠ wa := ne_of hl' hw (by intro z; cases z)
        have e1 : ((n : Int) + 1) = ((n + 1 : Nat) : Int) := by omega
        rw [e1]
        have h1 : upd H wa (.dK [(Sum.inr kDraws, .ref l), (Sum.inr kAt, .int ((n + 1 : Nat) : Int))]) wa = some (.dK [(Sum.inr kDraws, .ref l), (Sum.inr kAt, .int ((n + 1 : Nat) : Int))]) := upd_same
        have h2 : upd H wa (.dK [(Sum.inr kDraws, .ref l), (Sum.inr kAt, .int ((n + 1 : Nat) : Int))]) l = some (.lst (ns.map V.int)) := by rw [upd_ne hne]; exact hl'
        have fin : Q (.int (drw ns n % k)) (upd H wa (.dK [(Sum.inr kDraws, .ref l), (Sum.inr kAt, .int ((n + 1 : Nat) : Int))])) := by
          refine q _ _ G (Same.refl G) (fun a o ne e => by rw [upd_ne ne]; exact e) gw upd_same (fun a o e => ?_) (fun a o e => .inl ⟨o, e⟩) (.int _)
          rw [upd_ne (ne_of_none e gw)]; exact gh _ _ e
        refine ⟨_, rfl, wa, _, rfl, .inl ⟨_, Sum.inr "at", .inl h1, rfl, (wd_at l _).symm⟩, ?_⟩
        refine ⟨_, rfl, wa, _, rfl, .inl ⟨_, Sum.inr "draws", .inl h1, rfl, (wd_draws l _).symm⟩, l, _, rfl, .inl (SqL.of h2), _, _, rfl, rfl, _, rfl, ?_⟩
        rw [List.length_map]
        refine ite2 (fun hc => ?_) (fun hc => ?_)
        · have hge : ns.length ≤ n := by have := of_decide_eq_true hc; omega
          have e0 : drw ns n = 0 := by unfold drw; rw [List.getElem?_eq_none hge]; rfl
          rw [e0, Int.zero_emod] at fin
          exact fin
        · have hlt : n < ns.length := by
            have : ¬ ((ns.length : Int) < ((n + 1 : Nat) : Int)) := fun z => hc (decide_eq_true z)
            omega
          have e0 : drw ns n = ns[n] := by unfold drw; rw [List.getElem?_eq_getElem hlt]; rfl
          refine ⟨_, rfl, wa, _, rfl, .inl ⟨_, Sum.inr "draws", .inl h1, rfl, (wd_draws l _).symm⟩, ?_⟩
          refine ⟨_, rfl, wa, _, rfl, .inl ⟨_, Sum.inr "at", .inl h1, rfl, (wd_at l _).symm⟩, _, 1, rfl, rfl, ?_⟩
          refine ⟨l, _, _, _, rfl, rfl, SqL.of h2, (at_of (j := n) (v := V.int ns[n]) (by omega) (by simp [hlt])), .inl ⟨_, rfl, ?_⟩⟩
          refine ⟨_, rfl, _, _, rfl, rfl, hk, ?_⟩
          rw [e0] at fin
          exact fin
      · cases e
    · cases e
end
end K01
namespace K01
open PySem PySem.Spec PyProof.Rows L2 Fd
section
variable {P : Program} {w : World} {K : PySem.W.Frag} {mg : Str → Option Value} {base : Heap} {f : Addr} {fd : FuncData}
def InR (ms : List Int) : Prop := ∀ i ∈ ms, 0 ≤ i ∧ i < 997
theorem InR.nil : InR [] := fun i h => by cases h
theorem InR.snoc {ms : List Int} {x : Int} (h : InR ms) (h0 : 0 ≤ x) (h1 : x < 997) : InR (ms ++ [x]) := fun i hi => by
  rcases List.mem_append.mp hi with q | q
  · exact h i q
  · rw [List.mem_singleton] at q; subst q; exact ⟨h0, h1⟩
/-- the promise of the draws -/
def spDr (K : PySem.W.Frag) : Sp := fun vs H Q _ => ∃ (a : Addr) (ns : List Int) (m : Int), vs = [.ref a, .int m] ∧ 0 ≤ m ∧ m ≤ 1000 ∧ SqL K H a (ns.map V.int) ∧ ns.length ≤ 63 ∧
  ∀ (p : Addr) (ms : List Int) (H' : Hp), InR ms → Same H H' → H p = none → H' p = some (.lst (ms.map V.int)) → Q (.ref p) H'
theorem map_snoc (ms : List Int) (x : Int) : ms.map V.int ++ [V.int x] = (ms ++ [x]).map V.int := by simp
theorem ok_law_draws (Fn : Fun K "_law_draws" "_law_draws" t_law_draws f fd) (T : Txt mg) : FnOk P w K mg base CX0 1 f fd P_law_draws (spDr K) := by
  have nd := sc_law_draws.nd
  refine Fn.ok sc_law_draws (fun vs H Q EX h => ?_) (fun cdv A outer s0 H vs Q EX hr h => ?_)
  · obtain ⟨a, ns, m, rfl, _⟩ := h; rfl
  · obtain ⟨a, ns, m, rfl, m0, m1, hS, hlen, k⟩ := h
    refine ⟨_, pss_cons (ps_set (i := 2) nd rfl (Or.inl rfl) (pe_lst pa_nil)) (pss_cons (ps_set (i := 3) nd rfl (Or.inl rfl) pe_int)
      (pss_cons (ps_for PassesOwn.never rfl (pi_range1 rfl T.b_range (pa_cons (pe_callB call_len_seq (by rfl) T.b_len PySem.boot_len (pa_cons (pv 0) pa_nil)) pa_nil)) (pg_name (i := 4) nd rfl (Or.inl rfl))
        (pss_cons (ps_set (i := 5) nd rfl (Or.inl rfl) (pe_callB call_abs (by rfl) T.b_abs (by decide +kernel) (pa_cons (pe_callTy call_int1 (by rfl) T.b_int (by decide +kernel) (pa_cons (pe_ix ix_list (pv 0) (pv 4) (fun _ _ => rfl)) pa_nil)) pa_nil)))
        (pss_cons (ps_set (i := 3) nd rfl (Or.inl rfl) (pe_op op_mod (pe_callTy call_int1 (by rfl) T.b_int (by decide +kernel) (pa_cons (pe_op op_add (pe_op op_add (pe_op op_mul (pv 3) pe_int) (pe_op op_mod (pv 5) pe_int)) (pv 4)) pa_nil)) pe_int))
        (pss_cons (ps_set (i := 6) nd rfl (Or.inl rfl) pe_int)
        (pss_cons (ps_if (pt_cmpR op_ge (pv 5) (pe_op op_pow pe_int pe_int) (nomark _))
          (pss_one (ps_set (i := 6) nd rfl (Or.inl rfl) (pv 5)))
          (pss_cons (ps_expr (pe_bm PySem.F.plainAttrs_list PySem.F.slot_list_append PySem.F.type_list_append mt_append (pv 2) (pa_cons (pe_op op_mod (pe_callTy call_int1 (by rfl) T.b_int (by decide +kernel) (pa_cons (pv 5) pa_nil)) pe_int) pa_nil)))
          (pss_one (ps_expr (pe_bm PySem.F.plainAttrs_list PySem.F.slot_list_append PySem.F.type_list_append mt_append (pv 2) (pa_cons (pe_op op_mod (pe_op op_mod (pe_callTy call_int1 (by rfl) T.b_int (by decide +kernel) (pa_cons (pe_op op_add (pe_op op_mul (pv 3) pe_int) pe_int) pa_nil)) pe_int) pe_int) pa_nil))))))
        (pss_one (ps_for PassesOwn.never rfl (pi_range1 rfl T.b_range (pa_cons pe_int pa_nil)) (pg_name (i := 7) nd rfl (Or.inl rfl))
          (pss_one (ps_if (pt_cmpR op_gt (pv 6) pe_int (nomark _))
            (pss_cons (ps_expr (pe_bm PySem.F.plainAttrs_list PySem.F.slot_list_append PySem.F.type_list_append mt_append (pv 2) (pa_cons (pe_op op_mod (pe_callTy call_int1 (by rfl) T.b_int (by decide +kernel) (pa_cons (pv 6) pa_nil)) pe_int) pa_nil)))
            (pss_one (ps_set (i := 6) nd rfl (Or.inl rfl) (pe_op op_fdiv (pv 6) pe_int))))
            pss_nil)))))))))
      (pss_cons (ps_for PassesOwn.never rfl (pi_range1 rfl T.b_range (pa_cons (pv 1) pa_nil)) (pg_name (i := 4) nd rfl (Or.inl rfl))
        (pss_cons (ps_set (i := 3) nd rfl (Or.inl rfl) (pe_op op_mod (pe_callTy call_int1 (by rfl) T.b_int (by decide +kernel) (pa_cons (pe_op op_add (pe_op op_add (pe_op op_mul (pv 3) pe_int) (pv 4)) pe_int) pa_nil)) pe_int))
        (pss_one (ps_expr (pe_bm PySem.F.plainAttrs_list PySem.F.slot_list_append PySem.F.type_list_append mt_append (pv 2) (pa_cons (pe_op op_mod (pe_callTy call_int1 (by rfl) T.b_int (by decide +kernel) (pa_cons (pv 3) pa_nil)) pe_int) pa_nil))))))
      (pss_one (ps_ret (pe_slice sl_list (pv 2) po_none (po_some (pv 1)))))))), ?_⟩
    refine ⟨Nat.zero_le _, fun L hL => ?_⟩
    have sm : ∀ o, Same H (upd H L o) := fun o => same_upd hL
    have seqS : ∀ o, SqL K (upd H L o) a (ns.map V.int) := fun o => (sm o).seq hS
    refine ⟨_, rfl, a, _, rfl, .inl (seqS _), _, rfl, by omega, by rw [List.length_map]; omega, ?_⟩
    rw [List.length_map]
    have e0 : ((ns.length : Int)).toNat = ns.length := by omega
    rw [e0]
    refine for_range (lo := 0) (n := ns.length) (fun i σ H' => ∃ (ms : List Int) (mx : Int) (v4 v5 v6 v7 : Option V), σ = [some (.ref a), some (.int m), some (.ref L), some (.int mx), v4, v5, v6, v7] ∧ H' = upd H L (.lst (ms.map V.int)) ∧ InR ms ∧ ms.length ≤ 62 * i)
      ⟨[], 7, none, none, none, none, rfl, rfl, InR.nil, Nat.le_refl _⟩ ?_ ?_
    · rintro i σ H' hi ⟨ms, mx, v4, v5, v6, v7, rfl, rfl, hR, hml⟩
      have hat : atI (ns.map V.int) ((0 : Int) + (i : Int)) = some (V.int ns[i]) := at_of (j := i) (by omega) (by simp [hi])
      refine ⟨_, rfl, _, rfl, a, _, _, _, rfl, rfl, seqS _, hat, .inl ⟨_, rfl, _, rfl, ?_⟩⟩
      generalize hc : (if ns[i] < 0 then -ns[i] else ns[i]) = cell
      have hc0 : 0 ≤ cell := by rw [← hc]; split <;> omega
      refine ⟨_, rfl, _, _, rfl, rfl, .inr ⟨by decide, by decide⟩, _, rfl, _, _, rfl, rfl, (by show (0 : Int) < 1000003; decide), _, _, rfl, rfl, _, rfl, _, _, rfl, rfl, .inl ⟨_, rfl, _, _, rfl, rfl, (by show (0 : Int) < 65537; decide), ?_⟩⟩
      refine ⟨_, rfl, _, _, rfl, rfl, ⟨by decide, by decide, by decide⟩, _, _, rfl, rfl, _, rfl, ?_⟩
      -- behind the first part: the inner loop
      have inner : ∀ (ms' : List Int) (rest mx' : Int) , InR ms' → ms'.length ≤ ms.length + 2 → tFor (iRng1 (tCons (tC (.int 60)) tNil)) (gName 7) (tIfS (tTest (tOp (rI0 fun i j => V.bl (decide (j < i))) (tVar 6) (tC (.int 0))))
          (tSeq (tDrop (tBM K "list" rAppend (tVar 2) (tCons (tOp (rI (fun _ j => 0 < j) fun i j => V.int (i % j)) (tCB (fun xs H Q => (∃ i, xs = [.int i] ∧ Q (.int i) H) ∨ ∃ k, xs = [.bl k] ∧ Q (.int (if k then 1 else 0)) H) (tCons (tVar 6) tNil)) (tC (.int 997))) tNil)))
            (tAsg (tOp (rI CDiv fun i j => V.int (i / j)) (tVar 6) (tC (.int 997))) (gName 6))) tNext)
          { nx := fun σ H' => ∃ (ms : List Int) (mx : Int) (v4 v5 v6 v7 : Option V), σ = [some (.ref a), some (.int m), some (.ref L), some (.int mx), v4, v5, v6, v7] ∧ H' = upd H L (.lst (ms.map V.int)) ∧ InR ms ∧ ms.length ≤ 62 * (i + 1), rt := Q,
            ct := fun σ H' => ∃ (ms : List Int) (mx : Int) (v4 v5 v6 v7 : Option V), σ = [some (.ref a), some (.int m), some (.ref L), some (.int mx), v4, v5, v6, v7] ∧ H' = upd H L (.lst (ms.map V.int)) ∧ InR ms ∧ ms.length ≤ 62 * (i + 1), bk := fun _ _ => False }
          [some (.ref a), some (.int m), some (.ref L), some (.int mx'), some (.int (0 + (i : Int))), some (.int cell), some (.int rest), v7] (upd H L (.lst (ms'.map V.int))) := by
        intro ms' rest mx' hR' hl'
        refine ⟨60, rfl, by decide, by decide, ?_⟩
        refine for_range (lo := 0) (n := 60) (fun j σ H' => ∃ (ms : List Int) (rest : Int) (v7 : Option V), σ = [some (.ref a), some (.int m), some (.ref L), some (.int mx'), some (.int (0 + (i : Int))), some (.int cell), some (.int rest), v7] ∧ H' = upd H L (.lst (ms.map V.int)) ∧ InR ms ∧ ms.length ≤ ms'.length + j)
          ⟨ms', rest, v7, rfl, rfl, hR', Nat.le_refl _⟩ ?_ ?_
        · rintro j σ H' hj ⟨m2, r2, v7, rfl, rfl, hR2, hl2⟩
          refine ⟨_, rfl, _, _, rfl, rfl, _, rfl, ?_⟩
          refine ite2 (fun _ => ?_) (fun _ => ?_)
          · refine ⟨_, rfl, .inl ⟨rfl, _, SqL.of upd_same⟩, _, rfl, .inl ⟨_, rfl, _, _, rfl, rfl, (by show (0 : Int) < 997; decide), L, _, _, rfl, rfl, upd_same, (by rw [List.length_map, sizeLine_eq]; omega), ?_⟩⟩
            rw [upd_upd, map_snoc]
            refine ⟨_, rfl, _, _, rfl, rfl, ⟨by decide, by decide⟩, ?_⟩
            exact ⟨_, _, _, rfl, rfl, hR2.snoc (Int.emod_nonneg _ (by decide)) (Int.emod_lt_of_pos _ (by decide)), by rw [List.length_append, List.length_singleton]; omega⟩
          · exact ⟨_, _, _, rfl, rfl, hR2, by omega⟩
        · rintro σ H' ⟨m2, r2, v7, rfl, rfl, hR2, hl2⟩
          exact ⟨_, _, _, _, _, _, rfl, rfl, hR2, by omega⟩
      refine ite2 (fun _ => ?_) (fun _ => ?_)
      · exact ⟨_, rfl, inner ms cell _ hR (by omega)⟩
      · refine ⟨_, rfl, .inl ⟨rfl, _, SqL.of upd_same⟩, _, rfl, .inl ⟨_, rfl, _, _, rfl, rfl, (by show (0 : Int) < 997; decide), L, _, _, rfl, rfl, upd_same, (by rw [List.length_map, sizeLine_eq]; omega), ?_⟩⟩
        rw [upd_upd, map_snoc]
        refine ⟨_, rfl, .inl ⟨rfl, _, SqL.of upd_same⟩, _, rfl, _, _, rfl, rfl, .inr ⟨by decide, by decide⟩, _, _, rfl, rfl, .inl ⟨_, rfl, _, _, rfl, rfl, (by show (0 : Int) < 65521; decide), _, _, rfl, rfl, (by show (0 : Int) < 997; decide), L, _, _, rfl, rfl, upd_same, (by rw [List.length_map, List.length_append, List.length_singleton, sizeLine_eq]; omega), ?_⟩⟩
        rw [upd_upd, map_snoc]
        refine inner _ 0 _ ((hR.snoc (Int.emod_nonneg _ (by decide)) (Int.emod_lt_of_pos _ (by decide))).snoc (Int.emod_nonneg _ (by decide)) (Int.emod_lt_of_pos _ (by decide))) (by simp)
    · rintro σ H' ⟨ms, mx, v4, v5, v6, v7, rfl, rfl, hR, hml⟩
      refine ⟨_, rfl, m, rfl, by omega, by omega, ?_⟩
      refine for_range (lo := 0) (n := m.toNat) (fun i σ H' => ∃ (ms : List Int) (mx : Int) (v4 : Option V), σ = [some (.ref a), some (.int m), some (.ref L), some (.int mx), v4, v5, v6, v7] ∧ H' = upd H L (.lst (ms.map V.int)) ∧ InR ms ∧ ms.length ≤ 62 * ns.length + i)
        ⟨ms, mx, v4, rfl, rfl, hR, hml⟩ ?_ ?_
      · rintro i σ H' hi ⟨ms, mx, v4, rfl, rfl, hR, hml⟩
        refine ⟨_, rfl, _, _, rfl, rfl, .inr ⟨by decide, by decide⟩, _, rfl, _, _, rfl, rfl, _, _, rfl, rfl, .inl ⟨_, rfl, _, _, rfl, rfl, (by show (0 : Int) < 65537; decide), ?_⟩⟩
        refine ⟨_, rfl, .inl ⟨rfl, _, SqL.of upd_same⟩, _, rfl, .inl ⟨_, rfl, _, _, rfl, rfl, (by show (0 : Int) < 997; decide), L, _, _, rfl, rfl, upd_same, (by rw [List.length_map, sizeLine_eq]; omega), ?_⟩⟩
        rw [upd_upd, map_snoc]
        exact ⟨_, _, _, rfl, rfl, hR.snoc (Int.emod_nonneg _ (by decide)) (Int.emod_lt_of_pos _ (by decide)), by rw [List.length_append, List.length_singleton]; omega⟩
      · rintro σ H' ⟨ms, mx, v4, rfl, rfl, hR, hml⟩
        refine ⟨_, rfl, _, rfl, _, rfl, L, _, rfl, SqL.of upd_same, fun p hp => ?_⟩
        have hpH : H p = none := (sm _).free hp
        have e2 : cutV (ms.map V.int) none (some m) = (ms.take m.toNat).map V.int := by
          unfold cutV
          have h1 : HT.sIx (ms.map V.int).length 0 none = 0 := rfl
          have h2 : HT.sIx (ms.map V.int).length (ms.map V.int).length (some m) = min m.toNat ms.length := by
            have := HT.sIx_nat (ms.map V.int).length (ms.map V.int).length m.toNat
            rw [Int.toNat_of_nonneg m0, List.length_map] at this
            rw [List.length_map]; exact this
          rw [h1, h2, List.drop_zero, Nat.sub_zero, List.map_take]
          by_cases hm : m.toNat ≤ ms.length
          · rw [Nat.min_eq_left hm]
          · rw [Nat.min_eq_right (by omega), List.take_of_length_le (by rw [List.length_map]; omega), List.take_of_length_le (by rw [List.length_map]; omega)]
        rw [e2]
        exact k p (ms.take m.toNat) _ (fun i hi => hR i (List.mem_of_mem_take hi)) ((sm _).trans (same_upd hp)) hpH upd_same
end
end K01
namespace K01
open PySem PySem.Spec PyProof.Rows L2 Fd
section
variable {P : Program} {w : World} {K : PySem.W.Frag} {mg : Str → Option Value} {base : Heap} {f : Addr} {fd : FuncData}
def spLaw (K : PySem.W.Frag) : Sp := fun vs H Q _ => ∃ (a : Addr) (ns : List Int), vs = [.ref a] ∧ SqL K H a (ns.map V.int) ∧ ns.length ≤ 63 ∧ ∀ H', Q (.bl true) H'
theorem drw_range {ms : List Int} (h : InR ms) (i : Nat) : 0 ≤ drw ms i ∧ drw ms i < 997 := by
  unfold drw
  cases e : ms[i]? with
  | none => exact ⟨Int.le_refl 0, by decide⟩
  | some x => exact h x (List.mem_of_getElem? e)
theorem ok_law (Fn : Fun K "law" "law" t_law f fd) (T : Txt mg) (C_law_draws : Cal P w K mg base "_law_draws" 1 P_law_draws (spDr K)) (C_law_holds : Cal P w K mg base "_law_holds" 7 P_law_holds (spW K F_law_holds))
    (hold : ∀ (s : Nat → Int) (n : Nat), (∀ i, 0 ≤ s i ∧ s i < 997) → ∃ n', F_law_holds s n [] = some (.bl true, n')) : FnOk P w K mg base CX0 (8) f fd P_law (spLaw K) := by
  have nd := sc_law.nd
  refine Fn.ok sc_law (fun vs H Q EX h => ?_) (fun cdv A outer s0 H vs Q EX hr h => ?_)
  · obtain ⟨a, ns, rfl, _⟩ := h; rfl
  · obtain ⟨a, ns, rfl, hS, hlen, k⟩ := h
    obtain ⟨f1, d1, F1, m1, k1, b1⟩ := C_law_draws.ex
    obtain ⟨f2, d2, F2, m2, k2, b2⟩ := C_law_holds.ex
    refine ⟨_, pss_cons (ps_set (i := 1) nd rfl (Or.inl rfl) (pe_disp (pps_cons pe_str (pe_call F1 (hr.mono (by decide)) rfl m1 k1 b1 .nil pass0 (pa_cons (pv 0) (pa_cons pe_int pa_nil))) (pps_cons pe_str pe_int pps_nil)) (by rfl) (by rfl) (fun z => by cases z) (by decide)))
      (pss_cons (ps_for PassesOwn.never rfl (pi_range1 rfl T.b_range (pa_cons pe_int pa_nil)) (pg_name (i := 2) nd rfl (Or.inl rfl))
        (pss_one (ps_if (pt_not (pt_val (pe_call F2 hr rfl m2 k2 b2 .nil pass0 (pa_cons (pv 1) pa_nil)))) (pss_one (ps_ret pe_bl)) pss_nil)))
      (pss_one (ps_ret pe_bl))), ?_⟩
    intro wa hwa
    have sm : Same H (upd H wa (.dK [])) := same_upd hwa
    refine ⟨_, rfl, a, ns, 200, rfl, by decide, by decide, sm.seq hS, hlen, fun l ms H1 hR s1 hl0 hl1 => ?_⟩
    have w1 : H1 wa = some (.dK []) := s1 _ _ upd_same
    refine ⟨w1, [(Sum.inr "draws", .ref l), (Sum.inr "at", .int 0)], rfl, by show 2 ≤ 15; decide, ?_⟩
    have em : mergeK [] ([(Sum.inr "draws", .ref l), (Sum.inr "at", .int 0)] : List (Key × V)) = [(Sum.inr kDraws, .ref l), (Sum.inr kAt, .int 0)] := by
      have h : ¬ (Sum.inr "draws" : Key) = Sum.inr ("at" : Str) := by decide +kernel
      show putK (putK ([] : List (Key × V)) (Sum.inr ("draws" : Str)) (.ref l)) (Sum.inr ("at" : Str)) (.int 0) = _
      have e1 : putK ([] : List (Key × V)) (Sum.inr ("draws" : Str)) (.ref l) = [(Sum.inr ("draws" : Str), .ref l)] := rfl
      rw [e1, putK_new _ (by rw [valV_neg h]; rfl)]
      rfl
    rw [em]
    have nlw : l ≠ wa := ne_of hl1 w1 (by intro z; cases z)
    refine ⟨4, rfl, by decide, by decide, ?_⟩
    refine for_range (lo := 0) (n := 4) (fun i σ H' => ∃ (n : Nat) (v2 : Option V), σ = [some (.ref a), some (.ref wa), v2] ∧ H' wa = some (wDict l n) ∧ H' l = some (.lst (ms.map V.int)))
      ⟨0, none, rfl, upd_same, by rw [upd_ne nlw]; exact hl1⟩ ?_ ?_
    · rintro i σ H' hi ⟨n, v2, rfl, hw, hl⟩
      obtain ⟨n', en⟩ := hold (drw ms) n (drw_range hR)
      refine ⟨_, rfl, fun b => if b = wa then none else H' b, wa, l, [], ms, n, [], .bl true, n', rfl, fun b o e => ?_, by simp, hw, by simp [nlw, hl], hR, .nil, en, fun v H2 G' a1 a2 a3 a4 a5 a6 rp => ?_⟩
      · by_cases hb : b = wa
        · simp [hb] at e
        · simpa [hb] using e
      · cases rp
        refine ⟨true, rfl, ?_⟩
        exact ⟨n', _, rfl, a4, a2 _ _ nlw hl⟩
    · rintro σ H' ⟨n, v2, rfl, hw, hl⟩
      exact k _
end
end K01

set_option Elab.async false
set_option linter.all false
set_option maxRecDepth 100000
namespace K01
open Fd
theorem common_go : ∀ (fuel : Nat) (a b : Int), 0 ≤ b → b < fuel → whF (tB' (eOp dNe (eVar 1) (eC (.int 0)))) (sFg [] (sPar [0, 1] (lE (eVar 1) (lE (eOp dMod (eVar 0) (eVar 1)) lNil)))) fuel [some (.v (.int a)), some (.v (.int b))] = some (.nx, [some (.v (.int (if b = 0 then a else (Int.gcd a b : Int)))), some (.v (.int 0))])
  | 0, a, b, h, h2 => by omega
  | n + 1, a, b, h, h2 => by
    by_cases hb : b = 0
    · subst hb
      simp (disch := first | assumption | omega) only [whF, dNe, lev, LV, deq, runF, runW, atW, eVar, eC, eOp, eUn, tB', eChain, tAnd', tOr', tNot', eAnd, eOr, dNot, eIf, aNil, aCons, eTup, fLst, Ct.d, Ct.sl, eF, fDict0, eCB, eCall, eCallW, gName', gNil', gCons', gTup', sNil, sSeq, Fd.dropE, sFg, sSet, sOwn, sRet, sDrop, sIf, sAug, vAdd, vAddI, vSub, vMulL, vMulR, vFdiv, vMod, vPow, vShl, vShr, vLt, vLe, vGt, vGe, vNeg, vEqI, vNeI, vEqN, bT, bF, dT, dF, vIxT, vIxL, vAt0, vAt1, vAt2, vAt3, isNon, dIsN, dNotN, dIsB, dNotB, lE, lF, lNil, sPar, setAll, Fd.rd, Fd.fr, Fd.rds, Fd.frs, slD, cLen, cAbs, cInt, cMax2, cMin2, cTuple, cList, dIsi, isTy, isL, isM, ↓bindM, Option.map_some, List.getElem?_cons_zero, List.getElem?_cons_succ, List.set_cons_zero, List.set_cons_succ, List.length_cons, List.length_nil, List.map_cons, List.map_nil, List.cons_append, List.nil_append, List.replicate_succ, List.replicate_zero, Nat.reduceAdd, Nat.reduceSub, Nat.reduceLeDiff, ite_true, ite_false, if_true, if_false, if_pos, if_neg, Int.toNat_zero, reduceIte, Bool.not_true, Bool.not_false, Int.reduceNeg, Int.reduceLE, Int.reduceLT, Int.reduceToNat, Nat.reduceEqDiff, Bool.false_eq_true, decide_true, decide_false, and_self, and_true, true_and, Nat.zero_add, BEq.rfl, reduceCtorEq, Bool.and_self]
    · have hb0 : 0 < b := by omega
      have hbb : (b == 0) = false := by rw [beq_eq_false_iff_ne]; exact hb
      have m0 := Int.emod_nonneg a hb
      have m1 := Int.emod_lt_of_pos a hb0
      have ih := common_go n b (a % b) m0 (by omega)
      rw [whF]
      simp (disch := first | assumption | omega) only [hbb, hb0, runF, runW, atW, eVar, eC, eOp, eUn, tB', eChain, tAnd', tOr', tNot', eAnd, eOr, dNot, eIf, aNil, aCons, eTup, fLst, Ct.d, Ct.sl, eF, fDict0, eCB, eCall, eCallW, gName', gNil', gCons', gTup', sNil, sSeq, Fd.dropE, sFg, sSet, sOwn, sRet, sDrop, sIf, sAug, vAdd, vAddI, vSub, vMulL, vMulR, vFdiv, vMod, vPow, vShl, vShr, vLt, vLe, vGt, vGe, vNeg, vEqI, vNeI, vEqN, bT, bF, dT, dF, vIxT, vIxL, vAt0, vAt1, vAt2, vAt3, isNon, dIsN, dNotN, dIsB, dNotB, lE, lF, lNil, sPar, setAll, Fd.rd, Fd.fr, Fd.rds, Fd.frs, slD, cLen, cAbs, cInt, cMax2, cMin2, cTuple, cList, dIsi, isTy, isL, isM, ↓bindM, Option.map_some, List.getElem?_cons_zero, List.getElem?_cons_succ, List.set_cons_zero, List.set_cons_succ, List.length_cons, List.length_nil, List.map_cons, List.map_nil, List.cons_append, List.nil_append, List.replicate_succ, List.replicate_zero, Nat.reduceAdd, Nat.reduceSub, Nat.reduceLeDiff, ite_true, ite_false, if_true, if_false, if_pos, if_neg, Int.toNat_zero, reduceIte, Bool.not_true, Bool.not_false, Int.reduceNeg, Int.reduceLE, Int.reduceLT, Int.reduceToNat, Nat.reduceEqDiff, Bool.false_eq_true, decide_true, decide_false, and_self, and_true, true_and, Nat.zero_add, BEq.rfl, reduceCtorEq, Bool.and_self]
      rw [ih]
      congr 4
      by_cases hz : a % b = 0
      · simp (disch := first | assumption | omega) only [hz, hb, runF, runW, atW, eVar, eC, eOp, eUn, tB', eChain, tAnd', tOr', tNot', eAnd, eOr, dNot, eIf, aNil, aCons, eTup, fLst, Ct.d, Ct.sl, eF, fDict0, eCB, eCall, eCallW, gName', gNil', gCons', gTup', sNil, sSeq, Fd.dropE, sFg, sSet, sOwn, sRet, sDrop, sIf, sAug, vAdd, vAddI, vSub, vMulL, vMulR, vFdiv, vMod, vPow, vShl, vShr, vLt, vLe, vGt, vGe, vNeg, vEqI, vNeI, vEqN, bT, bF, dT, dF, vIxT, vIxL, vAt0, vAt1, vAt2, vAt3, isNon, dIsN, dNotN, dIsB, dNotB, lE, lF, lNil, sPar, setAll, Fd.rd, Fd.fr, Fd.rds, Fd.frs, slD, cLen, cAbs, cInt, cMax2, cMin2, cTuple, cList, dIsi, isTy, isL, isM, ↓bindM, Option.map_some, List.getElem?_cons_zero, List.getElem?_cons_succ, List.set_cons_zero, List.set_cons_succ, List.length_cons, List.length_nil, List.map_cons, List.map_nil, List.cons_append, List.nil_append, List.replicate_succ, List.replicate_zero, Nat.reduceAdd, Nat.reduceSub, Nat.reduceLeDiff, ite_true, ite_false, if_true, if_false, if_pos, if_neg, Int.toNat_zero, reduceIte, Bool.not_true, Bool.not_false, Int.reduceNeg, Int.reduceLE, Int.reduceLT, Int.reduceToNat, Nat.reduceEqDiff, Bool.false_eq_true, decide_true, decide_false, and_self, and_true, true_and, Nat.zero_add, BEq.rfl, reduceCtorEq, Bool.and_self]
        have : Int.gcd a b = b.natAbs := by
          rw [Int.gcd_comm]; exact Int.gcd_eq_natAbs_left (Int.dvd_of_emod_eq_zero hz)
        rw [this]; congr 3; omega
      · simp (disch := first | assumption | omega) only [hz, hb, runF, runW, atW, eVar, eC, eOp, eUn, tB', eChain, tAnd', tOr', tNot', eAnd, eOr, dNot, eIf, aNil, aCons, eTup, fLst, Ct.d, Ct.sl, eF, fDict0, eCB, eCall, eCallW, gName', gNil', gCons', gTup', sNil, sSeq, Fd.dropE, sFg, sSet, sOwn, sRet, sDrop, sIf, sAug, vAdd, vAddI, vSub, vMulL, vMulR, vFdiv, vMod, vPow, vShl, vShr, vLt, vLe, vGt, vGe, vNeg, vEqI, vNeI, vEqN, bT, bF, dT, dF, vIxT, vIxL, vAt0, vAt1, vAt2, vAt3, isNon, dIsN, dNotN, dIsB, dNotB, lE, lF, lNil, sPar, setAll, Fd.rd, Fd.fr, Fd.rds, Fd.frs, slD, cLen, cAbs, cInt, cMax2, cMin2, cTuple, cList, dIsi, isTy, isL, isM, ↓bindM, Option.map_some, List.getElem?_cons_zero, List.getElem?_cons_succ, List.set_cons_zero, List.set_cons_succ, List.length_cons, List.length_nil, List.map_cons, List.map_nil, List.cons_append, List.nil_append, List.replicate_succ, List.replicate_zero, Nat.reduceAdd, Nat.reduceSub, Nat.reduceLeDiff, ite_true, ite_false, if_true, if_false, if_pos, if_neg, Int.toNat_zero, reduceIte, Bool.not_true, Bool.not_false, Int.reduceNeg, Int.reduceLE, Int.reduceLT, Int.reduceToNat, Nat.reduceEqDiff, Bool.false_eq_true, decide_true, decide_false, and_self, and_true, true_and, Nat.zero_add, BEq.rfl, reduceCtorEq, Bool.and_self]
        congr 3
        rw [Int.gcd_comm a b, Int.emod_def, Int.gcd_sub_mul_left_right]
theorem common_pos {a b : Int} (h : 0 < b) (h2 : b < 1000000) : F_common [.int a, .int b] = some (.int (Int.gcd a b : Int)) := by
  have e := common_go FUEL a b (by omega) (by show b < 1000000; exact h2)
  have hb : b ≠ 0 := by omega
  have g0 : (0 : Int) ≤ (Int.gcd a b : Int) := by omega
  rw [if_neg hb] at e
  simp (disch := first | assumption | omega) only [F_common, s_common, e, runF, runW, atW, eVar, eC, eOp, eUn, tB', eChain, tAnd', tOr', tNot', eAnd, eOr, dNot, eIf, aNil, aCons, eTup, fLst, Ct.d, Ct.sl, eF, fDict0, eCB, eCall, eCallW, gName', gNil', gCons', gTup', sNil, sSeq, Fd.dropE, sFg, sSet, sOwn, sRet, sDrop, sIf, sAug, vAdd, vAddI, vSub, vMulL, vMulR, vFdiv, vMod, vPow, vShl, vShr, vLt, vLe, vGt, vGe, vNeg, vEqI, vNeI, vEqN, bT, bF, dT, dF, vIxT, vIxL, vAt0, vAt1, vAt2, vAt3, isNon, dIsN, dNotN, dIsB, dNotB, lE, lF, lNil, sPar, setAll, Fd.rd, Fd.fr, Fd.rds, Fd.frs, slD, cLen, cAbs, cInt, cMax2, cMin2, cTuple, cList, dIsi, isTy, isL, isM, ↓bindM, Option.map_some, List.getElem?_cons_zero, List.getElem?_cons_succ, List.set_cons_zero, List.set_cons_succ, List.length_cons, List.length_nil, List.map_cons, List.map_nil, List.cons_append, List.nil_append, List.replicate_succ, List.replicate_zero, Nat.reduceAdd, Nat.reduceSub, Nat.reduceLeDiff, ite_true, ite_false, if_true, if_false, if_pos, if_neg, Int.toNat_zero, reduceIte, Bool.not_true, Bool.not_false, Int.reduceNeg, Int.reduceLE, Int.reduceLT, Int.reduceToNat, Nat.reduceEqDiff, Bool.false_eq_true, decide_true, decide_false, and_self, and_true, true_and, Nat.zero_add, BEq.rfl, reduceCtorEq, Bool.and_self]
theorem gcd_lt {a b : Int} (h : 0 < b) (h2 : b < 1000000) : (0 : Int) < (Int.gcd a b : Int) ∧ (Int.gcd a b : Int) ≤ b := by
  have d2 := Int.gcd_dvd_right a b
  have g2 := Int.le_of_dvd h d2
  have := Int.gcd_pos_of_ne_zero_right a (show b ≠ 0 by omega)
  omega
theorem frac_eq {a b : Int} (h : 0 < b) (h2 : b < 1000000) : F_fraction [.int a, .int b] = some (.tup [.int (a / Int.gcd a b), .int (b / Int.gcd a b)]) := by
  obtain ⟨g1, g2⟩ := gcd_lt (a := a) h h2
  simp (disch := first | assumption | omega) only [F_fraction, s_fraction, common_pos h h2, runF, runW, atW, eVar, eC, eOp, eUn, tB', eChain, tAnd', tOr', tNot', eAnd, eOr, dNot, eIf, aNil, aCons, eTup, fLst, Ct.d, Ct.sl, eF, fDict0, eCB, eCall, eCallW, gName', gNil', gCons', gTup', sNil, sSeq, Fd.dropE, sFg, sSet, sOwn, sRet, sDrop, sIf, sAug, vAdd, vAddI, vSub, vMulL, vMulR, vFdiv, vMod, vPow, vShl, vShr, vLt, vLe, vGt, vGe, vNeg, vEqI, vNeI, vEqN, bT, bF, dT, dF, vIxT, vIxL, vAt0, vAt1, vAt2, vAt3, isNon, dIsN, dNotN, dIsB, dNotB, lE, lF, lNil, sPar, setAll, Fd.rd, Fd.fr, Fd.rds, Fd.frs, slD, cLen, cAbs, cInt, cMax2, cMin2, cTuple, cList, dIsi, isTy, isL, isM, ↓bindM, Option.map_some, List.getElem?_cons_zero, List.getElem?_cons_succ, List.set_cons_zero, List.set_cons_succ, List.length_cons, List.length_nil, List.map_cons, List.map_nil, List.cons_append, List.nil_append, List.replicate_succ, List.replicate_zero, Nat.reduceAdd, Nat.reduceSub, Nat.reduceLeDiff, ite_true, ite_false, if_true, if_false, if_pos, if_neg, Int.toNat_zero, reduceIte, Bool.not_true, Bool.not_false, Int.reduceNeg, Int.reduceLE, Int.reduceLT, Int.reduceToNat, Nat.reduceEqDiff, Bool.false_eq_true, decide_true, decide_false, and_self, and_true, true_and, Nat.zero_add, BEq.rfl, reduceCtorEq, Bool.and_self]
theorem least_go : ∀ (fuel : Nat) (a b u v : Int), 0 ≤ b → b < fuel → whF (tB' (eOp dGt (eVar 3) (eC (.int 0)))) (sFg [] (sPar [2, 3] (lE (eVar 3) (lE (eOp dMod (eVar 2) (eVar 3)) lNil)))) fuel [some (.v (.int u)), some (.v (.int v)), some (.v (.int a)), some (.v (.int b))] = some (.nx, [some (.v (.int u)), some (.v (.int v)), some (.v (.int (if b = 0 then a else (Int.gcd a b : Int)))), some (.v (.int 0))])
  | 0, a, b, u, v, h, h2 => by omega
  | n + 1, a, b, u, v, h, h2 => by
    by_cases hb : b = 0
    · subst hb
      simp (disch := first | assumption | omega) only [whF, runF, runW, atW, eVar, eC, eOp, eUn, tB', eChain, tAnd', tOr', tNot', eAnd, eOr, dNot, eIf, aNil, aCons, eTup, fLst, Ct.d, Ct.sl, eF, fDict0, eCB, eCall, eCallW, gName', gNil', gCons', gTup', sNil, sSeq, Fd.dropE, sFg, sSet, sOwn, sRet, sDrop, sIf, sAug, vAdd, vAddI, vSub, vMulL, vMulR, vFdiv, vMod, vPow, vShl, vShr, vLt, vLe, vGt, vGe, vNeg, vEqI, vNeI, vEqN, bT, bF, dT, dF, vIxT, vIxL, vAt0, vAt1, vAt2, vAt3, isNon, dIsN, dNotN, dIsB, dNotB, lE, lF, lNil, sPar, setAll, Fd.rd, Fd.fr, Fd.rds, Fd.frs, slD, cLen, cAbs, cInt, cMax2, cMin2, cTuple, cList, dIsi, isTy, isL, isM, ↓bindM, Option.map_some, List.getElem?_cons_zero, List.getElem?_cons_succ, List.set_cons_zero, List.set_cons_succ, List.length_cons, List.length_nil, List.map_cons, List.map_nil, List.cons_append, List.nil_append, List.replicate_succ, List.replicate_zero, Nat.reduceAdd, Nat.reduceSub, Nat.reduceLeDiff, ite_true, ite_false, if_true, if_false, if_pos, if_neg, Int.toNat_zero, reduceIte, Bool.not_true, Bool.not_false, Int.reduceNeg, Int.reduceLE, Int.reduceLT, Int.reduceToNat, Nat.reduceEqDiff, Bool.false_eq_true, decide_true, decide_false, and_self, and_true, true_and, Nat.zero_add, BEq.rfl, reduceCtorEq, Bool.and_self]
    · have hb0 : 0 < b := by omega
      have m0 := Int.emod_nonneg a hb
      have m1 := Int.emod_lt_of_pos a hb0
      have ih := least_go n b (a % b) u v m0 (by omega)
      rw [whF]
      simp (disch := first | assumption | omega) only [hb0, runF, runW, atW, eVar, eC, eOp, eUn, tB', eChain, tAnd', tOr', tNot', eAnd, eOr, dNot, eIf, aNil, aCons, eTup, fLst, Ct.d, Ct.sl, eF, fDict0, eCB, eCall, eCallW, gName', gNil', gCons', gTup', sNil, sSeq, Fd.dropE, sFg, sSet, sOwn, sRet, sDrop, sIf, sAug, vAdd, vAddI, vSub, vMulL, vMulR, vFdiv, vMod, vPow, vShl, vShr, vLt, vLe, vGt, vGe, vNeg, vEqI, vNeI, vEqN, bT, bF, dT, dF, vIxT, vIxL, vAt0, vAt1, vAt2, vAt3, isNon, dIsN, dNotN, dIsB, dNotB, lE, lF, lNil, sPar, setAll, Fd.rd, Fd.fr, Fd.rds, Fd.frs, slD, cLen, cAbs, cInt, cMax2, cMin2, cTuple, cList, dIsi, isTy, isL, isM, ↓bindM, Option.map_some, List.getElem?_cons_zero, List.getElem?_cons_succ, List.set_cons_zero, List.set_cons_succ, List.length_cons, List.length_nil, List.map_cons, List.map_nil, List.cons_append, List.nil_append, List.replicate_succ, List.replicate_zero, Nat.reduceAdd, Nat.reduceSub, Nat.reduceLeDiff, ite_true, ite_false, if_true, if_false, if_pos, if_neg, Int.toNat_zero, reduceIte, Bool.not_true, Bool.not_false, Int.reduceNeg, Int.reduceLE, Int.reduceLT, Int.reduceToNat, Nat.reduceEqDiff, Bool.false_eq_true, decide_true, decide_false, and_self, and_true, true_and, Nat.zero_add, BEq.rfl, reduceCtorEq, Bool.and_self]
      rw [ih]
      congr 6
      by_cases hz : a % b = 0
      · simp (disch := first | assumption | omega) only [hz, hb, runF, runW, atW, eVar, eC, eOp, eUn, tB', eChain, tAnd', tOr', tNot', eAnd, eOr, dNot, eIf, aNil, aCons, eTup, fLst, Ct.d, Ct.sl, eF, fDict0, eCB, eCall, eCallW, gName', gNil', gCons', gTup', sNil, sSeq, Fd.dropE, sFg, sSet, sOwn, sRet, sDrop, sIf, sAug, vAdd, vAddI, vSub, vMulL, vMulR, vFdiv, vMod, vPow, vShl, vShr, vLt, vLe, vGt, vGe, vNeg, vEqI, vNeI, vEqN, bT, bF, dT, dF, vIxT, vIxL, vAt0, vAt1, vAt2, vAt3, isNon, dIsN, dNotN, dIsB, dNotB, lE, lF, lNil, sPar, setAll, Fd.rd, Fd.fr, Fd.rds, Fd.frs, slD, cLen, cAbs, cInt, cMax2, cMin2, cTuple, cList, dIsi, isTy, isL, isM, ↓bindM, Option.map_some, List.getElem?_cons_zero, List.getElem?_cons_succ, List.set_cons_zero, List.set_cons_succ, List.length_cons, List.length_nil, List.map_cons, List.map_nil, List.cons_append, List.nil_append, List.replicate_succ, List.replicate_zero, Nat.reduceAdd, Nat.reduceSub, Nat.reduceLeDiff, ite_true, ite_false, if_true, if_false, if_pos, if_neg, Int.toNat_zero, reduceIte, Bool.not_true, Bool.not_false, Int.reduceNeg, Int.reduceLE, Int.reduceLT, Int.reduceToNat, Nat.reduceEqDiff, Bool.false_eq_true, decide_true, decide_false, and_self, and_true, true_and, Nat.zero_add, BEq.rfl, reduceCtorEq, Bool.and_self]
        have : Int.gcd a b = b.natAbs := by
          rw [Int.gcd_comm]; exact Int.gcd_eq_natAbs_left (Int.dvd_of_emod_eq_zero hz)
        rw [this]; congr 3; omega
      · simp (disch := first | assumption | omega) only [hz, hb, runF, runW, atW, eVar, eC, eOp, eUn, tB', eChain, tAnd', tOr', tNot', eAnd, eOr, dNot, eIf, aNil, aCons, eTup, fLst, Ct.d, Ct.sl, eF, fDict0, eCB, eCall, eCallW, gName', gNil', gCons', gTup', sNil, sSeq, Fd.dropE, sFg, sSet, sOwn, sRet, sDrop, sIf, sAug, vAdd, vAddI, vSub, vMulL, vMulR, vFdiv, vMod, vPow, vShl, vShr, vLt, vLe, vGt, vGe, vNeg, vEqI, vNeI, vEqN, bT, bF, dT, dF, vIxT, vIxL, vAt0, vAt1, vAt2, vAt3, isNon, dIsN, dNotN, dIsB, dNotB, lE, lF, lNil, sPar, setAll, Fd.rd, Fd.fr, Fd.rds, Fd.frs, slD, cLen, cAbs, cInt, cMax2, cMin2, cTuple, cList, dIsi, isTy, isL, isM, ↓bindM, Option.map_some, List.getElem?_cons_zero, List.getElem?_cons_succ, List.set_cons_zero, List.set_cons_succ, List.length_cons, List.length_nil, List.map_cons, List.map_nil, List.cons_append, List.nil_append, List.replicate_succ, List.replicate_zero, Nat.reduceAdd, Nat.reduceSub, Nat.reduceLeDiff, ite_true, ite_false, if_true, if_false, if_pos, if_neg, Int.toNat_zero, reduceIte, Bool.not_true, Bool.not_false, Int.reduceNeg, Int.reduceLE, Int.reduceLT, Int.reduceToNat, Nat.reduceEqDiff, Bool.false_eq_true, decide_true, decide_false, and_self, and_true, true_and, Nat.zero_add, BEq.rfl, reduceCtorEq, Bool.and_self]
        congr 3
        rw [Int.gcd_comm a b, Int.emod_def, Int.gcd_sub_mul_left_right]
theorem least_eq {a b : Int} (ha : 0 ≤ a) (h : 0 < b) (h2 : b < 1000000) : F_law_least [.int a, .int b] = some (.tup [.int (a / Int.gcd a b), .int (b / Int.gcd a b)]) := by
  obtain ⟨g1, g2⟩ := gcd_lt (a := a) h h2
  have e := least_go FUEL a b a b (by omega) (by show b < 1000000; exact h2)
  rw [if_neg (show ¬ b = 0 by omega)] at e
  simp (disch := first | assumption | omega) only [F_law_least, s_law_least, e, runF, runW, atW, eVar, eC, eOp, eUn, tB', eChain, tAnd', tOr', tNot', eAnd, eOr, dNot, eIf, aNil, aCons, eTup, fLst, Ct.d, Ct.sl, eF, fDict0, eCB, eCall, eCallW, gName', gNil', gCons', gTup', sNil, sSeq, Fd.dropE, sFg, sSet, sOwn, sRet, sDrop, sIf, sAug, vAdd, vAddI, vSub, vMulL, vMulR, vFdiv, vMod, vPow, vShl, vShr, vLt, vLe, vGt, vGe, vNeg, vEqI, vNeI, vEqN, bT, bF, dT, dF, vIxT, vIxL, vAt0, vAt1, vAt2, vAt3, isNon, dIsN, dNotN, dIsB, dNotB, lE, lF, lNil, sPar, setAll, Fd.rd, Fd.fr, Fd.rds, Fd.frs, slD, cLen, cAbs, cInt, cMax2, cMin2, cTuple, cList, dIsi, isTy, isL, isM, ↓bindM, Option.map_some, List.getElem?_cons_zero, List.getElem?_cons_succ, List.set_cons_zero, List.set_cons_succ, List.length_cons, List.length_nil, List.map_cons, List.map_nil, List.cons_append, List.nil_append, List.replicate_succ, List.replicate_zero, Nat.reduceAdd, Nat.reduceSub, Nat.reduceLeDiff, ite_true, ite_false, if_true, if_false, if_pos, if_neg, Int.toNat_zero, reduceIte, Bool.not_true, Bool.not_false, Int.reduceNeg, Int.reduceLE, Int.reduceLT, Int.reduceToNat, Nat.reduceEqDiff, Bool.false_eq_true, decide_true, decide_false, and_self, and_true, true_and, Nat.zero_add, BEq.rfl, reduceCtorEq, Bool.and_self]
/-- what a fraction in lowest terms is -/
theorem low {a b : Int} (h : 0 < b) (h2 : b < 1000000) : ∃ p q : Int, a / Int.gcd a b = p ∧ b / Int.gcd a b = q ∧ 0 < q ∧ q ≤ b ∧ p * b = a * q ∧ Int.gcd p q = 1 ∧ (0 ≤ a → 0 ≤ p ∧ p ≤ a) ∧ (0 < a → 0 < p) := by
  obtain ⟨g1, g2⟩ := gcd_lt (a := a) h h2
  have d1 := Int.gcd_dvd_left a b
  have d2 := Int.gcd_dvd_right a b
  refine ⟨_, _, rfl, rfl, Int.ediv_pos_of_pos_of_dvd h (by omega) d2, Int.ediv_le_self _ (by omega), ?_, Int.gcd_ediv_gcd_ediv_gcd (by omega), fun ha => ⟨Int.ediv_nonneg ha (by omega), Int.ediv_le_self _ ha⟩, fun ha => Int.ediv_pos_of_pos_of_dvd ha (by omega) d1⟩
  obtain ⟨x, hx⟩ := d1
  obtain ⟨y, hy⟩ := d2
  generalize (Int.gcd a b : Int) = g at *
  rw [hx, hy, Int.mul_ediv_cancel_left _ (by omega), Int.mul_ediv_cancel_left _ (by omega)]
  grind
theorem div_eq {x y a b : Int} (hy : 0 < y) (hb : 0 < b) (h : x * b = a * y) : x / y = a / b := by
  have h1 : (x * b) / (y * b) = x / y := Int.mul_ediv_mul_of_pos_left x y hb
  have h2 : (a * y) / (b * y) = a / b := Int.mul_ediv_mul_of_pos_left a b hy
  rw [← h1, ← h2, h, Int.mul_comm y b]
/-! the counts of an even row -/
def cl (A x : Int) : Nat := ((x + A - 1) / A).toNat
theorem cl_iff {A x : Int} (hA : 0 < A) (hx : 0 ≤ x) (k : Nat) : cl A x ≤ k ↔ x ≤ (k : Int) * A := by
  unfold cl
  have h0 : 0 ≤ (x + A - 1) / A := Int.ediv_nonneg (by omega) (by omega)
  have h1 : (x + A - 1) / A < (k : Int) + 1 ↔ x + A - 1 < ((k : Int) + 1) * A := Int.ediv_lt_iff_lt_mul hA
  rw [Int.add_mul, Int.one_mul] at h1
  omega
theorem cl_step {A B x : Int} (hA : 0 < A) (hB : 0 < B) (hx : 0 ≤ x) : ((cl A (x + B) : Nat) : Int) - (cl A x : Nat) = B / A ∨ ((cl A (x + B) : Nat) : Int) - (cl A x : Nat) = B / A + 1 := by
  unfold cl
  have h0 : 0 ≤ (x + A - 1) / A := Int.ediv_nonneg (by omega) (by omega)
  have h0' : 0 ≤ (x + B + A - 1) / A := Int.ediv_nonneg (by omega) (by omega)
  rw [Int.toNat_of_nonneg h0, Int.toNat_of_nonneg h0']
  have e1 := Int.mul_ediv_add_emod (x + A - 1) A
  have e2 := Int.mul_ediv_add_emod B A
  have a1 := Int.emod_nonneg (x + A - 1) (show A ≠ 0 by omega)
  have a2 := Int.emod_lt_of_pos (x + A - 1) hA
  have b1 := Int.emod_nonneg B (show A ≠ 0 by omega)
  have b2 := Int.emod_lt_of_pos B hA
  have e3 : x + B + A - 1 = (x + A - 1) % A + B % A + A * ((x + A - 1) / A + B / A) := by
    rw [Int.mul_add]; omega
  rw [e3, Int.add_mul_ediv_left _ _ (by omega)]
  by_cases h : (x + A - 1) % A + B % A < A
  · rw [Int.ediv_eq_zero_of_lt (by omega) h]; omega
  · have : ((x + A - 1) % A + B % A) / A = 1 := by
      have e4 : (x + A - 1) % A + B % A = ((x + A - 1) % A + B % A - A) + A * 1 := by omega
      rw [e4, Int.add_mul_ediv_left _ _ (by omega), Int.ediv_eq_zero_of_lt (by omega) (by omega)]; rfl
    rw [this]; omega
theorem countP_range (a b : Nat) (h : a ≤ b) : ∀ n, (List.range n).countP (fun k => decide (a ≤ k ∧ k < b)) = min n b - min n a
  | 0 => by simp
  | n + 1 => by
    rw [List.range_succ, List.countP_append, countP_range a b h n, List.countP_singleton]
    by_cases h1 : a ≤ n ∧ n < b
    · simp only [h1, and_self, decide_true, if_true]; omega
    · simp only [h1, decide_false, if_false, Bool.false_eq_true]; omega
def lin (A B : Int) (n : Nat) : List Int := (List.range n).map fun k : Nat => (k : Int) * A / B
theorem lin_count {A B : Int} {n v : Nat} (hA : 0 < A) (hB : 0 < B) (hn : 0 < n) (hv : (v : Int) < ((n - 1 : Nat) : Int) * A / B) : B / A ≤ ((lin A B n).count (v : Int) : Nat) ∧ ((lin A B n).count (v : Int) : Nat) ≤ B / A + 1 := by
  have hvB : 0 ≤ (v : Int) * B := Int.mul_nonneg (by omega) (by omega)
  have hvB' : 0 ≤ (v : Int) * B + B := by omega
  have k1 : ∀ k : Nat, ((k : Int) * A / B = v ↔ cl A ((v : Int) * B) ≤ k ∧ k < cl A ((v : Int) * B + B)) := fun k => by
    have i1 : (v : Int) ≤ (k : Int) * A / B ↔ (v : Int) * B ≤ (k : Int) * A := Int.le_ediv_iff_mul_le hB
    have i2 : (k : Int) * A / B < (v : Int) + 1 ↔ (k : Int) * A < ((v : Int) + 1) * B := Int.ediv_lt_iff_lt_mul hB
    rw [Int.add_mul, Int.one_mul] at i2
    have i3 := cl_iff hA hvB k
    have i4 := cl_iff hA hvB' k
    omega
  have e : (lin A B n).count (v : Int) = (List.range n).countP fun k => decide (cl A ((v : Int) * B) ≤ k ∧ k < cl A ((v : Int) * B + B)) := by
    unfold lin
    rw [List.count_eq_countP, List.countP_map]
    refine List.countP_congr fun k _ => ?_
    simp only [Function.comp, beq_iff_eq, decide_eq_true_eq]
    exact k1 k
  have st := cl_step hA hB hvB
  have mono : cl A ((v : Int) * B) ≤ cl A ((v : Int) * B + B) := by
    have := Int.ediv_nonneg (Int.le_of_lt hB) (Int.le_of_lt hA)
    omega
  have lastle : cl A ((v : Int) * B + B) ≤ n - 1 := by
    rw [cl_iff hA hvB']
    have : (v : Int) + 1 ≤ ((n - 1 : Nat) : Int) * A / B := by omega
    have := (Int.le_ediv_iff_mul_le hB).mp this
    rw [Int.add_mul, Int.one_mul] at this
    exact this
  rw [e, countP_range _ _ mono]
  omega
def cnts (A B : Int) (n : Nat) : List Int := (List.range (((n - 1 : Nat) : Int) * A / B + 1).toNat).map fun v : Nat => ((lin A B n).count (v : Int) : Int)
theorem deq_nil (ds : List D) : dEq (.tup ds) (.tup []) = if (ds.all (lev 59)) = true then some (.bl ds.isEmpty) else none := by
  unfold dEq
  have : lev LV (.tup []) = true := by rfl
  rw [this, Bool.and_true]
  have h2 : lev LV (.tup ds) = ds.all (lev 59) := rfl
  rw [h2]
  cases ds <;> simp [deq, deqL]
theorem lev_ints (n : Nat) (cs : List Int) : (cs.map D.int).all (lev n) = true := by
  rw [List.all_eq_true]
  intro d hd
  obtain ⟨i, _, rfl⟩ := List.mem_map.mp hd
  cases n <;> rfl
theorem alike_ints (cs : List Int) : allAlike (cs.map D.int) = true := by
  unfold allAlike
  rw [lev_ints, Bool.true_and, List.all_eq_true]
  intro d hd
  obtain ⟨i, _, rfl⟩ := List.mem_map.mp hd
  simp only [Bool.true_and, List.all_eq_true]
  intro d hd
  obtain ⟨j, _, rfl⟩ := List.mem_map.mp hd
  exact alikeD_int i j
theorem max_ints {cs : List Int} (h : cs ≠ []) : ∃ m ∈ cs, cMax [.tup (cs.map .int)] = some (.int m) := by
  cases cs with
  | nil => exact absurd rfl h
  | cons c cs =>
    have a := alike_ints (c :: cs)
    have m := maxF_mem (.int c) (cs.map .int)
    rw [← List.map_cons] at m
    obtain ⟨i, hi, e⟩ := List.mem_map.mp m
    refine ⟨i, hi, ?_⟩
    rw [List.map_cons] at a ⊢
    unfold cMax
    simp only [a, if_true]
    rw [e]
theorem min_ints {cs : List Int} (h : cs ≠ []) : ∃ m ∈ cs, cMin [.tup (cs.map .int)] = some (.int m) := by
  cases cs with
  | nil => exact absurd rfl h
  | cons c cs =>
    have a := alike_ints (c :: cs)
    have m := minF_mem (.int c) (cs.map .int)
    rw [← List.map_cons] at m
    obtain ⟨i, hi, e⟩ := List.mem_map.mp m
    refine ⟨i, hi, ?_⟩
    rw [List.map_cons] at a ⊢
    unfold cMin
    simp only [a, if_true]
    rw [e]
theorem cut_init (ds : List D) : cutD ds none (some (-1)) = ds.take (ds.length - 1) := by
  unfold cutD
  have h1 : HT.sIx ds.length 0 none = 0 := rfl
  have h2 : HT.sIx ds.length ds.length (some (-1)) = ds.length - 1 := by
    show HT.sIx _ _ (some (-(1 : Int))) = _
    unfold HT.sIx
    simp
    omega
  rw [h1, h2]; simp
theorem even {cs : List Int} (n0 : Int) (h : ∀ c ∈ cs.take (cs.length - 1), n0 ≤ c ∧ c ≤ n0 + 1) : F_is_even [.tup (cs.map .int)] = some (.bl true) := by
  have e1 : (cs.map D.int).take ((cs.map D.int).length - 1) = (cs.take (cs.length - 1)).map .int := by rw [List.length_map, List.map_take]
  by_cases hn : cs.take (cs.length - 1) = []
  · simp (disch := first | assumption | omega) only [F_is_even, s_is_even, eSl, pSome, pNone, cut_init, eOr, vNeg, deq_nil, runF, runW, atW, eVar, eC, eOp, eUn, tB', eChain, tAnd', tOr', tNot', eAnd, eOr, dNot, eIf, aNil, aCons, eTup, fLst, Ct.d, Ct.sl, eF, fDict0, eCB, eCall, eCallW, gName', gNil', gCons', gTup', sNil, sSeq, Fd.dropE, sFg, sSet, sOwn, sRet, sDrop, sIf, sAug, vAdd, vAddI, vSub, vMulL, vMulR, vFdiv, vMod, vPow, vShl, vShr, vLt, vLe, vGt, vGe, vNeg, vEqI, vNeI, vEqN, bT, bF, dT, dF, vIxT, vIxL, vAt0, vAt1, vAt2, vAt3, isNon, dIsN, dNotN, dIsB, dNotB, lE, lF, lNil, sPar, setAll, Fd.rd, Fd.fr, Fd.rds, Fd.frs, slD, cLen, cAbs, cInt, cMax2, cMin2, cTuple, cList, dIsi, isTy, isL, isM, ↓bindM, Option.map_some, List.getElem?_cons_zero, List.getElem?_cons_succ, List.set_cons_zero, List.set_cons_succ, List.length_cons, List.length_nil, List.map_cons, List.map_nil, List.cons_append, List.nil_append, List.replicate_succ, List.replicate_zero, Nat.reduceAdd, Nat.reduceSub, Nat.reduceLeDiff, ite_true, ite_false, if_true, if_false, if_pos, if_neg, Int.toNat_zero, reduceIte, Bool.not_true, Bool.not_false, Int.reduceNeg, Int.reduceLE, Int.reduceLT, Int.reduceToNat, Nat.reduceEqDiff, Bool.false_eq_true, decide_true, decide_false, and_self, and_true, true_and, Nat.zero_add, BEq.rfl, reduceCtorEq, Bool.and_self]
    rw [e1, hn]
    rfl
  · obtain ⟨M, hM, eM⟩ := max_ints hn
    obtain ⟨m, hm, em⟩ := min_ints hn
    have a := h M hM
    have b := h m hm
    have hne : (List.map D.int (cs.take (cs.length - 1))).isEmpty = false := by simpa using hn
    simp (disch := first | assumption | omega) only [F_is_even, s_is_even, eSl, pSome, pNone, cut_init, eOr, vNeg, e1, deq_nil, lev_ints, hne, eM, em, runF, runW, atW, eVar, eC, eOp, eUn, tB', eChain, tAnd', tOr', tNot', eAnd, eOr, dNot, eIf, aNil, aCons, eTup, fLst, Ct.d, Ct.sl, eF, fDict0, eCB, eCall, eCallW, gName', gNil', gCons', gTup', sNil, sSeq, Fd.dropE, sFg, sSet, sOwn, sRet, sDrop, sIf, sAug, vAdd, vAddI, vSub, vMulL, vMulR, vFdiv, vMod, vPow, vShl, vShr, vLt, vLe, vGt, vGe, vNeg, vEqI, vNeI, vEqN, bT, bF, dT, dF, vIxT, vIxL, vAt0, vAt1, vAt2, vAt3, isNon, dIsN, dNotN, dIsB, dNotB, lE, lF, lNil, sPar, setAll, Fd.rd, Fd.fr, Fd.rds, Fd.frs, slD, cLen, cAbs, cInt, cMax2, cMin2, cTuple, cList, dIsi, isTy, isL, isM, ↓bindM, Option.map_some, List.getElem?_cons_zero, List.getElem?_cons_succ, List.set_cons_zero, List.set_cons_succ, List.length_cons, List.length_nil, List.map_cons, List.map_nil, List.cons_append, List.nil_append, List.replicate_succ, List.replicate_zero, Nat.reduceAdd, Nat.reduceSub, Nat.reduceLeDiff, ite_true, ite_false, if_true, if_false, if_pos, if_neg, Int.toNat_zero, reduceIte, Bool.not_true, Bool.not_false, Int.reduceNeg, Int.reduceLE, Int.reduceLT, Int.reduceToNat, Nat.reduceEqDiff, Bool.false_eq_true, decide_true, decide_false, and_self, and_true, true_and, Nat.zero_add, BEq.rfl, reduceCtorEq, Bool.and_self]
theorem frame_at {p q x y : Int} (hp : 0 ≤ p) (hp2 : p ≤ 1000) (hx : 0 ≤ x) (hx2 : x < 1000000) (hq : 0 < q) (hq2 : q ≤ 1000) (hy : 0 < y) (hy2 : y ≤ 900) : F_frame_at [.tup [.int p, .int q], .tup [.int x, .int y]] = some (.int ((p * x) / (q * y))) := by
  have hb : 0 < q * y := Int.mul_pos hq hy
  have hb2 : q * y ≤ 1000 * 900 := Int.mul_le_mul hq2 hy2 (by omega) (by omega)
  have e := frac_eq (a := p * x) (b := q * y) hb (by omega)
  obtain ⟨u, v, e1, e2, v0, v1, c, _⟩ := low (a := p * x) (b := q * y) hb (by omega)
  rw [e1, e2] at e
  have d := div_eq v0 hb c
  simp (disch := first | assumption | omega) only [F_frame_at, s_frame_at, F_times, s_times, e, F_floor_of, s_floor_of, d, runF, runW, atW, eVar, eC, eOp, eUn, tB', eChain, tAnd', tOr', tNot', eAnd, eOr, dNot, eIf, aNil, aCons, eTup, fLst, Ct.d, Ct.sl, eF, fDict0, eCB, eCall, eCallW, gName', gNil', gCons', gTup', sNil, sSeq, Fd.dropE, sFg, sSet, sOwn, sRet, sDrop, sIf, sAug, vAdd, vAddI, vSub, vMulL, vMulR, vFdiv, vMod, vPow, vShl, vShr, vLt, vLe, vGt, vGe, vNeg, vEqI, vNeI, vEqN, bT, bF, dT, dF, vIxT, vIxL, vAt0, vAt1, vAt2, vAt3, isNon, dIsN, dNotN, dIsB, dNotB, lE, lF, lNil, sPar, setAll, Fd.rd, Fd.fr, Fd.rds, Fd.frs, slD, cLen, cAbs, cInt, cMax2, cMin2, cTuple, cList, dIsi, isTy, isL, isM, ↓bindM, Option.map_some, List.getElem?_cons_zero, List.getElem?_cons_succ, List.set_cons_zero, List.set_cons_succ, List.length_cons, List.length_nil, List.map_cons, List.map_nil, List.cons_append, List.nil_append, List.replicate_succ, List.replicate_zero, Nat.reduceAdd, Nat.reduceSub, Nat.reduceLeDiff, ite_true, ite_false, if_true, if_false, if_pos, if_neg, Int.toNat_zero, reduceIte, Bool.not_true, Bool.not_false, Int.reduceNeg, Int.reduceLE, Int.reduceLT, Int.reduceToNat, Nat.reduceEqDiff, Bool.false_eq_true, decide_true, decide_false, and_self, and_true, true_and, Nat.zero_add, BEq.rfl, reduceCtorEq, Bool.and_self]
theorem begin_of {r s f : Int} (hr : 0 < r) (hr2 : r ≤ 900) (hs : 0 < s) (hs2 : s ≤ 900) : F_begin_of [.tup [.int r, .int s], .int f] = some (.tup [.int (f * s / Int.gcd (f * s) (1 * r)), .int (1 * r / Int.gcd (f * s) (1 * r))]) := by
  have e := frac_eq (a := f * s) (b := 1 * r) (by omega) (by omega)
  simp (disch := first | assumption | omega) only [F_begin_of, s_begin_of, F_parted, s_parted, e, runF, runW, atW, eVar, eC, eOp, eUn, tB', eChain, tAnd', tOr', tNot', eAnd, eOr, dNot, eIf, aNil, aCons, eTup, fLst, Ct.d, Ct.sl, eF, fDict0, eCB, eCall, eCallW, gName', gNil', gCons', gTup', sNil, sSeq, Fd.dropE, sFg, sSet, sOwn, sRet, sDrop, sIf, sAug, vAdd, vAddI, vSub, vMulL, vMulR, vFdiv, vMod, vPow, vShl, vShr, vLt, vLe, vGt, vGe, vNeg, vEqI, vNeI, vEqN, bT, bF, dT, dF, vIxT, vIxL, vAt0, vAt1, vAt2, vAt3, isNon, dIsN, dNotN, dIsB, dNotB, lE, lF, lNil, sPar, setAll, Fd.rd, Fd.fr, Fd.rds, Fd.frs, slD, cLen, cAbs, cInt, cMax2, cMin2, cTuple, cList, dIsi, isTy, isL, isM, ↓bindM, Option.map_some, List.getElem?_cons_zero, List.getElem?_cons_succ, List.set_cons_zero, List.set_cons_succ, List.length_cons, List.length_nil, List.map_cons, List.map_nil, List.cons_append, List.nil_append, List.replicate_succ, List.replicate_zero, Nat.reduceAdd, Nat.reduceSub, Nat.reduceLeDiff, ite_true, ite_false, if_true, if_false, if_pos, if_neg, Int.toNat_zero, reduceIte, Bool.not_true, Bool.not_false, Int.reduceNeg, Int.reduceLE, Int.reduceLT, Int.reduceToNat, Nat.reduceEqDiff, Bool.false_eq_true, decide_true, decide_false, and_self, and_true, true_and, Nat.zero_add, BEq.rfl, reduceCtorEq, Bool.and_self]
theorem told_at {p q r s f : Int} (p0 : 0 < p) (p1 : p ≤ 30) (q0 : 0 < q) (q1 : q ≤ 4) (r0 : 0 < r) (r1 : r ≤ 30) (s0 : 0 < s) (s1 : s ≤ 4) (f0 : 0 ≤ f) (f1 : f ≤ 1000) :
    F_told_at [.tup [.int p, .int q], .tup [.int r, .int s], .int f] = some (.int (f * s * p / (r * q))) := by
  have fs : 0 ≤ f * s := Int.mul_nonneg f0 (by omega)
  have fs2 : f * s ≤ 1000 * 4 := Int.mul_le_mul f1 s1 (by omega) (by omega)
  have e := begin_of (f := f) r0 (show r ≤ 900 by omega) s0 (show s ≤ 900 by omega)
  obtain ⟨x, y, e1, e2, y0, y1, c, _, h1, _⟩ := low (a := f * s) (b := 1 * r) (by omega) (by omega)
  rw [e1, e2] at e
  have a := frame_at (p := p) (q := q) (x := x) (y := y) (by omega) (by omega) (h1 fs).1 (by have := (h1 fs).2; omega) q0 (by omega) y0 (by omega)
  have d : p * x / (q * y) = f * s * p / (r * q) := div_eq (Int.mul_pos q0 y0) (Int.mul_pos r0 q0) (by grind)
  rw [d] at a
  simp (disch := first | assumption | omega) only [F_told_at, s_told_at, e, a, runF, runW, atW, eVar, eC, eOp, eUn, tB', eChain, tAnd', tOr', tNot', eAnd, eOr, dNot, eIf, aNil, aCons, eTup, fLst, Ct.d, Ct.sl, eF, fDict0, eCB, eCall, eCallW, gName', gNil', gCons', gTup', sNil, sSeq, Fd.dropE, sFg, sSet, sOwn, sRet, sDrop, sIf, sAug, vAdd, vAddI, vSub, vMulL, vMulR, vFdiv, vMod, vPow, vShl, vShr, vLt, vLe, vGt, vGe, vNeg, vEqI, vNeI, vEqN, bT, bF, dT, dF, vIxT, vIxL, vAt0, vAt1, vAt2, vAt3, isNon, dIsN, dNotN, dIsB, dNotB, lE, lF, lNil, sPar, setAll, Fd.rd, Fd.fr, Fd.rds, Fd.frs, slD, cLen, cAbs, cInt, cMax2, cMin2, cTuple, cList, dIsi, isTy, isL, isM, ↓bindM, Option.map_some, List.getElem?_cons_zero, List.getElem?_cons_succ, List.set_cons_zero, List.set_cons_succ, List.length_cons, List.length_nil, List.map_cons, List.map_nil, List.cons_append, List.nil_append, List.replicate_succ, List.replicate_zero, Nat.reduceAdd, Nat.reduceSub, Nat.reduceLeDiff, ite_true, ite_false, if_true, if_false, if_pos, if_neg, Int.toNat_zero, reduceIte, Bool.not_true, Bool.not_false, Int.reduceNeg, Int.reduceLE, Int.reduceLT, Int.reduceToNat, Nat.reduceEqDiff, Bool.false_eq_true, decide_true, decide_false, and_self, and_true, true_and, Nat.zero_add, BEq.rfl, reduceCtorEq, Bool.and_self]
def oRow (p q r s : Int) (d : D) : Option D := match d with
  | .int f => some (.int (f * s * p / (r * q)))
  | _ => none
def oCnt (L : List Int) (d : D) : Option D := match d with
  | .int v => some (.int (L.count v : Nat))
  | _ => none
theorem lin_eq {p q r s : Int} (n : Nat) : (rngD 0 n).filterMap (oRow p q r s) = (lin (s * p) (r * q) n).map D.int := by
  unfold rngD lin
  rw [List.filterMap_map, List.map_map]
  induction n with
  | zero => rfl
  | succ n ih =>
    rw [List.range_succ, List.filterMap_append, List.map_append, ih]
    congr 1
    simp [Function.comp, Int.mul_assoc, oRow]
theorem lin_length (A B : Int) (n : Nat) : (lin A B n).length = n := by simp [lin]
theorem lin_last {A B : Int} {n : Nat} (hn : 0 < n) : atD ((lin A B n).map D.int) (-1) = some (.int (((n - 1 : Nat) : Int) * A / B)) := by
  unfold atD
  rw [if_neg (by omega), if_pos (by rw [List.length_map, lin_length]; omega), List.length_map, lin_length]
  have : (-1 + (n : Int)).toNat = n - 1 := by omega
  rw [this]
  simp [lin, show n - 1 < n by omega]
theorem cnt_eq {A B last : Int} (n : Nat) (m : Nat) : (rngD 0 m).filterMap (oCnt (lin A B n)) = ((List.range m).map fun v : Nat => ((lin A B n).count (v : Int) : Int)).map D.int := by
  unfold rngD
  rw [List.filterMap_map, List.map_map]
  induction m with
  | zero => rfl
  | succ m ih =>
    rw [List.range_succ, List.filterMap_append, List.map_append, ih]
    congr 1
    simp [Function.comp, oCnt]
theorem lastB {A B : Int} {n : Nat} (hA : 0 < A) (hA2 : A ≤ 120) (hB : 0 < B) (hn : n ≤ 25) : 0 ≤ ((n - 1 : Nat) : Int) * A / B ∧ ((n - 1 : Nat) : Int) * A / B ≤ 3000 := by
  have h0 : 0 ≤ ((n - 1 : Nat) : Int) * A := Int.mul_nonneg (by omega) (by omega)
  have h1 : ((n - 1 : Nat) : Int) * A ≤ 25 * 120 := Int.mul_le_mul (by omega) hA2 (by omega) (by omega)
  exact ⟨Int.ediv_nonneg h0 (by omega), Int.le_trans (Int.ediv_le_self _ h0) h1⟩
theorem el1 (FT : List D → Option D) (p q r s x y : Int) (n : Nat) (e : FT [.tup [.int p, .int q], .tup [.int r, .int s], .int x] = some (.int y)) : cEl (gName' 4) tYes' (eCall FT (aCons (eVar 0) (aCons (eVar 1) (aCons (eVar 4) aNil)))) [4] (.int x) [some (.v (.tup [.int p, .int q])), some (.v (.tup [.int r, .int s])), some (.v (.int n)), none, none] =
   some (some (.int y), [some (.v (.tup [.int p, .int q])), some (.v (.tup [.int r, .int s])), some (.v (.int n)), none, none]) := by
  simp (disch := first | assumption | omega) only [cEl, tYes', e, runF, runW, atW, eVar, eC, eOp, eUn, tB', eChain, tAnd', tOr', tNot', eAnd, eOr, dNot, eIf, aNil, aCons, eTup, fLst, Ct.d, Ct.sl, eF, fDict0, eCB, eCall, eCallW, gName', gNil', gCons', gTup', sNil, sSeq, Fd.dropE, sFg, sSet, sOwn, sRet, sDrop, sIf, sAug, vAdd, vAddI, vSub, vMulL, vMulR, vFdiv, vMod, vPow, vShl, vShr, vLt, vLe, vGt, vGe, vNeg, vEqI, vNeI, vEqN, bT, bF, dT, dF, vIxT, vIxL, vAt0, vAt1, vAt2, vAt3, isNon, dIsN, dNotN, dIsB, dNotB, lE, lF, lNil, sPar, setAll, Fd.rd, Fd.fr, Fd.rds, Fd.frs, slD, cLen, cAbs, cInt, cMax2, cMin2, cTuple, cList, dIsi, isTy, isL, isM, ↓bindM, Option.map_some, List.getElem?_cons_zero, List.getElem?_cons_succ, List.set_cons_zero, List.set_cons_succ, List.length_cons, List.length_nil, List.map_cons, List.map_nil, List.cons_append, List.nil_append, List.replicate_succ, List.replicate_zero, Nat.reduceAdd, Nat.reduceSub, Nat.reduceLeDiff, ite_true, ite_false, if_true, if_false, if_pos, if_neg, Int.toNat_zero, reduceIte, Bool.not_true, Bool.not_false, Int.reduceNeg, Int.reduceLE, Int.reduceLT, Int.reduceToNat, Nat.reduceEqDiff, Bool.false_eq_true, decide_true, decide_false, and_self, and_true, true_and, Nat.zero_add, BEq.rfl, reduceCtorEq, Bool.and_self]
theorem shown1 {p q r s : Int} {n : Nat} (p0 : 0 < p) (p1 : p ≤ 30) (q0 : 0 < q) (q1 : q ≤ 4) (r0 : 0 < r) (r1 : r ≤ 30) (s0 : 0 < s) (s1 : s ≤ 4) (n0 : 0 < n) (n1 : n ≤ 25) :
    fLc (iR1 (aCons (eVar 2) aNil)) (gName' 4) tYes' (eCall F_told_at (aCons (eVar 0) (aCons (eVar 1) (aCons (eVar 4) aNil)))) [4] [some (.v (.tup [.int p, .int q])), some (.v (.tup [.int r, .int s])), some (.v (.int n)), none, none] =
      some (.L ((lin (s * p) (r * q) n).map D.int), [some (.v (.tup [.int p, .int q])), some (.v (.tup [.int r, .int s])), some (.v (.int n)), none, none]) := by
  have hA : 0 < s * p := Int.mul_pos s0 p0
  have hA2 : s * p ≤ 4 * 30 := Int.mul_le_mul s1 p1 (by omega) (by omega)
  have hB : 0 < r * q := Int.mul_pos r0 q0
  obtain ⟨l0, l1⟩ := lastB hA hA2 hB n1
  rw [← lin_eq]
  refine fLc_at (ds := rngD 0 n) _ ?_ (by rw [rngD_length]; omega) ?_
  · simp (disch := first | assumption | omega) only [iR1, Int.toNat_natCast, runF, runW, atW, eVar, eC, eOp, eUn, tB', eChain, tAnd', tOr', tNot', eAnd, eOr, dNot, eIf, aNil, aCons, eTup, fLst, Ct.d, Ct.sl, eF, fDict0, eCB, eCall, eCallW, gName', gNil', gCons', gTup', sNil, sSeq, Fd.dropE, sFg, sSet, sOwn, sRet, sDrop, sIf, sAug, vAdd, vAddI, vSub, vMulL, vMulR, vFdiv, vMod, vPow, vShl, vShr, vLt, vLe, vGt, vGe, vNeg, vEqI, vNeI, vEqN, bT, bF, dT, dF, vIxT, vIxL, vAt0, vAt1, vAt2, vAt3, isNon, dIsN, dNotN, dIsB, dNotB, lE, lF, lNil, sPar, setAll, Fd.rd, Fd.fr, Fd.rds, Fd.frs, slD, cLen, cAbs, cInt, cMax2, cMin2, cTuple, cList, dIsi, isTy, isL, isM, ↓bindM, Option.map_some, List.getElem?_cons_zero, List.getElem?_cons_succ, List.set_cons_zero, List.set_cons_succ, List.length_cons, List.length_nil, List.map_cons, List.map_nil, List.cons_append, List.nil_append, List.replicate_succ, List.replicate_zero, Nat.reduceAdd, Nat.reduceSub, Nat.reduceLeDiff, ite_true, ite_false, if_true, if_false, if_pos, if_neg, Int.toNat_zero, reduceIte, Bool.not_true, Bool.not_false, Int.reduceNeg, Int.reduceLE, Int.reduceLT, Int.reduceToNat, Nat.reduceEqDiff, Bool.false_eq_true, decide_true, decide_false, and_self, and_true, true_and, Nat.zero_add, BEq.rfl, reduceCtorEq, Bool.and_self]
  · intro d hd
    obtain ⟨i, hi, rfl⟩ := mem_rngD.mp hd
    have e := told_at p0 p1 q0 q1 r0 r1 s0 s1 (f := 0 + (i : Int)) (by omega) (by omega)
    exact el1 F_told_at p q r s _ _ n e

theorem shown2 {p q r s : Int} {n : Nat} (p0 : 0 < p) (p1 : p ≤ 30) (q0 : 0 < q) (q1 : q ≤ 4) (r0 : 0 < r) (r1 : r ≤ 30) (s0 : 0 < s) (s1 : s ≤ 4) (n0 : 0 < n) (n1 : n ≤ 25) :
    fLc (iR1 (aCons (eOp dAdd (eOp dIx (eVar 3) (eUn dNeg (eC (.int 1)))) (eC (.int 1))) aNil)) (gName' 4) tYes' (eMet dCount (eVar 3) (eVar 4)) [4] [some (.v (.tup [.int p, .int q])), some (.v (.tup [.int r, .int s])), some (.v (.int n)), some (.v (.lst ((lin (s * p) (r * q) n).map D.int))), none] =
      some (.L ((cnts (s * p) (r * q) n).map D.int), [some (.v (.tup [.int p, .int q])), some (.v (.tup [.int r, .int s])), some (.v (.int n)), some (.v (.lst ((lin (s * p) (r * q) n).map D.int))), none]) := by
  have hA : 0 < s * p := Int.mul_pos s0 p0
  have hA2 : s * p ≤ 4 * 30 := Int.mul_le_mul s1 p1 (by omega) (by omega)
  have hB : 0 < r * q := Int.mul_pos r0 q0
  obtain ⟨l0, l1⟩ := lastB hA hA2 hB n1
  unfold cnts
  rw [← cnt_eq (last := 0)]
  refine fLc_at (ds := rngD 0 (((n - 1 : Nat) : Int) * (s * p) / (r * q) + 1).toNat) _ ?_ (by rw [rngD_length]; omega) ?_
  · simp (disch := first | assumption | omega) only [iR1, vNeg, lin_last, runF, runW, atW, eVar, eC, eOp, eUn, tB', eChain, tAnd', tOr', tNot', eAnd, eOr, dNot, eIf, aNil, aCons, eTup, fLst, Ct.d, Ct.sl, eF, fDict0, eCB, eCall, eCallW, gName', gNil', gCons', gTup', sNil, sSeq, Fd.dropE, sFg, sSet, sOwn, sRet, sDrop, sIf, sAug, vAdd, vAddI, vSub, vMulL, vMulR, vFdiv, vMod, vPow, vShl, vShr, vLt, vLe, vGt, vGe, vNeg, vEqI, vNeI, vEqN, bT, bF, dT, dF, vIxT, vIxL, vAt0, vAt1, vAt2, vAt3, isNon, dIsN, dNotN, dIsB, dNotB, lE, lF, lNil, sPar, setAll, Fd.rd, Fd.fr, Fd.rds, Fd.frs, slD, cLen, cAbs, cInt, cMax2, cMin2, cTuple, cList, dIsi, isTy, isL, isM, ↓bindM, Option.map_some, List.getElem?_cons_zero, List.getElem?_cons_succ, List.set_cons_zero, List.set_cons_succ, List.length_cons, List.length_nil, List.map_cons, List.map_nil, List.cons_append, List.nil_append, List.replicate_succ, List.replicate_zero, Nat.reduceAdd, Nat.reduceSub, Nat.reduceLeDiff, ite_true, ite_false, if_true, if_false, if_pos, if_neg, Int.toNat_zero, reduceIte, Bool.not_true, Bool.not_false, Int.reduceNeg, Int.reduceLE, Int.reduceLT, Int.reduceToNat, Nat.reduceEqDiff, Bool.false_eq_true, decide_true, decide_false, and_self, and_true, true_and, Nat.zero_add, BEq.rfl, reduceCtorEq, Bool.and_self]
  · intro d hd
    obtain ⟨i, hi, rfl⟩ := mem_rngD.mp hd
    simp (disch := first | assumption | omega) only [cEl, tYes', eMet, isLst, dCount, dInts_map, oCnt, runF, runW, atW, eVar, eC, eOp, eUn, tB', eChain, tAnd', tOr', tNot', eAnd, eOr, dNot, eIf, aNil, aCons, eTup, fLst, Ct.d, Ct.sl, eF, fDict0, eCB, eCall, eCallW, gName', gNil', gCons', gTup', sNil, sSeq, Fd.dropE, sFg, sSet, sOwn, sRet, sDrop, sIf, sAug, vAdd, vAddI, vSub, vMulL, vMulR, vFdiv, vMod, vPow, vShl, vShr, vLt, vLe, vGt, vGe, vNeg, vEqI, vNeI, vEqN, bT, bF, dT, dF, vIxT, vIxL, vAt0, vAt1, vAt2, vAt3, isNon, dIsN, dNotN, dIsB, dNotB, lE, lF, lNil, sPar, setAll, Fd.rd, Fd.fr, Fd.rds, Fd.frs, slD, cLen, cAbs, cInt, cMax2, cMin2, cTuple, cList, dIsi, isTy, isL, isM, ↓bindM, Option.map_some, List.getElem?_cons_zero, List.getElem?_cons_succ, List.set_cons_zero, List.set_cons_succ, List.length_cons, List.length_nil, List.map_cons, List.map_nil, List.cons_append, List.nil_append, List.replicate_succ, List.replicate_zero, Nat.reduceAdd, Nat.reduceSub, Nat.reduceLeDiff, ite_true, ite_false, if_true, if_false, if_pos, if_neg, Int.toNat_zero, reduceIte, Bool.not_true, Bool.not_false, Int.reduceNeg, Int.reduceLE, Int.reduceLT, Int.reduceToNat, Nat.reduceEqDiff, Bool.false_eq_true, decide_true, decide_false, and_self, and_true, true_and, Nat.zero_add, BEq.rfl, reduceCtorEq, Bool.and_self]

theorem shown {p q r s : Int} {n : Nat} (p0 : 0 < p) (p1 : p ≤ 30) (q0 : 0 < q) (q1 : q ≤ 4) (r0 : 0 < r) (r1 : r ≤ 30) (s0 : 0 < s) (s1 : s ≤ 4) (n0 : 0 < n) (n1 : n ≤ 25) :
    F_shown_times [.tup [.int p, .int q], .tup [.int r, .int s], .int n] = some (.tup ((cnts (s * p) (r * q) n).map D.int)) := by
  have hA : 0 < s * p := Int.mul_pos s0 p0
  have hA2 : s * p ≤ 4 * 30 := Int.mul_le_mul s1 p1 (by omega) (by omega)
  have hB : 0 < r * q := Int.mul_pos r0 q0
  obtain ⟨l0, l1⟩ := lastB hA hA2 hB n1
  refine runF_rt (ρ' := [some (.v (.tup [.int p, .int q])), some (.v (.tup [.int r, .int s])), some (.v (.int n)), some (.v (.lst ((lin (s * p) (r * q) n).map D.int))), none]) ?_
  unfold s_shown_times
  have c1 := shown1 p0 p1 q0 q1 r0 r1 s0 s1 n0 n1
  have c2 := shown2 p0 p1 q0 q1 r0 r1 s0 s1 n0 n1
  rw [show List.map (fun d => some (Sl.v d)) [D.tup [.int p, .int q], D.tup [.int r, .int s], .int n] ++ List.replicate (5 - 3) none = [some (.v (.tup [.int p, .int q])), some (.v (.tup [.int r, .int s])), some (.v (.int n)), none, none] from rfl, seq_nx (setL_of c1)]
  simp only [List.set_cons_zero, List.set_cons_succ]
  simp (disch := first | assumption | omega) only [c2, runF, runW, atW, eVar, eC, eOp, eUn, tB', eChain, tAnd', tOr', tNot', eAnd, eOr, dNot, eIf, aNil, aCons, eTup, fLst, Ct.d, Ct.sl, eF, fDict0, eCB, eCall, eCallW, gName', gNil', gCons', gTup', sNil, sSeq, Fd.dropE, sFg, sSet, sOwn, sRet, sDrop, sIf, sAug, vAdd, vAddI, vSub, vMulL, vMulR, vFdiv, vMod, vPow, vShl, vShr, vLt, vLe, vGt, vGe, vNeg, vEqI, vNeI, vEqN, bT, bF, dT, dF, vIxT, vIxL, vAt0, vAt1, vAt2, vAt3, isNon, dIsN, dNotN, dIsB, dNotB, lE, lF, lNil, sPar, setAll, Fd.rd, Fd.fr, Fd.rds, Fd.frs, slD, cLen, cAbs, cInt, cMax2, cMin2, cTuple, cList, dIsi, isTy, isL, isM, ↓bindM, Option.map_some, List.getElem?_cons_zero, List.getElem?_cons_succ, List.set_cons_zero, List.set_cons_succ, List.length_cons, List.length_nil, List.map_cons, List.map_nil, List.cons_append, List.nil_append, List.replicate_succ, List.replicate_zero, Nat.reduceAdd, Nat.reduceSub, Nat.reduceLeDiff, ite_true, ite_false, if_true, if_false, if_pos, if_neg, Int.toNat_zero, reduceIte, Bool.not_true, Bool.not_false, Int.reduceNeg, Int.reduceLE, Int.reduceLT, Int.reduceToNat, Nat.reduceEqDiff, Bool.false_eq_true, decide_true, decide_false, and_self, and_true, true_and, Nat.zero_add, BEq.rfl, reduceCtorEq, Bool.and_self]
theorem least_multiple {p r : Int} (p0 : 0 < p) (p1 : p ≤ 30) (r0 : 0 < r) (r1 : r ≤ 30) : F_least_multiple [.int p, .int r] = some (.int (p / Int.gcd p r * r)) := by
  obtain ⟨g1, g2⟩ := gcd_lt (a := p) r0 (by omega)
  simp (disch := first | assumption | omega) only [F_least_multiple, s_least_multiple, common_pos r0 (show r < 1000000 by omega), runF, runW, atW, eVar, eC, eOp, eUn, tB', eChain, tAnd', tOr', tNot', eAnd, eOr, dNot, eIf, aNil, aCons, eTup, fLst, Ct.d, Ct.sl, eF, fDict0, eCB, eCall, eCallW, gName', gNil', gCons', gTup', sNil, sSeq, Fd.dropE, sFg, sSet, sOwn, sRet, sDrop, sIf, sAug, vAdd, vAddI, vSub, vMulL, vMulR, vFdiv, vMod, vPow, vShl, vShr, vLt, vLe, vGt, vGe, vNeg, vEqI, vNeI, vEqN, bT, bF, dT, dF, vIxT, vIxL, vAt0, vAt1, vAt2, vAt3, isNon, dIsN, dNotN, dIsB, dNotB, lE, lF, lNil, sPar, setAll, Fd.rd, Fd.fr, Fd.rds, Fd.frs, slD, cLen, cAbs, cInt, cMax2, cMin2, cTuple, cList, dIsi, isTy, isL, isM, ↓bindM, Option.map_some, List.getElem?_cons_zero, List.getElem?_cons_succ, List.set_cons_zero, List.set_cons_succ, List.length_cons, List.length_nil, List.map_cons, List.map_nil, List.cons_append, List.nil_append, List.replicate_succ, List.replicate_zero, Nat.reduceAdd, Nat.reduceSub, Nat.reduceLeDiff, ite_true, ite_false, if_true, if_false, if_pos, if_neg, Int.toNat_zero, reduceIte, Bool.not_true, Bool.not_false, Int.reduceNeg, Int.reduceLE, Int.reduceLT, Int.reduceToNat, Nat.reduceEqDiff, Bool.false_eq_true, decide_true, decide_false, and_self, and_true, true_and, Nat.zero_add, BEq.rfl, reduceCtorEq, Bool.and_self]
theorem common_rate {p q r s : Int} (p0 : 0 < p) (p1 : p ≤ 30) (q0 : 0 < q) (q1 : q ≤ 4) (r0 : 0 < r) (r1 : r ≤ 30) (s0 : 0 < s) (s1 : s ≤ 4) :
    ∃ u l L g : Int, F_common_rate [.tup [.tup [.int p, .int q], .tup [.int r, .int s]]] = some (.tup [.int u, .int l]) ∧ 0 < l ∧ l ≤ 4 ∧ u * g = L * l ∧ p ∣ L ∧ r ∣ L ∧ g ∣ q ∧ g ∣ s ∧ 0 < g ∧ -900 ≤ u ∧ u ≤ 900 := by
  obtain ⟨g1, g2⟩ := gcd_lt (a := p) r0 (by omega)
  obtain ⟨g3, g4⟩ := gcd_lt (a := q) s0 (by omega)
  have e1 := least_multiple p0 p1 r0 r1
  have e2 := common_pos (a := q) s0 (show s < 1000000 by omega)
  have e3 := frac_eq (a := p / Int.gcd p r * r) (b := Int.gcd q s) g3 (by omega)
  have d1 := Int.gcd_dvd_left p r
  have d2 := Int.gcd_dvd_right p r
  have d3 := Int.gcd_dvd_left q s
  have d4 := Int.gcd_dvd_right q s
  have q2 : 0 ≤ p / Int.gcd p r := Int.ediv_nonneg (by omega) (by omega)
  have q3 : p / Int.gcd p r ≤ p := Int.ediv_le_self _ (by omega)
  have q4 : 0 ≤ p / Int.gcd p r * r := Int.mul_nonneg q2 (by omega)
  have q5 : p / Int.gcd p r * r ≤ 30 * 30 := Int.mul_le_mul (by omega) r1 (by omega) (by omega)
  obtain ⟨u, l, e4, e5, l0, l1, c, _, h1, _⟩ := low (a := p / Int.gcd p r * r) (b := Int.gcd q s) g3 (by omega)
  rw [e4, e5] at e3
  refine ⟨u, l, p / Int.gcd p r * r, Int.gcd q s, ?_, l0, by omega, c, ?_, ⟨p / Int.gcd p r, Int.mul_comm _ _⟩, d3, d4, g3, by have := h1 q4; omega, by have := h1 q4; omega⟩
  · refine runF_rt (ρ' := [some (.v (.tup [.tup [.int p, .int q], .tup [.int r, .int s]])), some (.v (.int (p / Int.gcd p r * r))), some (.v (.int (Int.gcd q s))), none, none]) ?_
    unfold s_common_rate
    rw [seq_nx (ρ' := [some (.v (.tup [.tup [.int p, .int q], .tup [.int r, .int s]])), some (.v (.int p)), some (.v (.int q)), none, none]) (by simp (disch := first | assumption | omega) only [runF, runW, atW, eVar, eC, eOp, eUn, tB', eChain, tAnd', tOr', tNot', eAnd, eOr, dNot, eIf, aNil, aCons, eTup, fLst, Ct.d, Ct.sl, eF, fDict0, eCB, eCall, eCallW, gName', gNil', gCons', gTup', sNil, sSeq, Fd.dropE, sFg, sSet, sOwn, sRet, sDrop, sIf, sAug, vAdd, vAddI, vSub, vMulL, vMulR, vFdiv, vMod, vPow, vShl, vShr, vLt, vLe, vGt, vGe, vNeg, vEqI, vNeI, vEqN, bT, bF, dT, dF, vIxT, vIxL, vAt0, vAt1, vAt2, vAt3, isNon, dIsN, dNotN, dIsB, dNotB, lE, lF, lNil, sPar, setAll, Fd.rd, Fd.fr, Fd.rds, Fd.frs, slD, cLen, cAbs, cInt, cMax2, cMin2, cTuple, cList, dIsi, isTy, isL, isM, ↓bindM, Option.map_some, List.getElem?_cons_zero, List.getElem?_cons_succ, List.set_cons_zero, List.set_cons_succ, List.length_cons, List.length_nil, List.map_cons, List.map_nil, List.cons_append, List.nil_append, List.replicate_succ, List.replicate_zero, Nat.reduceAdd, Nat.reduceSub, Nat.reduceLeDiff, ite_true, ite_false, if_true, if_false, if_pos, if_neg, Int.toNat_zero, reduceIte, Bool.not_true, Bool.not_false, Int.reduceNeg, Int.reduceLE, Int.reduceLT, Int.reduceToNat, Nat.reduceEqDiff, Bool.false_eq_true, decide_true, decide_false, and_self, and_true, true_and, Nat.zero_add, BEq.rfl, reduceCtorEq, Bool.and_self])]
    have hc : cutD [.tup [.int p, .int q], .tup [.int r, .int s]] (some 1) none = [.tup [.int r, .int s]] := rfl
    rw [seq_nx (ρ' := [some (.v (.tup [.tup [.int p, .int q], .tup [.int r, .int s]])), some (.v (.int (p / Int.gcd p r * r))), some (.v (.int (Int.gcd q s))), none, none]) (by simp (disch := first | assumption | omega) only [sFor, iSeq, eSl, pSome, pNone, hc, forF, e1, e2, runF, runW, atW, eVar, eC, eOp, eUn, tB', eChain, tAnd', tOr', tNot', eAnd, eOr, dNot, eIf, aNil, aCons, eTup, fLst, Ct.d, Ct.sl, eF, fDict0, eCB, eCall, eCallW, gName', gNil', gCons', gTup', sNil, sSeq, Fd.dropE, sFg, sSet, sOwn, sRet, sDrop, sIf, sAug, vAdd, vAddI, vSub, vMulL, vMulR, vFdiv, vMod, vPow, vShl, vShr, vLt, vLe, vGt, vGe, vNeg, vEqI, vNeI, vEqN, bT, bF, dT, dF, vIxT, vIxL, vAt0, vAt1, vAt2, vAt3, isNon, dIsN, dNotN, dIsB, dNotB, lE, lF, lNil, sPar, setAll, Fd.rd, Fd.fr, Fd.rds, Fd.frs, slD, cLen, cAbs, cInt, cMax2, cMin2, cTuple, cList, dIsi, isTy, isL, isM, ↓bindM, Option.map_some, List.getElem?_cons_zero, List.getElem?_cons_succ, List.set_cons_zero, List.set_cons_succ, List.length_cons, List.length_nil, List.map_cons, List.map_nil, List.cons_append, List.nil_append, List.replicate_succ, List.replicate_zero, Nat.reduceAdd, Nat.reduceSub, Nat.reduceLeDiff, ite_true, ite_false, if_true, if_false, if_pos, if_neg, Int.toNat_zero, reduceIte, Bool.not_true, Bool.not_false, Int.reduceNeg, Int.reduceLE, Int.reduceLT, Int.reduceToNat, Nat.reduceEqDiff, Bool.false_eq_true, decide_true, decide_false, and_self, and_true, true_and, Nat.zero_add, BEq.rfl, reduceCtorEq, Bool.and_self])]
    simp (disch := first | assumption | omega) only [e3, runF, runW, atW, eVar, eC, eOp, eUn, tB', eChain, tAnd', tOr', tNot', eAnd, eOr, dNot, eIf, aNil, aCons, eTup, fLst, Ct.d, Ct.sl, eF, fDict0, eCB, eCall, eCallW, gName', gNil', gCons', gTup', sNil, sSeq, Fd.dropE, sFg, sSet, sOwn, sRet, sDrop, sIf, sAug, vAdd, vAddI, vSub, vMulL, vMulR, vFdiv, vMod, vPow, vShl, vShr, vLt, vLe, vGt, vGe, vNeg, vEqI, vNeI, vEqN, bT, bF, dT, dF, vIxT, vIxL, vAt0, vAt1, vAt2, vAt3, isNon, dIsN, dNotN, dIsB, dNotB, lE, lF, lNil, sPar, setAll, Fd.rd, Fd.fr, Fd.rds, Fd.frs, slD, cLen, cAbs, cInt, cMax2, cMin2, cTuple, cList, dIsi, isTy, isL, isM, ↓bindM, Option.map_some, List.getElem?_cons_zero, List.getElem?_cons_succ, List.set_cons_zero, List.set_cons_succ, List.length_cons, List.length_nil, List.map_cons, List.map_nil, List.cons_append, List.nil_append, List.replicate_succ, List.replicate_zero, Nat.reduceAdd, Nat.reduceSub, Nat.reduceLeDiff, ite_true, ite_false, if_true, if_false, if_pos, if_neg, Int.toNat_zero, reduceIte, Bool.not_true, Bool.not_false, Int.reduceNeg, Int.reduceLE, Int.reduceLT, Int.reduceToNat, Nat.reduceEqDiff, Bool.false_eq_true, decide_true, decide_false, and_self, and_true, true_and, Nat.zero_add, BEq.rfl, reduceCtorEq, Bool.and_self]
  · obtain ⟨y, hy⟩ := d2
    refine ⟨y, ?_⟩
    obtain ⟨x, hx⟩ := d1
    have : p / Int.gcd p r = x := by
      conv => lhs; arg 1; rw [hx]
      rw [Int.mul_ediv_cancel_left _ (by omega)]
    rw [this]
    generalize (Int.gcd p r : Int) = g at *
    rw [hx, hy]; grind
theorem rate_ok {u l L g p q : Int} (h : u * g = L * l) (hp : p ∣ L) (hq : g ∣ q) (hg : 0 < g) (hl : 0 < l) (p0 : 0 < p) : u * q % (l * p) = 0 := by
  obtain ⟨x, rfl⟩ := hp
  obtain ⟨y, rfl⟩ := hq
  apply Int.emod_eq_zero_of_dvd
  exact ⟨x * y, by grind⟩
/-- where the beginnings meet -/
theorem told_one {p q r s m n f : Int} (p0 : 0 < p) (p1 : p ≤ 30) (q0 : 0 < q) (q1 : q ≤ 4) (r0 : 0 < r) (r1 : r ≤ 30) (s0 : 0 < s) (s1 : s ≤ 4) (f0 : 0 ≤ f) (f1 : f ≤ 1000)
    (m0 : 0 < m) (hm : m * (q * r) = p * s * n) (hg : Int.gcd m n = 1) : ∃ b x y : Int, ∃ c : Int, F_begin_of [.tup [.int p, .int q], .int f] = some (.tup [.int b, .int c]) ∧ F_times [.tup [.int r, .int s], .tup [.int b, .int c]] = some (.tup [.int x, .int y]) ∧ (m ∣ f → y = 1 ∧ x = f / m * n) ∧ (y = 1 → m ∣ f) := by
  have fq : 0 ≤ f * q := Int.mul_nonneg f0 (by omega)
  have e := begin_of (f := f) p0 (show p ≤ 900 by omega) q0 (show q ≤ 900 by omega)
  obtain ⟨b, c, e1, e2, c0, c1, hc, _, h1, _⟩ := low (a := f * q) (b := 1 * p) (by omega) (by omega)
  rw [e1, e2] at e
  have hb : 0 < s * c := Int.mul_pos s0 c0
  have hb2 : s * c ≤ 4 * 30 := Int.mul_le_mul s1 (by omega) (by omega) (by omega)
  have e3 := frac_eq (a := r * b) (b := s * c) hb (by omega)
  obtain ⟨x, y, e4, e5, y0, y1, hxy, gxy, _⟩ := low (a := r * b) (b := s * c) hb (by omega)
  rw [e4, e5] at e3
  -- x / y is f n / m
  have key : x * m = f * n * y := by
    have h : (x * m) * (p * s * q * r * c) = (f * n * y) * (p * s * q * r * c) := by
      have a1 : x * (s * c) = r * b * y := hxy
      have a2 : b * (1 * p) = f * q * c := hc
      have : x * m * (p * s * q * r * c) = (x * (s * c)) * (m * (q * r)) * p := by grind
      rw [this, a1, hm]
      have : r * b * y * (p * s * n) * p = (b * (1 * p)) * (r * y * p * s * n) := by grind
      rw [this, a2]; grind
    have nz : p * s * q * r * c ≠ 0 := Int.ne_of_gt (Int.mul_pos (Int.mul_pos (Int.mul_pos (Int.mul_pos p0 s0) q0) r0) c0)
    exact Int.eq_of_mul_eq_mul_right nz h
  refine ⟨b, x, y, c, e, by simp (disch := first | assumption | omega) only [F_times, s_times, e3, runF, runW, atW, eVar, eC, eOp, eUn, tB', eChain, tAnd', tOr', tNot', eAnd, eOr, dNot, eIf, aNil, aCons, eTup, fLst, Ct.d, Ct.sl, eF, fDict0, eCB, eCall, eCallW, gName', gNil', gCons', gTup', sNil, sSeq, Fd.dropE, sFg, sSet, sOwn, sRet, sDrop, sIf, sAug, vAdd, vAddI, vSub, vMulL, vMulR, vFdiv, vMod, vPow, vShl, vShr, vLt, vLe, vGt, vGe, vNeg, vEqI, vNeI, vEqN, bT, bF, dT, dF, vIxT, vIxL, vAt0, vAt1, vAt2, vAt3, isNon, dIsN, dNotN, dIsB, dNotB, lE, lF, lNil, sPar, setAll, Fd.rd, Fd.fr, Fd.rds, Fd.frs, slD, cLen, cAbs, cInt, cMax2, cMin2, cTuple, cList, dIsi, isTy, isL, isM, ↓bindM, Option.map_some, List.getElem?_cons_zero, List.getElem?_cons_succ, List.set_cons_zero, List.set_cons_succ, List.length_cons, List.length_nil, List.map_cons, List.map_nil, List.cons_append, List.nil_append, List.replicate_succ, List.replicate_zero, Nat.reduceAdd, Nat.reduceSub, Nat.reduceLeDiff, ite_true, ite_false, if_true, if_false, if_pos, if_neg, Int.toNat_zero, reduceIte, Bool.not_true, Bool.not_false, Int.reduceNeg, Int.reduceLE, Int.reduceLT, Int.reduceToNat, Nat.reduceEqDiff, Bool.false_eq_true, decide_true, decide_false, and_self, and_true, true_and, Nat.zero_add, BEq.rfl, reduceCtorEq, Bool.and_self], fun hd => ?_, fun hy => ?_⟩
  · obtain ⟨k, rfl⟩ := hd
    have kk : m * k / m = k := Int.mul_ediv_cancel_left _ (by omega)
    have e6 : x = k * n * y := by
      have : m * x = m * (k * n * y) := by grind
      exact Int.eq_of_mul_eq_mul_left (by omega) this
    have d : y ∣ (Int.gcd x y : Int) := Int.dvd_coe_gcd ⟨k * n, by rw [e6]; grind⟩ (Int.dvd_refl _)
    rw [gxy] at d
    have := Int.le_of_dvd (by omega) d
    have y1' : y = 1 := by omega
    refine ⟨y1', by rw [kk, e6, y1']; grind⟩
  · rw [hy, Int.mul_one] at key
    have d : m ∣ f * n := ⟨x, by rw [← key]; grind⟩
    have d' := Int.natAbs_dvd_natAbs.mpr d
    rw [Int.natAbs_mul] at d'
    exact Int.natAbs_dvd_natAbs.mp (Nat.Coprime.dvd_of_dvd_mul_right hg d')
theorem cl_mul {m : Int} (m0 : 0 < m) (k : Nat) : cl m (k * m) = k ∧ cl m (k * m + 1) = k + 1 := by
  have h0 : 0 ≤ (k : Int) * m := Int.mul_nonneg (by omega) (by omega)
  have a := cl_iff m0 h0 k
  have b := cl_iff m0 (show 0 ≤ (k : Int) * m + 1 by omega) k
  have c := cl_iff m0 (show 0 ≤ (k : Int) * m + 1 by omega) (k + 1)
  have e : ((k + 1 : Nat) : Int) * m = k * m + m := by push_cast; rw [Int.add_mul, Int.one_mul]
  rw [e] at c
  refine ⟨?_, by omega⟩
  cases k with
  | zero => omega
  | succ j =>
    have d := cl_iff m0 h0 j
    have e2 : ((j + 1 : Nat) : Int) * m = j * m + m := by push_cast; rw [Int.add_mul, Int.one_mul]
    omega
theorem cl_no {m : Int} (m0 : 0 < m) {i : Nat} (h : ¬ m ∣ (i : Int)) : cl m ((i : Int) + 1) = cl m i := by
  have a := (cl_iff m0 (show (0 : Int) ≤ (i : Int) by omega) (cl m i)).mp (Nat.le_refl _)
  have ne : (i : Int) ≠ (cl m i : Nat) * m := fun z => h ⟨(cl m i : Nat), by rw [Int.mul_comm]; exact z⟩
  have b := cl_iff m0 (show (0 : Int) ≤ (i : Int) + 1 by omega) (cl m i)
  have c := (cl_iff m0 (show (0 : Int) ≤ (i : Int) + 1 by omega) (cl m ((i : Int) + 1))).mp (Nat.le_refl _)
  have d := cl_iff m0 (show (0 : Int) ≤ (i : Int) by omega) (cl m ((i : Int) + 1))
  omega
def meets (m n : Int) (k : Nat) : List D := (List.range k).map fun j : Nat => .tup [.int (j * m), .int (j * n)]
theorem meets_succ (m n : Int) (k : Nat) : meets m n (k + 1) = meets m n k ++ [.tup [.int (k * m), .int (k * n)]] := by
  unfold meets; rw [List.range_succ, List.map_append]; rfl
theorem meets_length (m n : Int) (k : Nat) : (meets m n k).length = k := by simp [meets]
def shE (one other many : D) (l : List D) : Env := [some (.v one), some (.v other), some (.v many), some (.L l), none, none]
theorem sh_body (FT FB : List D → Option D) (one other many : D) (l : List D) (f x y b c : Int) (e1 : FB [one, .int f] = some (.tup [.int b, .int c])) (e2 : FT [other, .tup [.int b, .int c]] = some (.tup [.int x, .int y])) (hl : l.length < 16777216) :
    sFg [4, 5] (sSeq (sSet (gName' 5) (eCall FT (aCons (eVar 1) (aCons (eCall FB (aCons (eVar 0) (aCons (eVar 4) aNil))) aNil))))
      (sIf (tB' (eOp dEq (eOp dIx (eVar 5) (eC (.int 1))) (eC (.int 1)))) (sApp 3 (eTup (aCons (eVar 4) (aCons (eOp dIx (eVar 5) (eC (.int 0))) aNil)))) sNil)) [some (.v one), some (.v other), some (.v many), some (.L l), some (.v (.int f)), none] =
    some (.nx, shE one other many (if y = 1 then l ++ [.tup [.int f, .int x]] else l)) := by
  unfold shE
  by_cases h : y = 1
  · simp (disch := first | assumption | omega) only [e1, e2, h, sApp, runF, runW, atW, eVar, eC, eOp, eUn, tB', eChain, tAnd', tOr', tNot', eAnd, eOr, dNot, eIf, aNil, aCons, eTup, fLst, Ct.d, Ct.sl, eF, fDict0, eCB, eCall, eCallW, gName', gNil', gCons', gTup', sNil, sSeq, Fd.dropE, sFg, sSet, sOwn, sRet, sDrop, sIf, sAug, vAdd, vAddI, vSub, vMulL, vMulR, vFdiv, vMod, vPow, vShl, vShr, vLt, vLe, vGt, vGe, vNeg, vEqI, vNeI, vEqN, bT, bF, dT, dF, vIxT, vIxL, vAt0, vAt1, vAt2, vAt3, isNon, dIsN, dNotN, dIsB, dNotB, lE, lF, lNil, sPar, setAll, Fd.rd, Fd.fr, Fd.rds, Fd.frs, slD, cLen, cAbs, cInt, cMax2, cMin2, cTuple, cList, dIsi, isTy, isL, isM, ↓bindM, Option.map_some, List.getElem?_cons_zero, List.getElem?_cons_succ, List.set_cons_zero, List.set_cons_succ, List.length_cons, List.length_nil, List.map_cons, List.map_nil, List.cons_append, List.nil_append, List.replicate_succ, List.replicate_zero, Nat.reduceAdd, Nat.reduceSub, Nat.reduceLeDiff, ite_true, ite_false, if_true, if_false, if_pos, if_neg, Int.toNat_zero, reduceIte, Bool.not_true, Bool.not_false, Int.reduceNeg, Int.reduceLE, Int.reduceLT, Int.reduceToNat, Nat.reduceEqDiff, Bool.false_eq_true, decide_true, decide_false, and_self, and_true, true_and, Nat.zero_add, BEq.rfl, reduceCtorEq, Bool.and_self]
  · simp (disch := first | assumption | omega) only [e1, e2, h, sApp, runF, runW, atW, eVar, eC, eOp, eUn, tB', eChain, tAnd', tOr', tNot', eAnd, eOr, dNot, eIf, aNil, aCons, eTup, fLst, Ct.d, Ct.sl, eF, fDict0, eCB, eCall, eCallW, gName', gNil', gCons', gTup', sNil, sSeq, Fd.dropE, sFg, sSet, sOwn, sRet, sDrop, sIf, sAug, vAdd, vAddI, vSub, vMulL, vMulR, vFdiv, vMod, vPow, vShl, vShr, vLt, vLe, vGt, vGe, vNeg, vEqI, vNeI, vEqN, bT, bF, dT, dF, vIxT, vIxL, vAt0, vAt1, vAt2, vAt3, isNon, dIsN, dNotN, dIsB, dNotB, lE, lF, lNil, sPar, setAll, Fd.rd, Fd.fr, Fd.rds, Fd.frs, slD, cLen, cAbs, cInt, cMax2, cMin2, cTuple, cList, dIsi, isTy, isL, isM, ↓bindM, Option.map_some, List.getElem?_cons_zero, List.getElem?_cons_succ, List.set_cons_zero, List.set_cons_succ, List.length_cons, List.length_nil, List.map_cons, List.map_nil, List.cons_append, List.nil_append, List.replicate_succ, List.replicate_zero, Nat.reduceAdd, Nat.reduceSub, Nat.reduceLeDiff, ite_true, ite_false, if_true, if_false, if_pos, if_neg, Int.toNat_zero, reduceIte, Bool.not_true, Bool.not_false, Int.reduceNeg, Int.reduceLE, Int.reduceLT, Int.reduceToNat, Nat.reduceEqDiff, Bool.false_eq_true, decide_true, decide_false, and_self, and_true, true_and, Nat.zero_add, BEq.rfl, reduceCtorEq, Bool.and_self]
theorem shared {p q r s m n : Int} (p0 : 0 < p) (p1 : p ≤ 30) (q0 : 0 < q) (q1 : q ≤ 4) (r0 : 0 < r) (r1 : r ≤ 30) (s0 : 0 < s) (s1 : s ≤ 4)
    (m0 : 0 < m) (m1 : m ≤ 120) (hm : m * (q * r) = p * s * n) (hg : Int.gcd m n = 1) :
    F_shared_begins [.tup [.int p, .int q], .tup [.int r, .int s], .int (3 * m)] = some (.tup (meets m n 3)) := by
  refine runF_rt (ρ' := shE (.tup [.int p, .int q]) (.tup [.int r, .int s]) (.int (3 * m)) (meets m n 3)) ?_
  unfold s_shared_begins
  rw [seq_nx (ρ' := shE (.tup [.int p, .int q]) (.tup [.int r, .int s]) (.int (3 * m)) []) (by unfold shE; simp (disch := first | assumption | omega) only [runF, runW, atW, eVar, eC, eOp, eUn, tB', eChain, tAnd', tOr', tNot', eAnd, eOr, dNot, eIf, aNil, aCons, eTup, fLst, Ct.d, Ct.sl, eF, fDict0, eCB, eCall, eCallW, gName', gNil', gCons', gTup', sNil, sSeq, Fd.dropE, sFg, sSet, sOwn, sRet, sDrop, sIf, sAug, vAdd, vAddI, vSub, vMulL, vMulR, vFdiv, vMod, vPow, vShl, vShr, vLt, vLe, vGt, vGe, vNeg, vEqI, vNeI, vEqN, bT, bF, dT, dF, vIxT, vIxL, vAt0, vAt1, vAt2, vAt3, isNon, dIsN, dNotN, dIsB, dNotB, lE, lF, lNil, sPar, setAll, Fd.rd, Fd.fr, Fd.rds, Fd.frs, slD, cLen, cAbs, cInt, cMax2, cMin2, cTuple, cList, dIsi, isTy, isL, isM, ↓bindM, Option.map_some, List.getElem?_cons_zero, List.getElem?_cons_succ, List.set_cons_zero, List.set_cons_succ, List.length_cons, List.length_nil, List.map_cons, List.map_nil, List.cons_append, List.nil_append, List.replicate_succ, List.replicate_zero, Nat.reduceAdd, Nat.reduceSub, Nat.reduceLeDiff, ite_true, ite_false, if_true, if_false, if_pos, if_neg, Int.toNat_zero, reduceIte, Bool.not_true, Bool.not_false, Int.reduceNeg, Int.reduceLE, Int.reduceLT, Int.reduceToNat, Nat.reduceEqDiff, Bool.false_eq_true, decide_true, decide_false, and_self, and_true, true_and, Nat.zero_add, BEq.rfl, reduceCtorEq, Bool.and_self])]
  have lp := forF_eq (g := gName' 4) (b := sFg [4, 5] (sSeq (sSet (gName' 5) (eCall F_times (aCons (eVar 1) (aCons (eCall F_begin_of (aCons (eVar 0) (aCons (eVar 4) aNil))) aNil))))
      (sIf (tB' (eOp dEq (eOp dIx (eVar 5) (eC (.int 1))) (eC (.int 1)))) (sApp 3 (eTup (aCons (eVar 4) (aCons (eOp dIx (eVar 5) (eC (.int 0))) aNil)))) sNil))) (ds := rngD 0 (3 * m).toNat)
    (fun i => shE (.tup [.int p, .int q]) (.tup [.int r, .int s]) (.int (3 * m)) (meets m n (cl m i))) fun i d hd => by
      obtain ⟨hi, rfl⟩ := rngD_get hd
      obtain ⟨b, x, y, c, e1, e2, hy, hn⟩ := told_one (f := 0 + (i : Int)) p0 p1 q0 q1 r0 r1 s0 s1 (by omega) (by omega) m0 hm hg
      have hlen : cl m i ≤ i := by
        rw [cl_iff m0 (by omega)]
        have := Int.mul_le_mul_of_nonneg_left (show 1 ≤ m by omega) (show (0 : Int) ≤ i by omega)
        omega
      have bd := sh_body F_times F_begin_of (.tup [.int p, .int q]) (.tup [.int r, .int s]) (.int (3 * m)) (meets m n (cl m i)) (0 + (i : Int)) x y b c e1 e2 (by rw [meets_length]; omega)
      refine ⟨[some (.v (.tup [.int p, .int q])), some (.v (.tup [.int r, .int s])), some (.v (.int (3 * m))), some (.L (meets m n (cl m i))), some (.v (.int (0 + (i : Int)))), none], by simp only [gName', shE, List.set_cons_zero, List.set_cons_succ], ?_⟩
      rw [bd]
      refine congrArg (fun l => some (Fl.nx, shE (.tup [.int p, .int q]) (.tup [.int r, .int s]) (.int (3 * m)) l)) ?_
      by_cases hd : m ∣ (0 + (i : Int))
      · obtain ⟨y1, hx⟩ := hy hd
        rw [if_pos y1]
        obtain ⟨k, hk⟩ := hd
        have kk : (0 + (i : Int)) / m = k := by rw [hk, Int.mul_ediv_cancel_left _ (by omega)]
        have k0 : 0 ≤ k := by
          rw [← kk]; exact Int.ediv_nonneg (by omega) (by omega)
        obtain ⟨j, rfl⟩ := Int.eq_ofNat_of_zero_le k0
        have ei : (i : Int) = j * m := by rw [Int.mul_comm]; omega
        have c1 := cl_mul m0 j
        have e7 : ((i + 1 : Nat) : Int) = (j : Int) * m + 1 := by omega
        rw [e7, c1.2, meets_succ, ei, c1.1, hx, kk, Int.zero_add]
      · rw [if_neg (fun z => hd (hn z))]
        have := cl_no m0 (i := i) (by simpa using hd)
        have e7 : ((i + 1 : Nat) : Int) = (i : Int) + 1 := by omega
        rw [e7, this]
  rw [rngD_length] at lp
  have z0 : cl m ((0 : Nat) : Int) = 0 := by have := (cl_mul m0 0).1; simpa using this
  have z3 : cl m (((3 * m).toNat : Nat) : Int) = 3 := by
    have e8 : (((3 * m).toNat : Nat) : Int) = (3 : Nat) * m := by omega
    rw [e8]; exact (cl_mul m0 3).1
  rw [z0, z3] at lp
  rw [seq_nx (sFor_of (ρ1 := shE (.tup [.int p, .int q]) (.tup [.int r, .int s]) (.int (3 * m)) []) (ds := rngD 0 (3 * m).toNat) (by unfold shE; simp (disch := first | assumption | omega) only [iR1, runF, runW, atW, eVar, eC, eOp, eUn, tB', eChain, tAnd', tOr', tNot', eAnd, eOr, dNot, eIf, aNil, aCons, eTup, fLst, Ct.d, Ct.sl, eF, fDict0, eCB, eCall, eCallW, gName', gNil', gCons', gTup', sNil, sSeq, Fd.dropE, sFg, sSet, sOwn, sRet, sDrop, sIf, sAug, vAdd, vAddI, vSub, vMulL, vMulR, vFdiv, vMod, vPow, vShl, vShr, vLt, vLe, vGt, vGe, vNeg, vEqI, vNeI, vEqN, bT, bF, dT, dF, vIxT, vIxL, vAt0, vAt1, vAt2, vAt3, isNon, dIsN, dNotN, dIsB, dNotB, lE, lF, lNil, sPar, setAll, Fd.rd, Fd.fr, Fd.rds, Fd.frs, slD, cLen, cAbs, cInt, cMax2, cMin2, cTuple, cList, dIsi, isTy, isL, isM, ↓bindM, Option.map_some, List.getElem?_cons_zero, List.getElem?_cons_succ, List.set_cons_zero, List.set_cons_succ, List.length_cons, List.length_nil, List.map_cons, List.map_nil, List.cons_append, List.nil_append, List.replicate_succ, List.replicate_zero, Nat.reduceAdd, Nat.reduceSub, Nat.reduceLeDiff, ite_true, ite_false, if_true, if_false, if_pos, if_neg, Int.toNat_zero, reduceIte, Bool.not_true, Bool.not_false, Int.reduceNeg, Int.reduceLE, Int.reduceLT, Int.reduceToNat, Nat.reduceEqDiff, Bool.false_eq_true, decide_true, decide_false, and_self, and_true, true_and, Nat.zero_add, BEq.rfl, reduceCtorEq, Bool.and_self]) lp)]
  unfold shE
  simp (disch := first | assumption | omega) only [runF, runW, atW, eVar, eC, eOp, eUn, tB', eChain, tAnd', tOr', tNot', eAnd, eOr, dNot, eIf, aNil, aCons, eTup, fLst, Ct.d, Ct.sl, eF, fDict0, eCB, eCall, eCallW, gName', gNil', gCons', gTup', sNil, sSeq, Fd.dropE, sFg, sSet, sOwn, sRet, sDrop, sIf, sAug, vAdd, vAddI, vSub, vMulL, vMulR, vFdiv, vMod, vPow, vShl, vShr, vLt, vLe, vGt, vGe, vNeg, vEqI, vNeI, vEqN, bT, bF, dT, dF, vIxT, vIxL, vAt0, vAt1, vAt2, vAt3, isNon, dIsN, dNotN, dIsB, dNotB, lE, lF, lNil, sPar, setAll, Fd.rd, Fd.fr, Fd.rds, Fd.frs, slD, cLen, cAbs, cInt, cMax2, cMin2, cTuple, cList, dIsi, isTy, isL, isM, ↓bindM, Option.map_some, List.getElem?_cons_zero, List.getElem?_cons_succ, List.set_cons_zero, List.set_cons_succ, List.length_cons, List.length_nil, List.map_cons, List.map_nil, List.cons_append, List.nil_append, List.replicate_succ, List.replicate_zero, Nat.reduceAdd, Nat.reduceSub, Nat.reduceLeDiff, ite_true, ite_false, if_true, if_false, if_pos, if_neg, Int.toNat_zero, reduceIte, Bool.not_true, Bool.not_false, Int.reduceNeg, Int.reduceLE, Int.reduceLT, Int.reduceToNat, Nat.reduceEqDiff, Bool.false_eq_true, decide_true, decide_false, and_self, and_true, true_and, Nat.zero_add, BEq.rfl, reduceCtorEq, Bool.and_self]

theorem el_rows (p q r s x : Int) (h1 : 0 < r * q) (h2 : r * q < 1000) (h3 : 0 ≤ x) (h4 : x ≤ 1000) (h5 : 0 < s) (h6 : s ≤ 4) (h7 : 0 < p) (h8 : p ≤ 30) (h9 : 0 < r) (h10 : r ≤ 30) (s1 s2 s3 s4 s0 s7 s8 s9 s10 : Option Sl) : cEl (gName' 18) tYes' (eOp dFdiv (eOp dMul (eOp dMul (eVar 18) (eOp dIx (eVar 6) (eC (.int 1)))) (eOp dIx (eVar 5) (eC (.int 0)))) (eOp dMul (eOp dIx (eVar 6) (eC (.int 0))) (eOp dIx (eVar 5) (eC (.int 1))))) [18] (.int x)
      [s0, s1, s2, s3, s4, some (.v (.tup [.int p, .int q])), some (.v (.tup [.int r, .int s])), s7, s8, s9, s10, none, none, none, none, none, none, none, none] =
    some (some (.int (x * s * p / (r * q))), [s0, s1, s2, s3, s4, some (.v (.tup [.int p, .int q])), some (.v (.tup [.int r, .int s])), s7, s8, s9, s10, none, none, none, none, none, none, none, none]) := by
  simp (disch := first | assumption | omega) only [cEl, tYes', runF, runW, atW, eVar, eC, eOp, eUn, tB', eChain, tAnd', tOr', tNot', eAnd, eOr, dNot, eIf, aNil, aCons, eTup, fLst, Ct.d, Ct.sl, eF, fDict0, eCB, eCall, eCallW, gName', gNil', gCons', gTup', sNil, sSeq, Fd.dropE, sFg, sSet, sOwn, sRet, sDrop, sIf, sAug, vAdd, vAddI, vSub, vMulL, vMulR, vFdiv, vMod, vPow, vShl, vShr, vLt, vLe, vGt, vGe, vNeg, vEqI, vNeI, vEqN, bT, bF, dT, dF, vIxT, vIxL, vAt0, vAt1, vAt2, vAt3, isNon, dIsN, dNotN, dIsB, dNotB, lE, lF, lNil, sPar, setAll, Fd.rd, Fd.fr, Fd.rds, Fd.frs, slD, cLen, cAbs, cInt, cMax2, cMin2, cTuple, cList, dIsi, isTy, isL, isM, ↓bindM, Option.map_some, List.getElem?_cons_zero, List.getElem?_cons_succ, List.set_cons_zero, List.set_cons_succ, List.length_cons, List.length_nil, List.map_cons, List.map_nil, List.cons_append, List.nil_append, List.replicate_succ, List.replicate_zero, Nat.reduceAdd, Nat.reduceSub, Nat.reduceLeDiff, ite_true, ite_false, if_true, if_false, if_pos, if_neg, Int.toNat_zero, reduceIte, Bool.not_true, Bool.not_false, Int.reduceNeg, Int.reduceLE, Int.reduceLT, Int.reduceToNat, Nat.reduceEqDiff, Bool.false_eq_true, decide_true, decide_false, and_self, and_true, true_and, Nat.zero_add, BEq.rfl, reduceCtorEq, Bool.and_self]
theorem el_cnt (L : List Int) (v : Int) (s1 s2 s3 s4 s0 s5 s6 s7 s8 s9 s10 : Option Sl) : cEl (gName' 18) tYes' (eMet dCount (eVar 11) (eVar 18)) [18] (.int v)
      [s0, s1, s2, s3, s4, s5, s6, s7, s8, s9, s10, some (.v (.lst (L.map D.int))), none, none, none, none, none, none, none] =
    some (some (.int (L.count v : Nat)), [s0, s1, s2, s3, s4, s5, s6, s7, s8, s9, s10, some (.v (.lst (L.map D.int))), none, none, none, none, none, none, none]) := by
  simp (disch := first | assumption | omega) only [cEl, tYes', eMet, isLst, dCount, dInts_map, runF, runW, atW, eVar, eC, eOp, eUn, tB', eChain, tAnd', tOr', tNot', eAnd, eOr, dNot, eIf, aNil, aCons, eTup, fLst, Ct.d, Ct.sl, eF, fDict0, eCB, eCall, eCallW, gName', gNil', gCons', gTup', sNil, sSeq, Fd.dropE, sFg, sSet, sOwn, sRet, sDrop, sIf, sAug, vAdd, vAddI, vSub, vMulL, vMulR, vFdiv, vMod, vPow, vShl, vShr, vLt, vLe, vGt, vGe, vNeg, vEqI, vNeI, vEqN, bT, bF, dT, dF, vIxT, vIxL, vAt0, vAt1, vAt2, vAt3, isNon, dIsN, dNotN, dIsB, dNotB, lE, lF, lNil, sPar, setAll, Fd.rd, Fd.fr, Fd.rds, Fd.frs, slD, cLen, cAbs, cInt, cMax2, cMin2, cTuple, cList, dIsi, isTy, isL, isM, ↓bindM, Option.map_some, List.getElem?_cons_zero, List.getElem?_cons_succ, List.set_cons_zero, List.set_cons_succ, List.length_cons, List.length_nil, List.map_cons, List.map_nil, List.cons_append, List.nil_append, List.replicate_succ, List.replicate_zero, Nat.reduceAdd, Nat.reduceSub, Nat.reduceLeDiff, ite_true, ite_false, if_true, if_false, if_pos, if_neg, Int.toNat_zero, reduceIte, Bool.not_true, Bool.not_false, Int.reduceNeg, Int.reduceLE, Int.reduceLT, Int.reduceToNat, Nat.reduceEqDiff, Bool.false_eq_true, decide_true, decide_false, and_self, and_true, true_and, Nat.zero_add, BEq.rfl, reduceCtorEq, Bool.and_self]
theorem el_meet (m k x : Int) (h1 : 0 ≤ x) (h2 : x ≤ 3) (s1 s2 s3 s4 s0 s5 s6 s7 s8 s9 s10 s11 s12 s15 s16 s17 : Option Sl) : cEl (gName' 18) tYes' (eTup (aCons (eOp dMul (eVar 18) (eVar 13)) (aCons (eOp dMul (eVar 18) (eVar 14)) aNil))) [18] (.int x)
      [s0, s1, s2, s3, s4, s5, s6, s7, s8, s9, s10, s11, s12, some (.v (.int m)), some (.v (.int k)), s15, s16, s17, none] =
    some (some (.tup [.int (x * m), .int (x * k)]), [s0, s1, s2, s3, s4, s5, s6, s7, s8, s9, s10, s11, s12, some (.v (.int m)), some (.v (.int k)), s15, s16, s17, none]) := by
  simp (disch := first | assumption | omega) only [cEl, tYes', runF, runW, atW, eVar, eC, eOp, eUn, tB', eChain, tAnd', tOr', tNot', eAnd, eOr, dNot, eIf, aNil, aCons, eTup, fLst, Ct.d, Ct.sl, eF, fDict0, eCB, eCall, eCallW, gName', gNil', gCons', gTup', sNil, sSeq, Fd.dropE, sFg, sSet, sOwn, sRet, sDrop, sIf, sAug, vAdd, vAddI, vSub, vMulL, vMulR, vFdiv, vMod, vPow, vShl, vShr, vLt, vLe, vGt, vGe, vNeg, vEqI, vNeI, vEqN, bT, bF, dT, dF, vIxT, vIxL, vAt0, vAt1, vAt2, vAt3, isNon, dIsN, dNotN, dIsB, dNotB, lE, lF, lNil, sPar, setAll, Fd.rd, Fd.fr, Fd.rds, Fd.frs, slD, cLen, cAbs, cInt, cMax2, cMin2, cTuple, cList, dIsi, isTy, isL, isM, ↓bindM, Option.map_some, List.getElem?_cons_zero, List.getElem?_cons_succ, List.set_cons_zero, List.set_cons_succ, List.length_cons, List.length_nil, List.map_cons, List.map_nil, List.cons_append, List.nil_append, List.replicate_succ, List.replicate_zero, Nat.reduceAdd, Nat.reduceSub, Nat.reduceLeDiff, ite_true, ite_false, if_true, if_false, if_pos, if_neg, Int.toNat_zero, reduceIte, Bool.not_true, Bool.not_false, Int.reduceNeg, Int.reduceLE, Int.reduceLT, Int.reduceToNat, Nat.reduceEqDiff, Bool.false_eq_true, decide_true, decide_false, and_self, and_true, true_and, Nat.zero_add, BEq.rfl, reduceCtorEq, Bool.and_self]
theorem eq2 (a b : Int) : dNe (.tup [.int a, .int b]) (.tup [.int a, .int b]) = some (.bl false) := by
  simp [dNe, lev, LV, deq, deqL]
theorem deq_refl : ∀ (n : Nat) (d : D), lev n d = true → deq d d = true := by
  intro n
  induction n with
  | zero =>
    intro d h
    cases d <;> simp [lev, deq] at h ⊢
  | succ n ih =>
    intro d h
    have all : ∀ ds : List D, ds.all (lev n) = true → deqL ds ds = true := by
      intro ds
      induction ds with
      | nil => intro _; rfl
      | cons x xs ih2 =>
        intro hh
        rw [List.all_cons, Bool.and_eq_true] at hh
        rw [deqL, ih x hh.1, ih2 hh.2]; rfl
    cases d with
    | tup ds => rw [deq]; exact all ds (by simpa [lev] using h)
    | lst ds => rw [deq]; exact all ds (by simpa [lev] using h)
    | dct ds => simp [lev] at h
    | _ => simp [deq]
theorem ne_same {d : D} (h : lev LV d = true) : dNe d d = some (.bl false) := by
  unfold dNe
  rw [h, Bool.and_self, if_pos rfl, deq_refl LV d h]; rfl
theorem eq_same {d : D} (h : lev LV d = true) : dEq d d = some (.bl true) := by
  unfold dEq
  rw [h, Bool.and_self, if_pos rfl, deq_refl LV d h]
theorem lev_cnts (cs : List Int) : lev LV (.tup (cs.map D.int)) = true := by
  show (cs.map D.int).all (lev 59) = true
  exact lev_ints 59 cs
theorem lev_meets (m k : Int) : lev LV (.tup (meets m k 3)) = true := by
  simp [meets, LV, lev, List.range_succ]
def oMeet (m k : Int) (d : D) : Option D := match d with
  | .int x => some (.tup [.int (x * m), .int (x * k)])
  | _ => none
theorem fm_meets (m k : Int) : (rngD 0 3).filterMap (oMeet m k) = meets m k 3 := by
  simp [rngD, meets, List.range_succ, oMeet]
theorem uneven : F_is_even [.tup [.int 0, .int 2, .int 1]] = some (.bl false) := by
  have h := alike_ints [0, 2]
  have e1 : cMax [.tup [.int 0, .int 2]] = some (.int 2) := by
    show (if allAlike (List.map D.int [0, 2]) = true then some (maxF (.int 0) [.int 2]) else none) = _
    rw [if_pos h]
    simp [maxF, ltD_int]
  have e2 : cMin [.tup [.int 0, .int 2]] = some (.int 0) := by
    show (if allAlike (List.map D.int [0, 2]) = true then some (minF (.int 0) [.int 2]) else none) = _
    rw [if_pos h]
    simp [minF, ltD_int]
  have hc : cutD [.int 0, .int 2, .int 1] none (some (-1)) = [.int 0, .int 2] := rfl
  have hn : dEq (.tup [.int 0, .int 2]) (.tup []) = some (.bl false) := by simp [dEq, lev, LV, deq, deqL]
  simp (disch := first | assumption | omega) only [F_is_even, s_is_even, eSl, pSome, pNone, vNeg, hc, hn, e1, e2, runF, runW, atW, eVar, eC, eOp, eUn, tB', eChain, tAnd', tOr', tNot', eAnd, eOr, dNot, eIf, aNil, aCons, eTup, fLst, Ct.d, Ct.sl, eF, fDict0, eCB, eCall, eCallW, gName', gNil', gCons', gTup', sNil, sSeq, Fd.dropE, sFg, sSet, sOwn, sRet, sDrop, sIf, sAug, vAdd, vAddI, vSub, vMulL, vMulR, vFdiv, vMod, vPow, vShl, vShr, vLt, vLe, vGt, vGe, vNeg, vEqI, vNeI, vEqN, bT, bF, dT, dF, vIxT, vIxL, vAt0, vAt1, vAt2, vAt3, isNon, dIsN, dNotN, dIsB, dNotB, lE, lF, lNil, sPar, setAll, Fd.rd, Fd.fr, Fd.rds, Fd.frs, slD, cLen, cAbs, cInt, cMax2, cMin2, cTuple, cList, dIsi, isTy, isL, isM, ↓bindM, Option.map_some, List.getElem?_cons_zero, List.getElem?_cons_succ, List.set_cons_zero, List.set_cons_succ, List.length_cons, List.length_nil, List.map_cons, List.map_nil, List.cons_append, List.nil_append, List.replicate_succ, List.replicate_zero, Nat.reduceAdd, Nat.reduceSub, Nat.reduceLeDiff, ite_true, ite_false, if_true, if_false, if_pos, if_neg, Int.toNat_zero, reduceIte, Bool.not_true, Bool.not_false, Int.reduceNeg, Int.reduceLE, Int.reduceLT, Int.reduceToNat, Nat.reduceEqDiff, Bool.false_eq_true, decide_true, decide_false, and_self, and_true, true_and, Nat.zero_add, BEq.rfl, reduceCtorEq, Bool.and_self]
theorem cnts_even {A B : Int} {N : Nat} (hA : 0 < A) (hB : 0 < B) (hN : 0 < N) : ∀ c ∈ (cnts A B N).take ((cnts A B N).length - 1), B / A ≤ c ∧ c ≤ B / A + 1 := by
  intro c hc
  have hl : (cnts A B N).length = (((N - 1 : Nat) : Int) * A / B + 1).toNat := by simp [cnts]
  obtain ⟨i, hi, e⟩ := List.mem_iff_getElem.mp hc
  rw [List.length_take, hl] at hi
  rw [List.getElem_take] at e
  have e2 : c = ((lin A B N).count (i : Int) : Nat) := by
    rw [← e]; simp [cnts]
  have h := lin_count (n := N) (v := i) hA hB hN (by omega)
  rw [e2]; exact h
theorem st_shown (FS FE : List D → Option D) (one other many c : D) (s0 s1 s2 s3 s4 s7 s8 s9 s11 s13 s14 s15 s16 s17 s18 : Option Sl) (e1 : FS [one, other, many] = some c) (e2 : FE [c] = some (.bl true)) (e3 : lev LV c = true) :
    sIf (tOr' (tB' (eOp dNe (eCall FS (aCons (eVar 5) (aCons (eVar 6) (aCons (eVar 10) aNil)))) (eVar 12))) (tB' (eOp dNotB (eCall FE (aCons (eVar 12) aNil)) (eC (.bl true))))) (sRet (eC (.bl false))) sNil
      [s0, s1, s2, s3, s4, some (.v one), some (.v other), s7, s8, s9, some (.v many), s11, some (.v c), s13, s14, s15, s16, s17, s18] =
    some (.nx, [s0, s1, s2, s3, s4, some (.v one), some (.v other), s7, s8, s9, some (.v many), s11, some (.v c), s13, s14, s15, s16, s17, s18]) := by
  have e4 := ne_same e3
  simp (disch := first | assumption | omega) only [e1, e2, e4, runF, runW, atW, eVar, eC, eOp, eUn, tB', eChain, tAnd', tOr', tNot', eAnd, eOr, dNot, eIf, aNil, aCons, eTup, fLst, Ct.d, Ct.sl, eF, fDict0, eCB, eCall, eCallW, gName', gNil', gCons', gTup', sNil, sSeq, Fd.dropE, sFg, sSet, sOwn, sRet, sDrop, sIf, sAug, vAdd, vAddI, vSub, vMulL, vMulR, vFdiv, vMod, vPow, vShl, vShr, vLt, vLe, vGt, vGe, vNeg, vEqI, vNeI, vEqN, bT, bF, dT, dF, vIxT, vIxL, vAt0, vAt1, vAt2, vAt3, isNon, dIsN, dNotN, dIsB, dNotB, lE, lF, lNil, sPar, setAll, Fd.rd, Fd.fr, Fd.rds, Fd.frs, slD, cLen, cAbs, cInt, cMax2, cMin2, cTuple, cList, dIsi, isTy, isL, isM, ↓bindM, Option.map_some, List.getElem?_cons_zero, List.getElem?_cons_succ, List.set_cons_zero, List.set_cons_succ, List.length_cons, List.length_nil, List.map_cons, List.map_nil, List.cons_append, List.nil_append, List.replicate_succ, List.replicate_zero, Nat.reduceAdd, Nat.reduceSub, Nat.reduceLeDiff, ite_true, ite_false, if_true, if_false, if_pos, if_neg, Int.toNat_zero, reduceIte, Bool.not_true, Bool.not_false, Int.reduceNeg, Int.reduceLE, Int.reduceLT, Int.reduceToNat, Nat.reduceEqDiff, Bool.false_eq_true, decide_true, decide_false, and_self, and_true, true_and, Nat.zero_add, BEq.rfl, reduceCtorEq, Bool.and_self]
theorem again_lit : F_again_of [.tup [.int 24, .int 1], .tup [.int 30, .int 1]] = some (.tup [.int 4, .int 5]) := by
  have h := frac_eq (a := 24 * 1) (b := 1 * 30) (by omega) (by omega)
  have e1 : (24 * 1 : Int) / (Int.gcd (24 * 1) (1 * 30) : Int) = 4 := by decide
  have e2 : (1 * 30 : Int) / (Int.gcd (24 * 1) (1 * 30) : Int) = 5 := by decide
  rw [e1, e2] at h
  simp (disch := first | assumption | omega) only [F_again_of, s_again_of, F_parted, s_parted, h, runF, runW, atW, eVar, eC, eOp, eUn, tB', eChain, tAnd', tOr', tNot', eAnd, eOr, dNot, eIf, aNil, aCons, eTup, fLst, Ct.d, Ct.sl, eF, fDict0, eCB, eCall, eCallW, gName', gNil', gCons', gTup', sNil, sSeq, Fd.dropE, sFg, sSet, sOwn, sRet, sDrop, sIf, sAug, vAdd, vAddI, vSub, vMulL, vMulR, vFdiv, vMod, vPow, vShl, vShr, vLt, vLe, vGt, vGe, vNeg, vEqI, vNeI, vEqN, bT, bF, dT, dF, vIxT, vIxL, vAt0, vAt1, vAt2, vAt3, isNon, dIsN, dNotN, dIsB, dNotB, lE, lF, lNil, sPar, setAll, Fd.rd, Fd.fr, Fd.rds, Fd.frs, slD, cLen, cAbs, cInt, cMax2, cMin2, cTuple, cList, dIsi, isTy, isL, isM, ↓bindM, Option.map_some, List.getElem?_cons_zero, List.getElem?_cons_succ, List.set_cons_zero, List.set_cons_succ, List.length_cons, List.length_nil, List.map_cons, List.map_nil, List.cons_append, List.nil_append, List.replicate_succ, List.replicate_zero, Nat.reduceAdd, Nat.reduceSub, Nat.reduceLeDiff, ite_true, ite_false, if_true, if_false, if_pos, if_neg, Int.toNat_zero, reduceIte, Bool.not_true, Bool.not_false, Int.reduceNeg, Int.reduceLE, Int.reduceLT, Int.reduceToNat, Nat.reduceEqDiff, Bool.false_eq_true, decide_true, decide_false, and_self, and_true, true_and, Nat.zero_add, BEq.rfl, reduceCtorEq, Bool.and_self]
theorem rate_lit : F_common_rate [.tup [.tup [.int 24, .int 1], .tup [.int 30, .int 1]]] = some (.tup [.int 120, .int 1]) := by
  have e1 := least_multiple (p := 24) (r := 30) (by omega) (by omega) (by omega) (by omega)
  have g1 : (24 : Int) / (Int.gcd 24 30 : Int) * 30 = 120 := by decide
  rw [g1] at e1
  have e2 := common_pos (a := 1) (b := 1) (by omega) (by omega)
  have g2 : (Int.gcd 1 1 : Int) = 1 := by decide
  rw [g2] at e2
  have e3 := frac_eq (a := 120) (b := 1) (by omega) (by omega)
  have g3 : (120 : Int) / (Int.gcd 120 1 : Int) = 120 := by decide
  have g4 : (1 : Int) / (Int.gcd 120 1 : Int) = 1 := by decide
  rw [g3, g4] at e3
  have hc : cutD [.tup [.int 24, .int 1], .tup [.int 30, .int 1]] (some 1) none = [.tup [.int 30, .int 1]] := rfl
  simp (disch := first | assumption | omega) only [F_common_rate, s_common_rate, sFor, iSeq, eSl, pSome, pNone, hc, forF, e1, e2, e3, runF, runW, atW, eVar, eC, eOp, eUn, tB', eChain, tAnd', tOr', tNot', eAnd, eOr, dNot, eIf, aNil, aCons, eTup, fLst, Ct.d, Ct.sl, eF, fDict0, eCB, eCall, eCallW, gName', gNil', gCons', gTup', sNil, sSeq, Fd.dropE, sFg, sSet, sOwn, sRet, sDrop, sIf, sAug, vAdd, vAddI, vSub, vMulL, vMulR, vFdiv, vMod, vPow, vShl, vShr, vLt, vLe, vGt, vGe, vNeg, vEqI, vNeI, vEqN, bT, bF, dT, dF, vIxT, vIxL, vAt0, vAt1, vAt2, vAt3, isNon, dIsN, dNotN, dIsB, dNotB, lE, lF, lNil, sPar, setAll, Fd.rd, Fd.fr, Fd.rds, Fd.frs, slD, cLen, cAbs, cInt, cMax2, cMin2, cTuple, cList, dIsi, isTy, isL, isM, ↓bindM, Option.map_some, List.getElem?_cons_zero, List.getElem?_cons_succ, List.set_cons_zero, List.set_cons_succ, List.length_cons, List.length_nil, List.map_cons, List.map_nil, List.cons_append, List.nil_append, List.replicate_succ, List.replicate_zero, Nat.reduceAdd, Nat.reduceSub, Nat.reduceLeDiff, ite_true, ite_false, if_true, if_false, if_pos, if_neg, Int.toNat_zero, reduceIte, Bool.not_true, Bool.not_false, Int.reduceNeg, Int.reduceLE, Int.reduceLT, Int.reduceToNat, Nat.reduceEqDiff, Bool.false_eq_true, decide_true, decide_false, and_self, and_true, true_and, Nat.zero_add, BEq.rfl, reduceCtorEq, Bool.and_self]
set_option maxHeartbeats 0 in
theorem hold (s0 : Nat → Int) (n : Nat) (hs : ∀ i, 0 ≤ s0 i ∧ s0 i < 997) : ∃ n', F_law_holds s0 n [] = some (.bl true, n') := by
  have nx : ∀ i, ∀ k : Int, 0 < k → F_law_next s0 i [.int k] = some (.int (s0 i % k), i + 1) := fun i k hk => by simp [F_law_next, hk]
  have bd : ∀ i, ∀ k : Int, 0 < k → 0 ≤ s0 i % k ∧ s0 i % k < k := fun i k hk => ⟨Int.emod_nonneg _ (by omega), Int.emod_lt_of_pos _ hk⟩
  have a0 := bd n 30 (by omega)
  have a1 := bd (n+1) 4 (by omega)
  have a2 := bd (n+1+1) 30 (by omega)
  have a3 := bd (n+1+1+1) 4 (by omega)
  have a4 := bd (n+1+1+1+1) 60 (by omega)
  have a5 := bd (n+1+1+1+1+1) 90 (by omega)
  have a6 := bd (n+1+1+1+1+1+1) 9 (by omega)
  have a7 := bd (n+1+1+1+1+1+1+1) 25 (by omega)
  have e1 := least_eq (a := 1 + s0 n % 30) (b := 1 + s0 (n+1) % 4) (by omega) (by omega) (by omega)
  obtain ⟨p, q, p_, q_, q0, q1, _, _, p0', p0''⟩ := low (a := 1 + s0 n % 30) (b := 1 + s0 (n+1) % 4) (by omega) (by omega)
  rw [p_, q_] at e1
  have p0 := p0'' (by omega)
  have p1 : p ≤ 30 := by have := (p0' (by omega)).2; omega
  have q2 : q ≤ 4 := by omega
  have e2 := least_eq (a := 1 + s0 (n+1+1) % 30) (b := 1 + s0 (n+1+1+1) % 4) (by omega) (by omega) (by omega)
  obtain ⟨r, s, r_, s_, t0, t1, _, _, r0', r0''⟩ := low (a := 1 + s0 (n+1+1) % 30) (b := 1 + s0 (n+1+1+1) % 4) (by omega) (by omega)
  rw [r_, s_] at e2
  have r0 := r0'' (by omega)
  have r1 : r ≤ 30 := by have := (r0' (by omega)).2; omega
  have t2 : s ≤ 4 := by omega
  have rq0 : 0 < r * q := Int.mul_pos r0 q0
  have rq1 : r * q ≤ 30 * 4 := Int.mul_le_mul r1 q2 (by omega) (by omega)
  have qr0 : 0 < q * r := Int.mul_pos q0 r0
  have qr1 : q * r ≤ 4 * 30 := Int.mul_le_mul q2 r1 (by omega) (by omega)
  have sp0 : 0 < s * p := Int.mul_pos t0 p0
  have sp1 : s * p ≤ 4 * 30 := Int.mul_le_mul t2 p1 (by omega) (by omega)
  have ps0 : 0 < p * s := Int.mul_pos p0 t0
  have ps1 : p * s ≤ 30 * 4 := Int.mul_le_mul p1 t2 (by omega) (by omega)
  have e3 := told_at (f := s0 (n+1+1+1+1) % 60) p0 p1 q0 q2 r0 r1 t0 t2 (by omega) (by omega)
  -- begin_of against least
  have fq0 : 0 ≤ s0 (n+1+1+1+1) % 60 * q := Int.mul_nonneg (by omega) (by omega)
  have e4 := begin_of (f := s0 (n+1+1+1+1) % 60) p0 (show p ≤ 900 by omega) q0 (show q ≤ 900 by omega)
  have e5 := least_eq (a := s0 (n+1+1+1+1) % 60 * q) (b := p) fq0 p0 (by omega)
  rw [Int.one_mul] at e4
  -- the time
  have e6 := least_eq (a := s0 (n+1+1+1+1+1) % 90) (b := 1 + s0 (n+1+1+1+1+1+1) % 9) (by omega) (by omega) (by omega)
  obtain ⟨x, y, x_, y_, y0, y1, _, _, x0', _⟩ := low (a := s0 (n+1+1+1+1+1) % 90) (b := 1 + s0 (n+1+1+1+1+1+1) % 9) (by omega) (by omega)
  rw [x_, y_] at e6
  have x0 := (x0' (by omega)).1
  have x1 := (x0' (by omega)).2
  have yq0 : 0 < y * q := Int.mul_pos y0 q0
  have yq1 : y * q ≤ 9 * 4 := Int.mul_le_mul (by omega) q2 (by omega) (by omega)
  have e7 := frame_at (p := p) (q := q) (x := x) (y := y) (by omega) (by omega) x0 (by omega) q0 (by omega) y0 (by omega)
  rw [Int.mul_comm p x, Int.mul_comm q y] at e7
  -- the rows
  obtain ⟨N, hN⟩ := Int.eq_ofNat_of_zero_le (show 0 ≤ 1 + s0 (n+1+1+1+1+1+1+1) % 25 by omega)
  have N0 : 0 < N := by omega
  have N1 : N ≤ 25 := by omega
  obtain ⟨l0, l1⟩ := lastB sp0 (show s * p ≤ 120 by omega) rq0 N1
  have e8 := shown p0 p1 q0 q2 r0 r1 t0 t2 N0 N1
  have e9 := even (r * q / (s * p)) (cnts_even sp0 rq0 N0)
  -- again
  have e10 := frac_eq (a := p * s) (b := q * r) qr0 (by omega)
  have e11 := least_eq (a := p * s) (b := q * r) (by omega) qr0 (by omega)
  obtain ⟨m, k, m_, k_, k0, k1, hm, hg, m0', m0''⟩ := low (a := p * s) (b := q * r) qr0 (by omega)
  rw [m_, k_] at e10 e11
  have m0 := m0'' ps0
  have m1 := (m0' (by omega)).2
  have e12 : F_again_of [.tup [.int p, .int q], .tup [.int r, .int s]] = some (.tup [.int m, .int k]) := by
    simp (disch := first | assumption | omega) only [F_again_of, s_again_of, F_parted, s_parted, e10, runF, runW, atW, eVar, eC, eOp, eUn, tB', eChain, tAnd', tOr', tNot', eAnd, eOr, dNot, eIf, aNil, aCons, eTup, fLst, Ct.d, Ct.sl, eF, fDict0, eCB, eCall, eCallW, gName', gNil', gCons', gTup', sNil, sSeq, Fd.dropE, sFg, sSet, sOwn, sRet, sDrop, sIf, sAug, vAdd, vAddI, vSub, vMulL, vMulR, vFdiv, vMod, vPow, vShl, vShr, vLt, vLe, vGt, vGe, vNeg, vEqI, vNeI, vEqN, bT, bF, dT, dF, vIxT, vIxL, vAt0, vAt1, vAt2, vAt3, isNon, dIsN, dNotN, dIsB, dNotB, lE, lF, lNil, sPar, setAll, Fd.rd, Fd.fr, Fd.rds, Fd.frs, slD, cLen, cAbs, cInt, cMax2, cMin2, cTuple, cList, dIsi, isTy, isL, isM, ↓bindM, Option.map_some, List.getElem?_cons_zero, List.getElem?_cons_succ, List.set_cons_zero, List.set_cons_succ, List.length_cons, List.length_nil, List.map_cons, List.map_nil, List.cons_append, List.nil_append, List.replicate_succ, List.replicate_zero, Nat.reduceAdd, Nat.reduceSub, Nat.reduceLeDiff, ite_true, ite_false, if_true, if_false, if_pos, if_neg, Int.toNat_zero, reduceIte, Bool.not_true, Bool.not_false, Int.reduceNeg, Int.reduceLE, Int.reduceLT, Int.reduceToNat, Nat.reduceEqDiff, Bool.false_eq_true, decide_true, decide_false, and_self, and_true, true_and, Nat.zero_add, BEq.rfl, reduceCtorEq, Bool.and_self]
  have e13 := again_lit
  obtain ⟨u, l, L, g, e14, l0', l1', c1, c2, c3, c4, c5, c6, u0, u1⟩ := common_rate p0 p1 q0 q2 r0 r1 t0 t2
  have e15 := rate_ok c1 c2 c4 c6 l0' p0
  have e16 := rate_ok c1 c3 c5 c6 l0' r0
  have lp0 : 0 < l * p := Int.mul_pos l0' p0
  have lr0 : 0 < l * r := Int.mul_pos l0' r0
  have e17 := shared p0 p1 q0 q2 r0 r1 t0 t2 m0 (show m ≤ 120 by omega) hm hg
  have e18 := rate_lit
  have Fh : s_law_holds [some (.W s0 (n)), none, none, none, none, none, none, none, none, none, none, none, none, none, none, none, none, none, none] = some (.rt (.bl true), [some (.W s0 (n+1+1+1+1+1+1+1+1)), some (.v (.int (1 + s0 n % 30))), some (.v (.int (1 + s0 (n+1) % 4))), some (.v (.int (1 + s0 (n+1+1) % 30))), some (.v (.int (1 + s0 (n+1+1+1) % 4))), some (.v (.tup [.int p, .int q])), some (.v (.tup [.int r, .int s])), some (.v (.int (s0 (n+1+1+1+1) % 60))), some (.v (.int ((s0 (n+1+1+1+1) % 60) * s * p / (r * q)))), some (.v (.tup [.int x, .int y])), some (.v (.int (1 + s0 (n+1+1+1+1+1+1+1) % 25))), some (.v (.lst ((lin (s * p) (r * q) N).map D.int))), some (.v (.tup ((cnts (s * p) (r * q) N).map D.int))), some (.v (.int m)), some (.v (.int k)), some (.v (.tup [.int m, .int k])), some (.v (.tup [.int u, .int l])), some (.v (.tup (meets m k 3))), none]) := by
    unfold s_law_holds
    rw [seq_nx (ρ' := [some (.W s0 (n+1+1+1+1)), some (.v (.int (1 + s0 n % 30))), some (.v (.int (1 + s0 (n+1) % 4))), some (.v (.int (1 + s0 (n+1+1) % 30))), some (.v (.int (1 + s0 (n+1+1+1) % 4))), none, none, none, none, none, none, none, none, none, none, none, none, none, none]) (by simp (disch := first | assumption | omega) only [nx, runF, runW, atW, eVar, eC, eOp, eUn, tB', eChain, tAnd', tOr', tNot', eAnd, eOr, dNot, eIf, aNil, aCons, eTup, fLst, Ct.d, Ct.sl, eF, fDict0, eCB, eCall, eCallW, gName', gNil', gCons', gTup', sNil, sSeq, Fd.dropE, sFg, sSet, sOwn, sRet, sDrop, sIf, sAug, vAdd, vAddI, vSub, vMulL, vMulR, vFdiv, vMod, vPow, vShl, vShr, vLt, vLe, vGt, vGe, vNeg, vEqI, vNeI, vEqN, bT, bF, dT, dF, vIxT, vIxL, vAt0, vAt1, vAt2, vAt3, isNon, dIsN, dNotN, dIsB, dNotB, lE, lF, lNil, sPar, setAll, Fd.rd, Fd.fr, Fd.rds, Fd.frs, slD, cLen, cAbs, cInt, cMax2, cMin2, cTuple, cList, dIsi, isTy, isL, isM, ↓bindM, Option.map_some, List.getElem?_cons_zero, List.getElem?_cons_succ, List.set_cons_zero, List.set_cons_succ, List.length_cons, List.length_nil, List.map_cons, List.map_nil, List.cons_append, List.nil_append, List.replicate_succ, List.replicate_zero, Nat.reduceAdd, Nat.reduceSub, Nat.reduceLeDiff, ite_true, ite_false, if_true, if_false, if_pos, if_neg, Int.toNat_zero, reduceIte, Bool.not_true, Bool.not_false, Int.reduceNeg, Int.reduceLE, Int.reduceLT, Int.reduceToNat, Nat.reduceEqDiff, Bool.false_eq_true, decide_true, decide_false, and_self, and_true, true_and, Nat.zero_add, BEq.rfl, reduceCtorEq, Bool.and_self])]
    rw [seq_nx (ρ' := [some (.W s0 (n+1+1+1+1)), some (.v (.int (1 + s0 n % 30))), some (.v (.int (1 + s0 (n+1) % 4))), some (.v (.int (1 + s0 (n+1+1) % 30))), some (.v (.int (1 + s0 (n+1+1+1) % 4))), some (.v (.tup [.int p, .int q])), some (.v (.tup [.int r, .int s])), none, none, none, none, none, none, none, none, none, none, none, none]) (by simp (disch := first | assumption | omega) only [e1, e2, runF, runW, atW, eVar, eC, eOp, eUn, tB', eChain, tAnd', tOr', tNot', eAnd, eOr, dNot, eIf, aNil, aCons, eTup, fLst, Ct.d, Ct.sl, eF, fDict0, eCB, eCall, eCallW, gName', gNil', gCons', gTup', sNil, sSeq, Fd.dropE, sFg, sSet, sOwn, sRet, sDrop, sIf, sAug, vAdd, vAddI, vSub, vMulL, vMulR, vFdiv, vMod, vPow, vShl, vShr, vLt, vLe, vGt, vGe, vNeg, vEqI, vNeI, vEqN, bT, bF, dT, dF, vIxT, vIxL, vAt0, vAt1, vAt2, vAt3, isNon, dIsN, dNotN, dIsB, dNotB, lE, lF, lNil, sPar, setAll, Fd.rd, Fd.fr, Fd.rds, Fd.frs, slD, cLen, cAbs, cInt, cMax2, cMin2, cTuple, cList, dIsi, isTy, isL, isM, ↓bindM, Option.map_some, List.getElem?_cons_zero, List.getElem?_cons_succ, List.set_cons_zero, List.set_cons_succ, List.length_cons, List.length_nil, List.map_cons, List.map_nil, List.cons_append, List.nil_append, List.replicate_succ, List.replicate_zero, Nat.reduceAdd, Nat.reduceSub, Nat.reduceLeDiff, ite_true, ite_false, if_true, if_false, if_pos, if_neg, Int.toNat_zero, reduceIte, Bool.not_true, Bool.not_false, Int.reduceNeg, Int.reduceLE, Int.reduceLT, Int.reduceToNat, Nat.reduceEqDiff, Bool.false_eq_true, decide_true, decide_false, and_self, and_true, true_and, Nat.zero_add, BEq.rfl, reduceCtorEq, Bool.and_self])]
    rw [seq_nx (ρ' := [some (.W s0 (n+1+1+1+1+1)), some (.v (.int (1 + s0 n % 30))), some (.v (.int (1 + s0 (n+1) % 4))), some (.v (.int (1 + s0 (n+1+1) % 30))), some (.v (.int (1 + s0 (n+1+1+1) % 4))), some (.v (.tup [.int p, .int q])), some (.v (.tup [.int r, .int s])), some (.v (.int (s0 (n+1+1+1+1) % 60))), none, none, none, none, none, none, none, none, none, none, none]) (by simp (disch := first | assumption | omega) only [nx, runF, runW, atW, eVar, eC, eOp, eUn, tB', eChain, tAnd', tOr', tNot', eAnd, eOr, dNot, eIf, aNil, aCons, eTup, fLst, Ct.d, Ct.sl, eF, fDict0, eCB, eCall, eCallW, gName', gNil', gCons', gTup', sNil, sSeq, Fd.dropE, sFg, sSet, sOwn, sRet, sDrop, sIf, sAug, vAdd, vAddI, vSub, vMulL, vMulR, vFdiv, vMod, vPow, vShl, vShr, vLt, vLe, vGt, vGe, vNeg, vEqI, vNeI, vEqN, bT, bF, dT, dF, vIxT, vIxL, vAt0, vAt1, vAt2, vAt3, isNon, dIsN, dNotN, dIsB, dNotB, lE, lF, lNil, sPar, setAll, Fd.rd, Fd.fr, Fd.rds, Fd.frs, slD, cLen, cAbs, cInt, cMax2, cMin2, cTuple, cList, dIsi, isTy, isL, isM, ↓bindM, Option.map_some, List.getElem?_cons_zero, List.getElem?_cons_succ, List.set_cons_zero, List.set_cons_succ, List.length_cons, List.length_nil, List.map_cons, List.map_nil, List.cons_append, List.nil_append, List.replicate_succ, List.replicate_zero, Nat.reduceAdd, Nat.reduceSub, Nat.reduceLeDiff, ite_true, ite_false, if_true, if_false, if_pos, if_neg, Int.toNat_zero, reduceIte, Bool.not_true, Bool.not_false, Int.reduceNeg, Int.reduceLE, Int.reduceLT, Int.reduceToNat, Nat.reduceEqDiff, Bool.false_eq_true, decide_true, decide_false, and_self, and_true, true_and, Nat.zero_add, BEq.rfl, reduceCtorEq, Bool.and_self])]
    rw [seq_nx (ρ' := [some (.W s0 (n+1+1+1+1+1)), some (.v (.int (1 + s0 n % 30))), some (.v (.int (1 + s0 (n+1) % 4))), some (.v (.int (1 + s0 (n+1+1) % 30))), some (.v (.int (1 + s0 (n+1+1+1) % 4))), some (.v (.tup [.int p, .int q])), some (.v (.tup [.int r, .int s])), some (.v (.int (s0 (n+1+1+1+1) % 60))), some (.v (.int ((s0 (n+1+1+1+1) % 60) * s * p / (r * q)))), none, none, none, none, none, none, none, none, none, none]) (by simp (disch := first | assumption | omega) only [runF, runW, atW, eVar, eC, eOp, eUn, tB', eChain, tAnd', tOr', tNot', eAnd, eOr, dNot, eIf, aNil, aCons, eTup, fLst, Ct.d, Ct.sl, eF, fDict0, eCB, eCall, eCallW, gName', gNil', gCons', gTup', sNil, sSeq, Fd.dropE, sFg, sSet, sOwn, sRet, sDrop, sIf, sAug, vAdd, vAddI, vSub, vMulL, vMulR, vFdiv, vMod, vPow, vShl, vShr, vLt, vLe, vGt, vGe, vNeg, vEqI, vNeI, vEqN, bT, bF, dT, dF, vIxT, vIxL, vAt0, vAt1, vAt2, vAt3, isNon, dIsN, dNotN, dIsB, dNotB, lE, lF, lNil, sPar, setAll, Fd.rd, Fd.fr, Fd.rds, Fd.frs, slD, cLen, cAbs, cInt, cMax2, cMin2, cTuple, cList, dIsi, isTy, isL, isM, ↓bindM, Option.map_some, List.getElem?_cons_zero, List.getElem?_cons_succ, List.set_cons_zero, List.set_cons_succ, List.length_cons, List.length_nil, List.map_cons, List.map_nil, List.cons_append, List.nil_append, List.replicate_succ, List.replicate_zero, Nat.reduceAdd, Nat.reduceSub, Nat.reduceLeDiff, ite_true, ite_false, if_true, if_false, if_pos, if_neg, Int.toNat_zero, reduceIte, Bool.not_true, Bool.not_false, Int.reduceNeg, Int.reduceLE, Int.reduceLT, Int.reduceToNat, Nat.reduceEqDiff, Bool.false_eq_true, decide_true, decide_false, and_self, and_true, true_and, Nat.zero_add, BEq.rfl, reduceCtorEq, Bool.and_self])]
    rw [seq_nx (ρ' := [some (.W s0 (n+1+1+1+1+1)), some (.v (.int (1 + s0 n % 30))), some (.v (.int (1 + s0 (n+1) % 4))), some (.v (.int (1 + s0 (n+1+1) % 30))), some (.v (.int (1 + s0 (n+1+1+1) % 4))), some (.v (.tup [.int p, .int q])), some (.v (.tup [.int r, .int s])), some (.v (.int (s0 (n+1+1+1+1) % 60))), some (.v (.int ((s0 (n+1+1+1+1) % 60) * s * p / (r * q)))), none, none, none, none, none, none, none, none, none, none]) (by simp (disch := first | assumption | omega) only [e3, e4, e5, eq2, runF, runW, atW, eVar, eC, eOp, eUn, tB', eChain, tAnd', tOr', tNot', eAnd, eOr, dNot, eIf, aNil, aCons, eTup, fLst, Ct.d, Ct.sl, eF, fDict0, eCB, eCall, eCallW, gName', gNil', gCons', gTup', sNil, sSeq, Fd.dropE, sFg, sSet, sOwn, sRet, sDrop, sIf, sAug, vAdd, vAddI, vSub, vMulL, vMulR, vFdiv, vMod, vPow, vShl, vShr, vLt, vLe, vGt, vGe, vNeg, vEqI, vNeI, vEqN, bT, bF, dT, dF, vIxT, vIxL, vAt0, vAt1, vAt2, vAt3, isNon, dIsN, dNotN, dIsB, dNotB, lE, lF, lNil, sPar, setAll, Fd.rd, Fd.fr, Fd.rds, Fd.frs, slD, cLen, cAbs, cInt, cMax2, cMin2, cTuple, cList, dIsi, isTy, isL, isM, ↓bindM, Option.map_some, List.getElem?_cons_zero, List.getElem?_cons_succ, List.set_cons_zero, List.set_cons_succ, List.length_cons, List.length_nil, List.map_cons, List.map_nil, List.cons_append, List.nil_append, List.replicate_succ, List.replicate_zero, Nat.reduceAdd, Nat.reduceSub, Nat.reduceLeDiff, ite_true, ite_false, if_true, if_false, if_pos, if_neg, Int.toNat_zero, reduceIte, Bool.not_true, Bool.not_false, Int.reduceNeg, Int.reduceLE, Int.reduceLT, Int.reduceToNat, Nat.reduceEqDiff, Bool.false_eq_true, decide_true, decide_false, and_self, and_true, true_and, Nat.zero_add, BEq.rfl, reduceCtorEq, Bool.and_self])]
    rw [seq_nx (ρ' := [some (.W s0 (n+1+1+1+1+1+1+1)), some (.v (.int (1 + s0 n % 30))), some (.v (.int (1 + s0 (n+1) % 4))), some (.v (.int (1 + s0 (n+1+1) % 30))), some (.v (.int (1 + s0 (n+1+1+1) % 4))), some (.v (.tup [.int p, .int q])), some (.v (.tup [.int r, .int s])), some (.v (.int (s0 (n+1+1+1+1) % 60))), some (.v (.int ((s0 (n+1+1+1+1) % 60) * s * p / (r * q)))), some (.v (.tup [.int x, .int y])), none, none, none, none, none, none, none, none, none]) (by simp (disch := first | assumption | omega) only [nx, e6, runF, runW, atW, eVar, eC, eOp, eUn, tB', eChain, tAnd', tOr', tNot', eAnd, eOr, dNot, eIf, aNil, aCons, eTup, fLst, Ct.d, Ct.sl, eF, fDict0, eCB, eCall, eCallW, gName', gNil', gCons', gTup', sNil, sSeq, Fd.dropE, sFg, sSet, sOwn, sRet, sDrop, sIf, sAug, vAdd, vAddI, vSub, vMulL, vMulR, vFdiv, vMod, vPow, vShl, vShr, vLt, vLe, vGt, vGe, vNeg, vEqI, vNeI, vEqN, bT, bF, dT, dF, vIxT, vIxL, vAt0, vAt1, vAt2, vAt3, isNon, dIsN, dNotN, dIsB, dNotB, lE, lF, lNil, sPar, setAll, Fd.rd, Fd.fr, Fd.rds, Fd.frs, slD, cLen, cAbs, cInt, cMax2, cMin2, cTuple, cList, dIsi, isTy, isL, isM, ↓bindM, Option.map_some, List.getElem?_cons_zero, List.getElem?_cons_succ, List.set_cons_zero, List.set_cons_succ, List.length_cons, List.length_nil, List.map_cons, List.map_nil, List.cons_append, List.nil_append, List.replicate_succ, List.replicate_zero, Nat.reduceAdd, Nat.reduceSub, Nat.reduceLeDiff, ite_true, ite_false, if_true, if_false, if_pos, if_neg, Int.toNat_zero, reduceIte, Bool.not_true, Bool.not_false, Int.reduceNeg, Int.reduceLE, Int.reduceLT, Int.reduceToNat, Nat.reduceEqDiff, Bool.false_eq_true, decide_true, decide_false, and_self, and_true, true_and, Nat.zero_add, BEq.rfl, reduceCtorEq, Bool.and_self])]
    rw [seq_nx (ρ' := [some (.W s0 (n+1+1+1+1+1+1+1)), some (.v (.int (1 + s0 n % 30))), some (.v (.int (1 + s0 (n+1) % 4))), some (.v (.int (1 + s0 (n+1+1) % 30))), some (.v (.int (1 + s0 (n+1+1+1) % 4))), some (.v (.tup [.int p, .int q])), some (.v (.tup [.int r, .int s])), some (.v (.int (s0 (n+1+1+1+1) % 60))), some (.v (.int ((s0 (n+1+1+1+1) % 60) * s * p / (r * q)))), some (.v (.tup [.int x, .int y])), none, none, none, none, none, none, none, none, none]) (by simp (disch := first | assumption | omega) only [e7, runF, runW, atW, eVar, eC, eOp, eUn, tB', eChain, tAnd', tOr', tNot', eAnd, eOr, dNot, eIf, aNil, aCons, eTup, fLst, Ct.d, Ct.sl, eF, fDict0, eCB, eCall, eCallW, gName', gNil', gCons', gTup', sNil, sSeq, Fd.dropE, sFg, sSet, sOwn, sRet, sDrop, sIf, sAug, vAdd, vAddI, vSub, vMulL, vMulR, vFdiv, vMod, vPow, vShl, vShr, vLt, vLe, vGt, vGe, vNeg, vEqI, vNeI, vEqN, bT, bF, dT, dF, vIxT, vIxL, vAt0, vAt1, vAt2, vAt3, isNon, dIsN, dNotN, dIsB, dNotB, lE, lF, lNil, sPar, setAll, Fd.rd, Fd.fr, Fd.rds, Fd.frs, slD, cLen, cAbs, cInt, cMax2, cMin2, cTuple, cList, dIsi, isTy, isL, isM, ↓bindM, Option.map_some, List.getElem?_cons_zero, List.getElem?_cons_succ, List.set_cons_zero, List.set_cons_succ, List.length_cons, List.length_nil, List.map_cons, List.map_nil, List.cons_append, List.nil_append, List.replicate_succ, List.replicate_zero, Nat.reduceAdd, Nat.reduceSub, Nat.reduceLeDiff, ite_true, ite_false, if_true, if_false, if_pos, if_neg, Int.toNat_zero, reduceIte, Bool.not_true, Bool.not_false, Int.reduceNeg, Int.reduceLE, Int.reduceLT, Int.reduceToNat, Nat.reduceEqDiff, Bool.false_eq_true, decide_true, decide_false, and_self, and_true, true_and, Nat.zero_add, BEq.rfl, reduceCtorEq, Bool.and_self])]
    rw [seq_nx (ρ' := [some (.W s0 (n+1+1+1+1+1+1+1+1)), some (.v (.int (1 + s0 n % 30))), some (.v (.int (1 + s0 (n+1) % 4))), some (.v (.int (1 + s0 (n+1+1) % 30))), some (.v (.int (1 + s0 (n+1+1+1) % 4))), some (.v (.tup [.int p, .int q])), some (.v (.tup [.int r, .int s])), some (.v (.int (s0 (n+1+1+1+1) % 60))), some (.v (.int ((s0 (n+1+1+1+1) % 60) * s * p / (r * q)))), some (.v (.tup [.int x, .int y])), some (.v (.int (1 + s0 (n+1+1+1+1+1+1+1) % 25))), none, none, none, none, none, none, none, none]) (by simp (disch := first | assumption | omega) only [nx, runF, runW, atW, eVar, eC, eOp, eUn, tB', eChain, tAnd', tOr', tNot', eAnd, eOr, dNot, eIf, aNil, aCons, eTup, fLst, Ct.d, Ct.sl, eF, fDict0, eCB, eCall, eCallW, gName', gNil', gCons', gTup', sNil, sSeq, Fd.dropE, sFg, sSet, sOwn, sRet, sDrop, sIf, sAug, vAdd, vAddI, vSub, vMulL, vMulR, vFdiv, vMod, vPow, vShl, vShr, vLt, vLe, vGt, vGe, vNeg, vEqI, vNeI, vEqN, bT, bF, dT, dF, vIxT, vIxL, vAt0, vAt1, vAt2, vAt3, isNon, dIsN, dNotN, dIsB, dNotB, lE, lF, lNil, sPar, setAll, Fd.rd, Fd.fr, Fd.rds, Fd.frs, slD, cLen, cAbs, cInt, cMax2, cMin2, cTuple, cList, dIsi, isTy, isL, isM, ↓bindM, Option.map_some, List.getElem?_cons_zero, List.getElem?_cons_succ, List.set_cons_zero, List.set_cons_succ, List.length_cons, List.length_nil, List.map_cons, List.map_nil, List.cons_append, List.nil_append, List.replicate_succ, List.replicate_zero, Nat.reduceAdd, Nat.reduceSub, Nat.reduceLeDiff, ite_true, ite_false, if_true, if_false, if_pos, if_neg, Int.toNat_zero, reduceIte, Bool.not_true, Bool.not_false, Int.reduceNeg, Int.reduceLE, Int.reduceLT, Int.reduceToNat, Nat.reduceEqDiff, Bool.false_eq_true, decide_true, decide_false, and_self, and_true, true_and, Nat.zero_add, BEq.rfl, reduceCtorEq, Bool.and_self])]
    have C1 := fLc_at (it := iR1 (aCons (eVar 10) aNil)) (g := gName' 18) (tt := tYes') (f := eOp dFdiv (eOp dMul (eOp dMul (eVar 18) (eOp dIx (eVar 6) (eC (.int 1)))) (eOp dIx (eVar 5) (eC (.int 0)))) (eOp dMul (eOp dIx (eVar 6) (eC (.int 0))) (eOp dIx (eVar 5) (eC (.int 1))))) (vs := [18]) (ρ := [some (.W s0 (n+1+1+1+1+1+1+1+1)), some (.v (.int (1 + s0 n % 30))), some (.v (.int (1 + s0 (n+1) % 4))), some (.v (.int (1 + s0 (n+1+1) % 30))), some (.v (.int (1 + s0 (n+1+1+1) % 4))), some (.v (.tup [.int p, .int q])), some (.v (.tup [.int r, .int s])), some (.v (.int (s0 (n+1+1+1+1) % 60))), some (.v (.int ((s0 (n+1+1+1+1) % 60) * s * p / (r * q)))), some (.v (.tup [.int x, .int y])), some (.v (.int (1 + s0 (n+1+1+1+1+1+1+1) % 25))), none, none, none, none, none, none, none, none]) (ds := rngD 0 N) (oRow p q r s) (by simp (disch := first | assumption | omega) only [iR1, hN, Int.toNat_natCast, runF, runW, atW, eVar, eC, eOp, eUn, tB', eChain, tAnd', tOr', tNot', eAnd, eOr, dNot, eIf, aNil, aCons, eTup, fLst, Ct.d, Ct.sl, eF, fDict0, eCB, eCall, eCallW, gName', gNil', gCons', gTup', sNil, sSeq, Fd.dropE, sFg, sSet, sOwn, sRet, sDrop, sIf, sAug, vAdd, vAddI, vSub, vMulL, vMulR, vFdiv, vMod, vPow, vShl, vShr, vLt, vLe, vGt, vGe, vNeg, vEqI, vNeI, vEqN, bT, bF, dT, dF, vIxT, vIxL, vAt0, vAt1, vAt2, vAt3, isNon, dIsN, dNotN, dIsB, dNotB, lE, lF, lNil, sPar, setAll, Fd.rd, Fd.fr, Fd.rds, Fd.frs, slD, cLen, cAbs, cInt, cMax2, cMin2, cTuple, cList, dIsi, isTy, isL, isM, ↓bindM, Option.map_some, List.getElem?_cons_zero, List.getElem?_cons_succ, List.set_cons_zero, List.set_cons_succ, List.length_cons, List.length_nil, List.map_cons, List.map_nil, List.cons_append, List.nil_append, List.replicate_succ, List.replicate_zero, Nat.reduceAdd, Nat.reduceSub, Nat.reduceLeDiff, ite_true, ite_false, if_true, if_false, if_pos, if_neg, Int.toNat_zero, reduceIte, Bool.not_true, Bool.not_false, Int.reduceNeg, Int.reduceLE, Int.reduceLT, Int.reduceToNat, Nat.reduceEqDiff, Bool.false_eq_true, decide_true, decide_false, and_self, and_true, true_and, Nat.zero_add, BEq.rfl, reduceCtorEq, Bool.and_self]) (by rw [rngD_length]; omega) fun d hd => by
      obtain ⟨i, hi, rfl⟩ := mem_rngD.mp hd
      exact el_rows p q r s (0 + (i : Int)) rq0 (by omega) (by omega) (by omega) t0 t2 p0 p1 r0 r1 _ _ _ _ _ _ _ _ _
    rw [lin_eq] at C1
    rw [seq_nx (setL_of C1)]
    clear C1
    simp only [List.set_cons_zero, List.set_cons_succ]
    have C2 := fLc_at (it := iR1 (aCons (eOp dAdd (eOp dIx (eVar 11) (eUn dNeg (eC (.int 1)))) (eC (.int 1))) aNil)) (g := gName' 18) (tt := tYes') (f := eMet dCount (eVar 11) (eVar 18)) (vs := [18]) (ρ := [some (.W s0 (n+1+1+1+1+1+1+1+1)), some (.v (.int (1 + s0 n % 30))), some (.v (.int (1 + s0 (n+1) % 4))), some (.v (.int (1 + s0 (n+1+1) % 30))), some (.v (.int (1 + s0 (n+1+1+1) % 4))), some (.v (.tup [.int p, .int q])), some (.v (.tup [.int r, .int s])), some (.v (.int (s0 (n+1+1+1+1) % 60))), some (.v (.int ((s0 (n+1+1+1+1) % 60) * s * p / (r * q)))), some (.v (.tup [.int x, .int y])), some (.v (.int (1 + s0 (n+1+1+1+1+1+1+1) % 25))), some (.v (.lst ((lin (s * p) (r * q) N).map D.int))), none, none, none, none, none, none, none]) (ds := rngD 0 (((N - 1 : Nat) : Int) * (s * p) / (r * q) + 1).toNat) (oCnt (lin (s * p) (r * q) N)) (by simp (disch := first | assumption | omega) only [iR1, vNeg, lin_last, runF, runW, atW, eVar, eC, eOp, eUn, tB', eChain, tAnd', tOr', tNot', eAnd, eOr, dNot, eIf, aNil, aCons, eTup, fLst, Ct.d, Ct.sl, eF, fDict0, eCB, eCall, eCallW, gName', gNil', gCons', gTup', sNil, sSeq, Fd.dropE, sFg, sSet, sOwn, sRet, sDrop, sIf, sAug, vAdd, vAddI, vSub, vMulL, vMulR, vFdiv, vMod, vPow, vShl, vShr, vLt, vLe, vGt, vGe, vNeg, vEqI, vNeI, vEqN, bT, bF, dT, dF, vIxT, vIxL, vAt0, vAt1, vAt2, vAt3, isNon, dIsN, dNotN, dIsB, dNotB, lE, lF, lNil, sPar, setAll, Fd.rd, Fd.fr, Fd.rds, Fd.frs, slD, cLen, cAbs, cInt, cMax2, cMin2, cTuple, cList, dIsi, isTy, isL, isM, ↓bindM, Option.map_some, List.getElem?_cons_zero, List.getElem?_cons_succ, List.set_cons_zero, List.set_cons_succ, List.length_cons, List.length_nil, List.map_cons, List.map_nil, List.cons_append, List.nil_append, List.replicate_succ, List.replicate_zero, Nat.reduceAdd, Nat.reduceSub, Nat.reduceLeDiff, ite_true, ite_false, if_true, if_false, if_pos, if_neg, Int.toNat_zero, reduceIte, Bool.not_true, Bool.not_false, Int.reduceNeg, Int.reduceLE, Int.reduceLT, Int.reduceToNat, Nat.reduceEqDiff, Bool.false_eq_true, decide_true, decide_false, and_self, and_true, true_and, Nat.zero_add, BEq.rfl, reduceCtorEq, Bool.and_self]) (by rw [rngD_length]; omega) fun d hd => by
      obtain ⟨i, hi, rfl⟩ := mem_rngD.mp hd
      exact el_cnt _ (0 + (i : Int)) _ _ _ _ _ _ _ _ _ _ _
    rw [cnt_eq (last := 0)] at C2
    rw [seq_nx (ρ' := [some (.W s0 (n+1+1+1+1+1+1+1+1)), some (.v (.int (1 + s0 n % 30))), some (.v (.int (1 + s0 (n+1) % 4))), some (.v (.int (1 + s0 (n+1+1) % 30))), some (.v (.int (1 + s0 (n+1+1+1) % 4))), some (.v (.tup [.int p, .int q])), some (.v (.tup [.int r, .int s])), some (.v (.int (s0 (n+1+1+1+1) % 60))), some (.v (.int ((s0 (n+1+1+1+1) % 60) * s * p / (r * q)))), some (.v (.tup [.int x, .int y])), some (.v (.int (1 + s0 (n+1+1+1+1+1+1+1) % 25))), some (.v (.lst ((lin (s * p) (r * q) N).map D.int))), some (.v (.tup ((cnts (s * p) (r * q) N).map D.int))), none, none, none, none, none, none]) (by
      have := set_of (i := 12) (f := eCB cTuple (aCons (eF (fLc (iR1 (aCons (eOp dAdd (eOp dIx (eVar 11) (eUn dNeg (eC (.int 1)))) (eC (.int 1))) aNil)) (gName' 18) tYes' (eMet dCount (eVar 11) (eVar 18)) [18])) aNil)) (ρ := [some (.W s0 (n+1+1+1+1+1+1+1+1)), some (.v (.int (1 + s0 n % 30))), some (.v (.int (1 + s0 (n+1) % 4))), some (.v (.int (1 + s0 (n+1+1) % 30))), some (.v (.int (1 + s0 (n+1+1+1) % 4))), some (.v (.tup [.int p, .int q])), some (.v (.tup [.int r, .int s])), some (.v (.int (s0 (n+1+1+1+1) % 60))), some (.v (.int ((s0 (n+1+1+1+1) % 60) * s * p / (r * q)))), some (.v (.tup [.int x, .int y])), some (.v (.int (1 + s0 (n+1+1+1+1+1+1+1) % 25))), some (.v (.lst ((lin (s * p) (r * q) N).map D.int))), none, none, none, none, none, none, none]) (by simp (disch := first | assumption | omega) only [C2, runF, runW, atW, eVar, eC, eOp, eUn, tB', eChain, tAnd', tOr', tNot', eAnd, eOr, dNot, eIf, aNil, aCons, eTup, fLst, Ct.d, Ct.sl, eF, fDict0, eCB, eCall, eCallW, gName', gNil', gCons', gTup', sNil, sSeq, Fd.dropE, sFg, sSet, sOwn, sRet, sDrop, sIf, sAug, vAdd, vAddI, vSub, vMulL, vMulR, vFdiv, vMod, vPow, vShl, vShr, vLt, vLe, vGt, vGe, vNeg, vEqI, vNeI, vEqN, bT, bF, dT, dF, vIxT, vIxL, vAt0, vAt1, vAt2, vAt3, isNon, dIsN, dNotN, dIsB, dNotB, lE, lF, lNil, sPar, setAll, Fd.rd, Fd.fr, Fd.rds, Fd.frs, slD, cLen, cAbs, cInt, cMax2, cMin2, cTuple, cList, dIsi, isTy, isL, isM, ↓bindM, Option.map_some, List.getElem?_cons_zero, List.getElem?_cons_succ, List.set_cons_zero, List.set_cons_succ, List.length_cons, List.length_nil, List.map_cons, List.map_nil, List.cons_append, List.nil_append, List.replicate_succ, List.replicate_zero, Nat.reduceAdd, Nat.reduceSub, Nat.reduceLeDiff, ite_true, ite_false, if_true, if_false, if_pos, if_neg, Int.toNat_zero, reduceIte, Bool.not_true, Bool.not_false, Int.reduceNeg, Int.reduceLE, Int.reduceLT, Int.reduceToNat, Nat.reduceEqDiff, Bool.false_eq_true, decide_true, decide_false, and_self, and_true, true_and, Nat.zero_add, BEq.rfl, reduceCtorEq, Bool.and_self]; rfl) rfl
      rw [this]; rfl)]
    clear C2
    rw [seq_nx (ρ' := [some (.W s0 (n+1+1+1+1+1+1+1+1)), some (.v (.int (1 + s0 n % 30))), some (.v (.int (1 + s0 (n+1) % 4))), some (.v (.int (1 + s0 (n+1+1) % 30))), some (.v (.int (1 + s0 (n+1+1+1) % 4))), some (.v (.tup [.int p, .int q])), some (.v (.tup [.int r, .int s])), some (.v (.int (s0 (n+1+1+1+1) % 60))), some (.v (.int ((s0 (n+1+1+1+1) % 60) * s * p / (r * q)))), some (.v (.tup [.int x, .int y])), some (.v (.int (1 + s0 (n+1+1+1+1+1+1+1) % 25))), some (.v (.lst ((lin (s * p) (r * q) N).map D.int))), some (.v (.tup ((cnts (s * p) (r * q) N).map D.int))), none, none, none, none, none, none]) (by simp (disch := first | assumption | omega) only [uneven, runF, runW, atW, eVar, eC, eOp, eUn, tB', eChain, tAnd', tOr', tNot', eAnd, eOr, dNot, eIf, aNil, aCons, eTup, fLst, Ct.d, Ct.sl, eF, fDict0, eCB, eCall, eCallW, gName', gNil', gCons', gTup', sNil, sSeq, Fd.dropE, sFg, sSet, sOwn, sRet, sDrop, sIf, sAug, vAdd, vAddI, vSub, vMulL, vMulR, vFdiv, vMod, vPow, vShl, vShr, vLt, vLe, vGt, vGe, vNeg, vEqI, vNeI, vEqN, bT, bF, dT, dF, vIxT, vIxL, vAt0, vAt1, vAt2, vAt3, isNon, dIsN, dNotN, dIsB, dNotB, lE, lF, lNil, sPar, setAll, Fd.rd, Fd.fr, Fd.rds, Fd.frs, slD, cLen, cAbs, cInt, cMax2, cMin2, cTuple, cList, dIsi, isTy, isL, isM, ↓bindM, Option.map_some, List.getElem?_cons_zero, List.getElem?_cons_succ, List.set_cons_zero, List.set_cons_succ, List.length_cons, List.length_nil, List.map_cons, List.map_nil, List.cons_append, List.nil_append, List.replicate_succ, List.replicate_zero, Nat.reduceAdd, Nat.reduceSub, Nat.reduceLeDiff, ite_true, ite_false, if_true, if_false, if_pos, if_neg, Int.toNat_zero, reduceIte, Bool.not_true, Bool.not_false, Int.reduceNeg, Int.reduceLE, Int.reduceLT, Int.reduceToNat, Nat.reduceEqDiff, Bool.false_eq_true, decide_true, decide_false, and_self, and_true, true_and, Nat.zero_add, BEq.rfl, reduceCtorEq, Bool.and_self])]
    rw [seq_nx (st_shown F_shown_times F_is_even _ _ _ _ _ _ _ _ _ _ _ _ _ _ _ _ _ _ _ (by rw [hN]; exact e8) e9 (lev_cnts _))]
    rw [seq_nx (ρ' := [some (.W s0 (n+1+1+1+1+1+1+1+1)), some (.v (.int (1 + s0 n % 30))), some (.v (.int (1 + s0 (n+1) % 4))), some (.v (.int (1 + s0 (n+1+1) % 30))), some (.v (.int (1 + s0 (n+1+1+1) % 4))), some (.v (.tup [.int p, .int q])), some (.v (.tup [.int r, .int s])), some (.v (.int (s0 (n+1+1+1+1) % 60))), some (.v (.int ((s0 (n+1+1+1+1) % 60) * s * p / (r * q)))), some (.v (.tup [.int x, .int y])), some (.v (.int (1 + s0 (n+1+1+1+1+1+1+1) % 25))), some (.v (.lst ((lin (s * p) (r * q) N).map D.int))), some (.v (.tup ((cnts (s * p) (r * q) N).map D.int))), some (.v (.int m)), some (.v (.int k)), none, none, none, none]) (by simp (disch := first | assumption | omega) only [e12, runF, runW, atW, eVar, eC, eOp, eUn, tB', eChain, tAnd', tOr', tNot', eAnd, eOr, dNot, eIf, aNil, aCons, eTup, fLst, Ct.d, Ct.sl, eF, fDict0, eCB, eCall, eCallW, gName', gNil', gCons', gTup', sNil, sSeq, Fd.dropE, sFg, sSet, sOwn, sRet, sDrop, sIf, sAug, vAdd, vAddI, vSub, vMulL, vMulR, vFdiv, vMod, vPow, vShl, vShr, vLt, vLe, vGt, vGe, vNeg, vEqI, vNeI, vEqN, bT, bF, dT, dF, vIxT, vIxL, vAt0, vAt1, vAt2, vAt3, isNon, dIsN, dNotN, dIsB, dNotB, lE, lF, lNil, sPar, setAll, Fd.rd, Fd.fr, Fd.rds, Fd.frs, slD, cLen, cAbs, cInt, cMax2, cMin2, cTuple, cList, dIsi, isTy, isL, isM, ↓bindM, Option.map_some, List.getElem?_cons_zero, List.getElem?_cons_succ, List.set_cons_zero, List.set_cons_succ, List.length_cons, List.length_nil, List.map_cons, List.map_nil, List.cons_append, List.nil_append, List.replicate_succ, List.replicate_zero, Nat.reduceAdd, Nat.reduceSub, Nat.reduceLeDiff, ite_true, ite_false, if_true, if_false, if_pos, if_neg, Int.toNat_zero, reduceIte, Bool.not_true, Bool.not_false, Int.reduceNeg, Int.reduceLE, Int.reduceLT, Int.reduceToNat, Nat.reduceEqDiff, Bool.false_eq_true, decide_true, decide_false, and_self, and_true, true_and, Nat.zero_add, BEq.rfl, reduceCtorEq, Bool.and_self])]
    rw [seq_nx (ρ' := [some (.W s0 (n+1+1+1+1+1+1+1+1)), some (.v (.int (1 + s0 n % 30))), some (.v (.int (1 + s0 (n+1) % 4))), some (.v (.int (1 + s0 (n+1+1) % 30))), some (.v (.int (1 + s0 (n+1+1+1) % 4))), some (.v (.tup [.int p, .int q])), some (.v (.tup [.int r, .int s])), some (.v (.int (s0 (n+1+1+1+1) % 60))), some (.v (.int ((s0 (n+1+1+1+1) % 60) * s * p / (r * q)))), some (.v (.tup [.int x, .int y])), some (.v (.int (1 + s0 (n+1+1+1+1+1+1+1) % 25))), some (.v (.lst ((lin (s * p) (r * q) N).map D.int))), some (.v (.tup ((cnts (s * p) (r * q) N).map D.int))), some (.v (.int m)), some (.v (.int k)), some (.v (.tup [.int m, .int k])), none, none, none]) (by simp (disch := first | assumption | omega) only [e11, runF, runW, atW, eVar, eC, eOp, eUn, tB', eChain, tAnd', tOr', tNot', eAnd, eOr, dNot, eIf, aNil, aCons, eTup, fLst, Ct.d, Ct.sl, eF, fDict0, eCB, eCall, eCallW, gName', gNil', gCons', gTup', sNil, sSeq, Fd.dropE, sFg, sSet, sOwn, sRet, sDrop, sIf, sAug, vAdd, vAddI, vSub, vMulL, vMulR, vFdiv, vMod, vPow, vShl, vShr, vLt, vLe, vGt, vGe, vNeg, vEqI, vNeI, vEqN, bT, bF, dT, dF, vIxT, vIxL, vAt0, vAt1, vAt2, vAt3, isNon, dIsN, dNotN, dIsB, dNotB, lE, lF, lNil, sPar, setAll, Fd.rd, Fd.fr, Fd.rds, Fd.frs, slD, cLen, cAbs, cInt, cMax2, cMin2, cTuple, cList, dIsi, isTy, isL, isM, ↓bindM, Option.map_some, List.getElem?_cons_zero, List.getElem?_cons_succ, List.set_cons_zero, List.set_cons_succ, List.length_cons, List.length_nil, List.map_cons, List.map_nil, List.cons_append, List.nil_append, List.replicate_succ, List.replicate_zero, Nat.reduceAdd, Nat.reduceSub, Nat.reduceLeDiff, ite_true, ite_false, if_true, if_false, if_pos, if_neg, Int.toNat_zero, reduceIte, Bool.not_true, Bool.not_false, Int.reduceNeg, Int.reduceLE, Int.reduceLT, Int.reduceToNat, Nat.reduceEqDiff, Bool.false_eq_true, decide_true, decide_false, and_self, and_true, true_and, Nat.zero_add, BEq.rfl, reduceCtorEq, Bool.and_self])]
    rw [seq_nx (ρ' := [some (.W s0 (n+1+1+1+1+1+1+1+1)), some (.v (.int (1 + s0 n % 30))), some (.v (.int (1 + s0 (n+1) % 4))), some (.v (.int (1 + s0 (n+1+1) % 30))), some (.v (.int (1 + s0 (n+1+1+1) % 4))), some (.v (.tup [.int p, .int q])), some (.v (.tup [.int r, .int s])), some (.v (.int (s0 (n+1+1+1+1) % 60))), some (.v (.int ((s0 (n+1+1+1+1) % 60) * s * p / (r * q)))), some (.v (.tup [.int x, .int y])), some (.v (.int (1 + s0 (n+1+1+1+1+1+1+1) % 25))), some (.v (.lst ((lin (s * p) (r * q) N).map D.int))), some (.v (.tup ((cnts (s * p) (r * q) N).map D.int))), some (.v (.int m)), some (.v (.int k)), some (.v (.tup [.int m, .int k])), none, none, none]) (by simp (disch := first | assumption | omega) only [eq2, e13, runF, runW, atW, eVar, eC, eOp, eUn, tB', eChain, tAnd', tOr', tNot', eAnd, eOr, dNot, eIf, aNil, aCons, eTup, fLst, Ct.d, Ct.sl, eF, fDict0, eCB, eCall, eCallW, gName', gNil', gCons', gTup', sNil, sSeq, Fd.dropE, sFg, sSet, sOwn, sRet, sDrop, sIf, sAug, vAdd, vAddI, vSub, vMulL, vMulR, vFdiv, vMod, vPow, vShl, vShr, vLt, vLe, vGt, vGe, vNeg, vEqI, vNeI, vEqN, bT, bF, dT, dF, vIxT, vIxL, vAt0, vAt1, vAt2, vAt3, isNon, dIsN, dNotN, dIsB, dNotB, lE, lF, lNil, sPar, setAll, Fd.rd, Fd.fr, Fd.rds, Fd.frs, slD, cLen, cAbs, cInt, cMax2, cMin2, cTuple, cList, dIsi, isTy, isL, isM, ↓bindM, Option.map_some, List.getElem?_cons_zero, List.getElem?_cons_succ, List.set_cons_zero, List.set_cons_succ, List.length_cons, List.length_nil, List.map_cons, List.map_nil, List.cons_append, List.nil_append, List.replicate_succ, List.replicate_zero, Nat.reduceAdd, Nat.reduceSub, Nat.reduceLeDiff, ite_true, ite_false, if_true, if_false, if_pos, if_neg, Int.toNat_zero, reduceIte, Bool.not_true, Bool.not_false, Int.reduceNeg, Int.reduceLE, Int.reduceLT, Int.reduceToNat, Nat.reduceEqDiff, Bool.false_eq_true, decide_true, decide_false, and_self, and_true, true_and, Nat.zero_add, BEq.rfl, reduceCtorEq, Bool.and_self])]
    rw [seq_nx (ρ' := [some (.W s0 (n+1+1+1+1+1+1+1+1)), some (.v (.int (1 + s0 n % 30))), some (.v (.int (1 + s0 (n+1) % 4))), some (.v (.int (1 + s0 (n+1+1) % 30))), some (.v (.int (1 + s0 (n+1+1+1) % 4))), some (.v (.tup [.int p, .int q])), some (.v (.tup [.int r, .int s])), some (.v (.int (s0 (n+1+1+1+1) % 60))), some (.v (.int ((s0 (n+1+1+1+1) % 60) * s * p / (r * q)))), some (.v (.tup [.int x, .int y])), some (.v (.int (1 + s0 (n+1+1+1+1+1+1+1) % 25))), some (.v (.lst ((lin (s * p) (r * q) N).map D.int))), some (.v (.tup ((cnts (s * p) (r * q) N).map D.int))), some (.v (.int m)), some (.v (.int k)), some (.v (.tup [.int m, .int k])), some (.v (.tup [.int u, .int l])), none, none]) (by simp (disch := first | assumption | omega) only [e14, runF, runW, atW, eVar, eC, eOp, eUn, tB', eChain, tAnd', tOr', tNot', eAnd, eOr, dNot, eIf, aNil, aCons, eTup, fLst, Ct.d, Ct.sl, eF, fDict0, eCB, eCall, eCallW, gName', gNil', gCons', gTup', sNil, sSeq, Fd.dropE, sFg, sSet, sOwn, sRet, sDrop, sIf, sAug, vAdd, vAddI, vSub, vMulL, vMulR, vFdiv, vMod, vPow, vShl, vShr, vLt, vLe, vGt, vGe, vNeg, vEqI, vNeI, vEqN, bT, bF, dT, dF, vIxT, vIxL, vAt0, vAt1, vAt2, vAt3, isNon, dIsN, dNotN, dIsB, dNotB, lE, lF, lNil, sPar, setAll, Fd.rd, Fd.fr, Fd.rds, Fd.frs, slD, cLen, cAbs, cInt, cMax2, cMin2, cTuple, cList, dIsi, isTy, isL, isM, ↓bindM, Option.map_some, List.getElem?_cons_zero, List.getElem?_cons_succ, List.set_cons_zero, List.set_cons_succ, List.length_cons, List.length_nil, List.map_cons, List.map_nil, List.cons_append, List.nil_append, List.replicate_succ, List.replicate_zero, Nat.reduceAdd, Nat.reduceSub, Nat.reduceLeDiff, ite_true, ite_false, if_true, if_false, if_pos, if_neg, Int.toNat_zero, reduceIte, Bool.not_true, Bool.not_false, Int.reduceNeg, Int.reduceLE, Int.reduceLT, Int.reduceToNat, Nat.reduceEqDiff, Bool.false_eq_true, decide_true, decide_false, and_self, and_true, true_and, Nat.zero_add, BEq.rfl, reduceCtorEq, Bool.and_self])]
    rw [seq_nx (ρ' := [some (.W s0 (n+1+1+1+1+1+1+1+1)), some (.v (.int (1 + s0 n % 30))), some (.v (.int (1 + s0 (n+1) % 4))), some (.v (.int (1 + s0 (n+1+1) % 30))), some (.v (.int (1 + s0 (n+1+1+1) % 4))), some (.v (.tup [.int p, .int q])), some (.v (.tup [.int r, .int s])), some (.v (.int (s0 (n+1+1+1+1) % 60))), some (.v (.int ((s0 (n+1+1+1+1) % 60) * s * p / (r * q)))), some (.v (.tup [.int x, .int y])), some (.v (.int (1 + s0 (n+1+1+1+1+1+1+1) % 25))), some (.v (.lst ((lin (s * p) (r * q) N).map D.int))), some (.v (.tup ((cnts (s * p) (r * q) N).map D.int))), some (.v (.int m)), some (.v (.int k)), some (.v (.tup [.int m, .int k])), some (.v (.tup [.int u, .int l])), none, none]) (by simp (disch := first | assumption | omega) only [e15, e16, runF, runW, atW, eVar, eC, eOp, eUn, tB', eChain, tAnd', tOr', tNot', eAnd, eOr, dNot, eIf, aNil, aCons, eTup, fLst, Ct.d, Ct.sl, eF, fDict0, eCB, eCall, eCallW, gName', gNil', gCons', gTup', sNil, sSeq, Fd.dropE, sFg, sSet, sOwn, sRet, sDrop, sIf, sAug, vAdd, vAddI, vSub, vMulL, vMulR, vFdiv, vMod, vPow, vShl, vShr, vLt, vLe, vGt, vGe, vNeg, vEqI, vNeI, vEqN, bT, bF, dT, dF, vIxT, vIxL, vAt0, vAt1, vAt2, vAt3, isNon, dIsN, dNotN, dIsB, dNotB, lE, lF, lNil, sPar, setAll, Fd.rd, Fd.fr, Fd.rds, Fd.frs, slD, cLen, cAbs, cInt, cMax2, cMin2, cTuple, cList, dIsi, isTy, isL, isM, ↓bindM, Option.map_some, List.getElem?_cons_zero, List.getElem?_cons_succ, List.set_cons_zero, List.set_cons_succ, List.length_cons, List.length_nil, List.map_cons, List.map_nil, List.cons_append, List.nil_append, List.replicate_succ, List.replicate_zero, Nat.reduceAdd, Nat.reduceSub, Nat.reduceLeDiff, ite_true, ite_false, if_true, if_false, if_pos, if_neg, Int.toNat_zero, reduceIte, Bool.not_true, Bool.not_false, Int.reduceNeg, Int.reduceLE, Int.reduceLT, Int.reduceToNat, Nat.reduceEqDiff, Bool.false_eq_true, decide_true, decide_false, and_self, and_true, true_and, Nat.zero_add, BEq.rfl, reduceCtorEq, Bool.and_self])]
    rw [seq_nx (ρ' := [some (.W s0 (n+1+1+1+1+1+1+1+1)), some (.v (.int (1 + s0 n % 30))), some (.v (.int (1 + s0 (n+1) % 4))), some (.v (.int (1 + s0 (n+1+1) % 30))), some (.v (.int (1 + s0 (n+1+1+1) % 4))), some (.v (.tup [.int p, .int q])), some (.v (.tup [.int r, .int s])), some (.v (.int (s0 (n+1+1+1+1) % 60))), some (.v (.int ((s0 (n+1+1+1+1) % 60) * s * p / (r * q)))), some (.v (.tup [.int x, .int y])), some (.v (.int (1 + s0 (n+1+1+1+1+1+1+1) % 25))), some (.v (.lst ((lin (s * p) (r * q) N).map D.int))), some (.v (.tup ((cnts (s * p) (r * q) N).map D.int))), some (.v (.int m)), some (.v (.int k)), some (.v (.tup [.int m, .int k])), some (.v (.tup [.int u, .int l])), some (.v (.tup (meets m k 3))), none]) (by simp (disch := first | assumption | omega) only [e17, runF, runW, atW, eVar, eC, eOp, eUn, tB', eChain, tAnd', tOr', tNot', eAnd, eOr, dNot, eIf, aNil, aCons, eTup, fLst, Ct.d, Ct.sl, eF, fDict0, eCB, eCall, eCallW, gName', gNil', gCons', gTup', sNil, sSeq, Fd.dropE, sFg, sSet, sOwn, sRet, sDrop, sIf, sAug, vAdd, vAddI, vSub, vMulL, vMulR, vFdiv, vMod, vPow, vShl, vShr, vLt, vLe, vGt, vGe, vNeg, vEqI, vNeI, vEqN, bT, bF, dT, dF, vIxT, vIxL, vAt0, vAt1, vAt2, vAt3, isNon, dIsN, dNotN, dIsB, dNotB, lE, lF, lNil, sPar, setAll, Fd.rd, Fd.fr, Fd.rds, Fd.frs, slD, cLen, cAbs, cInt, cMax2, cMin2, cTuple, cList, dIsi, isTy, isL, isM, ↓bindM, Option.map_some, List.getElem?_cons_zero, List.getElem?_cons_succ, List.set_cons_zero, List.set_cons_succ, List.length_cons, List.length_nil, List.map_cons, List.map_nil, List.cons_append, List.nil_append, List.replicate_succ, List.replicate_zero, Nat.reduceAdd, Nat.reduceSub, Nat.reduceLeDiff, ite_true, ite_false, if_true, if_false, if_pos, if_neg, Int.toNat_zero, reduceIte, Bool.not_true, Bool.not_false, Int.reduceNeg, Int.reduceLE, Int.reduceLT, Int.reduceToNat, Nat.reduceEqDiff, Bool.false_eq_true, decide_true, decide_false, and_self, and_true, true_and, Nat.zero_add, BEq.rfl, reduceCtorEq, Bool.and_self])]
    have C3 := fLc_at (it := iR1 (aCons (eC (.int 3)) aNil)) (g := gName' 18) (tt := tYes') (f := eTup (aCons (eOp dMul (eVar 18) (eVar 13)) (aCons (eOp dMul (eVar 18) (eVar 14)) aNil))) (vs := [18]) (ρ := [some (.W s0 (n+1+1+1+1+1+1+1+1)), some (.v (.int (1 + s0 n % 30))), some (.v (.int (1 + s0 (n+1) % 4))), some (.v (.int (1 + s0 (n+1+1) % 30))), some (.v (.int (1 + s0 (n+1+1+1) % 4))), some (.v (.tup [.int p, .int q])), some (.v (.tup [.int r, .int s])), some (.v (.int (s0 (n+1+1+1+1) % 60))), some (.v (.int ((s0 (n+1+1+1+1) % 60) * s * p / (r * q)))), some (.v (.tup [.int x, .int y])), some (.v (.int (1 + s0 (n+1+1+1+1+1+1+1) % 25))), some (.v (.lst ((lin (s * p) (r * q) N).map D.int))), some (.v (.tup ((cnts (s * p) (r * q) N).map D.int))), some (.v (.int m)), some (.v (.int k)), some (.v (.tup [.int m, .int k])), some (.v (.tup [.int u, .int l])), some (.v (.tup (meets m k 3))), none]) (ds := rngD 0 3) (oMeet m k) (by simp (disch := first | assumption | omega) only [iR1, runF, runW, atW, eVar, eC, eOp, eUn, tB', eChain, tAnd', tOr', tNot', eAnd, eOr, dNot, eIf, aNil, aCons, eTup, fLst, Ct.d, Ct.sl, eF, fDict0, eCB, eCall, eCallW, gName', gNil', gCons', gTup', sNil, sSeq, Fd.dropE, sFg, sSet, sOwn, sRet, sDrop, sIf, sAug, vAdd, vAddI, vSub, vMulL, vMulR, vFdiv, vMod, vPow, vShl, vShr, vLt, vLe, vGt, vGe, vNeg, vEqI, vNeI, vEqN, bT, bF, dT, dF, vIxT, vIxL, vAt0, vAt1, vAt2, vAt3, isNon, dIsN, dNotN, dIsB, dNotB, lE, lF, lNil, sPar, setAll, Fd.rd, Fd.fr, Fd.rds, Fd.frs, slD, cLen, cAbs, cInt, cMax2, cMin2, cTuple, cList, dIsi, isTy, isL, isM, ↓bindM, Option.map_some, List.getElem?_cons_zero, List.getElem?_cons_succ, List.set_cons_zero, List.set_cons_succ, List.length_cons, List.length_nil, List.map_cons, List.map_nil, List.cons_append, List.nil_append, List.replicate_succ, List.replicate_zero, Nat.reduceAdd, Nat.reduceSub, Nat.reduceLeDiff, ite_true, ite_false, if_true, if_false, if_pos, if_neg, Int.toNat_zero, reduceIte, Bool.not_true, Bool.not_false, Int.reduceNeg, Int.reduceLE, Int.reduceLT, Int.reduceToNat, Nat.reduceEqDiff, Bool.false_eq_true, decide_true, decide_false, and_self, and_true, true_and, Nat.zero_add, BEq.rfl, reduceCtorEq, Bool.and_self]) (by rw [rngD_length]; omega) fun d hd => by
      obtain ⟨i, hi, rfl⟩ := mem_rngD.mp hd
      exact el_meet _ _ (0 + (i : Int)) (by omega) (by omega) _ _ _ _ _ _ _ _ _ _ _ _ _ _ _ _
    rw [fm_meets] at C3
    have e19 := eq_same (show lev LV (.tup [.int 120, .int 1]) = true from rfl)
    simp (disch := first | assumption | omega) only [C3, e18, eq_same (lev_meets _ _), e19, runF, runW, atW, eVar, eC, eOp, eUn, tB', eChain, tAnd', tOr', tNot', eAnd, eOr, dNot, eIf, aNil, aCons, eTup, fLst, Ct.d, Ct.sl, eF, fDict0, eCB, eCall, eCallW, gName', gNil', gCons', gTup', sNil, sSeq, Fd.dropE, sFg, sSet, sOwn, sRet, sDrop, sIf, sAug, vAdd, vAddI, vSub, vMulL, vMulR, vFdiv, vMod, vPow, vShl, vShr, vLt, vLe, vGt, vGe, vNeg, vEqI, vNeI, vEqN, bT, bF, dT, dF, vIxT, vIxL, vAt0, vAt1, vAt2, vAt3, isNon, dIsN, dNotN, dIsB, dNotB, lE, lF, lNil, sPar, setAll, Fd.rd, Fd.fr, Fd.rds, Fd.frs, slD, cLen, cAbs, cInt, cMax2, cMin2, cTuple, cList, dIsi, isTy, isL, isM, ↓bindM, Option.map_some, List.getElem?_cons_zero, List.getElem?_cons_succ, List.set_cons_zero, List.set_cons_succ, List.length_cons, List.length_nil, List.map_cons, List.map_nil, List.cons_append, List.nil_append, List.replicate_succ, List.replicate_zero, Nat.reduceAdd, Nat.reduceSub, Nat.reduceLeDiff, ite_true, ite_false, if_true, if_false, if_pos, if_neg, Int.toNat_zero, reduceIte, Bool.not_true, Bool.not_false, Int.reduceNeg, Int.reduceLE, Int.reduceLT, Int.reduceToNat, Nat.reduceEqDiff, Bool.false_eq_true, decide_true, decide_false, and_self, and_true, true_and, Nat.zero_add, BEq.rfl, reduceCtorEq, Bool.and_self]
  exact ⟨_, runW_rt Fh rfl⟩
end K01

set_option Elab.async false
set_option linter.all false
set_option maxRecDepth 100000
/-! The defs joined; the law. -/
namespace K01
open PySem PySem.Spec PyProof.Rows L2 Fd
theorem all_mk {l : PySem.W.OpenLaw} {w : World} {K : PySem.W.Frag} {h : Heap} {mg : Str → Option Value} {fa f0 f1 f2 f3 f4 f5 f6 f7 f8 f9 f10 f11 f12 f13 f14 f15 f16 f17 f18 : Addr} (X : K.In h) (G : h.Ns mainGlobals mg) (hfa : mg "law" = some (.ref fa))
    {od0 an0 od1 an1 od2 an2 od3 an3 od4 an4 od5 an5 od6 an6 od7 an7 od8 an8 od9 an9 od10 an10 od11 an11 od12 an12 od13 an13 od14 an14 od15 an15 od16 an16 od17 an17 od18 an18 : Option Addr} {sl0 sl1 sl2 sl3 sl4 sl5 sl6 sl7 sl8 sl9 sl10 sl11 sl12 sl13 sl14 sl15 sl16 sl17 sl18 : Array (Option Value)} {oc0 kV0 dc0 pm0 cd0 ct0 oc1 kV1 dc1 pm1 cd1 ct1 oc2 kV2 dc2 pm2 cd2 ct2 oc3 kV3 dc3 pm3 cd3 ct3 oc4 kV4 dc4 pm4 cd4 ct4 oc5 kV5 dc5 pm5 cd5 ct5 oc6 kV6 dc6 pm6 cd6 ct6 oc7 kV7 dc7 pm7 cd7 ct7 oc8 kV8 dc8 pm8 cd8 ct8 oc9 kV9 dc9 pm9 cd9 ct9 oc10 kV10 dc10 pm10 cd10 ct10 oc11 kV11 dc11 pm11 cd11 ct11 oc12 kV12 dc12 pm12 cd12 ct12 oc13 kV13 dc13 pm13 cd13 ct13 oc14 kV14 dc14 pm14 cd14 ct14 oc15 kV15 dc15 pm15 cd15 ct15 oc16 kV16 dc16 pm16 cd16 ct16 oc17 kV17 dc17 pm17 cd17 ct17 oc18 kV18 dc18 pm18 cd18 ct18 : Value}
    (a0 : PySem.W.nsIn K mainGlobals "common" = some (some (.ref f0))) (l0 : K.lookup f0 = some ⟨oc0, od0, .func (PySem.W.fnOf "common" "common" (defArgs t_common) (defBody t_common) (defScope t_common) .none kV0 dc0 pm0 an0 cd0 ct0), sl0⟩) (c0 : PySem.W.codeIn K cd0 "common" = true) (k0 : PySem.W.keepIn K (.ref f0) = true)
    (a1 : PySem.W.nsIn K mainGlobals "floor_of" = some (some (.ref f1))) (l1 : K.lookup f1 = some ⟨oc1, od1, .func (PySem.W.fnOf "floor_of" "floor_of" (defArgs t_floor_of) (defBody t_floor_of) (defScope t_floor_of) .none kV1 dc1 pm1 an1 cd1 ct1), sl1⟩) (c1 : PySem.W.codeIn K cd1 "floor_of" = true) (k1 : PySem.W.keepIn K (.ref f1) = true)
    (a2 : PySem.W.nsIn K mainGlobals "is_even" = some (some (.ref f2))) (l2 : K.lookup f2 = some ⟨oc2, od2, .func (PySem.W.fnOf "is_even" "is_even" (defArgs t_is_even) (defBody t_is_even) (defScope t_is_even) .none kV2 dc2 pm2 an2 cd2 ct2), sl2⟩) (c2 : PySem.W.codeIn K cd2 "is_even" = true) (k2 : PySem.W.keepIn K (.ref f2) = true)
    (a3 : PySem.W.nsIn K mainGlobals "_law_draws" = some (some (.ref f3))) (l3 : K.lookup f3 = some ⟨oc3, od3, .func (PySem.W.fnOf "_law_draws" "_law_draws" (defArgs t_law_draws) (defBody t_law_draws) (defScope t_law_draws) .none kV3 dc3 pm3 an3 cd3 ct3), sl3⟩) (c3 : PySem.W.codeIn K cd3 "_law_draws" = true) (k3 : PySem.W.keepIn K (.ref f3) = true)
    (a4 : PySem.W.nsIn K mainGlobals "_law_next" = some (some (.ref f4))) (l4 : K.lookup f4 = some ⟨oc4, od4, .func (PySem.W.fnOf "_law_next" "_law_next" (defArgs t_law_next) (defBody t_law_next) (defScope t_law_next) .none kV4 dc4 pm4 an4 cd4 ct4), sl4⟩) (c4 : PySem.W.codeIn K cd4 "_law_next" = true) (k4 : PySem.W.keepIn K (.ref f4) = true)
    (a5 : PySem.W.nsIn K mainGlobals "_law_least" = some (some (.ref f5))) (l5 : K.lookup f5 = some ⟨oc5, od5, .func (PySem.W.fnOf "_law_least" "_law_least" (defArgs t_law_least) (defBody t_law_least) (defScope t_law_least) .none kV5 dc5 pm5 an5 cd5 ct5), sl5⟩) (c5 : PySem.W.codeIn K cd5 "_law_least" = true) (k5 : PySem.W.keepIn K (.ref f5) = true)
    (a6 : PySem.W.nsIn K mainGlobals "fraction" = some (some (.ref f6))) (l6 : K.lookup f6 = some ⟨oc6, od6, .func (PySem.W.fnOf "fraction" "fraction" (defArgs t_fraction) (defBody t_fraction) (defScope t_fraction) .none kV6 dc6 pm6 an6 cd6 ct6), sl6⟩) (c6 : PySem.W.codeIn K cd6 "fraction" = true) (k6 : PySem.W.keepIn K (.ref f6) = true)
    (a7 : PySem.W.nsIn K mainGlobals "least_multiple" = some (some (.ref f7))) (l7 : K.lookup f7 = some ⟨oc7, od7, .func (PySem.W.fnOf "least_multiple" "least_multiple" (defArgs t_least_multiple) (defBody t_least_multiple) (defScope t_least_multiple) .none kV7 dc7 pm7 an7 cd7 ct7), sl7⟩) (c7 : PySem.W.codeIn K cd7 "least_multiple" = true) (k7 : PySem.W.keepIn K (.ref f7) = true)
    (a8 : PySem.W.nsIn K mainGlobals "times" = some (some (.ref f8))) (l8 : K.lookup f8 = some ⟨oc8, od8, .func (PySem.W.fnOf "times" "times" (defArgs t_times) (defBody t_times) (defScope t_times) .none kV8 dc8 pm8 an8 cd8 ct8), sl8⟩) (c8 : PySem.W.codeIn K cd8 "times" = true) (k8 : PySem.W.keepIn K (.ref f8) = true)
    (a9 : PySem.W.nsIn K mainGlobals "parted" = some (some (.ref f9))) (l9 : K.lookup f9 = some ⟨oc9, od9, .func (PySem.W.fnOf "parted" "parted" (defArgs t_parted) (defBody t_parted) (defScope t_parted) .none kV9 dc9 pm9 an9 cd9 ct9), sl9⟩) (c9 : PySem.W.codeIn K cd9 "parted" = true) (k9 : PySem.W.keepIn K (.ref f9) = true)
    (a10 : PySem.W.nsIn K mainGlobals "common_rate" = some (some (.ref f10))) (l10 : K.lookup f10 = some ⟨oc10, od10, .func (PySem.W.fnOf "common_rate" "common_rate" (defArgs t_common_rate) (defBody t_common_rate) (defScope t_common_rate) .none kV10 dc10 pm10 an10 cd10 ct10), sl10⟩) (c10 : PySem.W.codeIn K cd10 "common_rate" = true) (k10 : PySem.W.keepIn K (.ref f10) = true)
    (a11 : PySem.W.nsIn K mainGlobals "frame_at" = some (some (.ref f11))) (l11 : K.lookup f11 = some ⟨oc11, od11, .func (PySem.W.fnOf "frame_at" "frame_at" (defArgs t_frame_at) (defBody t_frame_at) (defScope t_frame_at) .none kV11 dc11 pm11 an11 cd11 ct11), sl11⟩) (c11 : PySem.W.codeIn K cd11 "frame_at" = true) (k11 : PySem.W.keepIn K (.ref f11) = true)
    (a12 : PySem.W.nsIn K mainGlobals "begin_of" = some (some (.ref f12))) (l12 : K.lookup f12 = some ⟨oc12, od12, .func (PySem.W.fnOf "begin_of" "begin_of" (defArgs t_begin_of) (defBody t_begin_of) (defScope t_begin_of) .none kV12 dc12 pm12 an12 cd12 ct12), sl12⟩) (c12 : PySem.W.codeIn K cd12 "begin_of" = true) (k12 : PySem.W.keepIn K (.ref f12) = true)
    (a13 : PySem.W.nsIn K mainGlobals "again_of" = some (some (.ref f13))) (l13 : K.lookup f13 = some ⟨oc13, od13, .func (PySem.W.fnOf "again_of" "again_of" (defArgs t_again_of) (defBody t_again_of) (defScope t_again_of) .none kV13 dc13 pm13 an13 cd13 ct13), sl13⟩) (c13 : PySem.W.codeIn K cd13 "again_of" = true) (k13 : PySem.W.keepIn K (.ref f13) = true)
    (a14 : PySem.W.nsIn K mainGlobals "told_at" = some (some (.ref f14))) (l14 : K.lookup f14 = some ⟨oc14, od14, .func (PySem.W.fnOf "told_at" "told_at" (defArgs t_told_at) (defBody t_told_at) (defScope t_told_at) .none kV14 dc14 pm14 an14 cd14 ct14), sl14⟩) (c14 : PySem.W.codeIn K cd14 "told_at" = true) (k14 : PySem.W.keepIn K (.ref f14) = true)
    (a15 : PySem.W.nsIn K mainGlobals "shared_begins" = some (some (.ref f15))) (l15 : K.lookup f15 = some ⟨oc15, od15, .func (PySem.W.fnOf "shared_begins" "shared_begins" (defArgs t_shared_begins) (defBody t_shared_begins) (defScope t_shared_begins) .none kV15 dc15 pm15 an15 cd15 ct15), sl15⟩) (c15 : PySem.W.codeIn K cd15 "shared_begins" = true) (k15 : PySem.W.keepIn K (.ref f15) = true)
    (a16 : PySem.W.nsIn K mainGlobals "shown_times" = some (some (.ref f16))) (l16 : K.lookup f16 = some ⟨oc16, od16, .func (PySem.W.fnOf "shown_times" "shown_times" (defArgs t_shown_times) (defBody t_shown_times) (defScope t_shown_times) .none kV16 dc16 pm16 an16 cd16 ct16), sl16⟩) (c16 : PySem.W.codeIn K cd16 "shown_times" = true) (k16 : PySem.W.keepIn K (.ref f16) = true)
    (a17 : PySem.W.nsIn K mainGlobals "_law_holds" = some (some (.ref f17))) (l17 : K.lookup f17 = some ⟨oc17, od17, .func (PySem.W.fnOf "_law_holds" "_law_holds" (defArgs t_law_holds) (defBody t_law_holds) (defScope t_law_holds) .none kV17 dc17 pm17 an17 cd17 ct17), sl17⟩) (c17 : PySem.W.codeIn K cd17 "_law_holds" = true) (k17 : PySem.W.keepIn K (.ref f17) = true)
    (a18 : PySem.W.nsIn K mainGlobals "law" = some (some (.ref f18))) (l18 : K.lookup f18 = some ⟨oc18, od18, .func (PySem.W.fnOf "law" "law" (defArgs t_law) (defBody t_law) (defScope t_law) .none kV18 dc18 pm18 an18 cd18 ct18), sl18⟩) (c18 : PySem.W.codeIn K cd18 "law" = true) (k18 : PySem.W.keepIn K (.ref f18) = true)
    (z_abs : PySem.W.nsIn K mainGlobals "abs" = some none)
    (z_int : PySem.W.nsIn K mainGlobals "int" = some none)
    (z_len : PySem.W.nsIn K mainGlobals "len" = some none)
    (z_max : PySem.W.nsIn K mainGlobals "max" = some none)
    (z_min : PySem.W.nsIn K mainGlobals "min" = some none)
    (z_range : PySem.W.nsIn K mainGlobals "range" = some none)
    (z_tuple : PySem.W.nsIn K mainGlobals "tuple" = some none)
    : ∃ fd : FuncData, (∀ (s : Shared) (v : Value), BindsTo s fd ⟨[v], []⟩ [("script", v)]) ∧ ∀ base : Heap, K.In base → base.Ns mainGlobals mg → FnOk l.prog w K mg base CX0 8 fa fd P_law (spLaw K) := by
  have e := hfa.symm.trans (PySem.W.mg_of X G a18)
  cases e
  have T : Txt mg := ⟨PySem.W.mg_none_of X G z_abs, PySem.W.mg_none_of X G z_int, PySem.W.mg_none_of X G z_len, PySem.W.mg_none_of X G z_max, PySem.W.mg_none_of X G z_min, PySem.W.mg_none_of X G z_range, PySem.W.mg_none_of X G z_tuple⟩
  refine ⟨PySem.W.fnOf "law" "law" (defArgs t_law) (defBody t_law) (defScope t_law) .none kV18 dc18 pm18 an18 cd18 ct18, fun s v => .of_eq rfl, fun base _ _ => ?_⟩
  have F0 := fun_mk (st := t_common) l0 c0 k0
  have b0 := F0.binds (ps := P_common) fun _ _ _ _ _ _ us hl => match us, hl with | [_, _], _ => rfl
  have C_common : Cal l.prog w K mg base "common" 1 P_common (spD K F_common) := Cal.of F0 (ok_common F0 T ) (PySem.W.mg_of X G a0) b0
  have F1 := fun_mk (st := t_floor_of) l1 c1 k1
  have b1 := F1.binds (ps := P_floor_of) fun _ _ _ _ _ _ us hl => match us, hl with | [_], _ => rfl
  have C_floor_of : Cal l.prog w K mg base "floor_of" 1 P_floor_of (spD K F_floor_of) := Cal.of F1 (ok_floor_of F1 T ) (PySem.W.mg_of X G a1) b1
  have F2 := fun_mk (st := t_is_even) l2 c2 k2
  have b2 := F2.binds (ps := P_is_even) fun _ _ _ _ _ _ us hl => match us, hl with | [_], _ => rfl
  have C_is_even : Cal l.prog w K mg base "is_even" 1 P_is_even (spD K F_is_even) := Cal.of F2 (ok_is_even F2 T ) (PySem.W.mg_of X G a2) b2
  have F3 := fun_mk (st := t_law_draws) l3 c3 k3
  have b3 := F3.binds (ps := P_law_draws) fun _ _ _ _ _ _ us hl => match us, hl with | [_, _], _ => rfl
  have C_law_draws : Cal l.prog w K mg base "_law_draws" 1 P_law_draws (spDr K) := Cal.of F3 (ok_law_draws F3 T ) (PySem.W.mg_of X G a3) b3
  have F4 := fun_mk (st := t_law_next) l4 c4 k4
  have b4 := F4.binds (ps := P_law_next) fun _ _ _ _ _ _ us hl => match us, hl with | [_, _], _ => rfl
  have C_law_next : Cal l.prog w K mg base "_law_next" 1 P_law_next (spW K F_law_next) := Cal.of F4 (ok_law_next F4 T ) (PySem.W.mg_of X G a4) b4
  have F5 := fun_mk (st := t_law_least) l5 c5 k5
  have b5 := F5.binds (ps := P_law_least) fun _ _ _ _ _ _ us hl => match us, hl with | [_, _], _ => rfl
  have C_law_least : Cal l.prog w K mg base "_law_least" 1 P_law_least (spD K F_law_least) := Cal.of F5 (ok_law_least F5 T ) (PySem.W.mg_of X G a5) b5
  have F6 := fun_mk (st := t_fraction) l6 c6 k6
  have b6 := F6.binds (ps := P_fraction) fun _ _ _ _ _ _ us hl => match us, hl with | [_, _], _ => rfl
  have C_fraction : Cal l.prog w K mg base "fraction" 2 P_fraction (spD K F_fraction) := Cal.of F6 (ok_fraction F6 T C_common) (PySem.W.mg_of X G a6) b6
  have F7 := fun_mk (st := t_least_multiple) l7 c7 k7
  have b7 := F7.binds (ps := P_least_multiple) fun _ _ _ _ _ _ us hl => match us, hl with | [_, _], _ => rfl
  have C_least_multiple : Cal l.prog w K mg base "least_multiple" 2 P_least_multiple (spD K F_least_multiple) := Cal.of F7 (ok_least_multiple F7 T C_common) (PySem.W.mg_of X G a7) b7
  have F8 := fun_mk (st := t_times) l8 c8 k8
  have b8 := F8.binds (ps := P_times) fun _ _ _ _ _ _ us hl => match us, hl with | [_, _], _ => rfl
  have C_times : Cal l.prog w K mg base "times" 3 P_times (spD K F_times) := Cal.of F8 (ok_times F8 T C_fraction) (PySem.W.mg_of X G a8) b8
  have F9 := fun_mk (st := t_parted) l9 c9 k9
  have b9 := F9.binds (ps := P_parted) fun _ _ _ _ _ _ us hl => match us, hl with | [_, _], _ => rfl
  have C_parted : Cal l.prog w K mg base "parted" 3 P_parted (spD K F_parted) := Cal.of F9 (ok_parted F9 T C_fraction) (PySem.W.mg_of X G a9) b9
  have F10 := fun_mk (st := t_common_rate) l10 c10 k10
  have b10 := F10.binds (ps := P_common_rate) fun _ _ _ _ _ _ us hl => match us, hl with | [_], _ => rfl
  have C_common_rate : Cal l.prog w K mg base "common_rate" 3 P_common_rate (spD K F_common_rate) := Cal.of F10 (ok_common_rate F10 T C_common C_fraction C_least_multiple) (PySem.W.mg_of X G a10) b10
  have F11 := fun_mk (st := t_frame_at) l11 c11 k11
  have b11 := F11.binds (ps := P_frame_at) fun _ _ _ _ _ _ us hl => match us, hl with | [_, _], _ => rfl
  have C_frame_at : Cal l.prog w K mg base "frame_at" 4 P_frame_at (spD K F_frame_at) := Cal.of F11 (ok_frame_at F11 T C_times C_floor_of) (PySem.W.mg_of X G a11) b11
  have F12 := fun_mk (st := t_begin_of) l12 c12 k12
  have b12 := F12.binds (ps := P_begin_of) fun _ _ _ _ _ _ us hl => match us, hl with | [_, _], _ => rfl
  have C_begin_of : Cal l.prog w K mg base "begin_of" 4 P_begin_of (spD K F_begin_of) := Cal.of F12 (ok_begin_of F12 T C_parted) (PySem.W.mg_of X G a12) b12
  have F13 := fun_mk (st := t_again_of) l13 c13 k13
  have b13 := F13.binds (ps := P_again_of) fun _ _ _ _ _ _ us hl => match us, hl with | [_, _], _ => rfl
  have C_again_of : Cal l.prog w K mg base "again_of" 4 P_again_of (spD K F_again_of) := Cal.of F13 (ok_again_of F13 T C_parted) (PySem.W.mg_of X G a13) b13
  have F14 := fun_mk (st := t_told_at) l14 c14 k14
  have b14 := F14.binds (ps := P_told_at) fun _ _ _ _ _ _ us hl => match us, hl with | [_, _, _], _ => rfl
  have C_told_at : Cal l.prog w K mg base "told_at" 5 P_told_at (spD K F_told_at) := Cal.of F14 (ok_told_at F14 T C_frame_at C_begin_of) (PySem.W.mg_of X G a14) b14
  have F15 := fun_mk (st := t_shared_begins) l15 c15 k15
  have b15 := F15.binds (ps := P_shared_begins) fun _ _ _ _ _ _ us hl => match us, hl with | [_, _, _], _ => rfl
  have C_shared_begins : Cal l.prog w K mg base "shared_begins" 5 P_shared_begins (spD K F_shared_begins) := Cal.of F15 (ok_shared_begins F15 T C_times C_begin_of) (PySem.W.mg_of X G a15) b15
  have F16 := fun_mk (st := t_shown_times) l16 c16 k16
  have b16 := F16.binds (ps := P_shown_times) fun _ _ _ _ _ _ us hl => match us, hl with | [_, _, _], _ => rfl
  have C_shown_times : Cal l.prog w K mg base "shown_times" 6 P_shown_times (spD K F_shown_times) := Cal.of F16 (ok_shown_times F16 T C_told_at) (PySem.W.mg_of X G a16) b16
  have F17 := fun_mk (st := t_law_holds) l17 c17 k17
  have b17 := F17.binds (ps := P_law_holds) fun _ _ _ _ _ _ us hl => match us, hl with | [_], _ => rfl
  have C_law_holds : Cal l.prog w K mg base "_law_holds" 7 P_law_holds (spW K F_law_holds) := Cal.of F17 (ok_law_holds F17 T C_frame_at C_begin_of C_told_at C_shown_times C_is_even C_again_of C_common_rate C_shared_begins C_law_next C_law_least) (PySem.W.mg_of X G a17) b17
  have F18 := fun_mk (st := t_law) l18 c18 k18
  exact ok_law F18 T C_law_draws C_law_holds hold
theorem walk {l : PySem.W.OpenLaw} {q : Program} {loose : List Str} {XP : (Str → Option Value) → Heap → Prop} {YP : World → Heap → Prop} {d : DefRec} {K : Params → PySem.W.Frag} (hn : l.most = some 63) (hdf : d.params.defaults = [])
    (hY : ∀ (w : World) (h : Heap), YP w h → (K w.params).In h)
    (F : ∀ (w : World) (mg : Str → Option Value) (fa : Addr) (h : Heap), (K w.params).In h → h.Ns mainGlobals mg → mg d.name = some (.ref fa) →
      ∃ fd : FuncData, (∀ (s : Shared) (u : Value), BindsTo s fd ⟨[u], []⟩ [("script", u)]) ∧ ∀ base : Heap, (K w.params).In base → base.Ns mainGlobals mg → FnOk l.prog w (K w.params) mg base CX0 8 fa fd P_law (spLaw (K w.params))) :
    PySem.W.WalkO q loose XP YP l.row.toRowW d [] (fun f vs => PySem.call f vs) :=
  L2.walk_of (n := 63) (k := 8) (x := "script") (CX := fun _ => CX0) (sp := fun w => spLaw (K w.params)) hn (by decide) hdf ⟨rfl, by decide, by decide⟩ hY F (fun _ _ a ns hl _ hS => ⟨a, ns, rfl, hS, hl, fun _ => rfl⟩) fun _ _ _ _ _ z => z
end K01
open PySem PySem.W PyProof.Rows in
set_option maxRecDepth 100000 in
set_option maxHeartbeats 0 in
theorem PySem.Challenge.cw_framewright_k01_whole_known_two_rates_si_holds : PySem.Challenge.rw_framewright_k01_whole_known_two_rates_si.Holds := by
  w_on; o_law; k_head; (case hw => w_witness2)
  k_fill
  refine K01.walk (l := PySem.Challenge.rw_framewright_k01_whole_known_two_rates_si) rfl rfl (fun w h Y => PySem.W.kIn_of Y) ?F
  case F =>
    intro w mg fa h KX G hmg
    refine' K01.all_mk KX G hmg ?a0 ?l0 ?c0 ?k0 ?a1 ?l1 ?c1 ?k1 ?a2 ?l2 ?c2 ?k2 ?a3 ?l3 ?c3 ?k3 ?a4 ?l4 ?c4 ?k4 ?a5 ?l5 ?c5 ?k5 ?a6 ?l6 ?c6 ?k6 ?a7 ?l7 ?c7 ?k7 ?a8 ?l8 ?c8 ?k8 ?a9 ?l9 ?c9 ?k9 ?a10 ?l10 ?c10 ?k10 ?a11 ?l11 ?c11 ?k11 ?a12 ?l12 ?c12 ?k12 ?a13 ?l13 ?c13 ?k13 ?a14 ?l14 ?c14 ?k14 ?a15 ?l15 ?c15 ?k15 ?a16 ?l16 ?c16 ?k16 ?a17 ?l17 ?c17 ?k17 ?a18 ?l18 ?c18 ?k18 ?z_abs ?z_int ?z_len ?z_max ?z_min ?z_range ?z_tuple
    (case a0 => k_is)
    (case l0 => k_is)
    (case c0 => k_is)
    (case k0 => k_is)
    (case a1 => k_is)
    (case l1 => k_is)
    (case c1 => k_is)
    (case k1 => k_is)
    (case a2 => k_is)
    (case l2 => k_is)
    (case c2 => k_is)
    (case k2 => k_is)
    (case a3 => k_is)
    (case l3 => k_is)
    (case c3 => k_is)
    (case k3 => k_is)
    (case a4 => k_is)
    (case l4 => k_is)
    (case c4 => k_is)
    (case k4 => k_is)
    (case a5 => k_is)
    (case l5 => k_is)
    (case c5 => k_is)
    (case k5 => k_is)
    (case a6 => k_is)
    (case l6 => k_is)
    (case c6 => k_is)
    (case k6 => k_is)
    (case a7 => k_is)
    (case l7 => k_is)
    (case c7 => k_is)
    (case k7 => k_is)
    (case a8 => k_is)
    (case l8 => k_is)
    (case c8 => k_is)
    (case k8 => k_is)
    (case a9 => k_is)
    (case l9 => k_is)
    (case c9 => k_is)
    (case k9 => k_is)
    (case a10 => k_is)
    (case l10 => k_is)
    (case c10 => k_is)
    (case k10 => k_is)
    (case a11 => k_is)
    (case l11 => k_is)
    (case c11 => k_is)
    (case k11 => k_is)
    (case a12 => k_is)
    (case l12 => k_is)
    (case c12 => k_is)
    (case k12 => k_is)
    (case a13 => k_is)
    (case l13 => k_is)
    (case c13 => k_is)
    (case k13 => k_is)
    (case a14 => k_is)
    (case l14 => k_is)
    (case c14 => k_is)
    (case k14 => k_is)
    (case a15 => k_is)
    (case l15 => k_is)
    (case c15 => k_is)
    (case k15 => k_is)
    (case a16 => k_is)
    (case l16 => k_is)
    (case c16 => k_is)
    (case k16 => k_is)
    (case a17 => k_is)
    (case l17 => k_is)
    (case c17 => k_is)
    (case k17 => k_is)
    (case a18 => k_is)
    (case l18 => k_is)
    (case c18 => k_is)
    (case k18 => k_is)
    (case z_abs => k_is)
    (case z_int => k_is)
    (case z_len => k_is)
    (case z_max => k_is)
    (case z_min => k_is)
    (case z_range => k_is)
    (case z_tuple => k_is)

