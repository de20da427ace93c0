import PyProof.Rows.All
import Wide.All
import OpenK.AllK
import Wide.FinOn
import HandS.ForMost
import HandS.Style
import HandS.IsInst
import HandS.Wide
import HandS.Conv
import HandS.Zip
import KE.KTupSum
import KE.GoesEnum
import KE.GoesMore
import HandS.OwnIter
import KE.KDictZip
import HandS.TupAny
import HandS.TupSets
import HandS.TupMul
import KE.SortData
import KE.DataFind
import KE.DataMinMax
import HandS.Flow
import HandS.Rev
import HandS.Strs
import HandS.Words
import PySem.Challenge.RW_liarschange_k35_whole_patterns_by_sides
set_option Elab.async false
set_option linter.all false
set_option maxRecDepth 100000
set_option maxHeartbeats 4000000
namespace Pv
open PySem PySem.Spec PyProof.Rows L2

/-! ## data -/
inductive D where
  | non | bl (b : Bool) | int (i : Int) | str (s : Str) | tup (xs : List D) | lst (xs : List D) | scr (xs : List Int) | hd (n : Nat)
  | itm (xs : List D) | fn (f : Str) | dct (ks : List L2.Key) (xs : List D) | ins (c : Str) (ns : List Str) (xs : List D)
  deriving Inhabited

def Ex (H H' : Hp) : Prop := ∀ a o, H a = some o → H' a = some o
theorem Ex.refl (H : Hp) : Ex H H := fun _ _ h => h
theorem Ex.trans {H H1 H2 : Hp} (a : Ex H H1) (b : Ex H1 H2) : Ex H H2 := fun x o h => b x o (a x o h)
theorem Ex.new {H : Hp} {p : Addr} {o : HO} (h : H p = none) : Ex H (upd H p o) := fun a u e => by
  rw [upd_ne (ne_of_none e h)]
  exact e
theorem Ex.mut {H H' : Hp} {p : Addr} {o : HO} (e : Ex H H') (h : H p = none) : Ex H (upd H' p o) := fun a u ha => by
  rw [upd_ne (ne_of_none ha h)]
  exact e a u ha
theorem Ex.back {H H' : Hp} {p : Addr} (e : Ex H H') (h : H' p = none) : H p = none := by
  cases h1 : H p with
  | none => rfl
  | some o => rw [e p o h1] at h; cases h
theorem Ex.upd2 {H H' : Hp} {p : Addr} {o : HO} (e : Ex H H') : Ex (upd H p o) (upd H' p o) := fun a u ha => by
  unfold upd at ha ⊢
  split
  · rename_i q; rw [if_pos q] at ha; exact ha
  · rename_i q; rw [if_neg q] at ha; exact e a u ha
theorem ex_rd {H H' : Hp} {a : Addr} {u : HO} (e : Ex H H') (h : Rd H a u) : Rd H' a u := by
  rcases h with h | ⟨o, h⟩
  · exact .inl (e a _ h)
  · exact .inr ⟨o, e a _ h⟩
theorem ex_l {K : PySem.W.Frag} {H H' : Hp} {a : Addr} {xs : List V} (e : Ex H H') (h : SqL K H a xs) : SqL K H' a xs := by
  rcases h with h | h
  · exact .inl (ex_rd e h)
  · exact .inr h
theorem ex_t {K : PySem.W.Frag} {H H' : Hp} {a : Addr} {xs : List V} (e : Ex H H') (h : SqT K H a xs) : SqT K H' a xs := by
  rcases h with h | h
  · exact .inl (ex_rd e h)
  · exact .inr h

/-- a tuple's object is known to have no dict -/
def PTu (K : PySem.W.Frag) (B : Hp) (a : Addr) : Prop := (∃ o u, B a = some (.frz o u) ∧ o.dict = none) ∨ ∃ o, K.lookup a = some o ∧ o.dict = none
theorem ex_pt {K : PySem.W.Frag} {H H' : Hp} {a : Addr} (e : Ex H H') (h : PTu K H a) : PTu K H' a := by
  rcases h with ⟨o, u, h, d⟩ | h
  · exact .inl ⟨o, u, e a _ h, d⟩
  · exact .inr h
/-- the handles' addresses are continued -/
def Px (A A' : List Addr) : Prop := ∀ (n : Nat) a, A[n]? = some a → A'[n]? = some a
theorem Px.refl (A : List Addr) : Px A A := fun _ _ h => h
theorem Px.trans {A B C : List Addr} (a : Px A B) (b : Px B C) : Px A C := fun n x h => b n x (a n x h)
theorem Px.app {A C : List Addr} : Px A (A ++ C) := fun n a h => by
  have hn := (List.getElem?_eq_some_iff.mp h).1
  rw [List.getElem?_append_left hn]; exact h
theorem Px.len {A B : List Addr} (a : Px A B) : A.length ≤ B.length := by
  cases h : A.length with
  | zero => exact Nat.zero_le _
  | succ n =>
    have hn : n < A.length := by omega
    have e := a n A[n] (List.getElem?_eq_getElem hn)
    have := (List.getElem?_eq_some_iff.mp e).1
    omega

mutual
inductive Ho (K : PySem.W.Frag) (A : List Addr) (B : Hp) : V → D → Prop
  | non : Ho K A B .non .non
  | bl (b : Bool) : Ho K A B (.bl b) (.bl b)
  | int (i : Int) : Ho K A B (.int i) (.int i)
  | str (s : Str) : Ho K A B (.str s) (.str s)
  | tup {a : Addr} {vs : List V} {ds : List D} : SqT K B a vs → PTu K B a → HoL K A B vs ds → Ho K A B (.ref a) (.tup ds)
  | lst {a : Addr} {vs : List V} {ds : List D} : B a = some (.lst vs) → HoL K A B vs ds → Ho K A B (.ref a) (.lst ds)
  | scr {a : Addr} {ns : List Int} : SqL K B a (ns.map V.int) → Ho K A B (.ref a) (.scr ns)
  | hd {a : Addr} {n : Nat} : A[n]? = some a → Ho K A B (.ref a) (.hd n)
  | itm {a : Addr} {vs : List V} {ds : List D} : SqT K B a vs → HoL K A B vs ds → Ho K A B (.ref a) (.itm ds)
  | fn {a : Addr} {f : Str} : PySem.W.nsIn K mainGlobals f = some (some (.ref a)) → Ho K A B (.ref a) (.fn f)
  | dct {a : Addr} {ks : List L2.Key} {vs : List V} {ds : List D} : B a = some (.dK (ks.zip vs)) → ks.length = vs.length → HoL K A B vs ds → Ho K A B (.ref a) (.dct ks ds)
  | ins {a C dx : Addr} {c : Str} {ns : List Str} {vs : List V} {ds : List D} : B a = some (.ins C dx (ns.zip vs)) → ns.length = vs.length → PySem.W.nsIn K mainGlobals c = some (some (.ref C)) → HoL K A B vs ds → Ho K A B (.ref a) (.ins c ns ds)
inductive HoL (K : PySem.W.Frag) (A : List Addr) (B : Hp) : List V → List D → Prop
  | nil : HoL K A B [] []
  | cons {v : V} {vs : List V} {d : D} {ds : List D} : Ho K A B v d → HoL K A B vs ds → HoL K A B (v :: vs) (d :: ds)
end
section
variable {K : PySem.W.Frag} {A A' : List Addr} {B B' : Hp}
mutual
theorem Ho.mono (hA : Px A A') (hB : Ex B B') : ∀ (d : D) {v : V}, Ho K A B v d → Ho K A' B' v d
  | .non, _, h => by cases h; exact .non
  | .bl _, _, h => by cases h; exact .bl _
  | .int _, _, h => by cases h; exact .int _
  | .str _, _, h => by cases h; exact .str _
  | .tup ds, _, h => by cases h with | tup h1 h3 h2 => exact .tup (ex_t hB h1) (ex_pt hB h3) (HoL.mono hA hB ds h2)
  | .itm ds, _, h => by cases h with | itm h1 h2 => exact .itm (ex_t hB h1) (HoL.mono hA hB ds h2)
  | .fn _, _, h => by cases h with | fn h1 => exact .fn h1
  | .dct ks ds, _, h => by cases h with | dct h1 h3 h2 => exact .dct (hB _ _ h1) h3 (HoL.mono hA hB ds h2)
  | .ins c ns ds, _, h => by cases h with | ins h1 h3 h4 h2 => exact .ins (hB _ _ h1) h3 h4 (HoL.mono hA hB ds h2)
  | .lst ds, _, h => by cases h with | lst h1 h2 => exact .lst (hB _ _ h1) (HoL.mono hA hB ds h2)
  | .scr _, _, h => by cases h with | scr h1 => exact .scr (ex_l hB h1)
  | .hd _, _, h => by cases h with | hd h1 => exact .hd (hA _ _ h1)
theorem HoL.mono (hA : Px A A') (hB : Ex B B') : ∀ (ds : List D) {vs : List V}, HoL K A B vs ds → HoL K A' B' vs ds
  | [], _, h => by cases h; exact .nil
  | d :: ds, _, h => by cases h with | cons h1 h2 => exact .cons (Ho.mono hA hB d h1) (HoL.mono hA hB ds h2)
end
theorem HoL.length {vs : List V} {ds : List D} (h : HoL K A B vs ds) : vs.length = ds.length := by
  induction ds generalizing vs with
  | nil => cases h; rfl
  | cons d ds ih => cases h with | cons _ h2 => simp [ih h2]
theorem HoL.get {vs : List V} {ds : List D} (h : HoL K A B vs ds) {i : Nat} {d : D} (e : ds[i]? = some d) : ∃ v, vs[i]? = some v ∧ Ho K A B v d := by
  induction ds generalizing vs i with
  | nil => simp at e
  | cons x ds ih =>
    cases h with
    | cons h1 h2 =>
      cases i with
      | zero => simp at e; subst e; exact ⟨_, rfl, h1⟩
      | succ i => simpa using ih h2 (by simpa using e)
theorem HoL.getV {vs : List V} {ds : List D} (h : HoL K A B vs ds) {i : Nat} {v : V} (e : vs[i]? = some v) : ∃ d, ds[i]? = some d ∧ Ho K A B v d := by
  have hi := (List.getElem?_eq_some_iff.mp e).1
  rw [h.length] at hi
  obtain ⟨v', e', r⟩ := h.get (List.getElem?_eq_getElem hi)
  rw [e] at e'; cases e'
  exact ⟨_, List.getElem?_eq_getElem hi, r⟩
theorem HoL.append {vs ws : List V} {ds es : List D} (h : HoL K A B vs ds) (h' : HoL K A B ws es) : HoL K A B (vs ++ ws) (ds ++ es) := by
  induction ds generalizing vs with
  | nil => cases h; exact h'
  | cons d ds ih => cases h with | cons h1 h2 => exact .cons h1 (ih h2)
theorem HoL.take {vs : List V} {ds : List D} (h : HoL K A B vs ds) (n : Nat) : HoL K A B (vs.take n) (ds.take n) := by
  induction ds generalizing vs n with
  | nil => cases h; simp; exact .nil
  | cons d ds ih => cases h with | cons h1 h2 => cases n with
    | zero => exact .nil
    | succ n => exact .cons h1 (ih h2 n)
theorem HoL.drop {vs : List V} {ds : List D} (h : HoL K A B vs ds) (n : Nat) : HoL K A B (vs.drop n) (ds.drop n) := by
  induction ds generalizing vs n with
  | nil => cases h; simp; exact .nil
  | cons d ds ih => cases h with | cons h1 h2 => cases n with
    | zero => exact .cons h1 h2
    | succ n => exact ih h2 n
theorem HoL.reverse {vs : List V} {ds : List D} (h : HoL K A B vs ds) : HoL K A B vs.reverse ds.reverse := by
  induction ds generalizing vs with
  | nil => cases h; exact .nil
  | cons d ds ih => cases h with | cons h1 h2 =>
    rw [List.reverse_cons, List.reverse_cons]; exact (ih h2).append (.cons h1 .nil)
theorem HoL.set {vs : List V} {ds : List D} (h : HoL K A B vs ds) {v : V} {d : D} (r : Ho K A B v d) (n : Nat) : HoL K A B (vs.set n v) (ds.set n d) := by
  induction ds generalizing vs n with
  | nil => cases h; simp; exact .nil
  | cons d ds ih => cases h with | cons h1 h2 => cases n with
    | zero => exact .cons r h2
    | succ n => exact .cons h1 (ih h2 n)
theorem HoL.eraseIdx {vs : List V} {ds : List D} (h : HoL K A B vs ds) (n : Nat) : HoL K A B (vs.eraseIdx n) (ds.eraseIdx n) := by
  induction ds generalizing vs n with
  | nil => cases h; simp; exact .nil
  | cons d ds ih => cases h with | cons h1 h2 => cases n with
    | zero => exact h2
    | succ n => exact .cons h1 (ih h2 n)
theorem HoL.dropLast {vs : List V} {ds : List D} (h : HoL K A B vs ds) : HoL K A B vs.dropLast ds.dropLast := by
  rw [List.dropLast_eq_take, List.dropLast_eq_take, h.length]; exact h.take _
theorem HoL.replicate {vs : List V} {ds : List D} (h : HoL K A B vs ds) (n : Nat) : HoL K A B (List.replicate n vs).flatten (List.replicate n ds).flatten := by
  induction n with
  | zero => exact .nil
  | succ n ih => rw [List.replicate_succ, List.replicate_succ, List.flatten_cons, List.flatten_cons]; exact h.append ih
theorem HoL.ints {ns : List Int} : ∀ {vs : List V}, HoL K A B vs (ns.map D.int) → vs = ns.map V.int := by
  induction ns with
  | nil => intro vs h; cases h; rfl
  | cons n ns ih => intro vs h; cases h with | cons h1 h2 => cases h1; rw [ih h2]; rfl
theorem HoL.of_ints {ns : List Int} : HoL K A B (ns.map V.int) (ns.map D.int) := by
  induction ns with
  | nil => exact .nil
  | cons n ns ih => exact .cons (.int n) ih
end

/-! ## the frame, the store, what is owned -/
inductive Sl where
  | no | val (d : D) | own (xs : List D)
  deriving Inhabited
abbrev Env := List Sl
abbrev Sto := List (List D)
inductive Role where
  | s (i : Nat) | t (k : Nat) | h (n : Nat)
  deriving DecidableEq
def cont (ρ : Env) (T : List (Addr × List D)) (st : Sto) : Role → Option (List D)
  | .s i => match ρ[i]? with | some (.own xs) => some xs | _ => none
  | .t k => (T[k]?).map (·.2)
  | .h n => st[n]?
def adr (A : List Addr) (σ : L2.St) (T : List (Addr × List D)) : Role → Option Addr
  | .s i => match σ[i]? with | some (some (.ref a)) => some a | _ => none
  | .t k => (T[k]?).map (·.1)
  | .h n => A[n]?
def Own (K : PySem.W.Frag) (A : List Addr) (B H : Hp) (a : Addr) (xs : List D) : Prop := B a = none ∧ ∃ vs, H a = some (.lst vs) ∧ HoL K A B vs xs

/-- where the frame began -/
structure Org where
  A : List Addr
  B : Hp
  H : Hp
/-- what has become of (A, B, H) -/
structure Fwd (O : Org) (A : List Addr) (B H : Hp) : Prop where
  px : Px O.A A
  ex : Ex O.B B
  nb : ∀ a, O.B a = none → B a ≠ none → O.H a = none
  na : ∀ n a, A[n]? = some a → O.A.length ≤ n → O.H a = none
  kp : ∀ a o, O.H a = some o → a ∉ O.A → H a = some o
  kh : ∀ a, O.H a ≠ none → H a ≠ none
structure Rel (K : PySem.W.Frag) (O : Org) (A : List Addr) (B : Hp) (σ : L2.St) (H : Hp) (ρ : Env) (st : Sto) (T : List (Addr × List D)) : Prop where
  fw : Fwd O A B H
  ex : Ex B H
  len : σ.length = ρ.length
  al : A.length = st.length
  val : ∀ (i : Nat) (d : D), ρ[i]? = some (.val d) → ∃ v, σ[i]? = some (some v) ∧ Ho K A B v d
  own : ∀ r xs, cont ρ T st r = some xs → ∃ a, adr A σ T r = some a ∧ Own K A B H a xs
  dist : ∀ r r' xs xs' a, cont ρ T st r = some xs → cont ρ T st r' = some xs' → adr A σ T r = some a → adr A σ T r' = some a → r = r'
  fresh : ∀ r xs a, cont ρ T st r = some xs → adr A σ T r = some a → (∀ n, r = .h n → O.A.length ≤ n) → O.H a = none

section
variable {K : PySem.W.Frag} {O : Org} {A A' : List Addr} {B B' H H' : Hp} {σ : L2.St} {ρ : Env} {st : Sto} {T : List (Addr × List D)}
theorem Own.mono {a : Addr} {xs : List D} (hA : Px A A') (hB : Ex B B') (hb : B' a = none) (hh : ∀ o, H a = some o → H' a = some o) (h : Own K A B H a xs) : Own K A' B' H' a xs := by
  obtain ⟨_, vs, h2, h3⟩ := h
  exact ⟨hb, vs, hh _ h2, h3.mono hA hB⟩
theorem Rel.hfresh (R : Rel K O A B σ H ρ st T) {p : Addr} (h : H p = none) : O.H p = none := by
  cases q : O.H p with
  | none => rfl
  | some o => exact absurd h (R.fw.kh p (by rw [q]; simp))
theorem Rel.bfresh (R : Rel K O A B σ H ρ st T) {p : Addr} (h : H p = none) : B p = none := R.ex.back h
theorem Rel.adr_ne (R : Rel K O A B σ H ρ st T) {r : Role} {xs : List D} {a p : Addr} (c : cont ρ T st r = some xs) (e : adr A σ T r = some a) (h : H p = none) : a ≠ p := by
  obtain ⟨a', e', _, vs, h2, _⟩ := R.own r xs c
  rw [e] at e'; cases e'
  exact ne_of_none h2 h
/-- the heap grows, what is frozen grows by new things alone -/
theorem Rel.grow (R : Rel K O A B σ H ρ st T) (hB : Ex B B') (hH : Ex H H') (hBH : Ex B' H') (hn : ∀ a, B a = none → B' a ≠ none → H a = none) : Rel K O A B' σ H' ρ st T where
  fw := ⟨R.fw.px, R.fw.ex.trans hB, fun a h1 h2 => by
      by_cases q : B a = none
      · exact R.hfresh (hn a q h2)
      · exact R.fw.nb a h1 q, R.fw.na, fun a o h1 h2 => hH a o (R.fw.kp a o h1 h2), fun a h1 h2 => R.fw.kh a h1 (hH.back h2)⟩
  ex := hBH
  len := R.len
  al := R.al
  val := fun i d e => by
    obtain ⟨v, e1, e2⟩ := R.val i d e
    exact ⟨v, e1, e2.mono (Px.refl _) hB⟩
  own := fun r xs c => by
    obtain ⟨a, e, o⟩ := R.own r xs c
    refine ⟨a, e, o.mono (Px.refl _) hB ?_ (fun o q => hH a o q)⟩
    obtain ⟨b0, vs, h2, _⟩ := o
    cases q : B' a with
    | none => rfl
    | some u =>
      have := hn a b0 (by rw [q]; simp)
      rw [h2] at this; cases this
  dist := R.dist
  fresh := R.fresh
/-- a new tuple (or any thing), frozen -/
theorem Rel.new (R : Rel K O A B σ H ρ st T) {p : Addr} {o : HO} (h : H p = none) : Rel K O A (upd B p o) σ (upd H p o) ρ st T :=
  R.grow (Ex.new (R.bfresh h)) (Ex.new h) R.ex.upd2 (fun a h1 h2 => by
    by_cases q : a = p
    · rw [q]; exact h
    · rw [upd_ne q] at h2; exact absurd h1 h2)
/-- a thing that nobody holds -/
theorem Rel.waste (R : Rel K O A B σ H ρ st T) {p : Addr} {o : HO} (h : H p = none) : Rel K O A B σ (upd H p o) ρ st T :=
  R.grow (Ex.refl _) (Ex.new h) (R.ex.trans (Ex.new h)) (fun a h1 h2 => absurd h1 h2)
theorem cont_t0 {a : Addr} {xs : List D} : cont ρ ((a, xs) :: T) st (.t 0) = some xs := rfl
theorem cont_ts {p : Addr × List D} {k : Nat} : cont ρ (p :: T) st (.t (k + 1)) = cont ρ T st (.t k) := by simp [cont]
theorem adr_ts {p : Addr × List D} {k : Nat} : adr A σ (p :: T) (.t (k + 1)) = adr A σ T (.t k) := by simp [adr]
/-- a role ahead of a push of a temp -/
def Role.up : Role → Role
  | .t k => .t (k + 1)
  | r => r
theorem cont_up (p : Addr × List D) (r : Role) : cont ρ (p :: T) st r.up = cont ρ T st r := by
  cases r <;> simp [Role.up, cont]
theorem adr_up (p : Addr × List D) (r : Role) : adr A σ (p :: T) r.up = adr A σ T r := by
  cases r <;> simp [Role.up, adr]
theorem Role.up_cases (r : Role) : r = .t 0 ∨ ∃ r' : Role, r = r'.up := by
  cases r with
  | s i => exact .inr ⟨.s i, rfl⟩
  | h n => exact .inr ⟨.h n, rfl⟩
  | t k => cases k with
    | zero => exact .inl rfl
    | succ k => exact .inr ⟨.t k, rfl⟩
theorem Role.up_inj {r r' : Role} (h : r.up = r'.up) : r = r' := by
  cases r <;> cases r' <;> simp_all [Role.up]
theorem Role.up_h {r : Role} {n : Nat} (h : r.up = .h n) : r = .h n := by
  cases r <;> simp_all [Role.up]
/-- a new list, a temp -/
theorem Rel.push (R : Rel K O A B σ H ρ st T) {p : Addr} {vs : List V} {xs : List D} (h : H p = none) (hv : HoL K A B vs xs) : Rel K O A B σ (upd H p (.lst vs)) ρ st ((p, xs) :: T) := by
  have R' := R.waste (o := .lst vs) h
  refine ⟨R'.fw, R'.ex, R.len, R.al, R'.val, fun r ys c => ?_, fun r r' ys ys' a c c' e e' => ?_, fun r ys a c e hn => ?_⟩
  · rcases r.up_cases with rfl | ⟨q, rfl⟩
    · cases c
      exact ⟨p, rfl, R.bfresh h, vs, upd_same, hv⟩
    · rw [cont_up] at c; rw [adr_up]
      exact R'.own q ys c
  · rcases r.up_cases with rfl | ⟨q, rfl⟩
    · cases e
      rcases r'.up_cases with rfl | ⟨q', rfl⟩
      · rfl
      · rw [cont_up] at c'; rw [adr_up] at e'
        exact absurd rfl (R.adr_ne c' e' h)
    · rw [cont_up] at c; rw [adr_up] at e
      rcases r'.up_cases with rfl | ⟨q', rfl⟩
      · cases e'
        exact absurd rfl (R.adr_ne c e h)
      · rw [cont_up] at c'; rw [adr_up] at e'
        rw [R.dist q q' ys ys' a c c' e e']
  · rcases r.up_cases with rfl | ⟨q, rfl⟩
    · cases e; exact R.hfresh h
    · rw [cont_up] at c; rw [adr_up] at e
      exact R.fresh q ys a c e (fun n hq => hn n (by rw [hq]; rfl))
/-- the newest temp is dropped -/
theorem Rel.pop {p : Addr × List D} (R : Rel K O A B σ H ρ st (p :: T)) : Rel K O A B σ H ρ st T := by
  refine ⟨R.fw, R.ex, R.len, R.al, R.val, fun r ys c => ?_, fun r r' ys ys' a c c' e e' => ?_, fun r ys a c e hn => ?_⟩
  · have := R.own r.up ys (by rw [cont_up]; exact c)
    rw [adr_up] at this; exact this
  · exact Role.up_inj (R.dist r.up r'.up ys ys' a (by rw [cont_up]; exact c) (by rw [cont_up]; exact c') (by rw [adr_up]; exact e) (by rw [adr_up]; exact e'))
  · exact R.fresh r.up ys a (by rw [cont_up]; exact c) (by rw [adr_up]; exact e) (fun n hq => hn n (Role.up_h hq))
/-- what is at the newest temp -/
theorem Rel.top {a : Addr} {xs : List D} (R : Rel K O A B σ H ρ st ((a, xs) :: T)) : Own K A B H a xs := by
  obtain ⟨a', e, o⟩ := R.own (.t 0) xs rfl
  cases e; exact o
/-- an owned thing that no role holds any more is frozen -/
theorem Rel.frz {a : Addr} {vs : List V} (R : Rel K O A B σ H ρ st T) (hb : B a = none) (hh : H a = some (.lst vs)) (ho : O.H a = none) (hno : ∀ r ys, cont ρ T st r = some ys → adr A σ T r ≠ some a) :
    Rel K O A (upd B a (.lst vs)) σ H ρ st T := by
  have hB : Ex B (upd B a (.lst vs)) := Ex.new hb
  refine ⟨⟨R.fw.px, R.fw.ex.trans hB, fun c h1 h2 => ?_, R.fw.na, R.fw.kp, R.fw.kh⟩, fun c o e => ?_, R.len, R.al, fun i d e => ?_, fun r xs c => ?_, R.dist, R.fresh⟩
  · by_cases q : c = a
    · rw [q]; exact ho
    · rw [upd_ne q] at h2; exact R.fw.nb c h1 h2
  · by_cases q : c = a
    · subst q; rw [upd_same] at e; cases e; exact hh
    · rw [upd_ne q] at e; exact R.ex c o e
  · obtain ⟨v, e1, e2⟩ := R.val i d e
    exact ⟨v, e1, e2.mono (Px.refl _) hB⟩
  · obtain ⟨c', e, o⟩ := R.own r xs c
    refine ⟨c', e, o.mono (Px.refl _) hB ?_ (fun o q => q)⟩
    have hne : c' ≠ a := fun z => hno r xs c (by rw [e, z])
    rw [upd_ne hne]; exact o.1
theorem Rel.freeze {a : Addr} {xs : List D} (R : Rel K O A B σ H ρ st ((a, xs) :: T)) : ∃ vs, Rel K O A (upd B a (.lst vs)) σ H ρ st T ∧ Ho K A (upd B a (.lst vs)) (.ref a) (.lst xs) ∧ Ex B (upd B a (.lst vs)) := by
  obtain ⟨hb, vs, hh, hv⟩ := R.top
  refine ⟨vs, R.pop.frz hb hh (R.fresh (.t 0) xs a rfl rfl (fun n z => by cases z)) (fun r ys c e => ?_), .lst upd_same (hv.mono (Px.refl _) (Ex.new hb)), Ex.new hb⟩
  have := R.dist (.t 0) r.up xs ys a rfl (by rw [cont_up]; exact c) rfl (by rw [adr_up]; exact e)
  cases r <;> simp [Role.up] at this
end
end Pv

namespace Pv
open PySem PySem.Spec PyProof.Rows L2
section
variable {K : PySem.W.Frag} {O : Org} {A A' : List Addr} {B B' H H' : Hp} {σ σ' : L2.St} {ρ ρ' : Env} {st st' : Sto} {T T' : List (Addr × List D)}
theorem cont_set_ne {i : Nat} {x : Sl} {r : Role} (h : r ≠ .s i) : cont (ρ.set i x) T st r = cont ρ T st r := by
  cases r with
  | s j =>
    have hj : i ≠ j := fun e => h (by rw [e])
    simp only [cont, List.getElem?_set_ne hj]
  | t k => rfl
  | h n => rfl
theorem adr_set_ne {i : Nat} {x : Option V} {r : Role} (h : r ≠ .s i) : adr A (σ.set i x) T r = adr A σ T r := by
  cases r with
  | s j =>
    have hj : i ≠ j := fun e => h (by rw [e])
    simp only [adr, List.getElem?_set_ne hj]
  | t k => rfl
  | h n => rfl
theorem cont_set_no {i : Nat} {x : Sl} (hx : ∀ xs, x ≠ .own xs) {r : Role} {xs : List D} (c : cont (ρ.set i x) T st r = some xs) : r ≠ .s i ∧ cont ρ T st r = some xs := by
  have hr : r ≠ .s i := by
    intro e
    subst e
    by_cases hi : i < ρ.length
    · simp only [cont, List.getElem?_set_self hi] at c
      cases x with
      | own ys => exact hx ys rfl
      | no => cases c
      | val d => cases c
    · have : (ρ.set i x)[i]? = none := List.getElem?_eq_none (by rw [List.length_set]; omega)
      simp only [cont, this] at c
      cases c
  exact ⟨hr, by rw [← cont_set_ne hr]; exact c⟩
/-- a slot that holds nothing that is owned -/
theorem Rel.setv {i : Nat} {x : Sl} {y : Option V} (R : Rel K O A B σ H ρ st T) (hx : ∀ xs, x ≠ .own xs) (hv : ∀ d, x = .val d → ∃ v, y = some v ∧ Ho K A B v d) : Rel K O A B (σ.set i y) H (ρ.set i x) st T := by
  refine ⟨R.fw, R.ex, by rw [List.length_set, List.length_set]; exact R.len, R.al, fun j d e => ?_, fun r xs c => ?_, fun r r' xs xs' a c c' e e' => ?_, fun r xs a c e hn => ?_⟩
  · by_cases hj : i = j
    · subst hj
      by_cases hi : i < ρ.length
      · rw [List.getElem?_set_self hi] at e
        cases e
        obtain ⟨v, rfl, h⟩ := hv d rfl
        exact ⟨v, List.getElem?_set_self (by rw [R.len]; exact hi), h⟩
      · rw [List.getElem?_eq_none (by rw [List.length_set]; omega)] at e
        cases e
    · rw [List.getElem?_set_ne hj] at e
      obtain ⟨v, e1, e2⟩ := R.val j d e
      exact ⟨v, by rw [List.getElem?_set_ne hj]; exact e1, e2⟩
  · obtain ⟨h1, h2⟩ := cont_set_no hx c
    obtain ⟨a, e, o⟩ := R.own r xs h2
    exact ⟨a, by rw [adr_set_ne h1]; exact e, o⟩
  · obtain ⟨h1, h2⟩ := cont_set_no hx c
    obtain ⟨h1', h2'⟩ := cont_set_no hx c'
    rw [adr_set_ne h1] at e
    rw [adr_set_ne h1'] at e'
    exact R.dist r r' xs xs' a h2 h2' e e'
  · obtain ⟨h1, h2⟩ := cont_set_no hx c
    rw [adr_set_ne h1] at e
    exact R.fresh r xs a h2 e hn
theorem Rel.setVal {i : Nat} {v : V} {d : D} (R : Rel K O A B σ H ρ st T) (h : Ho K A B v d) : Rel K O A B (σ.set i (some v)) H (ρ.set i (.val d)) st T :=
  R.setv (fun _ z => by cases z) fun d' z => by cases z; exact ⟨v, rfl, h⟩
theorem Rel.setNo {i : Nat} {y : Option V} (R : Rel K O A B σ H ρ st T) : Rel K O A B (σ.set i y) H (ρ.set i .no) st T :=
  R.setv (fun _ z => by cases z) fun d' z => by cases z
/-- another frame of the same values -/
theorem Rel.resig (R : Rel K O A B σ H ρ st T) (hl : σ'.length = σ.length) (h : ∀ (j : Nat), ρ[j]? ≠ some Sl.no → σ'[j]? = σ[j]?) : Rel K O A B σ' H ρ st T := by
  have ad : ∀ r xs, cont ρ T st r = some xs → adr A σ' T r = adr A σ T r := fun r xs c => by
    cases r with
    | s j =>
      have : σ'[j]? = σ[j]? := h j fun z => by simp [cont, z] at c
      simp only [adr, this]
    | t k => rfl
    | h n => rfl
  refine ⟨R.fw, R.ex, by rw [hl]; exact R.len, R.al, fun j d e => ?_, fun r xs c => ?_, fun r r' xs xs' a c c' e e' => ?_, fun r xs a c e hn => ?_⟩
  · rw [h j (by rw [e]; simp)]; exact R.val j d e
  · rw [ad r xs c]; exact R.own r xs c
  · rw [ad r xs c] at e; rw [ad r' xs' c'] at e'
    exact R.dist r r' xs xs' a c c' e e'
  · rw [ad r xs c] at e; exact R.fresh r xs a c e hn
/-- the newest temp comes to a slot -/
theorem Rel.setOwn {i : Nat} {a : Addr} {xs : List D} (R : Rel K O A B σ H ρ st ((a, xs) :: T)) (hi : i < ρ.length) : Rel K O A B (σ.set i (some (.ref a))) H (ρ.set i (.own xs)) st T := by
  have R0 : Rel K O A B (σ.set i (some (.ref a))) H (ρ.set i .no) st ((a, xs) :: T) := R.setNo
  have hs : i < σ.length := by rw [R.len]; exact hi
  -- a role of the new frame is a role of R0
  have back : ∀ r ys, cont (ρ.set i (.own xs)) T st r = some ys → (r = .s i ∧ ys = xs) ∨ (r ≠ .s i ∧ cont ρ T st r = some ys) := fun r ys c => by
    by_cases hr : r = .s i
    · subst hr
      simp only [cont, List.getElem?_set_self hi] at c
      exact .inl ⟨rfl, (Option.some.inj c).symm⟩
    · exact .inr ⟨hr, by rw [← cont_set_ne hr]; exact c⟩
  have adi : adr A (σ.set i (some (.ref a))) T (.s i) = some a := by simp only [adr, List.getElem?_set_self hs]
  have nota : ∀ r ys, cont ρ T st r = some ys → adr A σ T r = some a → False := fun r ys c e => by
    have := R.dist (.t 0) r.up xs ys a rfl (by rw [cont_up]; exact c) rfl (by rw [adr_up]; exact e)
    cases r <;> simp [Role.up] at this
  refine ⟨R.fw, R.ex, by rw [List.length_set, List.length_set]; exact R.len, R.al, fun j d e => ?_, fun r ys c => ?_, fun r r' ys ys' b c c' e e' => ?_, fun r ys b c e hn => ?_⟩
  · by_cases hj : i = j
    · subst hj
      rw [List.getElem?_set_self hi] at e; cases e
    · rw [List.getElem?_set_ne hj] at e
      obtain ⟨v, e1, e2⟩ := R.val j d e
      exact ⟨v, by rw [List.getElem?_set_ne hj]; exact e1, e2⟩
  · rcases back r ys c with ⟨rfl, rfl⟩ | ⟨h1, h2⟩
    · exact ⟨a, adi, R.top⟩
    · obtain ⟨b, e, o⟩ := R.pop.own r ys h2
      exact ⟨b, by rw [adr_set_ne h1]; exact e, o⟩
  · rcases back r ys c with ⟨rfl, rfl⟩ | ⟨h1, h2⟩
    · rw [adi] at e; cases e
      rcases back r' ys' c' with ⟨rfl, rfl⟩ | ⟨h1', h2'⟩
      · rfl
      · rw [adr_set_ne h1'] at e'
        exact (nota r' ys' h2' e').elim
    · rw [adr_set_ne h1] at e
      rcases back r' ys' c' with ⟨rfl, rfl⟩ | ⟨h1', h2'⟩
      · rw [adi] at e'; cases e'
        exact (nota r ys h2 e).elim
      · rw [adr_set_ne h1'] at e'
        exact R.pop.dist r r' ys ys' b h2 h2' e e'
  · rcases back r ys c with ⟨rfl, rfl⟩ | ⟨h1, h2⟩
    · rw [adi] at e; cases e
      exact R.fresh (.t 0) ys a rfl rfl (fun n z => by cases z)
    · rw [adr_set_ne h1] at e
      exact R.pop.fresh r ys b h2 e hn
/-- a slot's own list becomes a temp -/
theorem Rel.take {i : Nat} {xs : List D} (R : Rel K O A B σ H ρ st T) (h : ρ[i]? = some (.own xs)) : ∃ a, σ[i]? = some (some (.ref a)) ∧ Rel K O A B σ H (ρ.set i .no) st ((a, xs) :: T) := by
  have ci : cont ρ T st (.s i) = some xs := by simp only [cont, h]
  obtain ⟨a, e, o⟩ := R.own (.s i) xs ci
  have es : σ[i]? = some (some (.ref a)) := by
    simp only [adr] at e
    split at e <;> simp_all
  have hsi : σ.set i (some (.ref a)) = σ := by
    apply List.ext_getElem?
    intro j
    by_cases hj : i = j
    · subst hj
      rw [List.getElem?_set_self (List.getElem?_eq_some_iff.mp es).1, es]
    · rw [List.getElem?_set_ne hj]
  have R0 : Rel K O A B (σ.set i (some (.ref a))) H (ρ.set i .no) st T := R.setNo
  rw [hsi] at R0
  refine ⟨a, es, R0.fw, R0.ex, R0.len, R0.al, R0.val, fun r ys c => ?_, fun r r' ys ys' b c c' e1 e2 => ?_, fun r ys b c e1 hn => ?_⟩
  · rcases r.up_cases with rfl | ⟨q, rfl⟩
    · cases c; exact ⟨a, rfl, o⟩
    · rw [cont_up] at c; rw [adr_up]; exact R0.own q ys c
  · have key : ∀ q zs, cont (ρ.set i .no) T st q = some zs → adr A σ T q = some a → False := fun q zs c e3 => by
      obtain ⟨h1, h2⟩ := cont_set_no (fun _ z => by cases z) c
      exact h1 (R.dist q (.s i) zs xs a h2 ci e3 e)
    rcases r.up_cases with rfl | ⟨q, rfl⟩
    · cases e1
      rcases r'.up_cases with rfl | ⟨q', rfl⟩
      · rfl
      · rw [cont_up] at c'; rw [adr_up] at e2
        exact (key q' ys' c' e2).elim
    · rw [cont_up] at c; rw [adr_up] at e1
      rcases r'.up_cases with rfl | ⟨q', rfl⟩
      · cases e2
        exact (key q ys c e1).elim
      · rw [cont_up] at c'; rw [adr_up] at e2
        rw [R0.dist q q' ys ys' b c c' e1 e2]
  · rcases r.up_cases with rfl | ⟨q, rfl⟩
    · cases e1
      exact R.fresh (.s i) xs a ci e (fun n z => by cases z)
    · rw [cont_up] at c; rw [adr_up] at e1
      exact R0.fresh q ys b c e1 (fun n hq => hn n (by rw [hq]; rfl))
/-- a slot's own list is frozen -/
theorem Rel.freezeSlot {i : Nat} {xs : List D} (R : Rel K O A B σ H ρ st T) (h : ρ[i]? = some (.own xs)) : ∃ a B', σ[i]? = some (some (.ref a)) ∧ Rel K O A B' σ H (ρ.set i (.val (.lst xs))) st T ∧ Ho K A B' (.ref a) (.lst xs) ∧ Ex B B' := by
  obtain ⟨a, es, R1⟩ := R.take h
  obtain ⟨vs, R2, h2, h3⟩ := R1.freeze
  have R3 := R2.setVal (i := i) h2
  have hsi : σ.set i (some (.ref a)) = σ := by
    apply List.ext_getElem?
    intro j
    by_cases hj : i = j
    · subst hj
      rw [List.getElem?_set_self (List.getElem?_eq_some_iff.mp es).1, es]
    · rw [List.getElem?_set_ne hj]
  rw [hsi, List.set_set] at R3
  exact ⟨a, _, es, R3, h2, h3⟩
/-- the list of a role changes -/
theorem Rel.updr {r : Role} {a : Addr} {xs ys : List D} {vs : List V} (R : Rel K O A B σ H ρ st T) (c : cont ρ T st r = some xs) (e : adr A σ T r = some a) (hv : HoL K A B vs ys) (cr : cont ρ' T' st' r = some ys)
    (co : ∀ q, q ≠ r → cont ρ' T' st' q = cont ρ T st q) (ad : ∀ q, adr A σ T' q = adr A σ T q) (l1 : ρ'.length = ρ.length) (l2 : st'.length = st.length) (va : ∀ (i : Nat) (d : D), ρ'[i]? = some (.val d) → ρ[i]? = some (.val d)) :
    Rel K O A B σ (upd H a (.lst vs)) ρ' st' T' := by
  obtain ⟨a', e', hb, ws, hw, _⟩ := R.own r xs c
  rw [e] at e'; cases e'
  have ne : ∀ b o, O.H b = some o → b ∉ O.A → b ≠ a := fun b o hb' hA z => by
    subst z
    by_cases hr : ∀ n, r = .h n → O.A.length ≤ n
    · rw [R.fresh r xs b c e hr] at hb'; cases hb'
    · simp only [Classical.not_forall] at hr
      obtain ⟨n, rfl, hn⟩ := hr
      have hn' : n < O.A.length := by omega
      have e1 : O.A[n]? = some O.A[n] := List.getElem?_eq_getElem hn'
      have e2 := R.fw.px n _ e1
      simp only [adr] at e
      rw [e] at e2; cases e2
      exact hA (List.getElem_mem hn')
  refine ⟨⟨R.fw.px, R.fw.ex, R.fw.nb, R.fw.na, fun b o h1 h2 => by rw [upd_ne (ne b o h1 h2)]; exact R.fw.kp b o h1 h2, fun b h1 => ?_⟩, R.ex.mut hb, by rw [R.len, l1], by rw [R.al, l2], fun i d h => R.val i d (va i d h), fun q zs cq => ?_,
    fun q q' zs zs' b cq cq' eq eq' => ?_, fun q zs b cq eq hn => ?_⟩
  · by_cases q : b = a
    · subst q; rw [upd_same]; simp
    · rw [upd_ne q]; exact R.fw.kh b h1
  · by_cases hq : q = r
    · subst hq
      rw [cr] at cq; cases cq
      exact ⟨a, by rw [ad]; exact e, hb, vs, upd_same, hv⟩
    · rw [co q hq] at cq
      obtain ⟨b, e1, b0, us, hu, hl⟩ := R.own q zs cq
      refine ⟨b, by rw [ad]; exact e1, b0, us, ?_, hl⟩
      have : b ≠ a := fun z => by
        subst z
        exact hq (R.dist q r zs xs b cq c e1 e)
      rw [upd_ne this]; exact hu
  · rw [ad] at eq eq'
    have has : ∀ q zs, cont ρ' T' st' q = some zs → ∃ zs', cont ρ T st q = some zs' := fun q zs h => by
      by_cases hq : q = r
      · subst hq; exact ⟨xs, c⟩
      · rw [co q hq] at h; exact ⟨zs, h⟩
    obtain ⟨_, k1⟩ := has q zs cq
    obtain ⟨_, k2⟩ := has q' zs' cq'
    exact R.dist q q' _ _ b k1 k2 eq eq'
  · rw [ad] at eq
    by_cases hq : q = r
    · subst hq; exact R.fresh q xs b c eq hn
    · rw [co q hq] at cq
      exact R.fresh q zs b cq eq hn
/-- a slot's own list changes -/
theorem Rel.updSlot {i : Nat} {xs : List D} (R : Rel K O A B σ H ρ st T) (h : ρ[i]? = some (.own xs)) : ∃ a vs, σ[i]? = some (some (.ref a)) ∧ H a = some (.lst vs) ∧ HoL K A B vs xs ∧
    ∀ ws ys, HoL K A B ws ys → Rel K O A B σ (upd H a (.lst ws)) (ρ.set i (.own ys)) st T := by
  have ci : cont ρ T st (.s i) = some xs := by simp only [cont, h]
  obtain ⟨a, e, hb, vs, hv, hl⟩ := R.own (.s i) xs ci
  have es : σ[i]? = some (some (.ref a)) := by
    simp only [adr] at e
    split at e <;> simp_all
  have hi := (List.getElem?_eq_some_iff.mp h).1
  refine ⟨a, vs, es, hv, hl, fun ws ys hw => R.updr ci e hw (by simp only [cont, List.getElem?_set_self hi]) (fun q hq => cont_set_ne hq) (fun _ => rfl) (by rw [List.length_set]) rfl fun j d z => ?_⟩
  by_cases hj : i = j
  · subst hj; rw [List.getElem?_set_self hi] at z; cases z
  · rw [List.getElem?_set_ne hj] at z; exact z
/-- a handle's list changes -/
theorem Rel.updH {n : Nat} {xs : List D} (R : Rel K O A B σ H ρ st T) (h : st[n]? = some xs) : ∃ a vs, A[n]? = some a ∧ H a = some (.lst vs) ∧ HoL K A B vs xs ∧
    ∀ ws ys, HoL K A B ws ys → Rel K O A B σ (upd H a (.lst ws)) ρ (st.set n ys) T := by
  have ci : cont ρ T st (.h n) = some xs := h
  obtain ⟨a, e, hb, vs, hv, hl⟩ := R.own (.h n) xs ci
  have hi := (List.getElem?_eq_some_iff.mp h).1
  refine ⟨a, vs, e, hv, hl, fun ws ys hw => R.updr ci e hw (by simp only [cont]; exact List.getElem?_set_self hi) (fun q hq => ?_) (fun _ => rfl) rfl (by rw [List.length_set]) fun j d z => z⟩
  cases q with
  | s i => rfl
  | t k => rfl
  | h m =>
    have hm : n ≠ m := fun z => hq (by rw [z])
    simp only [cont, List.getElem?_set_ne hm]
/-- the newest temp changes -/
theorem Rel.updT {a : Addr} {xs : List D} (R : Rel K O A B σ H ρ st ((a, xs) :: T)) {ws : List V} {ys : List D} (hw : HoL K A B ws ys) : Rel K O A B σ (upd H a (.lst ws)) ρ st ((a, ys) :: T) := by
  refine R.updr (r := .t 0) rfl rfl hw rfl (fun q hq => ?_) (fun q => ?_) rfl rfl fun j d z => z
  · rcases q.up_cases with rfl | ⟨q', rfl⟩
    · exact absurd rfl hq
    · rw [cont_up, cont_up]
  · rcases q.up_cases with rfl | ⟨q', rfl⟩
    · rfl
    · rw [adr_up, adr_up]
/-- the newest temp becomes a handle -/
theorem Rel.share {a : Addr} {xs : List D} (R : Rel K O A B σ H ρ st ((a, xs) :: T)) : Rel K O (A ++ [a]) B σ H ρ (st ++ [xs]) T ∧ Ho K (A ++ [a]) B (.ref a) (.hd st.length) := by
  have al := R.al
  have hA : Px A (A ++ [a]) := Px.app
  have an : (A ++ [a])[st.length]? = some a := by rw [← al]; simp
  -- roles of the new store
  have back : ∀ r ys, cont ρ T (st ++ [xs]) r = some ys → (r = .h st.length ∧ ys = xs) ∨ (cont ρ T st r = some ys ∧ adr (A ++ [a]) σ T r = adr A σ T r) := fun r ys c => by
    cases r with
    | s i => exact .inr ⟨c, rfl⟩
    | t k => exact .inr ⟨c, rfl⟩
    | h n =>
      simp only [cont] at c
      by_cases hn : n < st.length
      · rw [List.getElem?_append_left hn] at c
        refine .inr ⟨c, ?_⟩
        simp only [adr]
        rw [List.getElem?_append_left (by omega)]
      · have hlt := (List.getElem?_eq_some_iff.mp c).1
        have : n = st.length := by simp at hlt; omega
        subst this
        simp at c
        exact .inl ⟨rfl, c.symm⟩
  have nota : ∀ r ys, cont ρ T st r = some ys → adr A σ T r = some a → False := fun r ys c e => by
    have := R.dist (.t 0) r.up xs ys a rfl (by rw [cont_up]; exact c) rfl (by rw [adr_up]; exact e)
    cases r <;> simp [Role.up] at this
  have fa : O.H a = none := R.fresh (.t 0) xs a rfl rfl (fun n z => by cases z)
  refine ⟨⟨⟨R.fw.px.trans hA, R.fw.ex, R.fw.nb, fun n b e hn => ?_, R.fw.kp, R.fw.kh⟩, R.ex, R.len, by simp [al], fun i d e => ?_, fun r ys c => ?_, fun r r' ys ys' b c c' e e' => ?_, fun r ys b c e hn => ?_⟩, .hd an⟩
  · by_cases h : n < A.length
    · rw [List.getElem?_append_left h] at e
      exact R.fw.na n b e hn
    · have hlt := (List.getElem?_eq_some_iff.mp e).1
      have : n = A.length := by simp at hlt; omega
      subst this
      simp at e
      rw [← e]; exact fa
  · obtain ⟨v, e1, e2⟩ := R.val i d e
    exact ⟨v, e1, e2.mono hA (Ex.refl _)⟩
  · rcases back r ys c with ⟨rfl, rfl⟩ | ⟨h1, h2⟩
    · exact ⟨a, an, R.top.mono hA (Ex.refl _) R.top.1 (fun _ h => h)⟩
    · obtain ⟨b, e, o⟩ := R.pop.own r ys h1
      exact ⟨b, by rw [h2]; exact e, o.mono hA (Ex.refl _) o.1 (fun _ h => h)⟩
  · rcases back r ys c with ⟨rfl, rfl⟩ | ⟨h1, h2⟩
    · simp only [adr] at e
      rw [an] at e; cases e
      rcases back r' ys' c' with ⟨rfl, rfl⟩ | ⟨h1', h2'⟩
      · rfl
      · rw [h2'] at e'
        exact (nota r' ys' h1' e').elim
    · rw [h2] at e
      rcases back r' ys' c' with ⟨rfl, rfl⟩ | ⟨h1', h2'⟩
      · simp only [adr] at e'
        rw [an] at e'; cases e'
        exact (nota r ys h1 e).elim
      · rw [h2'] at e'
        exact R.pop.dist r r' ys ys' b h1 h1' e e'
  · rcases back r ys c with ⟨rfl, rfl⟩ | ⟨h1, h2⟩
    · simp only [adr] at e
      rw [an] at e; cases e
      exact fa
    · rw [h2] at e
      exact R.pop.fresh r ys b h1 e hn

/-! ### calls -/
structure SRel (K : PySem.W.Frag) (A : List Addr) (B H : Hp) (st : Sto) : Prop where
  ex : Ex B H
  al : A.length = st.length
  own : ∀ (n : Nat) (a : Addr) (xs : List D), A[n]? = some a → st[n]? = some xs → Own K A B H a xs
  dist : ∀ (n m : Nat) (a : Addr), A[n]? = some a → A[m]? = some a → n = m
theorem Rel.srel (R : Rel K O A B σ H ρ st T) : SRel K A B H st := by
  refine ⟨R.ex, R.al, fun n a xs e1 e2 => ?_, fun n m a e1 e2 => ?_⟩
  · obtain ⟨a', e, o⟩ := R.own (.h n) xs e2
    simp only [adr] at e
    rw [e1] at e; cases e; exact o
  · have hn := (List.getElem?_eq_some_iff.mp e1).1
    have hm := (List.getElem?_eq_some_iff.mp e2).1
    rw [R.al] at hn hm
    have := R.dist (.h n) (.h m) _ _ a (List.getElem?_eq_getElem hn) (List.getElem?_eq_getElem hm) e1 e2
    cases this; rfl
theorem Fwd.refl (O : Org) : Fwd O O.A O.B O.H := ⟨Px.refl _, Ex.refl _, fun a h1 h2 => absurd h1 h2, fun n a e h => by have := (List.getElem?_eq_some_iff.mp e).1; omega, fun _ _ h _ => h, fun _ h => h⟩
theorem Fwd.trans (f : Fwd O A B H) (g : Fwd ⟨A, B, H⟩ A' B' H') : Fwd O A' B' H' := by
  have back : ∀ a, H a = none → O.H a = none := fun a h => by
    cases q : O.H a with
    | none => rfl
    | some o => exact absurd h (f.kh a (by rw [q]; simp))
  refine ⟨f.px.trans g.px, f.ex.trans g.ex, fun a h1 h2 => ?_, fun n a e hn => ?_, fun a o h1 h2 => ?_, fun a h => g.kh a (f.kh a h)⟩
  · by_cases q : B a = none
    · exact back a (g.nb a q h2)
    · exact f.nb a h1 q
  · by_cases h : n < A.length
    · have e1 : A[n]? = some A[n] := List.getElem?_eq_getElem h
      have e2 := g.px n _ e1
      rw [e] at e2; cases e2
      exact f.na n _ e1 hn
    · exact back a (g.na n a e (by show A.length ≤ n; omega))
  · refine g.kp a o (f.kp a o h1 h2) fun hA => ?_
    have hA : a ∈ A := hA
    obtain ⟨n, hn, e⟩ := List.getElem_of_mem hA
    have e1 : A[n]? = some a := by rw [List.getElem?_eq_getElem hn, e]
    by_cases h : O.A.length ≤ n
    · rw [f.na n a e1 h] at h1; cases h1
    · have h' : n < O.A.length := by omega
      have e2 := f.px n _ (List.getElem?_eq_getElem h')
      rw [e1] at e2
      have e3 : a = O.A[n] := Option.some.inj e2
      exact h2 (by rw [e3]; exact List.getElem_mem h')
theorem Rel.call (R : Rel K O A B σ H ρ st T) (g : Fwd ⟨A, B, H⟩ A' B' H') (S : SRel K A' B' H' st') : Rel K O A' B' σ H' ρ st' T := by
  -- slots and temps stay
  have stay : ∀ r xs a, cont ρ T st r = some xs → adr A σ T r = some a → (∀ n, r ≠ .h n) → H' a = H a ∧ B' a = none ∧ a ∉ A ∧ H a ≠ none := fun r xs a c e hr => by
    obtain ⟨a', e', b0, vs, hv, hl⟩ := R.own r xs c
    rw [e] at e'; cases e'
    have hA : a ∉ A := fun hA => by
      obtain ⟨n, hn, e1⟩ := List.getElem_of_mem hA
      have hn' : n < st.length := by rw [← R.al]; exact hn
      have := R.dist r (.h n) xs st[n] a c (List.getElem?_eq_getElem hn') e (by simp only [adr]; rw [List.getElem?_eq_getElem hn, e1])
      exact hr n this
    refine ⟨by rw [hv]; exact g.kp a _ hv hA, ?_, hA, by rw [hv]; simp⟩
    cases q : B' a with
    | none => rfl
    | some u =>
      have this : H a = none := g.nb a b0 (by rw [q]; simp)
      rw [hv] at this; cases this
  have sw : ∀ r, (∀ n, r ≠ .h n) → cont ρ T st' r = cont ρ T st r ∧ adr A' σ T r = adr A σ T r := fun r hr => by
    cases r with
    | s i => exact ⟨rfl, rfl⟩
    | t k => exact ⟨rfl, rfl⟩
    | h n => exact absurd rfl (hr n)
  refine ⟨R.fw.trans g, S.ex, R.len, S.al, fun i d e => ?_, fun r xs c => ?_, fun r r' xs xs' a c c' e e' => ?_, fun r xs a c e hn => ?_⟩
  · obtain ⟨v, e1, e2⟩ := R.val i d e
    exact ⟨v, e1, e2.mono g.px g.ex⟩
  · by_cases hr : ∀ n, r ≠ .h n
    · obtain ⟨s1, s2⟩ := sw r hr
      rw [s1] at c
      obtain ⟨a, e, o⟩ := R.own r xs c
      obtain ⟨k1, k2, _, _⟩ := stay r xs a c e hr
      exact ⟨a, by rw [s2]; exact e, o.mono g.px g.ex k2 (fun o' h => by rw [k1]; exact h)⟩
    · simp only [Classical.not_forall, Classical.not_not] at hr
      obtain ⟨n, rfl⟩ := hr
      simp only [cont] at c
      have hn := (List.getElem?_eq_some_iff.mp c).1
      rw [← S.al] at hn
      exact ⟨A'[n], List.getElem?_eq_getElem hn, S.own n _ xs (List.getElem?_eq_getElem hn) c⟩
  · -- a slot or temp is no handle
    have apart : ∀ r xs a n, (∀ n, r ≠ .h n) → cont ρ T st r = some xs → adr A σ T r = some a → A'[n]? = some a → False := fun r xs a n hr c e q => by
      obtain ⟨_, _, hA, hH⟩ := stay r xs a c e hr
      by_cases h : n < A.length
      · have e1 : A[n]? = some A[n] := List.getElem?_eq_getElem h
        have e2 := g.px n _ e1
        rw [q] at e2
        have e3 : a = A[n] := Option.some.inj e2
        exact hA (by rw [e3]; exact List.getElem_mem h)
      · exact hH (g.na n a q (by show A.length ≤ n; omega))
    by_cases hr : ∀ n, r ≠ .h n
    · obtain ⟨s1, s2⟩ := sw r hr
      rw [s1] at c; rw [s2] at e
      by_cases hr' : ∀ n, r' ≠ .h n
      · obtain ⟨s1', s2'⟩ := sw r' hr'
        rw [s1'] at c'; rw [s2'] at e'
        exact R.dist r r' xs xs' a c c' e e'
      · simp only [Classical.not_forall, Classical.not_not] at hr'
        obtain ⟨n, rfl⟩ := hr'
        exact (apart r xs a n hr c e e').elim
    · simp only [Classical.not_forall, Classical.not_not] at hr
      obtain ⟨n, rfl⟩ := hr
      by_cases hr' : ∀ n, r' ≠ .h n
      · obtain ⟨s1', s2'⟩ := sw r' hr'
        rw [s1'] at c'; rw [s2'] at e'
        exact (apart r' xs' a n hr' c' e' e).elim
      · simp only [Classical.not_forall, Classical.not_not] at hr'
        obtain ⟨m, rfl⟩ := hr'
        rw [S.dist n m a e e']
  · by_cases hr : ∀ n, r ≠ .h n
    · obtain ⟨s1, s2⟩ := sw r hr
      rw [s1] at c; rw [s2] at e
      exact R.fresh r xs a c e hn
    · simp only [Classical.not_forall, Classical.not_not] at hr
      obtain ⟨n, rfl⟩ := hr
      exact (R.fw.trans g).na n a e (hn n rfl)
/-- behind a call that hands back a new list -/
theorem Rel.pushNew {a : Addr} {xs : List D} (R : Rel K O A B σ H ρ st T) (o : Own K A B H a xs) (hno : ∀ r ys, cont ρ T st r = some ys → adr A σ T r ≠ some a) (ho : O.H a = none) : Rel K O A B σ H ρ st ((a, xs) :: T) := by
  refine ⟨R.fw, R.ex, R.len, R.al, R.val, fun r ys c => ?_, fun r r' ys ys' b c c' e e' => ?_, fun r ys b c e hn => ?_⟩
  · rcases r.up_cases with rfl | ⟨q, rfl⟩
    · cases c; exact ⟨a, rfl, o⟩
    · rw [cont_up] at c; rw [adr_up]; exact R.own q ys c
  · rcases r.up_cases with rfl | ⟨q, rfl⟩
    · cases e
      rcases r'.up_cases with rfl | ⟨q', rfl⟩
      · rfl
      · rw [cont_up] at c'; rw [adr_up] at e'
        exact (hno q' ys' c' e').elim
    · rw [cont_up] at c; rw [adr_up] at e
      rcases r'.up_cases with rfl | ⟨q', rfl⟩
      · cases e'
        exact (hno q ys c e).elim
      · rw [cont_up] at c'; rw [adr_up] at e'
        rw [R.dist q q' ys ys' b c c' e e']
  · rcases r.up_cases with rfl | ⟨q, rfl⟩
    · cases e; exact ho
    · rw [cont_up] at c; rw [adr_up] at e
      exact R.fresh q ys b c e (fun n hq => hn n (by rw [hq]; rfl))
/-- a call's end: the values behind it, a new list or not -/
def Back (K : PySem.W.Frag) (A : List Addr) (B H : Hp) (A' : List Addr) (B' H' : Hp) (st' : Sto) (fr : Bool) (d : D) (v : V) : Prop :=
  Fwd ⟨A, B, H⟩ A' B' H' ∧ SRel K A' B' H' st' ∧
    if fr = true then ∃ a xs, v = .ref a ∧ d = .lst xs ∧ Own K A' B' H' a xs ∧ H a = none ∧ a ∉ A' else Ho K A' B' v d
theorem Rel.start {vs : List V} {ds : List D} {n : Nat} (S : SRel K A B H st) (h : HoL K A B vs ds) : Rel K ⟨A, B, H⟩ A B (vs.map some ++ List.replicate n none) H (ds.map Sl.val ++ List.replicate n .no) st [] := by
  have nos : ∀ (i : Nat) (xs : List D), (ds.map Sl.val ++ List.replicate n Sl.no)[i]? ≠ some (.own xs) := fun i xs e => by
    by_cases hi : i < ds.length
    · rw [List.getElem?_append_left (by simpa using hi)] at e
      simp at e
    · rw [List.getElem?_append_right (by simpa using hi)] at e
      have := List.mem_of_getElem? e
      simp [List.mem_replicate] at this
  have hc : ∀ r xs, cont (ds.map Sl.val ++ List.replicate n Sl.no) [] st r = some xs → ∃ m, r = .h m ∧ st[m]? = some xs := fun r xs c => by
    cases r with
    | s i =>
      simp only [cont] at c
      split at c
      · rename_i ys e; exact absurd e (nos i ys)
      · cases c
    | t k => simp [cont] at c
    | h m => exact ⟨m, rfl, c⟩
  refine ⟨Fwd.refl _, S.ex, by simp [h.length], S.al, fun i d e => ?_, fun r xs c => ?_, fun r r' xs xs' a c c' e e' => ?_, fun r xs a c e hn => ?_⟩
  · by_cases hi : i < ds.length
    · rw [List.getElem?_append_left (by simpa using hi)] at e
      have ed : ds[i]? = some d := by
        rw [List.getElem?_map] at e
        cases q : ds[i]? with
        | none => rw [q] at e; cases e
        | some d' => rw [q] at e; cases e; rfl
      obtain ⟨v, e1, e2⟩ := h.get ed
      refine ⟨v, ?_, e2⟩
      rw [List.getElem?_append_left (by rw [List.length_map, h.length]; exact hi), List.getElem?_map, e1]
      rfl
    · rw [List.getElem?_append_right (by simpa using hi)] at e
      have := List.mem_of_getElem? e
      simp [List.mem_replicate] at this
  · obtain ⟨m, rfl, e⟩ := hc r xs c
    have hm := (List.getElem?_eq_some_iff.mp e).1
    rw [← S.al] at hm
    exact ⟨A[m], List.getElem?_eq_getElem hm, S.own m _ xs (List.getElem?_eq_getElem hm) e⟩
  · obtain ⟨m, rfl, e1⟩ := hc r xs c
    obtain ⟨m', rfl, e1'⟩ := hc r' xs' c'
    rw [S.dist m m' a e e']
  · obtain ⟨m, rfl, e1⟩ := hc r xs c
    have h1 := hn m rfl
    have h2 := (List.getElem?_eq_some_iff.mp e).1
    exact absurd h2 (by show ¬ m < A.length; exact Nat.not_lt.mpr h1)
end
end Pv

namespace Pv
open PySem PySem.Spec PyProof.Rows L2
/-! ## tuples: sum, enumerate, turned about -/
section
variable {X : Cx}
theorem isTuple_of {h : Heap} {a : Addr} {its : Array Value} (x : IsTup h a its) : h.IsTuple a its := x
theorem cr_sumT (hc : X.calm = true) : CallR X (.builtin "sum") (fun vs H Q => ∃ (a : Addr) (ns : List Int), vs = [V.ref a] ∧ SqT X.K H a (ns.map V.int) ∧ Q (.int ns.sum) H) := by
  intro pins s σ H vs us Q I r h
  obtain ⟨a, ns, rfl, hs, q⟩ := h
  obtain ⟨its, rv, hl, _⟩ := I.tuple hs
  rw [Vals.ref1 r]
  have hi := rv.ints
  obtain ⟨xs, hx⟩ := hi.allInts.items
  have hn : numsOf its.toArray.toList = ns := by rw [show its.toArray.toList = its from rfl, hi.numsOf]
  have ht : s.heap.IsTuple a its.toArray := isTuple_of hl
  rw [hx] at ht hn
  rw [nums_intItems] at hn
  refine PySem.W.ktm_sumG (I.ok.hd hc) ht fun h' tk t' hk => ?_
  rw [preSum_eq, List.take_of_length_le (by simp), hn]
  exact ⟨.int _, H, I.kept hk, ⟨_, rfl⟩, q⟩
end
/-! ### enumerate -/
theorem meets_enum1 {v : Value} {o : Obj} {G : Heap → Prop} (B : Begins v o G) :
    Meets (Builtin.«enumerate.__new__» ⟨[.type "enumerate", v], []⟩) (fun _ R s => G s.heap ∧
      R (.ok (.ret (.ref (s.heap.push o).objs.size))) { s with heap := (s.heap.push o).push { cls := .type "enumerate", data := .fields #[.none, .bool false, .ref s.heap.objs.size, rawInt 0, .none, .none] } }) :=
  .of_wp fun prog w A R s h => by
    obtain ⟨hp, g, d, tk, os⟩ := s; obtain ⟨h1, h⟩ := h
    have hsub := sub_enumerate
    have q1 : ∀ {A' : Around} {E : Value → Shared → Prop} {Q : Value → Shared → Prop}, Q (.ref hp.objs.size) ⟨hp.push o, g, d, tk, os⟩ → wpAny (model prog w) A' (pyIter v) Q E ⟨hp, g, d, tk, os⟩ :=
      fun q => B.iter prog w _ _ ⟨hp, g, d, tk, os⟩ _ h1 q
    wp_walk using q1
    refine wpAny_stack_any fun st => wpAny_pure ?_
    split
    · rename_i c _ _ _ _ _
      cases (c == Value.type "enumerate") <;> (wp_walk using q1; exact ⟨_, rfl, h⟩)
    · wp_walk using q1
      exact ⟨_, rfl, h⟩
section
variable {prog : Program} {w : World} {A : Around} {E : Value → Shared → Prop} {s : Shared}
theorem enum_call1 {v : Value} {o : Obj} {G : Heap → Prop} {Q : Value → Shared → Prop} (B : Begins v o G) (h1 : G s.heap)
    (h : ∀ h', IsEnum h' (s.heap.objs.size + 1) s.heap.objs.size 0 .none → h'.get? s.heap.objs.size = some o → (∀ b o, s.heap.get? b = some o → h'.get? b = some o) → Q (.ref (s.heap.objs.size + 1)) { s with heap := h' }) :
    wpAny (model prog w) A (call (.type "enumerate") [v]) Q E s := by
  refine callType_new F.called_enumerate (by decide) (F.typeCall_enumerate_1 _) (F.newCall_enumerate_1 _) (fun obj => F.args_object_init_2 obj _) F.entry_enumerate_new (meets_enum1 B) ⟨h1, ?_⟩
  have hz : (s.heap.push o).objs.size = s.heap.objs.size + 1 := Heap.size_push ..
  show _ ∧ _
  rw [hz]
  have he : IsEnum ((s.heap.push o).push { cls := .type "enumerate", data := .fields #[.none, .bool false, .ref s.heap.objs.size, rawInt 0, .none, .none] }) (s.heap.objs.size + 1) s.heap.objs.size 0 .none := by
    have := Heap.get?_push_size (s.heap.push o) (o := { cls := .type "enumerate", data := .fields #[.none, .bool false, .ref s.heap.objs.size, rawInt 0, .none, .none] }) rfl
    rw [hz] at this; exact this
  exact ⟨⟨_, he, rfl⟩, h _ he (Heap.get?_push_of_some _ (Heap.get?_push_size _ B.free)) fun b o x => Heap.get?_push_of_some _ (Heap.get?_push_of_some _ x)⟩
end
/-- the tuple at a, each item in a new pair -/
def IteT (K : PySem.W.Frag) (a : Addr) : It :=
  ⟨fun i H => ∃ (xs : List V) (x : V), SqT K H a xs ∧ xs[i]? = some x, fun i H v H' => ∃ T x, v = .ref T ∧ H T = none ∧ H' = upd H T (.tup [.int (i : Nat), x]) ∧ ∀ xs, SqT K H a xs → xs[i]? = some x, fun i H => ∃ xs : List V, SqT K H a xs ∧ xs.length ≤ i⟩
theorem enum_apart {h : Heap} {e it a : Addr} {c : Int} {old : Value} {i : Nat} {its : Array Value} (he : IsEnum h e it c old) (hit : h.IsTupleIter it a i) (ht : h.IsTuple a its) : e ≠ a ∧ a ≠ it := by
  obtain ⟨o, ho, hc, n, hd⟩ := ht
  refine ⟨fun z => ?_, fun z => ?_⟩
  · subst z
    rw [show h.get? e = some _ from he] at ho
    cases ho
    cases hd
  · subst z
    obtain ⟨o2, ho2, hc2, hd2⟩ := hit
    rw [ho2] at ho
    cases ho
    rw [hd2] at hd
    cases hd
theorem draws_end {prog : Program} {w : World} {A : Around} (hh : A.handled = none) (it t : Addr) (hne : t ≠ it) (items : Array Value) (n : Nat) (hn : items[n]? = none) :
    Draws prog w A it [it, t] n (fun _ _ => True) (fun i h => i = n ∧ h.IsTupleIter it t n ∧ h.IsTuple t items) where
  live := fun _ _ st => let ⟨o, ho, _⟩ := st.2.1; ⟨o, ho⟩
  frame := fun _ _ _ st hk => ⟨st.1, st.2.1.at fun o e => hk it (by simp) o e, st.2.2.at fun o e => hk t (by simp) o e⟩
  item := fun i s Q E hi st hQ => absurd st.1 (Nat.ne_of_lt hi)
  done := fun s Q E st hE => wpAny_nextOf_tuple_end hh st.2.1 st.2.2 hn hE
theorem turn_enumT {P : Program} {w : World} {K : PySem.W.Frag} {elts : List Expr} {kk : Nat} {tpos : Pos} (a e it : Addr) :
    Turn P w K (.Tuple elts kk tpos) (IteT K a) [e, it] e (fun i h => (∃ old, IsEnum h e it ((i : Nat) : Int) old) ∧ h.IsTupleIter it a i ∧ e ≠ it) where
  mem := by simp
  obj := fun i h st b hb => by
    obtain ⟨⟨old, he⟩, ⟨o, ho, hc, hd⟩, _⟩ := st
    have e' : b = e ∨ b = it := by simpa using hb
    rcases e' with z | z
    · rw [z]; exact ⟨_, he, fun v q => nomatch q⟩
    · rw [z]; exact ⟨o, ho, fun v q => by rw [hd] at q; cases q⟩
  keep := fun i h h' st k => let ⟨⟨old, he⟩, hi, hne⟩ := st; ⟨⟨old, k e (by simp) _ he⟩, hi.at fun o q => k it (by simp) o q, hne⟩
  item := by
    intro X hP hw hK hc i pins s σ H E I hf st hg
    subst hP hw hK
    obtain ⟨⟨old, he⟩, hit, hne⟩ := st
    obtain ⟨xs, x, hq, hx⟩ := hg
    obtain ⟨its, rv, p, hz⟩ := I.tuple hq
    obtain ⟨u, hu, ru⟩ := rv.get hx
    have ht := isTuple_of p
    obtain ⟨ap1, ap2⟩ := enum_apart he hit ht
    have hel : e < s.heap.objs.size := Heap.lt_size he
    have hil : it < s.heap.objs.size := by obtain ⟨_, q, _⟩ := hit; exact Heap.lt_size q
    have hlt : i < its.toArray.size := by
      rw [List.size_toArray]
      exact (List.getElem?_eq_some_iff.mp hu).1
    have D := Draws.tuple (prog := X.prog) (w := X.w) (A := X.A.in1) (I.ok.hd hc) it a ap2 its.toArray
    refine wpAny_pyNext_enum_itemC D he ⟨hit, ht⟩ hlt hne (by simp only [List.mem_cons, List.not_mem_nil, or_false, not_or]; exact ⟨hne, ap1⟩) fun x1 h' tk hp ho hst' hT hsz hk => ?_
    have hx1 : x1 = u := by
      have h2 : its.toArray[i]? = some u := by simpa using hu
      exact Option.some.inj (hp.symm.trans h2)
    subst hx1
    refine ⟨_, rfl, wpAny_letOwnedTupleGo_enum (s := { s with heap := h', toks := tk + 1 }) ho fun h'' he' sb => ?_⟩
    have hT2 : h''.get? s.heap.objs.size = some { cls := .type "tuple", data := .seq #[.int i tk, x1] } := (sb.2 _ (Nat.ne_of_gt hel)).trans hT
    have new : ObjOk X.prog X.w (upd H s.heap.objs.size (.tup [.int (i : Nat), x])) h'' s.heap.objs.size (.tup [.int (i : Nat), x]) :=
      ⟨by show 2 ≤ sizeLine; decide, [.int i tk, x1], .cons ⟨_, rfl⟩ (.cons ru .nil), ⟨_, hT2, rfl, _, rfl⟩⟩
    have I1 : Inv X pins σ (upd H s.heap.objs.size (.tup [.int (i : Nat), x])) { s with heap := h'', toks := tk + 1 } :=
      I.turnedNew (ch := [e, it]) (fun b ob hb q => (sb.2 b (fun z => hb (by simp [z]))).trans (hk b ob (fun z => hb (by simp [z])) (fun z => hb (by simp [z])) q)) hf (Nat.le_refl _) new
    refine ⟨.ref s.heap.objs.size, _, I1, rfl, ⟨_, x, rfl, I.hok.fresh (Nat.le_refl _), rfl, fun ys hy => by rw [I.tuple_inj hy hq]; exact hx⟩, ⟨⟨x1, ?_⟩, hst'.1.at fun o q => (sb.2 it (Ne.symm hne)).trans q, hne⟩, fun b hb => ?_⟩
    · have e1 : ((i + 1 : Nat) : Int) = (i : Int) + 1 := by omega
      rw [e1]; exact he'
    · have hb' : b < s.heap.objs.size := by
        have e' : b = e ∨ b = it := by simpa using hb
        rcases e' with z | z
        · rw [z]; exact hel
        · rw [z]; exact hil
      rw [upd_ne (Nat.ne_of_lt hb')]
      exact (hf b hb).1
  done := by
    intro X hP hw hK hc i pins s σ H E I hf st hg
    subst hP hw hK
    obtain ⟨⟨old, he⟩, hit, hne⟩ := st
    obtain ⟨xs, hq, hx⟩ := hg
    obtain ⟨its, rv, p, hz⟩ := I.tuple hq
    have ht := isTuple_of p
    obtain ⟨ap1, ap2⟩ := enum_apart he hit ht
    obtain ⟨f0, f1, f2, f3, f4, f5⟩ := hf it (by simp)
    have hl := rv.length
    have hn : its.toArray[i]? = none := by simp; omega
    exact wpAny_pyNext_enum_endD (draws_end (A := X.A.in1) (I.ok.hd hc) it a ap2 its.toArray i hn) he ⟨rfl, hit, ht⟩ fun h' eb => ⟨rfl, I.turned (t' := s.toks) (fun b o hb q => eb b o hb q) f0 f1 f3 f4 f5⟩
  self := fun A i s Q E st h => let ⟨⟨_, he⟩, _⟩ := st; wpAny_pyIter_enum he h
section
variable {X : Cx} {pos p tpos : Pos}
def iEnumA (K : PySem.W.Frag) (ta : TA) : TI := fun σ H R => ta σ H fun vs H1 => ∃ a xs, vs = [.ref a] ∧ ((SqL K H1 a xs ∧ R (Ite K a) H1) ∨ (SqT K H1 a xs ∧ R (IteT K a) H1))
theorem pi_enumA {e : Expr} {ta : TA} {elts : List Expr} {kk : Nat} (hg : Gl X "enumerate") (hm : X.mg "enumerate" = none) (ha : PA X [e] ta) (hs : starEach [e] X.env = [(false, eval e X.env)]) :
    PI X (.Tuple elts kk tpos) (.Call (.Name "enumerate" p) [e] [] pos) (iEnumA X.K ta) := by
  refine ⟨fun pins s σ H R I h => ?_⟩
  refine Call_ (ld_blt I hg hm boot_enumerate (PyProof.Rows.callWith_type1 (thn (ha.run pos pins s σ H _ I h) fun us s1 ⟨vs, H1, I1, r1, q1⟩ => ?_) hs rfl))
  obtain ⟨a, xs, ex, q⟩ := q1
  subst ex
  cases r1 with
  | cons r rr =>
    cases rr
    cases r
    have fp : ∀ b ∈ [s1.heap.objs.size + 1, s1.heap.objs.size], FpOk X pins H1 b := fun b hb => by
      have e' : b = s1.heap.objs.size + 1 ∨ b = s1.heap.objs.size := by simpa using hb
      have hle : s1.heap.objs.size ≤ b := by
        rcases e' with z | z
        · rw [z]; exact Nat.le_add_right _ _
        · rw [z]; exact Nat.le_refl _
      exact I1.fpOk hle (I1.hok.fresh hle)
    rcases q with ⟨hq, q⟩ | ⟨hq, q⟩
    · obtain ⟨its, rv, p', hz⟩ := I1.list hq
      refine call_enumerate_list p'.isList fun h' he hit hsz hk => wpAny_pyIter_enum he ?_
      have I2 : Inv X pins σ H1 { s1 with heap := h' } := I1.kept (t' := s1.toks) hk
      exact ⟨s1.heap.objs.size + 1, [s1.heap.objs.size + 1, s1.heap.objs.size], _, _, H1, rfl, I2, turn_enum a (s1.heap.objs.size + 1) s1.heap.objs.size, ⟨⟨.none, he⟩, hit, Nat.succ_ne_self _⟩, fp, q⟩
    · obtain ⟨its, rv, p', hz⟩ := I1.tuple hq
      refine enum_call1 (begins_tuple a its.toArray) (isTuple_of p') fun h' he hit hk => wpAny_pyIter_enum he ?_
      have I2 : Inv X pins σ H1 { s1 with heap := h' } := I1.kept (t' := s1.toks) hk
      exact ⟨s1.heap.objs.size + 1, [s1.heap.objs.size + 1, s1.heap.objs.size], _, _, H1, rfl, I2, turn_enumT a (s1.heap.objs.size + 1) s1.heap.objs.size, ⟨⟨.none, he⟩, ⟨_, hit, rfl, rfl⟩, Nat.succ_ne_self _⟩, fp, q⟩
end
/-! ### turned about -/
section
variable {prog : Program} {w : World} {A : Around} {E : Value → Shared → Prop} {s : Shared}
theorem places_neg (n : Nat) : Builtin.Slice.slicePlaces ((n : Int) - 1) (-1) (-1) = n := by
  unfold Builtin.Slice.slicePlaces
  have h1 : ¬ ((-1 : Int) > 0) := by omega
  simp only [h1, if_false]
  rw [show -(-1 : Int) = 1 by omega, Int.ediv_one]
  split <;> omega
theorem applied_neg {sl : Addr} {vl vu vs : Value} {n : Nat} {Q : Int × Int × Nat → Shared → Prop} (hs : s.heap.IsSliceOf sl vl vu vs) (pl : IsPart vl none) (pu : IsPart vu none) (ps : IsPart vs (some (-1)))
    (h : Q ((n : Int) - 1, -1, n) s) : wpAny (model prog w) A (Builtin.Slice.sliceApplied (.ref sl) (pure (n : Int))) Q E s := by
  obtain ⟨os, hos, hcs, hds⟩ := id hs
  unfold Builtin.Slice.sliceApplied Builtin.Slice.sliceFields
  refine wpAny_bind (wpAny_bind (wpAny_field hos hds (x := vl) rfl (wpAny_bind (wpAny_field hos hds (x := vu) rfl (wpAny_bind (wpAny_field hos hds (x := vs) rfl (wpAny_pure ?_)))))))
  refine wpAny_bind (HT.slicePart_ ps ?_)
  show wpAny _ _ (if ((-1 : Int) == 0) = true then _ else _) _ _ s
  rw [if_neg (by decide)]
  refine wpAny_bind (HT.slicePart_ pl (wpAny_bind (HT.slicePart_ pu (wpAny_bind (wpAny_pure ?_)))))
  show wpAny _ _ (pure ((n : Int) - 1, (-1 : Int), Builtin.Slice.slicePlaces ((n : Int) - 1) (-1) (-1))) _ _ s
  rw [places_neg]
  exact wpAny_pure h
theorem pick_neg (xs : Array Value) : ((List.range xs.size).filterMap fun (m : Nat) => xs[((xs.size : Int) - 1 + (m : Int) * (-1)).toNat]?).toArray = xs.toList.reverse.toArray := by
  have e : (fun (m : Nat) => xs[((xs.size : Int) - 1 + (m : Int) * (-1)).toNat]?) = (fun (j : Nat) => xs[j]?) ∘ fun (m : Nat) => xs.size - 1 - m := by
    funext m
    have : ((xs.size : Int) - 1 + (m : Int) * (-1)).toNat = xs.size - 1 - m := by omega
    show xs[((xs.size : Int) - 1 + (m : Int) * (-1)).toNat]? = xs[xs.size - 1 - m]?
    rw [this]
  rw [e, ← List.filterMap_map, PySem.W.krv_range, List.filterMap_reverse, PySem.W.krv_all]
theorem getItem_tuple_rev {t sl : Addr} {items : Array Value} {vl vu vs : Value} {Q : Value → Shared → Prop} (ht : IsTup s.heap t items) (hs : s.heap.IsSliceOf sl vl vu vs) (pl : IsPart vl none) (pu : IsPart vu none) (ps : IsPart vs (some (-1)))
    (h : Q (.ref s.heap.objs.size) { s with heap := s.heap.push { cls := .type "tuple", data := .seq items.toList.reverse.toArray } }) (hsz : items.size ≤ sizeLine) : wpAny (model prog w) A (getItem (.ref t) (.ref sl)) Q E s := by
  have hnew : sizeOk (.seq items.toList.reverse.toArray) := by
    show items.toList.reverse.toArray.size ≤ sizeLine
    rw [List.size_toArray, List.length_reverse, Array.length_toList]
    exact hsz
  obtain ⟨os, hos, hcs, hds⟩ := id hs
  have hTs : s.TypeIs (.ref sl) "slice" := ⟨os, hos, hcs⟩
  unfold getItem
  try with_reducible refine wpAny_holding ?_
  first | refine wpAny_bind (wpAny_pure ?_) | skip
  refine wpAny_bind (wpAny_sequenceKey ht.typeIs (by decide) ?_)
  refine wpAny_bind (wpAny_callSpecial?_slot (name := Str.ofString "__getitem__") ht.typeIs PyProof.Rows.slot_tuple_getitem
    (wpAny_call_entry PyProof.Rows.slot_tuple_getitem ht.typeIs entry_tuple_getitem ?_ (args_tuple_getitem _ _)))
  show wpAny _ _ (Builtin.Tuple.tupleItemsOf (.ref t) >>= _) _ _ s
  refine wpAny_bind (tupleItemsOf_ ht ?_)
  refine wpAny_bind (wpAny_typeOf hTs ?_)
  rw [if_pos (by decide)]
  refine wpAny_bind (applied_neg hs pl pu ps ?_)
  have hno : ¬ ((((items.size : Int) - 1) == 0 && (-1 : Int) == 1 && items.size == items.size) = true) := by
    intro q
    rw [Bool.and_eq_true, Bool.and_eq_true] at q
    exact absurd q.1.2 (by decide)
  show wpAny _ _ (if (((items.size : Int) - 1) == 0 && (-1 : Int) == 1 && items.size == items.size) = true then _ else _) _ _ s
  rw [if_neg hno, pick_neg]
  first
    | exact wpAny_bind (m := Builtin.Tuple.tupleExact _) (wpAny_newObj_type (wpAny_pure ⟨_, rfl, wpAny_pure h⟩) hnew)
    | exact wpAny_bind (m := Builtin.Tuple.tupleExact _) (wpAny_newObj_type (wpAny_bind (wpAny_pure (wpAny_pure ⟨_, rfl, wpAny_pure h⟩))) hnew)
    | exact wpAny_bind (wpAny_bind (m := Builtin.Tuple.tupleExact _) (wpAny_newObj_type (wpAny_pure (wpAny_pure ⟨_, rfl, wpAny_pure h⟩)) hnew))
    | exact wpAny_bind (wpAny_bind (m := Builtin.Tuple.tupleExact _) (wpAny_newObj_type (wpAny_pure ⟨_, rfl, wpAny_pure h⟩) hnew))
end
section
variable {X : Cx}
def tRevA (K : PySem.W.Frag) (te : TE) : TE := fun σ H Q => te σ H fun x H1 => ∃ a xs, x = .ref a ∧ ((SqL K H1 a xs ∧ ∀ p, H1 p = none → Q (.ref p) (upd H1 p (.lst xs.reverse))) ∨ (SqT K H1 a xs ∧ ∀ p, H1 p = none → Q (.ref p) (upd H1 p (.tup xs.reverse))))
theorem pe_revA {e : Expr} {te : TE} {k : Nat} {p1 p2 p3 pos : Pos} (he : PE X e te) : PE X (.Subscript e (.Slice none none (some (.UnaryOp .USub (.Constant (.int 1) k p1) p2)) p3) pos) (tRevA X.K te) := by
  refine ⟨fun pins s σ H Q I h => ?_⟩
  refine Subscript_ (thn (he.run pins s σ H _ I h) fun v s1 ⟨x, H1, I1, r1, q1⟩ => ?_)
  obtain ⟨a, xs, ex, q⟩ := q1
  subst ex
  cases r1
  have hst : PO X (some (.UnaryOp .USub (.Constant (.int 1) k p1) p2)) (tPart (tUn (rU fun i => .int (-i)) (tC (.int 1)))) := po_some (pe_un un_neg pe_int)
  refine wpAny_Slice (thn (po_none.run pins s1 σ H1 (fun o H2 => o = none ∧ H2 = H1) I1 ⟨rfl, rfl⟩) fun vl s2 ⟨l, H2, I2, pl, el, e2⟩ => ?_)
  subst el e2
  refine thn (po_none.run pins s2 σ H2 (fun o H3 => o = none ∧ H3 = H2) I2 ⟨rfl, rfl⟩) fun vu s3 ⟨u, H3, I3, pu, eu, e3⟩ => ?_
  subst eu e3
  refine thn (hst.run pins s3 σ H3 (fun o H4 => o = some (-1) ∧ H4 = H3) I3 ⟨1, rfl, -1, rfl, rfl, rfl⟩) fun vs s4 ⟨o, H4, I4, ps, eo, e4⟩ => ?_
  subst eo e4
  have I5 : Inv X pins σ H4 { s4 with heap := s4.heap.push { cls := .type "slice", data := .fields #[vl, vu, vs] } } := I4.kept (t' := s4.toks) fun b ob q => Heap.get?_push_of_some _ q
  show wpAny (model X.prog X.w) X.A (subscriptTail e (.Slice none none (some (.UnaryOp .USub (.Constant (.int 1) k p1) p2)) p3) (.ref a) (.ref s4.heap.objs.size)) (EP X pins σ Q) X.xe { s4 with heap := s4.heap.push { cls := .type "slice", data := .fields #[vl, vu, vs] } }
  rcases q with ⟨hx, q⟩ | ⟨hx, q⟩
  · obtain ⟨its, r, ht, hz⟩ := I5.list hx
    have hlen := r.length
    refine tail_any (ops := [.ref a, .ref s4.heap.objs.size]) ht.isList.typeIs (PySem.slot_list_getitem.lookup) ?_ (by with_unfolding_all rfl)
    refine wpAny_getItem_list_slice ht.isList (Heap.IsSliceOf.new _ vl vu vs) pl pu ps (by decide) ?_ (by rw [List.size_toArray]; omega)
    rw [PySem.W.krv_pick]
    exact ⟨.ref _, _, I5.laid (t' := s4.toks) (o := .lst xs.reverse) (fun b ob q => Heap.get?_push_of_some _ q) (Nat.le_refl _) ⟨by rw [List.length_reverse]; exact hz, _, 0, r.reverse, Heap.get?_push_size _ rfl⟩, rfl, q _ (I5.hok.fresh (Nat.le_refl _))⟩
  · obtain ⟨its, r, ht, hz⟩ := I5.tuple hx
    have hlen := r.length
    refine tail_any (ops := [.ref a, .ref s4.heap.objs.size]) ht.typeIs (PyProof.Rows.slot_tuple_getitem.lookup) ?_ (by with_unfolding_all rfl)
    refine getItem_tuple_rev ht (Heap.IsSliceOf.new _ vl vu vs) pl pu ps ?_ (by rw [List.size_toArray]; omega)
    exact ⟨.ref _, _, I5.laid (t' := s4.toks) (o := .tup xs.reverse) (fun b ob q => Heap.get?_push_of_some _ q) (Nat.le_refl _) ⟨by rw [List.length_reverse]; exact hz, _, r.reverse, ⟨_, Heap.get?_push_size _ rfl, rfl, 0, rfl⟩⟩, rfl, q _ (I5.hok.fresh (Nat.le_refl _))⟩
end
end Pv

/-! list(zip(a, b)), a and b lists or tuples -/
namespace Pv
open PySem PySem.Spec PyProof.Rows L2 RZ

/-- an iterator at place k over a list or a tuple -/
def SeqIt (h : Heap) (it l : Addr) (k : Nat) (xs : Array Value) : Prop := (h.IsListIter it l k ∧ h.IsList l xs) ∨ (h.IsTupleIter it l k ∧ h.IsTuple l xs)
theorem SeqIt.at {h h' : Heap} {it l : Addr} {k : Nat} {xs : Array Value} (x : SeqIt h it l k xs) (e1 : ∀ o, h.get? it = some o → h'.get? it = some o) (e2 : ∀ o, h.get? l = some o → h'.get? l = some o) : SeqIt h' it l k xs := by
  rcases x with ⟨a, b⟩ | ⟨a, b⟩
  · exact .inl ⟨a.at e1, b.at e2⟩
  · exact .inr ⟨a.at e1, b.at e2⟩
theorem SeqIt.ext {h h' : Heap} {it l b : Addr} {k : Nat} {xs : Array Value} (x : SeqIt h it l k xs) (e : Heap.ExtBut b h h') (n1 : it ≠ b) (n2 : l ≠ b) : SeqIt h' it l k xs :=
  x.at (fun o q => e _ o n1 q) (fun o q => e _ o n2 q)
theorem SeqIt.it_lt {h : Heap} {it l : Addr} {k : Nat} {xs : Array Value} (x : SeqIt h it l k xs) : it < h.objs.size := by
  rcases x with ⟨⟨_, a, _⟩, _⟩ | ⟨⟨_, a, _⟩, _⟩ <;> exact Heap.lt_size a
section
variable {prog : Program} {w : World} {A : Around} {E : Value → Shared → Prop} {s : Shared}
theorem seq_next {it l : Addr} {i : Nat} {items} {x : Value} {Q : Value → Shared → Prop} (hit : SeqIt s.heap it l i items) (hne : l ≠ it) (hx : items[i]? = some x)
    (hQ : ∀ h', SeqIt h' it l (i + 1) items → Heap.SameBut it s.heap h' → Q x { s with heap := h' }) : wpAny (model prog w) A (Builtin.SmallTypes.nextOf (.ref it)) Q E s := by
  rcases hit with ⟨a, b⟩ | ⟨a, b⟩
  · exact wpAny_nextOf_list_item a b hx fun h' a' sb => hQ h' (.inl ⟨a', b.extBut sb.extBut hne⟩) sb
  · exact nextOf_tuple_item a b hx fun h' a' sb => hQ h' (.inr ⟨a', b.extBut sb.extBut hne⟩) sb
theorem seq_end {it l : Addr} {i : Nat} {items} {Q : Value → Shared → Prop} (hh : A.handled = none) (hit : SeqIt s.heap it l i items) (hx : items[i]? = none)
    (hE : ∀ h' e, Heap.ExtBut it s.heap h' → (∃ o, h'.get? e = some o ∧ o.cls = .type "StopIteration") → E (.ref e) { s with heap := h' }) : wpAny (model prog w) A (Builtin.SmallTypes.nextOf (.ref it)) Q E s := by
  rcases hit with ⟨a, b⟩ | ⟨a, b⟩
  · exact wpAny_nextOf_list_end hh a b hx hE
  · exact nextOf_tuple_end hh a b hx hE
/-! the first turn -/
theorem zg_item {z TI TO i1 i2 l1 l2 : Addr} {k1 k2 : Nat} {xs ys : Array Value} {x y a b : Value} {Q : Value → Shared → Prop} (D : ZipApart z TI TO i1 i2 l1 l2)
    (hz : IsZip s.heap z TI TO .none) (hTI : IsPair s.heap TI (.ref i1) (.ref i2)) (hTO : IsPair s.heap TO a b)
    (h1 : SeqIt s.heap i1 l1 k1 xs) (h2 : SeqIt s.heap i2 l2 k2 ys) (hx : xs[k1]? = some x) (hy : ys[k2]? = some y)
    (hQ : ∀ h', IsZipHeld h' z TI TO s.heap.objs.size false → SeqIt h' i1 l1 (k1 + 1) xs → SeqIt h' i2 l2 (k2 + 1) ys → IsPair h' s.heap.objs.size x y → h'.objs.size = s.heap.objs.size + 1 →
      (∀ c o, c ≠ z → c ≠ TO → c ≠ i1 → c ≠ i2 → s.heap.get? c = some o → h'.get? c = some o) → Q (.ref s.heap.objs.size) { s with heap := h' }) :
    wpAny (model prog w) A (Builtin.«zip.__next__» ⟨[.ref z], []⟩) (fun fin s' => ∃ v, fin = .done (.ret v) ∧ Q v s') E s := by
  show wpAny _ _ (field (.ref z) 2 >>= _) _ _ _
  refine wpAny_bind (wpAny_field hz rfl (x := .bool false) rfl ?_)
  show wpAny _ _ (field (.ref z) 3 >>= _) _ _ _
  refine wpAny_bind (wpAny_field hz rfl (x := .ref TI) rfl ?_)
  refine wpAny_bind (wpAny_seqItems hTI rfl ?_)
  show wpAny _ _ (Builtin.SmallTypes.ownedTupleIsFree (.ref z) >>= _) _ _ _
  refine wpAny_bind ?_
  unfold Builtin.SmallTypes.ownedTupleIsFree
  refine wpAny_bind (wpAny_field hz rfl (x := .none) rfl (wpAny_pure ?_))
  simp only [if_true]
  refine wpAny_bind (wpAny_rule ?_)
  refine wpAny_bind (wpAny_field hz rfl (x := .ref TO) rfl ?_)
  refine wpAny_bind (wpAny_setField_rec hz (by simp) fun h₁ hz₁ hs₁ => ?_)
  replace hz₁ : IsZip h₁ z TI TO .ellipsis := hz₁
  refine wpAny_bind ?_
  simp only [List.zipIdx_cons, List.zipIdx_nil, List.forIn_cons, List.forIn_nil]
  refine wpAny_bind (wpAny_bind (wpAny_onRaise ?_))
  show wpAny _ _ (Builtin.SmallTypes.nextOf (.ref i1) >>= _) _ _ _
  refine wpAny_bind (seq_next (s := { s with heap := h₁ }) (h1.ext hs₁.extBut D.i1z D.l1z) D.l1i1 hx fun h₂ h1₂ hs₂ => wpAny_pure ?_)
  have hTO₂ : IsPair h₂ TO a b := hs₂.extBut _ _ D.TOi1 (hs₁.extBut _ _ D.TOz hTO)
  refine wpAny_bind (wpAny_seqItems hTO₂ rfl ?_)
  refine wpAny_bind (wpAny_updateSeq_pair hTO₂ fun h₃ hTO₃ hs₃ => ?_)
  replace hTO₃ : IsPair h₃ TO x b := hTO₃
  refine wpAny_bind (wpAny_letGo (wpAny_pure ?_))
  refine wpAny_bind (wpAny_bind (wpAny_onRaise ?_))
  show wpAny _ _ (Builtin.SmallTypes.nextOf (.ref i2) >>= _) _ _ _
  refine wpAny_bind (seq_next (s := { s with heap := h₃ }) (((h2.ext hs₁.extBut D.i2z D.l2z).ext hs₂.extBut D.i12.symm D.l2i1).ext hs₃.extBut D.TOi2.symm D.l2TO) D.l2i2 hy fun h₄ h2₄ hs₄ => wpAny_pure ?_)
  have hTO₄ : IsPair h₄ TO x b := hs₄.extBut _ _ D.TOi2 hTO₃
  refine wpAny_bind (wpAny_seqItems hTO₄ rfl ?_)
  refine wpAny_bind (wpAny_updateSeq_pair hTO₄ fun h₅ hTO₅ hs₅ => ?_)
  replace hTO₅ : IsPair h₅ TO x y := hTO₅
  refine wpAny_bind (wpAny_letGo (wpAny_pure (wpAny_pure ?_)))
  refine wpAny_bind (wpAny_seqItems hTO₅ rfl ?_)
  refine wpAny_bind (wpAny_newTuple ?_)
  have hsz : h₅.objs.size = s.heap.objs.size := by rw [hs₅.1, hs₄.1, hs₃.1, hs₂.1, hs₁.1]
  have hz₅ : IsZip h₅ z TI TO .ellipsis := hs₅.extBut _ _ D.TOz.symm (hs₄.extBut _ _ D.i2z.symm (hs₃.extBut _ _ D.TOz.symm (hs₂.extBut _ _ D.i1z.symm hz₁)))
  have hk₅ : ∀ c o, c ≠ z → c ≠ TO → c ≠ i1 → c ≠ i2 → s.heap.get? c = some o → h₅.get? c = some o := fun c o c1 c2 c3 c4 e =>
    hs₅.extBut _ _ c2 (hs₄.extBut _ _ c4 (hs₃.extBut _ _ c2 (hs₂.extBut _ _ c3 (hs₁.extBut _ _ c1 e))))
  have h1₅ : SeqIt h₅ i1 l1 (k1 + 1) xs := ((h1₂.ext hs₃.extBut D.TOi1.symm D.l1TO).ext hs₄.extBut D.i12 D.l1i2).ext hs₅.extBut D.TOi1.symm D.l1TO
  have h2₅ : SeqIt h₅ i2 l2 (k2 + 1) ys := h2₄.ext hs₅.extBut D.TOi2.symm D.l2TO
  have hzlt : z < h₅.objs.size := Heap.lt_size hz₅
  show wpAny _ _ (Builtin.SmallTypes.ownedTupleHandOut (.ref z) (.ref h₅.objs.size) >>= _) _ _ _
  refine wpAny_bind ?_
  unfold Builtin.SmallTypes.ownedTupleHandOut
  have hz₆ : IsZip (h₅.push { cls := .type "tuple", data := .seq #[x, y] }) z TI TO .ellipsis := Heap.get?_push_of_some _ hz₅
  refine wpAny_bind (wpAny_setField_rec hz₆ (by simp) fun h₇ hz₇ hs₇ => ?_)
  replace hz₇ : IsZip h₇ z TI TO (rawInt h₅.objs.size) := hz₇
  refine wpAny_setField_rec hz₇ (by simp) fun h₈ hz₈ hs₈ => ?_
  replace hz₈ : IsZip h₈ z TI TO (rawInt h₅.objs.size) := hz₈
  have up : ∀ c o, c ≠ z → h₅.get? c = some o → h₈.get? c = some o := fun c o c1 e => hs₈.extBut _ _ c1 (hs₇.extBut _ _ c1 (Heap.get?_push_of_some _ e))
  have hT₈ : IsPair h₈ h₅.objs.size x y := hs₈.extBut _ _ (Nat.ne_of_gt hzlt) (hs₇.extBut _ _ (Nat.ne_of_gt hzlt) (Heap.get?_push_size _ rfl))
  have hz8 : h₈.objs.size = h₅.objs.size + 1 := by rw [hs₈.1, hs₇.1, Heap.size_push]
  rw [hsz] at hz₈ hT₈ hz8
  refine wpAny_pure ⟨_, rfl, ?_⟩
  show Q (.ref h₅.objs.size) _
  rw [hsz]
  exact hQ h₈ hz₈ (h1₅.at (fun o e => up _ o D.i1z e) (fun o e => up _ o D.l1z e)) (h2₅.at (fun o e => up _ o D.i2z e) (fun o e => up _ o D.l2z e)) hT₈ hz8 fun c o c1 c2 c3 c4 e => up c o c1 (hk₅ c o c1 c2 c3 c4 e)
theorem zg_end {z TI TO i1 i2 l1 l2 : Addr} {k1 k2 : Nat} {xs ys : Array Value} {a b : Value} {Q : Fin → Shared → Prop} (hh : A.handled = none) (D : ZipApart z TI TO i1 i2 l1 l2)
    (hz : IsZip s.heap z TI TO .none) (hTI : IsPair s.heap TI (.ref i1) (.ref i2)) (hTO : IsPair s.heap TO a b)
    (h1 : SeqIt s.heap i1 l1 k1 xs) (h2 : SeqIt s.heap i2 l2 k2 ys) (hend : xs[k1]? = none ∨ ys[k2]? = none)
    (hE : ∀ h' e, (∀ c o, c ≠ z → c ≠ TO → c ≠ i1 → c ≠ i2 → s.heap.get? c = some o → h'.get? c = some o) → (∃ o, h'.get? e = some o ∧ o.cls = .type "StopIteration") → E (.ref e) { s with heap := h' }) :
    wpAny (model prog w) A (Builtin.«zip.__next__» ⟨[.ref z], []⟩) Q E s := by
  show wpAny _ _ (field (.ref z) 2 >>= _) _ _ _
  refine wpAny_bind (wpAny_field hz rfl (x := .bool false) rfl ?_)
  show wpAny _ _ (field (.ref z) 3 >>= _) _ _ _
  refine wpAny_bind (wpAny_field hz rfl (x := .ref TI) rfl ?_)
  refine wpAny_bind (wpAny_seqItems hTI rfl ?_)
  show wpAny _ _ (Builtin.SmallTypes.ownedTupleIsFree (.ref z) >>= _) _ _ _
  refine wpAny_bind ?_
  unfold Builtin.SmallTypes.ownedTupleIsFree
  refine wpAny_bind (wpAny_field hz rfl (x := .none) rfl (wpAny_pure ?_))
  simp only [if_true]
  refine wpAny_bind (wpAny_rule ?_)
  refine wpAny_bind (wpAny_field hz rfl (x := .ref TO) rfl ?_)
  refine wpAny_bind (wpAny_setField_rec hz (by simp) fun h₁ hz₁ hs₁ => ?_)
  replace hz₁ : IsZip h₁ z TI TO .ellipsis := hz₁
  refine wpAny_bind ?_
  simp only [List.zipIdx_cons, List.zipIdx_nil, List.forIn_cons, List.forIn_nil]
  refine wpAny_bind (wpAny_bind (wpAny_onRaise ?_))
  show wpAny _ _ (Builtin.SmallTypes.nextOf (.ref i1) >>= _) _ _ _
  cases hx : xs[k1]? with
  | none =>
    refine wpAny_bind (seq_end (s := { s with heap := h₁ }) hh (h1.ext hs₁.extBut D.i1z D.l1z) hx fun h₂ e hs₂ he => ?_)
    obtain ⟨oe, hoe, hce⟩ := he
    have hz₂ : IsZip h₂ z TI TO .ellipsis := hs₂ _ _ D.i1z.symm hz₁
    have hez : e ≠ z := fun x => by subst x; rw [hz₂] at hoe; cases hoe; simp at hce
    refine wpAny_setField_rec hz₂ (by simp) fun h₃ _ hs₃ => hE h₃ e (fun c o c1 _ c3 _ x => hs₃.extBut _ _ c1 (hs₂ _ _ c3 (hs₁.extBut _ _ c1 x))) ⟨oe, hs₃.extBut _ _ hez hoe, hce⟩
  | some x =>
    have hy : ys[k2]? = none := by rcases hend with h | h; rw [hx] at h; cases h; exact h
    refine wpAny_bind (seq_next (s := { s with heap := h₁ }) (h1.ext hs₁.extBut D.i1z D.l1z) D.l1i1 hx fun h₂ h1₂ hs₂ => wpAny_pure ?_)
    have hTO₂ : IsPair h₂ TO a b := hs₂.extBut _ _ D.TOi1 (hs₁.extBut _ _ D.TOz hTO)
    refine wpAny_bind (wpAny_seqItems hTO₂ rfl ?_)
    refine wpAny_bind (wpAny_updateSeq_pair hTO₂ fun h₃ hTO₃ hs₃ => ?_)
    refine wpAny_bind (wpAny_letGo (wpAny_pure ?_))
    refine wpAny_bind (wpAny_bind (wpAny_onRaise ?_))
    show wpAny _ _ (Builtin.SmallTypes.nextOf (.ref i2) >>= _) _ _ _
    refine wpAny_bind (seq_end (s := { s with heap := h₃ }) hh (((h2.ext hs₁.extBut D.i2z D.l2z).ext hs₂.extBut D.i12.symm D.l2i1).ext hs₃.extBut D.TOi2.symm D.l2TO) hy fun h₄ e hs₄ he => ?_)
    obtain ⟨oe, hoe, hce⟩ := he
    have hz₄ : IsZip h₄ z TI TO .ellipsis := hs₄ _ _ D.i2z.symm (hs₃.extBut _ _ D.TOz.symm (hs₂.extBut _ _ D.i1z.symm (hz₁)))
    have hez : e ≠ z := fun x => by subst x; rw [hz₄] at hoe; cases hoe; simp at hce
    refine wpAny_setField_rec hz₄ (by simp) fun h₅ _ hs₅ => hE h₅ e (fun c o c1 c2 c3 c4 x => hs₅.extBut _ _ c1 (hs₄ _ _ c4 (hs₃.extBut _ _ c2 (hs₂.extBut _ _ c3 (hs₁.extBut _ _ c1 x))))) ⟨oe, hs₅.extBut _ _ hez hoe, hce⟩
/-! a turn while the tuple of before is still there -/
theorem zh_item {z TI TO T i1 i2 l1 l2 : Addr} {f : Bool} {oT : Obj} {k1 k2 : Nat} {xs ys : Array Value} {x y : Value} {Q : Value → Shared → Prop} (D : ZipApart z TI TO i1 i2 l1 l2)
    (hz : IsZipHeld s.heap z TI TO T f) (hT : s.heap.get? T = some oT) (hTI : IsPair s.heap TI (.ref i1) (.ref i2))
    (h1 : SeqIt s.heap i1 l1 k1 xs) (h2 : SeqIt s.heap i2 l2 k2 ys) (hx : xs[k1]? = some x) (hy : ys[k2]? = some y)
    (hQ : ∀ h', IsZipHeld h' z TI TO T true → SeqIt h' i1 l1 (k1 + 1) xs → SeqIt h' i2 l2 (k2 + 1) ys → IsPair h' s.heap.objs.size x y → h'.objs.size = s.heap.objs.size + 1 →
      (∀ c o, c ≠ z → c ≠ i1 → c ≠ i2 → s.heap.get? c = some o → h'.get? c = some o) → Q (.ref s.heap.objs.size) { s with heap := h' }) :
    wpAny (model prog w) A (Builtin.«zip.__next__» ⟨[.ref z], []⟩) (fun fin s' => ∃ v, fin = .done (.ret v) ∧ Q v s') E s := by
  show wpAny _ _ (field (.ref z) 2 >>= _) _ _ _
  refine wpAny_bind (wpAny_field hz rfl (x := .bool false) rfl ?_)
  show wpAny _ _ (field (.ref z) 3 >>= _) _ _ _
  refine wpAny_bind (wpAny_field hz rfl (x := .ref TI) rfl ?_)
  refine wpAny_bind (wpAny_seqItems hTI rfl ?_)
  show wpAny _ _ (Builtin.SmallTypes.ownedTupleIsFree (.ref z) >>= _) _ _ _
  refine wpAny_bind (wpAny_tupleHeld_zip hz hT fun h₁ hz₁ hs₁ => ?_)
  simp only [Bool.false_eq_true, if_false]
  refine wpAny_bind ?_
  rw [← Array.forIn_toList]
  simp only [List.forIn_cons, List.forIn_nil]
  refine wpAny_bind (wpAny_bind (wpAny_holding ?_))
  show wpAny _ _ (Builtin.SmallTypes.nextOf (.ref i1) >>= _) _ _ _
  refine wpAny_bind (seq_next (s := { s with heap := h₁ }) (h1.ext hs₁.extBut D.i1z D.l1z) D.l1i1 hx fun h₂ h1₂ hs₂ => wpAny_pure ?_)
  refine wpAny_pure ?_
  refine wpAny_bind (wpAny_bind (wpAny_holding ?_))
  show wpAny _ _ (Builtin.SmallTypes.nextOf (.ref i2) >>= _) _ _ _
  refine wpAny_bind (seq_next (s := { s with heap := h₂ }) ((h2.ext hs₁.extBut D.i2z D.l2z).ext hs₂.extBut D.i12.symm D.l2i1) D.l2i2 hy fun h₃ h2₃ hs₃ => wpAny_pure ?_)
  refine wpAny_pure (wpAny_pure ?_)
  show wpAny _ _ (newTuple [x, y] >>= _) _ _ _
  refine wpAny_bind (wpAny_newTuple ?_)
  have hsz : h₃.objs.size = s.heap.objs.size := by rw [hs₃.1, hs₂.1, hs₁.1]
  have hz₃ : IsZipHeld h₃ z TI TO T true := hs₃.extBut _ _ D.i2z.symm (hs₂.extBut _ _ D.i1z.symm hz₁)
  have hk : ∀ c o, c ≠ z → c ≠ i1 → c ≠ i2 → s.heap.get? c = some o → h₃.get? c = some o := fun c o c1 c2 c3 e => hs₃.extBut _ _ c3 (hs₂.extBut _ _ c2 (hs₁.extBut _ _ c1 e))
  have h1₃ : SeqIt h₃ i1 l1 (k1 + 1) xs := h1₂.ext hs₃.extBut D.i12 D.l1i2
  refine wpAny_pure ⟨_, rfl, ?_⟩
  show Q (.ref h₃.objs.size) _
  have hp : IsPair (h₃.push { cls := .type "tuple", data := .seq #[x, y] }) h₃.objs.size x y := Heap.get?_push_size _ rfl
  have hz4 : (h₃.push { cls := .type "tuple", data := .seq #[x, y] }).objs.size = h₃.objs.size + 1 := Heap.size_push ..
  rw [hsz] at hp hz4 ⊢
  exact hQ _ (Heap.get?_push_of_some _ hz₃) (h1₃.at (fun o e => Heap.get?_push_of_some _ e) fun o e => Heap.get?_push_of_some _ e) (h2₃.at (fun o e => Heap.get?_push_of_some _ e) fun o e => Heap.get?_push_of_some _ e) hp hz4 fun c o c1 c2 c3 e => Heap.get?_push_of_some _ (hk c o c1 c2 c3 e)
theorem zh_end {z TI TO T i1 i2 l1 l2 : Addr} {f : Bool} {oT : Obj} {k1 k2 : Nat} {xs ys : Array Value} {Q : Fin → Shared → Prop} (hh : A.handled = none) (D : ZipApart z TI TO i1 i2 l1 l2)
    (hz : IsZipHeld s.heap z TI TO T f) (hT : s.heap.get? T = some oT) (hTI : IsPair s.heap TI (.ref i1) (.ref i2))
    (h1 : SeqIt s.heap i1 l1 k1 xs) (h2 : SeqIt s.heap i2 l2 k2 ys) (hend : xs[k1]? = none ∨ ys[k2]? = none)
    (hE : ∀ h' e, (∀ c o, c ≠ z → c ≠ i1 → c ≠ i2 → s.heap.get? c = some o → h'.get? c = some o) → (∃ o, h'.get? e = some o ∧ o.cls = .type "StopIteration") → E (.ref e) { s with heap := h' }) :
    wpAny (model prog w) A (Builtin.«zip.__next__» ⟨[.ref z], []⟩) Q E s := by
  show wpAny _ _ (field (.ref z) 2 >>= _) _ _ _
  refine wpAny_bind (wpAny_field hz rfl (x := .bool false) rfl ?_)
  show wpAny _ _ (field (.ref z) 3 >>= _) _ _ _
  refine wpAny_bind (wpAny_field hz rfl (x := .ref TI) rfl ?_)
  refine wpAny_bind (wpAny_seqItems hTI rfl ?_)
  show wpAny _ _ (Builtin.SmallTypes.ownedTupleIsFree (.ref z) >>= _) _ _ _
  refine wpAny_bind (wpAny_tupleHeld_zip hz hT fun h₁ hz₁ hs₁ => ?_)
  simp only [Bool.false_eq_true, if_false]
  refine wpAny_bind ?_
  rw [← Array.forIn_toList]
  simp only [List.forIn_cons, List.forIn_nil]
  refine wpAny_bind (wpAny_bind (wpAny_holding ?_))
  show wpAny _ _ (Builtin.SmallTypes.nextOf (.ref i1) >>= _) _ _ _
  cases hx : xs[k1]? with
  | none =>
    refine wpAny_bind (seq_end (s := { s with heap := h₁ }) hh (h1.ext hs₁.extBut D.i1z D.l1z) hx fun h₂ e hs₂ he => ?_)
    exact hE h₂ e (fun c o c1 c2 _ x => hs₂ _ _ c2 (hs₁.extBut _ _ c1 x)) he
  | some x =>
    have hy : ys[k2]? = none := by rcases hend with h | h; rw [hx] at h; cases h; exact h
    refine wpAny_bind (seq_next (s := { s with heap := h₁ }) (h1.ext hs₁.extBut D.i1z D.l1z) D.l1i1 hx fun h₂ h1₂ hs₂ => wpAny_pure ?_)
    refine wpAny_pure ?_
    refine wpAny_bind (wpAny_bind (wpAny_holding ?_))
    show wpAny _ _ (Builtin.SmallTypes.nextOf (.ref i2) >>= _) _ _ _
    refine wpAny_bind (seq_end (s := { s with heap := h₂ }) hh ((h2.ext hs₁.extBut D.i2z D.l2z).ext hs₂.extBut D.i12.symm D.l2i1) hy fun h₃ e hs₃ he => ?_)
    exact hE h₃ e (fun c o c1 c2 c3 x => hs₃ _ _ c3 (hs₂.extBut _ _ c2 (hs₁.extBut _ _ c1 x))) he
end
/-- a zip at place i, none of its tuples at d -/
def ZSt (d z TI TO i1 i2 l1 l2 : Addr) (xs ys : Array Value) (i : Nat) (h : Heap) : Prop :=
  IsPair h TI (.ref i1) (.ref i2) ∧ SeqIt h i1 l1 i xs ∧ SeqIt h i2 l2 i ys ∧
    ((IsZip h z TI TO .none ∧ ∃ a b, IsPair h TO a b) ∨ ∃ T f oT, IsZipHeld h z TI TO T f ∧ h.get? T = some oT ∧ T ≠ z ∧ T ≠ i1 ∧ T ≠ i2 ∧ T ≠ d)
structure DOff (d z TI TO i1 i2 l1 l2 : Addr) : Prop where
  z : z ≠ d
  TI : TI ≠ d
  TO : TO ≠ d
  i1 : i1 ≠ d
  i2 : i2 ≠ d
  l1 : l1 ≠ d
  l2 : l2 ≠ d
theorem ZSt.keep {d z TI TO i1 i2 l1 l2 : Addr} {xs ys : Array Value} {i : Nat} {h h' : Heap} (o : DOff d z TI TO i1 i2 l1 l2) (x : ZSt d z TI TO i1 i2 l1 l2 xs ys i h) (hk : ∀ b ob, b ≠ d → h.get? b = some ob → h'.get? b = some ob) : ZSt d z TI TO i1 i2 l1 l2 xs ys i h' := by
  obtain ⟨a, b, c, r⟩ := x
  refine ⟨hk _ _ o.TI a, b.at (fun ob => hk _ ob o.i1) (fun ob => hk _ ob o.l1), c.at (fun ob => hk _ ob o.i2) (fun ob => hk _ ob o.l2), ?_⟩
  rcases r with ⟨hz, u, v, hTO⟩ | ⟨T, f, oT, hz, hT, r1, r2, r3, r4⟩
  · exact .inl ⟨hk _ _ o.z hz, u, v, hk _ _ o.TO hTO⟩
  · exact .inr ⟨T, f, oT, hk _ _ o.z hz, hk _ _ r4 hT, r1, r2, r3, r4⟩
section
variable {prog : Program} {w : World} {A : Around} {E : Value → Shared → Prop} {s : Shared}
theorem z_item {d z TI TO i1 i2 l1 l2 : Addr} {i : Nat} {xs ys : Array Value} {x y : Value} {Q : Option Value → Shared → Prop} (D : ZipApart z TI TO i1 i2 l1 l2) (hd : d < s.heap.objs.size)
    (st : ZSt d z TI TO i1 i2 l1 l2 xs ys i s.heap) (hx : xs[i]? = some x) (hy : ys[i]? = some y)
    (hQ : ∀ h', ZSt d z TI TO i1 i2 l1 l2 xs ys (i + 1) h' → IsPair h' s.heap.objs.size x y → (∀ c o, c ∉ [z, TO, i1, i2] → s.heap.get? c = some o → h'.get? c = some o) → Q (some (.ref s.heap.objs.size)) { s with heap := h' }) :
    wpAny (model prog w) A (pyNext (.ref z)) Q E s := by
  obtain ⟨hTI, h1, h2, r⟩ := st
  have n1 : s.heap.objs.size ≠ i1 := Nat.ne_of_gt h1.it_lt
  have n2 : s.heap.objs.size ≠ i2 := Nat.ne_of_gt h2.it_lt
  unfold pyNext
  rcases r with ⟨hz, u, v, hTO⟩ | ⟨T, f, oT, hz, hT, r1, r2, r3, r4⟩
  · have hTy : s.TypeIs (.ref z) "zip" := ⟨_, hz, rfl⟩
    refine wpAny_bind (wpAny_attempt (wpAny_callSpecial?_slot (name := Str.ofString "__next__") hTy F.slot_zip_next (wpAny_call_entry F.slot_zip_next hTy F.entry_zip_next
      (zg_item D hz hTI hTO h1 h2 hx hy fun h' a1 a3 a4 a5 a6 hk => wpAny_pure (hQ h' ⟨hk _ _ D.TIz D.TITO D.TIi1 D.TIi2 hTI, a3, a4, .inr ⟨s.heap.objs.size, false, _, a1, a5, Nat.ne_of_gt (Heap.lt_size hz), n1, n2, Nat.ne_of_gt hd⟩⟩ a5 fun c o hc e =>
        hk c o (fun x => hc (by simp [x])) (fun x => hc (by simp [x])) (fun x => hc (by simp [x])) (fun x => hc (by simp [x])) e)) (F.args_zip_next_1 _))))
  · have hTy : s.TypeIs (.ref z) "zip" := ⟨_, hz, rfl⟩
    refine wpAny_bind (wpAny_attempt (wpAny_callSpecial?_slot (name := Str.ofString "__next__") hTy F.slot_zip_next (wpAny_call_entry F.slot_zip_next hTy F.entry_zip_next
      (zh_item D hz hT hTI h1 h2 hx hy fun h' a1 a3 a4 a5 a6 hk => wpAny_pure (hQ h' ⟨hk _ _ D.TIz D.TIi1 D.TIi2 hTI, a3, a4, .inr ⟨T, true, oT, a1, hk _ _ r1 r2 r3 hT, r1, r2, r3, r4⟩⟩ a5 fun c o hc e =>
        hk c o (fun x => hc (by simp [x])) (fun x => hc (by simp [x])) (fun x => hc (by simp [x])) e)) (F.args_zip_next_1 _))))
theorem z_end {d z TI TO i1 i2 l1 l2 : Addr} {i : Nat} {xs ys : Array Value} {Q : Option Value → Shared → Prop} (hh : A.handled = none) (D : ZipApart z TI TO i1 i2 l1 l2)
    (st : ZSt d z TI TO i1 i2 l1 l2 xs ys i s.heap) (hend : xs[i]? = none ∨ ys[i]? = none)
    (hQ : ∀ h', (∀ c o, c ∉ [z, TO, i1, i2] → s.heap.get? c = some o → h'.get? c = some o) → Q none { s with heap := h' }) :
    wpAny (model prog w) A (pyNext (.ref z)) Q E s := by
  obtain ⟨hTI, h1, h2, r⟩ := st
  unfold pyNext
  rcases r with ⟨hz, u, v, hTO⟩ | ⟨T, f, oT, hz, hT, r1, r2, r3, r4⟩
  · have hTy : s.TypeIs (.ref z) "zip" := ⟨_, hz, rfl⟩
    refine wpAny_bind (wpAny_attempt (wpAny_callSpecial?_slot (name := Str.ofString "__next__") hTy F.slot_zip_next
      (wpAny_call_entry F.slot_zip_next hTy F.entry_zip_next (zg_end hh D hz hTI hTO h1 h2 hend fun h' e hk he => ?_) (F.args_zip_next_1 _))))
    obtain ⟨o, ho, hc⟩ := he
    refine wpAny_bind (wpAny_isInstance (T := "StopIteration") (b := true) ⟨o, ho, hc⟩ isSubtype_stop ?_)
    exact wpAny_pure (hQ _ fun c o hc e => hk c o (fun x => hc (by simp [x])) (fun x => hc (by simp [x])) (fun x => hc (by simp [x])) (fun x => hc (by simp [x])) e)
  · have hTy : s.TypeIs (.ref z) "zip" := ⟨_, hz, rfl⟩
    refine wpAny_bind (wpAny_attempt (wpAny_callSpecial?_slot (name := Str.ofString "__next__") hTy F.slot_zip_next
      (wpAny_call_entry F.slot_zip_next hTy F.entry_zip_next (zh_end hh D hz hT hTI h1 h2 hend fun h' e hk he => ?_) (F.args_zip_next_1 _))))
    obtain ⟨o, ho, hc⟩ := he
    refine wpAny_bind (wpAny_isInstance (T := "StopIteration") (b := true) ⟨o, ho, hc⟩ isSubtype_stop ?_)
    exact wpAny_pure (hQ _ fun c o hc e => hk c o (fun x => hc (by simp [x])) (fun x => hc (by simp [x])) (fun x => hc (by simp [x])) e)
end
end Pv

namespace Pv
open PySem PySem.Spec PyProof.Rows L2 RZ
theorem nolen_zip : typeLookup (.type "zip") "__len__" = pure none := by rw [typeLookup_type, builtinLookup_eq_fast]; kernel_rfl
theorem nohint_zip : typeLookup (.type "zip") "__length_hint__" = pure none := by rw [typeLookup_type, builtinLookup_eq_fast]; kernel_rfl
/-- the list at d takes pairs in new tuples -/
inductive ZRun (d : Addr) : List (V × V) → List V → Hp → List V → Hp → Prop
  | nil (acc : List V) (H : Hp) : ZRun d [] acc H acc H
  | cons {x y : V} {r : List (V × V)} {acc acc' : List V} {H H' : Hp} {T : Addr} {o : Obj} : H T = none → o.dict = none → ZRun d r (acc ++ [.ref T]) (upd (upd H T (.frz o (.tup [x, y]))) d (.lst (acc ++ [.ref T]))) acc' H' → ZRun d ((x, y) :: r) acc H acc' H'
section
variable {X : Cx} {pins : List (Addr × Obj)} {σ : L2.St} {A1 : Around} {d z TI TO i1 i2 l1 l2 : Addr} {its its2 : List Value} {xs ys : List V}
theorem vals_at {xs : List V} {us : List Value} (r : Vals xs us) {i : Nat} {x : V} (h : xs[i]? = some x) : ∃ u, us[i]? = some u ∧ RelV x u := by
  obtain ⟨u, a, b⟩ := r.get h
  exact ⟨u, a, b⟩
theorem mem4 {b : Addr} (h : b ∈ [z, TO, i1, i2]) : b ∈ [z, TI, TO, i1, i2] := by
  simp only [List.mem_cons, List.not_mem_nil, or_false] at h ⊢
  rcases h with h | h | h | h <;> simp only [h, true_or, or_true]
theorem z_loop {Rs : Result → Shared → Prop} {res : Value} (hh : A1.handled = none) (D : ZipApart z TI TO i1 i2 l1 l2) (oz : DOff d z TI TO i1 i2 l1 l2) (rx : Vals xs its) (ry : Vals ys its2)
    (hlt : ∀ b ∈ [z, TI, TO, i1, i2], b < d) :
    ∀ (k i : Nat) (acc : List V) (H : Hp) (s : Shared), min xs.length ys.length - i = k → i ≤ min xs.length ys.length → Inv X pins σ H s → H d = some (.lst acc) → ZSt d z TI TO i1 i2 l1 l2 its.toArray its2.toArray i s.heap →
      (∀ b ∈ [z, TI, TO, i1, i2], FpOk X pins H b) → acc.length + k < sizeLine → (∀ acc' H' s', Inv X pins σ H' s' → ZRun d ((xs.zip ys).drop i) acc H acc' H' → Rs (.ok (.ret res)) s') →
      codeAny (model X.prog X.w) A1 (.builtin "list.extend.loop" ⟨[.ref d, .ref z, res], []⟩) Rs s
  | 0, i, acc, H, s, hk, hi, I, hd, st, hf, hl, hR => by
    have l1 := rx.length
    have l2 := ry.length
    refine codeAny_builtin PySem.F.entry_extend_loop ?_
    rw [Around.under_plainId PySem.F.plain_extend_loop _]
    show wpAny _ A1.in1 (pyNext (.ref z) >>= _) _ _ s
    have he : its.toArray[i]? = none ∨ its2.toArray[i]? = none := by
      by_cases q : xs.length ≤ i
      · exact .inl (by simp; omega)
      · exact .inr (by simp; omega)
    refine wpAny_bind (z_end (A := A1.in1) hh D st he fun h' hkp => wpAny_pure ?_)
    refine hR acc H _ (I.turnedL (t' := s.toks) (ch := [z, TO, i1, i2]) hkp fun b hb => hf b (mem4 hb)) ?_
    rw [List.drop_of_length_le (by rw [List.length_zip]; omega)]
    exact .nil _ _
  | k + 1, i, acc, H, s, hk, hi, I, hd, st, hf, hl, hR => by
    have hlx : i < xs.length := by omega
    have hly : i < ys.length := by omega
    obtain ⟨u, hu, ru⟩ := vals_at rx (List.getElem?_eq_getElem hlx)
    obtain ⟨v, hv, rv⟩ := vals_at ry (List.getElem?_eq_getElem hly)
    obtain ⟨_, itd, nd, _, _, ed⟩ := I.lstM hd
    have hds : d < s.heap.objs.size := Heap.lt_size ed
    refine codeAny_builtin PySem.F.entry_extend_loop ?_
    rw [Around.under_plainId PySem.F.plain_extend_loop _]
    show wpAny _ A1.in1 (pyNext (.ref z) >>= _) _ _ s
    refine wpAny_bind (z_item (A := A1.in1) D hds st (x := u) (y := v) (by simpa using hu) (by simpa using hv) fun h' st' hT hkp => ?_)
    have new : ObjOk X.prog X.w (upd H s.heap.objs.size (.frz { cls := .type "tuple", data := .seq #[u, v] } (.tup [xs[i], ys[i]]))) h' s.heap.objs.size (.frz { cls := .type "tuple", data := .seq #[u, v] } (.tup [xs[i], ys[i]])) :=
      ⟨hT, by show 2 ≤ sizeLine; decide, [u, v], .cons ru (.cons rv .nil), ⟨_, hT, rfl, _, rfl⟩⟩
    have hTn : H s.heap.objs.size = none := I.hok.fresh (Nat.le_refl _)
    have I1 : Inv X pins σ (upd H s.heap.objs.size (.frz { cls := .type "tuple", data := .seq #[u, v] } (.tup [xs[i], ys[i]]))) { s with heap := h' } :=
      I.turnedNew (t' := s.toks) (ch := [z, TO, i1, i2]) hkp (fun b hb => hf b (mem4 hb)) (Nat.le_refl _) new
    have hd1 : upd H s.heap.objs.size (.frz { cls := .type "tuple", data := .seq #[u, v] } (.tup [xs[i], ys[i]])) d = some (.lst acc) := by rw [upd_ne (Nat.ne_of_lt hds)]; exact hd
    obtain ⟨_, it1, n1, r1, hl1, e1⟩ := I1.lstM hd1
    show wpAny _ A1.in1 (updateSeq d (·.push (.ref s.heap.objs.size)) >>= _) _ _ _
    refine wpAny_bind (wpAny_updateSeq e1 rfl (wpAny_pure ⟨plainId_quiet PySem.F.plain_extend_loop _, ?_⟩) (by rw [List.size_toArray]; omega) (by show (it1.toArray.push (.ref s.heap.objs.size)).size ≤ sizeLine + 1; rw [Array.size_push, List.size_toArray]; omega))
    have I2 := I1.lset (f := (·.push (.ref s.heap.objs.size))) (its' := it1 ++ [.ref s.heap.objs.size]) (ys := acc ++ [.ref s.heap.objs.size]) (t' := s.toks) hd1 e1 (by simp) (r1.append (.cons (show L2.RelV (.ref s.heap.objs.size) (.ref s.heap.objs.size) from rfl) .nil)) (by rw [List.length_append, List.length_singleton]; omega)
    refine z_loop hh D oz rx ry hlt k (i + 1) (acc ++ [.ref s.heap.objs.size]) _ _ (by omega) (by omega) I2 upd_same (st'.keep oz fun b ob hb q => (Heap.get?_update_other _ _ (Ne.symm hb)).trans q) (fun b hb => ?_) (by rw [List.length_append, List.length_singleton]; omega) fun acc' H' s' I' run => hR acc' H' s' I' ?_
    · have hb1 := hlt b hb
      have := hf b hb
      refine ⟨?_, this.2⟩
      rw [upd_ne (Nat.ne_of_lt hb1), upd_ne (Nat.ne_of_lt (Nat.lt_trans hb1 hds))]
      exact this.1
    · have e : (xs.zip ys).drop i = (xs[i], ys[i]) :: (xs.zip ys).drop (i + 1) := by
        rw [List.drop_eq_getElem_cons (by rw [List.length_zip]; omega)]
        simp
      rw [e]
      exact .cons hTn rfl run
theorem z_extend {Rs : Result → Shared → Prop} {res : Value} {H : Hp} {s : Shared} (hh : A1.handled = none) (D : ZipApart z TI TO i1 i2 l1 l2) (oz : DOff d z TI TO i1 i2 l1 l2) (rx : Vals xs its) (ry : Vals ys its2)
    (hlt : ∀ b ∈ [z, TI, TO, i1, i2], b < d) (I : Inv X pins σ H s) (hd : H d = some (.lst [])) (hz : IsZip s.heap z TI TO .none) (st : ZSt d z TI TO i1 i2 l1 l2 its.toArray its2.toArray 0 s.heap)
    (hf : ∀ b ∈ [z, TI, TO, i1, i2], FpOk X pins H b) (hl : min xs.length ys.length < sizeLine) (hR : ∀ acc' H' s', Inv X pins σ H' s' → ZRun d (xs.zip ys) [] H acc' H' → Rs (.ok (.ret res)) s') :
    wpAny (model X.prog X.w) A1.in1 (Builtin.List.listExtendWith (.ref d) (.ref z) res)
      (fun fin s' => match fin with | .done f => Rs (.ok f) s' | .again c' => c'.quiet = true ∧ codeAny (model X.prog X.w) A1 c' Rs s') (fun e s' => Rs (.error e) s') s := by
  have hTy : s.TypeIs (.ref z) "zip" := ⟨_, hz, rfl⟩
  unfold Builtin.List.listExtendWith
  refine wpAny_bind (wpAny_typeOf hTy ?_)
  have h1 : Builtin.List.listSameRef (.ref d) (.ref z) = false := by simp [Builtin.List.listSameRef, Ne.symm oz.z]
  have h2 : (Value.type "zip" == Value.type "list") = false := by decide
  have h3 : (Value.type "zip" == Value.type "tuple") = false := by decide
  simp only [h1, h2, h3, Bool.or_false, Bool.false_eq_true, if_false]
  refine wpAny_bind (wpAny_pyIter_zip hz ?_)
  refine wpAny_bind (wpAny_holding ?_)
  unfold Builtin.List.listLengthHint
  refine wpAny_bind (wpAny_specialOf hTy nolen_zip ?_)
  show wpAny _ A1.in1 (specialOf (Value.ref z) (Str.ofString "__length_hint__") >>= _) _ _ _
  refine wpAny_bind (wpAny_specialOf hTy nohint_zip ?_)
  refine wpAny_pure ?_
  obtain ⟨_, it3, k3, r3, hl3, e3⟩ := I.lstM hd
  cases r3
  have loop : ∀ s', Inv X pins σ H s' → ZSt d z TI TO i1 i2 l1 l2 its.toArray its2.toArray 0 s'.heap → codeAny (model X.prog X.w) A1 (.builtin "list.extend.loop" ⟨[.ref d, .ref z, res], []⟩) Rs s' := fun s' I' st' =>
    z_loop hh D oz rx ry hlt _ 0 [] H s' rfl (Nat.zero_le _) I' hd st' hf (by simp; omega) hR
  refine wpAny_ite_split (fun _ => ?_) (fun _ => wpAny_pure ⟨plainId_quiet PySem.F.plain_extend_loop _, loop s I st⟩)
  refine wpAny_bind (wpAny_rule ?_)
  refine wpAny_bind ?_
  show wpAny _ _ (updateSeq d (·.push .none) >>= fun _ => updateSeq d (·.pop)) _ _ _
  refine wpAny_bind (wpAny_updateSeq e3 rfl ?_)
  have I2 := I.lset (f := (·.push Value.none)) (its' := [Value.none]) (ys := [.non]) (t' := s.toks) hd e3 (by simp) (.cons rfl .nil) (by rw [List.length_singleton, sizeLine_eq]; decide)
  obtain ⟨_, its4, k4, r4, hl4, e4⟩ := I2.lstM upd_same
  obtain ⟨u4, rfl, ru4⟩ := r4.one
  refine wpAny_updateSeq e4 rfl ?_ (by show 1 ≤ sizeLine; rw [sizeLine_eq]; decide) (by show 0 ≤ sizeLine + 1; exact Nat.zero_le _)
  refine wpAny_pure ⟨plainId_quiet PySem.F.plain_extend_loop _, loop _ ?_ ?_⟩
  · have I3 := I2.lset (f := (·.pop)) (its := [u4]) (its' := []) (ys := []) (t' := s.toks) upd_same e4 (by rfl) .nil (Nat.zero_le _)
    rw [upd_upd] at I3
    have hH : upd H d (.lst []) = H := by
      funext b
      by_cases hb : b = d
      · rw [hb, upd_same, hd]
      · rw [upd_ne hb]
    rw [hH] at I3
    exact I3
  · exact (st.keep oz fun b ob hb q => (Heap.get?_update_other _ _ (Ne.symm hb)).trans q).keep oz fun b ob hb q => (Heap.get?_update_other _ _ (Ne.symm hb)).trans q
end
end Pv

namespace Pv
open PySem PySem.Spec PyProof.Rows L2 RZ
/-- a list or a tuple, and the class of its iterator -/
def IsSq (h : Heap) (l : Addr) (xs : Array Value) (c : String) : Prop := (h.IsList l xs ∧ c = "list_iterator") ∨ (h.IsTuple l xs ∧ c = "tuple_iterator")
theorem IsSq.push {h : Heap} {l : Addr} {xs : Array Value} {c : String} (x : IsSq h l xs c) (o : Obj) : IsSq (h.push o) l xs c := by
  rcases x with ⟨a, b⟩ | ⟨a, b⟩
  · exact .inl ⟨a.at fun o e => Heap.get?_push_of_some _ e, b⟩
  · exact .inr ⟨a.at fun o e => Heap.get?_push_of_some _ e, b⟩
section
variable {prog : Program} {w : World} {A : Around} {E : Value → Shared → Prop} {s : Shared}
theorem pyIter_sq {l : Addr} {xs : Array Value} {c : String} {Q : Value → Shared → Prop} (x : IsSq s.heap l xs c)
    (hQ : Q (.ref s.heap.objs.size) { s with heap := s.heap.push { cls := .type c, data := .fields #[.ref l, .int 0 0] } }) : wpAny (model prog w) A (pyIter (.ref l)) Q E s := by
  rcases x with ⟨a, rfl⟩ | ⟨a, rfl⟩
  · exact wpAny_pyIter_list a hQ
  · exact wpAny_pyIter_tuple a hQ
abbrev zgH1 (c1 : String) (h : Heap) (l1 : Addr) : Heap := h.push { cls := .type c1, data := .fields #[.ref l1, .int 0 0] }
abbrev zgH2 (c1 c2 : String) (h : Heap) (l1 l2 : Addr) : Heap := (zgH1 c1 h l1).push { cls := .type c2, data := .fields #[.ref l2, .int 0 0] }
abbrev zgH3 (c1 c2 : String) (h : Heap) (l1 l2 : Addr) : Heap := (zgH2 c1 c2 h l1 l2).push { cls := .type "tuple", data := .seq #[.ref h.objs.size, .ref (zgH1 c1 h l1).objs.size] }
abbrev zgH4 (c1 c2 : String) (h : Heap) (l1 l2 : Addr) : Heap := (zgH3 c1 c2 h l1 l2).push { cls := .type "tuple", data := .seq #[.none, .none] }
abbrev zgH5 (c1 c2 : String) (h : Heap) (l1 l2 : Addr) : Heap := (zgH4 c1 c2 h l1 l2).push { cls := .type "zip", data := .fields #[.none, .bool false, .bool false, .ref (zgH2 c1 c2 h l1 l2).objs.size, .ref (zgH3 c1 c2 h l1 l2).objs.size] }
theorem meets_zipG_new (l1 l2 : Addr) (xs ys : Array Value) (c1 c2 : String) :
    Meets (Builtin.«zip.__new__» ⟨[.type "zip", .ref l1, .ref l2], []⟩) (fun _ R s => IsSq s.heap l1 xs c1 ∧ IsSq s.heap l2 ys c2 ∧
      R (.ok (.ret (.ref (zgH4 c1 c2 s.heap l1 l2).objs.size))) { s with heap := zgH5 c1 c2 s.heap l1 l2 }) :=
  .of_wp fun prog w A R s h => by
    obtain ⟨hp, g, d, tk, os⟩ := s; obtain ⟨hl1, hl2, h⟩ := h
    have hsub := sub_zip
    have hL1 : IsSq (Shared.heap ⟨hp, g, d, tk, os⟩) l1 xs c1 := hl1
    have hL2 : IsSq (Shared.heap ⟨hp.push { cls := .type c1, data := .fields #[.ref l1, .int 0 0] }, g, d, tk, os⟩) l2 ys c2 := IsSq.push hl2 _
    wp_walk using pyIter_sq hL1, pyIter_sq hL2
    exact ⟨_, rfl, h⟩
theorem seqIt_of {h h0 : Heap} {it l : Addr} {xs : Array Value} {c : String} (x : IsSq h0 l xs c) (e : h.get? it = some { cls := .type c, data := .fields #[.ref l, .int 0 0] }) (k : ∀ o, h0.get? l = some o → h.get? l = some o) : SeqIt h it l 0 xs := by
  rcases x with ⟨a, rfl⟩ | ⟨a, rfl⟩
  · exact .inl ⟨⟨_, e, rfl, rfl⟩, a.at k⟩
  · exact .inr ⟨⟨_, e, rfl, rfl⟩, a.at k⟩
theorem call_zipG {l1 l2 : Addr} {xs ys : Array Value} {c1 c2 : String} {Q : Value → Shared → Prop} (hl1 : IsSq s.heap l1 xs c1) (hl2 : IsSq s.heap l2 ys c2)
    (h : ∀ h', IsZip h' (s.heap.objs.size + 4) (s.heap.objs.size + 2) (s.heap.objs.size + 3) .none → IsPair h' (s.heap.objs.size + 2) (.ref s.heap.objs.size) (.ref (s.heap.objs.size + 1)) →
      IsPair h' (s.heap.objs.size + 3) .none .none → SeqIt h' s.heap.objs.size l1 0 xs → SeqIt h' (s.heap.objs.size + 1) l2 0 ys → h'.objs.size = s.heap.objs.size + 5 →
      (∀ c o, s.heap.get? c = some o → h'.get? c = some o) → Q (.ref (s.heap.objs.size + 4)) { s with heap := h' }) :
    wpAny (model prog w) A (call (.type "zip") [.ref l1, .ref l2]) Q E s := by
  refine callType_new F.called_zip (by decide) (F.typeCall_zip_2 _ _) (F.newCall_zip_2 _ _) (fun obj => F.args_object_init_3 obj _ _) F.entry_zip_new
    (meets_zipG_new l1 l2 xs ys c1 c2) ⟨hl1, hl2, ?_⟩
  have z1 : (zgH1 c1 s.heap l1).objs.size = s.heap.objs.size + 1 := Heap.size_push ..
  have z2 : (zgH2 c1 c2 s.heap l1 l2).objs.size = s.heap.objs.size + 2 := by rw [Heap.size_push, z1]
  have z3 : (zgH3 c1 c2 s.heap l1 l2).objs.size = s.heap.objs.size + 3 := by rw [Heap.size_push, z2]
  have z4 : (zgH4 c1 c2 s.heap l1 l2).objs.size = s.heap.objs.size + 4 := by rw [Heap.size_push, z3]
  have z5 : (zgH5 c1 c2 s.heap l1 l2).objs.size = s.heap.objs.size + 5 := by rw [Heap.size_push, z4]
  have g5 : (zgH5 c1 c2 s.heap l1 l2).get? (zgH4 c1 c2 s.heap l1 l2).objs.size = some _ := Heap.get?_push_size _ rfl
  have g4 : (zgH5 c1 c2 s.heap l1 l2).get? (zgH3 c1 c2 s.heap l1 l2).objs.size = some _ := Heap.get?_push_of_some _ (Heap.get?_push_size _ rfl)
  have g3 : (zgH5 c1 c2 s.heap l1 l2).get? (zgH2 c1 c2 s.heap l1 l2).objs.size = some _ := Heap.get?_push_of_some _ (Heap.get?_push_of_some _ (Heap.get?_push_size _ rfl))
  have g2 : (zgH5 c1 c2 s.heap l1 l2).get? (zgH1 c1 s.heap l1).objs.size = some _ := Heap.get?_push_of_some _ (Heap.get?_push_of_some _ (Heap.get?_push_of_some _ (Heap.get?_push_size _ rfl)))
  have g1 : (zgH5 c1 c2 s.heap l1 l2).get? s.heap.objs.size = some _ := Heap.get?_push_of_some _ (Heap.get?_push_of_some _ (Heap.get?_push_of_some _ (Heap.get?_push_of_some _ (Heap.get?_push_size _ rfl))))
  show _ ∧ _
  rw [z2, z3, z4] at g5
  rw [z1, z2] at g3
  rw [z3] at g4
  rw [z1] at g2
  rw [z4]
  have kp : ∀ c o, s.heap.get? c = some o → (zgH5 c1 c2 s.heap l1 l2).get? c = some o := fun c o x =>
    Heap.get?_push_of_some _ (Heap.get?_push_of_some _ (Heap.get?_push_of_some _ (Heap.get?_push_of_some _ (Heap.get?_push_of_some _ x))))
  exact ⟨⟨_, g5, rfl⟩, h _ g5 g3 g4 (seqIt_of hl1 g1 (kp l1)) (seqIt_of hl2 g2 (kp l2)) z5 kp⟩
end
section
variable {X : Cx}
/-- a list or a tuple -/
def SqA (K : PySem.W.Frag) (H : Hp) (a : Addr) (xs : List V) : Prop := SqL K H a xs ∨ SqT K H a xs
theorem inv_sq {pins : List (Addr × Obj)} {σ : L2.St} {H : Hp} {s : Shared} {a : Addr} {xs : List V} (I : Inv X pins σ H s) (h : SqA X.K H a xs) : ∃ its c, Vals xs its ∧ IsSq s.heap a its.toArray c ∧ xs.length ≤ sizeLine ∧ a < s.heap.objs.size := by
  rcases h with h | h
  · obtain ⟨its, r, p, z⟩ := I.list h
    exact ⟨its, _, r, .inl ⟨p.isList, rfl⟩, z, p.lt⟩
  · obtain ⟨its, r, p, z⟩ := I.tuple h
    obtain ⟨o, ho, _⟩ := id p
    exact ⟨its, _, r, .inr ⟨p, rfl⟩, z, Heap.lt_size ho⟩
/-- an expression that makes a zip -/
def PZp (X : Cx) (e : Expr) (ta : TA) : Prop :=
  ∀ (pins : List (Addr × Obj)) (s : Shared) (σ : L2.St) (H : Hp) (Q : List V → List V → Hp → Prop), Inv X pins σ H s → (ta σ H fun vs H1 => ∃ a b xs ys, vs = [.ref a, .ref b] ∧ SqA X.K H1 a xs ∧ SqA X.K H1 b ys ∧ Q xs ys H1) →
    wpAny (model X.prog X.w) X.A (eval e X.env) (fun v s' => ∃ z TI TO i1 i2 l1 l2 its its2 xs ys H', v = .ref z ∧ ZipApart z TI TO i1 i2 l1 l2 ∧ IsZip s'.heap z TI TO .none ∧ (∀ d, ZSt d z TI TO i1 i2 l1 l2 its.toArray its2.toArray 0 s'.heap) ∧
      Vals xs its ∧ Vals ys its2 ∧ min xs.length ys.length ≤ sizeLine ∧ (∀ b ∈ [z, TI, TO, i1, i2, l1, l2], b < s'.heap.objs.size) ∧ Inv X pins σ H' s' ∧ (∀ b ∈ [z, TI, TO, i1, i2], FpOk X pins H' b) ∧ Q xs ys H') X.xe s
theorem pzp {e e2 : Expr} {ta : TA} {p pos : Pos} (hg : Gl X "zip") (hm : X.mg "zip" = none) (ha : PA X [e, e2] ta)
    (hs : starEach [e, e2] X.env = (false, eval e X.env) :: starEach [e2] X.env := by rfl) (hpl : (backTo pos (starEach [e2] X.env)).any (·.1) = false := by rfl) : PZp X (.Call (.Name "zip" p) [e, e2] [] pos) ta := by
  intro pins s σ H Q I h
  refine Call_ (ld_blt I hg hm PyProof.Rows.boot_zip (PyProof.Rows.callWith_type1 (thn (ha.run pos pins s σ H _ I h) fun us s1 ⟨vs, H1, I1, r1, q1⟩ => ?_) hs hpl))
  obtain ⟨a, b, xs, ys, ex, hx, hy, q1⟩ := q1
  subst ex
  cases r1 with
  | cons r rr =>
    cases rr with
    | cons r' rr =>
      cases rr
      cases r
      cases r'
      have fresh5 : ∀ c, c ∈ [s1.heap.objs.size + 4, s1.heap.objs.size + 2, s1.heap.objs.size + 3, s1.heap.objs.size, s1.heap.objs.size + 1] → FpOk X pins H1 c := fun c hcm => by
        have e' : c = s1.heap.objs.size + 4 ∨ c = s1.heap.objs.size + 2 ∨ c = s1.heap.objs.size + 3 ∨ c = s1.heap.objs.size ∨ c = s1.heap.objs.size + 1 := by simpa using hcm
        have hle : s1.heap.objs.size ≤ c := by
          rcases e' with z | z | z | z | z <;> rw [z] <;> first | exact Nat.le_add_right _ _ | exact Nat.le_refl _
        exact I1.fpOk hle (I1.hok.fresh hle)
      obtain ⟨its, c1, rv, p1, z1, lt1⟩ := inv_sq I1 hx
      obtain ⟨its2, c2, rv2, p2, z2, lt2⟩ := inv_sq I1 hy
      refine call_zipG p1 p2 fun h' hz hTI hTO h1 h2 hsz hk => ?_
      have I2 : Inv X pins σ H1 { s1 with heap := h' } := I1.kept (t' := s1.toks) hk
      refine ⟨_, _, _, _, _, a, b, its, its2, xs, ys, H1, rfl, PySem.W.ktu_apart s1.heap.objs.size a b lt1 lt2, hz, fun d => ⟨hTI, h1, h2, .inl ⟨hz, _, _, hTO⟩⟩, rv, rv2, Nat.le_trans (Nat.min_le_left _ _) z1, fun c hc => ?_, I2, fresh5, q1⟩
      show c < h'.objs.size
      rw [hsz]
      have e' : c = s1.heap.objs.size + 4 ∨ c = s1.heap.objs.size + 2 ∨ c = s1.heap.objs.size + 3 ∨ c = s1.heap.objs.size ∨ c = s1.heap.objs.size + 1 ∨ c = a ∨ c = b := by simpa using hc
      rcases e' with z | z | z | z | z | z | z <;> rw [z] <;> first | exact Nat.add_lt_add_left (by decide) _ | exact Nat.lt_add_of_pos_right (by decide) | exact Nat.lt_of_lt_of_le lt1 (Nat.le_add_right _ _) | exact Nat.lt_of_lt_of_le lt2 (Nat.le_add_right _ _)
/-- list(zip(..)) -/
def tLzip (K : PySem.W.Frag) (ta : TA) : TE := fun σ H Q => ta σ H fun vs H1 => ∃ a b xs ys, vs = [.ref a, .ref b] ∧ SqA K H1 a xs ∧ SqA K H1 b ys ∧ min xs.length ys.length < sizeLine ∧
  ∀ d, H1 d = none → ∀ acc' H', ZRun d (xs.zip ys) [] (upd H1 d (.lst [])) acc' H' → Q (.ref d) H'
theorem mem5 {b z TI TO i1 i2 l1 l2 : Addr} (h : b ∈ [z, TI, TO, i1, i2]) : b ∈ [z, TI, TO, i1, i2, l1, l2] := by
  simp only [List.mem_cons, List.not_mem_nil, or_false] at h ⊢
  rcases h with h | h | h | h | h <;> simp only [h, true_or, or_true]
theorem pe_lzip {e : Expr} {ta : TA} {p pos : Pos} (hc : X.calm = true) (hg : Gl X "list") (hm : X.mg "list" = none) (he : PZp X e ta) (na : starEach [e] X.env = (false, eval e X.env) :: starEach [] X.env := by rfl) :
    PE X (.Call (.Name "list" p) [e] [] pos) (tLzip X.K ta) := by
  refine ⟨fun pins s σ H Q I h => ?_⟩
  refine Call_ (ld_blt I hg hm boot_list (PyProof.Rows.callWith_type1 (args_cons (thn (he pins s σ H (fun xs ys H1 => min xs.length ys.length < sizeLine ∧ ∀ d, H1 d = none → ∀ acc' H', ZRun d (xs.zip ys) [] (upd H1 d (.lst [])) acc' H' → Q (.ref d) H') I h)
    fun x s1 ⟨z, TI, TO, i1, i2, l1, l2, its, its2, xs, ys, H1, ex, D, hz, st, rx, ry, hl, hlt, I1, hf, hl', q⟩ => args_nil ?_) na) na))
  subst ex
  have hh := I1.ok.hd hc
  refine callType_codes (Q₁ := fun obj s₁ => obj = .ref s1.heap.objs.size ∧ s₁ = { s1 with heap := s1.heap.push { cls := .type "list", data := .seq #[] } }) PySem.F.called_list (PySem.F.typeCall_list_1 _) PySem.F.entry_list_init
    (code_list_new _ ⟨rfl, rfl⟩) fun obj s₁ h₁ => ?_
  obtain ⟨rfl, rfl⟩ := h₁
  have hS : (s1.heap.push { cls := .type "list", data := .seq #[] }).get? s1.heap.objs.size = some { cls := .type "list", data := .seq #[] } := Heap.get?_push_size _ rfl
  refine ⟨⟨_, hS, rfl⟩, PySem.F.args_list_init_2 _ _, ?_⟩
  have fr : H1 s1.heap.objs.size = none := I1.hok.fresh (Nat.le_refl _)
  have I2 : Inv X pins σ (upd H1 s1.heap.objs.size (.lst [])) { s1 with heap := s1.heap.push { cls := .type "list", data := .seq #[] } } := I1.lnew (its := []) (t' := s1.toks) .nil (Nat.zero_le _)
  show wpAny _ _ (do let old ← Builtin.List.listItems (.ref s1.heap.objs.size); Builtin.List.listUpdate (.ref s1.heap.objs.size) (fun _ => #[]); letGo old.toList.reverse; Builtin.List.listExtendWith (.ref s1.heap.objs.size) (.ref z) .none) _ _ _
  refine wpAny_bind ?_
  unfold Builtin.List.listItems
  refine wpAny_bind (wpAny_seqItems hS rfl (wpAny_pure ?_))
  show wpAny _ _ (updateSeq s1.heap.objs.size (fun _ => #[]) >>= fun _ => letGo (#[] : Array Value).toList.reverse >>= fun _ => Builtin.List.listExtendWith (.ref s1.heap.objs.size) (.ref z) .none) _ _ _
  refine wpAny_bind (wpAny_updateSeq hS rfl ?_)
  have I3 := I2.lset (f := fun _ => #[]) (its := []) (its' := []) (ys := []) (t' := s1.toks) upd_same hS rfl .nil (Nat.zero_le _)
  rw [upd_upd] at I3
  refine wpAny_bind (wpAny_letGo ?_)
  have oz : DOff s1.heap.objs.size z TI TO i1 i2 l1 l2 := by
    refine ⟨?_, ?_, ?_, ?_, ?_, ?_, ?_⟩ <;> exact Nat.ne_of_lt (hlt _ (by simp))
  have kp : ∀ b o, b ≠ s1.heap.objs.size → s1.heap.get? b = some o → ((s1.heap.push { cls := .type "list", data := .seq #[] }).update s1.heap.objs.size (Obj.mapSeq fun _ => #[])).get? b = some o := fun b o hb q =>
    (Heap.get?_update_other _ _ (Ne.symm hb)).trans (Heap.get?_push_of_some _ q)
  exact z_extend (A1 := X.A.in1) (Rs := wants (fun r s₂ => r = .none ∧ EP X pins σ Q (.ref s1.heap.objs.size) s₂) X.xe) hh D oz rx ry (fun b hb => hlt b (mem5 hb)) I3 upd_same
    (kp _ _ oz.z hz) ((st _).keep oz kp) (fun b hb => ⟨by rw [upd_ne (Nat.ne_of_lt (hlt b (mem5 hb)))]; exact (hf b hb).1, (hf b hb).2⟩) hl'
    fun acc' H' s' I' run => ⟨rfl, .ref s1.heap.objs.size, H', I', rfl, q _ fr acc' H' run⟩
end
end Pv

/-! new tuples, known to have no dict -/
namespace Pv
open PySem PySem.Spec PyProof.Rows L2
theorem sqT_frz {K : PySem.W.Frag} {H : Hp} {p : Addr} {o : Obj} {xs : List V} : SqT K (upd H p (.frz o (.tup xs))) p xs := .inl (.inr ⟨o, upd_same⟩)
theorem pt_frz {K : PySem.W.Frag} {H : Hp} {p : Addr} {o : Obj} {u : HO} (h : o.dict = none) : PTu K (upd H p (.frz o u)) p := .inl ⟨o, u, upd_same, h⟩
section
variable {X : Cx}
def tTupF (t : TA) : TE := fun σ H Q => t σ H fun xs H1 => xs.length ≤ sizeLine ∧ ∀ p o, H1 p = none → o.dict = none → Q (.ref p) (upd H1 p (.frz o (.tup xs)))
theorem pe_tupF {es : List Expr} {t : TA} {pos : Pos} {x1} (h : PA X es t) : PE X (.Tuple es x1 pos) (tTupF t) := by
  refine ⟨fun pins s σ H Q I hq => ?_⟩
  refine wpAny_Tuple_spliced (thn (h.run pos pins s σ H _ I hq) fun us s1 ⟨xs, H1, I1, r, z, q⟩ => ⟨by rw [← r.length]; exact z, ?_⟩)
  have hf : H1 s1.heap.objs.size = none := I1.hok.fresh (Nat.le_refl _)
  exact ⟨.ref s1.heap.objs.size, upd H1 s1.heap.objs.size (.frz { cls := .type "tuple", data := .seq us.toArray } (.tup xs)), I1.laid (t' := s1.toks) (fun b u e => Heap.get?_push_of_some _ e) (Nat.le_refl _)
    ⟨Heap.get?_push_size _ rfl, z, us, r, ⟨_, Heap.get?_push_size _ rfl, rfl, _, rfl⟩⟩, rfl, q _ _ hf rfl⟩
theorem call_tuple_ofF : CallR X (.type "tuple") (fun xs H Q => ∃ p ys, xs = [.ref p] ∧ ((SqL X.K H p ys ∧ ∀ l o, H l = none → o.dict = none → Q (.ref l) (upd H l (.frz o (.tup ys)))) ∨ (SqT X.K H p ys ∧ Q (.ref p) H))) := by
  intro pins s σ H xs us Q I r h
  obtain ⟨p, ys, rfl, h⟩ := h
  obtain ⟨u, rfl, rx⟩ := vals1 r
  cases rx
  rcases h with ⟨hq, q⟩ | ⟨hq, q⟩
  · obtain ⟨its, r', pl, hz⟩ := I.list hq
    have hlen := r'.length
    refine call_tuple_list pl.isList (fun h' kp => ?_) (by simp only [List.size_toArray] <;> omega)
    have I1 : Inv X pins σ H { s with heap := h' } := I.kept (t' := s.toks) kp
    have I2 : Inv X pins σ (upd H h'.objs.size (.frz { cls := .type "tuple", data := .seq its.toArray } (.tup ys))) { s with heap := h'.push { cls := .type "tuple", data := .seq its.toArray } } :=
      I1.laid (t' := s.toks) (fun b o e => Heap.get?_push_of_some _ e) (Nat.le_refl _) ⟨Heap.get?_push_size _ rfl, hz, its, r', IsTup.new _ _⟩
    exact ⟨.ref h'.objs.size, _, I2, rfl, q _ _ (I1.hok.fresh (Nat.le_refl _)) rfl⟩
  · obtain ⟨its, r', pl, hz⟩ := I.tuple hq
    exact call_tuple_same pl ⟨.ref p, H, I, rfl, q⟩
def rCatF (K : PySem.W.Frag) : R2 := fun x y H Q => ∃ a b xs ys, x = .ref a ∧ y = .ref b ∧ SqT K H a xs ∧ SqT K H b ys ∧ xs.length + ys.length ≤ sizeLine ∧
  (xs = [] → Q (.ref b) H) ∧ (xs ≠ [] → ys = [] → Q (.ref a) H) ∧ (xs ≠ [] → ys ≠ [] → ∀ p o, H p = none → o.dict = none → Q (.ref p) (upd H p (.frz o (.tup (xs ++ ys)))))
theorem op_catF : OpR X (binaryOp .Add) (rCatF X.K) := by
  intro pins s σ H x y v u Q I rx ry h
  obtain ⟨a, b, xs, ys, rfl, rfl, ha, hb, hz, q0, q1, q2⟩ := h
  by_cases hx : xs = []
  · exact op_catA pins s σ H _ _ v u Q I rx ry ⟨a, b, xs, ys, rfl, rfl, ha, hb, hz, q0, q1, fun z => absurd hx z⟩
  · cases rx
    cases ry
    obtain ⟨its, r1, p1, _⟩ := I.tuple ha
    obtain ⟨its2, r2, p2, _⟩ := I.tuple hb
    refine HT.cat_tup p1 p2 (fun z => hx (r1.nil_iff.mp z)) (fun z => ⟨.ref a, H, I, rfl, q1 hx (r2.nil_iff.mp z)⟩) (fun z => ?_) (by rw [← r1.length, ← r2.length]; exact hz)
    exact ⟨.ref s.heap.objs.size, _, I.laid (t' := s.toks) (o := .frz { cls := .type "tuple", data := .seq (its ++ its2).toArray } (.tup (xs ++ ys))) (fun b ob q => Heap.get?_push_of_some _ q) (Nat.le_refl _)
      ⟨Heap.get?_push_size _ rfl, by rw [List.length_append]; exact hz, _, r1.append r2, IsTup.new _ _⟩, rfl, q2 hx (fun w => z (r2.nil_iff.mpr w)) _ _ (I.hok.fresh (Nat.le_refl _)) rfl⟩
def rSlF (K : PySem.W.Frag) : V → Option Int → Option Int → Hp → VK → Prop := fun x lo hi H Q => ∃ a xs, x = .ref a ∧ SqT K H a xs ∧
  (HT.sIx xs.length 0 lo = 0 ∧ HT.sIx xs.length xs.length hi = xs.length → Q (.ref a) H) ∧ (¬ (HT.sIx xs.length 0 lo = 0 ∧ HT.sIx xs.length xs.length hi = xs.length) → ∀ p o, H p = none → o.dict = none → Q (.ref p) (upd H p (.frz o (.tup (cutV xs lo hi)))))
theorem sl_tupF : SlR X (rSlF X.K) := by
  intro pins s σ H x v vl vu lo hi sl Q I rx hs pl pu h
  obtain ⟨a, xs, rfl, hx, q1, q2⟩ := h
  by_cases hw : HT.sIx xs.length 0 lo = 0 ∧ HT.sIx xs.length xs.length hi = xs.length
  · exact sl_tupA pins s σ H _ v vl vu lo hi sl Q I rx hs pl pu ⟨a, xs, rfl, hx, q1, fun z => absurd hw z⟩
  · cases rx
    obtain ⟨its, r, ht, hz⟩ := I.tuple hx
    have hlen : its.toArray.size = xs.length := by rw [List.size_toArray]; exact r.length.symm
    refine ⟨"tuple", _, PyProof.Rows.slot_tuple_getitem.lookup, ht.typeIs, ?_⟩
    refine HT.getItem_tuple_cut ht hs pl pu (by rw [hlen]; exact hw) ?_ (by rw [hlen]; exact hz)
    rw [hlen]
    exact ⟨.ref s.heap.objs.size, _, I.laid (t' := s.toks) (o := .frz _ (.tup (cutV xs lo hi))) (fun b ob q => Heap.get?_push_of_some _ q) (Nat.le_refl _)
      ⟨Heap.get?_push_size _ rfl, Nat.le_trans (cutV_length xs lo hi) hz, _, (r.drop (HT.sIx xs.length 0 lo)).take (HT.sIx xs.length xs.length hi - HT.sIx xs.length 0 lo), IsTup.new _ _⟩, rfl, q2 hw _ _ (I.hok.fresh (Nat.le_refl _)) rfl⟩
def tTupRgF (te : L2.St → Hp → (Int → Int → Hp → Prop) → Prop) : TE := fun σ H Q => te σ H fun a b H1 => RgOk a b ∧ ∀ q o, H1 q = none → o.dict = none → Q (.ref q) (upd H1 q (.frz o (.tup (rgV a b))))
theorem pe_tupRgF {e : Expr} {te : L2.St → Hp → (Int → Int → Hp → Prop) → Prop} {p pos : Pos} (hc : X.calm = true) (hg : Gl X "tuple") (hm : X.mg "tuple" = none) (he : PRg X e te) (na : starEach [e] X.env = (false, eval e X.env) :: starEach [] X.env := by rfl) : PE X (.Call (.Name "tuple" p) [e] [] pos) (tTupRgF te) := by
  refine ⟨fun pins s σ H Q I h => ?_⟩
  refine Call_ (ld_blt I hg hm boot_tuple (PyProof.Rows.callWith_type1 (args_cons (thn (he pins s σ H _ I h) fun x s1 ⟨r, a, b, t, u, v, H1, ex, hr, I1, ok, q⟩ => args_nil ?_) na) na))
  subst ex
  obtain ⟨b1, b2, b3, b4, b5⟩ := ok
  refine call_tuple_range (n := (b - a).toNat) (I1.ok.hd hc) hr (small_one b1 b2 b3 b4) (rangeSize_nat a b) b5 fun h' tk acc hk hi => ?_
  have I2 : Inv X pins σ H1 { s1 with heap := h', toks := tk } := I1.kept hk
  refine ⟨.ref h'.objs.size, upd H1 h'.objs.size (.frz { cls := .type "tuple", data := .seq acc } (.tup (rgV a b))), I2.laid (t' := tk) (fun c o e => Heap.get?_push_of_some _ e) (Nat.le_refl _) ⟨Heap.get?_push_size _ rfl, ?_, acc.toList, vals_rg hi, ?_⟩, rfl, q _ _ (I2.hok.fresh (Nat.le_refl _)) rfl⟩
  · rw [rgV_length, sizeLine_eq]; omega
  · rw [Array.toArray_toList]; exact IsTup.new _ _
def tRevF (K : PySem.W.Frag) (te : TE) : TE := fun σ H Q => te σ H fun x H1 => ∃ a xs, x = .ref a ∧ ((SqL K H1 a xs ∧ ∀ p, H1 p = none → Q (.ref p) (upd H1 p (.lst xs.reverse))) ∨ (SqT K H1 a xs ∧ ∀ p o, H1 p = none → o.dict = none → Q (.ref p) (upd H1 p (.frz o (.tup xs.reverse)))))
theorem pe_revF {e : Expr} {te : TE} {k : Nat} {p1 p2 p3 pos : Pos} (he : PE X e te) : PE X (.Subscript e (.Slice none none (some (.UnaryOp .USub (.Constant (.int 1) k p1) p2)) p3) pos) (tRevF X.K te) := by
  refine ⟨fun pins s σ H Q I h => ?_⟩
  refine Subscript_ (thn (he.run pins s σ H _ I h) fun v s1 ⟨x, H1, I1, r1, q1⟩ => ?_)
  obtain ⟨a, xs, ex, q⟩ := q1
  subst ex
  cases r1
  have hst : PO X (some (.UnaryOp .USub (.Constant (.int 1) k p1) p2)) (tPart (tUn (rU fun i => .int (-i)) (tC (.int 1)))) := po_some (pe_un un_neg pe_int)
  refine wpAny_Slice (thn (po_none.run pins s1 σ H1 (fun o H2 => o = none ∧ H2 = H1) I1 ⟨rfl, rfl⟩) fun vl s2 ⟨l, H2, I2, pl, el, e2⟩ => ?_)
  subst el e2
  refine thn (po_none.run pins s2 σ H2 (fun o H3 => o = none ∧ H3 = H2) I2 ⟨rfl, rfl⟩) fun vu s3 ⟨u, H3, I3, pu, eu, e3⟩ => ?_
  subst eu e3
  refine thn (hst.run pins s3 σ H3 (fun o H4 => o = some (-1) ∧ H4 = H3) I3 ⟨1, rfl, -1, rfl, rfl, rfl⟩) fun vs s4 ⟨o, H4, I4, ps, eo, e4⟩ => ?_
  subst eo e4
  have I5 : Inv X pins σ H4 { s4 with heap := s4.heap.push { cls := .type "slice", data := .fields #[vl, vu, vs] } } := I4.kept (t' := s4.toks) fun b ob q => Heap.get?_push_of_some _ q
  show wpAny (model X.prog X.w) X.A (subscriptTail e (.Slice none none (some (.UnaryOp .USub (.Constant (.int 1) k p1) p2)) p3) (.ref a) (.ref s4.heap.objs.size)) (EP X pins σ Q) X.xe { s4 with heap := s4.heap.push { cls := .type "slice", data := .fields #[vl, vu, vs] } }
  rcases q with ⟨hx, q⟩ | ⟨hx, q⟩
  · obtain ⟨its, r, ht, hz⟩ := I5.list hx
    have hlen := r.length
    refine tail_any (ops := [.ref a, .ref s4.heap.objs.size]) ht.isList.typeIs (PySem.slot_list_getitem.lookup) ?_ (by with_unfolding_all rfl)
    refine wpAny_getItem_list_slice ht.isList (Heap.IsSliceOf.new _ vl vu vs) pl pu ps (by decide) ?_ (by rw [List.size_toArray]; omega)
    rw [PySem.W.krv_pick]
    exact ⟨.ref _, _, I5.laid (t' := s4.toks) (o := .lst xs.reverse) (fun b ob q => Heap.get?_push_of_some _ q) (Nat.le_refl _) ⟨by rw [List.length_reverse]; exact hz, _, 0, r.reverse, Heap.get?_push_size _ rfl⟩, rfl, q _ (I5.hok.fresh (Nat.le_refl _))⟩
  · obtain ⟨its, r, ht, hz⟩ := I5.tuple hx
    have hlen := r.length
    refine tail_any (ops := [.ref a, .ref s4.heap.objs.size]) ht.typeIs (PyProof.Rows.slot_tuple_getitem.lookup) ?_ (by with_unfolding_all rfl)
    refine getItem_tuple_rev ht (Heap.IsSliceOf.new _ vl vu vs) pl pu ps ?_ (by rw [List.size_toArray]; omega)
    exact ⟨.ref _, _, I5.laid (t' := s4.toks) (o := .frz { cls := .type "tuple", data := .seq its.toArray.toList.reverse.toArray } (.tup xs.reverse)) (fun b ob q => Heap.get?_push_of_some _ q) (Nat.le_refl _)
      ⟨Heap.get?_push_size _ rfl, by rw [List.length_reverse]; exact hz, _, r.reverse, ⟨_, Heap.get?_push_size _ rfl, rfl, 0, rfl⟩⟩, rfl, q _ _ (I5.hok.fresh (Nat.le_refl _)) rfl⟩
/-- what a tuple's object is -/
theorem pt_obj {pins : List (Addr × Obj)} {σ : L2.St} {B H : Hp} {s : Shared} {a : Addr} (I : Inv X pins σ H s) (e : Ex B H) (h : PTu X.K B a) : ∃ o, s.heap.get? a = some o ∧ o.dict = none := by
  rcases h with ⟨o, u, h, d⟩ | ⟨o, h, d⟩
  · exact ⟨o, (I.hok a _ (e a _ h)).1, d⟩
  · exact ⟨o, I.kIn a o h, d⟩
end
end Pv

namespace Pv
open PySem PySem.Spec PyProof.Rows L2

/-! ## the operations on data -/
def lim : Nat := 16000000
/-- ints that may be multiplied -/
def Big (a : Int) : Prop := a.natAbs.log2 < 400000
instance : DecidablePred Big := fun a => by unfold Big; infer_instance
mutual
def eqv : D → D → Bool
  | .non, .non => true
  | .bl a, .bl b => a == b
  | .bl a, .int j => (if a then 1 else 0) == j
  | .int i, .bl b => i == (if b then 1 else 0)
  | .int i, .int j => i == j
  | .str x, .str y => x == y
  | .lst xs, .lst ys => eqvL xs ys
  | .tup xs, .tup ys => eqvL xs ys
  | _, _ => false
def eqvL : List D → List D → Bool
  | [], [] => true
  | x :: xs, y :: ys => eqv x y && eqvL xs ys
  | _, _ => false
end
/-- plain data, at most so deep -/
def sh : Nat → D → Bool
  | _, .non => true
  | _, .bl _ => true
  | _, .int _ => true
  | _, .str s => PyData.canLay0 (.str s)
  | n + 1, .tup xs => xs.all (sh n)
  | n + 1, .lst xs => xs.all (sh n)
  | _, _ => false
def flat : D → Bool
  | .non => true
  | .bl _ => true
  | .int _ => true
  | .str _ => true
  | _ => false
def ty : D → String
  | .non => "NoneType"
  | .bl _ => "bool"
  | .int _ => "int"
  | .str _ => "str"
  | .tup _ => "tuple"
  | _ => "list"
def isk : D → Bool
  | .scr _ => false
  | .itm _ => false
  | .fn _ => false
  | .dct _ _ => false
  | .ins _ _ _ => false
  | _ => true
abbrev R1 := Option (Bool × D)
def one (d : D) : R1 := some (false, d)
def addD : D → D → R1
  | .int a, .int b => one (.int (a + b))
  | .lst a, .lst b => if a.length + b.length ≤ lim then some (true, .lst (a ++ b)) else none
  | .tup a, .tup b => if a.length + b.length ≤ lim then one (.tup (a ++ b)) else none
  | .str a, .str b => if a.length + b.length ≤ lim then one (.str (a ++ b)) else none
  | _, _ => none
def mulD : D → D → R1
  | .int a, .int b => if Big a ∧ Big b then one (.int (a * b)) else none
  | .lst a, .int k => if -1000000000 ≤ k ∧ k ≤ 1000000000 ∧ a.length * k.toNat ≤ lim then some (true, .lst (List.replicate k.toNat a).flatten) else none
  | .tup a, .int k => if -1000000000 ≤ k ∧ k ≤ 1000000000 ∧ a.length * k.toNat ≤ lim then one (.tup (List.replicate k.toNat a).flatten) else none
  | _, _ => none
def opD : Operator → D → D → R1
  | .Add, x, y => addD x y
  | .Sub, .int a, .int b => one (.int (a - b))
  | .Mult, x, y => mulD x y
  | .FloorDiv, .int a, .int b => if 0 < b ∧ b.natAbs.log2 < 9000 then one (.int (a / b)) else none
  | .Mod, .int a, .int b => if 0 < b then one (.int (a % b)) else none
  | .Pow, .int a, .int b => if 0 ≤ b ∧ b ≤ 1000000 ∧ a.natAbs < 18446744073709551616 then one (.int (a ^ b.toNat)) else none
  | _, _, _ => none
def inD (x : D) (xs : List D) : Option Bool := if flat x && xs.all flat then some (xs.any fun y => eqv y x) else none
def seqOf : D → Option (List D)
  | .lst xs => some xs
  | .tup xs => some xs
  | _ => none
def ixL (xs : List D) (i : D) : Option D := match i with
  | .int k => atI xs k
  | _ => none
def ixD (st : Sto) (x i : D) : Option D := match x, i with
  | .lst xs, .int k => atI xs k
  | .tup xs, .int k => atI xs k
  | .str s, .int k => if s.length ≤ lim then (atI s.cps.toList k).map fun c => .str ⟨#[c]⟩ else none
  | .hd n, .int k => (st[n]?).bind fun xs => atI xs k
  | _, _ => none
def cutD (xs : List D) (lo hi : Option Int) : List D := (xs.drop (HT.sIx xs.length 0 lo)).take (HT.sIx xs.length xs.length hi - HT.sIx xs.length 0 lo)
def cutI (xs : List Int) (lo hi : Option Int) : List Int := (xs.drop (HT.sIx xs.length 0 lo)).take (HT.sIx xs.length xs.length hi - HT.sIx xs.length 0 lo)
def slD (x : D) (lo hi : Option Int) : R1 := match x with
  | .lst xs => some (true, .lst (cutD xs lo hi))
  | .tup xs => one (.tup (cutD xs lo hi))
  | .scr ns => some (true, .lst ((cutI ns lo hi).map .int))
  | _ => none
def revD (x : D) : R1 := match x with
  | .lst xs => some (true, .lst xs.reverse)
  | .tup xs => one (.tup xs.reverse)
  | _ => none
def lenD (st : Sto) : D → Option Nat
  | .lst xs => some xs.length
  | .tup xs => some xs.length
  | .str s => if s.length ≤ lim then some s.length else none
  | .hd n => (st[n]?).map (·.length)
  | _ => none
def intsOf : List D → Option (List Int)
  | [] => some []
  | .int i :: ds => (intsOf ds).map (i :: ·)
  | _ :: _ => none
mutual
/-- the two can be compared -/
def alD : D → D → Bool
  | .bl _, .bl _ => true
  | .int _, .int _ => true
  | .str _, .str _ => true
  | .tup xs, .tup ys => alL xs ys
  | .lst xs, .lst ys => alL xs ys
  | _, _ => false
def alL : List D → List D → Bool
  | x :: xs, y :: ys => alD x y && alL xs ys
  | [], _ => true
  | _ :: _, [] => true
end
mutual
def ltD : D → D → Bool
  | .bl a, .bl b => decide ((if a then 1 else 0 : Int) < (if b then 1 else 0))
  | .int a, .int b => decide (a < b)
  | .str a, .str b => decide (a.cps.toList < b.cps.toList)
  | .tup xs, .tup ys => ltL xs ys
  | .lst xs, .lst ys => ltL xs ys
  | _, _ => false
def ltL : List D → List D → Bool
  | _, [] => false
  | [], _ :: _ => true
  | x :: xs, y :: ys => if eqv x y then ltL xs ys else ltD x y
end
def leD (a b : D) : Bool := !ltD b a
def isTupB : D → Bool
  | .tup _ => true
  | _ => false
def isKeyB : D → Bool
  | .bl _ => true
  | .int _ => true
  | .str _ => true
  | .lst _ => true
  | _ => false
def ordOk (xs : List D) : Bool := xs.all (sh 50) && (xs.all fun a => xs.all fun b => alD a b) && (xs.all isTupB || xs.all isKeyB)
def sortD (xs : List D) : List D := xs.mergeSort leD
/-- lists of ints, as tuples -/
def intsT : List D → Option (List (List Int))
  | [] => some []
  | .tup xs :: ds => (intsOf xs).bind fun ns => (intsT ds).map (ns :: ·)
  | _ :: _ => none
def pairOk (ns : List (List Int)) : Bool := decide (ns.length < 64) && ns.all fun n => n.length == 2 && n.all fun i => decide (0 ≤ i ∧ i < 64)
/-- the lists of ints without repeats, in order -/
def nub : List (List Int) → List (List Int)
  | [] => []
  | x :: xs => if x ∈ nub xs then nub xs else x :: nub xs
def ssetI (ns : List (List Int)) : List (List Int) := (nub ns).mergeSort fun a b => decide (TS.code 64 a ≤ TS.code 64 b)
def tupI (ns : List Int) : D := .tup (ns.map .int)
/-- methods that count and find -/
inductive Sm where
  | count | index
  deriving DecidableEq
def smD (m : Sm) (xs : List D) (x : D) : Option Int := if xs.all (sh 50) && sh 50 x && decide (xs.length < lim) then match m with
  | .count => some (xs.countP fun y => eqv y x : Nat)
  | .index => (xs.findIdx? fun y => eqv y x).map fun j => (j : Nat)
  else none
def zipT : List D → List D → List D
  | x :: xs, y :: ys => .tup [x, y] :: zipT xs ys
  | _, _ => []
def inDd (x : D) (xs : List D) : Option Bool := if flat x && xs.all flat then some (xs.any fun y => eqv y x) else if sh 50 x && xs.all (sh 50) then some (xs.any fun y => eqv y x) else none
def cmpD : CmpOp → D → D → Option Bool
  | .Lt, .int a, .int b => some (decide (a < b))
  | .LtE, .int a, .int b => some (decide (a ≤ b))
  | .Gt, .int a, .int b => some (decide (b < a))
  | .GtE, .int a, .int b => some (decide (b ≤ a))
  | .Eq, x, y => if sh 60 x && sh 60 y then some (eqv x y) else none
  | .NotEq, x, y => if sh 60 x && sh 60 y then some (!eqv x y) else none
  | .Is, x, .non => some (match x with | .non => true | _ => false)
  | .IsNot, x, .non => some (match x with | .non => false | _ => true)
  | .Is, x, .bl b => some (match x with | .bl a => a == b | _ => false)
  | .IsNot, x, .bl b => some (match x with | .bl a => !(a == b) | _ => true)
  | .In, x, y => (seqOf y).bind (inDd x)
  | .NotIn, x, y => ((seqOf y).bind (inDd x)).map (!·)
  | _, _, _ => none
/-- built-in functions -/
inductive Bi where
  | abs | int | len | sum | min2 | max2 | tuple | list | sorted | min1 | max1
  deriving DecidableEq
def biD (st : Sto) : Bi → List D → R1
  | .abs, [.int i] => one (.int (if i < 0 then -i else i))
  | .int, [.int i] => one (.int i)
  | .int, [.bl b] => one (.int (if b then 1 else 0))
  | .len, [x] => (lenD st x).map fun n => (false, .int n)
  | .sum, [x] => ((seqOf x).bind intsOf).map fun ns => (false, .int ns.sum)
  | .min2, [.int i, .int j] => one (.int (if j < i then j else i))
  | .max2, [.int i, .int j] => one (.int (if j > i then j else i))
  | .tuple, [.lst xs] => one (.tup xs)
  | .tuple, [.tup xs] => one (.tup xs)
  | .list, [.lst xs] => some (true, .lst xs)
  | .list, [.tup xs] => some (true, .lst xs)
  | .sorted, [x] => (seqOf x).bind fun xs => if ordOk xs then some (true, .lst (sortD xs)) else none
  | _, _ => none
def isiD (ts : List String) (d : D) : Bool := ts.any fun t => ty d == t || (ty d == "bool" && t == "int")
def rngN (a b c : Int) : Nat := (Builtin.Range.rangeSize a b c).toNat
def rngL (a b c : Int) : List D := (List.range (rngN a b c)).map fun (i : Nat) => .int (a + (i : Int) * c)
def rngOk (a b c : Int) : Bool := decide (-1000000000 ≤ a ∧ a ≤ 1000000000 ∧ -1000000000 ≤ b ∧ b ≤ 1000000000 ∧ c ≠ 0 ∧ -1000000 ≤ c ∧ c ≤ 1000000) && Builtin.Range.small a b c
def rngD : List D → Option (List D)
  | [.int n] => if rngOk 0 n 1 then some (rngL 0 n 1) else none
  | [.int a, .int b] => if rngOk a b 1 then some (rngL a b 1) else none
  | [.int a, .int b, .int c] => if rngOk a b c then some (rngL a b c) else none
  | _ => none
/-- methods of lists -/
inductive Mt where
  | append | pop | popAt | extend
  deriving DecidableEq
/-- what a list's method gives, and the list behind it -/
def mtD : Mt → List D → List D → Option (D × List D)
  | .append, xs, [d] => if xs.length < lim then some (.non, xs ++ [d]) else none
  | .pop, xs, [] => (xs[xs.length - 1]?).map fun d => (d, xs.dropLast)
  | .popAt, xs, [.int i] => (ixN xs.length i).bind fun k => (xs[k]?).map fun d => (d, xs.eraseIdx k)
  | .extend, xs, [.lst ys] => if xs.length + ys.length ≤ lim then some (.non, xs ++ ys) else none
  | _, _, _ => none
def truD : D → Option Bool
  | .non => some false
  | .bl b => some b
  | .int i => some (i != 0)
  | .str s => if s.length ≤ lim then some (s.length != 0) else none
  | .lst xs => some (!xs.isEmpty)
  | .tup xs => some (!xs.isEmpty)
  | _ => none

/-! ## the language -/
mutual
inductive E where
  | v (i : Nat) | k (d : D) | g (x : Str)
  | op (o : Operator) (a b : E) | cmp (o : CmpOp) (a b : E) | cmpv (o : CmpOp) (a : E) (i : Nat) | chain (o o' : CmpOp) (a b c : E)
  | neg (a : E) | nt (a : E) | an (a b : E) | or (a b : E) | ite (c : Cn) (a b : E)
  | tup (es : Es) | lst (es : Es) | share (e : E)
  | bi (b : Bi) (es : Es) | lenv (i : Nat) | isi (a : E) (ts : List String) (many : Bool)
  | ix (a b : E) | ixv (i : Nat) (b : E) | sl (a : E) (lo hi : Eo) | slr (a : E)
  | call (f : Str) (es : Es) | callk (f : Str) (es : Es) (ks : List Str) (kes : Es) (perm : List Nat)
  | mth (m : Mt) (i : Nat) (es : Es) | mthH (m : Mt) (a : E) (es : Es)
  | lc (e : E) (t : Tg) (it : I) (c : Co) (own : List (Str × Nat)) | lc2 (e : E) (t : Tg) (it : I) (c : Co) (t1 : Tg) (it1 : I) (c1 : Co) (own : List (Str × Nat)) (own1 : List Nat)
  | lrng (es : Es) | trng (es : Es)
  | lzip (a b : E) | sset (a : E) | sm (m : Sm) (a x : E)
inductive Es where
  | nil | cons (e : E) (es : Es)
inductive Eo where
  | no | so (e : E)
inductive Cn where
  | e (a : E) | nt (c : Cn) | an (a b : Cn) | or (a b : Cn)
inductive Co where
  | no | so (c : Cn)
inductive I where
  | val (e : E) | rng (es : Es) | enum (e : E) | zip (a b : E) | rev (e : E)
inductive Tg where
  | n (i : Nat) | sub (i : Nat) (e : E) | tup (ts : Tgs)
inductive Tgs where
  | nil | cons (t : Tg) (ts : Tgs)
end
mutual
inductive S where
  | asg (i : Nat) (e : E) | asgT (t : Tg) (e : E) | par2 (i j : Nat) (a b : E) | par3 (i j l : Nat) (a b c : E) | aug (i : Nat) (o : Operator) (e : E)
  | ex (e : E) | ret (e : E) | retN | pass | brk | cnt
  | ite (c : Cn) (a b : Ss) | whl (c : Cn) (b : Ss) | for_ (t : Tg) (it : I) (b : Ss)
inductive Ss where
  | nil | cons (s : S) (ss : Ss)
end
inductive Fl where
  | nx | rt (fr : Bool) (d : D) | bk | ct

/-! ## what it does -/
/-- the table of functions; the globals -/
structure Tb where
  F : Str → List D → Sto → Option (Bool × D × Sto)
  G : Str → Option D
abbrev RE := Option (Bool × D × Env × Sto)
abbrev RS := Option (Fl × Env × Sto)
/-- a value, a new list frozen -/
def vv (r : RE) : Option (D × Env × Sto) := r.map fun r => r.2
def up (ρ : Env) (st : Sto) (r : R1) : RE := match r with
  | some (fr, d) => some (fr, d, ρ, st)
  | none => none
/-- a slot's sequence as it stands -/
def slotSeq (st : Sto) : Sl → Option (List D)
  | .own xs => some xs
  | .val (.lst xs) => some xs
  | .val (.tup xs) => some xs
  | .val (.hd n) => st[n]?
  | _ => none
def slotLst (st : Sto) : Sl → Option (List D)
  | .own xs => some xs
  | .val (.hd n) => st[n]?
  | _ => none
def wipeE (ρ : Env) : List Nat → Env
  | [] => ρ
  | v :: vs => (wipeE ρ vs).set v .no
def asgN (i : Nat) (fr : Bool) (d : D) (ρ : Env) : Option Env := if i < ρ.length then match fr, d with
    | true, .lst xs => some (ρ.set i (.own xs))
    | true, _ => none
    | false, d => some (ρ.set i (.val d))
  else none
def setIx (xs : List D) (k : D) (d : D) : Option (List D) := match k with
  | .int i => (ixN xs.length i).map fun j => xs.set j d
  | _ => none
def asgSub (i : Nat) (k d : D) (ρ : Env) (st : Sto) : Option (Env × Sto) := match ρ[i]? with
  | some (.own xs) => (setIx xs k d).map fun ys => (ρ.set i (.own ys), st)
  | some (.val (.hd n)) => (st[n]?).bind fun xs => (setIx xs k d).map fun ys => (ρ, st.set n ys)
  | _ => none
def mthR (m : Mt) (i : Nat) (args : List D) (ρ : Env) (st : Sto) : Option (D × Env × Sto) := match ρ[i]? with
  | some (.own xs) => (mtD m xs args).map fun p => (p.1, ρ.set i (.own p.2), st)
  | some (.val (.hd n)) => (st[n]?).bind fun xs => (mtD m xs args).map fun p => (p.1, ρ, st.set n p.2)
  | _ => none
def mthHR (m : Mt) (o : D) (args : List D) (st : Sto) : Option (D × Sto) := match o with
  | .hd n => (st[n]?).bind fun xs => (mtD m xs args).map fun p => (p.1, st.set n p.2)
  | _ => none
def zipL : List D → List D → List D
  | x :: xs, y :: ys => .itm [x, y] :: zipL xs ys
  | _, _ => []
def enumL (n : Nat) : List D → List D
  | [] => []
  | x :: xs => .itm [.int n, x] :: enumL (n + 1) xs
def unpack (d : D) (n : Nat) : Option (List D) := match d with
  | .tup xs => if xs.length = n then some xs else none
  | .itm xs => if xs.length = n then some xs else none
  | _ => none
def Tgs.len : Tgs → Nat
  | .nil => 0
  | .cons _ ts => ts.len + 1
def lcL (asg : D → Env → Sto → Option (Env × Sto)) (c : Env → Sto → Option (Bool × Env × Sto)) (e : Env → Sto → Option (D × Env × Sto)) (vs : List Nat) : List D → List D → Env → Sto → Option (List D × Env × Sto)
  | [], acc, ρ, st => some (acc, ρ, st)
  | d :: ds, acc, ρ, st => do
    let (ρ1, st1) ← asg d ρ st
    let (b, ρ2, st2) ← c ρ1 st1
    if b then do
      let (x, ρ3, st3) ← e ρ2 st2
      if acc.length < lim then lcL asg c e vs ds (acc ++ [x]) (wipeE ρ3 vs) st3 else none
    else lcL asg c e vs ds acc (wipeE ρ2 vs) st2
def lcL2 (asg : D → Env → Sto → Option (Env × Sto)) (c : Env → Sto → Option (Bool × Env × Sto)) (it : Env → Sto → Option (List D × Env × Sto)) (inner : List D → List D → Env → Sto → Option (List D × Env × Sto)) (vs : List Nat) (vs1 : List Nat) : List D → List D → Env → Sto → Option (List D × Env × Sto)
  | [], acc, ρ, st => some (acc, ρ, st)
  | d :: ds, acc, ρ, st => do
    let (ρ1, st1) ← asg d ρ st
    let (b, ρ2, st2) ← c ρ1 st1
    if b then do
      let (xs, ρ3, st3) ← it ρ2 st2
      let (acc', ρ4, st4) ← inner xs acc (wipeE ρ3 vs1) st3
      lcL2 asg c it inner vs vs1 ds acc' (wipeE ρ4 vs) st4
    else lcL2 asg c it inner vs vs1 ds acc (wipeE ρ2 vs) st2
def forL (asg : D → Env → Sto → Option (Env × Sto)) (b : Env → Sto → RS) : List D → Env → Sto → RS
  | [], ρ, st => some (.nx, ρ, st)
  | d :: ds, ρ, st => do
    let (ρ1, st1) ← asg d ρ st
    let (f, ρ2, st2) ← b ρ1 st1
    match f with
    | .nx => forL asg b ds ρ2 st2
    | .ct => forL asg b ds ρ2 st2
    | .bk => some (.nx, ρ2, st2)
    | .rt fr d => some (.rt fr d, ρ2, st2)
def whlL (c : Env → Sto → Option (Bool × Env × Sto)) (b : Env → Sto → RS) : Nat → Env → Sto → RS
  | 0, _, _ => none
  | n + 1, ρ, st => do
    let (t, ρ1, st1) ← c ρ st
    if t then do
      let (f, ρ2, st2) ← b ρ1 st1
      match f with
      | .nx => whlL c b n ρ2 st2
      | .ct => whlL c b n ρ2 st2
      | .bk => some (.nx, ρ2, st2)
      | .rt fr d => some (.rt fr d, ρ2, st2)
    else some (.nx, ρ1, st1)
def fuel : Nat := 1000000

mutual
def evE (P : Tb) : E → Env → Sto → RE
  | .v i => fun ρ st => match ρ[i]? with
    | some (.val d) => some (false, d, ρ, st)
    | some (.own xs) => some (false, .lst xs, ρ.set i (.val (.lst xs)), st)
    | _ => none
  | .k d => fun ρ st => some (false, d, ρ, st)
  | .g x => fun ρ st => (P.G x).map fun d => (false, d, ρ, st)
  | .op o a b => fun ρ st => do
    let (x, ρ1, st1) ← vv (evE P a ρ st)
    let (y, ρ2, st2) ← vv (evE P b ρ1 st1)
    up ρ2 st2 (opD o x y)
  | .cmp o a b => fun ρ st => do
    let (x, ρ1, st1) ← vv (evE P a ρ st)
    let (y, ρ2, st2) ← vv (evE P b ρ1 st1)
    (cmpD o x y).map fun t => (false, .bl t, ρ2, st2)
  | .cmpv o a i => fun ρ st => do
    let (x, ρ1, st1) ← vv (evE P a ρ st)
    let sl ← ρ1[i]?
    let ys ← slotSeq st1 sl
    match o with
    | .In => (inD x ys).map fun t => (false, .bl t, ρ1, st1)
    | .NotIn => (inD x ys).map fun t => (false, .bl (!t), ρ1, st1)
    | _ => none
  | .chain o o' a b c => fun ρ st => do
    let (x, ρ1, st1) ← vv (evE P a ρ st)
    let (y, ρ2, st2) ← vv (evE P b ρ1 st1)
    let t ← cmpD o x y
    if t then do
      let (z, ρ3, st3) ← vv (evE P c ρ2 st2)
      (cmpD o' y z).map fun t => (false, .bl t, ρ3, st3)
    else some (false, .bl false, ρ2, st2)
  | .neg a => fun ρ st => do
    let (x, ρ1, st1) ← vv (evE P a ρ st)
    match x with
    | .int i => some (false, .int (-i), ρ1, st1)
    | _ => none
  | .nt a => fun ρ st => do
    let (x, ρ1, st1) ← vv (evE P a ρ st)
    let t ← truD x
    some (false, .bl (!t), ρ1, st1)
  | .an a b => fun ρ st => do
    let (x, ρ1, st1) ← vv (evE P a ρ st)
    match x with
    | .bl true => (vv (evE P b ρ1 st1)).map fun r => (false, r)
    | .bl false => some (false, .bl false, ρ1, st1)
    | _ => none
  | .or a b => fun ρ st => do
    let (x, ρ1, st1) ← vv (evE P a ρ st)
    match x with
    | .bl true => some (false, .bl true, ρ1, st1)
    | .bl false => (vv (evE P b ρ1 st1)).map fun r => (false, r)
    | _ => none
  | .ite c a b => fun ρ st => do
    let (t, ρ1, st1) ← evT P c ρ st
    if t then evE P a ρ1 st1 else evE P b ρ1 st1
  | .tup es => fun ρ st => do
    let (ds, ρ1, st1) ← evEs P es ρ st
    if ds.length ≤ lim then some (false, .tup ds, ρ1, st1) else none
  | .lst es => fun ρ st => do
    let (ds, ρ1, st1) ← evEs P es ρ st
    if ds.length ≤ lim then some (true, .lst ds, ρ1, st1) else none
  | .share e => fun ρ st => do
    let (fr, d, ρ1, st1) ← evE P e ρ st
    match fr, d with
    | true, .lst xs => some (false, .hd st1.length, ρ1, st1 ++ [xs])
    | _, _ => none
  | .bi b es => fun ρ st => do
    let (ds, ρ1, st1) ← evEs P es ρ st
    up ρ1 st1 (biD st1 b ds)
  | .lenv i => fun ρ st => do
    let sl ← ρ[i]?
    let ys ← slotSeq st sl
    some (false, .int ys.length, ρ, st)
  | .isi a ts _ => fun ρ st => do
    let (x, ρ1, st1) ← vv (evE P a ρ st)
    match x with
    | .scr _ => none
    | .itm _ => none
    | .fn _ => none
    | .dct _ _ => none
    | .ins _ _ _ => none
    | _ => some (false, .bl (isiD ts x), ρ1, st1)
  | .ix a b => fun ρ st => do
    let (x, ρ1, st1) ← vv (evE P a ρ st)
    let (y, ρ2, st2) ← vv (evE P b ρ1 st1)
    (ixD st2 x y).map fun d => (false, d, ρ2, st2)
  | .ixv i b => fun ρ st => do
    let sl0 ← ρ[i]?
    let _ ← slotSeq st sl0
    let (y, ρ1, st1) ← vv (evE P b ρ st)
    let sl ← ρ1[i]?
    let ys ← slotSeq st1 sl
    (ixL ys y).map fun d => (false, d, ρ1, st1)
  | .sl a lo hi => fun ρ st => do
    let (x, ρ1, st1) ← vv (evE P a ρ st)
    let (l, ρ2, st2) ← evO P lo ρ1 st1
    let (h, ρ3, st3) ← evO P hi ρ2 st2
    up ρ3 st3 (slD x l h)
  | .slr a => fun ρ st => do
    let (x, ρ1, st1) ← vv (evE P a ρ st)
    up ρ1 st1 (revD x)
  | .call f es => fun ρ st => do
    let (ds, ρ1, st1) ← evEs P es ρ st
    (P.F f ds st1).map fun r => (r.1, r.2.1, ρ1, r.2.2)
  | .callk f es _ kes perm => fun ρ st => do
    let (ds, ρ1, st1) ← evEs P es ρ st
    let (ks, ρ2, st2) ← evEs P kes ρ1 st1
    (P.F f (perm.filterMap fun j => (ds ++ ks)[j]?) st2).map fun r => (r.1, r.2.1, ρ2, r.2.2)
  | .mth m i es => fun ρ st => do
    let sl0 ← ρ[i]?
    let _ ← slotLst st sl0
    let (ds, ρ1, st1) ← evEs P es ρ st
    (mthR m i ds ρ1 st1).map fun r => (false, r)
  | .mthH m a es => fun ρ st => do
    let (x, ρ1, st1) ← vv (evE P a ρ st)
    let (ds, ρ2, st2) ← evEs P es ρ1 st1
    (mthHR m x ds st2).map fun r => (false, r.1, ρ2, r.2)
  | .lc e t it c own => fun ρ st => do
    let (xs, ρ1, st1) ← evI P it ρ st
    let (acc, ρ2, st2) ← lcL (evTg P t) (evC P c) (fun ρ st => vv (evE P e ρ st)) (own.map (·.2)) xs [] (wipeE ρ1 (own.map (·.2))) st1
    some (true, .lst acc, ρ2, st2)
  | .lc2 e t it c t1 it1 c1 own own1 => fun ρ st => do
    let (xs, ρ1, st1) ← evI P it ρ st
    let (acc, ρ2, st2) ← lcL2 (evTg P t) (evC P c) (evI P it1) (lcL (evTg P t1) (evC P c1) (fun ρ st => vv (evE P e ρ st)) own1) (own.map (·.2)) own1 xs [] (wipeE ρ1 (own.map (·.2))) st1
    some (true, .lst acc, ρ2, st2)
  | .lrng es => fun ρ st => do
    let (ds, ρ1, st1) ← evEs P es ρ st
    let xs ← rngD ds
    if xs.length ≤ lim ∧ ds.length ≤ 2 then some (true, .lst xs, ρ1, st1) else none
  | .trng es => fun ρ st => do
    let (ds, ρ1, st1) ← evEs P es ρ st
    let xs ← rngD ds
    if xs.length ≤ lim ∧ ds.length ≤ 2 then some (false, .tup xs, ρ1, st1) else none
  | .lzip a b => fun ρ st => do
    let (x, ρ1, st1) ← vv (evE P a ρ st)
    let (y, ρ2, st2) ← vv (evE P b ρ1 st1)
    let xs ← seqOf x
    let ys ← seqOf y
    if min xs.length ys.length < lim then some (true, .lst (zipT xs ys), ρ2, st2) else none
  | .sset a => fun ρ st => do
    let (x, ρ1, st1) ← vv (evE P a ρ st)
    match x with
    | .lst xs => do
      let ns ← intsT xs
      if pairOk ns then some (true, .lst ((ssetI ns).map tupI), ρ1, st1) else none
    | _ => none
  | .sm m a b => fun ρ st => do
    let (x, ρ1, st1) ← vv (evE P a ρ st)
    let (y, ρ2, st2) ← vv (evE P b ρ1 st1)
    let xs ← seqOf x
    (smD m xs y).map fun j => (false, .int j, ρ2, st2)
/-- the truth -/
def evT (P : Tb) : Cn → Env → Sto → Option (Bool × Env × Sto)
  | .nt a => fun ρ st => do
    let (t, ρ1, st1) ← evT P a ρ st
    some (!t, ρ1, st1)
  | .an a b => fun ρ st => do
    let (t, ρ1, st1) ← evT P a ρ st
    if t then evT P b ρ1 st1 else some (false, ρ1, st1)
  | .or a b => fun ρ st => do
    let (t, ρ1, st1) ← evT P a ρ st
    if t then some (true, ρ1, st1) else evT P b ρ1 st1
  | .e a => fun ρ st => do
    let (x, ρ1, st1) ← vv (evE P a ρ st)
    let t ← truD x
    some (t, ρ1, st1)
def evEs (P : Tb) : Es → Env → Sto → Option (List D × Env × Sto)
  | .nil => fun ρ st => some ([], ρ, st)
  | .cons e es => fun ρ st => do
    let (x, ρ1, st1) ← vv (evE P e ρ st)
    let (xs, ρ2, st2) ← evEs P es ρ1 st1
    some (x :: xs, ρ2, st2)
/-- a part of a slice -/
def evO (P : Tb) : Eo → Env → Sto → Option (Option Int × Env × Sto)
  | .no => fun ρ st => some (none, ρ, st)
  | .so e => fun ρ st => do
    let (x, ρ1, st1) ← vv (evE P e ρ st)
    match x with
    | .int i => some (some i, ρ1, st1)
    | _ => none
/-- a clause's test -/
def evC (P : Tb) : Co → Env → Sto → Option (Bool × Env × Sto)
  | .no => fun ρ st => some (true, ρ, st)
  | .so e => evT P e
/-- what is walked -/
def evI (P : Tb) : I → Env → Sto → Option (List D × Env × Sto)
  | .val e => fun ρ st => do
    let (x, ρ1, st1) ← vv (evE P e ρ st)
    let xs ← seqOf x
    some (xs, ρ1, st1)
  | .rng es => fun ρ st => do
    let (ds, ρ1, st1) ← evEs P es ρ st
    let xs ← rngD ds
    some (xs, ρ1, st1)
  | .enum e => fun ρ st => do
    let (x, ρ1, st1) ← vv (evE P e ρ st)
    let xs ← seqOf x
    some (enumL 0 xs, ρ1, st1)
  | .zip a b => fun ρ st => do
    let (x, ρ1, st1) ← vv (evE P a ρ st)
    let (y, ρ2, st2) ← vv (evE P b ρ1 st1)
    match x, y with
    | .lst xs, .lst ys => some (zipL xs ys, ρ2, st2)
    | .tup xs, .tup ys => some (zipL xs ys, ρ2, st2)
    | _, _ => none
  | .rev e => fun ρ st => do
    let (x, ρ1, st1) ← vv (evE P e ρ st)
    let xs ← seqOf x
    some (xs.reverse, ρ1, st1)
/-- a target takes a value that is not new -/
def evTg (P : Tb) : Tg → D → Env → Sto → Option (Env × Sto)
  | .n i => fun d ρ st => (asgN i false d ρ).map fun ρ1 => (ρ1, st)
  | .sub i e => fun d ρ st => do
    let sl0 ← ρ[i]?
    let _ ← slotLst st sl0
    let (y, ρ1, st1) ← vv (evE P e ρ st)
    asgSub i y d ρ1 st1
  | .tup ts => fun d ρ st => do
    let ds ← unpack d ts.len
    evTgs P ts ds ρ st
def evTgs (P : Tb) : Tgs → List D → Env → Sto → Option (Env × Sto)
  | .nil => fun _ ρ st => some (ρ, st)
  | .cons t ts => fun ds ρ st => match ds with
    | d :: ds => do
      let (ρ1, st1) ← evTg P t d ρ st
      evTgs P ts ds ρ1 st1
    | [] => none
end
/-! ## statements -/
def augD : Operator → D → D → Option D
  | .Add, .int a, .int b => some (.int (a + b))
  | .Sub, .int a, .int b => some (.int (a - b))
  | .Mult, .int a, .int b => if Big a ∧ Big b then some (.int (a * b)) else none
  | _, _, _ => none
def retE (P : Tb) (e : E) (ρ : Env) (st : Sto) : RE := match e with
  | .v i => match ρ[i]? with
    | some (.own xs) => some (true, .lst xs, ρ.set i .no, st)
    | _ => evE P (.v i) ρ st
  | e => evE P e ρ st
mutual
def exS (P : Tb) : S → Env → Sto → RS
  | .asg i e => fun ρ st => do
    let (fr, d, ρ1, st1) ← evE P e ρ st
    let ρ2 ← asgN i fr d ρ1
    some (.nx, ρ2, st1)
  | .asgT t e => fun ρ st => do
    let (d, ρ1, st1) ← vv (evE P e ρ st)
    let (ρ2, st2) ← evTg P t d ρ1 st1
    some (.nx, ρ2, st2)
  | .par2 i j a b => fun ρ st => do
    let (fr, d, ρ1, st1) ← evE P a ρ st
    let (fr', d', ρ2, st2) ← evE P b ρ1 st1
    let ρ3 ← asgN j fr' d' ρ2
    let ρ4 ← asgN i fr d ρ3
    if i = j then none else some (.nx, ρ4, st2)
  | .par3 i j l a b c => fun ρ st => do
    let (fr, d, ρ1, st1) ← evE P a ρ st
    let (fr', d', ρ2, st2) ← evE P b ρ1 st1
    let (fr'', d'', ρ3, st3) ← evE P c ρ2 st2
    let ρ4 ← asgN l fr'' d'' ρ3
    let ρ5 ← asgN j fr' d' ρ4
    let ρ6 ← asgN i fr d ρ5
    if i = j ∨ i = l ∨ j = l then none else some (.nx, ρ6, st3)
  | .aug i o e => fun ρ st => match ρ[i]? with
    | some (.val x) => do
      let (y, ρ1, st1) ← vv (evE P e ρ st)
      let z ← augD o x y
      let ρ2 ← asgN i false z ρ1
      some (.nx, ρ2, st1)
    | _ => none
  | .ex e => fun ρ st => do
    let (_, _, ρ1, st1) ← evE P e ρ st
    some (.nx, ρ1, st1)
  | .ret e => fun ρ st => do
    let (fr, d, ρ1, st1) ← retE P e ρ st
    some (.rt fr d, ρ1, st1)
  | .retN => fun ρ st => some (.rt false .non, ρ, st)
  | .pass => fun ρ st => some (.nx, ρ, st)
  | .brk => fun ρ st => some (.bk, ρ, st)
  | .cnt => fun ρ st => some (.ct, ρ, st)
  | .ite c a b => fun ρ st => do
    let (t, ρ1, st1) ← evT P c ρ st
    if t then exSs P a ρ1 st1 else exSs P b ρ1 st1
  | .whl c b => fun ρ st => whlL (evT P c) (exSs P b) fuel ρ st
  | .for_ t it b => fun ρ st => do
    let (xs, ρ1, st1) ← evI P it ρ st
    forL (evTg P t) (exSs P b) xs ρ1 st1
def exSs (P : Tb) : Ss → Env → Sto → RS
  | .nil => fun ρ st => some (.nx, ρ, st)
  | .cons s ss => fun ρ st => do
    let (f, ρ1, st1) ← exS P s ρ st
    match f with
    | .nx => exSs P ss ρ1 st1
    | f => some (f, ρ1, st1)
end
structure Fn where
  ps : List Str
  nl : Nat
  body : Ss
def runF (P : Tb) (f : Fn) (args : List D) (st : Sto) : Option (Bool × D × Sto) :=
  if args.length = f.ps.length then match exSs P f.body (args.map Sl.val ++ List.replicate (f.nl - f.ps.length) .no) st with
    | some (.rt fr d, _, st') => some (fr, d, st')
    | some (.nx, _, st') => some (false, .non, st')
    | _ => none
  else none
/-- the functions to a depth of calls -/
def callN (prog : Str → Option Fn) (G : Str → Option D) : Nat → Str → List D → Sto → Option (Bool × D × Sto)
  | 0 => fun _ _ _ => none
  | k + 1 => fun x args st => match prog x with
    | some f => runF ⟨callN prog G k, G⟩ f args st
    | none => none
end Pv

namespace Pv
open PySem PySem.Spec PyProof.Rows L2

/-! ## which text is which term -/
structure SC where
  N : List Str
  sc : Scope
  tg : Str → Bool
  gl : Str → Bool
  fp : Str → Bool
  kw : Str → Nat → List Str → List Nat → Bool
def visB (sc : Scope) (x : Str) : Bool := match sc.names.lookup x with
  | some .local => true
  | some .cell => true
  | some .free => true
  | _ => false
def locB (sc : Scope) (x : Str) : Bool := match sc.names.lookup x with
  | some .local => true
  | some .cell => true
  | _ => false
def glB (sc : Scope) (x : Str) : Bool := match sc.names.lookup x with
  | some .globalImplicit => true
  | _ => false
def plainName (x : Str) : Bool := !(x == ("__debug__" : Str)) && !(x == ("__classdict__" : Str)) && !(x == ("__name__" : Str))
def SC.var (C : SC) (i : Nat) (x : Str) : Bool := decide (C.N[i]? = some x) && visB C.sc x && plainName x
def SC.store (C : SC) (i : Nat) (x : Str) : Bool := decide (C.N[i]? = some x) && locB C.sc x && C.tg x && plainName x
def SC.blk (C : SC) (scope : Scope) : SC := { C with sc := relS scope C.sc, tg := fun x => match scope.names.lookup x with
  | some .cell => true
  | some .local => true
  | _ => false }
def starB : Expr → Bool
  | .Starred .. => false
  | _ => true
def sliceB : Expr → Bool
  | .Slice .. => false
  | _ => true
def compB : Expr → Bool
  | .ListComp .. => true
  | .SetComp .. => true
  | .DictComp .. => true
  | _ => false
def setB : Expr → Bool
  | .Set .. => true
  | _ => false
/-- a test that is a value's truth -/
def truB : Expr → Bool
  | .UnaryOp .Not _ _ => false
  | .BoolOp .. => false
  | .IfExp .. => false
  | .Compare .. => false
  | _ => true
def biName : Bi → Str
  | .abs => "abs" | .int => "int" | .len => "len" | .sum => "sum" | .min2 => "min" | .max2 => "max" | .tuple => "tuple" | .list => "list" | .sorted => "sorted" | .min1 => "min" | .max1 => "max"
def mtName : Mt → Str
  | .append => "append" | .pop => "pop" | .popAt => "pop" | .extend => "extend"
def smName : Sm → Str
  | .count => "count" | .index => "index"
def kB : D → Const → Bool
  | .non, .none => true
  | .bl b, .bool c => b == c
  | .int i, .int j => i == j
  | .str s, .str t => s == t
  | _, _ => false
def isCall0 : Expr → Bool
  | .Call _ [] [] _ => true
  | _ => false
/-- the built-in names that are used -/
def blts : List Str := ["abs", "int", "len", "sum", "min", "max", "tuple", "list", "sorted", "range", "enumerate", "zip", "reversed", "isinstance", "str", "bool", "dict", "set"]
def tyNames : List Expr → List String → Bool
  | [], [] => true
  | .Name x _ :: es, t :: ts => x == (t : Str) && (["int", "str", "bool", "tuple", "list", "dict"].contains t) && tyNames es ts
  | _, _ => false
def tyGl (sc : Scope) : List String → Bool
  | [] => true
  | t :: ts => glB sc (t : Str) && tyGl sc ts
def kwB : List Keyword → List Str → Bool
  | [], [] => true
  | k :: ks, n :: ns => decide (k.arg = some n) && kwB ks ns
  | _, _ => false
def cmpE : E → Bool
  | .cmp .. => true
  | .cmpv .. => true
  | .chain .. => true
  | _ => false
mutual
def chE (C : SC) : E → Expr → Bool
  | .v i => fun e => match e with
    | .Name x _ => C.var i x
    | _ => false
  | .k d => fun e => match e with
    | .Constant c _ _ => kB d c
    | _ => false
  | .g x => fun e => match e with
    | .Name y _ => x == y && glB C.sc x && C.gl x && plainName x
    | _ => false
  | .op o a b => fun e => match e with
    | .BinOp l o' r _ => decide (o = o') && chE C a l && chE C b r
    | _ => false
  | .cmp o a b => fun e => match e with
    | .Compare l [o'] [r] _ => decide (o = o') && chE C a l && chE C b r && !setB r
    | _ => false
  | .cmpv o a i => fun e => match e with
    | .Compare l [o'] [.Name x _] _ => decide (o = o') && chE C a l && C.var i x
    | _ => false
  | .chain o o' a b c => fun e => match e with
    | .Compare l [o1, o2] [m, r] _ => decide (o = o1) && decide (o' = o2) && chE C a l && chE C b m && chE C c r && !setB m && !setB r
    | _ => false
  | .neg a => fun e => match e with
    | .UnaryOp .USub x _ => chE C a x
    | _ => false
  | .nt a => fun e => match e with
    | .UnaryOp .Not x _ => chE C a x && truB x
    | _ => false
  | .an a b => fun e => match e with
    | .BoolOp .And (x :: y :: rest) p => chE C a x && (if rest.isEmpty then chE C b y else chE C b (.BoolOp .And (y :: rest) p))
    | _ => false
  | .or a b => fun e => match e with
    | .BoolOp .Or (x :: y :: rest) p => chE C a x && (if rest.isEmpty then chE C b y else chE C b (.BoolOp .Or (y :: rest) p))
    | _ => false
  | .ite c a b => fun e => match e with
    | .IfExp t x y _ => chC C c t && chE C a x && chE C b y
    | _ => false
  | .tup es => fun e => match e with
    | .Tuple xs _ _ => chEs C es xs
    | _ => false
  | .lst es => fun e => match e with
    | .List xs _ => chEs C es xs
    | _ => false
  | .share a => fun e => chE C a e
  | .bi b es => fun e => match e with
    | .Call (.Name x _) (y :: ys) [] _ => x == biName b && glB C.sc x && chEs C es (y :: ys)
    | _ => false
  | .lenv i => fun e => match e with
    | .Call (.Name x _) [.Name y _] [] _ => x == ("len" : Str) && glB C.sc x && C.var i y
    | _ => false
  | .isi a ts many => fun e => match e with
    | .Call (.Name x _) [y, t] [] _ => x == ("isinstance" : Str) && glB C.sc x && chE C a y && starB y && tyGl C.sc ts && (match many, t with
      | true, .Tuple es _ _ => tyNames es ts && decide (es.length < 10)
      | false, e => tyNames [e] ts
      | _, _ => false)
    | _ => false
  | .ix a b => fun e => match e with
    | .Subscript x y _ => chE C a x && chE C b y && sliceB y
    | _ => false
  | .ixv i b => fun e => match e with
    | .Subscript (.Name x _) y _ => C.var i x && chE C b y && sliceB y
    | _ => false
  | .sl a lo hi => fun e => match e with
    | .Subscript x (.Slice l h none _) _ => chE C a x && chO C lo l && chO C hi h
    | _ => false
  | .slr a => fun e => match e with
    | .Subscript x (.Slice none none (some (.UnaryOp .USub (.Constant (.int 1) _ _) _)) _) _ => chE C a x
    | _ => false
  | .call f es => fun e => match e with
    | .Call (.Name x _) ys [] _ => x == f && glB C.sc x && plainName x && C.fp x && chEs C es ys
    | _ => false
  | .callk f es ks kes perm => fun e => match e with
    | .Call (.Name x _) ys (k :: kws) _ => x == f && glB C.sc x && plainName x && chEs C es ys && kwB (k :: kws) ks && chEs C kes ((k :: kws).map (·.value)) && C.kw x ys.length ks perm
    | _ => false
  | .mth m i es => fun e => match e with
    | .Call (.Attribute (.Name x _) n p) ys [] q => n == mtName m && C.var i x && chEs C es ys && p.endLine == q.line && decide (ys.length < 20)
    | _ => false
  | .mthH m a es => fun e => match e with
    | .Call (.Attribute x n p) ys [] q => n == mtName m && chE C a x && !isCall0 x && chEs C es ys && p.endLine == q.line && decide (ys.length < 20)
    | _ => false
  | .lc a t it c own => fun e => match e with
    | .ListComp x [⟨tg, iter, ifs, 0⟩] scope _ => blkC C.N C.sc scope own && chI C it tg iter && chTg (C.blk scope) t tg && chCo (C.blk scope) c ifs && chE (C.blk scope) a x && (Tg.slots t).all (fun j => (own.map (·.2)).contains j)
    | _ => false
  | .lc2 a t it c t1 it1 c1 own own1 => fun e => match e with
    | .ListComp x [⟨tg, iter, ifs, 0⟩, ⟨tg1, iter1, ifs1, 0⟩] scope _ => blkC C.N C.sc scope own && chI C it tg iter && chTg (C.blk scope) t tg && chCo (C.blk scope) c ifs && chI (C.blk scope) it1 tg1 iter1 && chTg (C.blk scope) t1 tg1 && chCo (C.blk scope) c1 ifs1 && chE (C.blk scope) a x &&
      (Tg.slots t).all (fun j => (own.map (·.2)).contains j) && (Tg.slots t1).all (fun j => own1.contains j) && own1.all (fun j => (own.map (·.2)).contains j)
    | _ => false
  | .lrng es => fun e => match e with
    | .Call (.Name x _) [.Call (.Name y _) zs [] _] [] _ => x == ("list" : Str) && glB C.sc x && y == ("range" : Str) && glB C.sc y && chEs C es zs && (zs.length == 1 || zs.length == 2)
    | _ => false
  | .trng es => fun e => match e with
    | .Call (.Name x _) [.Call (.Name y _) zs [] _] [] _ => x == ("tuple" : Str) && glB C.sc x && y == ("range" : Str) && glB C.sc y && chEs C es zs && (zs.length == 1 || zs.length == 2)
    | _ => false
  | .lzip a b => fun e => match e with
    | .Call (.Name x _) [.Call (.Name y _) [z, z'] [] _] [] _ => x == ("list" : Str) && glB C.sc x && y == ("zip" : Str) && glB C.sc y && chE C a z && chE C b z' && starB z && starB z'
    | _ => false
  | .sset a => fun e => match e with
    | .Call (.Name x _) [.Call (.Name y _) [z] [] _] [] _ => x == ("sorted" : Str) && glB C.sc x && y == ("set" : Str) && glB C.sc y && chE C a z && starB z
    | _ => false
  | .sm m a b => fun e => match e with
    | .Call (.Attribute x n p) [y] [] q => n == smName m && chE C a x && !isCall0 x && chE C b y && starB y && p.endLine == q.line
    | _ => false
def chEs (C : SC) : Es → List Expr → Bool
  | .nil => fun l => match l with
    | [] => true
    | _ => false
  | .cons e es => fun l => match l with
    | x :: xs => starB x && chE C e x && chEs C es xs
    | _ => false
def chO (C : SC) : Eo → Option Expr → Bool
  | .no => fun o => match o with
    | none => true
    | _ => false
  | .so e => fun o => match o with
    | some x => chE C e x
    | _ => false
def chC (C : SC) : Cn → Expr → Bool
  | .e a => fun x => chE C a x && (truB x || cmpE a)
  | .nt c => fun x => match x with
    | .UnaryOp .Not y _ => chC C c y
    | _ => false
  | .an a b => fun e => match e with
    | .BoolOp .And (x :: y :: rest) p => chC C a x && (if rest.isEmpty then chC C b y else chC C b (.BoolOp .And (y :: rest) p))
    | _ => false
  | .or a b => fun e => match e with
    | .BoolOp .Or (x :: y :: rest) p => chC C a x && (if rest.isEmpty then chC C b y else chC C b (.BoolOp .Or (y :: rest) p))
    | _ => false
def chCo (C : SC) : Co → List Expr → Bool
  | .no => fun l => match l with
    | [] => true
    | _ => false
  | .so c => fun l => match l with
    | [x] => chC C c x
    | _ => false
def chI (C : SC) : I → Expr → Expr → Bool
  | .val e => fun _ x => chE C e x && !setB x
  | .rng es => fun _ x => match x with
    | .Call (.Name y _) zs [] _ => y == ("range" : Str) && glB C.sc y && chEs C es zs && (zs.length == 1 || zs.length == 2 || zs.length == 3)
    | _ => false
  | .enum e => fun t x => match t, x with
    | .Tuple _ _ _, .Call (.Name y _) [z] [] _ => y == ("enumerate" : Str) && glB C.sc y && chE C e z && starB z
    | _, _ => false
  | .zip a b => fun t x => match t, x with
    | .Tuple _ _ _, .Call (.Name y _) [z, z'] [] _ => y == ("zip" : Str) && glB C.sc y && chE C a z && chE C b z' && starB z && starB z'
    | _, _ => false
  | .rev e => fun _ x => match x with
    | .Call (.Name y _) [z] [] _ => y == ("reversed" : Str) && glB C.sc y && chE C e z && starB z
    | _ => false
def chTg (C : SC) : Tg → Expr → Bool
  | .n i => fun e => match e with
    | .Name x _ => C.store i x
    | _ => false
  | .sub i a => fun e => match e with
    | .Subscript (.Name x _) y _ => C.var i x && chE C a y && sliceB y
    | _ => false
  | .tup ts => fun e => match e with
    | .Tuple es _ _ => chTgs C ts es
    | _ => false
def chTgs (C : SC) : Tgs → List Expr → Bool
  | .nil => fun l => match l with
    | [] => true
    | _ => false
  | .cons t ts => fun l => match l with
    | x :: xs => starB x && chTg C t x && chTgs C ts xs
    | _ => false
def Tg.slots : Tg → List Nat
  | .n i => [i]
  | .sub _ _ => []
  | .tup ts => Tgs.slots ts
def Tgs.slots : Tgs → List Nat
  | .nil => []
  | .cons t ts => Tg.slots t ++ Tgs.slots ts
end
end Pv

namespace Pv
open PySem PySem.Spec PyProof.Rows L2

/-! ## what is shown -/
/-- a function's promise -/
def spOf (K : PySem.W.Frag) (np : Nat) (f : List D → Sto → Option (Bool × D × Sto)) : Sp := fun vs H Q _ =>
  vs.length = np ∧ ∃ A B st ds fr d st', SRel K A B H st ∧ HoL K A B vs ds ∧ f ds st = some (fr, d, st') ∧ ∀ v A' B' H', Back K A B H A' B' H' st' fr d v → Q v H'
/-- the table and the module -/
structure GOk (P : Program) (w : World) (K : PySem.W.Frag) (mg : Str → Option Value) (base : Heap) (k : Nat) (F : Tb) (gl : Str → Bool) (fp : Str → Bool) (kw : Str → Nat → List Str → List Nat → Bool) : Prop where
  blt : ∀ x, x ∈ blts → mg x = none
  glob : ∀ x d, gl x = true → F.G x = some d → ∃ u v, mg x = some u ∧ RelV v u ∧ ∀ A B, Ho K A B v d
  fns : ∀ x, fp x = true → ∃ f fd ps, mg x = some (.ref f) ∧ PySem.W.keepIn K (.ref f) = true ∧ Binds K fd ps [] ∧ FnOk P w K mg base CX0 k f fd ps (spOf K ps.length (F.F x)) ∧ ∀ ds st r, F.F x ds st = some r → ds.length = ps.length
  kws : ∀ x np ks perm, kw x np ks perm = true → ∃ f fd ps, mg x = some (.ref f) ∧ PySem.W.keepIn K (.ref f) = true ∧ FnOk P w K mg base CX0 k f fd ps (spOf K ps.length (F.F x)) ∧
    0 < ps.length ∧ (∀ (s : Shared) (us ws : List Value), us.length = np → ws.length = ks.length → BindsTo s fd ⟨us, ks.zip ws⟩ (ps.zip (perm.filterMap fun j => (us ++ ws)[j]?)) ∧ (perm.filterMap fun j => (us ++ ws)[j]?).length = ps.length) ∧ ∀ ds st r, F.F x ds st = some r → ds.length = ps.length
/-- a def's body, or a comprehension's in it -/
structure COk (P : Program) (w : World) (K : PySem.W.Frag) (mg : Str → Option Value) (base : Heap) (k : Nat) (C : SC) (X : Cx) : Prop where
  prog : X.prog = P
  w : X.w = w
  K : X.K = K
  mg : X.mg = mg
  base : X.base = base
  N : X.N = C.N
  nd : C.N.Nodup
  sc : X.env.scope = C.sc
  room : Room k X.A
  calm : X.calm = true
  tg : ∀ x, C.tg x = true → X.fn x = true ∨ X.env.scope.names.lookup x = some .local
  kind : C.sc.kind = .function
  xe : X.xe = fun _ _ => False

section
variable (K : PySem.W.Frag) (F : Tb)
/-- behind an expression -/
def EPost (O : Org) (σ : L2.St) (T : List (Addr × List D)) (ρ' : Env) (st' : Sto) (fr : Bool) (d : D) (v : V) (A' : List Addr) (B' H' : Hp) : Prop :=
  if fr = true then ∃ a xs, v = .ref a ∧ d = .lst xs ∧ Rel K O A' B' σ H' ρ' st' ((a, xs) :: T) else Rel K O A' B' σ H' ρ' st' T ∧ Ho K A' B' v d
def tE (p : E) : TE := fun σ H Q => ∃ O A B ρ st T fr d ρ' st', Rel K O A B σ H ρ st T ∧ evE F p ρ st = some (fr, d, ρ', st') ∧ ∀ v A' B' H', Px A A' → Ex B B' → EPost K O σ T ρ' st' fr d v A' B' H' → Q v H'
def tCn (p : Cn) : TT := fun σ H Q => ∃ O A B ρ st T b ρ' st', Rel K O A B σ H ρ st T ∧ evT F p ρ st = some (b, ρ', st') ∧ ∀ A' B' H', Px A A' → Ex B B' → Rel K O A' B' σ H' ρ' st' T → Q b H'
def tCo (p : Co) : TT := fun σ H Q => ∃ O A B ρ st T b ρ' st', Rel K O A B σ H ρ st T ∧ evC F p ρ st = some (b, ρ', st') ∧ ∀ A' B' H', Px A A' → Ex B B' → Rel K O A' B' σ H' ρ' st' T → Q b H'
def tEs (p : Es) : TA := fun σ H Q => ∃ O A B ρ st T ds ρ' st', Rel K O A B σ H ρ st T ∧ evEs F p ρ st = some (ds, ρ', st') ∧ ∀ vs A' B' H', Px A A' → Ex B B' → Rel K O A' B' σ H' ρ' st' T → HoL K A' B' vs ds → Q vs H'
def tEo (p : Eo) : TO := fun σ H Q => ∃ O A B ρ st T d ρ' st', Rel K O A B σ H ρ st T ∧ evO F p ρ st = some (d, ρ', st') ∧ ∀ A' B' H', Px A A' → Ex B B' → Rel K O A' B' σ H' ρ' st' T → Q d H'
/-- what J walks: from (A, B) on -/
def Walks (J : It) (A : List Addr) (B : Hp) (xs : List D) : Prop := ∀ (i : Nat) (A1 : List Addr) (B1 H : Hp), Px A A1 → Ex B B1 → Ex B1 H →
  (∀ d, xs[i]? = some d → J.go i H ∧ ∀ x H', J.yld i H x H' → ∃ B2, Ex B1 B2 ∧ Ex H H' ∧ Ex B2 H' ∧ (∀ a, B1 a = none → B2 a ≠ none → H a = none) ∧ Ho K A1 B2 x d) ∧ (xs.length ≤ i → J.stop i H)
def tI (p : I) : TI := fun σ H R => ∃ O A B ρ st T xs ρ' st', Rel K O A B σ H ρ st T ∧ evI F p ρ st = some (xs, ρ', st') ∧ ∀ J A' B' H', Px A A' → Ex B B' → Rel K O A' B' σ H' ρ' st' T → Walks K J A' B' xs → R J H'
def off (sl : List Nat) (σ σ' : L2.St) : Prop := σ'.length = σ.length ∧ ∀ (j : Nat), j ∉ sl → σ'[j]? = σ[j]?
def tG (t : Tg) : TG := fun v σ H Q => ∃ O A B ρ st T d ρ' st', Rel K O A B σ H ρ st T ∧ Ho K A B v d ∧ evTg F t d ρ st = some (ρ', st') ∧ ∀ σ' A' B' H', Px A A' → Ex B B' → off t.slots σ σ' → Rel K O A' B' σ' H' ρ' st' T → Q σ' H'
def tGs (t : Tgs) : TGs := fun vs σ H Q => ∃ O A B ρ st T ds ρ' st', Rel K O A B σ H ρ st T ∧ HoL K A B vs ds ∧ evTgs F t ds ρ st = some (ρ', st') ∧ ∀ σ' A' B' H', Px A A' → Ex B B' → off t.slots σ σ' → Rel K O A' B' σ' H' ρ' st' T → Q σ' H'
def SPost (O : Org) (T : List (Addr × List D)) (A : List Addr) (B : Hp) (D : Ends) (ρ' : Env) (st' : Sto) : Fl → Prop
  | .nx => ∀ σ' A' B' H', Px A A' → Ex B B' → Rel K O A' B' σ' H' ρ' st' T → D.nx σ' H'
  | .bk => ∀ σ' A' B' H', Px A A' → Ex B B' → Rel K O A' B' σ' H' ρ' st' T → D.bk σ' H'
  | .ct => ∀ σ' A' B' H', Px A A' → Ex B B' → Rel K O A' B' σ' H' ρ' st' T → D.ct σ' H'
  | .rt fr d => ∀ v σ' A' B' H', Px A A' → Ex B B' → EPost K O σ' T ρ' st' fr d v A' B' H' → D.rt v H'
def tS (s : S) : TS := fun D σ H => ∃ O A B ρ st T f ρ' st', Rel K O A B σ H ρ st T ∧ exS F s ρ st = some (f, ρ', st') ∧ SPost K O T A B D ρ' st' f
def tSs (s : Ss) : TS := fun D σ H => ∃ O A B ρ st T f ρ' st', Rel K O A B σ H ρ st T ∧ exSs F s ρ st = some (f, ρ', st') ∧ SPost K O T A B D ρ' st' f
end

/-! ### weaker readings -/
section
variable {X : Cx}
theorem _root_.L2.PE.imp {e : Expr} {t t' : TE} (h : PE X e t) (i : ∀ σ H Q, t' σ H Q → t σ H Q) : PE X e t' := ⟨fun pins s σ H Q I hw => h.run pins s σ H Q I (i σ H Q hw)⟩
theorem _root_.L2.PT.imp {e : Expr} {t t' : TT} (h : PT X e t) (i : ∀ σ H Q, t' σ H Q → t σ H Q) : PT X e t' := ⟨fun pins s σ H Q I hw => h.run pins s σ H Q I (i σ H Q hw)⟩
theorem _root_.L2.PW.imp {e : Expr} {t t' : TT} (h : PW X e t) (i : ∀ σ H Q, t' σ H Q → t σ H Q) : PW X e t' := ⟨fun wh pins s σ H Q I hw => h.run wh pins s σ H Q I (i σ H Q hw)⟩
theorem _root_.L2.PA.imp {e : List Expr} {t t' : TA} (h : PA X e t) (i : ∀ σ H Q, t' σ H Q → t σ H Q) : PA X e t' := ⟨fun pos pins s σ H Q I hw => h.run pos pins s σ H Q I (i σ H Q hw)⟩
theorem _root_.L2.PO.imp {e : Option Expr} {t t' : TO} (h : PO X e t) (i : ∀ σ H Q, t' σ H Q → t σ H Q) : PO X e t' := ⟨fun pins s σ H Q I hw => h.run pins s σ H Q I (i σ H Q hw)⟩
theorem _root_.L2.PI.imp {tg e : Expr} {t t' : TI} (h : PI X tg e t) (i : ∀ σ H Q, t' σ H Q → t σ H Q) : PI X tg e t' := ⟨fun pins s σ H Q I hw => h.run pins s σ H Q I (i σ H Q hw)⟩
theorem _root_.L2.PTs.imp {e : List Expr} {t t' : TT} (h : PTs X e t) (i : ∀ σ H Q, t' σ H Q → t σ H Q) : PTs X e t' := ⟨fun pins s σ H Q I hw => h.run pins s σ H Q I (i σ H Q hw)⟩
theorem _root_.L2.PS.imp {e : Stmt} {t t' : TS} (h : PS X e t) (i : ∀ D σ H, t' D σ H → t D σ H) : PS X e t' := ⟨fun pins s σ H D I hw => h.run pins s σ H D I (i D σ H hw)⟩
theorem _root_.L2.PSs.imp {e : List Stmt} {t t' : TS} (h : PSs X e t) (i : ∀ D σ H, t' D σ H → t D σ H) : PSs X e t' := ⟨fun pins s σ H D I hw => h.run pins s σ H D I (i D σ H hw)⟩
theorem _root_.L2.PG.imp {e : Expr} {t t' : TG} (h : PG X e t) (i : ∀ v σ H Q, t' v σ H Q → t v σ H Q) : PG X e t' := ⟨fun pins s σ H v u Q I r hw => h.run pins s σ H v u Q I r (i v σ H Q hw)⟩
theorem _root_.L2.PGs.imp {e : List Expr} {t t' : TGs} (h : PGs X e t) (i : ∀ v σ H Q, t' v σ H Q → t v σ H Q) : PGs X e t' := ⟨fun pins s σ H v u Q I r hw => h.run pins s σ H v u Q I r (i v σ H Q hw)⟩
end
end Pv

namespace Pv
open PySem PySem.Spec PyProof.Rows L2

theorem lim_le {n : Nat} (h : n ≤ lim) : n ≤ sizeLine := by
  rw [sizeLine_eq]; unfold lim at h; omega
theorem lim_lt {n : Nat} (h : n < lim) : n < sizeLine := by
  rw [sizeLine_eq]; unfold lim at h; omega
section
variable {K : PySem.W.Frag} {A : List Addr} {B H : Hp}
theorem Ho.lstH {a : Addr} {xs : List D} (e : Ex B H) (h : Ho K A B (.ref a) (.lst xs)) : ∃ vs, B a = some (.lst vs) ∧ H a = some (.lst vs) ∧ HoL K A B vs xs := by
  cases h with | lst h1 h2 => exact ⟨_, h1, e _ _ h1, h2⟩
theorem Ho.tupH {a : Addr} {xs : List D} (e : Ex B H) (h : Ho K A B (.ref a) (.tup xs)) : ∃ vs, SqT K H a vs ∧ HoL K A B vs xs := by
  cases h with | tup h1 _ h2 => exact ⟨_, ex_t e h1, h2⟩
theorem Ho.isLst {v : V} {xs : List D} (h : Ho K A B v (.lst xs)) : ∃ a, v = .ref a := by cases h; exact ⟨_, rfl⟩
theorem Ho.isTup {v : V} {xs : List D} (h : Ho K A B v (.tup xs)) : ∃ a, v = .ref a := by cases h; exact ⟨_, rfl⟩
theorem Ho.tupP {a : Addr} {xs : List D} (h : Ho K A B (.ref a) (.tup xs)) : PTu K B a := by
  cases h with | tup _ h1 _ => exact h1
theorem HoL.nil_iff {vs : List V} {ds : List D} (h : HoL K A B vs ds) : vs = [] ↔ ds = [] := by
  have := h.length
  constructor <;> intro z <;> subst z <;> simp at this
  · exact List.length_eq_zero_iff.mp this.symm
  · exact this
/-! ### data that is compared -/
mutual
def py : D → PyData
  | .non => .none
  | .bl b => .bool b
  | .int i => .int i
  | .str s => .str s
  | .tup xs => .tuple (pyL xs)
  | .lst xs => .list (pyL xs)
  | .scr _ => .none
  | .hd _ => .none
  | .itm _ => .none
  | .fn _ => .none
  | .dct _ _ => .none
  | .ins _ _ _ => .none
def pyL : List D → List PyData
  | [] => []
  | x :: xs => py x :: pyL xs
end
theorem all_cons_iff {α : Type} {p : α → Bool} {x : α} {xs : List α} : (x :: xs).all p = true ↔ p x = true ∧ xs.all p = true := by
  rw [List.all_cons, Bool.and_eq_true]
mutual
theorem Ho.dp (e : Ex B H) : ∀ (d : D) (n : Nat) {v : V}, Ho K A B v d → sh n d = true → Dp K H v (py d)
  | .non, _, _, h, _ => by cases h; exact .non
  | .bl b, _, _, h, _ => by cases h; exact .bl b
  | .int i, _, _, h, _ => by cases h; exact .int i
  | .str s, _, _, h, _ => by cases h; exact .str s
  | .tup xs, n, _, h, s => by
    cases n with
    | zero => simp [sh] at s
    | succ n => cases h with | tup h1 _ h2 => exact .tup (ex_t e h1) (HoL.dp e xs n h2 (by simpa [sh] using s))
  | .lst xs, n, _, h, s => by
    cases n with
    | zero => simp [sh] at s
    | succ n => cases h with | lst h1 h2 => exact .lst (SqL.of (e _ _ h1)) (HoL.dp e xs n h2 (by simpa [sh] using s))
  | .scr _, _, _, _, s => by simp [sh] at s
  | .hd _, _, _, _, s => by simp [sh] at s
  | .itm _, _, _, _, s => by simp [sh] at s
  | .fn _, _, _, _, s => by simp [sh] at s
  | .dct _ _, _, _, _, s => by simp [sh] at s
  | .ins _ _ _, _, _, _, s => by simp [sh] at s
theorem HoL.dp (e : Ex B H) : ∀ (ds : List D) (n : Nat) {vs : List V}, HoL K A B vs ds → (∀ d ∈ ds, sh n d = true) → DpAll K H vs (pyL ds)
  | [], _, _, h, _ => by cases h; exact .nil
  | d :: ds, n, _, h, s => by
    cases h with | cons h1 h2 => exact .cons (Ho.dp e d n h1 (s d List.mem_cons_self)) (HoL.dp e ds n h2 fun x hx => s x (List.mem_cons_of_mem _ hx))
end
mutual
theorem py_lay : ∀ (d : D) (n : Nat), sh n d = true → (py d).canLay0 = true ∧ (py d).depth ≤ n
  | .non, n, _ => ⟨rfl, Nat.zero_le _⟩
  | .bl _, n, _ => ⟨rfl, Nat.zero_le _⟩
  | .int _, n, _ => ⟨rfl, Nat.zero_le _⟩
  | .str s, n, h => ⟨by show (PyData.str s).canLay0 = true; simpa [sh] using h, Nat.zero_le _⟩
  | .tup xs, 0, h => by simp [sh] at h
  | .tup xs, n + 1, h => by
    have := pyL_lay xs n (by simpa [sh] using h)
    exact ⟨this.1, Nat.succ_le_succ this.2⟩
  | .lst xs, 0, h => by simp [sh] at h
  | .lst xs, n + 1, h => by
    have := pyL_lay xs n (by simpa [sh] using h)
    exact ⟨this.1, Nat.succ_le_succ this.2⟩
  | .scr _, _, h => by simp [sh] at h
  | .hd _, _, h => by simp [sh] at h
  | .itm _, _, h => by simp [sh] at h
  | .fn _, _, h => by simp [sh] at h
  | .dct _ _, _, h => by simp [sh] at h
  | .ins _ _ _, _, h => by simp [sh] at h
theorem pyL_lay : ∀ (ds : List D) (n : Nat), (∀ d ∈ ds, sh n d = true) → PyData.canLayAll0 (pyL ds) = true ∧ PyData.depthAll (pyL ds) ≤ n
  | [], n, _ => ⟨rfl, Nat.zero_le _⟩
  | d :: ds, n, h => by
    have h1 := py_lay d n (h d List.mem_cons_self)
    have h2 := pyL_lay ds n fun x hx => h x (List.mem_cons_of_mem _ hx)
    refine ⟨?_, Nat.max_le.mpr ⟨h1.2, h2.2⟩⟩
    show (PyData.canLay0 (py d) && PyData.canLayAll0 (pyL ds)) = true
    rw [h1.1, h2.1]; rfl
end
theorem py_shaped {d : D} {n : Nat} (h : sh n d = true) (hn : n ≤ 64) : SeqAt.shaped (py d) = true := by
  obtain ⟨h1, h2⟩ := py_lay d n h
  unfold SeqAt.shaped
  rw [h1, decide_eq_true (Nat.le_trans h2 hn)]; rfl
mutual
theorem py_eqv : ∀ (d e : D) (n m : Nat), sh n d = true → sh m e = true → PyData.eqv (py d) (py e) = eqv d e
  | .non, e, n, m, h1, h2 => by cases e <;> first | rfl | simp [sh] at h2
  | .bl _, e, n, m, h1, h2 => by cases e <;> first | rfl | simp [sh] at h2
  | .int _, e, n, m, h1, h2 => by cases e <;> first | rfl | simp [sh] at h2
  | .str _, e, n, m, h1, h2 => by cases e <;> first | rfl | simp [sh] at h2
  | .tup xs, e, n, m, h1, h2 => by
    cases n with
    | zero => simp [sh] at h1
    | succ n =>
      cases e with
      | tup ys =>
        cases m with
        | zero => simp [sh] at h2
        | succ m => exact pyL_eqv xs ys n m (by simpa [sh] using h1) (by simpa [sh] using h2)
      | _ => first | rfl | simp [sh] at h2
  | .lst xs, e, n, m, h1, h2 => by
    cases n with
    | zero => simp [sh] at h1
    | succ n =>
      cases e with
      | lst ys =>
        cases m with
        | zero => simp [sh] at h2
        | succ m => exact pyL_eqv xs ys n m (by simpa [sh] using h1) (by simpa [sh] using h2)
      | _ => first | rfl | simp [sh] at h2
  | .scr _, _, _, _, h1, _ => by simp [sh] at h1
  | .hd _, _, _, _, h1, _ => by simp [sh] at h1
  | .itm _, _, _, _, h1, _ => by simp [sh] at h1
  | .fn _, _, _, _, h1, _ => by simp [sh] at h1
  | .dct _ _, _, _, _, h1, _ => by simp [sh] at h1
  | .ins _ _ _, _, _, _, h1, _ => by simp [sh] at h1
theorem pyL_eqv : ∀ (ds es : List D) (n m : Nat), (∀ d ∈ ds, sh n d = true) → (∀ d ∈ es, sh m d = true) → PyData.eqvAll (pyL ds) (pyL es) = eqvL ds es
  | [], [], _, _, _, _ => rfl
  | [], _ :: _, _, _, _, _ => rfl
  | _ :: _, [], _, _, _, _ => rfl
  | d :: ds, e :: es, n, m, h1, h2 => by
    show (PyData.eqv (py d) (py e) && PyData.eqvAll (pyL ds) (pyL es)) = (eqv d e && eqvL ds es)
    rw [py_eqv d e n m (h1 d List.mem_cons_self) (h2 e List.mem_cons_self), pyL_eqv ds es n m (fun x hx => h1 x (List.mem_cons_of_mem _ hx)) fun x hx => h2 x (List.mem_cons_of_mem _ hx)]
end
theorem Ho.flatV {v : V} {d : D} (h : Ho K A B v d) (f : flat d = true) : L2.flatV v = true := by
  cases d <;> first | (cases h; rfl) | (simp [Pv.flat] at f)
theorem HoL.flatV {vs : List V} {ds : List D} (h : HoL K A B vs ds) (f : ds.all flat = true) : vs.all L2.flatV = true := by
  induction ds generalizing vs with
  | nil => cases h; rfl
  | cons d ds ih =>
    cases h with | cons h1 h2 =>
    rw [List.all_cons, Bool.and_eq_true] at f
    rw [List.all_cons, h1.flatV f.1, ih h2 f.2]; rfl
theorem Ho.eqV {v w : V} {d e : D} (h : Ho K A B v d) (h' : Ho K A B w e) (f : flat d = true) (f' : flat e = true) : L2.eqV v w = eqv d e := by
  cases d <;> first | (cases e <;> first | (cases h; cases h'; rfl) | (simp [Pv.flat] at f'; done)) | (simp [Pv.flat] at f; done)
end
end Pv

namespace Pv
open PySem PySem.Spec PyProof.Rows L2

section
variable {K : PySem.W.Frag} {O : Org} {A A' : List Addr} {B B' H H' : Hp} {σ : L2.St} {ρ : Env} {st : Sto} {T : List (Addr × List D)} {d : D} {v : V} {fr : Bool}
theorem EPost.val (R : Rel K O A B σ H ρ st T) (h : Ho K A B v d) : EPost K O σ T ρ st false d v A B H := by
  unfold EPost; rw [if_neg Bool.false_ne_true]; exact ⟨R, h⟩
theorem EPost.new {p : Addr} {vs : List V} {xs : List D} (R : Rel K O A B σ H ρ st T) (h : H p = none) (hv : HoL K A B vs xs) : EPost K O σ T ρ st true (.lst xs) (.ref p) A B (upd H p (.lst vs)) := by
  unfold EPost; rw [if_pos rfl]; exact ⟨p, xs, rfl, rfl, R.push h hv⟩
theorem EPost.tup {p : Addr} {vs : List V} {xs : List D} {o : Obj} (R : Rel K O A B σ H ρ st T) (h : H p = none) (ho : o.dict = none) (hv : HoL K A B vs xs) : EPost K O σ T ρ st false (.tup xs) (.ref p) A (upd B p (.frz o (.tup vs))) (upd H p (.frz o (.tup vs))) := by
  unfold EPost; rw [if_neg Bool.false_ne_true]
  exact ⟨R.new h, .tup sqT_frz (pt_frz ho) (hv.mono (Px.refl _) (Ex.new (R.bfresh h)))⟩
/-- a new list is frozen where none is wanted -/
theorem EPost.freeze (P : EPost K O σ T ρ st fr d v A B H) : ∃ B', Ex B B' ∧ Rel K O A B' σ H ρ st T ∧ Ho K A B' v d := by
  unfold EPost at P
  cases fr with
  | false =>
    rw [if_neg Bool.false_ne_true] at P
    exact ⟨B, Ex.refl _, P.1, P.2⟩
  | true =>
    rw [if_pos rfl] at P
    obtain ⟨a, xs, rfl, rfl, R⟩ := P
    obtain ⟨vs, R', h1, h2⟩ := R.freeze
    exact ⟨_, h2, R', h1⟩
end

/-! ## binary operators -/
def rD (K : PySem.W.Frag) (f : D → D → R1) : R2 := fun x y H Q => ∃ O A B σ ρ st T a b fr d, Rel K O A B σ H ρ st T ∧ Ho K A B x a ∧ Ho K A B y b ∧ f a b = some (fr, d) ∧
  ∀ v A' B' H', Px A A' → Ex B B' → EPost K O σ T ρ st fr d v A' B' H' → Q v H'
def rCm (K : PySem.W.Frag) (f : D → D → Option Bool) : R2 := fun x y H Q => ∃ A B a b t, Ex B H ∧ Ho K A B x a ∧ Ho K A B y b ∧ f a b = some t ∧ Q (.bl t) H
section
variable {X : Cx}
theorem CMulW_of {a b : Int} (ha : Big a) (hb : Big b) : CMulW a b := by
  unfold CMulW; unfold Big at ha hb; omega
theorem opR_add : OpR X (binaryOp .Add) (rD X.K addD) := by
  intro pins s σ H x y v u Q I rx ry h
  obtain ⟨O, A, B, σ', ρ, st, T, a, b, fr, d, R, hx, hy, e, q⟩ := h
  cases a with
  | int i =>
    cases b with
    | int j =>
      cases hx; cases hy; cases e
      exact op_add pins s σ H _ _ v u Q I rx ry ⟨i, j, rfl, rfl, q _ _ _ _ (Px.refl _) (Ex.refl _) (.val R (.int _))⟩
    | _ => cases e
  | str i =>
    cases b with
    | str j =>
      cases hx; cases hy
      simp only [addD] at e
      split at e
      · rename_i hl
        cases e
        exact op_add_str pins s σ H _ _ v u Q I rx ry ⟨i, j, rfl, rfl, lim_le hl, q _ _ _ _ (Px.refl _) (Ex.refl _) (.val R (.str _))⟩
      · cases e
    | _ => cases e
  | lst xs =>
    cases b with
    | lst ys =>
      simp only [addD] at e
      split at e
      · rename_i hl
        cases e
        obtain ⟨a1, rfl⟩ := hx.isLst
        obtain ⟨b1, rfl⟩ := hy.isLst
        obtain ⟨vs, _, h1, h2⟩ := hx.lstH R.ex
        obtain ⟨ws, _, h3, h4⟩ := hy.lstH R.ex
        refine op_cat pins s σ H _ _ v u Q I rx ry ⟨a1, b1, vs, ws, rfl, rfl, h1, h3, by rw [h2.length, h4.length]; exact lim_le hl, fun p hp => q _ _ _ _ (Px.refl _) (Ex.refl _) (.new R hp (h2.append h4))⟩
      · cases e
    | _ => cases e
  | tup xs =>
    cases b with
    | tup ys =>
      simp only [addD] at e
      split at e
      · rename_i hl
        cases e
        obtain ⟨a1, rfl⟩ := hx.isTup
        obtain ⟨b1, rfl⟩ := hy.isTup
        obtain ⟨vs, h1, h2⟩ := hx.tupH R.ex
        obtain ⟨ws, h3, h4⟩ := hy.tupH R.ex
        refine op_catF pins s σ H _ _ v u Q I rx ry ⟨a1, b1, vs, ws, rfl, rfl, h1, h3, by rw [h2.length, h4.length]; exact lim_le hl, fun z => ?_, fun _ z => ?_, fun _ _ p o hp ho => q _ _ _ _ (Px.refl _) (Ex.new (R.bfresh hp)) (.tup R hp ho (h2.append h4))⟩
        · have z' := h2.nil_iff.mp z
          subst z'
          exact q _ _ _ _ (Px.refl _) (Ex.refl _) (.val R hy)
        · have z' := h4.nil_iff.mp z
          subst z'
          exact q _ _ _ _ (Px.refl _) (Ex.refl _) (.val R (by rw [List.append_nil]; exact hx))
      · cases e
    | _ => cases e
  | _ => cases b <;> cases e

/-! ### tuple * int -/
theorem mul_same (l : Addr) (items : Array Value) (n : Nat) (dd : Option Addr) (sl : Array (Option Value)) (x : Int) (u : Tok) (g0 : (decide (x < -(2 ^ 63)) || decide (x ≥ 2 ^ 63)) = false) (g1 : (items.isEmpty || x == 1) = true) :
    Meets (Builtin.«tuple.__mul__» ⟨[.ref l, .int x u], []⟩) (fun _ R s => s.heap.get? l = some { cls := .type "tuple", dict := dd, data := .seq items n, slots := sl } ∧ R (.ok (.ret (Value.ref l))) s) :=
  .of_wp fun prog w A R s h => by
    obtain ⟨hp, g, d, tk, os⟩ := s
    obtain ⟨hl, h⟩ := h
    have f1 := AutoSeq1.idx_int
    wp_walk using wpAny_loadPart' hl
    refine wpAny_ite_false (decide_eq_false (by rw [g0]; exact Bool.false_ne_true)) ?_
    wp_walk using wpAny_loadPart' hl
    exact ⟨_, rfl, h⟩
theorem mul_nothing (l : Addr) (items : Array Value) (n : Nat) (dd : Option Addr) (sl : Array (Option Value)) (x : Int) (u : Tok) (g0 : (decide (x < -(2 ^ 63)) || decide (x ≥ 2 ^ 63)) = false) (g1 : (items.isEmpty || x == 1) = false) (g2 : (decide (x ≤ 0) || items.isEmpty) = true) :
    Meets (Builtin.«tuple.__mul__» ⟨[.ref l, .int x u], []⟩) (fun _ R s => s.heap.get? l = some { cls := .type "tuple", dict := dd, data := .seq items n, slots := sl } ∧
      R (.ok (.ret (Value.ref s.heap.objs.size))) { s with heap := s.heap.push { cls := Value.type "tuple", data := Data.seq #[] }, toks := s.toks }) :=
  .of_wp fun prog w A R s h => by
    obtain ⟨hp, g, d, tk, os⟩ := s
    obtain ⟨hl, h⟩ := h
    have f1 := AutoSeq1.idx_int
    wp_walk using wpAny_loadPart' hl
    refine wpAny_ite_false (decide_eq_false (by simp only [g0]; decide)) ?_
    wp_walk using wpAny_loadPart' hl
    exact ⟨_, rfl, h⟩
theorem flat_size (its : List Value) (m : Nat) : (List.replicate m its).flatten.length = m * its.length := by
  induction m with
  | zero => simp
  | succ m ih => rw [List.replicate_succ, List.flatten_cons, List.length_append, ih, Nat.succ_mul, Nat.add_comm]
theorem opR_mul : OpR X (binaryOp .Mult) (rD X.K mulD) := by
  intro pins s σ H x y v u Q I rx ry h
  obtain ⟨O, A, B, σ', ρ, st, T, a, b, fr, d, R, hx, hy, e, q⟩ := h
  cases a with
  | int i =>
    cases b with
    | int j =>
      cases hx; cases hy
      simp only [mulD] at e
      split at e
      · rename_i hl
        cases e
        exact op_mulW pins s σ H _ _ v u Q I rx ry ⟨i, j, rfl, rfl, CMulW_of hl.1 hl.2, q _ _ _ _ (Px.refl _) (Ex.refl _) (.val R (.int _))⟩
      · cases e
    | _ => cases e
  | lst xs =>
    cases b with
    | int k =>
      simp only [mulD] at e
      split at e
      · rename_i hl
        obtain ⟨h1, h2, h3⟩ := hl
        cases e
        obtain ⟨a1, rfl⟩ := hx.isLst
        cases hy
        obtain ⟨vs, _, g1, g2⟩ := hx.lstH R.ex
        exact op_rep pins s σ H _ _ v u Q I rx ry ⟨a1, k, vs, rfl, rfl, g1, by omega, by omega, by rw [g2.length]; exact lim_le h3, fun p hp => q _ _ _ _ (Px.refl _) (Ex.refl _) (.new R hp (g2.replicate _))⟩
      · cases e
    | _ => cases e
  | tup xs =>
    cases b with
    | int k =>
      simp only [mulD] at e
      split at e
      · rename_i hl
        obtain ⟨b1, b2, b3⟩ := hl
        cases e
        obtain ⟨a1, rfl⟩ := hx.isTup
        cases hy
        obtain ⟨vs, g1, g2⟩ := hx.tupH R.ex
        cases rx
        obtain ⟨t, rfl⟩ := ry
        obtain ⟨its, r, ⟨⟨cls, dd, data, sl⟩, ho, hc, n, hd⟩, hs⟩ := I.tuple g1
        simp only at hc hd
        subst hc hd
        have hle : its.length = xs.length := by rw [← g2.length]; exact r.length.symm
        have c0 : (decide (k < -(2 ^ 63)) || decide (k ≥ 2 ^ 63)) = false := by
          rw [Bool.or_eq_false_iff]; exact ⟨decide_eq_false (by omega), decide_eq_false (by omega)⟩
        -- the road to the method
        refine wpAny_binaryOp_repeat_ref (T := "tuple") (U := "int") (by decide) ⟨_, ho, rfl⟩ (fun s' => typeIs_int s' k t) noFill_tuple_mul F.fills_int_mul F.slot_int_rmul repeat_tuple F.slot_int_index.lookup
          (call_meets F.slot_int_rmul (typeIs_int s k t) F.entry_int_rmul (F.args_int_rmul_2 _ _) (int_rmul_tuple k t a1 its.toArray n dd sl) ⟨ho, rfl, ⟨_, ho, rfl⟩, ?_⟩)
        by_cases c1 : (its.toArray.isEmpty || k == 1) = true
        · refine call_meets F.slot_tuple_mul ⟨_, ho, rfl⟩ F.entry_tuple_mul (F.args_tuple_mul_2 _ _) (mul_same a1 its.toArray n dd sl k t c0 c1) ⟨ho, ?_⟩
          refine ⟨.ref a1, H, I, rfl, q _ _ _ _ (Px.refl _) (Ex.refl _) (.val R ?_)⟩
          rw [Bool.or_eq_true] at c1
          rcases c1 with c1 | c1
          · have : its = [] := by simpa using c1
            rw [this] at hle
            have : xs = [] := List.length_eq_zero_iff.mp hle.symm
            subst this
            simpa using hx
          · have : k = 1 := by simpa using c1
            subst this
            simpa using hx
        · have c1 : (its.toArray.isEmpty || k == 1) = false := by simpa using c1
          by_cases c2 : (decide (k ≤ 0) || its.toArray.isEmpty) = true
          · refine call_meets F.slot_tuple_mul ⟨_, ho, rfl⟩ F.entry_tuple_mul (F.args_tuple_mul_2 _ _) (mul_nothing a1 its.toArray n dd sl k t c0 c1 c2) ⟨ho, ?_⟩
            have k0 : k ≤ 0 := by
              rw [Bool.or_eq_true] at c2
              rw [Bool.or_eq_false_iff] at c1
              rcases c2 with c2 | c2
              · exact of_decide_eq_true c2
              · rw [c1.1] at c2; cases c2
            have e0 : (List.replicate k.toNat xs).flatten = [] := by
              rw [show k.toNat = 0 by omega]; rfl
            have hn : H s.heap.objs.size = none := I.hok.fresh (Nat.le_refl _)
            refine ⟨.ref s.heap.objs.size, _, I.laid (t' := s.toks) (o := .frz { cls := .type "tuple", data := .seq #[] } (.tup [])) (fun b ob q => Heap.get?_push_of_some _ q) (Nat.le_refl _) ?_, rfl, q _ A _ _ (Px.refl _) (Ex.new (R.bfresh hn)) (by rw [e0]; exact .tup R hn rfl .nil)⟩
            exact ⟨Heap.get?_push_size _ rfl, Nat.zero_le _, [], .nil, IsTup.new _ _⟩
          · have c2 : (decide (k ≤ 0) || its.toArray.isEmpty) = false := by simpa using c2
            have k1 : 0 < k := by
              rw [Bool.or_eq_false_iff] at c2
              have := of_decide_eq_false c2.1
              omega
            have hsz0 : its.toArray.size = xs.length := by rw [List.size_toArray, hle]
            have hmul : ((its.toArray.size : Nat) : Int) * k ≤ 16000000 := by
              have b3' : xs.length * k.toNat ≤ 16000000 := b3
              have ek : k = ((k.toNat : Nat) : Int) := by omega
              rw [hsz0, ek, ← Int.natCast_mul]
              exact Int.ofNat_le.mpr b3'
            have flen : (List.replicate k.toNat its).flatten.length ≤ sizeLine := by
              rw [flat_size, hle, Nat.mul_comm]; exact lim_le b3
            have c4 : Builtin.Tuple.tupleTooMany (((its.toArray.size : Nat) : Int) * k) = false := by
              unfold Builtin.Tuple.tupleTooMany
              rw [sizeLine_eq]
              exact decide_eq_false (by omega)
            refine call_meets F.slot_tuple_mul ⟨_, ho, rfl⟩ F.entry_tuple_mul (F.args_tuple_mul_2 _ _) (tuple_mulW a1 its.toArray n dd sl k t c0 c1 c2 (by omega) c4 (by rw [size_rep, List.size_toArray]; exact flen)) ⟨ho, ?_⟩
            rw [size_rep]
            have hn : H s.heap.objs.size = none := I.hok.fresh (Nat.le_refl _)
            refine ⟨.ref s.heap.objs.size, _, I.laid (t' := s.toks) (o := .frz { cls := .type "tuple", data := .seq (List.replicate k.toNat its).flatten.toArray } (.tup (List.replicate k.toNat vs).flatten)) (fun b ob q => Heap.get?_push_of_some _ q) (Nat.le_refl _) ?_, rfl, q _ A _ _ (Px.refl _) (Ex.new (R.bfresh hn)) (.tup R hn rfl (g2.replicate _))⟩
            exact ⟨Heap.get?_push_size _ rfl, by rw [(r.rep k.toNat).length]; exact flen, _, r.rep k.toNat, IsTup.new _ _⟩
      · cases e
    | _ => cases e
  | _ => cases b <;> cases e
theorem opR_all (o : Operator) : OpR X (binaryOp o) (rD X.K (opD o)) := by
  cases o with
  | Add => exact opR_add
  | Mult => exact opR_mul
  | Sub =>
    intro pins s σ H x y v u Q I rx ry h
    obtain ⟨O, A, B, σ', ρ, st, T, a, b, fr, d, R, hx, hy, e, q⟩ := h
    cases a with
    | int i =>
      cases b with
      | int j =>
        cases hx; cases hy; cases e
        exact op_sub pins s σ H _ _ v u Q I rx ry ⟨i, j, rfl, rfl, q _ _ _ _ (Px.refl _) (Ex.refl _) (.val R (.int _))⟩
      | _ => cases e
    | _ => cases b <;> cases e
  | FloorDiv =>
    intro pins s σ H x y v u Q I rx ry h
    obtain ⟨O, A, B, σ', ρ, st, T, a, b, fr, d, R, hx, hy, e, q⟩ := h
    cases a with
    | int i =>
      cases b with
      | int j =>
        cases hx; cases hy
        simp only [opD] at e
        split at e
        · rename_i hl
          cases e
          exact op_fdivW pins s σ H _ _ v u Q I rx ry ⟨i, j, rfl, rfl, hl, q _ _ _ _ (Px.refl _) (Ex.refl _) (.val R (.int _))⟩
        · cases e
      | _ => cases e
    | _ => cases b <;> cases e
  | Mod =>
    intro pins s σ H x y v u Q I rx ry h
    obtain ⟨O, A, B, σ', ρ, st, T, a, b, fr, d, R, hx, hy, e, q⟩ := h
    cases a with
    | int i =>
      cases b with
      | int j =>
        cases hx; cases hy
        simp only [opD] at e
        split at e
        · rename_i hl
          cases e
          exact op_mod pins s σ H _ _ v u Q I rx ry ⟨i, j, rfl, rfl, hl, q _ _ _ _ (Px.refl _) (Ex.refl _) (.val R (.int _))⟩
        · cases e
      | _ => cases e
    | _ => cases b <;> cases e
  | Pow =>
    intro pins s σ H x y v u Q I rx ry h
    obtain ⟨O, A, B, σ', ρ, st, T, a, b, fr, d, R, hx, hy, e, q⟩ := h
    cases a with
    | int i =>
      cases b with
      | int j =>
        cases hx; cases hy
        simp only [opD] at e
        split at e
        · rename_i hl
          cases e
          refine op_pow pins s σ H _ _ v u Q I rx ry ⟨i, j, rfl, rfl, ⟨hl.1, hl.2.1, by have := hl.2.2; omega⟩, q _ _ _ _ (Px.refl _) (Ex.refl _) (.val R (.int _))⟩
        · cases e
      | _ => cases e
    | _ => cases b <;> cases e
  | _ =>
    intro pins s σ H x y v u Q I rx ry h
    obtain ⟨O, A, B, σ', ρ, st, T, a, b, fr, d, R, hx, hy, e, q⟩ := h
    cases a <;> cases b <;> cases e
end
end Pv

/-! sorted of lists and tuples of alike data, empty tuples among them -/
namespace Pv
open PySem PySem.W PySem.SeqAt PySem.Calls PyProof.Rows
theorem keyLt'_general (x y : Value) : keyLt' general' x y = oneLt' false x y := rfl
section
variable {prog : Program} {w : World} {A : Around} {E : Value → Shared → Prop} {s : Shared}
theorem call_tuple_lt {Q : Value → Shared → Prop} {l b : Addr} {items items2 : Array Value} {e r : Nat → Bool} (hl : s.heap.IsTuple l items) (hb : s.heap.IsTuple b items2)
    (he : ∀ j (h1 : j < items.size) (h2 : j < items2.size), EqAt A.in1 s items[j] items2[j] (e j)) (hr : ∀ j (h1 : j < items.size) (h2 : j < items2.size), e j = false → RcLt A.in1 s items[j] items2[j] (r j))
    (h : Q (.bool (firstLt e r (decide (items.size < items2.size)) (List.range (min items.size items2.size)))) s) : wpAny (model prog w) A (call (.builtin "tuple.__lt__") [.ref l, .ref b]) Q E s := by
  obtain ⟨⟨cls, dd, data, sl⟩, ho, hc, n, hd⟩ := id hl
  obtain ⟨⟨cls2, dd2, data2, sl2⟩, ho2, hc2, n2, hd2⟩ := id hb
  simp only at hc hd hc2 hd2
  subst hc hd hc2 hd2
  exact call_meets F.slot_tuple_lt ⟨_, ho, rfl⟩ F.entry_tuple_lt (F.args_tuple_lt_2 _ _) (tuple_ltAt l b items items2 n n2 dd dd2 sl sl2 e r)
    ⟨ho, ho2, he, hr, h⟩
/-- tuples, by their own __lt__ -/
theorem oneLt_tuple {a b : Value} {as bs : List Addr} {xs ys : List PyData} {Q : Bool → Shared → Prop} (ra : Reads s.heap a (.tuple xs) as) (rb : Reads s.heap b (.tuple ys) bs) (hal : alikeAll xs ys = true)
    (hu : A.units + min (PyData.tuple xs).depth (PyData.tuple ys).depth < cLine) (hq : Q (dataLt (.tuple xs) (.tuple ys)) s) : wpAny (model prog w) A (oneLt' true a b) Q E s := by
  cases ra with
  | @tuple l o vs n _ as₁ h1 h2 h3 h4 =>
    cases rb with
    | @tuple l' o' vs' n' _ bs₁ k1 k2 k3 k4 =>
      have n1 : vs.size = xs.length := by simpa using SeqAt.ReadsAll.length _ _ _ h4
      have n2 : vs'.size = ys.length := by simpa using SeqAt.ReadsAll.length _ _ _ k4
      rw [dataLt_tuple, ← firstLt_toks xs ys hal, ← n1, ← n2] at hq
      rw [oneLt'_eq]
      simp only [if_true]
      refine wpAny_bind (wpAny_cRoomFor (room_here hu) ?_)
      refine wpAny_bind (wpAny_callSpecialIfBound?_slot (T := "tuple") ⟨_, h1, h2⟩ F.slot_tuple_lt (call_tuple_lt (e := pairEq xs ys) (r := fun j => dataLt (xs.getD j .none) (ys.getD j .none)) ⟨_, h1, h2, _, h3⟩ ⟨_, k1, k2, _, k3⟩ (fun j j1 j2 => ?_) (fun j j1 j2 hj => ?_) ?_))
      · have := eqAt_alikeAll xs ys A.in1 s vs.toList vs'.toList _ _ h4 k4 hal (room_in hu) j (by simpa using j1) (by simpa using j2)
        simpa using this
      · have := rcLt_alikeAll xs ys A.in1 s vs.toList vs'.toList _ _ h4 k4 hal (room_in hu) j (by simpa using j1) (by simpa using j2) hj
        simpa using this
      · exact wpAny_truthy_bool hq
/-- what stands first in a tuple -/
def FirstT (h : Heap) (v : Value) (f : Option Value) : Prop := ∃ a o xs n, v = .ref a ∧ h.get? a = some o ∧ o.cls = .type "tuple" ∧ o.data = .seq xs n ∧ xs[0]? = f
theorem firsts_each : ∀ {vs : List Value} {fs : List (Option Value)} {Q : List (Option Value) → Shared → Prop}, EachIs (FirstT s.heap) vs fs → Q fs s → wpAny (model prog w) A (vs.mapM firstOfTuple') Q E s
  | _, _, _, .nil, h => by rw [List.mapM_nil]; exact wpAny_pure h
  | _, _, Q, .cons (a := v) (b := f) x t, h => by
    obtain ⟨a, o, xs, n, rfl, ho, hc, hd, hf⟩ := x
    rw [List.mapM_cons]
    refine wpAny_bind ?_
    rw [kas_first_eq]
    refine wpAny_bind (Looks.here (show Looks (model prog w) s.heap (typeOf (.ref a)) o.cls from (Looks.ld ho).andThen .now) ?_)
    rw [hc, if_neg (by first | decide | simp)]
    refine wpAny_bind (listItems_at ho hd (wpAny_pure ?_))
    rw [hf]
    exact wpAny_bind (firsts_each (Q := fun bs s' => wpAny (model prog w) A (pure (f :: bs)) Q E s') t (wpAny_pure h))
/-- the kind of keys that are tuples, an empty one among them -/
def kindE (fs : List (Option Value)) : SortKind := if (fs[0]?.bind id).isSome = true then general' else oneType'
theorem kind_each {vs : List Value} {fs : List (Option Value)} {Q : SortKind → Shared → Prop} (e : EachIs (FirstT s.heap) vs fs) (h2 : 2 ≤ vs.length) (hno : (fs.all fun f => f.isSome) = false) (hq : Q (kindE fs) s) :
    wpAny (model prog w) A (keyKind' vs.toArray) Q E s := by
  rw [keyKind'_eq, List.mapM_toArray, map_eq_pure_bind]
  refine wpAny_bind (wpAny_bind (firsts_each e (wpAny_pure ?_)))
  have hall : ¬ (fs.toArray.all fun x => x.isSome) = true := by rw [List.all_toArray, hno]; simp
  rw [if_neg hall]
  have e0 : (fs.toArray[0]?.bind id).isSome = (fs[0]?.bind id).isSome := by simp
  unfold kindE at hq
  by_cases hf : (fs[0]?.bind id).isSome = true
  · rw [if_pos hf] at hq
    rw [if_pos (by rw [e0]; exact hf)]
    exact wpAny_pure hq
  · rw [if_neg hf] at hq
    rw [if_neg (by rw [e0]; exact hf)]
    rw [oneTypeOnly'_eq, List.mapM_toArray, map_eq_pure_bind]
    have tys : ∀ v ∈ vs, Looks (model prog w) s.heap (typeOf v) (.type "tuple") := fun v hv => by
      obtain ⟨f, _, a, o, xs, n, rfl, ho, hc, _, _⟩ := e.left v hv
      exact hc ▸ (Looks.ld ho).andThen .now
    refine wpAny_bind (wpAny_bind (wpAny_bind (kas_mapM (r := .type "tuple") _ (fun v hv Q' hq => (tys v hv).here hq) (wpAny_pure ?_))))
    have hall2 : ((List.map (fun _ => Value.type "tuple") vs).toArray.all fun x => x == Value.type "tuple") = true := by
      simp only [List.all_toArray, List.all_map, List.all_eq_true]
      intro _ _
      exact beq_self_eq_true _
    have h0 : (List.map (fun _ => Value.type "tuple") vs).toArray[0]? = some (Value.type "tuple") := by
      cases vs with
      | nil => simp at h2
      | cons v vs => simp
    rw [h0]
    simp only [hall2, if_true]
    exact wpAny_pure (wpAny_pure hq)
theorem each_first {h : Heap} : ∀ {vs : List Value} {ds : List PyData}, EachIs (fun v d => ∃ as, Reads h v d as) vs ds → (∀ d, d ∈ ds → ∃ xs, d = .tuple xs) → ∃ fs, EachIs (FirstT h) vs fs ∧ ((∃ d ∈ ds, d = .tuple []) → (fs.all fun f => f.isSome) = false)
  | _, _, .nil, _ => ⟨[], .nil, fun ⟨d, hd, _⟩ => by cases hd⟩
  | _, _, .cons (b := d) ⟨as, r⟩ t, ht => by
    obtain ⟨fs, h1, h2⟩ := each_first t fun d hd => ht d (List.mem_cons_of_mem _ hd)
    obtain ⟨xs, rfl⟩ := ht d List.mem_cons_self
    cases r with
    | @tuple a o vs n _ _ ho hc hd hr =>
      refine ⟨vs[0]? :: fs, .cons ⟨a, o, vs, n, rfl, ho, hc, hd, rfl⟩ h1, fun ⟨d, hd, e⟩ => ?_⟩
      rw [List.all_cons]
      rcases List.mem_cons.mp hd with rfl | hd
      · cases e
        have n1 : vs.size = 0 := by simpa using SeqAt.ReadsAll.length _ _ _ hr
        have : vs[0]? = none := Array.getElem?_eq_none (by omega)
        rw [this]; rfl
      · rw [h2 ⟨d, hd, e⟩, Bool.and_false]
theorem sortsTups {vs : List Value} {ds : List PyData} (e : EachIs (fun v d => ∃ as, Reads s.heap v d as) vs ds) (hal : AllAlike ds) (ht : ∀ d, d ∈ ds → ∃ xs, d = .tuple xs) (hu : ∀ d, d ∈ ds → A.units + d.depth < cLine) : SortsAt prog w A s (dataKind s.heap ds) vs := by
  by_cases hne : ∃ d ∈ ds, d = .tuple []
  · obtain ⟨fs, h1, h2⟩ := each_first e ht
    refine ⟨fun v hv => ?_, kindE fs, ?_, fun hl E Q hq => kind_each h1 hl (h2 hne) hq⟩
    · obtain ⟨d, hd, as, r⟩ := e.left v hv
      exact ⟨_, dataKind_some hal hd r⟩
    · intro E x y a b Q ha hb hq
      obtain ⟨d, as, hd, ra, rfl⟩ := dataKind_inv ha
      obtain ⟨d', as', hd', rb, rfl⟩ := dataKind_inv hb
      have hdd := hal d hd d' hd'
      have hroom : A.units + min d.depth d'.depth < cLine := Nat.lt_of_le_of_lt (Nat.add_le_add_left (Nat.min_le_left _ _) _) (hu d hd)
      obtain ⟨xs, rfl⟩ := ht d hd
      obtain ⟨ys, rfl⟩ := ht d' hd'
      have hal' : alikeAll xs ys = true := by simpa [alike] using hdd
      unfold kindE
      split
      · rw [keyLt'_general]
        exact oneLt_alike (fun z => by cases z) ra rb hdd (fun z => by cases z) hroom hq
      · rw [keyLt'_oneType]
        exact oneLt_tuple ra rb hal' hroom hq
  · refine SortsAt.data e hal (.inl fun d hd => ?_) hu
    obtain ⟨xs, rfl⟩ := ht d hd
    cases xs with
    | nil => exact absurd ⟨_, hd, rfl⟩ hne
    | cons x r => exact ⟨x, r, rfl⟩
/-- all are tuples, or none is a tuple or None -/
def Sortab (ds : List PyData) : Prop := (∀ d, d ∈ ds → ∃ xs, d = .tuple xs) ∨ ∀ d, d ∈ ds → d ≠ .none ∧ ∀ xs, d ≠ .tuple xs
theorem sortsAny {vs : List Value} {ds : List PyData} (e : EachIs (fun v d => ∃ as, Reads s.heap v d as) vs ds) (hal : AllAlike ds) (ht : Sortab ds) (hu : ∀ d, d ∈ ds → A.units + d.depth < cLine) : SortsAt prog w A s (dataKind s.heap ds) vs := by
  rcases ht with h | h
  · exact sortsTups e hal h hu
  · exact SortsAt.data e hal (.inr h) hu
theorem collect_tup {l : Addr} {vs : List Value} {Q : List Value → Shared → Prop} (hl : s.heap.IsTuple l vs.toArray)
    (h : Q vs { s with heap := (s.heap.push (seqObj "list" #[] 0)).update s.heap.objs.size (Obj.mapSeq (· ++ vs.toArray)) }) (hsz : vs.length ≤ sizeLine) :
    wpAny (model prog w) A (collect (.ref l)) Q E s := by
  obtain ⟨o, ho, hc, n, hd⟩ := id hl
  unfold collect
  refine wpAny_bind (wpAny_runValue (codeAny_builtin entry_proto_collect' ?_))
  show wpAny _ _ (do again (.builtin "list.__iadd__" ⟨[← newList [], .ref l], []⟩)) _ _ s
  refine wpAny_bind (wpAny_newList (wpAny_pure ⟨Code.quiet_builtin _ (by decide +kernel), codeAny_builtin entry_list_iadd' ?_⟩))
  show wpAny _ _ (Builtin.List.listExtendWith (.ref s.heap.objs.size) (.ref l) (.ref s.heap.objs.size)) _ _ { s with heap := s.heap.push (seqObj "list" #[] 0) }
  unfold Builtin.List.listExtendWith
  have ho' : (s.heap.push (seqObj "list" #[] 0)).get? l = some o := Heap.get?_push_of_some _ ho
  refine wpAny_bind (wpAny_typeOf (T := "tuple") ⟨o, ho', hc⟩ ?_)
  have ht : (Value.type "tuple" == Value.type "tuple") = true := by rfl
  rw [if_pos (by rw [ht]; simp)]
  refine wpAny_bind (listItems_at ho' hd ?_)
  refine wpAny_bind (listItems_at (xs := #[]) (n := 0) (Heap.get?_push_size _ rfl) rfl ?_)
  rw [if_neg (by simp)]
  refine wpAny_bind (listUpdate_at (xs := #[]) (n := 0) (Heap.get?_push_size _ rfl) rfl ?_ (Nat.zero_le _) (by show (#[] ++ vs.toArray).size ≤ sizeLine + 1; simp only [Array.size_append, List.size_toArray, List.length_nil]; omega))
  refine wpAny_pure ?_
  show wpAny (model prog w) A (do
      let o ← load s.heap.objs.size
      match o.data with
      | .seq xs _ => pure xs.toList
      | _ => unsupported "internal:collect") Q E { s with heap := (s.heap.push (seqObj "list" #[] 0)).update s.heap.objs.size (Obj.mapSeq (· ++ vs.toArray)) }
  refine wpAny_bind (wpAny_load (get?_update_seq (Heap.get?_push_size _ rfl) _) ?_)
  show wpAny _ _ (pure ((#[] : Array Value) ++ vs.toArray).toList) Q E _
  rw [show ((#[] : Array Value) ++ vs.toArray).toList = vs by simp]
  exact wpAny_pure h
/-- sorted(x) of a list or a tuple is list.sort() on a new list of its items -/
theorem sorted_sq {κ : PyProof.Rows.KeyKind} {l : Addr} {vs : List Value} {Q : Value → Shared → Prop} (hl : s.heap.IsList l vs.toArray ∨ s.heap.IsTuple l vs.toArray) (S : SortsAt prog w A.in1.in1 { s with heap := sortingHeap (copyHeap s.heap vs) (s.heap.objs.size + 1) vs } κ vs) (hL : vs.length ≤ sizeLine)
    (h : Q (.ref (s.heap.objs.size + 1)) { s with heap := sortedAll s.heap vs (sortVals κ false vs vs).toArray }) : wpAny (model prog w) A (call (.builtin "sorted") [.ref l]) Q E s := by
  refine call_function_entry_kw kind_sorted plain_sorted entry_sorted (args_sorted1 _) ?_
  unfold Builtin.«sorted»
  refine wpAny_bind (m := checkCount "sorted" 1 1 _) (wpAny_pure ?_)
  have go : wpAny (model prog w) A.in1 (collect (.ref l)) (fun items s' => items = vs ∧ s' = { s with heap := (s.heap.push (seqObj "list" #[] 0)).update s.heap.objs.size (Obj.mapSeq (· ++ vs.toArray)) }) (fun _ _ => False) s := by
    rcases hl with hl | hl
    · exact collect_list hl ⟨rfl, rfl⟩ hL
    · exact collect_tup hl ⟨rfl, rfl⟩ hL
  refine wpAny_bind (wpAny_mono go (fun items s' hi => ?_) fun _ _ z => z.elim)
  obtain ⟨rfl, rfl⟩ := hi
  refine wpAny_bind (wpAny_newList ?_ hL)
  have hsz : ((s.heap.push (seqObj "list" #[] 0)).update s.heap.objs.size (Obj.mapSeq (· ++ items.toArray))).objs.size = s.heap.objs.size + 1 := by
    rw [Heap.size_update, size_push']
  show wpAny _ _ _ _ _ { s with heap := copyHeap s.heap items }
  rw [hsz]
  refine wpAny_bind (wpAny_holding (wpAny_call_entry_kw slot_list_sort ⟨_, copyHeap_at s.heap items, rfl⟩ entry_list_sort ?body (args_list_sort _)))
  case body =>
    show wpAny (model prog w) A.in1.in1 (Builtin.«list.sort» ⟨[.ref (s.heap.objs.size + 1)], []⟩) _ _ _
    refine wpAny_mono (list_sort_vals (E := fun _ _ => False) (P := fun f s' => f = .done (.ret .none) ∧ Q (.ref (s.heap.objs.size + 1)) s') (s := { s with heap := copyHeap s.heap items }) (copyHeap_at s.heap items) S hL ⟨rfl, h⟩) (fun f s' hf => ?_) fun _ _ e => e.elim
    obtain ⟨rfl, hq⟩ := hf
    exact ⟨_, rfl, wpAny_pure ⟨_, rfl, hq⟩⟩
/-- sorted(x) of data -/
theorem sorted_dat {β : Type} {R : Value → β → Prop} {enc : β → PyData} {l : Addr} {vs : List Value} {bs : List β} {Q : Value → Shared → Prop} (hl : s.heap.IsList l vs.toArray ∨ s.heap.IsTuple l vs.toArray) (e : EachIs R vs bs) (er : EachIs (fun v b => ∃ as, Reads s.heap v (enc b) as) vs bs) (hal : AllAlike (bs.map enc)) (hk : Sortab (bs.map enc)) (hL : bs.length ≤ sizeLine)
    (hu : ∀ b, b ∈ bs → A.units + 2 + (enc b).depth < cLine) (h : ∀ out, out.length = bs.length → EachIs R out (bs.mergeSort (dataLe false enc)) → Q (.ref (s.heap.objs.size + 1)) { s with heap := sortedAll s.heap vs (List.toArray out) }) :
    wpAny (model prog w) A (call (.builtin "sorted") [.ref l]) Q E s := by
  have er' : EachIs (fun v b => ∃ as, Reads (sortingHeap (copyHeap s.heap vs) (s.heap.objs.size + 1) vs) v (enc b) as) vs bs := er.mono fun _ _ ⟨as, r⟩ => ⟨as, PyProof.Rows.Reads.keeps (fun _ _ => sorting_copy_old) r⟩
  exact sorted_sq hl (sortsAny (s := { s with heap := sortingHeap (copyHeap s.heap vs) (s.heap.objs.size + 1) vs }) (each_map (R := fun v d => ∃ as, Reads (sortingHeap (copyHeap s.heap vs) (s.heap.objs.size + 1) vs) v d as) enc er') hal hk (bound_map hu)) (by rw [e.length]; exact hL)
    (h _ (by rw [sortVals_length false rfl]; exact e.length) (sortVals_data false e er' hal))
end
end Pv

namespace Pv
open PySem PySem.Spec PySem.W PyProof.Rows L2
/-! ## the order of data -/
mutual
theorem py_al : ∀ (a b : D), (∃ n, sh n a = true) → (∃ n, sh n b = true) → alD a b = true → alike (py a) (py b) = true
  | .bl _, b, _, _, h => by cases b <;> first | rfl | simp [alD] at h
  | .int _, b, _, _, h => by cases b <;> first | rfl | simp [alD] at h
  | .str _, b, _, _, h => by cases b <;> first | rfl | simp [alD] at h
  | .tup xs, b, ⟨n, ha⟩, ⟨m, hb⟩, h => by
    cases b with
    | tup ys =>
      cases n with
      | zero => simp [sh] at ha
      | succ n =>
        cases m with
        | zero => simp [sh] at hb
        | succ m =>
          simp only [alD] at h
          show alikeAll (pyL xs) (pyL ys) = true
          exact pyL_al xs ys (fun x hx => ⟨n, by simp [sh] at ha; exact ha x hx⟩) (fun x hx => ⟨m, by simp [sh] at hb; exact hb x hx⟩) h
    | _ => simp [alD] at h
  | .lst xs, b, ⟨n, ha⟩, ⟨m, hb⟩, h => by
    cases b with
    | lst ys =>
      cases n with
      | zero => simp [sh] at ha
      | succ n =>
        cases m with
        | zero => simp [sh] at hb
        | succ m =>
          simp only [alD] at h
          show alikeAll (pyL xs) (pyL ys) = true
          exact pyL_al xs ys (fun x hx => ⟨n, by simp [sh] at ha; exact ha x hx⟩) (fun x hx => ⟨m, by simp [sh] at hb; exact hb x hx⟩) h
    | _ => simp [alD] at h
  | .non, b, _, _, h => by cases b <;> simp [alD] at h
  | .scr _, b, _, _, h => by cases b <;> simp [alD] at h
  | .hd _, b, _, _, h => by cases b <;> simp [alD] at h
theorem pyL_al : ∀ (xs ys : List D), (∀ x ∈ xs, ∃ n, sh n x = true) → (∀ y ∈ ys, ∃ n, sh n y = true) → alL xs ys = true → alikeAll (pyL xs) (pyL ys) = true
  | [], _, _, _, _ => by simp [pyL, alikeAll]
  | _ :: _, [], _, _, _ => by simp [pyL, alikeAll]
  | x :: xs, y :: ys, h1, h2, h => by
    simp only [alL, Bool.and_eq_true] at h
    show (alike (py x) (py y) && alikeAll (pyL xs) (pyL ys)) = true
    rw [py_al x y (h1 x List.mem_cons_self) (h2 y List.mem_cons_self) h.1, pyL_al xs ys (fun z hz => h1 z (List.mem_cons_of_mem _ hz)) (fun z hz => h2 z (List.mem_cons_of_mem _ hz)) h.2]; rfl
end
theorem b2i_if (a : Bool) : b2i a = (if a then 1 else 0 : Int) := by cases a <;> rfl
mutual
theorem py_lt : ∀ (a b : D) (n m : Nat), sh n a = true → sh m b = true → alD a b = true → dataLt (py a) (py b) = ltD a b
  | .bl _, b, _, _, _, _, h => by
    cases b with
    | bl c => simp only [py, dataLt_bool, b2i_if, ltD]
    | _ => simp [alD] at h
  | .int _, b, _, _, _, _, h => by
    cases b with
    | int c => simp only [py, dataLt_int, ltD]
    | _ => simp [alD] at h
  | .str _, b, _, _, _, _, h => by
    cases b with
    | str c => simp only [py, dataLt_str, ltD]
    | _ => simp [alD] at h
  | .tup xs, b, n, m, ha, hb, h => by
    cases b with
    | tup ys =>
      cases n with
      | zero => simp [sh] at ha
      | succ n =>
        cases m with
        | zero => simp [sh] at hb
        | succ m =>
          simp only [alD] at h
          simp only [py, dataLt_tuple, ltD]
          exact pyL_lt xs ys n m (by simpa [sh] using ha) (by simpa [sh] using hb) h
    | _ => simp [alD] at h
  | .lst xs, b, n, m, ha, hb, h => by
    cases b with
    | lst ys =>
      cases n with
      | zero => simp [sh] at ha
      | succ n =>
        cases m with
        | zero => simp [sh] at hb
        | succ m =>
          simp only [alD] at h
          simp only [py, dataLt_list, ltD]
          exact pyL_lt xs ys n m (by simpa [sh] using ha) (by simpa [sh] using hb) h
    | _ => simp [alD] at h
  | .non, b, _, _, _, _, h => by cases b <;> simp [alD] at h
  | .scr _, b, _, _, _, _, h => by cases b <;> simp [alD] at h
  | .hd _, b, _, _, _, _, h => by cases b <;> simp [alD] at h
theorem pyL_lt : ∀ (xs ys : List D) (n m : Nat), (∀ x ∈ xs, sh n x = true) → (∀ y ∈ ys, sh m y = true) → alL xs ys = true → PyProof.Rows.lexLt itemOrd (keyToksAll (pyL xs)) (keyToksAll (pyL ys)) = ltL xs ys
  | xs, [], _, _, _, _, _ => by
    cases xs with
    | nil => simp [pyL, keyToksAll, ltL, PyProof.Rows.lex_irrefl]
    | cons x xs =>
      simp only [ltL, pyL, toks_all_cons, keyToksAll]
      rw [lex_diff (by simp)]
      rfl
  | [], y :: ys, _, _, _, _, _ => by
    simp only [ltL, pyL, toks_all_cons, keyToksAll]
    rw [lex_diff (by simp)]
    rfl
  | x :: xs, y :: ys, n, m, h1, h2, h => by
    simp only [alL, Bool.and_eq_true] at h
    have sx := h1 x List.mem_cons_self
    have sy := h2 y List.mem_cons_self
    have al := py_al x y ⟨n, sx⟩ ⟨m, sy⟩ h.1
    have e := py_eqv x y n m sx sy
    simp only [ltL, pyL]
    by_cases q : eqv x y = true
    · rw [if_pos q, dataLt_all_yes al (by rw [e]; exact q)]
      exact pyL_lt xs ys n m (fun z hz => h1 z (List.mem_cons_of_mem _ hz)) (fun z hz => h2 z (List.mem_cons_of_mem _ hz)) h.2
    · rw [if_neg q, dataLt_all_no al (by rw [e]; simpa using q)]
      exact py_lt x y n m sx sy h.1
end
theorem ordOk_iff {xs : List D} (h : ordOk xs = true) : (∀ x ∈ xs, sh 50 x = true) ∧ (∀ a ∈ xs, ∀ b ∈ xs, alD a b = true) ∧ ((∀ x ∈ xs, isTupB x = true) ∨ ∀ x ∈ xs, isKeyB x = true) := by
  simp only [ordOk, Bool.and_eq_true, Bool.or_eq_true, List.all_eq_true] at h
  exact ⟨h.1.1, h.1.2, h.2⟩
theorem ord_alike {xs : List D} (h : ordOk xs = true) : AllAlike (xs.map py) := fun d hd d' hd' => by
  obtain ⟨a, ha, rfl⟩ := List.mem_map.mp hd
  obtain ⟨b, hb, rfl⟩ := List.mem_map.mp hd'
  obtain ⟨h1, h2, _⟩ := ordOk_iff h
  exact py_al a b ⟨50, h1 a ha⟩ ⟨50, h1 b hb⟩ (h2 a ha b hb)
theorem ord_sortab {xs : List D} (h : ordOk xs = true) : Sortab (xs.map py) := by
  obtain ⟨h1, h2, h3⟩ := ordOk_iff h
  rcases h3 with h3 | h3
  · refine .inl fun d hd => ?_
    obtain ⟨a, ha, rfl⟩ := List.mem_map.mp hd
    have := h3 a ha
    cases a <;> first | exact ⟨_, rfl⟩ | simp [isTupB] at this
  · refine .inr fun d hd => ?_
    obtain ⟨a, ha, rfl⟩ := List.mem_map.mp hd
    have := h3 a ha
    cases a <;> first | (simp [isKeyB] at this; done) | exact ⟨by simp [py], by simp [py]⟩
theorem ord_sort {xs : List D} (h : ordOk xs = true) : xs.mergeSort (dataLe false py) = sortD xs := by
  obtain ⟨h1, h2, _⟩ := ordOk_iff h
  refine sort_congr fun a ha b hb => ?_
  show (!dataLt (py b) (py a)) = leD a b
  rw [py_lt b a 50 50 (h1 b hb) (h1 a ha) (h2 b hb a ha)]; rfl
section
variable {X : Cx} {K : PySem.W.Frag} {A : List Addr} {B H : Hp}
/-- a value is known by its data -/
def IsD (K : PySem.W.Frag) (A : List Addr) (B : Hp) (u : Value) (d : D) : Prop := ∃ x, L2.RelV x u ∧ Ho K A B x d
theorem each_isD : ∀ {vs : List V} {us : List Value} {ds : List D}, Vals vs us → HoL K A B vs ds → EachIs (IsD K A B) us ds
  | _, _, [], r, h => by cases h; cases r; exact .nil
  | _, _, d :: ds, r, h => by
    cases h with | cons h1 h2 =>
    cases r with | cons r1 r2 => exact .cons ⟨_, r1, h1⟩ (each_isD r2 h2)
theorem isD_each : ∀ {us : List Value} {ds : List D}, EachIs (IsD K A B) us ds → ∃ vs, Vals vs us ∧ HoL K A B vs ds
  | _, _, .nil => ⟨[], .nil, .nil⟩
  | _, _, .cons ⟨x, r, h⟩ t => by
    obtain ⟨vs, r2, h2⟩ := isD_each t
    exact ⟨x :: vs, .cons r r2, .cons h h2⟩
theorem reads_each {pins : List (Addr × Obj)} {σ : L2.St} {s : Shared} (I : Inv X pins σ H s) (e : Ex B H) : ∀ {us : List Value} {ds : List D}, EachIs (IsD X.K A B) us ds → (∀ d ∈ ds, sh 50 d = true) → EachIs (fun u d => ∃ as, Reads s.heap u (py d) as) us ds
  | _, _, .nil, _ => .nil
  | _, _, .cons (b := d) ⟨x, r, h⟩ t, hs => .cons (Dp.reads I (py d) x _ (h.dp e d 50 (hs d List.mem_cons_self)) r) (reads_each I e t fun y hy => hs y (List.mem_cons_of_mem _ hy))
theorem py_depth {d : D} {n : Nat} (h : sh n d = true) : (py d).depth ≤ n := (py_lay d n h).2
/-- sorted(x) -/
theorem cr_sorted (hu : X.A.units + 64 < cLine) : CallR X (.builtin "sorted") (fun vs H Q => ∃ (a : Addr) (xs : List V) (A : List Addr) (B : Hp) (ds : List D), vs = [V.ref a] ∧ (SqL X.K H a xs ∨ SqT X.K H a xs) ∧ Ex B H ∧ HoL X.K A B xs ds ∧ ordOk ds = true ∧
    ∀ p ys, H p = none → HoL X.K A B ys (sortD ds) → Q (.ref p) (upd H p (.lst ys))) := by
  intro pins s σ H vs us Q I r h
  obtain ⟨a, xs, A, B, ds, rfl, hs, ex, hx, ok, q⟩ := h
  rw [Vals.ref1 r]
  obtain ⟨h1, _, _⟩ := ordOk_iff ok
  obtain ⟨its, rv, hl, hz⟩ : ∃ its : List Value, Vals xs its ∧ (s.heap.IsList a its.toArray ∨ s.heap.IsTuple a its.toArray) ∧ xs.length ≤ sizeLine := by
    rcases hs with hs | hs
    · obtain ⟨its, rv, pl, hz⟩ := I.list hs
      exact ⟨its, rv, .inl pl.isList, hz⟩
    · obtain ⟨its, rv, pl, hz⟩ := I.tuple hs
      exact ⟨its, rv, .inr pl, hz⟩
  have e := each_isD rv hx
  have hlen : ds.length = xs.length := hx.length.symm
  refine sorted_dat (R := IsD X.K A B) (enc := py) hl e (reads_each I ex e h1) (ord_alike ok) (ord_sortab ok) (by rw [hlen]; exact hz) (fun b hb => ?_) fun out hol ho => ?_
  · have := py_depth (h1 b hb); omega
  · rw [ord_sort ok] at ho
    obtain ⟨ys, r2, h2⟩ := isD_each ho
    obtain ⟨c, hc⟩ := sortedAll_at s.heap its (List.toArray out)
    have hn : H (s.heap.objs.size + 1) = none := I.hok.fresh (Nat.le_succ _)
    have hyl : ys.length ≤ sizeLine := by rw [r2.length, hol, hlen]; exact hz
    exact ⟨.ref (s.heap.objs.size + 1), upd H (s.heap.objs.size + 1) (.lst ys), I.laid (t' := s.toks) (fun _ _ q => sortedAll_old q) (Nat.le_succ _) ⟨hyl, out, c, r2, hc⟩, rfl, q _ ys hn h2⟩
end
end Pv

namespace Pv
open PySem PySem.Spec PyProof.Rows L2

/-! ## comparisons -/
section
variable {X : Cx}
theorem ho_non {K : PySem.W.Frag} {A : List Addr} {B : Hp} {x : V} {a : D} (h : Ho K A B x a) : decide (x = V.non) = (match a with | .non => true | _ => false) := by
  cases h <;> simp
theorem is_bl_other {x : V} {v : Value} {b : Bool} (r : RelV x v) (hx : ∀ c, x ≠ .bl c) (hf : ∀ f, x ≠ .flt f) : plainIs v (.bool b) = true ∧ v ≠ .bool b := by
  cases x with
  | bl c => exact absurd rfl (hx c)
  | non => cases r; exact ⟨rfl, by simp⟩
  | int i => obtain ⟨t, rfl⟩ := r; exact ⟨rfl, by simp⟩
  | str i => obtain ⟨t, rfl⟩ := r; exact ⟨rfl, by simp⟩
  | byt i => obtain ⟨t, rfl⟩ := r; exact ⟨rfl, by simp⟩
  | flt i => obtain ⟨t, rfl⟩ := r; exact ⟨rfl, by simp⟩
  | ref i => cases r; exact ⟨rfl, by simp⟩
  | ty i => cases r; exact ⟨rfl, by simp⟩
theorem ho_notbl {K : PySem.W.Frag} {A : List Addr} {B : Hp} {x : V} {a : D} (h : Ho K A B x a) (ha : ∀ c, a ≠ .bl c) : ∀ c, x ≠ .bl c := by
  intro c e; subst e; cases h; exact ha _ rfl
theorem ho_notflt {K : PySem.W.Frag} {A : List Addr} {B : Hp} {x : V} {a : D} (h : Ho K A B x a) : ∀ c, x ≠ .flt c := by
  intro c e; subst e; cases h
theorem inV_of {K : PySem.W.Frag} {A : List Addr} {B : Hp} {x : V} {a : D} {vs : List V} {ds : List D} (h : Ho K A B x a) (fa : flat a = true) (hl : HoL K A B vs ds) (fl : ds.all flat = true) : inV x vs = ds.any fun y => eqv y a := by
  unfold inV
  induction ds generalizing vs with
  | nil => cases hl; rfl
  | cons d ds ih =>
    cases hl with | cons h1 h2 =>
    rw [all_cons_iff] at fl
    rw [List.any_cons, List.any_cons, ih h2 fl.2, h1.eqV h fl.1 fa]
/-- x in y, deep data -/
def rInD (K : PySem.W.Frag) (neg : Bool) : R2 := fun x y H Q => ∃ (d : D) (ds : List D) (l : Bool), Dp K H x (py d) ∧ Dp K H y (if l then .list (pyL ds) else .tuple (pyL ds)) ∧ sh 50 d = true ∧ ds.all (sh 50) = true ∧ Q (.bl (if neg then !(ds.any fun y => eqv y d) else ds.any fun y => eqv y d)) H
theorem pyL_map : ∀ ds : List D, pyL ds = ds.map py
  | [] => rfl
  | d :: ds => by rw [List.map_cons, ← pyL_map ds]; rfl
theorem any_py {d : D} {ds : List D} (h1 : sh 50 d = true) (h2 : ds.all (sh 50) = true) : ((pyL ds).any fun y => PyData.eqv y (py d)) = ds.any fun y => eqv y d := by
  rw [pyL_map, List.any_map]
  induction ds with
  | nil => rfl
  | cons x xs ih =>
    rw [all_cons_iff] at h2
    rw [List.any_cons, List.any_cons, ih h2.2]
    show (PyData.eqv (py x) (py d) || _) = _
    rw [py_eqv x d 50 50 h2.1 h1]
theorem inD_of {K : PySem.W.Frag} {A : List Addr} {B H : Hp} {x y : V} {a b : D} {ys : List D} {neg : Bool} {Q : VK} (ex : Ex B H) (hx : Ho K A B x a) (hy : (b = .lst ys ∧ Ho K A B y (.lst ys)) ∨ (b = .tup ys ∧ Ho K A B y (.tup ys))) (f1 : sh 50 a = true) (f2 : ys.all (sh 50) = true)
    (q : Q (.bl (if neg then !(ys.any fun y => eqv y a) else ys.any fun y => eqv y a)) H) : rInD K neg x y H Q := by
  rcases hy with ⟨_, hy⟩ | ⟨_, hy⟩
  · exact ⟨a, ys, true, hx.dp ex _ _ f1, hy.dp ex _ 51 (by show ys.all (sh 50) = true; exact f2), f1, f2, q⟩
  · exact ⟨a, ys, false, hx.dp ex _ _ f1, hy.dp ex _ 51 (by show ys.all (sh 50) = true; exact f2), f1, f2, q⟩
theorem in_room {A : Around} {d : D} {ds : List D} (hu : A.units + 64 < cLine) (h1 : sh 50 d = true) : A.units + 1 + min (PyData.depthAll (pyL ds)) (py d).depth < cLine := by
  have := (py_lay d 50 h1).2
  have h2 : min (PyData.depthAll (pyL ds)) (py d).depth ≤ (py d).depth := Nat.min_le_right _ _
  omega
theorem op_inD (hu : X.A.units + 64 < cLine) : OpR X (compareOp .In) (rInD X.K false) := by
  intro pins s σ H x y v u Q I rx ry ⟨d, ds, l, h1, h2, f1, f2, q⟩
  obtain ⟨as, r1⟩ := Dp.reads I _ _ _ h1 rx
  obtain ⟨bs, r2⟩ := Dp.reads I _ _ _ h2 ry
  have c1 := (pyL_lay ds 50 fun e he => List.all_eq_true.mp f2 e he).1
  have c2 := (py_lay d 50 f1).1
  cases l with
  | true => exact SeqAt.in_list_reads r2 r1 c1 c2 (in_room hu f1) (by rw [any_py f1 f2]; exact ⟨.bl _, H, I, rfl, q⟩)
  | false => exact SeqAt.in_tuple_reads r2 r1 c1 c2 (in_room hu f1) (by rw [any_py f1 f2]; exact ⟨.bl _, H, I, rfl, q⟩)
theorem op_notInD (hu : X.A.units + 64 < cLine) : OpR X (compareOp .NotIn) (rInD X.K true) := by
  intro pins s σ H x y v u Q I rx ry ⟨d, ds, l, h1, h2, f1, f2, q⟩
  obtain ⟨as, r1⟩ := Dp.reads I _ _ _ h1 rx
  obtain ⟨bs, r2⟩ := Dp.reads I _ _ _ h2 ry
  have c1 := (pyL_lay ds 50 fun e he => List.all_eq_true.mp f2 e he).1
  have c2 := (py_lay d 50 f1).1
  cases l with
  | true => exact SeqAt.notIn_list_reads r2 r1 c1 c2 (in_room hu f1) (by rw [any_py f1 f2]; exact ⟨.bl _, H, I, rfl, q⟩)
  | false => exact SeqAt.notIn_tuple_reads r2 r1 c1 c2 (in_room hu f1) (by rw [any_py f1 f2]; exact ⟨.bl _, H, I, rfl, q⟩)
theorem opR_cmp (o : CmpOp) (hu : X.A.units + 64 < cLine) : OpR X (compareOp o) (rCm X.K (cmpD o)) := by
  intro pins s σ H x y v u Q I rx ry h
  obtain ⟨A, B, a, b, t, ex, hx, hy, e, q⟩ := h
  have isq : ∀ neg : Bool, ((seqOf b).bind (inDd a)) = some (if neg then !t else t) → rIn X.K neg x y H Q ∨ rInD X.K neg x y H Q := fun neg e => by
    cases b with
    | lst ys =>
      obtain ⟨p, rfl⟩ := hy.isLst
      obtain ⟨vs, _, h1, h2⟩ := hy.lstH ex
      simp only [seqOf, Option.bind_some, inDd] at e
      split at e
      · rename_i f
        rw [Bool.and_eq_true] at f
        refine .inl ⟨p, vs, rfl, .inl (SqL.of h1), hx.flatV f.1, h2.flatV f.2, ?_⟩
        rw [inV_of hx f.1 h2 f.2, Option.some.inj e]
        cases neg <;> simpa using q
      · split at e
        · rename_i f
          rw [Bool.and_eq_true] at f
          exact .inr (inD_of ex hx (.inl ⟨rfl, hy⟩) f.1 f.2 (by rw [Option.some.inj e]; cases neg <;> simpa using q))
        · cases e
    | tup ys =>
      obtain ⟨p, rfl⟩ := hy.isTup
      obtain ⟨vs, h1, h2⟩ := hy.tupH ex
      simp only [seqOf, Option.bind_some, inDd] at e
      split at e
      · rename_i f
        rw [Bool.and_eq_true] at f
        refine .inl ⟨p, vs, rfl, .inr h1, hx.flatV f.1, h2.flatV f.2, ?_⟩
        rw [inV_of hx f.1 h2 f.2, Option.some.inj e]
        cases neg <;> simpa using q
      · split at e
        · rename_i f
          rw [Bool.and_eq_true] at f
          exact .inr (inD_of ex hx (.inr ⟨rfl, hy⟩) f.1 f.2 (by rw [Option.some.inj e]; cases neg <;> simpa using q))
        · cases e
    | _ => cases e
  cases o with
  | Lt =>
    cases a <;> cases b <;> first
      | (cases hx; cases hy; cases e; exact op_lt pins s σ H _ _ v u Q I rx ry ⟨_, _, rfl, rfl, q⟩)
      | cases e
  | LtE =>
    cases a <;> cases b <;> first
      | (cases hx; cases hy; cases e; exact op_le pins s σ H _ _ v u Q I rx ry ⟨_, _, rfl, rfl, q⟩)
      | cases e
  | Gt =>
    cases a <;> cases b <;> first
      | (cases hx; cases hy; cases e; exact op_gt pins s σ H _ _ v u Q I rx ry ⟨_, _, rfl, rfl, q⟩)
      | cases e
  | GtE =>
    cases a <;> cases b <;> first
      | (cases hx; cases hy; cases e; exact op_ge pins s σ H _ _ v u Q I rx ry ⟨_, _, rfl, rfl, q⟩)
      | cases e
  | Eq =>
    simp only [cmpD] at e
    split at e
    · rename_i f
      rw [Bool.and_eq_true] at f
      cases e
      exact op_eqD hu pins s σ H x y v u Q I rx ry ⟨_, _, hx.dp ex _ _ f.1, hy.dp ex _ _ f.2, py_shaped f.1 (by decide), py_shaped f.2 (by decide), by rw [py_eqv _ _ _ _ f.1 f.2]; exact q⟩
    · cases e
  | NotEq =>
    simp only [cmpD] at e
    split at e
    · rename_i f
      rw [Bool.and_eq_true] at f
      cases e
      exact op_neD hu pins s σ H x y v u Q I rx ry ⟨_, _, hx.dp ex _ _ f.1, hy.dp ex _ _ f.2, py_shaped f.1 (by decide), py_shaped f.2 (by decide), by rw [py_eqv _ _ _ _ f.1 f.2]; exact q⟩
    · cases e
  | Is =>
    cases b with
    | non =>
      cases hy
      have e' : t = decide (x = V.non) := by rw [ho_non hx]; cases a <;> (cases e; rfl)
      exact op_isN pins s σ H x _ v u Q I rx ry ⟨rfl, by rw [← e']; exact q⟩
    | bl c =>
      cases hy
      cases ry
      cases a with
      | bl d =>
        cases hx
        refine op_isBl pins s σ H (.bl d) (.bl c) v _ Q I rx rfl ⟨d, c, rfl, rfl, ?_⟩
        have e' : t = decide (d = c) := by cases e; cases d <;> cases c <;> rfl
        rw [← e']; exact q
      | _ =>
        obtain ⟨p1, p2⟩ := is_bl_other (b := c) rx (ho_notbl hx (by intro _ z; cases z)) (ho_notflt hx)
        cases e
        exact wpAny_is_other p1 p2 ⟨.bl false, H, I, rfl, q⟩
    | _ => cases e
  | IsNot =>
    cases b with
    | non =>
      cases hy
      have e' : t = !decide (x = V.non) := by rw [ho_non hx]; cases a <;> (cases e; rfl)
      exact op_notN pins s σ H x _ v u Q I rx ry ⟨rfl, by rw [← e']; exact q⟩
    | bl c =>
      cases hy
      cases ry
      cases a with
      | bl d =>
        cases hx
        refine op_notBl pins s σ H (.bl d) (.bl c) v _ Q I rx rfl ⟨d, c, rfl, rfl, ?_⟩
        have e' : t = !decide (d = c) := by cases e; cases d <;> cases c <;> rfl
        rw [← e']; exact q
      | _ =>
        obtain ⟨p1, p2⟩ := is_bl_other (b := c) rx (ho_notbl hx (by intro _ z; cases z)) (ho_notflt hx)
        cases e
        exact wpAny_isNot_other p1 p2 ⟨.bl true, H, I, rfl, q⟩
    | _ => cases e
  | In =>
    rcases isq false (by simpa [cmpD] using e) with z | z
    · exact op_in_seq pins s σ H x y v u Q I rx ry z
    · exact op_inD hu pins s σ H x y v u Q I rx ry z
  | NotIn =>
    have e' : ((seqOf b).bind (inDd a)) = some (!t) := by
      simp only [cmpD] at e
      cases z : (seqOf b).bind (inDd a) with
      | none => rw [z] at e; cases e
      | some t' => rw [z] at e; cases e; simp
    rcases isq true e' with z | z
    · exact op_notIn_seq pins s σ H x y v u Q I rx ry z
    · exact op_notInD hu pins s σ H x y v u Q I rx ry z

/-! ## items, slices -/
theorem atI_ho {K : PySem.W.Frag} {A : List Addr} {B : Hp} {vs : List V} {ds : List D} {i : Int} {d : D} (h : HoL K A B vs ds) (e : atI ds i = some d) : ∃ v, atI vs i = some v ∧ Ho K A B v d := by
  unfold atI at e ⊢
  rw [h.length]
  cases z : ixN ds.length i with
  | none => rw [z] at e; cases e
  | some j =>
    rw [z] at e
    obtain ⟨v, h1, h2⟩ := h.get e
    exact ⟨v, h1, h2⟩
/-- an item of what stands at x: from a frozen thing, or what a role holds -/
def rItem (K : PySem.W.Frag) : R2 := fun x y H Q => ∃ A B i, y = .int i ∧
  ((∃ p vs ds d, x = .ref p ∧ (SqL K H p vs ∨ SqT K H p vs) ∧ HoL K A B vs ds ∧ atI ds i = some d ∧ ∀ v, Ho K A B v d → Q v H) ∨
   (∃ s c, x = .str s ∧ s.length ≤ lim ∧ atI s.cps.toList i = some c ∧ Q (.str ⟨#[c]⟩) H))
theorem ixR_item : IxR X (rItem X.K) := by
  intro value slice pins s σ H x y v u Q I rx ry h hs
  obtain ⟨A, B, i, rfl, h⟩ := h
  rcases h with ⟨p, vs, ds, d, rfl, hq, hl, e, q⟩ | ⟨z, c, rfl, hz, e, q⟩
  · obtain ⟨w, e1, e2⟩ := atI_ho hl e
    rcases hq with hq | hq
    · exact ix_list value slice pins s σ H _ _ v u Q I rx ry ⟨p, vs, i, w, rfl, rfl, hq, e1, q w e2⟩ hs
    · exact ix_tup value slice pins s σ H _ _ v u Q I rx ry ⟨p, vs, i, w, rfl, rfl, hq, e1, q w e2⟩ hs
  · exact ix_str value slice pins s σ H _ _ v u Q I rx ry ⟨z, i, c, rfl, rfl, lim_le hz, e, q⟩ hs
theorem cut_ho {K : PySem.W.Frag} {A : List Addr} {B : Hp} {vs : List V} {ds : List D} (h : HoL K A B vs ds) (lo hi : Option Int) : HoL K A B (cutV vs lo hi) (cutD ds lo hi) := by
  unfold cutV cutD
  rw [h.length]
  exact (h.drop _).take _
theorem cut_ints {K : PySem.W.Frag} {A : List Addr} {B : Hp} (ns : List Int) (lo hi : Option Int) : HoL K A B (cutV (ns.map V.int) lo hi) ((cutI ns lo hi).map D.int) := by
  unfold cutV cutI
  rw [List.length_map, ← List.map_drop, ← List.map_take]
  exact HoL.of_ints
def rSl (K : PySem.W.Frag) : V → Option Int → Option Int → Hp → VK → Prop := fun x lo hi H Q => ∃ O A B σ ρ st T a fr d, Rel K O A B σ H ρ st T ∧ Ho K A B x a ∧ slD a lo hi = some (fr, d) ∧
  ∀ v A' B' H', Px A A' → Ex B B' → EPost K O σ T ρ st fr d v A' B' H' → Q v H'
theorem slR_all : SlR X (rSl X.K) := by
  intro pins s σ H x v vl vu lo hi sl Q I rx hs pl pu h
  obtain ⟨O, A, B, σ', ρ, st, T, a, fr, d, R, hx, e, q⟩ := h
  cases a with
  | lst xs =>
    cases e
    obtain ⟨p, rfl⟩ := hx.isLst
    obtain ⟨vs, _, h1, h2⟩ := hx.lstH R.ex
    exact sl_list pins s σ H _ v vl vu lo hi sl Q I rx hs pl pu ⟨p, vs, rfl, SqL.of h1, fun c hc => q _ _ _ _ (Px.refl _) (Ex.refl _) (.new R hc (cut_ho h2 lo hi))⟩
  | tup xs =>
    cases e
    obtain ⟨p, rfl⟩ := hx.isTup
    obtain ⟨vs, h1, h2⟩ := hx.tupH R.ex
    refine sl_tupF pins s σ H _ v vl vu lo hi sl Q I rx hs pl pu ⟨p, vs, rfl, h1, fun hw => q _ _ _ _ (Px.refl _) (Ex.refl _) (.val R ?_), fun _ c o hc ho => q _ _ _ _ (Px.refl _) (Ex.new (R.bfresh hc)) (.tup R hc ho (cut_ho h2 lo hi))⟩
    rw [h2.length] at hw
    have e : cutD xs lo hi = xs := by
      unfold cutD
      rw [hw.1, hw.2]; simp
    rw [e]; exact hx
  | scr ns =>
    cases e
    cases hx with | scr h1 =>
    exact sl_list pins s σ H _ v vl vu lo hi sl Q I rx hs pl pu ⟨_, _, rfl, ex_l R.ex h1, fun c hc => q _ _ _ _ (Px.refl _) (Ex.refl _) (.new R hc (cut_ints ns lo hi))⟩
  | _ => cases e

/-! ## methods -/
def mtId : Mt → String
  | .append => "list.append" | .pop => "list.pop" | .popAt => "list.pop" | .extend => "list.extend"
def rMt (K : PySem.W.Frag) (m : Mt) : V → List V → Hp → VK → Prop := fun x xs H Q => ∃ A B a vs ys ds d ys', x = .ref a ∧ Ex B H ∧ B a = none ∧ H a = some (.lst vs) ∧ HoL K A B vs ys ∧ HoL K A B xs ds ∧ mtD m ys ds = some (d, ys') ∧
  ∀ v ws, Ho K A B v d → HoL K A B ws ys' → Q v (upd H a (.lst ws))
theorem mtR_all (m : Mt) : MtR X (mtId m) (rMt X.K m) := by
  intro pins s σ H x xs v us Q I rx rs h
  obtain ⟨A, B, a, vs, ys, ds, d, ys', rfl, ex, hb, ha, hv, hx, e, q⟩ := h
  have hsz : vs.length ≤ sizeLine := (I.lstM ha).1
  cases m with
  | append =>
    cases hx with
    | nil => cases e
    | cons h1 h2 =>
      cases h2 with
      | cons _ _ => cases e
      | nil =>
        simp only [mtD] at e
        split at e
        · rename_i hl
          cases e
          exact mt_append pins s σ H _ _ v us Q I rx rs ⟨a, vs, _, rfl, rfl, ha, by rw [hv.length]; exact lim_lt hl, q _ _ .non (hv.append (.cons h1 .nil))⟩
        · cases e
  | pop =>
    cases hx with
    | cons _ _ => cases e
    | nil =>
      simp only [mtD] at e
      cases z : ys[ys.length - 1]? with
      | none => rw [z] at e; cases e
      | some d' =>
        rw [z] at e; cases e
        obtain ⟨w, h1, h2⟩ := hv.get z
        exact mt_pop pins s σ H _ _ v us Q I rx rs ⟨a, vs, w, rfl, rfl, ha, by rw [hv.length]; exact h1, q _ _ h2 hv.dropLast⟩
  | popAt =>
    cases hx with
    | nil => cases e
    | cons h1 h2 =>
      cases h2 with
      | cons _ _ => cases h1 <;> cases e
      | nil =>
        cases h1 with
        | int i =>
          simp only [mtD] at e
          cases z : ixN ys.length i with
          | none => rw [z] at e; cases e
          | some k =>
            rw [z] at e
            simp only [Option.bind_some] at e
            cases z2 : ys[k]? with
            | none => rw [z2] at e; cases e
            | some d' =>
              rw [z2] at e; cases e
              obtain ⟨w, h3, h4⟩ := hv.get z2
              obtain ⟨k1, k2, k3, k4⟩ := ixN_seq z
              rw [sizeLine_eq] at hsz
              rw [← hv.length] at k1 k2 k3 k4
              exact mt_popAt pins s σ H _ _ v us Q I rx rs ⟨a, vs, i, k, w, rfl, rfl, ha, by omega, by omega, k1, h3, q _ _ h4 (hv.eraseIdx k)⟩
        | _ => cases e
  | extend =>
    cases hx with
    | nil => cases e
    | cons h1 h2 =>
      cases h2 with
      | cons _ _ => cases h1 <;> cases e
      | nil =>
        cases h1 with
        | lst hB hL =>
          simp only [mtD] at e
          split at e
          · rename_i hl
            cases e
            exact mt_extend pins s σ H _ _ v us Q I rx rs ⟨a, _, vs, _, rfl, rfl, ha, ex _ _ hB, by rw [hv.length, hL.length]; exact lim_le hl, q _ _ .non (hv.append hL)⟩
          · cases e
        | _ => cases e
/-! ## truth -/
theorem tru_ho {K : PySem.W.Frag} {A : List Addr} {B H : Hp} {x : V} {a : D} {t : Bool} (ex : Ex B H) (h : Ho K A B x a) (e : truD a = some t) : TruV K x H t := by
  cases a with
  | non => cases h; cases e; rfl
  | bl b => cases h; cases e; rfl
  | int i => cases h; cases e; rfl
  | str s =>
    cases h
    simp only [truD] at e
    split at e
    · rename_i hl
      cases e
      refine ⟨lim_le hl, ?_⟩
      cases s.length with
      | zero => rfl
      | succ n => 
        have h1 : (n + 1 != 0) = true := by simp
        have h2 : (((n + 1 : Nat) : Int) != 0) = true := by simp; omega
        rw [h1, h2]
    · cases e
  | lst xs =>
    obtain ⟨p, rfl⟩ := h.isLst
    obtain ⟨vs, _, h1, h2⟩ := h.lstH ex
    cases e
    refine .inl ⟨vs, SqL.of h1, ?_⟩
    cases h2 <;> rfl
  | tup xs =>
    obtain ⟨p, rfl⟩ := h.isTup
    obtain ⟨vs, h1, h2⟩ := h.tupH ex
    cases e
    refine .inr (.inl ⟨vs, h1, ?_⟩)
    cases h2 <;> rfl
  | _ => cases e
end
end Pv

namespace Pv
open PySem PySem.Spec PyProof.Rows L2
section
variable {X : Cx}
/-! ## built-in functions -/
def rBi (K : PySem.W.Frag) (b : Bi) : List V → Hp → VK → Prop := fun xs H Q => ∃ O A B σ ρ st T ds fr d, Rel K O A B σ H ρ st T ∧ HoL K A B xs ds ∧ biD st b ds = some (fr, d) ∧
  ∀ v A' B' H', Px A A' → Ex B B' → EPost K O σ T ρ st fr d v A' B' H' → Q v H'
theorem HoL.one {K : PySem.W.Frag} {A : List Addr} {B : Hp} {vs : List V} {d : D} (h : HoL K A B vs [d]) : ∃ v, vs = [v] ∧ Ho K A B v d := by
  cases h with | cons h1 h2 => cases h2; exact ⟨_, rfl, h1⟩
theorem HoL.two {K : PySem.W.Frag} {A : List Addr} {B : Hp} {vs : List V} {d e : D} (h : HoL K A B vs [d, e]) : ∃ v w, vs = [v, w] ∧ Ho K A B v d ∧ Ho K A B w e := by
  cases h with | cons h1 h2 => obtain ⟨w, rfl, h3⟩ := h2.one; exact ⟨_, w, rfl, h1, h3⟩
theorem intsOf_map : ∀ {ds : List D} {ns : List Int}, intsOf ds = some ns → ds = ns.map D.int
  | [], ns, h => by cases h; rfl
  | .int i :: ds, ns, h => by
    simp only [intsOf] at h
    cases z : intsOf ds with
    | none => rw [z] at h; cases h
    | some ms => rw [z] at h; cases h; rw [intsOf_map z]; rfl
  | .non :: _, _, h => by cases h
  | .bl _ :: _, _, h => by cases h
  | .str _ :: _, _, h => by cases h
  | .tup _ :: _, _, h => by cases h
  | .lst _ :: _, _, h => by cases h
  | .scr _ :: _, _, h => by cases h
  | .hd _ :: _, _, h => by cases h
  | .itm _ :: _, _, h => by cases h
  | .fn _ :: _, _, h => by cases h
  | .dct _ _ :: _, _, h => by cases h
  | .ins _ _ _ :: _, _, h => by cases h
theorem len_ho {K : PySem.W.Frag} {O : Org} {A : List Addr} {B H : Hp} {σ : L2.St} {ρ : Env} {st : Sto} {T : List (Addr × List D)} {x : V} {a : D} {n : Nat} (R : Rel K O A B σ H ρ st T) (h : Ho K A B x a) (e : lenD st a = some n) : LenV K x H n := by
  cases a with
  | str s =>
    cases h
    simp only [lenD] at e
    split at e
    · rename_i hl
      cases e; exact ⟨lim_le hl, rfl⟩
    · cases e
  | lst xs =>
    obtain ⟨p, rfl⟩ := h.isLst
    obtain ⟨vs, _, h1, h2⟩ := h.lstH R.ex
    cases e
    exact .inl ⟨vs, SqL.of h1, h2.length.symm⟩
  | tup xs =>
    obtain ⟨p, rfl⟩ := h.isTup
    obtain ⟨vs, h1, h2⟩ := h.tupH R.ex
    cases e
    exact .inr ⟨vs, h1, h2.length.symm⟩
  | hd m =>
    cases h with | hd ha =>
    simp only [lenD] at e
    cases z : st[m]? with
    | none => rw [z] at e; cases e
    | some ys =>
      rw [z] at e; cases e
      obtain ⟨a', e', _, vs, h1, h2⟩ := R.own (.h m) ys z
      simp only [adr] at e'
      rw [ha] at e'; cases e'
      exact .inl ⟨vs, SqL.of h1, h2.length.symm⟩
  | _ => cases e
def biVal : Bi → Value
  | .abs => .builtin "abs" | .int => .type "int" | .len => .builtin "len" | .sum => .builtin "sum" | .min2 => .builtin "min" | .max2 => .builtin "max" | .tuple => .type "tuple" | .list => .type "list" | .sorted => .builtin "sorted" | .min1 => .builtin "min" | .max1 => .builtin "max"
theorem callR_all (hc : X.calm = true) (hu : X.A.units + 64 < cLine) (b : Bi) : CallR X (biVal b) (rBi X.K b) := by
  intro pins s σ H xs us Q I r h
  obtain ⟨O, A, B, σ', ρ, st, T, ds, fr, d, R, hx, e, q⟩ := h
  have q0 := fun v h => q v A B H (Px.refl _) (Ex.refl _) h
  cases b with
  | abs =>
    match ds, hx, e with
    | [.int i], hx, e =>
      obtain ⟨v, rfl, h⟩ := hx.one
      cases h; cases e
      exact call_abs pins s σ H _ us Q I r ⟨i, rfl, q0 _ (.val R (.int _))⟩
  | int =>
    match ds, hx, e with
    | [.int i], hx, e =>
      obtain ⟨v, rfl, h⟩ := hx.one
      cases h; cases e
      exact call_int1 pins s σ H _ us Q I r (.inl ⟨i, rfl, q0 _ (.val R (.int _))⟩)
    | [.bl k], hx, e =>
      obtain ⟨v, rfl, h⟩ := hx.one
      cases h; cases e
      exact call_int1 pins s σ H _ us Q I r (.inr ⟨k, rfl, q0 _ (.val R (.int _))⟩)
  | len =>
    match ds, hx, e with
    | [x], hx, e =>
      obtain ⟨v, rfl, h⟩ := hx.one
      simp only [biD] at e
      cases z : lenD st x with
      | none => rw [z] at e; cases e
      | some n =>
        rw [z] at e; cases e
        exact call_len pins s σ H _ us Q I r ⟨v, n, rfl, len_ho R h z, q0 _ (.val R (.int _))⟩
  | sum =>
    match ds, hx, e with
    | [x], hx, e =>
      obtain ⟨v, rfl, h⟩ := hx.one
      cases x with
      | lst ys =>
        simp only [biD, seqOf, Option.bind_some] at e
        cases z : intsOf ys with
        | none => rw [z] at e; cases e
        | some ns =>
          rw [z] at e; cases e
          have z' := intsOf_map z
          subst z'
          obtain ⟨p, rfl⟩ := h.isLst
          obtain ⟨vs, _, h1, h2⟩ := h.lstH R.ex
          have := h2.ints
          subst this
          exact cr_sum hc pins s σ H _ us Q I r ⟨p, ns, rfl, SqL.of h1, q0 _ (.val R (.int _))⟩
      | tup ys =>
        simp only [biD, seqOf, Option.bind_some] at e
        cases z : intsOf ys with
        | none => rw [z] at e; cases e
        | some ns =>
          rw [z] at e; cases e
          have z' := intsOf_map z
          subst z'
          obtain ⟨p, rfl⟩ := h.isTup
          obtain ⟨vs, h1, h2⟩ := h.tupH R.ex
          have := h2.ints
          subst this
          exact cr_sumT hc pins s σ H _ us Q I r ⟨p, ns, rfl, h1, q0 _ (.val R (.int _))⟩
      | _ => cases e
  | min2 =>
    match ds, hx, e with
    | [.int i, .int j], hx, e =>
      obtain ⟨v, w, rfl, h, h'⟩ := hx.two
      cases h; cases h'; cases e
      exact call_min2 hc pins s σ H _ us Q I r ⟨i, j, rfl, q0 _ (.val R (.int _))⟩
  | max2 =>
    match ds, hx, e with
    | [.int i, .int j], hx, e =>
      obtain ⟨v, w, rfl, h, h'⟩ := hx.two
      cases h; cases h'; cases e
      exact call_max2 hc pins s σ H _ us Q I r ⟨i, j, rfl, q0 _ (.val R (.int _))⟩
  | tuple =>
    match ds, hx, e with
    | [.lst ys], hx, e =>
      obtain ⟨v, rfl, h⟩ := hx.one
      cases e
      obtain ⟨p, rfl⟩ := h.isLst
      obtain ⟨vs, _, h1, h2⟩ := h.lstH R.ex
      exact call_tuple_ofF pins s σ H _ us Q I r ⟨p, vs, rfl, .inl ⟨SqL.of h1, fun l o hl ho => q _ _ _ _ (Px.refl _) (Ex.new (R.bfresh hl)) (.tup R hl ho h2)⟩⟩
    | [.tup ys], hx, e =>
      obtain ⟨v, rfl, h⟩ := hx.one
      cases e
      obtain ⟨p, rfl⟩ := h.isTup
      obtain ⟨vs, h1, h2⟩ := h.tupH R.ex
      exact call_tuple_ofF pins s σ H _ us Q I r ⟨p, vs, rfl, .inr ⟨h1, q0 _ (.val R h)⟩⟩
  | list =>
    match ds, hx, e with
    | [.lst ys], hx, e =>
      obtain ⟨v, rfl, h⟩ := hx.one
      cases e
      obtain ⟨p, rfl⟩ := h.isLst
      obtain ⟨vs, _, h1, h2⟩ := h.lstH R.ex
      exact call_list_of pins s σ H _ us Q I r ⟨p, vs, rfl, .inl (SqL.of h1), fun l hl => q _ _ _ _ (Px.refl _) (Ex.refl _) (.new R hl h2)⟩
    | [.tup ys], hx, e =>
      obtain ⟨v, rfl, h⟩ := hx.one
      cases e
      obtain ⟨p, rfl⟩ := h.isTup
      obtain ⟨vs, h1, h2⟩ := h.tupH R.ex
      exact call_list_of pins s σ H _ us Q I r ⟨p, vs, rfl, .inr h1, fun l hl => q _ _ _ _ (Px.refl _) (Ex.refl _) (.new R hl h2)⟩
  | sorted =>
    match ds, hx, e with
    | [x], hx, e =>
      obtain ⟨v, rfl, h⟩ := hx.one
      cases x with
      | lst ys =>
        simp only [biD, seqOf, Option.bind_some] at e
        split at e
        · rename_i ho
          cases e
          obtain ⟨p, rfl⟩ := h.isLst
          obtain ⟨vs, _, h1, h2⟩ := h.lstH R.ex
          exact Pv.cr_sorted hu pins s σ H _ us Q I r ⟨p, vs, A, B, ys, rfl, .inl (SqL.of h1), R.ex, h2, ho, fun l ws hl hw => q _ _ _ _ (Px.refl _) (Ex.refl _) (.new R hl hw)⟩
        · cases e
      | tup ys =>
        simp only [biD, seqOf, Option.bind_some] at e
        split at e
        · rename_i ho
          cases e
          obtain ⟨p, rfl⟩ := h.isTup
          obtain ⟨vs, h1, h2⟩ := h.tupH R.ex
          exact Pv.cr_sorted hu pins s σ H _ us Q I r ⟨p, vs, A, B, ys, rfl, .inr h1, R.ex, h2, ho, fun l ws hl hw => q _ _ _ _ (Px.refl _) (Ex.refl _) (.new R hl hw)⟩
        · cases e
      | _ => cases e
  | min1 => cases e
  | max1 => cases e
end
end Pv

namespace Pv
open PySem PySem.Spec PyProof.Rows L2

theorem bindS {α β : Type} {o : Option α} {f : α → Option β} {r : β} (h : (o >>= f) = some r) : ∃ x, o = some x ∧ f x = some r := Option.bind_eq_some_iff.mp h
theorem mapS {α β : Type} {o : Option α} {f : α → β} {r : β} (h : o.map f = some r) : ∃ x, o = some x ∧ f x = r := Option.map_eq_some_iff.mp h
theorem upS {ρ ρ' : Env} {st st' : Sto} {r : R1} {fr : Bool} {d : D} (h : up ρ st r = some (fr, d, ρ', st')) : r = some (fr, d) ∧ ρ' = ρ ∧ st' = st := by
  cases r with
  | none => cases h
  | some p => obtain ⟨a, b⟩ := p; cases h; exact ⟨rfl, rfl, rfl⟩

section
variable {P : Program} {w : World} {K : PySem.W.Frag} {mg : Str → Option Value} {base : Heap} {k : Nat} {F : Tb} {C : SC} {X : Cx}
theorem vis_of {sc : Scope} {x : Str} (h : visB sc x = true) : Vis sc x := by
  unfold visB at h
  split at h
  · rename_i e; exact .inl e
  · rename_i e; exact .inr (.inl e)
  · rename_i e; exact .inr (.inr e)
  · cases h
theorem loc_of {sc : Scope} {x : Str} (h : locB sc x = true) : Loc sc x := by
  unfold locB at h
  split at h
  · rename_i e; exact .inl e
  · rename_i e; exact .inr e
  · cases h
theorem gl_of {sc : Scope} {x : Str} (h : glB sc x = true) : sc.names.lookup x = some .globalImplicit := by
  unfold glB at h
  split at h
  · rename_i e; exact e
  · cases h
theorem COk.gl (ok : COk P w K mg base k C X) {x : Str} (h : glB C.sc x = true) : Gl X x := by
  show X.env.scope.names.lookup x = some .globalImplicit
  rw [ok.sc]; exact gl_of h
theorem plain_of {x : Str} (h : plainName x = true) : (x == ("__debug__" : Str)) = false ∧ (x == ("__classdict__" : Str)) = false ∧ x ≠ "__name__" := by
  unfold plainName at h
  simp only [Bool.and_eq_true, Bool.not_eq_true'] at h
  refine ⟨h.1.1, h.1.2, fun e => ?_⟩
  rw [e] at h
  have := h.2
  simp at this
theorem COk.var (ok : COk P w K mg base k C X) {i : Nat} {x : Str} {pos : Pos} (h : C.var i x = true) : PE X (.Name x pos) (tVar i) := by
  unfold SC.var at h
  simp only [Bool.and_eq_true, decide_eq_true_eq] at h
  obtain ⟨h1, h2, _⟩ := plain_of h.2
  exact pe_var (by rw [ok.N]; exact h.1.1) (by rw [ok.sc]; exact vis_of h.1.2) h1 h2
/-! ### what a reading gives, new lists frozen -/
theorem tE_V {p : E} {σ : L2.St} {H : Hp} {Q : VK} {O : Org} {A : List Addr} {B : Hp} {ρ : Env} {st : Sto} {T : List (Addr × List D)} {d : D} {ρ' : Env} {st' : Sto} (R : Rel K O A B σ H ρ st T) (e : vv (evE F p ρ st) = some (d, ρ', st'))
    (q : ∀ v A' B' H', Px A A' → Ex B B' → Rel K O A' B' σ H' ρ' st' T → Ho K A' B' v d → Q v H') : tE K F p σ H Q := by
  obtain ⟨⟨fr, r⟩, e1, e2⟩ := mapS e
  cases e2
  refine ⟨O, A, B, ρ, st, T, fr, d, ρ', st', R, e1, fun v A' B' H' hA hB hp => ?_⟩
  obtain ⟨B'', h1, h2, h3⟩ := hp.freeze
  exact q v A' B'' H' hA (hB.trans h1) h2 h3
theorem Rel.sigma {O : Org} {A : List Addr} {B H : Hp} {σ : L2.St} {ρ : Env} {st : Sto} {T : List (Addr × List D)} (R : Rel K O A B σ H ρ st T) {i : Nat} {s : Sl} {ys : List D} (e : ρ[i]? = some s) (h : slotSeq st s = some ys) :
    ∃ a vs, σ[i]? = some (some (.ref a)) ∧ (SqL K H a vs ∨ SqT K H a vs) ∧ HoL K A B vs ys := by
  cases s with
  | no => cases h
  | own xs =>
    cases h
    obtain ⟨a, vs, h1, h2, h3, _⟩ := R.updSlot e
    exact ⟨a, vs, h1, .inl (SqL.of h2), h3⟩
  | val d =>
    obtain ⟨v, h1, h2⟩ := R.val i d e
    cases d with
    | lst xs =>
      cases h
      obtain ⟨a, rfl⟩ := h2.isLst
      obtain ⟨vs, _, h3, h4⟩ := h2.lstH R.ex
      exact ⟨a, vs, h1, .inl (SqL.of h3), h4⟩
    | tup xs =>
      cases h
      obtain ⟨a, rfl⟩ := h2.isTup
      obtain ⟨vs, h3, h4⟩ := h2.tupH R.ex
      exact ⟨a, vs, h1, .inr h3, h4⟩
    | hd n =>
      cases h2 with | hd ha =>
      obtain ⟨a', vs, e1, e2, e3, _⟩ := R.updH (n := n) (xs := ys) h
      rw [ha] at e1; cases e1
      exact ⟨_, vs, h1, .inl (SqL.of e2), e3⟩
    | _ => cases h

/-! ### the leaves -/
theorem sd_v (ok : COk P w K mg base k C X) {i : Nat} {x : Str} {pos : Pos} (h : C.var i x = true) : PE X (.Name x pos) (tE K F (.v i)) := by
  refine (ok.var h).imp fun σ H Q hq => ?_
  obtain ⟨O, A, B, ρ, st, T, fr, d, ρ', st', R, e, q⟩ := hq
  simp only [evE] at e
  cases z : ρ[i]? with
  | none => rw [z] at e; cases e
  | some s =>
    rw [z] at e
    cases s with
    | no => cases e
    | val d' =>
      cases e
      obtain ⟨v, h1, h2⟩ := R.val i _ z
      exact ⟨v, h1, q v A B H (Px.refl _) (Ex.refl _) (.val R h2)⟩
    | own xs =>
      cases e
      obtain ⟨a, B', h1, h2, h3, h4⟩ := R.freezeSlot z
      exact ⟨_, h1, q _ A B' H (Px.refl _) h4 (.val h2 h3)⟩
theorem sd_k {d : D} {c : Const} {j : Nat} {pos : Pos} (h : kB d c = true) : PE X (.Constant c j pos) (tE K F (.k d)) := by
  have key : ∀ v, PE X (.Constant c j pos) (L2.tC v) → (∀ A B, Ho K A B v d) → PE X (.Constant c j pos) (tE K F (.k d)) := fun v hp hv => hp.imp fun σ H Q hq => by
    obtain ⟨O, A, B, ρ, st, T, fr, d', ρ', st', R, e, q⟩ := hq
    simp only [evE] at e
    cases e
    exact q v A B H (Px.refl _) (Ex.refl _) (.val R (hv _ _))
  cases d with
  | non => cases c <;> first | exact key _ pe_non (fun _ _ => .non) | (cases h)
  | bl b => cases c <;> first | (cases h; done) | (simp only [kB, beq_iff_eq] at h; subst h; exact key _ pe_bl (fun _ _ => .bl _))
  | int b => cases c <;> first | (cases h; done) | (simp only [kB, beq_iff_eq] at h; subst h; exact key _ pe_int (fun _ _ => .int _))
  | str b => cases c <;> first | (cases h; done) | (simp only [kB, beq_iff_eq] at h; subst h; exact key _ pe_str (fun _ _ => .str _))
  | _ => cases c <;> cases h
theorem sd_g {gl : Str → Bool} {fp : Str → Bool} {kw : Str → Nat → List Str → List Nat → Bool} (G : GOk P w K mg base k F gl fp kw) (ok : COk P w K mg base k C X) {x : Str} {pos : Pos} (h1 : glB C.sc x = true) (h2 : gl x = true) (h3 : plainName x = true) : PE X (.Name x pos) (tE K F (.g x)) := by
  refine ⟨fun pins s σ H Q I hq => ?_⟩
  obtain ⟨O, A, B, ρ, st, T, fr, d, ρ', st', R, e, q⟩ := hq
  simp only [evE] at e
  obtain ⟨d', e1, e2⟩ := mapS e
  cases e2
  obtain ⟨u, v, m, r, hv⟩ := G.glob x _ h2 e1
  exact (pe_glob (pos := pos) (ok.gl h1) (by rw [ok.mg]; exact m) r (plain_of h3).1).run pins s σ H Q I (q v A B H (Px.refl _) (Ex.refl _) (.val R (hv _ _)))

/-! ### operators -/
theorem sd_op (ok : COk P w K mg base k C X) {o : Operator} {a b : Expr} {pa pb : E} {pos : Pos} (ha : PE X a (tE K F pa)) (hb : PE X b (tE K F pb)) : PE X (.BinOp a o b pos) (tE K F (.op o pa pb)) := by
  obtain rfl := ok.K
  refine (pe_op (opR_all o) ha hb).imp fun σ H Q hq => ?_
  obtain ⟨O, A, B, ρ, st, T, fr, d, ρ', st', R, e, q⟩ := hq
  simp only [evE] at e
  obtain ⟨⟨x, ρ1, st1⟩, e1, e⟩ := bindS e
  obtain ⟨⟨y, ρ2, st2⟩, e2, e⟩ := bindS e
  obtain ⟨e, rfl, rfl⟩ := upS e
  refine tE_V R e1 fun v A1 B1 H1 hA1 hB1 R1 h1 => ?_
  refine tE_V R1 e2 fun u A2 B2 H2 hA2 hB2 R2 h2 => ?_
  exact ⟨O, A2, B2, σ, _, _, T, x, y, fr, d, R2, h1.mono hA2 hB2, h2, e, fun v' A' B' H' hA hB hp => q v' A' B' H' ((hA1.trans hA2).trans hA) ((hB1.trans hB2).trans hB) hp⟩
theorem setB_in {o : CmpOp} {e : Expr} (h : setB e = false) : behindInMarks o e = false := by
  cases e <;> first | rfl | (simp [setB] at h)
theorem cmp_pre (ok : COk P w K mg base k C X) {o : CmpOp} {pa pb : E} {σ : L2.St} {H : Hp} {Q : VK} {O : Org} {A : List Addr} {B : Hp} {ρ : Env} {st : Sto} {T : List (Addr × List D)} {d : D} {ρ' : Env} {st' : Sto} (R : Rel K O A B σ H ρ st T)
    (e : vv (evE F (.cmp o pa pb) ρ st) = some (d, ρ', st')) (q : ∀ A' B' H', Px A A' → Ex B B' → Rel K O A' B' σ H' ρ' st' T → ∀ t, d = .bl t → Q (.bl t) H') : tOp (rCm K (cmpD o)) (tE K F pa) (tE K F pb) σ H Q := by
  obtain ⟨⟨fr, r⟩, e0, e2⟩ := mapS e
  cases e2
  simp only [evE] at e0
  obtain ⟨⟨x, ρ1, st1⟩, e1, e⟩ := bindS e0
  obtain ⟨⟨y, ρ2, st2⟩, e2, e⟩ := bindS e
  obtain ⟨t, e3, e4⟩ := mapS e
  cases e4
  refine tE_V R e1 fun v A1 B1 H1 hA1 hB1 R1 h1 => ?_
  refine tE_V R1 e2 fun u A2 B2 H2 hA2 hB2 R2 h2 => ?_
  exact ⟨A2, B2, x, y, t, R2.ex, h1.mono hA2 hB2, h2, e3, q A2 B2 H2 (hA1.trans hA2) (hB1.trans hB2) R2 t rfl⟩
theorem COk.units (ok : COk P w K mg base k C X) : X.A.units + 64 < cLine := ok.room.units
theorem vv_of {p : E} {ρ : Env} {st : Sto} {fr : Bool} {d : D} {ρ' : Env} {st' : Sto} (e : evE F p ρ st = some (fr, d, ρ', st')) : vv (evE F p ρ st) = some (d, ρ', st') := by rw [e]; rfl
theorem cmp_fr {o : CmpOp} {pa pb : E} {ρ : Env} {st : Sto} {fr : Bool} {d : D} {ρ' : Env} {st' : Sto} (e : evE F (.cmp o pa pb) ρ st = some (fr, d, ρ', st')) : fr = false ∧ ∃ t, d = .bl t := by
  simp only [evE] at e
  obtain ⟨⟨x, ρ1, st1⟩, e1, e⟩ := bindS e
  obtain ⟨⟨y, ρ2, st2⟩, e2, e⟩ := bindS e
  obtain ⟨t, e3, e4⟩ := mapS e
  cases e4
  exact ⟨rfl, t, rfl⟩
theorem sd_cmp (ok : COk P w K mg base k C X) {o : CmpOp} {a b : Expr} {pa pb : E} {pos : Pos} (ha : PE X a (tE K F pa)) (hb : PE X b (tE K F pb)) (hs : setB b = false) : PE X (.Compare a [o] [b] pos) (tE K F (.cmp o pa pb)) := by
  have hK := ok.K
  subst hK
  refine (pe_cmpR (opR_cmp o ok.units) ha hb (setB_in hs)).imp fun σ H Q hq => ?_
  obtain ⟨O, A, B, ρ, st, T, fr, d, ρ', st', R, e, q⟩ := hq
  obtain ⟨rfl, t, rfl⟩ := cmp_fr e
  refine cmp_pre ok R (vv_of e) fun A' B' H' hA hB R' t' ht => ?_
  cases ht
  exact q _ A' B' H' hA hB (.val R' (.bl _))
theorem sd_cmpT (ok : COk P w K mg base k C X) {o : CmpOp} {a b : Expr} {pa pb : E} {pos : Pos} (ha : PE X a (tE K F pa)) (hb : PE X b (tE K F pb)) (hs : setB b = false) : PT X (.Compare a [o] [b] pos) (tCn K F (.e (.cmp o pa pb))) := by
  have hK := ok.K
  subst hK
  refine (pt_cmpR (opR_cmp o ok.units) ha hb (setB_in hs)).imp fun σ H Q hq => ?_
  obtain ⟨O, A, B, ρ, st, T, b, ρ', st', R, e, q⟩ := hq
  simp only [evT] at e
  obtain ⟨⟨x, ρ1, st1⟩, e1, e⟩ := bindS e
  obtain ⟨t, e2, e⟩ := bindS e
  cases e
  refine cmp_pre ok R e1 fun A' B' H' hA hB R' t' ht => ?_
  subst ht
  cases e2
  exact ⟨_, rfl, q A' B' H' hA hB R'⟩
end
end Pv

namespace Pv
open PySem PySem.Spec PyProof.Rows L2

/-! ### argument lists as texts -/
theorem star_cons {e : Expr} {es : List Expr} {env : PySem.Env} (h : starB e = true) : starEach (e :: es) env = (false, eval e env) :: starEach es env := by
  cases e <;> first | rfl | (simp [starB] at h)
theorem star_all {env : PySem.Env} : ∀ {es : List Expr}, es.all starB = true → (starEach es env).all (fun x => !x.1) = true
  | [], _ => rfl
  | e :: es, h => by
    rw [all_cons_iff] at h
    rw [star_cons h.1, List.all_cons, star_all h.2]; rfl
theorem back_any {pos : Pos} {env : PySem.Env} {es : List Expr} (h : es.all starB = true) : (backTo pos (starEach es env)).any (·.1) = false := by
  have := star_all (env := env) h
  unfold backTo
  rw [List.any_map, List.any_eq_false]
  intro x hx
  have := List.all_eq_true.mp this x hx
  obtain ⟨a, b⟩ := x
  cases a <;> simp_all
theorem back_all {pos : Pos} {env : PySem.Env} {es : List Expr} (h : es.all starB = true) : (backTo pos (starEach es env)).all (fun x => !x.1) = true := by
  have := back_any (pos := pos) (env := env) h
  rw [List.any_eq_false] at this
  rw [List.all_eq_true]
  intro x hx
  simpa using this x hx
theorem few_ok {pos : Pos} {env : PySem.Env} {e : Expr} {es : List Expr} (h : (e :: es).all starB = true) (hl : (e :: es).length < 20) :
    ((backTo pos (starEach (e :: es) env)).all (fun x => !x.1) && (backToKw pos (keywordEach [] env)).all (fun x => x.1.isSome)
      && decide ((e :: es).length + ([] : List Keyword).length + (if ([] : List Keyword).isEmpty then 0 else 1) < 30)) = true := by
  rw [back_all h]
  simp only [keywordEach, backToKw, List.map_nil, List.all_nil, Bool.and_self, Bool.true_and, List.length_nil, List.isEmpty_nil, if_true, decide_eq_true_eq]
  omega
theorem attr_base {o : Expr} {n : Str} {env : PySem.Env} {t : Sem Value} (h : isCall0 o = false) : attributeBase o n env t = t := by
  cases o with
  | Call f args kws pos =>
    cases args with
    | cons a as => cases f <;> rfl
    | nil =>
      cases kws with
      | cons a as => cases f <;> rfl
      | nil => simp [isCall0] at h
  | _ => rfl
theorem sub_plain {e : Expr} (h : sliceB e = true) : PlainIx e := by
  intro o i
  cases e <;> first | rfl | (simp [sliceB] at h)
theorem tru_plain {e : Expr} {env : PySem.Env} (h : truB e = true) : ∀ t, isTrue e env t = (do let v ← t; standAt e.pos; holding [v] (truthy v)) := by
  intro t
  cases e with
  | UnaryOp o a p => cases o <;> first | rfl | (simp [truB] at h)
  | BoolOp _ _ _ => simp [truB] at h
  | IfExp _ _ _ _ => simp [truB] at h
  | Compare _ _ _ _ => simp [truB] at h
  | _ => rfl
theorem boot_bi (b : Bi) : bootBuiltins (biName b) = some (biVal b) := by cases b <;> decide +kernel
theorem bi_blts (b : Bi) : biName b ∈ blts := by cases b <;> decide +kernel
theorem bi_name (b : Bi) : biName b ≠ "__name__" ∧ (biName b == ("__debug__" : Str)) = false := by cases b <;> decide +kernel

section
variable {P : Program} {w : World} {K : PySem.W.Frag} {mg : Str → Option Value} {base : Heap} {k : Nat} {F : Tb} {C : SC} {X : Cx} {gl : Str → Bool} {fp : Str → Bool} {kw : Str → Nat → List Str → List Nat → Bool}
theorem COk.blt (G : GOk P w K mg base k F gl fp kw) (ok : COk P w K mg base k C X) {x : Str} (h : x ∈ blts) : X.mg x = none := by
  rw [ok.mg]; exact G.blt x h
/-! ### argument lists -/
theorem sd_nil : PA X [] (tEs K F .nil) := pa_nil.imp fun σ H Q hq => by
  obtain ⟨O, A, B, ρ, st, T, ds, ρ', st', R, e, q⟩ := hq
  simp only [evEs] at e
  cases e
  exact q [] A B H (Px.refl _) (Ex.refl _) R .nil
theorem sd_cons {e : Expr} {es : List Expr} {p : E} {ps : Es} (hs : starB e = true) (he : PE X e (tE K F p)) (hes : PA X es (tEs K F ps)) : PA X (e :: es) (tEs K F (.cons p ps)) :=
  (pa_cons he hes (star_cons hs)).imp fun σ H Q hq => by
    obtain ⟨O, A, B, ρ, st, T, ds, ρ', st', R, e, q⟩ := hq
    simp only [evEs] at e
    obtain ⟨⟨x, ρ1, st1⟩, e1, e⟩ := bindS e
    obtain ⟨⟨xs, ρ2, st2⟩, e2, e⟩ := bindS e
    cases e
    refine tE_V R e1 fun v A1 B1 H1 hA1 hB1 R1 h1 => ?_
    exact ⟨O, A1, B1, ρ1, st1, T, xs, _, _, R1, e2, fun vs A2 B2 H2 hA2 hB2 R2 h2 => q _ A2 B2 H2 (hA1.trans hA2) (hB1.trans hB2) R2 (.cons (h1.mono hA2 hB2) h2)⟩
theorem tEs_of {p : Es} {σ : L2.St} {H : Hp} {Q : List V → Hp → Prop} {O : Org} {A : List Addr} {B : Hp} {ρ : Env} {st : Sto} {T : List (Addr × List D)} {ds : List D} {ρ' : Env} {st' : Sto} (R : Rel K O A B σ H ρ st T) (e : evEs F p ρ st = some (ds, ρ', st'))
    (q : ∀ vs A' B' H', Px A A' → Ex B B' → Rel K O A' B' σ H' ρ' st' T → HoL K A' B' vs ds → Q vs H') : tEs K F p σ H Q := ⟨O, A, B, ρ, st, T, ds, ρ', st', R, e, q⟩
theorem sd_tup {es : List Expr} {ps : Es} {j : Nat} {pos : Pos} (h : PA X es (tEs K F ps)) : PE X (.Tuple es j pos) (tE K F (.tup ps)) := (pe_tupF h).imp fun σ H Q hq => by
  obtain ⟨O, A, B, ρ, st, T, fr, d, ρ', st', R, e, q⟩ := hq
  simp only [evE] at e
  obtain ⟨⟨xs, ρ1, st1⟩, e1, e⟩ := bindS e
  simp only at e
  split at e
  · rename_i hl
    cases e
    refine tEs_of R e1 fun vs A1 B1 H1 hA1 hB1 R1 h1 => ⟨by rw [h1.length]; exact lim_le hl, fun p o hp ho => q _ _ _ _ hA1 (hB1.trans (Ex.new (R1.bfresh hp))) (.tup R1 hp ho h1)⟩
  · cases e
theorem sd_lst {es : List Expr} {ps : Es} {pos : Pos} (h : PA X es (tEs K F ps)) : PE X (.List es pos) (tE K F (.lst ps)) := (pe_lst h).imp fun σ H Q hq => by
  obtain ⟨O, A, B, ρ, st, T, fr, d, ρ', st', R, e, q⟩ := hq
  simp only [evE] at e
  obtain ⟨⟨xs, ρ1, st1⟩, e1, e⟩ := bindS e
  simp only at e
  split at e
  · rename_i hl
    cases e
    refine tEs_of R e1 fun vs A1 B1 H1 hA1 hB1 R1 h1 => ⟨by rw [h1.length]; exact lim_le hl, fun p hp => q _ _ _ _ hA1 hB1 (.new R1 hp h1)⟩
  · cases e
theorem sd_share {x : Expr} {p : E} (h : PE X x (tE K F p)) : PE X x (tE K F (.share p)) := h.imp fun σ H Q hq => by
  obtain ⟨O, A, B, ρ, st, T, fr, d, ρ', st', R, e, q⟩ := hq
  simp only [evE] at e
  obtain ⟨⟨fr1, d1, ρ1, st1⟩, e1, e⟩ := bindS e
  simp only at e
  split at e
  · rename_i xs
    cases e
    refine ⟨O, A, B, ρ, st, T, true, .lst xs, _, _, R, e1, fun v A' B' H' hA hB hp => ?_⟩
    unfold EPost at hp
    rw [if_pos rfl] at hp
    obtain ⟨a, ys, rfl, hy, R'⟩ := hp
    cases hy
    obtain ⟨R2, h2⟩ := R'.share
    exact q _ _ _ _ (hA.trans Px.app) hB (.val R2 h2)
  · cases e
/-! ### tests, connectives -/
theorem sd_tru (ok : COk P w K mg base k C X) {x : Expr} {p : E} (hx : truB x = true) (h : PE X x (tE K F p)) : PT X x (tCn K F (.e p)) := by
  obtain rfl := ok.K
  refine (pt_truth h (tru_plain hx)).imp fun σ H Q hq => ?_
  obtain ⟨O, A, B, ρ, st, T, b, ρ', st', R, e, q⟩ := hq
  simp only [evT] at e
  obtain ⟨⟨d, ρ1, st1⟩, e1, e⟩ := bindS e
  obtain ⟨t, e2, e⟩ := bindS e
  cases e
  refine tE_V R e1 fun v A1 B1 H1 hA1 hB1 R1 h1 => ?_
  exact ⟨b, tru_ho R1.ex h1 e2, q A1 B1 H1 hA1 hB1 R1⟩
theorem sd_ntC {x : Expr} {c : Cn} {pos : Pos} (h : PT X x (tCn K F c)) : PT X (.UnaryOp .Not x pos) (tCn K F (.nt c)) := (pt_not h).imp fun σ H Q hq => by
  obtain ⟨O, A, B, ρ, st, T, b, ρ', st', R, e, q⟩ := hq
  simp only [evT] at e
  obtain ⟨⟨t, ρ1, st1⟩, e1, e⟩ := bindS e
  cases e
  exact ⟨O, A, B, ρ, st, T, t, _, _, R, e1, q⟩
theorem sd_anC {x y : Expr} {rest : List Expr} {c d : Cn} {pos : Pos} (h : PT X x (tCn K F c)) (h' : PW X (.BoolOp .And (y :: rest) pos) (tCn K F d)) : PW X (.BoolOp .And (x :: y :: rest) pos) (tCn K F (.an c d)) := (pw_and h h').imp fun σ H Q hq => by
  obtain ⟨O, A, B, ρ, st, T, b, ρ', st', R, e, q⟩ := hq
  simp only [evT] at e
  obtain ⟨⟨t, ρ1, st1⟩, e1, e⟩ := bindS e
  refine ⟨O, A, B, ρ, st, T, t, ρ1, st1, R, e1, fun A1 B1 H1 hA1 hB1 R1 => ?_⟩
  cases t with
  | true =>
    rw [if_pos rfl]
    exact ⟨O, A1, B1, ρ1, st1, T, b, ρ', st', R1, e, fun A2 B2 H2 hA2 hB2 R2 => q A2 B2 H2 (hA1.trans hA2) (hB1.trans hB2) R2⟩
  | false =>
    cases e
    rw [if_neg Bool.false_ne_true]
    exact q A1 B1 H1 hA1 hB1 R1
theorem sd_orC {x y : Expr} {rest : List Expr} {c d : Cn} {pos : Pos} (h : PT X x (tCn K F c)) (h' : PW X (.BoolOp .Or (y :: rest) pos) (tCn K F d)) : PW X (.BoolOp .Or (x :: y :: rest) pos) (tCn K F (.or c d)) := (pw_or h h').imp fun σ H Q hq => by
  obtain ⟨O, A, B, ρ, st, T, b, ρ', st', R, e, q⟩ := hq
  simp only [evT] at e
  obtain ⟨⟨t, ρ1, st1⟩, e1, e⟩ := bindS e
  refine ⟨O, A, B, ρ, st, T, t, ρ1, st1, R, e1, fun A1 B1 H1 hA1 hB1 R1 => ?_⟩
  cases t with
  | false =>
    rw [if_neg Bool.false_ne_true]
    exact ⟨O, A1, B1, ρ1, st1, T, b, ρ', st', R1, e, fun A2 B2 H2 hA2 hB2 R2 => q A2 B2 H2 (hA1.trans hA2) (hB1.trans hB2) R2⟩
  | true =>
    cases e
    rw [if_pos rfl]
    exact q A1 B1 H1 hA1 hB1 R1
theorem sd_nt (ok : COk P w K mg base k C X) {x : Expr} {p : E} {pos : Pos} (h : PE X x (tE K F p)) (hx : truB x = true) : PE X (.UnaryOp .Not x pos) (tE K F (.nt p)) := by
  obtain rfl := ok.K
  refine (pe_notT h).imp fun σ H Q hq => ?_
  obtain ⟨O, A, B, ρ, st, T, fr, d, ρ', st', R, e, q⟩ := hq
  simp only [evE] at e
  obtain ⟨⟨d1, ρ1, st1⟩, e1, e⟩ := bindS e
  obtain ⟨t, e2, e⟩ := bindS e
  cases e
  refine tE_V R e1 fun v A1 B1 H1 hA1 hB1 R1 h1 => ?_
  exact ⟨t, tru_ho R1.ex h1 e2, q _ A1 B1 H1 hA1 hB1 (.val R1 (.bl _))⟩
theorem sd_an {x y : Expr} {rest : List Expr} {p p' : E} {pos : Pos} (h : PE X x (tE K F p)) (h' : PE X (.BoolOp .And (y :: rest) pos) (tE K F p')) : PE X (.BoolOp .And (x :: y :: rest) pos) (tE K F (.an p p')) := (pe_and h h').imp fun σ H Q hq => by
  obtain ⟨O, A, B, ρ, st, T, fr, d, ρ', st', R, e, q⟩ := hq
  simp only [evE] at e
  obtain ⟨⟨x1, ρ1, st1⟩, e1, e⟩ := bindS e
  refine tE_V R e1 fun v A1 B1 H1 hA1 hB1 R1 h1 => ?_
  simp only at e
  split at e
  · cases h1
    refine ⟨true, rfl, ?_⟩
    rw [if_pos rfl]
    obtain ⟨⟨d2, ρ2, st2⟩, e2, e3⟩ := mapS e
    cases e3
    exact tE_V R1 e2 fun v A2 B2 H2 hA2 hB2 R2 h2 => q _ _ _ _ (hA1.trans hA2) (hB1.trans hB2) (.val R2 h2)
  · cases h1
    refine ⟨false, rfl, ?_⟩
    rw [if_neg Bool.false_ne_true]
    cases e
    exact q _ _ _ _ hA1 hB1 (.val R1 (.bl _))
  · cases e
theorem sd_or {x y : Expr} {rest : List Expr} {p p' : E} {pos : Pos} (h : PE X x (tE K F p)) (h' : PE X (.BoolOp .Or (y :: rest) pos) (tE K F p')) : PE X (.BoolOp .Or (x :: y :: rest) pos) (tE K F (.or p p')) := (pe_or h h').imp fun σ H Q hq => by
  obtain ⟨O, A, B, ρ, st, T, fr, d, ρ', st', R, e, q⟩ := hq
  simp only [evE] at e
  obtain ⟨⟨x1, ρ1, st1⟩, e1, e⟩ := bindS e
  refine tE_V R e1 fun v A1 B1 H1 hA1 hB1 R1 h1 => ?_
  simp only at e
  split at e
  · cases h1
    refine ⟨true, rfl, ?_⟩
    rw [if_pos rfl]
    cases e
    exact q _ _ _ _ hA1 hB1 (.val R1 (.bl _))
  · cases h1
    refine ⟨false, rfl, ?_⟩
    rw [if_neg Bool.false_ne_true]
    obtain ⟨⟨d2, ρ2, st2⟩, e2, e3⟩ := mapS e
    cases e3
    exact tE_V R1 e2 fun v A2 B2 H2 hA2 hB2 R2 h2 => q _ _ _ _ (hA1.trans hA2) (hB1.trans hB2) (.val R2 h2)
  · cases e
theorem sd_ite {c x y : Expr} {pc : Cn} {p p' : E} {pos : Pos} (hc : PT X c (tCn K F pc)) (h : PE X x (tE K F p)) (h' : PE X y (tE K F p')) : PE X (.IfExp c x y pos) (tE K F (.ite pc p p')) := (pe_ifExp hc h h').imp fun σ H Q hq => by
  obtain ⟨O, A, B, ρ, st, T, fr, d, ρ', st', R, e, q⟩ := hq
  simp only [evE] at e
  obtain ⟨⟨t, ρ1, st1⟩, e1, e⟩ := bindS e
  refine ⟨O, A, B, ρ, st, T, t, ρ1, st1, R, e1, fun A1 B1 H1 hA1 hB1 R1 => ?_⟩
  cases t with
  | true =>
    rw [if_pos rfl]
    exact ⟨O, A1, B1, ρ1, st1, T, fr, d, ρ', st', R1, e, fun v A2 B2 H2 hA2 hB2 R2 => q v A2 B2 H2 (hA1.trans hA2) (hB1.trans hB2) R2⟩
  | false =>
    rw [if_neg Bool.false_ne_true]
    exact ⟨O, A1, B1, ρ1, st1, T, fr, d, ρ', st', R1, e, fun v A2 B2 H2 hA2 hB2 R2 => q v A2 B2 H2 (hA1.trans hA2) (hB1.trans hB2) R2⟩
theorem sd_neg {x : Expr} {p : E} {pos : Pos} (h : PE X x (tE K F p)) : PE X (.UnaryOp .USub x pos) (tE K F (.neg p)) := (pe_un un_neg h).imp fun σ H Q hq => by
  obtain ⟨O, A, B, ρ, st, T, fr, d, ρ', st', R, e, q⟩ := hq
  simp only [evE] at e
  obtain ⟨⟨x1, ρ1, st1⟩, e1, e⟩ := bindS e
  refine tE_V R e1 fun v A1 B1 H1 hA1 hB1 R1 h1 => ?_
  simp only at e
  split at e
  · cases h1
    cases e
    exact ⟨_, rfl, q _ _ _ _ hA1 hB1 (.val R1 (.int _))⟩
  · cases e
/-! ### built-in functions -/
theorem sd_bi (G : GOk P w K mg base k F gl fp kw) (ok : COk P w K mg base k C X) {b : Bi} {y : Expr} {ys : List Expr} {ps : Es} {q pos : Pos} (hg : glB C.sc (biName b) = true) (hs : (y :: ys).all starB = true) (h : PA X (y :: ys) (tEs K F ps)) :
    PE X (.Call (.Name (biName b) q) (y :: ys) [] pos) (tE K F (.bi b ps)) := by
  have hK := ok.K
  subst hK
  have hs' := all_cons_iff.mp hs
  have main : PE X (.Call (.Name (biName b) q) (y :: ys) [] pos) (tCB (rBi X.K b) (tEs X.K F ps)) := by
    have h1 := ok.gl hg
    have h2 := ok.blt G (bi_blts b)
    have h3 := boot_bi b
    have h4 := bi_name b
    have h5 := callR_all ok.calm ok.units b
    cases hv : biVal b with
    | builtin id =>
      rw [hv] at h3 h5
      exact pe_callB h5 h1 h2 h3 h h4.1 h4.2 (star_cons hs'.1) (back_any hs'.2)
    | type T =>
      rw [hv] at h3 h5
      exact pe_callTy h5 h1 h2 h3 h h4.1 h4.2 (star_cons hs'.1) (back_any hs'.2)
    | _ => cases b <;> cases hv
  refine main.imp fun σ H Q hq => ?_
  obtain ⟨O, A, B, ρ, st, T, fr, d, ρ', st', R, e, q⟩ := hq
  simp only [evE] at e
  obtain ⟨⟨ds, ρ1, st1⟩, e1, e⟩ := bindS e
  obtain ⟨e, rfl, rfl⟩ := upS e
  refine tEs_of R e1 fun vs A1 B1 H1 hA1 hB1 R1 h1 => ?_
  exact ⟨O, A1, B1, σ, _, _, T, ds, fr, d, R1, h1, e, fun v A' B' H' hA hB hp => q v A' B' H' (hA1.trans hA) (hB1.trans hB) hp⟩
theorem sd_lenv (G : GOk P w K mg base k F gl fp kw) (ok : COk P w K mg base k C X) {i : Nat} {x : Str} {q p pos : Pos} (hg : glB C.sc "len" = true) (hv : C.var i x = true) : PE X (.Call (.Name "len" q) [.Name x p] [] pos) (tE K F (.lenv i)) := by
  have hK := ok.K
  subst hK
  have main : PE X (.Call (.Name "len" q) [.Name x p] [] pos) (tCB (fun xs H Q => ∃ x n, xs = [x] ∧ LenV X.K x H n ∧ Q (.int n) H) (tCons (tVar i) tNil)) :=
    pe_callB call_len (ok.gl hg) (ok.blt G (bi_blts .len)) (boot_bi .len) (pa_cons (ok.var hv) pa_nil (star_cons rfl)) (bi_name .len).1 (bi_name .len).2 (star_cons rfl) rfl
  refine main.imp fun σ H Q hq => ?_
  obtain ⟨O, A, B, ρ, st, T, fr, d, ρ', st', R, e, q⟩ := hq
  simp only [evE] at e
  obtain ⟨sl, e1, e⟩ := bindS e
  obtain ⟨ys, e2, e⟩ := bindS e
  cases e
  obtain ⟨a, vs, h1, h2, h3⟩ := R.sigma e1 e2
  refine ⟨_, h1, _, ys.length, rfl, ?_, q _ _ _ _ (Px.refl _) (Ex.refl _) (.val R (.int _))⟩
  rcases h2 with h2 | h2
  · exact .inl ⟨vs, h2, h3.length.symm⟩
  · exact .inr ⟨vs, h2, h3.length.symm⟩
/-! ### items -/
theorem sd_ix (ok : COk P w K mg base k C X) {a b : Expr} {pa pb : E} {pos : Pos} (ha : PE X a (tE K F pa)) (hb : PE X b (tE K F pb)) (hs : sliceB b = true) : PE X (.Subscript a b pos) (tE K F (.ix pa pb)) := by
  obtain rfl := ok.K
  refine (pe_ix ixR_item ha hb (sub_plain hs)).imp fun σ H Q hq => ?_
  obtain ⟨O, A, B, ρ, st, T, fr, d, ρ', st', R, e, q⟩ := hq
  simp only [evE] at e
  obtain ⟨⟨x, ρ1, st1⟩, e1, e⟩ := bindS e
  obtain ⟨⟨y, ρ2, st2⟩, e2, e⟩ := bindS e
  obtain ⟨d', e3, e4⟩ := mapS e
  cases e4
  refine tE_V R e1 fun v A1 B1 H1 hA1 hB1 R1 h1 => ?_
  refine tE_V R1 e2 fun u A2 B2 H2 hA2 hB2 R2 h2 => ?_
  have h1 := h1.mono hA2 hB2
  have q := fun v h => q v A2 B2 H2 (hA1.trans hA2) (hB1.trans hB2) h
  cases y with
  | int i =>
    cases h2
    refine ⟨A2, B2, i, rfl, ?_⟩
    cases x with
    | lst xs =>
      obtain ⟨p, rfl⟩ := h1.isLst
      obtain ⟨vs, _, g1, g2⟩ := h1.lstH R2.ex
      exact .inl ⟨p, vs, xs, d, rfl, .inl (SqL.of g1), g2, e3, fun v hv => q v (.val R2 hv)⟩
    | tup xs =>
      obtain ⟨p, rfl⟩ := h1.isTup
      obtain ⟨vs, g1, g2⟩ := h1.tupH R2.ex
      exact .inl ⟨p, vs, xs, d, rfl, .inr g1, g2, e3, fun v hv => q v (.val R2 hv)⟩
    | str s =>
      cases h1
      simp only [ixD] at e3
      split at e3
      · rename_i hl
        obtain ⟨c, e4, e5⟩ := mapS e3
        cases e5
        exact .inr ⟨s, c, rfl, hl, e4, q _ (.val R2 (.str _))⟩
      · cases e3
    | hd n =>
      cases h1 with | hd ha =>
      simp only [ixD] at e3
      cases z : st2[n]? with
      | none => rw [z] at e3; cases e3
      | some xs =>
        rw [z] at e3
        obtain ⟨a', vs, f1, f2, f3, _⟩ := R2.updH z
        rw [ha] at f1; cases f1
        exact .inl ⟨_, vs, xs, d, rfl, .inl (SqL.of f2), f3, e3, fun v hv => q v (.val R2 hv)⟩
    | _ => cases e3
  | _ => cases x <;> cases e3
theorem sd_ixv (ok : COk P w K mg base k C X) {i : Nat} {x : Str} {b : Expr} {pb : E} {p pos : Pos} (hv : C.var i x = true) (hb : PE X b (tE K F pb)) (hs : sliceB b = true) : PE X (.Subscript (.Name x p) b pos) (tE K F (.ixv i pb)) := by
  have hK := ok.K
  subst hK
  refine (pe_ix ixR_item (ok.var hv) hb (sub_plain hs)).imp fun σ H Q hq => ?_
  obtain ⟨O, A, B, ρ, st, T, fr, d, ρ', st', R, e, q⟩ := hq
  simp only [evE] at e
  obtain ⟨sl0, e1, e⟩ := bindS e
  obtain ⟨ys0, e2, e⟩ := bindS e
  obtain ⟨⟨y, ρ1, st1⟩, e3, e⟩ := bindS e
  obtain ⟨sl, e4, e⟩ := bindS e
  obtain ⟨ys, e5, e⟩ := bindS e
  obtain ⟨d', e6, e7⟩ := mapS e
  cases e7
  obtain ⟨a, vs, h1, _, _⟩ := R.sigma e1 e2
  refine ⟨_, h1, tE_V R e3 fun u A2 B2 H2 hA2 hB2 R2 h2 => ?_⟩
  obtain ⟨a2, vs2, g1, g2, g3⟩ := R2.sigma e4 e5
  rw [h1] at g1; cases g1
  cases y with
  | int j =>
    cases h2
    exact ⟨A2, B2, j, rfl, .inl ⟨a, vs2, ys, d, rfl, g2, g3, e6, fun v hv => q v _ _ _ hA2 hB2 (.val R2 hv)⟩⟩
  | _ => cases e6
/-! ### slices -/
theorem sd_no : PO X none (tEo K F .no) := po_none.imp fun σ H Q hq => by
  obtain ⟨O, A, B, ρ, st, T, d, ρ', st', R, e, q⟩ := hq
  simp only [evO] at e
  cases e
  exact q A B H (Px.refl _) (Ex.refl _) R
theorem sd_so {x : Expr} {p : E} (h : PE X x (tE K F p)) : PO X (some x) (tEo K F (.so p)) := (po_some h).imp fun σ H Q hq => by
  obtain ⟨O, A, B, ρ, st, T, d, ρ', st', R, e, q⟩ := hq
  simp only [evO] at e
  obtain ⟨⟨x, ρ1, st1⟩, e1, e⟩ := bindS e
  refine tE_V R e1 fun v A1 B1 H1 hA1 hB1 R1 h1 => ?_
  simp only at e
  split at e
  · cases h1
    cases e
    exact ⟨_, rfl, q A1 B1 H1 hA1 hB1 R1⟩
  · cases e
theorem sd_sl (ok : COk P w K mg base k C X) {a : Expr} {lo hi : Option Expr} {pa : E} {pl ph : Eo} {p2 pos : Pos} (ha : PE X a (tE K F pa)) (hl : PO X lo (tEo K F pl)) (hh : PO X hi (tEo K F ph)) : PE X (.Subscript a (.Slice lo hi none p2) pos) (tE K F (.sl pa pl ph)) := by
  obtain rfl := ok.K
  refine (pe_slice slR_all ha hl hh).imp fun σ H Q hq => ?_
  obtain ⟨O, A, B, ρ, st, T, fr, d, ρ', st', R, e, q⟩ := hq
  simp only [evE] at e
  obtain ⟨⟨x, ρ1, st1⟩, e1, e⟩ := bindS e
  obtain ⟨⟨l, ρ2, st2⟩, e2, e⟩ := bindS e
  obtain ⟨⟨u, ρ3, st3⟩, e3, e⟩ := bindS e
  obtain ⟨e, rfl, rfl⟩ := upS e
  refine tE_V R e1 fun v A1 B1 H1 hA1 hB1 R1 h1 => ?_
  refine ⟨O, A1, B1, _, _, T, l, _, _, R1, e2, fun A2 B2 H2 hA2 hB2 R2 => ?_⟩
  refine ⟨O, A2, B2, _, _, T, u, _, _, R2, e3, fun A3 B3 H3 hA3 hB3 R3 => ?_⟩
  exact ⟨O, A3, B3, σ, _, _, T, x, fr, d, R3, h1.mono (hA2.trans hA3) (hB2.trans hB3), e, fun v' A' B' H' hA hB hp => q v' A' B' H' (((hA1.trans hA2).trans hA3).trans hA) (((hB1.trans hB2).trans hB3).trans hB) hp⟩
end
end Pv

namespace Pv
open PySem PySem.Spec PyProof.Rows L2
open RZ (ItzT pi_zipA)
open RT (ItvT pi_revA)

/-! ## what is walked -/
section
variable {K : PySem.W.Frag} {A : List Addr} {B : Hp}
theorem len_none {xs : List D} {i : Nat} (h : xs.length ≤ i) : xs[i]? = none := List.getElem?_eq_none h
theorem walks_list {a : Addr} {xs : List D} (h : Ho K A B (.ref a) (.lst xs)) : Walks K (Itl K a) A B xs := fun i A1 B1 H hA hB hH => by
  have h1 := h.mono hA hB
  obtain ⟨vs, _, g1, g2⟩ := h1.lstH hH
  refine ⟨fun d e => ?_, fun hi => ⟨vs, SqL.of g1, by rw [g2.length]; exact hi⟩⟩
  obtain ⟨v, e1, e2⟩ := g2.get e
  refine ⟨⟨vs, v, SqL.of g1, e1⟩, fun x H' hy => ?_⟩
  obtain ⟨rfl, hy⟩ := hy
  have := (hy vs (SqL.of g1)).symm.trans e1
  cases this
  exact ⟨B1, Ex.refl _, Ex.refl _, hH, fun a h1 h2 => absurd h1 h2, e2⟩
theorem walks_tup {a : Addr} {xs : List D} (h : Ho K A B (.ref a) (.tup xs)) : Walks K (Itt K a) A B xs := fun i A1 B1 H hA hB hH => by
  have h1 := h.mono hA hB
  obtain ⟨vs, g1, g2⟩ := h1.tupH hH
  refine ⟨fun d e => ?_, fun hi => ⟨vs, g1, by rw [g2.length]; exact hi⟩⟩
  obtain ⟨v, e1, e2⟩ := g2.get e
  refine ⟨⟨vs, v, g1, e1⟩, fun x H' hy => ?_⟩
  obtain ⟨rfl, hy⟩ := hy
  have := (hy vs g1).symm.trans e1
  cases this
  exact ⟨B1, Ex.refl _, Ex.refl _, hH, fun a h1 h2 => absurd h1 h2, e2⟩
theorem walks_rev {a : Addr} {xs : List D} (h : Ho K A B (.ref a) (.lst xs)) : Walks K (Itv K a xs.length) A B xs.reverse := fun i A1 B1 H hA hB hH => by
  have h1 := h.mono hA hB
  obtain ⟨vs, _, g1, g2⟩ := h1.lstH hH
  refine ⟨fun d e => ?_, fun hi => by rw [List.length_reverse] at hi; exact hi⟩
  have hi : i < xs.length := by have := (List.getElem?_eq_some_iff.mp e).1; rwa [List.length_reverse] at this
  rw [List.getElem?_reverse hi] at e
  obtain ⟨v, e1, e2⟩ := g2.get e
  refine ⟨⟨hi, vs, v, SqL.of g1, e1⟩, fun x H' hy => ?_⟩
  obtain ⟨rfl, hy⟩ := hy
  have := (hy vs (SqL.of g1)).symm.trans e1
  cases this
  exact ⟨B1, Ex.refl _, Ex.refl _, hH, fun a h1 h2 => absurd h1 h2, e2⟩
theorem walks_revT {a : Addr} {xs : List D} (h : Ho K A B (.ref a) (.tup xs)) : Walks K (ItvT K a xs.length) A B xs.reverse := fun i A1 B1 H hA hB hH => by
  have h1 := h.mono hA hB
  obtain ⟨vs, g1, g2⟩ := h1.tupH hH
  refine ⟨fun d e => ?_, fun hi => by rw [List.length_reverse] at hi; exact hi⟩
  have hi : i < xs.length := by have := (List.getElem?_eq_some_iff.mp e).1; rwa [List.length_reverse] at this
  rw [List.getElem?_reverse hi] at e
  obtain ⟨v, e1, e2⟩ := g2.get e
  refine ⟨⟨hi, vs, v, g1, e1⟩, fun x H' hy => ?_⟩
  obtain ⟨rfl, hy⟩ := hy
  have := (hy vs g1).symm.trans e1
  cases this
  exact ⟨B1, Ex.refl _, Ex.refl _, hH, fun a h1 h2 => absurd h1 h2, e2⟩
theorem rng_get {n : Nat} {f : Nat → D} {i : Nat} {d : D} (e : ((List.range n).map f)[i]? = some d) : i < n ∧ d = f i := by
  rw [List.getElem?_map] at e
  by_cases h : i < n
  · rw [List.getElem?_range h] at e; cases e; exact ⟨h, rfl⟩
  · rw [List.getElem?_eq_none (by simpa using h)] at e; cases e
theorem walks_rng1 {lo hi : Int} : Walks K (Itr lo (hi - lo).toNat) A B (rngL lo hi 1) := fun i A1 B1 H hA hB hH => by
  have hn : rngN lo hi 1 = (hi - lo).toNat := by unfold rngN; rw [PyProof.Rows.rangeSize_nat]; exact Int.toNat_natCast _
  refine ⟨fun d e => ?_, fun h => by unfold rngL at h; rw [List.length_map, List.length_range, hn] at h; exact h⟩
  unfold rngL at e
  obtain ⟨h1, rfl⟩ := rng_get e
  rw [hn] at h1
  refine ⟨h1, fun x H' hy => ?_⟩
  obtain ⟨rfl, rfl⟩ := hy
  exact ⟨B1, Ex.refl _, Ex.refl _, hH, fun a h1 h2 => absurd h1 h2, by rw [Int.mul_one]; exact .int _⟩
theorem walks_rng {lo hi c : Int} : Walks K (Itc lo c (rngN lo hi c)) A B (rngL lo hi c) := fun i A1 B1 H hA hB hH => by
  refine ⟨fun d e => ?_, fun h => by unfold rngL at h; rw [List.length_map, List.length_range] at h; exact h⟩
  unfold rngL at e
  obtain ⟨h1, rfl⟩ := rng_get e
  refine ⟨h1, fun x H' hy => ?_⟩
  obtain ⟨rfl, rfl⟩ := hy
  exact ⟨B1, Ex.refl _, Ex.refl _, hH, fun a h1 h2 => absurd h1 h2, .int _⟩
theorem enum_get : ∀ {xs : List D} {n i : Nat} {d : D}, (enumL n xs)[i]? = some d → ∃ x, xs[i]? = some x ∧ d = .itm [.int ((n + i : Nat) : Int), x]
  | [], _, _, _, e => by simp [enumL] at e
  | x :: xs, n, 0, d, e => by
    simp [enumL] at e
    exact ⟨x, rfl, by rw [← e]; simp⟩
  | x :: xs, n, i + 1, d, e => by
    simp only [enumL, List.getElem?_cons_succ] at e
    obtain ⟨y, h1, h2⟩ := enum_get e
    exact ⟨y, by simpa using h1, by rw [h2, Nat.add_assoc, Nat.add_comm 1 i]⟩
theorem enum_len : ∀ (xs : List D) (n : Nat), (enumL n xs).length = xs.length
  | [], _ => rfl
  | x :: xs, n => by simp [enumL, enum_len xs]
theorem pair_new {B1 H : Hp} {A1 : List Addr} {T : Addr} {v u : V} {d e : D} (hH : Ex B1 H) (hT : H T = none) (h1 : Ho K A1 B1 v d) (h2 : Ho K A1 B1 u e) :
    ∃ B2, Ex B1 B2 ∧ Ex H (upd H T (.tup [v, u])) ∧ Ex B2 (upd H T (.tup [v, u])) ∧ (∀ a, B1 a = none → B2 a ≠ none → H a = none) ∧ Ho K A1 B2 (.ref T) (.itm [d, e]) := by
  have hB : B1 T = none := hH.back hT
  refine ⟨upd B1 T (.tup [v, u]), Ex.new hB, Ex.new hT, hH.upd2, fun a h3 h4 => ?_, .itm (SqT.of upd_same) (.cons (h1.mono (Px.refl _) (Ex.new hB)) (.cons (h2.mono (Px.refl _) (Ex.new hB)) .nil))⟩
  by_cases q : a = T
  · rw [q]; exact hT
  · rw [upd_ne q] at h4; exact absurd h3 h4
theorem walks_enum {a : Addr} {xs : List D} (h : Ho K A B (.ref a) (.lst xs)) : Walks K (Ite K a) A B (enumL 0 xs) := fun i A1 B1 H hA hB hH => by
  have h1 := h.mono hA hB
  obtain ⟨vs, _, g1, g2⟩ := h1.lstH hH
  refine ⟨fun d e => ?_, fun hi => ⟨vs, SqL.of g1, by rw [g2.length]; rwa [enum_len] at hi⟩⟩
  obtain ⟨x, ex, rfl⟩ := enum_get e
  obtain ⟨v, e1, e2⟩ := g2.get ex
  refine ⟨⟨vs, v, SqL.of g1, e1⟩, fun z H' hy => ?_⟩
  obtain ⟨T, u, rfl, hT, rfl, hy⟩ := hy
  have := (hy vs (SqL.of g1)).symm.trans e1
  cases this
  rw [Nat.zero_add]
  exact pair_new hH hT (.int _) e2
theorem walks_enumT {a : Addr} {xs : List D} (h : Ho K A B (.ref a) (.tup xs)) : Walks K (IteT K a) A B (enumL 0 xs) := fun i A1 B1 H hA hB hH => by
  have h1 := h.mono hA hB
  obtain ⟨vs, g1, g2⟩ := h1.tupH hH
  refine ⟨fun d e => ?_, fun hi => ⟨vs, g1, by rw [g2.length]; rwa [enum_len] at hi⟩⟩
  obtain ⟨x, ex, rfl⟩ := enum_get e
  obtain ⟨v, e1, e2⟩ := g2.get ex
  refine ⟨⟨vs, v, g1, e1⟩, fun z H' hy => ?_⟩
  obtain ⟨T, u, rfl, hT, rfl, hy⟩ := hy
  have := (hy vs g1).symm.trans e1
  cases this
  rw [Nat.zero_add]
  exact pair_new hH hT (.int _) e2
theorem zip_get : ∀ {xs ys : List D} {i : Nat} {d : D}, (zipL xs ys)[i]? = some d → ∃ x y, xs[i]? = some x ∧ ys[i]? = some y ∧ d = .itm [x, y]
  | [], _, _, _, e => by simp [zipL] at e
  | _ :: _, [], _, _, e => by simp [zipL] at e
  | x :: xs, y :: ys, 0, d, e => by
    simp [zipL] at e
    exact ⟨x, y, rfl, rfl, e.symm⟩
  | x :: xs, y :: ys, i + 1, d, e => by
    simp only [zipL, List.getElem?_cons_succ] at e
    obtain ⟨u, v, h1, h2, h3⟩ := zip_get e
    exact ⟨u, v, by simpa using h1, by simpa using h2, h3⟩
theorem zip_len : ∀ (xs ys : List D), (zipL xs ys).length = min xs.length ys.length
  | [], _ => by simp [zipL]
  | _ :: _, [] => by simp [zipL]
  | x :: xs, y :: ys => by simp [zipL, zip_len xs ys, Nat.succ_min_succ]
theorem walks_zip {a b : Addr} {xs ys : List D} (h : Ho K A B (.ref a) (.lst xs)) (h' : Ho K A B (.ref b) (.lst ys)) : Walks K (Itz K a b) A B (zipL xs ys) := fun i A1 B1 H hA hB hH => by
  have h1 := h.mono hA hB
  have h2 := h'.mono hA hB
  obtain ⟨vs, _, g1, g2⟩ := h1.lstH hH
  obtain ⟨ws, _, g3, g4⟩ := h2.lstH hH
  refine ⟨fun d e => ?_, fun hi => ⟨vs, ws, SqL.of g1, SqL.of g3, by rw [g2.length, g4.length]; rw [zip_len] at hi; omega⟩⟩
  obtain ⟨x, y, ex, ey, rfl⟩ := zip_get e
  obtain ⟨v, e1, e2⟩ := g2.get ex
  obtain ⟨u, e3, e4⟩ := g4.get ey
  refine ⟨⟨vs, ws, v, u, SqL.of g1, SqL.of g3, e1, e3⟩, fun z H' hy => ?_⟩
  obtain ⟨T, v', u', rfl, hT, rfl, hy, hy'⟩ := hy
  have := (hy vs (SqL.of g1)).symm.trans e1
  cases this
  have := (hy' ws (SqL.of g3)).symm.trans e3
  cases this
  exact pair_new hH hT e2 e4
theorem walks_zipT {a b : Addr} {xs ys : List D} (h : Ho K A B (.ref a) (.tup xs)) (h' : Ho K A B (.ref b) (.tup ys)) : Walks K (ItzT K a b) A B (zipL xs ys) := fun i A1 B1 H hA hB hH => by
  have h1 := h.mono hA hB
  have h2 := h'.mono hA hB
  obtain ⟨vs, g1, g2⟩ := h1.tupH hH
  obtain ⟨ws, g3, g4⟩ := h2.tupH hH
  refine ⟨fun d e => ?_, fun hi => ⟨vs, ws, g1, g3, by rw [g2.length, g4.length]; rw [zip_len] at hi; omega⟩⟩
  obtain ⟨x, y, ex, ey, rfl⟩ := zip_get e
  obtain ⟨v, e1, e2⟩ := g2.get ex
  obtain ⟨u, e3, e4⟩ := g4.get ey
  refine ⟨⟨vs, ws, v, u, g1, g3, e1, e3⟩, fun z H' hy => ?_⟩
  obtain ⟨T, v', u', rfl, hT, rfl, hy, hy'⟩ := hy
  have := (hy vs g1).symm.trans e1
  cases this
  have := (hy' ws g3).symm.trans e3
  cases this
  exact pair_new hH hT e2 e4
end

section
variable {P : Program} {w : World} {K : PySem.W.Frag} {mg : Str → Option Value} {base : Heap} {k : Nat} {F : Tb} {C : SC} {X : Cx} {gl : Str → Bool} {fp : Str → Bool} {kw : Str → Nat → List Str → List Nat → Bool}
theorem PI.or {X : Cx} {tg e : Expr} {t t' : TI} (h : PI X tg e t) (h' : PI X tg e t') : PI X tg e (fun σ H R => t σ H R ∨ t' σ H R) :=
  ⟨fun pins s σ H R I hw => hw.elim (fun q => h.run pins s σ H R I q) fun q => h'.run pins s σ H R I q⟩
theorem sd_val (ok : COk P w K mg base k C X) {tg x : Expr} {p : E} (h : PE X x (tE K F p)) : PI X tg x (tI K F (.val p)) := by
  obtain rfl := ok.K
  refine (PI.or (pi_list h) (pi_tup h)).imp fun σ H R hq => ?_
  obtain ⟨O, A, B, ρ, st, T, xs, ρ', st', R0, e, q⟩ := hq
  simp only [evI] at e
  obtain ⟨⟨d, ρ1, st1⟩, e1, e⟩ := bindS e
  obtain ⟨ys, e2, e⟩ := bindS e
  cases e
  cases d with
  | lst zs =>
    cases e2
    refine .inl (tE_V R0 e1 fun v A1 B1 H1 hA1 hB1 R1 h1 => ?_)
    obtain ⟨a, rfl⟩ := h1.isLst
    obtain ⟨vs, _, g1, _⟩ := h1.lstH R1.ex
    exact ⟨a, rfl, ⟨vs, SqL.of g1⟩, q _ A1 B1 H1 hA1 hB1 R1 (walks_list h1)⟩
  | tup zs =>
    cases e2
    refine .inr (tE_V R0 e1 fun v A1 B1 H1 hA1 hB1 R1 h1 => ?_)
    obtain ⟨a, rfl⟩ := h1.isTup
    obtain ⟨vs, g1, _⟩ := h1.tupH R1.ex
    exact ⟨a, rfl, ⟨vs, g1⟩, q _ A1 B1 H1 hA1 hB1 R1 (walks_tup h1)⟩
  | _ => cases e2
theorem tEs_one {p : Es} {σ : L2.St} {H : Hp} {Q : List V → Hp → Prop} {O : Org} {A : List Addr} {B : Hp} {ρ : Env} {st : Sto} {T : List (Addr × List D)} {d : D} {ρ' : Env} {st' : Sto} (R : Rel K O A B σ H ρ st T) (e : evEs F p ρ st = some ([d], ρ', st'))
    (q : ∀ v A' B' H', Px A A' → Ex B B' → Rel K O A' B' σ H' ρ' st' T → Ho K A' B' v d → Q [v] H') : tEs K F p σ H Q := tEs_of R e fun vs A' B' H' hA hB R' h => by
  obtain ⟨v, rfl, h1⟩ := h.one
  exact q v A' B' H' hA hB R' h1
theorem chEs_len : ∀ {ps : Es} {es : List Expr} {ρ : Env} {st : Sto} {ds : List D} {ρ' : Env} {st' : Sto}, chEs C ps es = true → evEs F ps ρ st = some (ds, ρ', st') → ds.length = es.length
  | .nil, [], _, _, _, _, _, _, e => by simp only [evEs] at e; cases e; rfl
  | .nil, _ :: _, _, _, _, _, _, h, _ => by simp [chEs] at h
  | .cons p ps, [], _, _, _, _, _, h, _ => by simp [chEs] at h
  | .cons p ps, x :: xs, _, _, _, _, _, h, e => by
    simp only [evEs] at e
    obtain ⟨⟨d, ρ1, st1⟩, e1, e⟩ := bindS e
    obtain ⟨⟨ds', ρ2, st2⟩, e2, e⟩ := bindS e
    cases e
    simp only [chEs, Bool.and_eq_true] at h
    simp [chEs_len h.2 e2]
theorem chEs_star : ∀ {ps : Es} {es : List Expr}, chEs C ps es = true → es.all starB = true
  | .nil, [], _ => rfl
  | .nil, _ :: _, h => by simp [chEs] at h
  | .cons p ps, [], h => by simp [chEs] at h
  | .cons p ps, x :: xs, h => by
    simp only [chEs, Bool.and_eq_true] at h
    rw [all_cons_iff]
    exact ⟨h.1.1, chEs_star h.2⟩
theorem star_list {es : List Expr} {env : PySem.Env} (h : es.all starB = true) : starEach es env = es.map fun e => (false, eval e env) := by
  induction es with
  | nil => rfl
  | cons e es ih =>
    rw [all_cons_iff] at h
    rw [star_cons h.1, ih h.2]; rfl
theorem sd_rng (G : GOk P w K mg base k F gl fp kw) (ok : COk P w K mg base k C X) {tg : Expr} {zs : List Expr} {ps : Es} {q0 pos : Pos} (hg : glB C.sc "range" = true) (hc : chEs C ps zs = true) (hl : zs.length = 1 ∨ zs.length = 2 ∨ zs.length = 3) (h : PA X zs (tEs K F ps)) :
    PI X tg (.Call (.Name "range" q0) zs [] pos) (tI K F (.rng ps)) := by
  have hm : X.mg "range" = none := ok.blt G (by decide +kernel)
  have hst := chEs_star hc
  match zs, hl, h, hc, hst with
  | [a], _, h, hc, hst =>
    refine (pi_range1 (ok.gl hg) hm h (star_list hst)).imp fun σ H R hq => ?_
    obtain ⟨O, A, B, ρ, st, T, xs, ρ', st', R0, e, q⟩ := hq
    simp only [evI] at e
    obtain ⟨⟨ds, ρ1, st1⟩, e1, e⟩ := bindS e
    obtain ⟨ys, e2, e⟩ := bindS e
    cases e
    have hlen := chEs_len hc e1
    match ds, hlen, e1, e2 with
    | [d], _, e1, e2 =>
      refine tEs_one R0 e1 fun v A1 B1 H1 hA1 hB1 R1 h1 => ?_
      cases d with
      | int n =>
        cases h1
        simp only [rngD] at e2
        split at e2
        · rename_i ho
          cases e2
          unfold rngOk at ho
          simp only [Bool.and_eq_true, decide_eq_true_eq] at ho
          have w0 : Walks K (Itr 0 n.toNat) A1 B1 (rngL 0 n 1) := by have := walks_rng1 (K := K) (A := A1) (B := B1) (lo := 0) (hi := n); rwa [Int.sub_zero] at this
          exact ⟨n, rfl, by omega, by omega, q _ A1 B1 H1 hA1 hB1 R1 w0⟩
        · cases e2
      | _ => cases e2
  | [a, b], _, h, hc, hst =>
    refine (pi_range2 (ok.gl hg) hm h (star_list hst) (star_list (all_cons_iff.mp hst).2)).imp fun σ H R hq => ?_
    obtain ⟨O, A, B, ρ, st, T, xs, ρ', st', R0, e, q⟩ := hq
    simp only [evI] at e
    obtain ⟨⟨ds, ρ1, st1⟩, e1, e⟩ := bindS e
    obtain ⟨ys, e2, e⟩ := bindS e
    cases e
    have hlen := chEs_len hc e1
    match ds, hlen, e1, e2 with
    | [d, d'], _, e1, e2 =>
      refine tEs_of R0 e1 fun vs A1 B1 H1 hA1 hB1 R1 hl => ?_
      obtain ⟨v, u, rfl, k1, k2⟩ := hl.two
      cases d with
      | int n =>
        cases d' with
        | int m =>
          cases k1; cases k2
          simp only [rngD] at e2
          split at e2
          · rename_i ho
            cases e2
            unfold rngOk at ho
            simp only [Bool.and_eq_true, decide_eq_true_eq] at ho
            exact ⟨n, m, rfl, by omega, q _ A1 B1 H1 hA1 hB1 R1 walks_rng1⟩
          · cases e2
        | _ => cases e2
      | _ => cases e2
  | [a, b, c], _, h, hc, hst =>
    refine (pi_range3 (ok.gl hg) hm h (star_cons (all_cons_iff.mp hst).1) (back_any (all_cons_iff.mp hst).2)).imp fun σ H R hq => ?_
    obtain ⟨O, A, B, ρ, st, T, xs, ρ', st', R0, e, q⟩ := hq
    simp only [evI] at e
    obtain ⟨⟨ds, ρ1, st1⟩, e1, e⟩ := bindS e
    obtain ⟨ys, e2, e⟩ := bindS e
    cases e
    have hlen := chEs_len hc e1
    match ds, hlen, e1, e2 with
    | [d, d', d''], _, e1, e2 =>
      refine tEs_of R0 e1 fun vs A1 B1 H1 hA1 hB1 R1 h1 => ?_
      cases h1 with | cons h1 h0 =>
      obtain ⟨u, z, rfl, h2, h3⟩ := h0.two
      cases d with
      | int n =>
        cases d' with
        | int m =>
          cases d'' with
          | int c =>
            cases h1; cases h2; cases h3
            simp only [rngD] at e2
            split at e2
            · rename_i ho
              cases e2
              unfold rngOk at ho
              simp only [Bool.and_eq_true, decide_eq_true_eq] at ho
              have hN : Builtin.Range.rangeSize n m c = (rngN n m c : Int) := by
                unfold rngN
                have : 0 ≤ Builtin.Range.rangeSize n m c := by
                  unfold Builtin.Range.rangeSize
                  split
                  · split
                    · have := Int.ediv_nonneg (a := m - n - 1) (b := c) (by omega) (by omega); omega
                    · exact Int.le_refl _
                  · split
                    · have := Int.ediv_nonneg (a := n - m - 1) (b := -c) (by omega) (by omega); omega
                    · exact Int.le_refl _
                omega
              exact ⟨n, m, c, rngN n m c, rfl, ⟨by omega, by omega, ho.2, hN⟩, q _ A1 B1 H1 hA1 hB1 R1 walks_rng⟩
            · cases e2
          | _ => cases e2
        | _ => cases d'' <;> cases e2
      | _ => cases d' <;> cases d'' <;> cases e2
theorem sd_enum (G : GOk P w K mg base k F gl fp kw) (ok : COk P w K mg base k C X) {es : List Expr} {kk : Nat} {tp : Pos} {z : Expr} {p : E} {q0 pos : Pos} (hg : glB C.sc "enumerate" = true) (hs : starB z = true) (h : PE X z (tE K F p)) :
    PI X (.Tuple es kk tp) (.Call (.Name "enumerate" q0) [z] [] pos) (tI K F (.enum p)) := by
  have hK := ok.K
  subst hK
  have hm : X.mg "enumerate" = none := ok.blt G (by decide +kernel)
  refine (pi_enumA (ok.gl hg) hm (sd_cons hs h sd_nil) (star_cons hs)).imp fun σ H R hq => ?_
  obtain ⟨O, A, B, ρ, st, T, xs, ρ', st', R0, e, q⟩ := hq
  simp only [evI] at e
  obtain ⟨⟨d, ρ1, st1⟩, e1, e⟩ := bindS e
  obtain ⟨ys, e2, e⟩ := bindS e
  cases e
  have e3 : evEs F (.cons p .nil) ρ st = some ([d], ρ1, st1) := by simp only [evEs, e1]; rfl
  refine tEs_one R0 e3 fun v A1 B1 H1 hA1 hB1 R1 h1 => ?_
  cases d with
  | lst zs =>
    cases e2
    obtain ⟨a, rfl⟩ := h1.isLst
    obtain ⟨vs, _, g1, _⟩ := h1.lstH R1.ex
    exact ⟨a, vs, rfl, .inl ⟨SqL.of g1, q _ A1 B1 H1 hA1 hB1 R1 (walks_enum h1)⟩⟩
  | tup zs =>
    cases e2
    obtain ⟨a, rfl⟩ := h1.isTup
    obtain ⟨vs, g1, g2⟩ := h1.tupH R1.ex
    exact ⟨a, vs, rfl, .inr ⟨g1, q _ A1 B1 H1 hA1 hB1 R1 (walks_enumT h1)⟩⟩
  | _ => cases e2
theorem sd_zip (G : GOk P w K mg base k F gl fp kw) (ok : COk P w K mg base k C X) {es : List Expr} {kk : Nat} {tp : Pos} {z z' : Expr} {p p' : E} {q0 pos : Pos} (hg : glB C.sc "zip" = true) (hs : starB z = true) (hs' : starB z' = true) (h : PE X z (tE K F p)) (h' : PE X z' (tE K F p')) :
    PI X (.Tuple es kk tp) (.Call (.Name "zip" q0) [z, z'] [] pos) (tI K F (.zip p p')) := by
  have hK := ok.K
  subst hK
  have hm : X.mg "zip" = none := ok.blt G (by decide +kernel)
  refine (pi_zipA (ok.gl hg) hm (sd_cons hs h (sd_cons hs' h' sd_nil)) (star_cons hs) (by rw [star_cons hs']; rfl)).imp fun σ H R hq => ?_
  obtain ⟨O, A, B, ρ, st, T, xs, ρ', st', R0, e, q⟩ := hq
  simp only [evI] at e
  obtain ⟨⟨d, ρ1, st1⟩, e1, e⟩ := bindS e
  obtain ⟨⟨d', ρ2, st2⟩, e2, e⟩ := bindS e
  have e3 : evEs F (.cons p (.cons p' .nil)) ρ st = some ([d, d'], ρ2, st2) := by simp [evEs, e1, e2]
  simp only at e
  refine tEs_of R0 e3 fun vs A1 B1 H1 hA1 hB1 R1 hl => ?_
  obtain ⟨v, u, rfl, k1, k2⟩ := hl.two
  split at e
  · cases e
    obtain ⟨a, rfl⟩ := k1.isLst
    obtain ⟨b, rfl⟩ := k2.isLst
    obtain ⟨vs, _, g1, _⟩ := k1.lstH R1.ex
    obtain ⟨ws, _, g2, _⟩ := k2.lstH R1.ex
    exact ⟨a, b, vs, ws, rfl, .inl ⟨SqL.of g1, SqL.of g2, q _ A1 B1 H1 hA1 hB1 R1 (walks_zip k1 k2)⟩⟩
  · cases e
    obtain ⟨a, rfl⟩ := k1.isTup
    obtain ⟨b, rfl⟩ := k2.isTup
    obtain ⟨vs, g1, _⟩ := k1.tupH R1.ex
    obtain ⟨ws, g2, _⟩ := k2.tupH R1.ex
    exact ⟨a, b, vs, ws, rfl, .inr ⟨g1, g2, q _ A1 B1 H1 hA1 hB1 R1 (walks_zipT k1 k2)⟩⟩
  · cases e
theorem sd_rev (G : GOk P w K mg base k F gl fp kw) (ok : COk P w K mg base k C X) {tg : Expr} {z : Expr} {p : E} {q0 pos : Pos} (hg : glB C.sc "reversed" = true) (hs : starB z = true) (h : PE X z (tE K F p)) :
    PI X tg (.Call (.Name "reversed" q0) [z] [] pos) (tI K F (.rev p)) := by
  have hK := ok.K
  subst hK
  have hm : X.mg "reversed" = none := ok.blt G (by decide +kernel)
  refine (pi_revA (ok.gl hg) hm h (star_cons hs)).imp fun σ H R hq => ?_
  obtain ⟨O, A, B, ρ, st, T, xs, ρ', st', R0, e, q⟩ := hq
  simp only [evI] at e
  obtain ⟨⟨d, ρ1, st1⟩, e1, e⟩ := bindS e
  obtain ⟨ys, e2, e⟩ := bindS e
  cases e
  refine tE_V R0 e1 fun v A1 B1 H1 hA1 hB1 R1 h1 => ?_
  cases d with
  | lst zs =>
    cases e2
    obtain ⟨a, rfl⟩ := h1.isLst
    obtain ⟨vs, _, g1, g2⟩ := h1.lstH R1.ex
    refine ⟨a, vs, rfl, .inl ⟨SqL.of g1, ?_⟩⟩
    rw [g2.length]
    exact q _ A1 B1 H1 hA1 hB1 R1 (walks_rev h1)
  | tup zs =>
    cases e2
    obtain ⟨a, rfl⟩ := h1.isTup
    obtain ⟨vs, g1, g2⟩ := h1.tupH R1.ex
    refine ⟨a, vs, rfl, .inr ⟨g1, ?_⟩⟩
    rw [g2.length]
    exact q _ A1 B1 H1 hA1 hB1 R1 (walks_revT h1)
  | _ => cases e2
end
end Pv

namespace Pv
open PySem PySem.Spec PyProof.Rows L2

section
variable {P : Program} {w : World} {K : PySem.W.Frag} {mg : Str → Option Value} {base : Heap} {k : Nat} {F : Tb} {C : SC} {X : Cx} {gl : Str → Bool} {fp : Str → Bool} {kw : Str → Nat → List Str → List Nat → Bool}
/-! ### targets -/
theorem off_refl (sl : List Nat) (σ : L2.St) : off sl σ σ := ⟨rfl, fun _ _ => rfl⟩
theorem off_set (i : Nat) (σ : L2.St) (y : Option V) : off [i] σ (σ.set i y) := ⟨List.length_set, fun j hj => List.getElem?_set_ne (fun e => hj (by simp [e]))⟩
theorem off.trans {a b : List Nat} {σ σ1 σ2 : L2.St} (h : off a σ σ1) (h' : off b σ1 σ2) : off (a ++ b) σ σ2 :=
  ⟨h'.1.trans h.1, fun j hj => by
    rw [List.mem_append] at hj
    rw [h'.2 j (fun q => hj (.inr q)), h.2 j (fun q => hj (.inl q))]⟩
theorem tG_of {t : Tg} {v : V} {σ : L2.St} {H : Hp} {Q : L2.St → Hp → Prop} {O : Org} {A : List Addr} {B : Hp} {ρ : Env} {st : Sto} {T : List (Addr × List D)} {d : D} {ρ' : Env} {st' : Sto} (R : Rel K O A B σ H ρ st T) (h : Ho K A B v d) (e : evTg F t d ρ st = some (ρ', st'))
    (q : ∀ σ' A' B' H', Px A A' → Ex B B' → off t.slots σ σ' → Rel K O A' B' σ' H' ρ' st' T → Q σ' H') : tG K F t v σ H Q := ⟨O, A, B, ρ, st, T, d, ρ', st', R, h, e, q⟩
theorem asgN_val {i : Nat} {d : D} {ρ ρ' : Env} (h : asgN i false d ρ = some ρ') : i < ρ.length ∧ ρ' = ρ.set i (.val d) := by
  unfold asgN at h
  split at h
  · rename_i hi; cases h; exact ⟨hi, rfl⟩
  · cases h
theorem sd_n (ok : COk P w K mg base k C X) {i : Nat} {x : Str} {pos : Pos} (h : C.store i x = true) : PG X (.Name x pos) (tG K F (.n i)) := by
  unfold SC.store at h
  simp only [Bool.and_eq_true, decide_eq_true_eq] at h
  refine (pg_name (by rw [ok.N]; exact ok.nd) (by rw [ok.N]; exact h.1.1.1) (by rw [ok.sc]; exact loc_of h.1.1.2) (ok.tg x h.1.2)).imp fun v σ H Q hq => ?_
  obtain ⟨O, A, B, ρ, st, T, d, ρ', st', R, hv, e, q⟩ := hq
  simp only [evTg] at e
  obtain ⟨ρ1, e1, e2⟩ := mapS e
  cases e2
  obtain ⟨hi, rfl⟩ := asgN_val e1
  exact q _ A B H (Px.refl _) (Ex.refl _) (off_set i σ _) (R.setVal hv)
theorem Rel.slotL {O : Org} {A : List Addr} {B H : Hp} {σ : L2.St} {ρ : Env} {st : Sto} {T : List (Addr × List D)} (R : Rel K O A B σ H ρ st T) {i : Nat} {s : Sl} {ys : List D} (e : ρ[i]? = some s) (h : slotLst st s = some ys) :
    ∃ a vs, σ[i]? = some (some (.ref a)) ∧ H a = some (.lst vs) ∧ B a = none ∧ HoL K A B vs ys := by
  cases s with
  | no => cases h
  | own xs =>
    cases h
    obtain ⟨a, vs, h1, h2, h3, _⟩ := R.updSlot e
    have ci : cont ρ T st (.s i) = some ys := by simp only [cont, e]
    obtain ⟨a', e', o⟩ := R.own (.s i) ys ci
    simp only [adr, h1] at e'
    cases e'
    exact ⟨a, vs, h1, h2, o.1, h3⟩
  | val d =>
    cases d with
    | hd n =>
      obtain ⟨v, h1, h2⟩ := R.val i _ e
      cases h2 with | hd ha =>
      obtain ⟨a', vs, e1, e2, e3, _⟩ := R.updH (n := n) (xs := ys) h
      rw [ha] at e1; cases e1
      obtain ⟨a', e', o⟩ := R.own (.h n) ys h
      simp only [adr, ha] at e'
      cases e'
      exact ⟨_, vs, h1, e2, o.1, e3⟩
    | _ => cases h
theorem setIx_of {xs : List D} {kx d : D} {ys : List D} (h : setIx xs kx d = some ys) : ∃ i j, kx = .int i ∧ ixN xs.length i = some j ∧ ys = xs.set j d := by
  unfold setIx at h
  cases kx with
  | int i =>
    obtain ⟨j, h1, h2⟩ := mapS h
    exact ⟨i, j, rfl, h1, h2.symm⟩
  | _ => cases h
theorem sd_sub (ok : COk P w K mg base k C X) {i : Nat} {x : Str} {b : Expr} {pb : E} {p pos : Pos} (hv : C.var i x = true) (hb : PE X b (tE K F pb)) (hs : sliceB b = true) : PG X (.Subscript (.Name x p) b pos) (tG K F (.sub i pb)) := by
  refine (pg_sub (ok.var hv) hb set_list (fun v => by rw [assign_Subscript]; cases b <;> first | rfl | (simp [sliceB] at hs))).imp fun v σ H Q hq => ?_
  obtain ⟨O, A, B, ρ, st, T, d, ρ', st', R, hd, e, q⟩ := hq
  simp only [evTg] at e
  obtain ⟨sl0, e1, e⟩ := bindS e
  obtain ⟨ys0, e2, e⟩ := bindS e
  obtain ⟨⟨y, ρ1, st1⟩, e3, e⟩ := bindS e
  obtain ⟨a, vs, h1, _, _, _⟩ := R.slotL e1 e2
  refine ⟨_, h1, tE_V R e3 fun u A2 B2 H2 hA2 hB2 R2 h2 => ?_⟩
  have hd2 := hd.mono hA2 hB2
  unfold asgSub at e
  split at e
  · rename_i xs hz
    obtain ⟨ys, e4, e5⟩ := mapS e
    cases e5
    obtain ⟨j, n, rfl, hj, rfl⟩ := setIx_of e4
    cases h2
    obtain ⟨a2, ws, g1, g2, g3, g4⟩ := R2.updSlot hz
    rw [h1] at g1; cases g1
    exact ⟨a, ws, j, n, rfl, rfl, g2, by rw [g3.length]; exact hj, q σ A2 B2 _ hA2 hB2 (off_refl _ _) (g4 _ _ (g3.set hd2 n))⟩
  · rename_i n hs
    obtain ⟨xs, e4, e5⟩ := bindS e
    obtain ⟨ys, e6, e7⟩ := mapS e5
    cases e7
    obtain ⟨j, m, rfl, hj, rfl⟩ := setIx_of e6
    cases h2
    obtain ⟨v2, g5, g6⟩ := R2.val i _ hs
    rw [h1] at g5; cases g5
    cases g6 with | hd ha =>
    obtain ⟨a2, ws, g1, g2, g3, g4⟩ := R2.updH e4
    rw [ha] at g1; cases g1
    exact ⟨_, ws, j, m, rfl, rfl, g2, by rw [g3.length]; exact hj, q σ A2 B2 _ hA2 hB2 (off_refl _ _) (g4 _ _ (g3.set hd2 m))⟩
  · cases e
theorem asg_list {es : List Expr} {env : PySem.Env} (h : es.all starB = true) : assignEach es env = es.map fun e => (false, assign e env) := by
  induction es with
  | nil => rfl
  | cons e es ih =>
    rw [all_cons_iff] at h
    have : assignEach (e :: es) env = (false, assign e env) :: assignEach es env := by
      have h1 := h.1
      cases e <;> first | rfl | (simp [starB] at h1)
    rw [this, ih h.2]; rfl
theorem chTgs_star : ∀ {ts : Tgs} {es : List Expr}, chTgs C ts es = true → es.all starB = true ∧ es.length = ts.len
  | .nil, [], _ => ⟨rfl, rfl⟩
  | .nil, _ :: _, h => by simp [chTgs] at h
  | .cons t ts, [], h => by simp [chTgs] at h
  | .cons t ts, x :: xs, h => by
    simp only [chTgs, Bool.and_eq_true] at h
    have := chTgs_star h.2
    exact ⟨all_cons_iff.mpr ⟨h.1.1, this.1⟩, by simp [Tgs.len, this.2]⟩
theorem sd_tnil : PGs X [] (tGs K F .nil) := ⟨fun pins s σ H vs us Q I r hq => by
  obtain ⟨O, A, B, ρ, st, T, ds, ρ', st', R, hd, e, q⟩ := hq
  simp only [evTgs] at e
  cases e
  exact PyProof.Rows.assignInOrder_nil ⟨σ, H, I, q σ A B H (Px.refl _) (Ex.refl _) (off_refl _ _) R⟩⟩
theorem sd_tcons {e : Expr} {es : List Expr} {t : Tg} {ts : Tgs} (hs : (e :: es).all starB = true) (h1 : PG X e (tG K F t)) (h2 : PGs X es (tGs K F ts)) : PGs X (e :: es) (tGs K F (.cons t ts)) := by
  refine (pgs_cons h1 h2 (by rw [asg_list hs, asg_list (all_cons_iff.mp hs).2]; rfl)).imp fun vs σ H Q hq => ?_
  obtain ⟨O, A, B, ρ, st, T, ds, ρ', st', R, hd, e, q⟩ := hq
  simp only [evTgs] at e
  cases hd with
  | nil => cases e
  | cons k1 k2 =>
    obtain ⟨⟨ρ1, st1⟩, e1, e⟩ := bindS e
    refine ⟨_, _, rfl, tG_of R k1 e1 fun σ1 A1 B1 H1 hA1 hB1 o1 R1 => ?_⟩
    exact ⟨O, A1, B1, ρ1, st1, T, _, _, _, R1, k2.mono hA1 hB1, e, fun σ2 A2 B2 H2 hA2 hB2 o2 R2 => q σ2 A2 B2 H2 (hA1.trans hA2) (hB1.trans hB2) (o1.trans o2) R2⟩
theorem sd_tupT (ok : COk P w K mg base k C X) {es : List Expr} {j : Nat} {ts : Tgs} {pos : Pos} (hs : es.all starB = true) (hl : es.length = ts.len) (h : PGs X es (tGs K F ts)) : PG X (.Tuple es j pos) (tG K F (.tup ts)) := by
  obtain rfl := ok.K
  refine (pg_tup (n := ts.len) ok.calm h (by rw [asg_list hs, List.length_map, hl]) (by rw [asg_list hs, List.findIdx?_map]; simp [Function.comp_def])).imp fun v σ H Q hq => ?_
  obtain ⟨O, A, B, ρ, st, T, d, ρ', st', R, hd, e, q⟩ := hq
  simp only [evTg] at e
  obtain ⟨ds, e1, e0⟩ := bindS e
  unfold unpack at e1
  split at e1
  · rename_i xs
    split at e1
    · rename_i hl2
      cases e1
      obtain ⟨a, rfl⟩ := hd.isTup
      obtain ⟨vs, g1, g2⟩ := hd.tupH R.ex
      exact ⟨a, vs, rfl, g1, by rw [g2.length]; exact hl2, O, A, B, ρ, st, T, _, _, _, R, g2, e0, q⟩
    · cases e1
  · rename_i xs
    split at e1
    · rename_i hl2
      cases e1
      cases hd with | itm g1 g2 =>
      exact ⟨_, _, rfl, ex_t R.ex g1, by rw [g2.length]; exact hl2, O, A, B, ρ, st, T, _, _, _, R, g2, e0, q⟩
    · cases e1
  · cases e1

/-! ### calls -/
theorem Rel.back {O : Org} {A A' : List Addr} {B B' H H' : Hp} {σ : L2.St} {ρ : Env} {st st' : Sto} {T : List (Addr × List D)} {fr : Bool} {d : D} {v : V} (R : Rel K O A B σ H ρ st T) (b : Back K A B H A' B' H' st' fr d v) :
    EPost K O σ T ρ st' fr d v A' B' H' ∧ Px A A' ∧ Ex B B' := by
  obtain ⟨fw, S, h⟩ := b
  have R' := R.call fw S
  refine ⟨?_, fw.px, fw.ex⟩
  unfold EPost
  cases fr with
  | false =>
    rw [if_neg Bool.false_ne_true] at h ⊢
    exact ⟨R', h⟩
  | true =>
    rw [if_pos rfl] at h ⊢
    obtain ⟨a, xs, rfl, rfl, o, hn, ha⟩ := h
    refine ⟨a, xs, rfl, rfl, R'.pushNew o (fun r ys c e => ?_) (R.hfresh hn)⟩
    -- a handle is in A'; a slot or a temp was there before
    cases r with
    | h n =>
      simp only [adr] at e
      exact ha (List.mem_of_getElem? e)
    | s i =>
      obtain ⟨a', e', _, vs, h2, _⟩ := R.own (.s i) ys c
      have e2 : adr A σ T (.s i) = some a := e
      rw [e2] at e'; cases e'
      rw [hn] at h2; cases h2
    | t i =>
      obtain ⟨a', e', _, vs, h2, _⟩ := R.own (.t i) ys c
      have e2 : adr A σ T (.t i) = some a := e
      rw [e2] at e'; cases e'
      rw [hn] at h2; cases h2
theorem sd_call (G : GOk P w K mg base k F gl fp kw) (ok : COk P w K mg base k C X) {f : Str} {ys : List Expr} {ps : Es} {q0 pos : Pos} (hg : glB C.sc f = true) (hn : plainName f = true) (hf : fp f = true) (hs : ys.all starB = true) (hps : ys = [] → ps = .nil) (h : PA X ys (tEs K F ps)) :
    PE X (.Call (.Name f q0) ys [] pos) (tE K F (.call f ps)) := by
  obtain ⟨fa, fd, pn, m1, m2, m3, m4, m5⟩ := G.fns f hf
  have hP := ok.prog
  have hw := ok.w
  have hK := ok.K
  have hm := ok.mg
  have hb := ok.base
  subst hP hw hK hm hb
  have main : PE X (.Call (.Name f q0) ys [] pos) (tCall (spOf X.K pn.length (F.F f)) [] E0 (tEs X.K F ps)) := by
    cases ys with
    | nil =>
      have hps := hps rfl
      subst hps
      refine (pe_call0 m4 ok.room (ok.gl hg) m1 m2 m3 .nil pass0 (plain_of hn).1).imp fun σ H Q hq => ?_
      obtain ⟨O, A, B, ρ, st, T, ds, ρ', st', R, e, q⟩ := hq
      simp only [evEs] at e
      cases e
      exact q [] A B H (Px.refl _) (Ex.refl _) R .nil
    | cons y ys =>
      have hs' := all_cons_iff.mp hs
      exact pe_call m4 ok.room (ok.gl hg) m1 m2 m3 .nil pass0 h (plain_of hn).1 (star_cons hs'.1) (back_any hs'.2)
  refine main.imp fun σ H Q hq => ?_
  obtain ⟨O, A, B, ρ, st, T, fr, d, ρ', st', R, e, q⟩ := hq
  simp only [evE] at e
  obtain ⟨⟨ds, ρ1, st1⟩, e1, e⟩ := bindS e
  obtain ⟨⟨fr', d', st2⟩, e2, e3⟩ := mapS e
  cases e3
  refine tEs_of R e1 fun vs A1 B1 H1 hA1 hB1 R1 h1 => ?_
  refine ⟨by rw [List.append_nil, h1.length]; exact m5 _ _ _ e2, A1, B1, st1, ds, fr', d', st2, R1.srel, by rw [List.append_nil]; exact h1, e2, fun v A' B' H' hb => ?_⟩
  obtain ⟨p1, p2, p3⟩ := R1.back hb
  exact q v A' B' H' (hA1.trans p2) (hB1.trans p3) p1
end
end Pv

namespace Pv
open PySem PySem.Spec PyProof.Rows L2

inductive PEs (X : Cx) (K : PySem.W.Frag) (F : Tb) : List Expr → Es → Prop
  | nil : PEs X K F [] .nil
  | cons {e : Expr} {es : List Expr} {p : E} {ps : Es} : starB e = true → PE X e (tE K F p) → PEs X K F es ps → PEs X K F (e :: es) (.cons p ps)
section
variable {P : Program} {w : World} {K : PySem.W.Frag} {mg : Str → Option Value} {base : Heap} {k : Nat} {F : Tb} {C : SC} {X : Cx} {gl : Str → Bool} {fp : Str → Bool} {kw : Str → Nat → List Str → List Nat → Bool}
theorem PEs.pa {es : List Expr} {ps : Es} (h : PEs X K F es ps) : PA X es (tEs K F ps) := by
  induction h with
  | nil => exact sd_nil
  | cons hs he _ ih => exact sd_cons hs he ih
theorem PEs.star {es : List Expr} {ps : Es} (h : PEs X K F es ps) : es.all starB = true := by
  induction h with
  | nil => rfl
  | cons hs he _ ih => exact all_cons_iff.mpr ⟨hs, ih⟩
theorem PEs.nilE {ps : Es} (h : PEs X K F [] ps) : ps = .nil := by cases h; rfl
theorem pk_of : ∀ {kws : List Keyword} {ps : Es}, PEs X K F (kws.map (·.value)) ps → PK X kws (tEs K F ps)
  | [], ps, h => by
    cases h
    exact ⟨fun pos pins s σ H Q I hq => pk_nil.run pos pins s σ H Q I (by
      obtain ⟨O, A, B, ρ, st, T, ds, ρ', st', R, e, q⟩ := hq
      simp only [evEs] at e
      cases e
      exact q [] A B H (Px.refl _) (Ex.refl _) R .nil)⟩
  | ⟨n, v, p⟩ :: kws, ps, h => by
    cases h with | cons hs he ht =>
    exact ⟨fun pos pins s σ H Q I hq => (pk_cons he (pk_of ht)).run pos pins s σ H Q I (by
      obtain ⟨O, A, B, ρ, st, T, ds, ρ', st', R, e, q⟩ := hq
      simp only [evEs] at e
      obtain ⟨⟨x, ρ1, st1⟩, e1, e⟩ := bindS e
      obtain ⟨⟨xs, ρ2, st2⟩, e2, e⟩ := bindS e
      cases e
      refine tE_V R e1 fun v A1 B1 H1 hA1 hB1 R1 h1 => ?_
      exact ⟨O, A1, B1, ρ1, st1, T, xs, _, _, R1, e2, fun vs A2 B2 H2 hA2 hB2 R2 h2 => q _ A2 B2 H2 (hA1.trans hA2) (hB1.trans hB2) R2 (.cons (h1.mono hA2 hB2) h2)⟩)⟩
theorem kw_names {env : PySem.Env} {pos : Pos} : ∀ {kws : List Keyword} {ks : List Str}, kwB kws ks = true → (backToKw pos (keywordEach kws env)).all (·.1.isSome) = true ∧ (backToKw pos (keywordEach kws env)).filterMap (·.1) = ks ∧ kws.length = ks.length ∧ (backToKw pos (keywordEach kws env)).any (·.1.isNone) = false
  | [], [], _ => ⟨rfl, rfl, rfl, rfl⟩
  | [], _ :: _, h => by simp [kwB] at h
  | _ :: _, [], h => by simp [kwB] at h
  | ⟨a, v, p⟩ :: kws, n :: ks, h => by
    simp only [kwB, Bool.and_eq_true, decide_eq_true_eq] at h
    obtain ⟨h1, h2⟩ := h
    subst h1
    obtain ⟨i1, i2, i3, i4⟩ := kw_names (env := env) (pos := pos) h2
    refine ⟨?_, ?_, by simp [i3], ?_⟩
    · show (_ && _) = true
      exact Bool.and_eq_true_iff.mpr ⟨rfl, i1⟩
    · show n :: _ = n :: ks
      exact congrArg (n :: ·) i2
    · show (_ || _) = false
      exact Bool.or_eq_false_iff.mpr ⟨rfl, i4⟩
theorem vals_pick {vs : List V} {us : List Value} (h : Vals vs us) : ∀ perm : List Nat, Vals (perm.filterMap fun j => vs[j]?) (perm.filterMap fun j => us[j]?)
  | [] => .nil
  | j :: perm => by
    rw [List.filterMap_cons, List.filterMap_cons]
    cases e : vs[j]? with
    | none => rw [Vals.none_of h e]; exact vals_pick h perm
    | some v =>
      obtain ⟨u, e2, r⟩ := Vals.get h e
      rw [e2]
      exact .cons r (vals_pick h perm)
theorem hol_pick {A : List Addr} {B : Hp} {vs : List V} {ds : List D} (h : HoL K A B vs ds) : ∀ perm : List Nat, HoL K A B (perm.filterMap fun j => vs[j]?) (perm.filterMap fun j => ds[j]?)
  | [] => .nil
  | j :: perm => by
    rw [List.filterMap_cons, List.filterMap_cons]
    cases e : vs[j]? with
    | none =>
      have : ds[j]? = none := by
        rw [List.getElem?_eq_none_iff] at e ⊢
        rw [← h.length]; exact e
      rw [this]; exact hol_pick h perm
    | some v =>
      obtain ⟨d, e2, r⟩ := h.getV e
      rw [e2]
      exact .cons r (hol_pick h perm)
def pickV (np nk : Nat) (perm : List Nat) (vs zs : List V) : List V := if vs.length = np ∧ zs.length = nk then perm.filterMap fun j => (vs ++ zs)[j]? else []
def pickU (np nk : Nat) (perm : List Nat) (vs zs : List Value) : List Value := if vs.length = np ∧ zs.length = nk then perm.filterMap fun j => (vs ++ zs)[j]? else []
theorem kbinds_of {fd : FuncData} {ps ks : List Str} {np : Nat} {perm : List Nat} (h0 : 0 < ps.length) (h : ∀ (s : Shared) (us ws : List Value), us.length = np → ws.length = ks.length → BindsTo s fd ⟨us, ks.zip ws⟩ (ps.zip (perm.filterMap fun j => (us ++ ws)[j]?)) ∧ (perm.filterMap fun j => (us ++ ws)[j]?).length = ps.length) :
    KBinds K fd ps ks (pickU np ks.length perm) (pickV np ks.length perm) := by
  refine ⟨fun s us ws _ hl => ?_, fun {vs us zs ws} hv hz => ?_⟩
  · unfold pickU at hl ⊢
    split at hl
    · rename_i hc
      rw [if_pos hc]
      exact (h s us ws hc.1 hc.2).1
    · simp at hl; omega
  · unfold pickU pickV
    rw [hv.length, hz.length]
    split
    · exact vals_pick (hv.append hz) perm
    · exact .nil
/-- f(k = v, ..), no positional argument -/
theorem pe_callK0 {CX : CXT} {kk : Nat} {f : Addr} {fd : FuncData} {ps ks : List Str} {sp : Sp} {E : XK} {x : Str} {p pos : Pos} {kws : List Keyword} {tk : TA} {g : List Value → List Value → List Value} {gV : List V → List V → List V}
    (Fo : FnOk X.prog X.w X.K X.mg X.base CX kk f fd ps sp) (hr : Room kk X.A) (hg : Gl X x) (hm : X.mg x = some (.ref f)) (hk : PySem.W.keepIn X.K (.ref f) = true) (hb : KBinds X.K fd ps ks g gV) (hx : Passes CX X E)
    (hkw : PK X kws tk) (hall : (backToKw pos (keywordEach kws X.env)).all (·.1.isSome) = true) (hks : (backToKw pos (keywordEach kws X.env)).filterMap (·.1) = ks)
    (hdb : (x == ("__debug__" : Str)) = false) (hpl : (backToKw pos (keywordEach kws X.env)).any (·.1.isNone) = false) :
    PE X (.Call (.Name x p) [] kws pos) (tCallK sp gV E tNil tk) := by
  refine ⟨fun pins s σ H Q I h => ?_⟩
  refine wpAny_Call_Name_kw (ld_glob I hg hm ?_ hdb)
  refine PySem.W.callWith_KW0 (h₀ := X.base) I.ok.mod.kin hk hall (thn (hkw.run pos pins s σ H _ I h) fun ws s2 ⟨zs, H2, I2, rz, q2⟩ => ⟨I2.kIn, ?_⟩) (by show (false || _) = false; rw [hpl]; rfl)
  rw [hks]
  exact run_fnk Fo hr hb hx I2 .nil rz q2
theorem sd_callk (G : GOk P w K mg base k F gl fp kw) (ok : COk P w K mg base k C X) {f : Str} {ys : List Expr} {kws : List Keyword} {ps kps : Es} {ks : List Str} {perm : List Nat} {q0 pos : Pos} (hg : glB C.sc f = true) (hn : plainName f = true) (hf : kw f ys.length ks perm = true) (hk : kwB kws ks = true)
    (h : PEs X K F ys ps) (h' : PEs X K F (kws.map (·.value)) kps) (hl : ∀ ρ st ds ρ' st', evEs F ps ρ st = some (ds, ρ', st') → ds.length = ys.length) (hl' : ∀ ρ st ds ρ' st', evEs F kps ρ st = some (ds, ρ', st') → ds.length = kws.length) :
    PE X (.Call (.Name f q0) ys kws pos) (tE K F (.callk f ps ks kps perm)) := by
  obtain ⟨fa, fd, pn, m1, m2, m4, m5⟩ := G.kws f _ ks perm hf
  have hP := ok.prog
  have hw := ok.w
  have hK := ok.K
  have hm := ok.mg
  have hb := ok.base
  subst hP hw hK hm hb
  obtain ⟨n1, n2, n3, n4⟩ := kw_names (env := X.env) (pos := pos) hk
  have kb := kbinds_of (K := X.K) m5.1 m5.2.1
  have main : PE X (.Call (.Name f q0) ys kws pos) (tCallK (spOf X.K pn.length (F.F f)) (pickV ys.length ks.length perm) E0 (tEs X.K F ps) (tEs X.K F kps)) := by
    cases ys with
    | nil =>
      have hps := h.nilE
      subst hps
      refine (pe_callK0 m4 ok.room (ok.gl hg) m1 m2 kb pass0 (pk_of h') n1 n2 (plain_of hn).1 n4).imp fun σ H Q hq => ?_
      obtain ⟨O, A, B, ρ, st, T, ds, ρ', st', R, e, q⟩ := hq
      simp only [evEs] at e
      cases e
      exact q [] A B H (Px.refl _) (Ex.refl _) R .nil
    | cons y ys =>
      have hs' := all_cons_iff.mp h.star
      exact pe_callK m4 ok.room (ok.gl hg) m1 m2 kb pass0 h.pa (pk_of h') n1 n2 (plain_of hn).1 (star_cons hs'.1) (by rw [back_any h.star, n4]; rfl)
  refine main.imp fun σ H Q hq => ?_
  obtain ⟨O, A, B, ρ, st, T, fr, d, ρ', st', R, e, q⟩ := hq
  simp only [evE] at e
  obtain ⟨⟨ds, ρ1, st1⟩, e1, e⟩ := bindS e
  obtain ⟨⟨es, ρ2, st2⟩, e2, e⟩ := bindS e
  obtain ⟨⟨fr', d', st3⟩, e3, e4⟩ := mapS e
  cases e4
  refine tEs_of R e1 fun vs A1 B1 H1 hA1 hB1 R1 h1 => ?_
  refine tEs_of R1 e2 fun zs A2 B2 H2 hA2 hB2 R2 h2 => ?_
  have l1 : vs.length = ys.length := by rw [h1.length]; exact hl _ _ _ _ _ e1
  have l2 : zs.length = ks.length := by rw [h2.length, ← n3]; exact hl' _ _ _ _ _ e2
  have pick : HoL X.K A2 B2 (pickV ys.length ks.length perm vs zs) (perm.filterMap fun j => (ds ++ es)[j]?) := by
    unfold pickV
    rw [if_pos ⟨l1, l2⟩]
    exact hol_pick ((h1.mono hA2 hB2).append h2) perm
  refine ⟨?_, A2, B2, st2, _, fr', d', st3, R2.srel, pick, e3, fun v A' B' H' hb => ?_⟩
  · rw [pick.length]; exact m5.2.2 _ _ _ e3
  · obtain ⟨p1, p2, p3⟩ := R2.back hb
    exact q v A' B' H' ((hA1.trans hA2).trans p2) ((hB1.trans hB2).trans p3) p1
/-! ### methods of lists -/
theorem mt_plain (m : Mt) : Slot "list" (mtName m) (mtId m) ∧ typeOf (.builtin (mtId m)) = pure (.type "method_descriptor") := by
  cases m with
  | append => exact ⟨PySem.F.slot_list_append, PySem.F.type_list_append⟩
  | pop => exact ⟨PySem.F.slot_list_pop, PySem.F.type_list_pop⟩
  | popAt => exact ⟨PySem.F.slot_list_pop, PySem.F.type_list_pop⟩
  | extend => exact ⟨PySem.F.slot_list_extend, PySem.F.type_list_extend⟩
/-- the reading of a method's call, its receiver first -/
def tMt (K : PySem.W.Frag) (m : Mt) (to : TE) (t : TA) : TE := fun σ H Q => to σ H fun x H1 => tyV K "list" x H1 ∧ t σ H1 fun xs H2 => rMt K m x xs H2 Q
theorem pe_mt {m : Mt} {o : Expr} {to : TE} {ys : List Expr} {ps : Es} {p q0 : Pos} (ho : PE X o to) (h : PEs X X.K F ys ps) (hc : isCall0 o = false) (hl : (p.endLine == q0.line) = true) (hf : ys.length < 20) (mono : ∀ σ H (Q Q' : VK), (∀ v H, Q v H → Q' v H) → to σ H Q → to σ H Q') : PE X (.Call (.Attribute o (mtName m) p) ys [] q0) (tMt X.K m to (tEs X.K F ps)) := by
  cases ys with
  | nil =>
    have hps := h.nilE
    subst hps
    refine (pe_bm0 PySem.F.plainAttrs_list (mt_plain m).1 (mt_plain m).2 (mtR_all m) ho (attr_base hc) hl).imp fun σ H Q hq => mono σ H _ _ (fun x H1 ht => ?_) hq
    obtain ⟨ht, O, A, B, ρ, st, T, ds, ρ', st', R, e, q⟩ := ht
    simp only [evEs] at e
    cases e
    exact ⟨ht, q [] A B H1 (Px.refl _) (Ex.refl _) R .nil⟩
  | cons y ys =>
    have hs' := all_cons_iff.mp h.star
    exact pe_bm PySem.F.plainAttrs_list (mt_plain m).1 (mt_plain m).2 (mtR_all m) ho h.pa (attr_base hc) (few_ok h.star hf) hl (star_cons hs'.1) (back_any hs'.2)
theorem mthR_of {m : Mt} {i : Nat} {ds : List D} {ρ ρ' : Env} {st st' : Sto} {d : D} (h : mthR m i ds ρ st = some (d, ρ', st')) :
    (∃ xs ys, ρ[i]? = some (.own xs) ∧ mtD m xs ds = some (d, ys) ∧ ρ' = ρ.set i (.own ys) ∧ st' = st) ∨ (∃ n xs ys, ρ[i]? = some (.val (.hd n)) ∧ st[n]? = some xs ∧ mtD m xs ds = some (d, ys) ∧ ρ' = ρ ∧ st' = st.set n ys) := by
  unfold mthR at h
  split at h
  · rename_i xs hx
    obtain ⟨⟨d', ys⟩, e1, e2⟩ := mapS h
    cases e2
    exact .inl ⟨xs, ys, hx, e1, rfl, rfl⟩
  · rename_i n hx
    obtain ⟨xs, e0, h⟩ := bindS h
    obtain ⟨⟨d', ys⟩, e1, e2⟩ := mapS h
    cases e2
    exact .inr ⟨n, xs, ys, hx, e0, e1, rfl, rfl⟩
  · cases h
theorem sd_mth (ok : COk P w K mg base k C X) {m : Mt} {i : Nat} {x : Str} {ys : List Expr} {ps : Es} {p0 p q0 : Pos} (hv : C.var i x = true) (h : PEs X K F ys ps) (hl : (p.endLine == q0.line) = true) (hf : ys.length < 20) :
    PE X (.Call (.Attribute (.Name x p0) (mtName m) p) ys [] q0) (tE K F (.mth m i ps)) := by
  have hK := ok.K
  subst hK
  refine (pe_mt (m := m) (ok.var hv) h rfl hl hf (fun σ H Q Q' hQ hq => by obtain ⟨v, e, q⟩ := hq; exact ⟨v, e, hQ _ _ q⟩)).imp fun σ H Q hq => ?_
  obtain ⟨O, A, B, ρ, st, T, fr, d, ρ', st', R, e, q⟩ := hq
  simp only [evE] at e
  obtain ⟨sl0, e1, e⟩ := bindS e
  obtain ⟨ys0, e2, e⟩ := bindS e
  obtain ⟨⟨ds, ρ1, st1⟩, e3, e⟩ := bindS e
  obtain ⟨⟨d', ρ2, st2⟩, e4, e5⟩ := mapS e
  cases e5
  obtain ⟨a, vs, h1, h2, _, _⟩ := R.slotL e1 e2
  refine ⟨_, h1, .inl ⟨rfl, vs, SqL.of h2⟩, tEs_of R e3 fun us A1 B1 H1 hA1 hB1 R1 hu => ?_⟩
  rcases mthR_of e4 with ⟨xs, zs, g1, g2, rfl, rfl⟩ | ⟨n, xs, zs, g1, g0, g2, rfl, rfl⟩
  · obtain ⟨a2, ws, f1, f2, f3, f4⟩ := R1.updSlot g1
    obtain ⟨a3, _, k1, k2, k3, _⟩ := R1.slotL (ys := xs) g1 rfl
    rw [h1] at f1 k1; cases f1; cases k1
    exact ⟨A1, B1, a, ws, xs, ds, d, zs, rfl, R1.ex, k3, f2, f3, hu, g2, fun v us hv hl => q v _ _ _ hA1 hB1 (.val (f4 _ _ hl) hv)⟩
  · obtain ⟨v2, g5, g6⟩ := R1.val i _ g1
    rw [h1] at g5; cases g5
    cases g6 with | hd ha =>
    obtain ⟨a2, ws, f1, f2, f3, f4⟩ := R1.updH g0
    rw [ha] at f1; cases f1
    obtain ⟨a3, _, k1, k2, k3, _⟩ := R1.slotL (ys := xs) g1 g0
    rw [h1] at k1; cases k1
    exact ⟨A1, B1, _, ws, xs, ds, d, zs, rfl, R1.ex, k3, f2, f3, hu, g2, fun v us hv hl => q v _ _ _ hA1 hB1 (.val (f4 _ _ hl) hv)⟩
theorem sd_mthH (ok : COk P w K mg base k C X) {m : Mt} {o : Expr} {po : E} {ys : List Expr} {ps : Es} {p q0 : Pos} (ho : PE X o (tE K F po)) (hc : isCall0 o = false) (h : PEs X K F ys ps) (hl : (p.endLine == q0.line) = true) (hf : ys.length < 20) :
    PE X (.Call (.Attribute o (mtName m) p) ys [] q0) (tE K F (.mthH m po ps)) := by
  have hK := ok.K
  subst hK
  refine (pe_mt (m := m) ho h hc hl hf (fun σ H Q Q' hQ hq => by
    obtain ⟨O, A, B, ρ, st, T, fr, d, ρ', st', R, e, q⟩ := hq
    exact ⟨O, A, B, ρ, st, T, fr, d, ρ', st', R, e, fun v A' B' H' a b c => hQ _ _ (q v A' B' H' a b c)⟩)).imp fun σ H Q hq => ?_
  obtain ⟨O, A, B, ρ, st, T, fr, d, ρ', st', R, e, q⟩ := hq
  simp only [evE] at e
  obtain ⟨⟨x, ρ1, st1⟩, e1, e⟩ := bindS e
  obtain ⟨⟨ds, ρ2, st2⟩, e2, e⟩ := bindS e
  obtain ⟨⟨d', st3⟩, e3, e4⟩ := mapS e
  cases e4
  cases x with
  | hd n =>
    simp only [mthHR] at e3
    obtain ⟨xs, g0, e3⟩ := bindS e3
    obtain ⟨⟨d2, zs⟩, g2, e4⟩ := mapS e3
    cases e4
    refine tE_V R e1 fun v A1 B1 H1 hA1 hB1 R1 h1 => ?_
    cases h1 with | hd ha =>
    have hn : n < st1.length := by rw [← R1.al]; exact (List.getElem?_eq_some_iff.mp ha).1
    obtain ⟨a0, ws0, f0, f00, _, _⟩ := R1.updH (List.getElem?_eq_getElem hn)
    rw [ha] at f0; cases f0
    refine ⟨.inl ⟨rfl, _, SqL.of f00⟩, tEs_of R1 e2 fun us A2 B2 H2 hA2 hB2 R2 hu => ?_⟩
    have ha2 := hA2 _ _ ha
    obtain ⟨a2, ws, f1, f2, f3, f4⟩ := R2.updH g0
    rw [ha2] at f1; cases f1
    obtain ⟨a3, k1, k2⟩ := R2.own (.h n) xs g0
    simp only [adr, ha2] at k1; cases k1
    exact ⟨A2, B2, _, ws, xs, ds, _, zs, rfl, R2.ex, k2.1, f2, f3, hu, g2, fun v us hv hl => q v _ _ _ (hA1.trans hA2) (hB1.trans hB2) (.val (f4 _ _ hl) hv)⟩
  | _ => cases e3
/-! ### the rest of the expressions -/
theorem in_pre {ok : COk P w X.K mg base k C X} {pa : E} {i : Nat} (neg : Bool) (σ : L2.St) (H : Hp) (Q : VK) (hq : ∃ O A B ρ st T d ρ' st', Rel X.K O A B σ H ρ st T ∧ (∃ x ρ1 st1 sl ys t, vv (evE F pa ρ st) = some (x, ρ1, st1) ∧ ρ1[i]? = some sl ∧ slotSeq st1 sl = some ys ∧ inD x ys = some t ∧ d = D.bl (if neg then !t else t) ∧ ρ' = ρ1 ∧ st' = st1) ∧
      ∀ v A' B' H', Px A A' → Ex B B' → EPost X.K O σ T ρ' st' false d v A' B' H' → Q v H') : tOp (rIn X.K neg) (tE X.K F pa) (tVar i) σ H Q := by
  obtain ⟨O, A, B, ρ, st, T, d, ρ', st', R, ⟨x, ρ1, st1, sl, ys, t, e1, e2, e3, e4, rfl, rfl, rfl⟩, q⟩ := hq
  refine tE_V R e1 fun v A1 B1 H1 hA1 hB1 R1 h1 => ?_
  obtain ⟨b, vs, g1, g2, g3⟩ := R1.sigma e2 e3
  refine ⟨_, g1, b, vs, rfl, g2, ?_⟩
  unfold inD at e4
  split at e4
  · rename_i f
    rw [Bool.and_eq_true] at f
    refine ⟨h1.flatV f.1, g3.flatV f.2, ?_⟩
    rw [inV_of h1 f.1 g3 f.2, Option.some.inj e4]
    have := q (.bl (if neg then !t else t)) _ _ _ hA1 hB1 (.val R1 (.bl _))
    cases neg <;> exact this
  · cases e4
theorem imp_in (ok : COk P w X.K mg base k C X) {pa : E} {i : Nat} {x : Str} (hv : C.var i x = true) (σ : L2.St) (H : Hp) (Q : VK) (hq : tE X.K F (.cmpv .In pa i) σ H Q) : tOp (rIn X.K false) (tE X.K F pa) (tVar i) σ H Q := by
  refine in_pre (ok := ok) false σ H Q ?_
  obtain ⟨O, A, B, ρ, st, T, fr, d, ρ', st', R, e, q⟩ := hq
  simp only [evE] at e
  obtain ⟨⟨x, ρ1, st1⟩, e1, e⟩ := bindS e
  obtain ⟨sl, e2, e⟩ := bindS e
  obtain ⟨ys, e3, e⟩ := bindS e
  obtain ⟨t, e4, e5⟩ := mapS e
  cases e5
  exact ⟨O, A, B, ρ, st, T, _, _, _, R, ⟨x, _, _, sl, ys, t, e1, e2, e3, e4, rfl, rfl, rfl⟩, q⟩
theorem imp_notin (ok : COk P w X.K mg base k C X) {pa : E} {i : Nat} {x : Str} (hv : C.var i x = true) (σ : L2.St) (H : Hp) (Q : VK) (hq : tE X.K F (.cmpv .NotIn pa i) σ H Q) : tOp (rIn X.K true) (tE X.K F pa) (tVar i) σ H Q := by
  refine in_pre (ok := ok) true σ H Q ?_
  obtain ⟨O, A, B, ρ, st, T, fr, d, ρ', st', R, e, q⟩ := hq
  simp only [evE] at e
  obtain ⟨⟨x, ρ1, st1⟩, e1, e⟩ := bindS e
  obtain ⟨sl, e2, e⟩ := bindS e
  obtain ⟨ys, e3, e⟩ := bindS e
  obtain ⟨t, e4, e5⟩ := mapS e
  cases e5
  exact ⟨O, A, B, ρ, st, T, _, _, _, R, ⟨x, _, _, sl, ys, t, e1, e2, e3, e4, rfl, rfl, rfl⟩, q⟩
theorem sd_cmpv (ok : COk P w K mg base k C X) {o : CmpOp} {a : Expr} {pa : E} {i : Nat} {x : Str} {p pos : Pos} (ha : PE X a (tE K F pa)) (hv : C.var i x = true) : PE X (.Compare a [o] [.Name x p] pos) (tE K F (.cmpv o pa i)) := by
  have hK := ok.K
  subst hK
  cases o with
  | In => exact (pe_cmpR op_in_seq ha (ok.var hv) rfl).imp (imp_in ok hv)
  | NotIn => exact (pe_cmpR op_notIn_seq ha (ok.var hv) rfl).imp (imp_notin ok hv)
  | _ =>
    refine ⟨fun pins s σ H Q I hq => ?_⟩
    obtain ⟨O, A, B, ρ, st, T, fr, d, ρ', st', R, e, q⟩ := hq
    simp only [evE] at e
    obtain ⟨⟨x, ρ1, st1⟩, e1, e⟩ := bindS e
    obtain ⟨sl, e2, e⟩ := bindS e
    obtain ⟨ys, e3, e⟩ := bindS e
    cases e
end
end Pv

namespace Pv
open PySem PySem.Spec PyProof.Rows L2

section
variable {P : Program} {w : World} {K : PySem.W.Frag} {mg : Str → Option Value} {base : Heap} {k : Nat} {F : Tb} {C : SC} {X : Cx} {gl : Str → Bool} {fp : Str → Bool} {kw : Str → Nat → List Str → List Nat → Bool}
variable {O : Org} {A : List Addr} {B H : Hp} {σ σ' : L2.St} {ρ : Env} {st : Sto} {T : List (Addr × List D)}
/-! ### wiped slots -/
theorem wipe_get : ∀ (vs : List Nat) (j : Nat), (wipe σ vs)[j]? = if j ∈ vs then (if j < σ.length then some none else none) else σ[j]?
  | [], j => by simp [wipe]
  | v :: vs, j => by
    unfold wipe
    by_cases h : v = j
    · subst h
      rw [if_pos List.mem_cons_self]
      by_cases hl : v < σ.length
      · rw [List.getElem?_set_self (by rw [wipe_length]; exact hl), if_pos hl]
      · rw [if_neg hl, List.getElem?_eq_none (by rw [List.length_set, wipe_length]; omega)]
    · rw [List.getElem?_set_ne h, wipe_get vs j]
      have : (j ∈ v :: vs) ↔ j ∈ vs := by simp [Ne.symm h]
      by_cases hm : j ∈ vs
      · rw [if_pos hm, if_pos (this.mpr hm)]
      · rw [if_neg hm, if_neg (fun z => hm (this.mp z))]
theorem wipeE_get : ∀ (vs : List Nat) (j : Nat), (wipeE ρ vs)[j]? = if j ∈ vs then (if j < ρ.length then some .no else none) else ρ[j]?
  | [], j => by simp [wipeE]
  | v :: vs, j => by
    have hlen : ∀ vs : List Nat, (wipeE ρ vs).length = ρ.length := fun vs => by
      induction vs with
      | nil => rfl
      | cons v vs ih => unfold wipeE; rw [List.length_set, ih]
    unfold wipeE
    by_cases h : v = j
    · subst h
      rw [if_pos List.mem_cons_self]
      by_cases hl : v < ρ.length
      · rw [List.getElem?_set_self (by rw [hlen]; exact hl), if_pos hl]
      · rw [if_neg hl, List.getElem?_eq_none (by rw [List.length_set, hlen]; omega)]
    · rw [List.getElem?_set_ne h, wipeE_get vs j]
      have : (j ∈ v :: vs) ↔ j ∈ vs := by simp [Ne.symm h]
      by_cases hm : j ∈ vs
      · rw [if_pos hm, if_pos (this.mpr hm)]
      · rw [if_neg hm, if_neg (fun z => hm (this.mp z))]
theorem wipe_eq {vs : List Nat} (h : off vs σ σ') : wipe σ' vs = wipe σ vs := by
  apply List.ext_getElem?
  intro j
  rw [wipe_get, wipe_get, h.1]
  by_cases hm : j ∈ vs
  · rw [if_pos hm, if_pos hm]
  · rw [if_neg hm, if_neg hm, h.2 j hm]
theorem off_wipe (σ : L2.St) (vs : List Nat) : off vs σ (wipe σ vs) := ⟨wipe_length σ vs, fun j hj => by rw [wipe_get, if_neg hj]⟩
theorem off.mono {a b : List Nat} (h : off a σ σ') (hs : ∀ j, j ∈ a → j ∈ b) : off b σ σ' := ⟨h.1, fun j hj => h.2 j fun z => hj (hs j z)⟩
theorem Rel.wipe (R : Rel K O A B σ H ρ st T) : ∀ vs : List Nat, Rel K O A B (L2.wipe σ vs) H (wipeE ρ vs) st T
  | [] => R
  | v :: vs => (R.wipe vs).setNo
theorem Rel.unwipe {vs : List Nat} (R : Rel K O A B (L2.wipe σ vs) H (wipeE ρ vs) st T) : Rel K O A B σ H (wipeE ρ vs) st T := by
  refine R.resig (wipe_length σ vs).symm fun j hj => ?_
  rw [wipe_get]
  by_cases hm : j ∈ vs
  · rw [if_pos hm]
    have hl : (wipeE ρ vs).length = σ.length := by rw [← R.len, wipe_length]
    by_cases hj2 : j < σ.length
    · refine absurd ?_ hj
      rw [wipeE_get, if_pos hm, if_pos]
      have hlen : (wipeE ρ vs).length = ρ.length := by
        clear R hj hl hm
        induction vs with
        | nil => rfl
        | cons v vs ih => unfold wipeE; rw [List.length_set, ih]
      omega
    · rw [if_neg hj2, List.getElem?_eq_none (by omega)]
  · rw [if_neg hm]
theorem COk.blk (ok : COk P w K mg base k C X) (scope : Scope) (s : Shared) (H : Hp) (Cc : Addr) (cl : List (Str × Addr)) (fpp : List Addr) (hk : scope.kind = .function) : COk P w K mg base k (C.blk scope) (X.blk s H scope (compEnvC scope cl Cc X.env) fpp) := by
  refine ⟨ok.prog, ok.w, ok.K, ok.mg, ok.base, ok.N, ok.nd, ?_, ok.room, ok.calm, fun x hx => ?_, hk, rfl⟩
  · show relS scope X.env.scope = relS scope C.sc
    rw [ok.sc]
  · have hx : (match scope.names.lookup x with | some .cell => true | some .local => true | _ => false) = true := hx
    split at hx
    · rename_i e
      refine .inl ?_
      show (scope.names.lookup x == some .cell) = true
      rw [e]; rfl
    · rename_i e
      refine .inr ?_
      show (relS scope X.env.scope).names.lookup x = some .local
      exact lookup_relS_keep (by decide) e
    · cases hx
theorem tCo_of {c : Co} {Q : Bool → Hp → Prop} {b : Bool} {ρ' : Env} {st' : Sto} (R : Rel K O A B σ H ρ st T) (e : evC F c ρ st = some (b, ρ', st'))
    (q : ∀ A' B' H', Px A A' → Ex B B' → Rel K O A' B' σ H' ρ' st' T → Q b H') : tCo K F c σ H Q := ⟨O, A, B, ρ, st, T, b, ρ', st', R, e, q⟩
theorem sd_cno : PTs X [] (tCo K F .no) := pts_nil.imp fun σ H Q hq => by
  obtain ⟨O, A, B, ρ, st, T, b, ρ', st', R, e, q⟩ := hq
  simp only [evC] at e
  cases e
  exact q A B H (Px.refl _) (Ex.refl _) R
theorem sd_cso {x : Expr} {c : Cn} (h : PT X x (tCn K F c)) : PTs X [x] (tCo K F (.so c)) := (pts_one h).imp fun σ H Q hq => by
  obtain ⟨O, A, B, ρ, st, T, b, ρ', st', R, e, q⟩ := hq
  simp only [evC] at e
  exact ⟨O, A, B, ρ, st, T, b, ρ', st', R, e, q⟩
/-! ### a list comprehension -/
theorem sd_lc {e tg iter : Expr} {ifs : List Expr} {scope : Scope} {own : List (Str × Nat)} {pe : E} {pt : Tg} {pi : I} {pc : Co} {pos : Pos} (ok : COk P w K mg base k C X) (hb : blkC C.N C.sc scope own = true) (hi : PI X tg iter (tI K F pi))
    (hg : ∀ (s : Shared) (H : Hp) (Cc : Addr) (cl : List (Str × Addr)) (fpp : List Addr), PG (X.blk s H scope (compEnvC scope cl Cc X.env) fpp) tg (tG K F pt))
    (ht : ∀ (s : Shared) (H : Hp) (Cc : Addr) (cl : List (Str × Addr)) (fpp : List Addr), PTs (X.blk s H scope (compEnvC scope cl Cc X.env) fpp) ifs (tCo K F pc))
    (he : ∀ (s : Shared) (H : Hp) (Cc : Addr) (cl : List (Str × Addr)) (fpp : List Addr), PE (X.blk s H scope (compEnvC scope cl Cc X.env) fpp) e (tE K F pe))
    (hs : ∀ x, foldedSetIterable iter X.env x = pure x) (hsl : ∀ j ∈ pt.slots, j ∈ own.map (·.2)) :
    ∀ σ H Q, tE K F (.lc pe pt pi pc own) σ H Q → tLc (tI K F pi) (tG K F pt) (tCo K F pc) (tE K F pe) (own.map (·.2)) σ H Q := by
  intro σ H Q hq
  obtain ⟨O, A, B, ρ, st, T, fr, d, ρ', st', R, ev, q⟩ := hq
  simp only [evE] at ev
  obtain ⟨⟨xs, ρ1, st1⟩, e1, ev⟩ := bindS ev
  obtain ⟨⟨acc, ρ2, st2⟩, e2, ev⟩ := bindS ev
  cases ev
  generalize hvs : own.map (·.2) = vs at *
  refine ⟨O, A, B, ρ, st, T, xs, ρ1, st1, R, e1, fun J A1 B1 H1 hA1 hB1 R1 W1 Dl hD => ?_⟩
  -- the state at turn i, so many turns left
  refine ⟨fun i m H' => ∃ A2 B2 ρa st2' ac, Px A1 A2 ∧ Ex B1 B2 ∧ Rel K O A2 B2 (L2.wipe σ vs) H' (wipeE ρa vs) st2' ((Dl, ac) :: T) ∧ m = xs.length - i ∧ i ≤ xs.length ∧
      lcL (evTg F pt) (evC F pc) (fun ρ st => vv (evE F pe ρ st)) vs (xs.drop i) ac (wipeE ρa vs) st2' = some (acc, ρ2, st2), ⟨xs.length, A1, B1, ρ1, st1, [], Px.refl _, Ex.refl _, ?_, rfl, Nat.zero_le _, e2⟩, ?_⟩
  · exact (R1.wipe vs).push hD .nil
  · rintro i m H' ⟨A2, B2, ρa, st2', ac, hA2, hB2, R2, rfl, hi2, e3⟩
    have wk := W1 i A2 B2 H' hA2 hB2 R2.ex
    by_cases hlt : i < xs.length
    · refine .inr ?_
      have ed : xs[i]? = some xs[i] := List.getElem?_eq_getElem hlt
      obtain ⟨go, turn⟩ := wk.1 _ ed
      rw [List.drop_eq_getElem_cons hlt] at e3
      simp only [lcL] at e3
      obtain ⟨⟨ρ3, st3⟩, e4, e3⟩ := bindS e3
      obtain ⟨⟨b, ρ4, st4⟩, e5, e3⟩ := bindS e3
      refine ⟨go, fun H3 => ∃ A3 B3 ρb st3' ac', Px A1 A3 ∧ Ex B1 B3 ∧ Rel K O A3 B3 (L2.wipe σ vs) H3 (wipeE ρb vs) st3' ((Dl, ac') :: T) ∧
          lcL (evTg F pt) (evC F pc) (fun ρ st => vv (evE F pe ρ st)) vs (xs.drop (i + 1)) ac' (wipeE ρb vs) st3' = some (acc, ρ2, st2), fun H3 hN => ?_, fun x H3 hy => ?_⟩
      · obtain ⟨A3, B3, ρb, st3', ac', h1, h2, h3, h4⟩ := hN
        exact ⟨xs.length - (i + 1), by omega, A3, B3, ρb, st3', ac', h1, h2, h3, rfl, hlt, h4⟩
      · obtain ⟨B3, b1, b2, b3, b4, hx⟩ := turn x H3 hy
        have R3 := R2.grow b1 b2 b3 b4
        refine tG_of R3 hx e4 fun σ4 A4 B4 H4 hA4 hB4 o4 R4 => ?_
        have w4 : L2.wipe σ4 vs = L2.wipe σ vs := by
          rw [wipe_eq (o4.mono hsl)]
          exact wipe_eq (off_wipe σ vs)
        refine ⟨w4, tCo_of R4 e5 fun A5 B5 H5 hA5 hB5 R5 => ?_⟩
        cases b with
        | false =>
          rw [if_neg Bool.false_ne_true]
          have e3 : lcL (evTg F pt) (evC F pc) (fun ρ st => vv (evE F pe ρ st)) vs (xs.drop (i + 1)) ac (wipeE ρ4 vs) st4 = some (acc, ρ2, st2) := e3
          have R6 := R5.wipe vs
          rw [w4] at R6
          exact ⟨A5, B5, ρ4, st4, ac, hA2.trans (hA4.trans hA5), (hB2.trans b1).trans (hB4.trans hB5), R6, e3⟩
        | true =>
          rw [if_pos rfl]
          simp only [if_true] at e3
          obtain ⟨⟨y, ρ5, st5⟩, e6, e3⟩ := bindS e3
          simp only at e3
          split at e3
          · rename_i hl
            refine tE_V R5 e6 fun v A6 B6 H6 hA6 hB6 R6 h6 => ?_
            obtain ⟨_, ws, hw, hwl⟩ := R6.top
            refine ⟨ws, hw, by rw [hwl.length]; exact lim_lt hl, ?_⟩
            have R7 := (R6.updT (hwl.append (.cons h6 .nil))).wipe vs
            rw [w4] at R7
            exact ⟨A6, B6, ρ5, st5, _, hA2.trans ((hA4.trans hA5).trans hA6), (hB2.trans b1).trans ((hB4.trans hB5).trans hB6), R7, e3⟩
          · cases e3
    · have hil : i = xs.length := by omega
      subst hil
      refine .inl ⟨wk.2 (Nat.le_refl _), ?_⟩
      rw [List.drop_length] at e3
      simp only [lcL] at e3
      cases e3
      refine q _ A2 B2 H' (hA1.trans hA2) (hB1.trans hB2) ?_
      unfold EPost
      rw [if_pos rfl]
      exact ⟨Dl, _, rfl, rfl, R2.unwipe⟩
end
end Pv

namespace Pv
open PySem PySem.Spec PyProof.Rows L2

section
variable {P : Program} {w : World} {K : PySem.W.Frag} {mg : Str → Option Value} {base : Heap} {k : Nat} {F : Tb} {C : SC} {X : Cx} {gl : Str → Bool} {fp : Str → Bool} {kw : Str → Nat → List Str → List Nat → Bool}
/-! ### a comprehension of two clauses -/
theorem sd_lc2 {pe : E} {pt pt1 : Tg} {pi pi1 : I} {pc pc1 : Co} {own : List (Str × Nat)} {own1 : List Nat} (hsl : ∀ j ∈ pt.slots, j ∈ own.map (·.2)) (hsl1 : ∀ j ∈ pt1.slots, j ∈ own1) (hs1 : ∀ j ∈ own1, j ∈ own.map (·.2)) :
    ∀ σ H Q, tE K F (.lc2 pe pt pi pc pt1 pi1 pc1 own own1) σ H Q → tLc2 (tI K F pi) (tG K F pt) (tCo K F pc) (tI K F pi1) (tG K F pt1) (tCo K F pc1) (tE K F pe) (own.map (·.2)) own1 σ H Q := by
  intro σ H Q hq
  obtain ⟨O, A, B, ρ, st, T, fr, d, ρ', st', R, ev, q⟩ := hq
  simp only [evE] at ev
  obtain ⟨⟨xs, ρ1, st1⟩, e1, ev⟩ := bindS ev
  obtain ⟨⟨acc, ρ2, st2⟩, e2, ev⟩ := bindS ev
  cases ev
  generalize hvs : own.map (·.2) = vs at *
  refine ⟨O, A, B, ρ, st, T, xs, ρ1, st1, R, e1, fun J A1 B1 H1 hA1 hB1 R1 W1 Dl hD => ?_⟩
  refine ⟨fun i m H' => ∃ A2 B2 ρa st2' ac, Px A1 A2 ∧ Ex B1 B2 ∧ Rel K O A2 B2 (L2.wipe σ vs) H' (wipeE ρa vs) st2' ((Dl, ac) :: T) ∧ m = xs.length - i ∧ i ≤ xs.length ∧
      lcL2 (evTg F pt) (evC F pc) (evI F pi1) (lcL (evTg F pt1) (evC F pc1) (fun ρ st => vv (evE F pe ρ st)) own1) vs own1 (xs.drop i) ac (wipeE ρa vs) st2' = some (acc, ρ2, st2), ⟨xs.length, A1, B1, ρ1, st1, [], Px.refl _, Ex.refl _, ?_, rfl, Nat.zero_le _, e2⟩, ?_⟩
  · exact (R1.wipe vs).push hD .nil
  · rintro i m H' ⟨A2, B2, ρa, st2', ac, hA2, hB2, R2, rfl, hi2, e3⟩
    have wk := W1 i A2 B2 H' hA2 hB2 R2.ex
    by_cases hlt : i < xs.length
    · refine .inr ?_
      have ed : xs[i]? = some xs[i] := List.getElem?_eq_getElem hlt
      obtain ⟨go, turn⟩ := wk.1 _ ed
      rw [List.drop_eq_getElem_cons hlt] at e3
      simp only [lcL2] at e3
      obtain ⟨⟨ρ3, st3⟩, e4, e3⟩ := bindS e3
      obtain ⟨⟨b, ρ4, st4⟩, e5, e3⟩ := bindS e3
      refine ⟨go, fun H3 => ∃ A3 B3 ρb st3' ac', Px A1 A3 ∧ Ex B1 B3 ∧ Rel K O A3 B3 (L2.wipe σ vs) H3 (wipeE ρb vs) st3' ((Dl, ac') :: T) ∧
          lcL2 (evTg F pt) (evC F pc) (evI F pi1) (lcL (evTg F pt1) (evC F pc1) (fun ρ st => vv (evE F pe ρ st)) own1) vs own1 (xs.drop (i + 1)) ac' (wipeE ρb vs) st3' = some (acc, ρ2, st2), fun H3 hN => ?_, fun x H3 hy => ?_⟩
      · obtain ⟨A3, B3, ρb, st3', ac', h1, h2, h3, h4⟩ := hN
        exact ⟨xs.length - (i + 1), by omega, A3, B3, ρb, st3', ac', h1, h2, h3, rfl, hlt, h4⟩
      · obtain ⟨B3, b1, b2, b3, b4, hx⟩ := turn x H3 hy
        have R3 := R2.grow b1 b2 b3 b4
        refine tG_of R3 hx e4 fun σ4 A4 B4 H4 hA4 hB4 o4 R4 => ?_
        have w4 : L2.wipe σ4 vs = L2.wipe σ vs := by
          rw [wipe_eq (o4.mono hsl)]
          exact wipe_eq (off_wipe σ vs)
        refine ⟨w4, tCo_of R4 e5 fun A5 B5 H5 hA5 hB5 R5 => ?_⟩
        cases b with
        | false =>
          rw [if_neg Bool.false_ne_true]
          have R6 := R5.wipe vs
          rw [w4] at R6
          exact ⟨A5, B5, ρ4, st4, ac, hA2.trans (hA4.trans hA5), (hB2.trans b1).trans (hB4.trans hB5), R6, e3⟩
        | true =>
          rw [if_pos rfl]
          simp only [if_true] at e3
          obtain ⟨⟨ys, ρ5, st5⟩, e6, e3⟩ := bindS e3
          obtain ⟨⟨ac2, ρ6, st6⟩, e7, e3⟩ := bindS e3
          refine ⟨O, A5, B5, ρ4, st4, _, ys, ρ5, st5, R5, e6, fun J1 A6 B6 H6 hA6 hB6 R6 W6 => ?_⟩
          have pA6 : Px A1 A6 := hA2.trans ((hA4.trans hA5).trans hA6)
          have pB6 : Ex B1 B6 := (hB2.trans b1).trans ((hB4.trans hB5).trans hB6)
          refine ⟨fun j n H' => ∃ A7 B7 ρb st7 acb, Px A6 A7 ∧ Ex B6 B7 ∧ Rel K O A7 B7 (L2.wipe σ4 own1) H' (wipeE ρb own1) st7 ((Dl, acb) :: T) ∧ n = ys.length - j ∧ j ≤ ys.length ∧
              lcL (evTg F pt1) (evC F pc1) (fun ρ st => vv (evE F pe ρ st)) own1 (ys.drop j) acb (wipeE ρb own1) st7 = some (ac2, ρ6, st6), ⟨ys.length, A6, B6, ρ5, st5, ac, Px.refl _, Ex.refl _, R6.wipe own1, rfl, Nat.zero_le _, e7⟩, ?_⟩
          rintro j n H7 ⟨A7, B7, ρb, st7, acb, hA7, hB7, R7, rfl, hj7, e8⟩
          have wk1 := W6 j A7 B7 H7 hA7 hB7 R7.ex
          by_cases hjl : j < ys.length
          · refine .inr ?_
            have ed1 : ys[j]? = some ys[j] := List.getElem?_eq_getElem hjl
            obtain ⟨go1, turn1⟩ := wk1.1 _ ed1
            rw [List.drop_eq_getElem_cons hjl] at e8
            simp only [lcL] at e8
            obtain ⟨⟨ρ8, st8⟩, f4, e8⟩ := bindS e8
            obtain ⟨⟨b8, ρ9, st9⟩, f5, e8⟩ := bindS e8
            refine ⟨go1, fun H3 => ∃ A3 B3 ρc st3' ac', Px A6 A3 ∧ Ex B6 B3 ∧ Rel K O A3 B3 (L2.wipe σ4 own1) H3 (wipeE ρc own1) st3' ((Dl, ac') :: T) ∧
                lcL (evTg F pt1) (evC F pc1) (fun ρ st => vv (evE F pe ρ st)) own1 (ys.drop (j + 1)) ac' (wipeE ρc own1) st3' = some (ac2, ρ6, st6), fun H3 hN => ?_, fun x1 H8 hy1 => ?_⟩
            · obtain ⟨A3, B3, ρc, st3', ac', h1, h2, h3, h4⟩ := hN
              exact ⟨ys.length - (j + 1), by omega, A3, B3, ρc, st3', ac', h1, h2, h3, rfl, hjl, h4⟩
            · obtain ⟨B8, c1, c2, c3, c4, hx1⟩ := turn1 x1 H8 hy1
              have R8 := R7.grow c1 c2 c3 c4
              refine tG_of R8 hx1 f4 fun σ9 A9 B9 H9 hA9 hB9 o9 R9 => ?_
              have w9 : L2.wipe σ9 own1 = L2.wipe σ4 own1 := by
                rw [wipe_eq (o9.mono hsl1)]
                exact wipe_eq (off_wipe σ4 own1)
              refine ⟨w9, tCo_of R9 f5 fun A10 B10 H10 hA10 hB10 R10 => ?_⟩
              cases b8 with
              | false =>
                rw [if_neg Bool.false_ne_true]
                have R11 := R10.wipe own1
                rw [w9] at R11
                exact ⟨A10, B10, ρ9, st9, acb, hA7.trans (hA9.trans hA10), (hB7.trans c1).trans (hB9.trans hB10), R11, e8⟩
              | true =>
                rw [if_pos rfl]
                simp only [if_true] at e8
                obtain ⟨⟨y, ρ10, st10⟩, f6, e8⟩ := bindS e8
                simp only at e8
                split at e8
                · rename_i hl
                  refine tE_V R10 f6 fun v A11 B11 H11 hA11 hB11 R11 h11 => ?_
                  obtain ⟨_, ws, hw, hwl⟩ := R11.top
                  refine ⟨ws, hw, by rw [hwl.length]; exact lim_lt hl, ?_⟩
                  have R12 := (R11.updT (hwl.append (.cons h11 .nil))).wipe own1
                  rw [w9] at R12
                  exact ⟨A11, B11, ρ10, st10, _, hA7.trans ((hA9.trans hA10).trans hA11), (hB7.trans c1).trans ((hB9.trans hB10).trans hB11), R12, e8⟩
                · cases e8
          · have hjl : j = ys.length := by omega
            subst hjl
            refine .inl ⟨wk1.2 (Nat.le_refl _), ?_⟩
            rw [List.drop_length] at e8
            simp only [lcL] at e8
            cases e8
            have R8 := R7.wipe vs
            have w8 : L2.wipe (L2.wipe σ4 own1) vs = L2.wipe σ vs := by
              rw [wipe_eq ((off_wipe σ4 own1).mono hs1)]
              exact w4
            rw [w8] at R8
            exact ⟨A7, B7, _, _, _, pA6.trans hA7, pB6.trans hB7, R8, e3⟩
    · have hil : i = xs.length := by omega
      subst hil
      refine .inl ⟨wk.2 (Nat.le_refl _), ?_⟩
      rw [List.drop_length] at e3
      simp only [lcL2] at e3
      cases e3
      refine q _ A2 B2 H' (hA1.trans hA2) (hB1.trans hB2) ?_
      unfold EPost
      rw [if_pos rfl]
      exact ⟨Dl, _, rfl, rfl, R2.unwipe⟩
/-! ### isinstance, ranges as lists, a list turned about, chains -/
theorem isi_kit : ∀ a ∈ ["NoneType", "bool", "int", "str", "tuple", "list"], ∀ t ∈ ["int", "str", "bool", "tuple", "list", "dict"], kitB a t = some (a == t || (a == "bool" && t == "int")) := by decide +kernel
theorem isi_boot : ∀ t ∈ ["int", "str", "bool", "tuple", "list", "dict"], bootBuiltins (Str.ofString t) = some (.type t) ∧ Str.ofString t ∈ blts ∧ Str.ofString t ≠ "__name__" ∧ (Str.ofString t == ("__debug__" : Str)) = false := by decide +kernel
theorem ty_mem (d : D) : ty d ∈ ["NoneType", "bool", "int", "str", "tuple", "list"] := by cases d <;> simp [ty]
theorem ty_ho {O : Org} {A : List Addr} {B H : Hp} {σ : L2.St} {ρ : Env} {st : Sto} {T : List (Addr × List D)} {v : V} {d : D} (R : Rel K O A B σ H ρ st T) (h : Ho K A B v d) (hs : isk d = true) : TyX K H v (.type (ty d)) := by
  cases d with
  | non => cases h; exact .base .non
  | bl b => cases h; exact .base (.bl b)
  | int b => cases h; exact .base (.int b)
  | str b => cases h; exact .base (.str b)
  | lst xs =>
    obtain ⟨a, rfl⟩ := h.isLst
    obtain ⟨vs, _, h1, _⟩ := h.lstH R.ex
    exact .base (.lst h1)
  | tup xs =>
    obtain ⟨a, rfl⟩ := h.isTup
    obtain ⟨vs, h1, _⟩ := h.tupH R.ex
    rcases h1 with h1 | ⟨o, its, n, h1, h2, _⟩
    · rcases h1 with h1 | ⟨o, h1⟩
      · exact .base (.tup h1)
      · exact .fTuple h1
    · exact .kTuple h1 h2
  | hd n =>
    cases h with | hd ha =>
    have hn : n < st.length := by rw [← R.al]; exact (List.getElem?_eq_some_iff.mp ha).1
    obtain ⟨a0, ws, f0, f1, _, _⟩ := R.updH (List.getElem?_eq_getElem hn)
    rw [ha] at f0; cases f0
    exact .base (.lst f1)
  | _ => cases hs
theorem ty_name (G : GOk P w K mg base k F gl fp kw) (ok : COk P w K mg base k C X) {t : String} {p : Pos} (ht : t ∈ ["int", "str", "bool", "tuple", "list", "dict"]) (hg : glB C.sc (t : Str) = true) : PE X (.Name (t : Str) p) (L2.tC (.ty t)) := by
  obtain ⟨h1, h2, h3, h4⟩ := isi_boot t ht
  exact pe_bltn (ok.gl hg) (ok.blt G h2) h1 rfl h3 h4
theorem isi_names : ∀ {es : List Expr} {ts : List String}, tyNames es ts = true → (∃ ps : List Pos, es = (ts.zip ps).map fun q => Expr.Name (q.1 : Str) q.2) ∧ (∀ t ∈ ts, t ∈ ["int", "str", "bool", "tuple", "list", "dict"]) ∧ es.all starB = true ∧ es.length = ts.length
  | [], [], _ => ⟨⟨[], rfl⟩, fun _ h => by simp at h, rfl, rfl⟩
  | [], _ :: _, h => by simp [tyNames] at h
  | e :: es, [], h => by cases e <;> simp [tyNames] at h
  | e :: es, t :: ts, h => by
    cases e with
    | Name x p =>
      simp only [tyNames, Bool.and_eq_true, beq_iff_eq] at h
      obtain ⟨⟨rfl, h2⟩, h3⟩ := h
      obtain ⟨⟨ps, rfl⟩, i2, i3, i4⟩ := isi_names h3
      refine ⟨⟨p :: ps, rfl⟩, fun u hu => ?_, all_cons_iff.mpr ⟨rfl, i3⟩, by simp [i4]⟩
      rcases List.mem_cons.mp hu with rfl | hu
      · exact List.contains_iff_mem.mp h2
      · exact i2 u hu
    | _ => simp [tyNames] at h
end
end Pv

namespace Pv
open PySem PySem.Spec PyProof.Rows L2

section
variable {P : Program} {w : World} {K : PySem.W.Frag} {mg : Str → Option Value} {base : Heap} {k : Nat} {F : Tb} {C : SC} {X : Cx} {gl : Str → Bool} {fp : Str → Bool} {kw : Str → Nat → List Str → List Nat → Bool}
def tTys (ts : List String) : TA := fun _ H Q => Q (ts.map V.ty) H
theorem tyGl_of {sc : Scope} : ∀ {ts : List String}, tyGl sc ts = true → ∀ t ∈ ts, glB sc (t : Str) = true
  | [], _, t, h => by simp at h
  | u :: ts, h, t, ht => by
    simp only [tyGl, Bool.and_eq_true] at h
    rcases List.mem_cons.mp ht with rfl | ht
    · exact h.1
    · exact tyGl_of h.2 t ht
theorem pa_tys (G : GOk P w K mg base k F gl fp kw) (ok : COk P w K mg base k C X) : ∀ {es : List Expr} {ts : List String}, tyNames es ts = true → tyGl C.sc ts = true → PA X es (tTys ts)
  | [], [], _, _ => pa_nil
  | [], _ :: _, h, _ => by simp [tyNames] at h
  | e :: es, [], h, _ => by cases e <;> simp [tyNames] at h
  | e :: es, t :: ts, h, hg => by
    cases e with
    | Name x p =>
      simp only [tyNames, Bool.and_eq_true, beq_iff_eq] at h
      obtain ⟨⟨rfl, h2⟩, h3⟩ := h
      simp only [tyGl, Bool.and_eq_true] at hg
      exact pa_cons (ty_name G ok (List.contains_iff_mem.mp h2) hg.1) (pa_tys G ok h3 hg.2) (star_cons rfl)
    | _ => simp [tyNames] at h
theorem kit_any {K : PySem.W.Frag} (d : D) : ∀ {ts : List String}, (∀ t ∈ ts, t ∈ ["int", "str", "bool", "tuple", "list", "dict"]) → PySem.W.kitAny K (.type (ty d)) (ts.map Value.type) = some (isiD ts d)
  | [], _ => kitAny_nil
  | t :: ts, h => by
    have h1 := isi_kit (ty d) (ty_mem d) t (h t List.mem_cons_self)
    have ih := kit_any (K := K) d (ts := ts) fun u hu => h u (List.mem_cons_of_mem _ hu)
    refine kitAny_cons (kit_ty h1) (fun hb => ?_) fun hb => ?_
    · rw [ih]; unfold isiD; rw [List.any_cons, hb]; rfl
    · unfold isiD; rw [List.any_cons, hb]; rfl
theorem paired_tys : ∀ ts : List String, Paired ClsV (ts.map V.ty) (ts.map Value.type)
  | [] => .nil
  | t :: ts => .cons (.ty t) (paired_tys ts)
theorem boot_isi : bootBuiltins "isinstance" = some (.builtin "isinstance") ∧ (("isinstance" : Str) ∈ blts) ∧ ("isinstance" : Str) ≠ "__name__" ∧ (("isinstance" : Str) == ("__debug__" : Str)) = false := by decide +kernel
theorem isi_ev {p : E} {ts : List String} {m : Bool} {ρ : Env} {st : Sto} {fr : Bool} {d : D} {ρ' : Env} {st' : Sto} (e : evE F (.isi p ts m) ρ st = some (fr, d, ρ', st')) : ∃ x, vv (evE F p ρ st) = some (x, ρ', st') ∧ isk x = true ∧ fr = false ∧ d = .bl (isiD ts x) := by
  simp only [evE] at e
  obtain ⟨⟨x, ρ1, st1⟩, e1, e⟩ := bindS e
  cases x <;> first | (cases e; done) | (cases e; exact ⟨_, e1, rfl, rfl, rfl⟩)
theorem sd_isiT (G : GOk P w K mg base k F gl fp kw) (ok : COk P w K mg base k C X) {y : Expr} {es : List Expr} {p : E} {ts : List String} {q0 pos tp : Pos} {j : Nat} (hg : glB C.sc "isinstance" = true) (hs : starB y = true) (h : PE X y (tE K F p)) (h1 : tyNames es ts = true) (h2 : tyGl C.sc ts = true) (hlen : es.length < 10) :
    PE X (.Call (.Name "isinstance" q0) [y, .Tuple es j tp] [] pos) (tE K F (.isi p ts true)) := by
  have hK := ok.K
  subst hK
  obtain ⟨b1, b2, b3, b4⟩ := boot_isi
  obtain ⟨_, i2, i3, i4⟩ := isi_names h1
  refine (pe_callB call_isiT (ok.gl hg) (ok.blt G b2) b1 (pa_cons h (pa_cons (pe_tup (pa_tys G ok h1 h2)) pa_nil (star_cons rfl)) (star_cons hs)) b3 b4 (star_cons hs) (back_any (es := [_]) rfl)).imp fun σ H Q hq => ?_
  obtain ⟨O, A, B, ρ, st, T, fr, d, ρ', st', R, e, q⟩ := hq
  obtain ⟨x, e1, e2, rfl, rfl⟩ := isi_ev e
  refine tE_V R e1 fun v A1 B1 H1 hA1 hB1 R1 hv => ?_
  refine ⟨?_, fun t ht => ?_⟩
  · rw [List.length_map, sizeLine_eq]
    omega
  · have R2 := R1.waste (o := .tup (ts.map V.ty)) ht
    exact ⟨v, t, ts.map V.ty, _, ts.map Value.type, isiD ts x, rfl, upd_same, paired_tys ts, ty_ho R2 hv e2, kit_any x i2, q _ _ _ _ hA1 hB1 (.val R2 (.bl _))⟩
theorem sd_isi1 (G : GOk P w K mg base k F gl fp kw) (ok : COk P w K mg base k C X) {y t0 : Expr} {p : E} {ts : List String} {q0 pos : Pos} (hg : glB C.sc "isinstance" = true) (hs : starB y = true) (h : PE X y (tE K F p)) (h1 : tyNames [t0] ts = true) (h2 : tyGl C.sc ts = true) :
    PE X (.Call (.Name "isinstance" q0) [y, t0] [] pos) (tE K F (.isi p ts false)) := by
  have hK := ok.K
  subst hK
  obtain ⟨b1, b2, b3, b4⟩ := boot_isi
  obtain ⟨_, i2, i3, i4⟩ := isi_names h1
  refine (pe_callB call_isi (ok.gl hg) (ok.blt G b2) b1 (pa_cons h (pa_tys G ok h1 h2) (star_cons hs)) b3 b4 (star_cons hs) (back_any i3)).imp fun σ H Q hq => ?_
  obtain ⟨O, A, B, ρ, st, T, fr, d, ρ', st', R, e, q⟩ := hq
  obtain ⟨x, e1, e2, rfl, rfl⟩ := isi_ev e
  refine tE_V R e1 fun v A1 B1 H1 hA1 hB1 R1 hv => ?_
  match ts, i4 with
  | [t], _ =>
    have hk : kitB (ty x) t = some (isiD [t] x) := by
      rw [isi_kit (ty x) (ty_mem x) t (i2 t List.mem_cons_self)]
      unfold isiD; simp
    exact ⟨v, .ty t, _, _, isiD [t] x, rfl, .ty t, ty_ho R1 hv e2, kit_ty hk, q _ _ _ _ hA1 hB1 (.val R1 (.bl _))⟩
/-! ### ranges as lists and tuples -/
theorem rgV_ho {K : PySem.W.Frag} {A : List Addr} {B : Hp} {a b : Int} : HoL K A B (rgV a b) (rngL a b 1) := by
  unfold rgV rngL
  have hn : rngN a b 1 = (b - a).toNat := by unfold rngN; rw [PyProof.Rows.rangeSize_nat]; exact Int.toNat_natCast _
  rw [hn]
  generalize (b - a).toNat = n
  have : ∀ l : List Nat, HoL K A B (l.map fun i => V.int (a + (i : Nat))) (l.map fun (i : Nat) => D.int (a + (i : Int) * 1)) := fun l => by
    induction l with
    | nil => exact .nil
    | cons x l ih => rw [List.map_cons, List.map_cons, Int.mul_one]; exact .cons (.int _) ih
  exact this _
theorem prg_of (G : GOk P w K mg base k F gl fp kw) (ok : COk P w K mg base k C X) {zs : List Expr} {ps : Es} {q0 pos : Pos} (hg : glB C.sc "range" = true) (hc : chEs C ps zs = true) (hl : zs.length = 1 ∨ zs.length = 2) (h : PEs X K F zs ps) :
    ∃ t, PRg X (.Call (.Name "range" q0) zs [] pos) t ∧ ∀ σ H O A B ρ st T ds ρ' st' xs (Q : Int → Int → Hp → Prop), Rel K O A B σ H ρ st T → evEs F ps ρ st = some (ds, ρ', st') → rngD ds = some xs →
      (∀ a b A' B' H', Px A A' → Ex B B' → Rel K O A' B' σ H' ρ' st' T → xs = rngL a b 1 → rngOk a b 1 = true → Q a b H') → t σ H Q := by
  have hm : X.mg "range" = none := ok.blt G (by decide +kernel)
  match zs, hl, h, hc with
  | [a], _, h, hc =>
    cases h with | cons s1 p1 t1 =>
    cases t1
    refine ⟨_, prg_1 (ok.gl hg) hm p1 (star_cons s1), fun σ H O A B ρ st T ds ρ' st' xs Q R e1 e2 q => ?_⟩
    simp only [evEs] at e1
    obtain ⟨⟨x, ρ1, st1⟩, f1, e1⟩ := bindS e1
    obtain ⟨⟨xs', ρ2, st2⟩, f2, e1⟩ := bindS e1
    cases f2
    cases e1
    refine tE_V R f1 fun v A1 B1 H1 hA1 hB1 R1 hv => ?_
    cases x with
    | int n =>
      cases hv
      simp only [rngD] at e2
      split at e2
      · rename_i ho
        cases e2
        exact ⟨n, rfl, q 0 n A1 B1 H1 hA1 hB1 R1 rfl ho⟩
      · cases e2
    | _ => cases e2
  | [a, b], _, h, hc =>
    cases h with | cons s1 p1 t1 =>
    cases t1 with | cons s2 p2 t2 =>
    cases t2
    refine ⟨_, prg_2 (ok.gl hg) hm p1 p2 (star_cons s1) (star_cons s2) (back_any (all_cons_iff.mpr ⟨s2, rfl⟩)), fun σ H O A B ρ st T ds ρ' st' xs Q R e1 e2 q => ?_⟩
    simp only [evEs] at e1
    obtain ⟨⟨x, ρ1, st1⟩, f1, e1⟩ := bindS e1
    obtain ⟨⟨xs', ρ2, st2⟩, f2, e1⟩ := bindS e1
    cases e1
    obtain ⟨⟨y, ρ3, st3⟩, f3, f2⟩ := bindS f2
    obtain ⟨⟨ys', ρ4, st4⟩, f4, f2⟩ := bindS f2
    cases f4
    cases f2
    refine tE_V R f1 fun v A1 B1 H1 hA1 hB1 R1 hv => ?_
    refine tE_V R1 f3 fun u A2 B2 H2 hA2 hB2 R2 hu => ?_
    cases x with
    | int n =>
      cases y with
      | int m =>
        cases hv; cases hu
        simp only [rngD] at e2
        split at e2
        · rename_i ho
          cases e2
          exact ⟨n, m, rfl, rfl, q n m A2 B2 H2 (hA1.trans hA2) (hB1.trans hB2) R2 rfl ho⟩
        · cases e2
      | _ => cases e2
    | _ => cases y <;> cases e2
theorem rgOk_of {a b : Int} (h : rngOk a b 1 = true) (hl : (rngL a b 1).length ≤ lim) : RgOk a b := by
  unfold rngOk at h
  simp only [Bool.and_eq_true, decide_eq_true_eq] at h
  unfold rngL at hl
  rw [List.length_map, List.length_range] at hl
  have hn : rngN a b 1 = (b - a).toNat := by unfold rngN; rw [PyProof.Rows.rangeSize_nat]; exact Int.toNat_natCast _
  rw [hn] at hl
  unfold lim at hl
  unfold RgOk
  omega
theorem sd_lrng (G : GOk P w K mg base k F gl fp kw) (ok : COk P w K mg base k C X) {zs : List Expr} {ps : Es} {q0 q1 p1 pos : Pos} (hg0 : glB C.sc "list" = true) (hg : glB C.sc "range" = true) (hc : chEs C ps zs = true) (hl : zs.length = 1 ∨ zs.length = 2) (h : PEs X K F zs ps) :
    PE X (.Call (.Name "list" q1) [.Call (.Name "range" q0) zs [] p1] [] pos) (tE K F (.lrng ps)) := by
  obtain ⟨t, ht, tw⟩ := prg_of (q0 := q0) (pos := p1) G ok hg hc hl h
  refine (pe_listRg ok.calm (ok.gl hg0) (ok.blt G (by decide +kernel)) ht (star_cons rfl)).imp fun σ H Q hq => ?_
  obtain ⟨O, A, B, ρ, st, T, fr, d, ρ', st', R, e, q⟩ := hq
  simp only [evE] at e
  obtain ⟨⟨ds, ρ1, st1⟩, e1, e⟩ := bindS e
  obtain ⟨xs, e2, e⟩ := bindS e
  split at e
  · rename_i hl
    cases e
    refine tw σ H O A B ρ st T ds _ _ _ _ R e1 e2 fun a b A' B' H' hA hB R' hx ho => ?_
    subst hx
    exact ⟨rgOk_of ho hl.1, fun p hp => q _ _ _ _ hA hB (.new R' hp rgV_ho)⟩
  · cases e
theorem sd_trng (G : GOk P w K mg base k F gl fp kw) (ok : COk P w K mg base k C X) {zs : List Expr} {ps : Es} {q0 q1 p1 pos : Pos} (hg0 : glB C.sc "tuple" = true) (hg : glB C.sc "range" = true) (hc : chEs C ps zs = true) (hl : zs.length = 1 ∨ zs.length = 2) (h : PEs X K F zs ps) :
    PE X (.Call (.Name "tuple" q1) [.Call (.Name "range" q0) zs [] p1] [] pos) (tE K F (.trng ps)) := by
  obtain ⟨t, ht, tw⟩ := prg_of (q0 := q0) (pos := p1) G ok hg hc hl h
  refine (pe_tupRgF ok.calm (ok.gl hg0) (ok.blt G (by decide +kernel)) ht (star_cons rfl)).imp fun σ H Q hq => ?_
  obtain ⟨O, A, B, ρ, st, T, fr, d, ρ', st', R, e, q⟩ := hq
  simp only [evE] at e
  obtain ⟨⟨ds, ρ1, st1⟩, e1, e⟩ := bindS e
  obtain ⟨xs, e2, e⟩ := bindS e
  split at e
  · rename_i hl
    cases e
    refine tw σ H O A B ρ st T ds _ _ _ _ R e1 e2 fun a b A' B' H' hA hB R' hx ho => ?_
    subst hx
    exact ⟨rgOk_of ho hl.1, fun p o hp ho => q _ _ _ _ hA (hB.trans (Ex.new (R'.bfresh hp))) (.tup R' hp ho rgV_ho)⟩
  · cases e
/-! ### a list turned about -/
theorem sd_slr (ok : COk P w K mg base k C X) {x : Expr} {p : E} {j : Nat} {p1 p2 p3 pos : Pos} (h : PE X x (tE K F p)) : PE X (.Subscript x (.Slice none none (some (.UnaryOp .USub (.Constant (.int 1) j p1) p2)) p3) pos) (tE K F (.slr p)) := by
  have hK := ok.K
  subst hK
  refine (pe_revF h).imp fun σ H Q hq => ?_
  obtain ⟨O, A, B, ρ, st, T, fr, d, ρ', st', R, e, q⟩ := hq
  simp only [evE] at e
  obtain ⟨⟨y, ρ1, st1⟩, e1, e⟩ := bindS e
  obtain ⟨e, rfl, rfl⟩ := upS e
  refine tE_V R e1 fun v A1 B1 H1 hA1 hB1 R1 hv => ?_
  cases y with
  | lst xs =>
    cases e
    obtain ⟨a, rfl⟩ := hv.isLst
    obtain ⟨vs, _, g1, g2⟩ := hv.lstH R1.ex
    exact ⟨a, vs, rfl, .inl ⟨SqL.of g1, fun p hp => q _ _ _ _ hA1 hB1 (.new R1 hp g2.reverse)⟩⟩
  | tup xs =>
    cases e
    obtain ⟨a, rfl⟩ := hv.isTup
    obtain ⟨vs, g1, g2⟩ := hv.tupH R1.ex
    exact ⟨a, vs, rfl, .inr ⟨g1, fun p o hp ho => q _ _ _ _ hA1 (hB1.trans (Ex.new (R1.bfresh hp))) (.tup R1 hp ho g2.reverse)⟩⟩
  | _ => cases e
end
end Pv

/-! list(zip), sorted(set), count and index -/
namespace Pv
open PySem PySem.Spec PyProof.Rows L2

section
variable {X : Cx}
theorem sm_at {pins : List (Addr × Obj)} {σ : L2.St} {H : Hp} {s : Shared} {A A2 : List Addr} {B B2 : Hp} {vs : List V} {its : List Value} {xs : List D} {y : V} {u : Value} {d : D} {Ar : Around}
    (I : Inv X pins σ H s) (e : Ex B H) (hl : HoL X.K A B vs xs) (rv : Vals vs its) (e2 : Ex B2 H) (h2 : Ho X.K A2 B2 y d) (ry : RelV y u) (f1 : xs.all (sh 50) = true) (f2 : sh 50 d = true) (hu : Ar.units + 64 < cLine) :
    ∃ g : Value → Bool, (∀ z, z ∈ its.toArray → SeqAt.EqAt Ar.in1 s z u (g z)) ∧ its.map g = xs.map fun z => eqv z d := by
  obtain ⟨as, r1⟩ := Dp.readsAll I _ _ _ (HoL.dp e xs 50 hl (fun z hz => List.all_eq_true.mp f1 z hz)) rv
  obtain ⟨bs, r2⟩ := Dp.reads I _ _ _ (h2.dp e2 d 50 f2) ry
  have c1 := (pyL_lay xs 50 fun e he => List.all_eq_true.mp f1 e he).1
  have c2 := (py_lay d 50 f2).1
  refine ⟨fun z => PyData.eqv (SeqAt.readOf s.heap z) (py d), fun z hz => SeqAt.items_eqAt (vs := its.toArray) (by simpa using r1) r2 c1 c2 (in_room hu f2) z hz, ?_⟩
  have h3 := SeqAt.readsAll_map _ _ _ c1 r1
  rw [show (fun z => PyData.eqv (SeqAt.readOf s.heap z) (py d)) = (fun z => PyData.eqv z (py d)) ∘ SeqAt.readOf s.heap from rfl, ← List.map_map, h3, pyL_map, List.map_map]
  refine List.map_congr_left fun z hz => ?_
  exact py_eqv z d 50 50 (List.all_eq_true.mp f1 z hz) f2
theorem countP_map {its : List Value} {g : Value → Bool} {xs : List D} {f : D → Bool} (h : its.map g = xs.map f) : its.countP g = xs.countP f := by
  have e1 : its.countP g = (its.map g).countP id := by rw [List.countP_map]; rfl
  have e2 : xs.countP f = (xs.map f).countP id := by rw [List.countP_map]; rfl
  rw [e1, e2, h]
theorem find_map {its : List Value} {g : Value → Bool} {xs : List D} {f : D → Bool} {j : Nat} (h : its.map g = xs.map f) (hj : xs.findIdx? f = some j) :
    ∃ hj : j < its.toArray.size, g its.toArray[j] = true ∧ ∀ m (hm : m < its.toArray.size), m < j → g its.toArray[m] = false := by
  have hlen : its.length = xs.length := by have := congrArg List.length h; simpa using this
  have at' : ∀ m (hm : m < its.length), g its[m] = f (xs[m]'(by omega)) := fun m hm => by
    have := congrArg (fun l => l[m]?) h
    simp only [List.getElem?_map] at this
    rw [List.getElem?_eq_getElem hm, List.getElem?_eq_getElem (by omega)] at this
    exact Option.some.inj this
  obtain ⟨hl, h1, h2⟩ := List.findIdx?_eq_some_iff_getElem.mp hj
  refine ⟨by simpa using (by omega : j < its.length), ?_, fun m hm hmj => ?_⟩
  · have := at' j (by omega)
    simp only [List.getElem_toArray]
    rw [this]; exact h1
  · have hm' : m < its.length := by simpa using hm
    have := at' m hm'
    simp only [List.getElem_toArray]
    rw [this]
    have := h2 m hmj
    simpa using this
def smL : Sm → String
  | .count => "list.count" | .index => "list.index"
def smT : Sm → String
  | .count => "tuple.count" | .index => "tuple.index"
def tSm (K : PySem.W.Frag) (m : Sm) (to te : TE) : TE := fun σ H Q => to σ H fun x H1 => ∃ A B a vs xs, x = .ref a ∧ (B a = some (.lst vs) ∨ (SqT K B a vs ∧ PTu K B a)) ∧ HoL K A B vs xs ∧ Ex B H1 ∧
  te σ H1 fun y H2 => Ex B H2 ∧ ∃ A2 B2 d j, Ex B2 H2 ∧ Ho K A2 B2 y d ∧ smD m xs d = some j ∧ Q (.int j) H2
theorem pe_sm {m : Sm} {o e : Expr} {to te : TE} {apos cpos : Pos} (hu : X.A.units + 64 < cLine) (ho : PE X o to) (he : PE X e te)
    (hbase : attributeBase o (smName m) X.env (eval o X.env) = eval o X.env) (hline : (apos.endLine == cpos.line) = true) (hs : starEach [e] X.env = (false, eval e X.env) :: starEach [] X.env) :
    PE X (.Call (.Attribute o (smName m) apos) [e] [] cpos) (tSm X.K m to te) := by
  refine ⟨fun pins s σ H Q I h => ?_⟩
  have htr : backTo cpos (starEach [e] X.env) = [(false, eval e X.env)] := by rw [hs]; rfl
  refine wpAny_Call_method1_late hbase hline htr (thn (ho.run pins s σ H _ I h) fun v s1 ⟨x, H1, I1, r1, A, B, a, vs, xs, ex, hq, hl, eB, q1⟩ => ?_)
  subst ex
  cases r1
  have arg : ∀ (id : String), (∀ u s2, (∃ y H2, Inv X pins σ H2 s2 ∧ RelV y u ∧ Ex B H2 ∧ ∃ A2 B2 d j, Ex B2 H2 ∧ Ho X.K A2 B2 y d ∧ smD m xs d = some j ∧ Q (.int j) H2) →
      wpAny (model X.prog X.w) X.A (call (.builtin id) [.ref a, u]) (EP X pins σ Q) X.xe s2) →
      wpAny (model X.prog X.w) X.A (callWith cpos (.builtin id) [.ref a] [(false, eval e X.env)] []) (EP X pins σ Q) X.xe s1 := fun id hc => by
    refine Calls.callWith_builtin rfl (Calls.evalArgs_plain ?_)
    rw [← htr]
    refine thn ((pa_cons he pa_nil hs).run cpos pins s1 σ H1 (fun ys H2 => match ys with | [y] => Ex B H2 ∧ ∃ A2 B2 d j, Ex B2 H2 ∧ Ho X.K A2 B2 y d ∧ smD m xs d = some j ∧ Q (.int j) H2 | _ => False) I1 q1) fun us s2 hh => ?_
    obtain ⟨ys, H2, I2, r2, q2⟩ := hh
    match ys, r2, q2 with
    | [y], r2, q2 =>
    obtain ⟨u, rfl, ry⟩ := vals1 r2
    exact hc u s2 ⟨y, H2, I2, ry, q2⟩
  rcases hq with hq | ⟨hq, hp⟩
  · obtain ⟨_, its1, n1, rv1, eo1⟩ := I1.hok a _ (eB _ _ hq)
    have step : ∀ u s2, (∃ y H2, Inv X pins σ H2 s2 ∧ RelV y u ∧ Ex B H2 ∧ ∃ A2 B2 d j, Ex B2 H2 ∧ Ho X.K A2 B2 y d ∧ smD m xs d = some j ∧ Q (.int j) H2) →
        wpAny (model X.prog X.w) X.A (call (.builtin (smL m)) [.ref a, u]) (EP X pins σ Q) X.xe s2 := fun u s2 ⟨y, H2, I2, r2, e2, A2, B2, d, j, eB2, hd, hj, q⟩ => by
      obtain ⟨_, its, n, rv, eo⟩ := I2.hok a _ (e2 _ _ hq)
      unfold smD at hj
      split at hj
      · rename_i f
        simp only [Bool.and_eq_true, decide_eq_true_eq] at f
        obtain ⟨g, g1, g2⟩ := sm_at (Ar := X.A) I2 e2 hl rv eB2 hd r2 f.1.1 f.1.2 hu
        cases m with
        | count =>
          cases hj
          refine call_meets PySem.F.slot_list_count ⟨_, eo, rfl⟩ PySem.F.entry_list_count (PySem.F.args_list_count_2 _ _) (SeqAt.list_countAt a its.toArray n none #[] u g) ⟨eo, g1, ?_⟩
          rw [show its.toArray.toList = its from rfl, countP_map g2]
          exact ⟨.int _, H2, I2.tok _, ⟨_, rfl⟩, q⟩
        | index =>
          simp only at hj
          obtain ⟨j', h1, h2⟩ := mapS hj
          subst h2
          obtain ⟨k1, k2, k3⟩ := find_map g2 h1
          have hz := rv.length
          have hz2 := hl.length
          have : j' < its.length := by simpa using k1
          have hlim : xs.length < 16000000 := f.2
          refine call_meets PySem.F.slot_list_index ⟨_, eo, rfl⟩ PySem.F.entry_list_index (PySem.F.args_list_index_2 _ _) (SeqAt.list_indexAt a its.toArray n none #[] u g j' k1 (by omega) k2 k3) ⟨eo, g1, ?_⟩
          exact ⟨.int _, H2, I2.tok _, ⟨_, rfl⟩, q⟩
      · cases hj
    cases m with
    | count => exact ⟨"list", _, PySem.F.plainAttrs_list, PySem.F.slot_list_count, PySem.F.type_list_count, ⟨_, eo1, rfl⟩, fun b eb => by cases eb; exact ⟨_, eo1, rfl⟩, arg _ step⟩
    | index => exact ⟨"list", _, PySem.F.plainAttrs_list, PySem.F.slot_list_index, PySem.F.type_list_index, ⟨_, eo1, rfl⟩, fun b eb => by cases eb; exact ⟨_, eo1, rfl⟩, arg _ step⟩
  · obtain ⟨ob1, eo1, hd1⟩ := pt_obj I1 eB hp
    obtain ⟨its1, _, ⟨ob1', eo1', hc1, _⟩, _⟩ := I1.tuple (ex_t eB hq)
    rw [eo1] at eo1'; cases eo1'
    have step : ∀ u s2, (∃ y H2, Inv X pins σ H2 s2 ∧ RelV y u ∧ Ex B H2 ∧ ∃ A2 B2 d j, Ex B2 H2 ∧ Ho X.K A2 B2 y d ∧ smD m xs d = some j ∧ Q (.int j) H2) →
        wpAny (model X.prog X.w) X.A (call (.builtin (smT m)) [.ref a, u]) (EP X pins σ Q) X.xe s2 := fun u s2 ⟨y, H2, I2, r2, e2, A2, B2, d, j, eB2, hd, hj, q⟩ => by
      obtain ⟨its, rv, ⟨⟨cls, dd, dt, sl⟩, eo, hc, n, hdt⟩, _⟩ := I2.tuple (ex_t e2 hq)
      simp only at hc hdt
      subst hc
      subst hdt
      unfold smD at hj
      split at hj
      · rename_i f
        simp only [Bool.and_eq_true, decide_eq_true_eq] at f
        obtain ⟨g, g1, g2⟩ := sm_at (Ar := X.A) I2 e2 hl rv eB2 hd r2 f.1.1 f.1.2 hu
        cases m with
        | count =>
          cases hj
          refine call_meets PySem.F.slot_tuple_count ⟨_, eo, rfl⟩ PySem.F.entry_tuple_count (PySem.F.args_tuple_count_2 _ _) (SeqAt.tuple_countAt a its.toArray n dd sl u g) ⟨eo, g1, ?_⟩
          rw [show its.toArray.toList = its from rfl, countP_map g2]
          exact ⟨.int _, H2, I2.tok _, ⟨_, rfl⟩, q⟩
        | index =>
          simp only at hj
          obtain ⟨j', h1, h2⟩ := mapS hj
          subst h2
          obtain ⟨k1, k2, k3⟩ := find_map g2 h1
          refine call_meets PySem.F.slot_tuple_index ⟨_, eo, rfl⟩ PySem.F.entry_tuple_index (PySem.F.args_tuple_index_2 _ _) (TI.tuple_indexAt a its.toArray n dd sl u g j' k1 k2 k3) ⟨eo, g1, ?_⟩
          exact ⟨.int _, H2, I2.tok _, ⟨_, rfl⟩, q⟩
      · cases hj
    cases m with
    | count => exact ⟨"tuple", _, PySem.F.plainAttrs_tuple, PySem.F.slot_tuple_count, PySem.F.type_tuple_count, ⟨_, eo1, hc1⟩, fun b eb => by cases eb; exact ⟨_, eo1, hd1⟩, arg _ step⟩
    | index => exact ⟨"tuple", _, PySem.F.plainAttrs_tuple, PySem.F.slot_tuple_index, PySem.F.type_tuple_index, ⟨_, eo1, hc1⟩, fun b eb => by cases eb; exact ⟨_, eo1, hd1⟩, arg _ step⟩
/-! ### list(zip(a, b)) -/
theorem zrun_rel {K : PySem.W.Frag} {O : Org} {A : List Addr} {σ : L2.St} {ρ : Env} {st : Sto} {T : List (Addr × List D)} {d : Addr} : ∀ (xs ys : List D) (vs ws acc acc' : List V) (accD : List D) (B H H' : Hp), HoL K A B vs xs → HoL K A B ws ys → HoL K A B acc accD →
    Rel K O A B σ H ρ st ((d, accD) :: T) → ZRun d (vs.zip ws) acc H acc' H' → ∃ B', Ex B B' ∧ Rel K O A B' σ H' ρ st ((d, accD ++ zipT xs ys) :: T)
  | [], ys, vs, ws, acc, acc', accD, B, H, H', h1, h2, h3, R, z => by
    cases h1
    cases z
    exact ⟨B, Ex.refl _, by simpa [zipT] using R⟩
  | x :: xs, [], vs, ws, acc, acc', accD, B, H, H', h1, h2, h3, R, z => by
    cases h2
    rw [List.zip_nil_right] at z
    cases z
    exact ⟨B, Ex.refl _, by simpa [zipT] using R⟩
  | x :: xs, y :: ys, vs, ws, acc, acc', accD, B, H, H', h1, h2, h3, R, z => by
    cases h1 with | @cons v1 _ _ _ a1 a2 =>
    cases h2 with | @cons v2 _ _ _ b1 b2 =>
    rw [List.zip_cons_cons] at z
    cases z with
    | @cons _ _ _ _ _ _ _ P o hT ho run =>
    have hB : Ex B (upd B P (.frz o (.tup [v1, v2]))) := Ex.new (R.bfresh hT)
    have R1 := (R.new (o := .frz o (.tup [v1, v2])) hT).updT ((h3.mono (Px.refl _) hB).append (.cons (.tup sqT_frz (pt_frz ho) (.cons (a1.mono (Px.refl _) hB) (.cons (b1.mono (Px.refl _) hB) .nil))) .nil))
    obtain ⟨B', e, R2⟩ := zrun_rel xs ys _ _ _ acc' _ _ _ H' (a2.mono (Px.refl _) hB) (b2.mono (Px.refl _) hB) ((h3.mono (Px.refl _) hB).append (.cons (.tup sqT_frz (pt_frz ho) (.cons (a1.mono (Px.refl _) hB) (.cons (b1.mono (Px.refl _) hB) .nil))) .nil)) R1 run
    refine ⟨B', hB.trans e, ?_⟩
    rw [List.append_assoc] at R2
    exact R2
theorem sqA_of {K : PySem.W.Frag} {A : List Addr} {B H : Hp} {v : V} {d : D} {xs : List D} (e : Ex B H) (h : Ho K A B v d) (hs : seqOf d = some xs) : ∃ a vs, v = .ref a ∧ SqA K H a vs ∧ HoL K A B vs xs := by
  cases d with
  | lst ys =>
    cases hs
    obtain ⟨p, rfl⟩ := h.isLst
    obtain ⟨vs, _, h1, h2⟩ := h.lstH e
    exact ⟨p, vs, rfl, .inl (SqL.of h1), h2⟩
  | tup ys =>
    cases hs
    obtain ⟨p, rfl⟩ := h.isTup
    obtain ⟨vs, h1, h2⟩ := h.tupH e
    exact ⟨p, vs, rfl, .inr h1, h2⟩
  | _ => cases hs
end
section
variable {P : Program} {w : World} {K : PySem.W.Frag} {mg : Str → Option Value} {base : Heap} {k : Nat} {F : Tb} {C : SC} {X : Cx} {gl : Str → Bool} {fp : Str → Bool} {kw : Str → Nat → List Str → List Nat → Bool}
theorem sd_lzip (G : GOk P w K mg base k F gl fp kw) (ok : COk P w K mg base k C X) {z z' : Expr} {pa pb : E} {q0 q1 p1 pos : Pos} (hg0 : glB C.sc "list" = true) (hg : glB C.sc "zip" = true) (ha : PE X z (tE K F pa)) (hb : PE X z' (tE K F pb)) (hs : starB z = true) (hs' : starB z' = true) :
    PE X (.Call (.Name "list" q1) [.Call (.Name "zip" q0) [z, z'] [] p1] [] pos) (tE K F (.lzip pa pb)) := by
  have hK := ok.K
  subst hK
  have hz := pzp (p := q0) (pos := p1) (ok.gl hg) (ok.blt G (by decide +kernel)) (sd_cons hs ha (sd_cons hs' hb sd_nil)) (star_cons hs) (back_any (es := [_]) (by simp [hs']))
  refine (pe_lzip ok.calm (ok.gl hg0) (ok.blt G (by decide +kernel)) hz (star_cons rfl)).imp fun σ H Q hq => ?_
  obtain ⟨O, A, B, ρ, st, T, fr, d, ρ', st', R, e, q⟩ := hq
  simp only [evE] at e
  obtain ⟨⟨x, ρ1, st1⟩, e1, e⟩ := bindS e
  obtain ⟨⟨y, ρ2, st2⟩, e2, e⟩ := bindS e
  obtain ⟨xs, e3, e⟩ := bindS e
  obtain ⟨ys, e4, e⟩ := bindS e
  split at e
  · rename_i hl
    cases e
    have ev : evEs F (.cons pa (.cons pb .nil)) ρ st = some ([x, y], ρ2, st2) := by simp only [evEs, e1, e2, Option.bind_eq_bind, Option.bind_some]
    refine tEs_of R ev fun vs A1 B1 H1 hA1 hB1 R1 hv => ?_
    obtain ⟨v, u, rfl, k1, k2⟩ := hv.two
    obtain ⟨a, vs, rfl, s1, l1⟩ := sqA_of R1.ex k1 e3
    obtain ⟨b, ws, rfl, s2, l2⟩ := sqA_of R1.ex k2 e4
    refine ⟨a, b, vs, ws, rfl, s1, s2, by rw [l1.length, l2.length]; exact lim_lt hl, fun dd hd acc' H' run => ?_⟩
    obtain ⟨B', hB', R2⟩ := zrun_rel xs ys vs ws [] acc' [] B1 _ H' l1 l2 .nil (R1.push hd .nil) run
    refine q _ A1 B' H' hA1 (hB1.trans hB') ?_
    unfold EPost
    rw [if_pos rfl]
    exact ⟨dd, _, rfl, rfl, by simpa using R2⟩
  · cases e
theorem sd_sm (ok : COk P w K mg base k C X) {m : Sm} {x y : Expr} {pa pb : E} {p q0 : Pos} (ha : PE X x (tE K F pa)) (hb : PE X y (tE K F pb)) (hc : isCall0 x = false) (hs : starB y = true) (hl : (p.endLine == q0.line) = true) :
    PE X (.Call (.Attribute x (smName m) p) [y] [] q0) (tE K F (.sm m pa pb)) := by
  have hK := ok.K
  subst hK
  refine (pe_sm ok.units ha hb (attr_base hc) hl (star_cons hs)).imp fun σ H Q hq => ?_
  obtain ⟨O, A, B, ρ, st, T, fr, d, ρ', st', R, e, q⟩ := hq
  simp only [evE] at e
  obtain ⟨⟨x, ρ1, st1⟩, e1, e⟩ := bindS e
  obtain ⟨⟨y, ρ2, st2⟩, e2, e⟩ := bindS e
  obtain ⟨xs, e3, e⟩ := bindS e
  obtain ⟨j, e4, e5⟩ := mapS e
  cases e5
  refine tE_V R e1 fun v A1 B1 H1 hA1 hB1 R1 h1 => ?_
  have main : ∃ a vs, v = .ref a ∧ (B1 a = some (.lst vs) ∨ (SqT X.K B1 a vs ∧ PTu X.K B1 a)) ∧ HoL X.K A1 B1 vs xs := by
    cases x with
    | lst ys =>
      cases e3
      cases h1 with | lst g1 g2 => exact ⟨_, _, rfl, .inl g1, g2⟩
    | tup ys =>
      cases e3
      cases h1 with | tup g1 g3 g2 => exact ⟨_, _, rfl, .inr ⟨g1, g3⟩, g2⟩
    | _ => cases e3
  obtain ⟨a, vs, rfl, g1, g2⟩ := main
  refine ⟨A1, B1, a, vs, xs, rfl, g1, g2, R1.ex, ?_⟩
  refine tE_V R1 e2 fun u A2 B2 H2 hA2 hB2 R2 h2 => ?_
  exact ⟨hB2.trans R2.ex, A2, B2, y, j, R2.ex, h2, e4, q _ _ _ _ (hA1.trans hA2) (hB1.trans hB2) (.val R2 (.int _))⟩
/-! ### sorted(set(x)), x a list of pairs of ints -/
theorem nub_mem : ∀ {xs : List (List Int)} {a : List Int}, a ∈ nub xs ↔ a ∈ xs
  | [], a => by simp [nub]
  | x :: xs, a => by
    unfold nub
    split
    · rename_i h
      rw [nub_mem, List.mem_cons]
      refine ⟨.inr, fun z => z.elim (fun e => ?_) id⟩
      rw [e]; exact nub_mem.mp h
    · rw [List.mem_cons, List.mem_cons, nub_mem]
theorem nub_nodup : ∀ {xs : List (List Int)}, (nub xs).Nodup
  | [] => by simp [nub]
  | x :: xs => by
    unfold nub
    split
    · exact nub_nodup
    · rename_i h
      exact List.nodup_cons.mpr ⟨h, nub_nodup⟩
theorem pair_shape {n : List Int} (h : (n.length == 2 && n.all fun i => decide (0 ≤ i ∧ i < 64)) = true) : ∃ x y, n = [x, y] ∧ 0 ≤ x ∧ x < 64 ∧ 0 ≤ y ∧ y < 64 := by
  match n, h with
  | [x, y], h =>
    simp at h
    exact ⟨x, y, rfl, h.1.1, h.1.2, h.2.1, h.2.2⟩
theorem sset_eq {ns ms : List (List Int)} (ok : pairOk ns = true) (hn : ms.Nodup) (h1 : ∀ a, a ∈ ms ↔ a ∈ ns) (hp : ms.Pairwise fun a b => TS.code 64 a ≤ TS.code 64 b) : ms = ssetI ns := by
  unfold pairOk at ok
  simp only [Bool.and_eq_true, decide_eq_true_eq] at ok
  have shp : ∀ a ∈ ns, ∃ x y, a = [x, y] ∧ 0 ≤ x ∧ x < 64 ∧ 0 ≤ y ∧ y < 64 := fun a ha => pair_shape (List.all_eq_true.mp ok.2 a ha)
  have hs : (ssetI ns).Pairwise fun a b => TS.code 64 a ≤ TS.code 64 b := by
    have := List.pairwise_mergeSort (le := fun a b => decide (TS.code 64 a ≤ TS.code 64 b)) (fun a b c x y => by simp at x y ⊢; omega) (fun a b => by simp; omega) (nub ns)
    refine this.imp fun {a b} h => by simpa using h
  have pm : (ssetI ns).Perm (nub ns) := List.mergeSort_perm _ _
  refine List.Perm.eq_of_pairwise (fun a b ha hb x y => ?_) hp hs ((List.perm_ext_iff_of_nodup hn (pm.nodup_iff.mpr nub_nodup)).mpr fun a => ?_)
  · obtain ⟨x1, y1, rfl, b1⟩ := shp a ((h1 a).mp ha)
    obtain ⟨x2, y2, rfl, b2⟩ := shp b (nub_mem.mp (pm.mem_iff.mp hb))
    rw [code_pair, code_pair] at x y
    have e1 : x1 = x2 := by omega
    have e2 : y1 = y2 := by omega
    rw [e1, e2]
  · rw [h1, pm.mem_iff, nub_mem]
theorem intsT_split {K : PySem.W.Frag} {A : List Addr} {B : Hp} : ∀ {ds : List D} {ns : List (List Int)} {vs : List V}, HoL K A B vs ds → intsT ds = some ns → ∃ ks : List (Addr × List Int), vs = ks.map (fun p => V.ref p.1) ∧ ks.map (·.2) = ns ∧ ∀ p ∈ ks, SqT K B p.1 (p.2.map V.int) ∧ Ho K A B (.ref p.1) (tupI p.2)
  | [], ns, vs, h, e => by
    cases h; cases e
    exact ⟨[], rfl, rfl, fun _ z => by simp at z⟩
  | .tup xs :: ds, ns, vs, h, e => by
    simp only [intsT] at e
    obtain ⟨n, e1, e⟩ := bindS e
    obtain ⟨ms, e2, e3⟩ := mapS e
    cases e3
    have e1' := intsOf_map e1
    subst e1'
    cases h with | cons h1 h2 =>
    obtain ⟨ks, rfl, k2, k3⟩ := intsT_split h2 e2
    obtain ⟨a, rfl⟩ := h1.isTup
    refine ⟨(a, n) :: ks, rfl, by rw [List.map_cons, k2], fun p hp => ?_⟩
    rcases List.mem_cons.mp hp with rfl | hp
    · refine ⟨?_, h1⟩
      cases h1 with | tup g1 _ g2 =>
      rw [g2.ints] at g1
      exact g1
    · exact k3 p hp
  | .non :: _, _, _, _, e => by cases e
  | .bl _ :: _, _, _, _, e => by cases e
  | .int _ :: _, _, _, _, e => by cases e
  | .str _ :: _, _, _, _, e => by cases e
  | .lst _ :: _, _, _, _, e => by cases e
  | .scr _ :: _, _, _, _, e => by cases e
  | .hd _ :: _, _, _, _, e => by cases e
  | .itm _ :: _, _, _, _, e => by cases e
  | .fn _ :: _, _, _, _, e => by cases e
  | .dct _ _ :: _, _, _, _, e => by cases e
  | .ins _ _ _ :: _, _, _, _, e => by cases e
theorem hol_refs {K : PySem.W.Frag} {A : List Addr} {B : Hp} : ∀ {L : List (Addr × List Int)}, (∀ p ∈ L, Ho K A B (.ref p.1) (tupI p.2)) → HoL K A B (L.map fun q => V.ref q.1) ((L.map (·.2)).map tupI)
  | [], _ => .nil
  | p :: L, h => .cons (h p List.mem_cons_self) (hol_refs fun q hq => h q (List.mem_cons_of_mem _ hq))
theorem sd_sset (G : GOk P w K mg base k F gl fp kw) (ok : COk P w K mg base k C X) {z : Expr} {pa : E} {q0 q1 p1 pos : Pos} (hg0 : glB C.sc "sorted" = true) (hg : glB C.sc "set" = true) (ha : PE X z (tE K F pa)) (hs : starB z = true) :
    PE X (.Call (.Name "sorted" q1) [.Call (.Name "set" q0) [z] [] p1] [] pos) (tE K F (.sset pa)) := by
  have hK := ok.K
  subst hK
  have h1 : PE X (.Call (.Name "set" q0) [z] [] p1) (tCB (rSetOfT X.K X.prog X.w) (tCons (tE X.K F pa) tNil)) :=
    pe_callTy (cr_setOfT ok.calm ok.units) (ok.gl hg) (ok.blt G (by decide +kernel)) (by decide +kernel) (pa_cons ha pa_nil (star_cons hs)) (by decide) (by decide) (star_cons hs) rfl
  refine (pe_callB (cr_sortedT ok.calm) (ok.gl hg0) (ok.blt G (by decide +kernel)) PyProof.Rows.boot_sorted (pa_cons h1 pa_nil (star_cons rfl)) (by decide) (by decide) (star_cons rfl) rfl).imp fun σ H Q hq => ?_
  obtain ⟨O, A, B, ρ, st, T, fr, d, ρ', st', R, e, q⟩ := hq
  simp only [evE] at e
  obtain ⟨⟨x, ρ1, st1⟩, e1, e⟩ := bindS e
  cases x with
  | lst xs =>
    simp only at e
    obtain ⟨ns, e2, e⟩ := bindS e
    split at e
    · rename_i hok
      cases e
      refine tE_V R e1 fun v A1 B1 H1 hA1 hB1 R1 hv => ?_
      obtain ⟨a, rfl⟩ := hv.isLst
      obtain ⟨vs, _, g1, g2⟩ := hv.lstH R1.ex
      obtain ⟨ks, rfl, k2, k3⟩ := intsT_split g2 e2
      have hok' := hok
      unfold pairOk at hok'
      simp only [Bool.and_eq_true, decide_eq_true_eq] at hok'
      refine ⟨a, ks, rfl, SqL.of g1, fun p hp => ex_t R1.ex (k3 p hp).1, by rw [← k2, List.length_map] at hok'; exact hok'.1, fun sa L hsa hL1 hL2 => ?_⟩
      have bd : ∀ p ∈ ks, p.2.length = 2 ∧ TS.Bd 64 p.2 := fun p hp => by
        have h3 := List.all_eq_true.mp hok'.2 p.2 (by rw [← k2]; exact List.mem_map.mpr ⟨p, hp, rfl⟩)
        obtain ⟨x, y, e3, b1, b2, b3, b4⟩ := pair_shape h3
        rw [e3]
        refine ⟨rfl, fun m hm => ?_⟩
        simp at hm
        rcases hm with rfl | rfl
        · exact ⟨b1, b2⟩
        · exact ⟨b3, b4⟩
      refine ⟨sa, L, 2, 64, rfl, upd_same, fun p hp => ex_t (Ex.new hsa) (ex_t R1.ex (k3 p (hL1 p hp)).1), by decide, fun p hp => bd p (hL1 p hp), fun L' pl pm hnd hfew hpw hn => ?_⟩
      have eL : L'.map (·.2) = ssetI ns := by
        refine sset_eq hok hnd (fun b => ?_) (List.pairwise_map.mpr hpw)
        constructor
        · intro hb
          obtain ⟨p, hp, rfl⟩ := List.mem_map.mp hb
          rw [← k2]
          exact List.mem_map.mpr ⟨p, hL1 p (pm.mem_iff.mp hp), rfl⟩
        · intro hb
          rw [← k2] at hb
          obtain ⟨p, hp, rfl⟩ := List.mem_map.mp hb
          exact (pm.map (·.2)).mem_iff.mpr (hL2 p hp)
      refine q _ _ _ _ hA1 hB1 (.new (R1.waste hsa) hn ?_)
      rw [← eL]
      exact hol_refs fun p hp => (k3 p (hL1 p (pm.mem_iff.mp hp))).2
    · cases e
  | _ => cases e
end
end Pv

namespace Pv
open PySem PySem.Spec PyProof.Rows L2

section
variable {P : Program} {w : World} {K : PySem.W.Frag} {mg : Str → Option Value} {base : Heap} {k : Nat} {F : Tb} {gl : Str → Bool} {fp : Str → Bool} {kw : Str → Nat → List Str → List Nat → Bool}
theorem imp_chain {o o' : CmpOp} {pa pb pc : E} (σ : L2.St) (H : Hp) (Q : VK) (hq : tE K F (.chain o o' pa pb pc) σ H Q) : tChain (rCm K (cmpD o)) (rCm K (cmpD o')) (tE K F pa) (tE K F pb) (tE K F pc) σ H Q := by
  obtain ⟨O, A, B, ρ, st, T, fr, d, ρ', st', R, e, q⟩ := hq
  simp only [evE] at e
  obtain ⟨⟨x, ρ1, st1⟩, e1, e⟩ := bindS e
  obtain ⟨⟨y, ρ2, st2⟩, e2, e⟩ := bindS e
  obtain ⟨t, e3, e⟩ := bindS e
  refine tE_V R e1 fun v A1 B1 H1 hA1 hB1 R1 h1 => ?_
  refine tE_V R1 e2 fun u A2 B2 H2 hA2 hB2 R2 h2 => ?_
  refine ⟨A2, B2, x, y, t, R2.ex, h1.mono hA2 hB2, h2, e3, t, rfl, ?_⟩
  cases t with
  | false =>
    rw [if_neg Bool.false_ne_true] at e ⊢
    cases e
    exact q _ _ _ _ (hA1.trans hA2) (hB1.trans hB2) (.val R2 (.bl _))
  | true =>
    rw [if_pos rfl] at e ⊢
    obtain ⟨⟨z, ρ3, st3⟩, e4, e⟩ := bindS e
    obtain ⟨t', e5, e6⟩ := mapS e
    cases e6
    refine tE_V R2 e4 fun z' A3 B3 H3 hA3 hB3 R3 h3 => ?_
    exact ⟨A3, B3, y, z, t', R3.ex, h2.mono hA3 hB3, h3, e5, q _ _ _ _ ((hA1.trans hA2).trans hA3) ((hB1.trans hB2).trans hB3) (.val R3 (.bl _))⟩
theorem sd_chain {C : SC} {X : Cx} (ok : COk P w K mg base k C X) {o o' : CmpOp} {a b c : Expr} {pa pb pc : E} {pos : Pos} (ha : PE X a (tE K F pa)) (hb : PE X b (tE K F pb)) (hc : PE X c (tE K F pc)) (hs : setB c = false) : PE X (.Compare a [o, o'] [b, c] pos) (tE K F (.chain o o' pa pb pc)) := by
  have hK := ok.K
  subst hK
  exact (pe_chain (opR_cmp o ok.units) (opR_cmp o' ok.units) ha hb hc (setB_in hs)).imp imp_chain
/-- a test whose value is a truth value -/
theorem imp_test {p : E} (hp : ∀ ρ st fr d ρ' st', evE F p ρ st = some (fr, d, ρ', st') → fr = false ∧ ∃ t, d = .bl t) (σ : L2.St) (H : Hp) (Q : Bool → Hp → Prop) (hq : tCn K F (.e p) σ H Q) : tE K F p σ H (fun x H' => ∃ k, x = .bl k ∧ Q k H') := by
  obtain ⟨O, A, B, ρ, st, T, b, ρ', st', R, e, q⟩ := hq
  simp only [evT] at e
  obtain ⟨⟨x, ρ1, st1⟩, e1, e⟩ := bindS e
  obtain ⟨t, e2, e⟩ := bindS e
  cases e
  obtain ⟨⟨fr, r⟩, e3, e4⟩ := mapS e1
  cases e4
  obtain ⟨rfl, t', rfl⟩ := hp _ _ _ _ _ _ e3
  cases e2
  refine tE_V R e1 fun v A' B' H' hA hB R' hv => ?_
  cases hv
  exact ⟨b, rfl, q A' B' H' hA hB R'⟩
theorem chain_fr {o o' : CmpOp} {pa pb pc : E} : ∀ ρ st fr d ρ' st', evE F (.chain o o' pa pb pc) ρ st = some (fr, d, ρ', st') → fr = false ∧ ∃ t, d = .bl t := by
  intro ρ st fr d ρ' st' e
  simp only [evE] at e
  obtain ⟨⟨x, ρ1, st1⟩, e1, e⟩ := bindS e
  obtain ⟨⟨y, ρ2, st2⟩, e2, e⟩ := bindS e
  obtain ⟨t, e3, e⟩ := bindS e
  cases t with
  | false => cases e; exact ⟨rfl, _, rfl⟩
  | true =>
    rw [if_pos rfl] at e
    obtain ⟨⟨z, ρ3, st3⟩, e4, e⟩ := bindS e
    obtain ⟨t', e5, e6⟩ := mapS e
    cases e6
    exact ⟨rfl, _, rfl⟩
theorem cmpv_fr {o : CmpOp} {pa : E} {i : Nat} : ∀ ρ st fr d ρ' st', evE F (.cmpv o pa i) ρ st = some (fr, d, ρ', st') → fr = false ∧ ∃ t, d = .bl t := by
  intro ρ st fr d ρ' st' e
  simp only [evE] at e
  obtain ⟨⟨x, ρ1, st1⟩, e1, e⟩ := bindS e
  obtain ⟨sl, e2, e⟩ := bindS e
  obtain ⟨ys, e3, e⟩ := bindS e
  cases o <;> first | (cases e; done) | (obtain ⟨t, e4, e5⟩ := mapS e; cases e5; exact ⟨rfl, _, rfl⟩)
theorem sd_chainT {C : SC} {X : Cx} (ok : COk P w K mg base k C X) {o o' : CmpOp} {a b c : Expr} {pa pb pc : E} {pos : Pos} (ha : PE X a (tE K F pa)) (hb : PE X b (tE K F pb)) (hc : PE X c (tE K F pc)) (hs : setB c = false) : PT X (.Compare a [o, o'] [b, c] pos) (tCn K F (.e (.chain o o' pa pb pc))) := by
  have hK := ok.K
  subst hK
  exact (pt_chain (opR_cmp o ok.units) (opR_cmp o' ok.units) ha hb hc (setB_in hs)).imp fun σ H Q hq => imp_chain σ H _ (imp_test chain_fr σ H Q hq)
theorem sd_cmpvT {C : SC} {X : Cx} (ok : COk P w K mg base k C X) {o : CmpOp} {a : Expr} {pa : E} {i : Nat} {x : Str} {p pos : Pos} (ha : PE X a (tE K F pa)) (hv : C.var i x = true) : PT X (.Compare a [o] [.Name x p] pos) (tCn K F (.e (.cmpv o pa i))) := by
  have hK := ok.K
  subst hK
  cases o with
  | In => exact (pt_cmpR op_in_seq ha (ok.var hv) rfl).imp fun σ H Q hq => imp_in ok hv σ H _ (imp_test cmpv_fr σ H Q hq)
  | NotIn => exact (pt_cmpR op_notIn_seq ha (ok.var hv) rfl).imp fun σ H Q hq => imp_notin ok hv σ H _ (imp_test cmpv_fr σ H Q hq)
  | _ =>
    refine ⟨fun pins s σ H Q I hq => ?_⟩
    obtain ⟨O, A, B, ρ, st, T, b, ρ', st', R, e, q⟩ := hq
    simp only [evT, evE] at e
    obtain ⟨⟨x, ρ1, st1⟩, e1, e⟩ := bindS e
    obtain ⟨⟨fr, r⟩, e3, e4⟩ := mapS e1
    obtain ⟨⟨x, ρ1, st1⟩, e1, e⟩ := bindS e3
    obtain ⟨sl, e2, e⟩ := bindS e
    obtain ⟨ys, e3, e⟩ := bindS e
    cases e
theorem and1 {a b : Bool} (h : (a && b) = true) : a = true ∧ b = true := Bool.and_eq_true_iff.mp h
theorem setB_of {e : Expr} (h : (!setB e) = true) : setB e = false := by simpa using h
theorem fold_ok {e : Expr} (h : setB e = false) (env : PySem.Env) : ∀ x, foldedSetIterable e env x = pure x := by
  intro x
  cases e <;> first | rfl | (simp [setB] at h)
theorem blk_kind {N : List Str} {sc scope : Scope} {own : List (Str × Nat)} (h : blkC N sc scope own = true) : scope.kind = .function := (blkOk_by h).kind
theorem chI_set {C : SC} {p : I} {tg x : Expr} (h : chI C p tg x = true) : setB x = false := by
  cases p with
  | val e => simp only [chI, Bool.and_eq_true] at h; exact setB_of h.2
  | rng es => cases x <;> first | rfl | (simp [chI] at h)
  | enum e => cases tg <;> cases x <;> first | rfl | (simp [chI] at h)
  | zip a b => cases tg <;> cases x <;> first | rfl | (simp [chI] at h)
  | rev e => cases x <;> first | rfl | (simp [chI] at h)
theorem all_contains {xs ys : List Nat} (h : (xs.all fun j => ys.contains j) = true) : ∀ j ∈ xs, j ∈ ys := fun j hj => List.contains_iff_mem.mp (List.all_eq_true.mp h j hj)

abbrev Tied (gl : Str → Bool) (fp : Str → Bool) (kw : Str → Nat → List Str → List Nat → Bool) (C : SC) : Prop := C.gl = gl ∧ C.fp = fp ∧ C.kw = kw
mutual
theorem sdE (G : GOk P w K mg base k F gl fp kw) : ∀ (p : E) (C : SC) (X : Cx) (e : Expr), COk P w K mg base k C X → Tied gl fp kw C → chE C p e = true → PE X e (tE K F p)
  | .v i, C, X, e, ok, tie, h => by
    cases e <;> first | (simp [chE] at h; done) | skip
    exact sd_v ok h
  | .k d, C, X, e, ok, tie, h => by
    cases e <;> first | (simp [chE] at h; done) | skip
    exact sd_k h
  | .g x, C, X, e, ok, tie, h => by
    cases e <;> first | (simp [chE] at h; done) | skip
    simp only [chE, Bool.and_eq_true, beq_iff_eq] at h
    obtain ⟨⟨⟨rfl, h2⟩, h3⟩, h4⟩ := h
    exact sd_g G ok h2 (by rw [← tie.1]; exact h3) h4
  | .op o a b, C, X, e, ok, tie, h => by
    cases e <;> first | (simp [chE] at h; done) | skip
    simp only [chE, Bool.and_eq_true, decide_eq_true_eq] at h
    obtain ⟨⟨rfl, h2⟩, h3⟩ := h
    exact sd_op ok (sdE G a C X _ ok tie h2) (sdE G b C X _ ok tie h3)
  | .cmp o a b, C, X, e, ok, tie, h => by
    simp only [chE] at h
    split at h
    · simp only [Bool.and_eq_true, decide_eq_true_eq] at h
      obtain ⟨⟨⟨rfl, h2⟩, h3⟩, h4⟩ := h
      exact sd_cmp ok (sdE G a C X _ ok tie h2) (sdE G b C X _ ok tie h3) (setB_of h4)
    · cases h
  | .cmpv o a i, C, X, e, ok, tie, h => by
    simp only [chE] at h
    split at h
    · simp only [Bool.and_eq_true, decide_eq_true_eq] at h
      obtain ⟨⟨rfl, h2⟩, h3⟩ := h
      exact sd_cmpv ok (sdE G a C X _ ok tie h2) h3
    · cases h
  | .chain o o' a b c, C, X, e, ok, tie, h => by
    simp only [chE] at h
    split at h
    · simp only [Bool.and_eq_true, decide_eq_true_eq] at h
      obtain ⟨⟨⟨⟨⟨⟨rfl, rfl⟩, h2⟩, h3⟩, h4⟩, h5⟩, h6⟩ := h
      exact sd_chain ok (sdE G a C X _ ok tie h2) (sdE G b C X _ ok tie h3) (sdE G c C X _ ok tie h4) (setB_of h6)
    · cases h
  | .neg a, C, X, e, ok, tie, h => by
    simp only [chE] at h
    split at h
    · exact sd_neg (sdE G a C X _ ok tie h)
    · cases h
  | .nt a, C, X, e, ok, tie, h => by
    simp only [chE] at h
    split at h
    · simp only [Bool.and_eq_true] at h
      exact sd_nt ok (sdE G a C X _ ok tie h.1) h.2
    · cases h
  | .an a b, C, X, e, ok, tie, h => by
    simp only [chE] at h
    split at h
    · rename_i x y rest p
      simp only [Bool.and_eq_true] at h
      obtain ⟨h1, h2⟩ := h
      refine sd_an (sdE G a C X _ ok tie h1) ?_
      cases rest with
      | nil => exact pe_one (sdE G b C X _ ok tie h2)
      | cons z zs => exact sdE G b C X _ ok tie h2
    · cases h
  | .or a b, C, X, e, ok, tie, h => by
    simp only [chE] at h
    split at h
    · rename_i x y rest p
      simp only [Bool.and_eq_true] at h
      obtain ⟨h1, h2⟩ := h
      refine sd_or (sdE G a C X _ ok tie h1) ?_
      cases rest with
      | nil => exact pe_one (sdE G b C X _ ok tie h2)
      | cons z zs => exact sdE G b C X _ ok tie h2
    · cases h
  | .ite c a b, C, X, e, ok, tie, h => by
    simp only [chE] at h
    split at h
    · simp only [Bool.and_eq_true] at h
      exact sd_ite (sdC G c C X _ ok tie h.1.1).1 (sdE G a C X _ ok tie h.1.2) (sdE G b C X _ ok tie h.2)
    · cases h
  | .tup es, C, X, e, ok, tie, h => by
    simp only [chE] at h
    split at h
    · exact sd_tup (sdEs G es C X _ ok tie h).pa
    · cases h
  | .lst es, C, X, e, ok, tie, h => by
    simp only [chE] at h
    split at h
    · exact sd_lst (sdEs G es C X _ ok tie h).pa
    · cases h
  | .share a, C, X, e, ok, tie, h => sd_share (sdE G a C X e ok tie (by simpa [chE] using h))
  | .bi b es, C, X, e, ok, tie, h => by
    simp only [chE] at h
    split at h
    · simp only [Bool.and_eq_true, beq_iff_eq] at h
      obtain ⟨⟨rfl, h2⟩, h3⟩ := h
      exact sd_bi G ok h2 (chEs_star h3) (sdEs G es C X _ ok tie h3).pa
    · cases h
  | .lenv i, C, X, e, ok, tie, h => by
    simp only [chE] at h
    split at h
    · simp only [Bool.and_eq_true, beq_iff_eq] at h
      obtain ⟨⟨rfl, h2⟩, h3⟩ := h
      exact sd_lenv G ok h2 h3
    · cases h
  | .isi a ts many, C, X, e, ok, tie, h => by
    simp only [chE] at h
    split at h
    · rename_i x q y t p
      simp only [Bool.and_eq_true, beq_iff_eq] at h
      obtain ⟨⟨⟨⟨⟨rfl, h2⟩, h3⟩, h4⟩, h5⟩, h6⟩ := h
      cases many with
      | true =>
        cases t <;> first | (simp at h6; done) | skip
        simp only [Bool.and_eq_true, decide_eq_true_eq] at h6
        exact sd_isiT G ok h2 h4 (sdE G a C X _ ok tie h3) h6.1 h5 h6.2
      | false => exact sd_isi1 G ok h2 h4 (sdE G a C X _ ok tie h3) (by cases t <;> exact h6) h5
    · cases h
  | .ix a b, C, X, e, ok, tie, h => by
    cases e <;> first | (simp [chE] at h; done) | skip
    simp only [chE, Bool.and_eq_true] at h
    exact sd_ix ok (sdE G a C X _ ok tie h.1.1) (sdE G b C X _ ok tie h.1.2) h.2
  | .ixv i b, C, X, e, ok, tie, h => by
    simp only [chE] at h
    split at h
    · simp only [Bool.and_eq_true] at h
      exact sd_ixv ok h.1.1 (sdE G b C X _ ok tie h.1.2) h.2
    · cases h
  | .sl a lo hi, C, X, e, ok, tie, h => by
    simp only [chE] at h
    split at h
    · simp only [Bool.and_eq_true] at h
      exact sd_sl ok (sdE G a C X _ ok tie h.1.1) (sdO G lo C X _ ok tie h.1.2) (sdO G hi C X _ ok tie h.2)
    · cases h
  | .slr a, C, X, e, ok, tie, h => by
    simp only [chE] at h
    split at h
    · exact sd_slr ok (sdE G a C X _ ok tie h)
    · cases h
  | .call f es, C, X, e, ok, tie, h => by
    simp only [chE] at h
    split at h
    · simp only [Bool.and_eq_true, beq_iff_eq] at h
      obtain ⟨⟨⟨⟨rfl, h2⟩, h3⟩, h4⟩, h5⟩ := h
      have hp := sdEs G es C X _ ok tie h5
      exact sd_call G ok h2 h3 (by rw [← tie.2.1]; exact h4) (chEs_star h5) (fun z => by subst z; exact hp.nilE) hp.pa
    · cases h
  | .callk f es ks kes perm, C, X, e, ok, tie, h => by
    simp only [chE] at h
    split at h
    · simp only [Bool.and_eq_true, beq_iff_eq] at h
      obtain ⟨⟨⟨⟨⟨⟨rfl, h2⟩, h3⟩, h4⟩, h5⟩, h6⟩, h7⟩ := h
      exact sd_callk G ok h2 h3 (by rw [← tie.2.2]; exact h7) h5 (sdEs G es C X _ ok tie h4) (sdEs G kes C X _ ok tie h6) (fun _ _ _ _ _ he => chEs_len h4 he) (fun _ _ _ _ _ he => by have := chEs_len h6 he; rwa [List.length_map] at this)
    · cases h
  | .mth m i es, C, X, e, ok, tie, h => by
    simp only [chE] at h
    split at h
    · simp only [Bool.and_eq_true, beq_iff_eq, decide_eq_true_eq] at h
      obtain ⟨⟨⟨⟨rfl, h2⟩, h3⟩, h4⟩, h5⟩ := h
      exact sd_mth ok h2 (sdEs G es C X _ ok tie h3) (beq_iff_eq.mpr h4) h5
    · cases h
  | .mthH m a es, C, X, e, ok, tie, h => by
    simp only [chE] at h
    split at h
    · simp only [Bool.and_eq_true, beq_iff_eq, decide_eq_true_eq] at h
      obtain ⟨⟨⟨⟨⟨rfl, h2⟩, h6⟩, h3⟩, h4⟩, h5⟩ := h
      exact sd_mthH ok (sdE G a C X _ ok tie h2) (by simpa using h6) (sdEs G es C X _ ok tie h3) (beq_iff_eq.mpr h4) h5
    · cases h
  | .lc a t it c own, C, X, e, ok, tie, h => by
    simp only [chE] at h
    split at h
    · rename_i x tg iter ifs scope pos
      simp only [Bool.and_eq_true] at h
      obtain ⟨⟨⟨⟨⟨h1, h2⟩, h3⟩, h4⟩, h5⟩, h6⟩ := h
      have hk := blk_kind h1
      have hi := sdI G it C X tg iter ok tie h2
      have hs := fold_ok (chI_set h2) X.env
      have hg := fun s H Cc cl fpp => sdT G t (C.blk scope) (X.blk s H scope (compEnvC scope cl Cc X.env) fpp) tg (ok.blk scope s H Cc cl fpp hk) tie h3
      have ht := fun s H Cc cl fpp => sdCo G c (C.blk scope) (X.blk s H scope (compEnvC scope cl Cc X.env) fpp) ifs (ok.blk scope s H Cc cl fpp hk) tie h4
      have he := fun s H Cc cl fpp => sdE G a (C.blk scope) (X.blk s H scope (compEnvC scope cl Cc X.env) fpp) x (ok.blk scope s H Cc cl fpp hk) tie h5
      refine (pe_lc ok.calm (by rw [ok.N]; exact ok.nd) hi (by rw [ok.N, ok.sc]; exact blkOk_by h1) hg ht he hs).imp ?_
      exact sd_lc (pos := pos) ok h1 hi hg ht he hs (all_contains h6)
    · cases h
  | .lc2 a t it c t1 it1 c1 own own1, C, X, e, ok, tie, h => by
    simp only [chE] at h
    split at h
    · rename_i x tg iter ifs tg1 iter1 ifs1 scope pos
      simp only [Bool.and_eq_true] at h
      obtain ⟨⟨⟨⟨⟨⟨⟨⟨⟨⟨h1, h2⟩, h3⟩, h4⟩, h7⟩, h8⟩, h9⟩, h5⟩, h6⟩, h10⟩, h11⟩ := h
      have hk := blk_kind h1
      have hi := sdI G it C X tg iter ok tie h2
      have hs := fold_ok (chI_set h2) X.env
      have hs1 := fun env => fold_ok (chI_set h7) env
      have hg := fun s H Cc cl fpp => sdT G t (C.blk scope) (X.blk s H scope (compEnvC scope cl Cc X.env) fpp) tg (ok.blk scope s H Cc cl fpp hk) tie h3
      have ht := fun s H Cc cl fpp => sdCo G c (C.blk scope) (X.blk s H scope (compEnvC scope cl Cc X.env) fpp) ifs (ok.blk scope s H Cc cl fpp hk) tie h4
      have hi1 := fun s H Cc cl fpp => sdI G it1 (C.blk scope) (X.blk s H scope (compEnvC scope cl Cc X.env) fpp) tg1 iter1 (ok.blk scope s H Cc cl fpp hk) tie h7
      have hg1 := fun s H Cc cl fpp => sdT G t1 (C.blk scope) (X.blk s H scope (compEnvC scope cl Cc X.env) fpp) tg1 (ok.blk scope s H Cc cl fpp hk) tie h8
      have ht1 := fun s H Cc cl fpp => sdCo G c1 (C.blk scope) (X.blk s H scope (compEnvC scope cl Cc X.env) fpp) ifs1 (ok.blk scope s H Cc cl fpp hk) tie h9
      have he := fun s H Cc cl fpp => sdE G a (C.blk scope) (X.blk s H scope (compEnvC scope cl Cc X.env) fpp) x (ok.blk scope s H Cc cl fpp hk) tie h5
      refine (pe_lc2 ok.calm (by rw [ok.N]; exact ok.nd) hi (by rw [ok.N, ok.sc]; exact blkOk_by h1) (all_contains h11) hg ht hi1 hg1 ht1 he hs hs1).imp ?_
      exact sd_lc2 (all_contains h6) (all_contains h10) (all_contains h11)
    · cases h
  | .lrng es, C, X, e, ok, tie, h => by
    simp only [chE] at h
    split at h
    · simp only [Bool.and_eq_true, beq_iff_eq, Bool.or_eq_true] at h
      obtain ⟨⟨⟨⟨⟨rfl, h2⟩, rfl⟩, h4⟩, h5⟩, h6⟩ := h
      exact sd_lrng G ok h2 h4 h5 h6 (sdEs G es C X _ ok tie h5)
    · cases h
  | .trng es, C, X, e, ok, tie, h => by
    simp only [chE] at h
    split at h
    · simp only [Bool.and_eq_true, beq_iff_eq, Bool.or_eq_true] at h
      obtain ⟨⟨⟨⟨⟨rfl, h2⟩, rfl⟩, h4⟩, h5⟩, h6⟩ := h
      exact sd_trng G ok h2 h4 h5 h6 (sdEs G es C X _ ok tie h5)
    · cases h
  | .lzip a b, C, X, e, ok, tie, h => by
    simp only [chE] at h
    split at h
    · simp only [Bool.and_eq_true, beq_iff_eq] at h
      obtain ⟨⟨⟨⟨⟨⟨⟨rfl, h2⟩, rfl⟩, h4⟩, h5⟩, h6⟩, h7⟩, h8⟩ := h
      exact sd_lzip G ok h2 h4 (sdE G a C X _ ok tie h5) (sdE G b C X _ ok tie h6) h7 h8
    · cases h
  | .sset a, C, X, e, ok, tie, h => by
    simp only [chE] at h
    split at h
    · simp only [Bool.and_eq_true, beq_iff_eq] at h
      obtain ⟨⟨⟨⟨⟨rfl, h2⟩, rfl⟩, h4⟩, h5⟩, h6⟩ := h
      exact sd_sset G ok h2 h4 (sdE G a C X _ ok tie h5) h6
    · cases h
  | .sm m a b, C, X, e, ok, tie, h => by
    simp only [chE] at h
    split at h
    · simp only [Bool.and_eq_true, beq_iff_eq] at h
      obtain ⟨⟨⟨⟨⟨rfl, h2⟩, h3⟩, h4⟩, h5⟩, h6⟩ := h
      exact sd_sm ok (sdE G a C X _ ok tie h2) (sdE G b C X _ ok tie h4) (by simpa using h3) h5 (beq_iff_eq.mpr h6)
    · cases h
theorem sdEs (G : GOk P w K mg base k F gl fp kw) : ∀ (p : Es) (C : SC) (X : Cx) (es : List Expr), COk P w K mg base k C X → Tied gl fp kw C → chEs C p es = true → PEs X K F es p
  | .nil, C, X, es, ok, tie, h => by
    cases es with
    | nil => exact .nil
    | cons _ _ => simp [chEs] at h
  | .cons p ps, C, X, es, ok, tie, h => by
    cases es with
    | nil => simp [chEs] at h
    | cons e es =>
      simp only [chEs, Bool.and_eq_true] at h
      exact .cons h.1.1 (sdE G p C X e ok tie h.1.2) (sdEs G ps C X es ok tie h.2)
theorem sdO (G : GOk P w K mg base k F gl fp kw) : ∀ (p : Eo) (C : SC) (X : Cx) (o : Option Expr), COk P w K mg base k C X → Tied gl fp kw C → chO C p o = true → PO X o (tEo K F p)
  | .no, C, X, o, ok, tie, h => by
    cases o with
    | none => exact sd_no
    | some _ => simp [chO] at h
  | .so p, C, X, o, ok, tie, h => by
    cases o with
    | none => simp [chO] at h
    | some x => exact sd_so (sdE G p C X x ok tie (by simpa [chO] using h))
theorem sdC (G : GOk P w K mg base k F gl fp kw) : ∀ (p : Cn) (C : SC) (X : Cx) (x : Expr), COk P w K mg base k C X → Tied gl fp kw C → chC C p x = true → PT X x (tCn K F p) ∧ ∀ op vs q, x = .BoolOp op vs q → PW X x (tCn K F p)
  | .e a, C, X, x, ok, tie, h => by
    simp only [chC, Bool.and_eq_true] at h
    obtain ⟨h1, h2⟩ := h
    refine ⟨?_, fun op vs q e => by subst e; cases a <;> simp [truB, cmpE, chE] at h1 h2⟩
    by_cases ht : truB x = true
    · exact sd_tru ok ht (sdE G a C X x ok tie h1)
    · have h2 := (Bool.or_eq_true _ _ ▸ h2).resolve_left ht
      cases a with
      | cmp o pa pb =>
        simp only [chE] at h1
        split at h1
        · simp only [Bool.and_eq_true, decide_eq_true_eq] at h1
          obtain ⟨⟨⟨rfl, h3⟩, h4⟩, h5⟩ := h1
          exact sd_cmpT ok (sdE G pa C X _ ok tie h3) (sdE G pb C X _ ok tie h4) (setB_of h5)
        · cases h1
      | cmpv o pa i =>
        simp only [chE] at h1
        split at h1
        · simp only [Bool.and_eq_true, decide_eq_true_eq] at h1
          obtain ⟨⟨rfl, h3⟩, h4⟩ := h1
          exact sd_cmpvT ok (sdE G pa C X _ ok tie h3) h4
        · cases h1
      | chain o o' pa pb pc =>
        simp only [chE] at h1
        split at h1
        · simp only [Bool.and_eq_true, decide_eq_true_eq] at h1
          obtain ⟨⟨⟨⟨⟨⟨rfl, rfl⟩, h3⟩, h4⟩, h5⟩, h6⟩, h7⟩ := h1
          exact sd_chainT ok (sdE G pa C X _ ok tie h3) (sdE G pb C X _ ok tie h4) (sdE G pc C X _ ok tie h5) (setB_of h7)
        · cases h1
      | _ => simp [cmpE] at h2
  | .nt c, C, X, x, ok, tie, h => by
    simp only [chC] at h
    split at h
    · exact ⟨sd_ntC (sdC G c C X _ ok tie h).1, fun op vs q e => by cases e⟩
    · cases h
  | .an a b, C, X, e, ok, tie, h => by
    simp only [chC] at h
    split at h
    · rename_i x y rest p
      simp only [Bool.and_eq_true] at h
      obtain ⟨h1, h2⟩ := h
      have key : PW X (.BoolOp .And (x :: y :: rest) p) (tCn K F (.an a b)) := by
        refine sd_anC (sdC G a C X _ ok tie h1).1 ?_
        cases rest with
        | nil => exact pw_and1 (sdC G b C X _ ok tie h2).1
        | cons z zs => exact (sdC G b C X _ ok tie h2).2 _ _ _ rfl
      exact ⟨key.pt, fun op vs q e => key⟩
    · cases h
  | .or a b, C, X, e, ok, tie, h => by
    simp only [chC] at h
    split at h
    · rename_i x y rest p
      simp only [Bool.and_eq_true] at h
      obtain ⟨h1, h2⟩ := h
      have key : PW X (.BoolOp .Or (x :: y :: rest) p) (tCn K F (.or a b)) := by
        refine sd_orC (sdC G a C X _ ok tie h1).1 ?_
        cases rest with
        | nil => exact pw_or1 (sdC G b C X _ ok tie h2).1
        | cons z zs => exact (sdC G b C X _ ok tie h2).2 _ _ _ rfl
      exact ⟨key.pt, fun op vs q e => key⟩
    · cases h
theorem sdCo (G : GOk P w K mg base k F gl fp kw) : ∀ (p : Co) (C : SC) (X : Cx) (l : List Expr), COk P w K mg base k C X → Tied gl fp kw C → chCo C p l = true → PTs X l (tCo K F p)
  | .no, C, X, l, ok, tie, h => by
    cases l with
    | nil => exact sd_cno
    | cons _ _ => simp [chCo] at h
  | .so c, C, X, l, ok, tie, h => by
    simp only [chCo] at h
    split at h
    · exact sd_cso (sdC G c C X _ ok tie h).1
    · cases h
theorem sdI (G : GOk P w K mg base k F gl fp kw) : ∀ (p : I) (C : SC) (X : Cx) (tg x : Expr), COk P w K mg base k C X → Tied gl fp kw C → chI C p tg x = true → PI X tg x (tI K F p)
  | .val e, C, X, tg, x, ok, tie, h => by
    simp only [chI, Bool.and_eq_true] at h
    exact sd_val ok (sdE G e C X x ok tie h.1)
  | .rng es, C, X, tg, x, ok, tie, h => by
    simp only [chI] at h
    split at h
    · simp only [Bool.and_eq_true, beq_iff_eq, Bool.or_eq_true] at h
      obtain ⟨⟨⟨rfl, h2⟩, h3⟩, h4⟩ := h
      exact sd_rng G ok h2 h3 (by rcases h4 with (h4 | h4) | h4 <;> simp [h4]) (sdEs G es C X _ ok tie h3).pa
    · cases h
  | .enum e, C, X, tg, x, ok, tie, h => by
    simp only [chI] at h
    split at h
    · simp only [Bool.and_eq_true, beq_iff_eq] at h
      obtain ⟨⟨⟨rfl, h2⟩, h3⟩, h4⟩ := h
      exact sd_enum G ok h2 h4 (sdE G e C X _ ok tie h3)
    · cases h
  | .zip a b, C, X, tg, x, ok, tie, h => by
    simp only [chI] at h
    split at h
    · simp only [Bool.and_eq_true, beq_iff_eq] at h
      obtain ⟨⟨⟨⟨⟨rfl, h2⟩, h3⟩, h4⟩, h5⟩, h6⟩ := h
      exact sd_zip G ok h2 h5 h6 (sdE G a C X _ ok tie h3) (sdE G b C X _ ok tie h4)
    · cases h
  | .rev e, C, X, tg, x, ok, tie, h => by
    simp only [chI] at h
    split at h
    · simp only [Bool.and_eq_true, beq_iff_eq] at h
      obtain ⟨⟨⟨rfl, h2⟩, h3⟩, h4⟩ := h
      exact sd_rev G ok h2 h4 (sdE G e C X _ ok tie h3)
    · cases h
theorem sdT (G : GOk P w K mg base k F gl fp kw) : ∀ (p : Tg) (C : SC) (X : Cx) (x : Expr), COk P w K mg base k C X → Tied gl fp kw C → chTg C p x = true → PG X x (tG K F p)
  | .n i, C, X, x, ok, tie, h => by
    cases x <;> first | (simp [chTg] at h; done) | skip
    exact sd_n ok h
  | .sub i a, C, X, x, ok, tie, h => by
    simp only [chTg] at h
    split at h
    · simp only [Bool.and_eq_true] at h
      exact sd_sub ok h.1.1 (sdE G a C X _ ok tie h.1.2) h.2
    · cases h
  | .tup ts, C, X, x, ok, tie, h => by
    simp only [chTg] at h
    split at h
    · have := chTgs_star h
      exact sd_tupT ok this.1 this.2 (sdTs G ts C X _ ok tie h)
    · cases h
theorem sdTs (G : GOk P w K mg base k F gl fp kw) : ∀ (p : Tgs) (C : SC) (X : Cx) (l : List Expr), COk P w K mg base k C X → Tied gl fp kw C → chTgs C p l = true → PGs X l (tGs K F p)
  | .nil, C, X, l, ok, tie, h => by
    cases l with
    | nil => exact sd_tnil
    | cons _ _ => simp [chTgs] at h
  | .cons t ts, C, X, l, ok, tie, h => by
    cases l with
    | nil => simp [chTgs] at h
    | cons x xs =>
      have hh := chTgs_star h
      simp only [chTgs, Bool.and_eq_true] at h
      exact sd_tcons hh.1 (sdT G t C X x ok tie h.1.2) (sdTs G ts C X xs ok tie h.2)
end
end
end Pv

namespace Pv
open PySem PySem.Spec PyProof.Rows L2

/-! ## statements as texts -/
/-- does the store of a pair go the exchanged way: names, no; none: not told -/
def isLoc (sc : Scope) (x : Str) : Bool := match sc.names.lookup x with
  | some .local => true
  | _ => false
def swapM (kd : Str → Option NameKind) (ts vs : List Expr) : Option (Option (List Str)) :=
  if !(ts.length == 2 || ts.length == 3) || vs.length != ts.length then some none
  else if vs.any (fun | .Starred .. => true | _ => false) then some none
  else
    let line := (ts.head?.map (·.pos.line)).getD 0
    let names := ts.filterMap fun
      | .Name id pos => if kd id == some .local && pos.line == line then some id else none
      | _ => none
    if names.length != ts.length || names.eraseDups.length != names.length then some none
    else if vs.all (foldedForSure 8) then some none
    else if vs.all (constantsAlone 8) then none
    else some (some names)
theorem swapM_ok {env : PySem.Env} {ts vs : List Expr} {k k2 : Nat} {p p2 : Pos} (hk : env.scope.kind = .function) {r : Option (List Str)} (h : swapM env.kindOf ts vs = some r) : swappedStores [.Tuple ts k p] (.Tuple vs k2 p2) env = pure r := by
  have hb : env.blockKind = .function := by unfold Env.blockKind; rw [hk]; rfl
  unfold swapM at h
  unfold swappedStores
  simp only [hb, bne_self_eq_false, Bool.or_false]
  split at h
  · rename_i h1
    cases h
    exact if_pos h1
  · rename_i h1
    refine (if_neg h1).trans ?_
    split at h
    · rename_i h2
      cases h
      exact if_pos h2
    · rename_i h2
      refine (if_neg h2).trans ?_
      simp only at h
      split at h
      · rename_i h3
        cases h
        exact if_pos h3
      · rename_i h3
        refine (if_neg h3).trans ?_
        split at h
        · rename_i h4
          cases h
          exact if_pos h4
        · rename_i h4
          refine (if_neg h4).trans ?_
          split at h
          · cases h
          · rename_i h5
            cases h
            exact if_neg h5
theorem swap_none {env : PySem.Env} {t v : Expr} (h : (match t, v with | .Tuple .., .Tuple .. => false | .List .., .Tuple .. => false | _, _ => true) = true) : swappedStores [t] v env = pure none := by
  unfold swappedStores
  cases t <;> cases v <;> first | rfl | (simp at h)
theorem swaps_no {v : Expr} {t : Option Expr} {l : Nat} {env : PySem.Env} (h : compB v = false) : swapsWith v t l env = pure false := by
  cases v <;> first | rfl | (simp [compB] at h)
theorem swaps_sub {v t : Expr} {l : Nat} {env : PySem.Env} (h : (match t with | .Name .. => false | _ => true) = true) : swapsWith v (some t) l env = pure false := by
  unfold swapsWith
  cases v <;> first | rfl | (cases t <;> first | rfl | (simp at h))
/-- whether a comprehension's store goes the exchanged way -/
def compSwap (sc : Scope) (x : Str) (p vp : Pos) (scope : Scope) : Bool := isLoc sc x && p.line == vp.line && !(scope.names.any fun (n, k) => n == x && (k == .local || k == .cell))
theorem swaps_comp {elt : Expr} {gs : List Comprehension} {scope : Scope} {p vp : Pos} {x : Str} {l : Nat} {env : PySem.Env} (hk : env.scope.kind = .function) : swapsWith (.ListComp elt gs scope vp) (some (.Name x p)) l env = pure (compSwap env.scope x p vp scope) := by
  have hb : env.blockKind = .function := by unfold Env.blockKind; rw [hk]; rfl
  unfold swapsWith compSwap isLoc
  simp only [hb, Env.kindOf, Expr.pos, beq_self_eq_true, Bool.true_and]
  cases env.scope.names.lookup x with
  | none => rfl
  | some z => cases z <;> rfl
def isLc : E → Bool
  | .lc .. => true
  | .lc2 .. => true
  | _ => false
def parB (sc : Scope) (ns : List Str) (r : Option (Option (List Str))) : Bool := match r with
  | some none => true
  | some (some m) => decide (m = ns) && ns.all (isLoc sc)
  | none => false
def lcompB : Expr → Bool
  | .ListComp .. => true
  | _ => false
def asgTB (kd : Str → Option NameKind) (tg v : Expr) : Bool := match tg, v with
  | .Tuple ts _ _, .Tuple vs _ _ => (match swapM kd ts vs with | some none => true | _ => false)
  | .List _ _, .Tuple _ _ _ => false
  | .List _ _, _ => false
  | _, _ => true
def nameB : Expr → Bool
  | .Name .. => true
  | _ => false
def tupB : Expr → Bool
  | .Tuple .. => true
  | .List .. => true
  | _ => false
mutual
def chS (C : SC) : S → Stmt → Bool
  | .asg i e => fun s => match s with
    | .Assign [.Name x _] v _ => C.store i x && chE C e v && (!compB v || (isLc e && lcompB v))
    | _ => false
  | .asgT t e => fun s => match s with
    | .Assign [tg] v _ => !nameB tg && chTg C t tg && chE C e v && starB tg && asgTB (fun x => C.sc.names.lookup x) tg v
    | _ => false
  | .par2 i j a b => fun s => match s with
    | .Assign [.Tuple [.Name x px, .Name y py] _ _] (.Tuple [u, v] _ _) _ => C.store i x && C.store j y && chE C a u && chE C b v && starB u && starB v && decide (i ≠ j) && parB C.sc [x, y] (swapM (fun x => C.sc.names.lookup x) [.Name x px, .Name y py] [u, v])
    | _ => false
  | .par3 i j l a b c => fun s => match s with
    | .Assign [.Tuple [.Name x px, .Name y py, .Name z pz] _ _] (.Tuple [u, v, t] _ _) _ => C.store i x && C.store j y && C.store l z && chE C a u && chE C b v && chE C c t && starB u && starB v && starB t && decide (i ≠ j) && decide (i ≠ l) && decide (j ≠ l) && parB C.sc [x, y, z] (swapM (fun x => C.sc.names.lookup x) [.Name x px, .Name y py, .Name z pz] [u, v, t])
    | _ => false
  | .aug i o e => fun s => match s with
    | .AugAssign (.Name x _) o' v _ => decide (o = o') && C.store i x && chE C e v
    | _ => false
  | .ex e => fun s => match s with
    | .Expr v _ => chE C e v && !compB v
    | _ => false
  | .ret e => fun s => match s with
    | .Return (some v) _ => chE C e v
    | _ => false
  | .retN => fun s => match s with
    | .Return none _ => true
    | _ => false
  | .pass => fun s => match s with
    | .Pass _ => true
    | _ => false
  | .brk => fun s => match s with
    | .Break _ => true
    | _ => false
  | .cnt => fun s => match s with
    | .Continue _ => true
    | _ => false
  | .ite c a b => fun s => match s with
    | .If t x y _ => chC C c t && chSs C a x && chSs C b y
    | _ => false
  | .whl c b => fun s => match s with
    | .While t x [] _ => chC C c t && chSs C b x
    | _ => false
  | .for_ t it b => fun s => match s with
    | .For tg iter x [] _ => chTg C t tg && chI C it tg iter && chSs C b x
    | _ => false
def chSs (C : SC) : Ss → List Stmt → Bool
  | .nil => fun l => match l with
    | [] => true
    | _ => false
  | .cons s ss => fun l => match l with
    | x :: xs => chS C s x && chSs C ss xs
    | _ => false
end

section
variable {P : Program} {w : World} {K : PySem.W.Frag} {mg : Str → Option Value} {base : Heap} {k : Nat} {F : Tb} {C : SC} {X : Cx} {gl : Str → Bool} {fp : Str → Bool} {kw : Str → Nat → List Str → List Nat → Bool}
theorem EPost.asg {O : Org} {A : List Addr} {B H : Hp} {σ : L2.St} {ρ ρ' : Env} {st : Sto} {T : List (Addr × List D)} {fr : Bool} {d : D} {v : V} {i : Nat} (h : EPost K O σ T ρ st fr d v A B H) (e : asgN i fr d ρ = some ρ') : Rel K O A B (σ.set i (some v)) H ρ' st T := by
  unfold EPost at h
  unfold asgN at e
  split at e
  · rename_i hi
    cases fr with
    | false =>
      cases e
      rw [if_neg Bool.false_ne_true] at h
      exact h.1.setVal h.2
    | true =>
      rw [if_pos rfl] at h
      obtain ⟨a, xs, rfl, rfl, R⟩ := h
      cases e
      exact R.setOwn hi
  · cases e
theorem SPost.mono {O : Org} {T : List (Addr × List D)} {A A1 : List Addr} {B B1 : Hp} {D : Ends} {ρ' : Env} {st' : Sto} {f : Fl} (hA : Px A A1) (hB : Ex B B1) (h : SPost K O T A B D ρ' st' f) : SPost K O T A1 B1 D ρ' st' f := by
  cases f with
  | nx => exact fun σ' A' B' H' a b => h σ' A' B' H' (hA.trans a) (hB.trans b)
  | bk => exact fun σ' A' B' H' a b => h σ' A' B' H' (hA.trans a) (hB.trans b)
  | ct => exact fun σ' A' B' H' a b => h σ' A' B' H' (hA.trans a) (hB.trans b)
  | rt fr d => exact fun v σ' A' B' H' a b => h v σ' A' B' H' (hA.trans a) (hB.trans b)
/-- name = value -/
theorem imp_asg {i : Nat} {p : E} {te : TE} (hte : ∀ σ H Q, tE K F p σ H Q → te σ H Q) (D : Ends) (σ : L2.St) (H : Hp) (hq : tS K F (.asg i p) D σ H) : tAsg te (gName i) D σ H := by
  obtain ⟨O, A, B, ρ, st, T, f, ρ', st', R, e, q⟩ := hq
  simp only [exS] at e
  obtain ⟨⟨fr, d, ρ1, st1⟩, e1, e⟩ := bindS e
  obtain ⟨ρ2, e2, e⟩ := bindS e
  cases e
  exact hte _ _ _ ⟨O, A, B, ρ, st, T, fr, d, ρ1, _, R, e1, fun v A1 B1 H1 hA1 hB1 hp => q _ A1 B1 H1 hA1 hB1 (hp.asg e2)⟩
theorem COk.storeP (ok : COk P w K mg base k C X) {i : Nat} {x : Str} (h : C.store i x = true) : X.N.Nodup ∧ X.N[i]? = some x ∧ Loc X.env.scope x ∧ (X.fn x = true ∨ X.env.scope.names.lookup x = some .local) := by
  unfold SC.store at h
  simp only [Bool.and_eq_true, decide_eq_true_eq] at h
  exact ⟨by rw [ok.N]; exact ok.nd, by rw [ok.N]; exact h.1.1.1, by rw [ok.sc]; exact loc_of h.1.1.2, ok.tg x h.1.2⟩
theorem loc_lookup {sc : Scope} {x : Str} (h : isLoc sc x = true) : sc.names.lookup x = some .local := by
  unfold isLoc at h
  split at h
  · assumption
  · cases h
theorem ss_asg (G : GOk P w K mg base k F gl fp kw) (ok : COk P w K mg base k C X) (tie : Tied gl fp kw C) {i : Nat} {p : E} {x : Str} {v : Expr} {px pos : Pos} (h1 : C.store i x = true) (h2 : chE C p v = true) (h3 : (!compB v || (isLc p && lcompB v)) = true) : PS X (.Assign [.Name x px] v pos) (tS K F (.asg i p)) := by
  obtain ⟨n1, n2, n3, n4⟩ := ok.storeP h1
  have he := sdE G p C X v ok tie h2
  by_cases hc : compB v = false
  · exact (ps_set n1 n2 n3 he (swaps_no hc) n4).imp (imp_asg fun _ _ _ h => h)
  · have hc : compB v = true := by simpa using hc
    rw [hc] at h3
    simp only [Bool.not_true, Bool.false_or, Bool.and_eq_true] at h3
    obtain ⟨h3, h4⟩ := h3
    cases v <;> first | (simp [lcompB] at h4; done) | skip
    rename_i elt gs scope vp _
    by_cases hw : compSwap X.env.scope x px vp scope = true
    · have hsw : swapsWith (.ListComp elt gs scope vp) (some (.Name x px)) pos.line X.env = pure true := by
        rw [swaps_comp (by rw [ok.sc]; exact ok.kind), hw]
      have hl : X.env.scope.names.lookup x = some .local := by
        unfold compSwap at hw
        simp only [Bool.and_eq_true] at hw
        exact loc_lookup hw.1.1
      cases p <;> first | (simp [isLc] at h3; done) | skip
      · rename_i a t it c own
        simp only [chE] at h2
        split at h2
        · rename_i x' tg iter ifs scope' pos' heq
          cases heq
          simp only [Bool.and_eq_true] at h2
          obtain ⟨⟨⟨⟨⟨h1, h2⟩, h3⟩, h4⟩, h5⟩, h6⟩ := h2
          have hk := blk_kind h1
          have hi := sdI G it C X tg iter ok tie h2
          have hs := fold_ok (chI_set h2) X.env
          have hg := fun s H Cc cl fpp => sdT G t (C.blk scope) (X.blk s H scope (compEnvC scope cl Cc X.env) fpp) tg (ok.blk scope s H Cc cl fpp hk) tie h3
          have ht := fun s H Cc cl fpp => sdCo G c (C.blk scope) (X.blk s H scope (compEnvC scope cl Cc X.env) fpp) ifs (ok.blk scope s H Cc cl fpp hk) tie h4
          have he := fun s H Cc cl fpp => sdE G a (C.blk scope) (X.blk s H scope (compEnvC scope cl Cc X.env) fpp) elt (ok.blk scope s H Cc cl fpp hk) tie h5
          refine (ps_setLc ok.calm n1 n2 hl hsw hi (by rw [ok.N, ok.sc]; exact blkOk_by h1) hg ht he hs).imp (imp_asg ?_)
          exact sd_lc (pos := vp) ok h1 hi hg ht he hs (all_contains h6)
        · cases h2
      · rename_i a t it c t1 it1 c1 own own1
        simp only [chE] at h2
        split at h2
        · rename_i x' tg iter ifs tg1 iter1 ifs1 scope' pos' heq
          cases heq
          simp only [Bool.and_eq_true] at h2
          obtain ⟨⟨⟨⟨⟨⟨⟨⟨⟨⟨h1, h2⟩, h3⟩, h4⟩, h7⟩, h8⟩, h9⟩, h5⟩, h6⟩, h10⟩, h11⟩ := h2
          have hk := blk_kind h1
          have hi := sdI G it C X tg iter ok tie h2
          have hs := fold_ok (chI_set h2) X.env
          have hs1 := fun env => fold_ok (chI_set h7) env
          have hg := fun s H Cc cl fpp => sdT G t (C.blk scope) (X.blk s H scope (compEnvC scope cl Cc X.env) fpp) tg (ok.blk scope s H Cc cl fpp hk) tie h3
          have ht := fun s H Cc cl fpp => sdCo G c (C.blk scope) (X.blk s H scope (compEnvC scope cl Cc X.env) fpp) ifs (ok.blk scope s H Cc cl fpp hk) tie h4
          have hi1 := fun s H Cc cl fpp => sdI G it1 (C.blk scope) (X.blk s H scope (compEnvC scope cl Cc X.env) fpp) tg1 iter1 (ok.blk scope s H Cc cl fpp hk) tie h7
          have hg1 := fun s H Cc cl fpp => sdT G t1 (C.blk scope) (X.blk s H scope (compEnvC scope cl Cc X.env) fpp) tg1 (ok.blk scope s H Cc cl fpp hk) tie h8
          have ht1 := fun s H Cc cl fpp => sdCo G c1 (C.blk scope) (X.blk s H scope (compEnvC scope cl Cc X.env) fpp) ifs1 (ok.blk scope s H Cc cl fpp hk) tie h9
          have he := fun s H Cc cl fpp => sdE G a (C.blk scope) (X.blk s H scope (compEnvC scope cl Cc X.env) fpp) elt (ok.blk scope s H Cc cl fpp hk) tie h5
          refine (ps_setLc2 ok.calm n1 n2 hl hsw hi (by rw [ok.N, ok.sc]; exact blkOk_by h1) (all_contains h11) hg ht hi1 hg1 ht1 he hs hs1).imp (imp_asg ?_)
          exact sd_lc2 (all_contains h6) (all_contains h10) (all_contains h11)
        · cases h2
    · have hw : compSwap X.env.scope x px vp scope = false := by simpa using hw
      exact (ps_set n1 n2 n3 he (by rw [swaps_comp (by rw [ok.sc]; exact ok.kind), hw]) n4).imp (imp_asg fun _ _ _ h => h)
end
end Pv

namespace Pv
open PySem PySem.Spec PyProof.Rows L2

section
variable {P : Program} {w : World} {K : PySem.W.Frag} {mg : Str → Option Value} {base : Heap} {k : Nat} {F : Tb} {C : SC} {X : Cx} {gl : Str → Bool} {fp : Str → Bool} {kw : Str → Nat → List Str → List Nat → Bool}
/-- target = value -/
theorem imp_asgT {t : Tg} {p : E} (D : Ends) (σ : L2.St) (H : Hp) (hq : tS K F (.asgT t p) D σ H) : tAsg (tE K F p) (tG K F t) D σ H := by
  obtain ⟨O, A, B, ρ, st, T, f, ρ', st', R, e, q⟩ := hq
  simp only [exS] at e
  obtain ⟨⟨d, ρ1, st1⟩, e1, e⟩ := bindS e
  obtain ⟨⟨ρ2, st2⟩, e2, e⟩ := bindS e
  cases e
  exact tE_V R e1 fun v A1 B1 H1 hA1 hB1 R1 h1 => tG_of R1 h1 e2 fun σ' A2 B2 H2 hA2 hB2 _ R2 => q σ' A2 B2 H2 (hA1.trans hA2) (hB1.trans hB2) R2
theorem asg_one {t : Expr} {env : PySem.Env} (h : starB t = true) : (assignEach [t] env).map (·.2) = [assign t env] := by
  rw [asg_list (all_cons_iff.mpr ⟨h, rfl⟩)]; rfl
theorem sole {t v : Expr} {l : Nat} {env : PySem.Env} : swapsWithSole [t] v l env = swapsWith v (some t) l env := rfl
theorem COk.scKind (ok : COk P w K mg base k C X) : X.env.scope.kind = .function := by rw [ok.sc]; exact ok.kind
theorem COk.kd (ok : COk P w K mg base k C X) : X.env.kindOf = fun x => C.sc.names.lookup x := by
  funext x
  show X.env.scope.names.lookup x = C.sc.names.lookup x
  rw [ok.sc]
/-- a value that is held on while something else goes on -/
theorem EPost.hold {O : Org} {A : List Addr} {B H : Hp} {σ : L2.St} {ρ : Env} {st : Sto} {T : List (Addr × List D)} {fr : Bool} {d : D} {v : V} (h : EPost K O σ T ρ st fr d v A B H) :
    ∃ T1, Rel K O A B σ H ρ st T1 ∧ ∀ σ' A' B' H' ρ' st', Px A A' → Ex B B' → Rel K O A' B' σ' H' ρ' st' T1 → EPost K O σ' T ρ' st' fr d v A' B' H' := by
  unfold EPost at h ⊢
  cases fr with
  | false =>
    rw [if_neg Bool.false_ne_true] at h
    exact ⟨T, h.1, fun σ' A' B' H' ρ' st' hA hB R => by rw [if_neg Bool.false_ne_true]; exact ⟨R, h.2.mono hA hB⟩⟩
  | true =>
    rw [if_pos rfl] at h
    obtain ⟨a, xs, rfl, rfl, R⟩ := h
    exact ⟨_, R, fun σ' A' B' H' ρ' st' hA hB R' => by rw [if_pos rfl]; exact ⟨a, xs, rfl, rfl, R'⟩⟩
theorem ss_par2 (G : GOk P w K mg base k F gl fp kw) (ok : COk P w K mg base k C X) (tie : Tied gl fp kw C) {i j : Nat} {a b : E} {x y : Str} {u v : Expr} {px py tp vp pos : Pos} {k1 k2 : Nat} (h1 : C.store i x = true) (h2 : C.store j y = true) (h3 : chE C a u = true) (h4 : chE C b v = true) (su : starB u = true) (sv : starB v = true) (hij : i ≠ j)
    (h5 : parB C.sc [x, y] (swapM (fun x => C.sc.names.lookup x) [.Name x px, .Name y py] [u, v]) = true) : PS X (.Assign [.Tuple [.Name x px, .Name y py] k1 tp] (.Tuple [u, v] k2 vp) pos) (tS K F (.par2 i j a b)) := by
  have hK := ok.K
  subst hK
  obtain ⟨n1, n2, n3, n4⟩ := ok.storeP h1
  obtain ⟨m1, m2, m3, m4⟩ := ok.storeP h2
  have ha := sdE G a C X u ok tie h3
  have hb := sdE G b C X v ok tie h4
  have pa : PA X [u, v] (tCons (tE X.K F a) (tCons (tE X.K F b) tNil)) := pa_cons ha (pa_cons hb pa_nil (star_cons sv)) (star_cons su)
  -- the values, then the stores
  have core : ∀ (D0 : Ends) (σ : L2.St) (H : Hp), tS X.K F (.par2 i j a b) D0 σ H → tE X.K F a σ H fun v1 H1 => tE X.K F b σ H1 fun v2 H2 => ∀ H3, (H3 = H2 ∨ ∃ p o, H2 p = none ∧ H3 = upd H2 p o) → D0.nx ((σ.set i (some v1)).set j (some v2)) H3 := fun D0 σ H hq => by
    obtain ⟨O, A, B, ρ, st, T, f, ρ', st', R, e, q⟩ := hq
    simp only [exS] at e
    obtain ⟨⟨fr, d, ρ1, st1⟩, e1, e⟩ := bindS e
    obtain ⟨⟨fr', d', ρ2, st2⟩, e2, e⟩ := bindS e
    obtain ⟨ρ3, e3, e⟩ := bindS e
    obtain ⟨ρ4, e4, e⟩ := bindS e
    simp only [if_neg hij] at e
    cases e
    refine ⟨O, A, B, ρ, st, T, fr, d, ρ1, st1, R, e1, fun v1 A1 B1 H1 hA1 hB1 p1 => ?_⟩
    obtain ⟨T1, R1, back1⟩ := p1.hold
    refine ⟨O, A1, B1, ρ1, st1, T1, fr', d', ρ2, _, R1, e2, fun v2 A2 B2 H2 hA2 hB2 p2 H3 h3 => ?_⟩
    have p3 : EPost X.K O σ T1 ρ2 st' fr' d' v2 A2 B2 H3 := by
      rcases h3 with rfl | ⟨p, o, hp, rfl⟩
      · exact p2
      · obtain ⟨T2, R2, back2⟩ := p2.hold
        exact back2 _ _ _ _ _ _ (Px.refl _) (Ex.refl _) (R2.waste hp)
    have r3 := p3.asg e3
    have r4 := (back1 _ _ _ _ _ _ hA2 hB2 r3).asg e4
    rw [List.set_comm _ _ (Ne.symm hij)] at r4
    exact q _ A2 B2 H3 (hA1.trans hA2) (hB1.trans hB2) r4
  have hs : swapsWithSole [.Tuple [.Name x px, .Name y py] k1 tp] (.Tuple [u, v] k2 vp) pos.line X.env = pure false := by rw [sole]; exact swaps_no rfl
  unfold parB at h5
  split at h5
  · rename_i hw
    have sw := swapM_ok (k := k1) (k2 := k2) (p := tp) (p2 := vp) ok.scKind (r := none) (by rw [ok.kd]; exact hw)
    have st2 : [Expr.Name x px, Expr.Name y py].all starB = true := rfl
    refine (ps_asg (pe_tup pa) (pg_tup (n := 2) ok.calm (pgs_cons (pg_name n1 n2 n3 n4) (pgs_cons (pg_name m1 m2 m3 m4) pgs_nil (by rw [asg_list rfl]; rfl)) (by rw [asg_list st2]; rfl)) (by rw [asg_list st2]; rfl) (by rw [asg_list st2]; rfl)) hs sw (asg_one rfl)).imp fun D0 σ H hq => ?_
    refine core D0 σ H hq |> fun z => ?_
    obtain ⟨O, A, B, ρ, st, T, fr, d, ρ', st', R, e, q⟩ := z
    refine ⟨O, A, B, ρ, st, T, fr, d, ρ', st', R, e, fun v1 A1 B1 H1 hA1 hB1 p1 => ?_⟩
    obtain ⟨O', A', B', ρ2, st2, T', fr', d', ρ3, st3, R', e', q'⟩ := q v1 A1 B1 H1 hA1 hB1 p1
    refine ⟨O', A', B', ρ2, st2, T', fr', d', ρ3, st3, R', e', fun v2 A2 B2 H2 hA2 hB2 p2 => ?_⟩
    have z := q' v2 A2 B2 H2 hA2 hB2 p2
    refine ⟨by show 2 ≤ sizeLine; decide, fun p hp => ?_⟩
    exact ⟨p, [v1, v2], rfl, SqT.of upd_same, rfl, v1, [v2], rfl, v2, [], rfl, rfl, z _ (.inr ⟨p, _, hp, rfl⟩)⟩
  · rename_i ns hw
    simp only [Bool.and_eq_true, decide_eq_true_eq, List.all_cons, List.all_nil, Bool.and_true] at h5
    obtain ⟨rfl, l1, l2⟩ := h5
    have sw := swapM_ok (k := k1) (k2 := k2) (p := tp) (p2 := vp) ok.scKind (r := some [x, y]) (by rw [ok.kd]; exact hw)
    refine (ps_par ok.calm n1 n2 m2 hij (by rw [ok.sc]; exact loc_lookup l1) (by rw [ok.sc]; exact loc_lookup l2) pa sw hs).imp fun D0 σ H hq => ?_
    refine core D0 σ H hq |> fun z => ?_
    obtain ⟨O, A, B, ρ, st, T, fr, d, ρ', st', R, e, q⟩ := z
    refine ⟨O, A, B, ρ, st, T, fr, d, ρ', st', R, e, fun v1 A1 B1 H1 hA1 hB1 p1 => ?_⟩
    obtain ⟨O', A', B', ρ2, st2, T', fr', d', ρ3, st3, R', e', q'⟩ := q v1 A1 B1 H1 hA1 hB1 p1
    exact ⟨O', A', B', ρ2, st2, T', fr', d', ρ3, st3, R', e', fun v2 A2 B2 H2 hA2 hB2 p2 => ⟨v1, v2, rfl, q' v2 A2 B2 H2 hA2 hB2 p2 _ (.inl rfl)⟩⟩
  · cases h5
theorem ss_par3 (G : GOk P w K mg base k F gl fp kw) (ok : COk P w K mg base k C X) (tie : Tied gl fp kw C) {i j l : Nat} {a b c : E} {x y z : Str} {u v t : Expr} {px py pz tp vp pos : Pos} {k1 k2 : Nat} (h1 : C.store i x = true) (h2 : C.store j y = true) (h0 : C.store l z = true) (h3 : chE C a u = true) (h4 : chE C b v = true) (h6 : chE C c t = true) (su : starB u = true) (sv : starB v = true) (st : starB t = true)
    (hij : i ≠ j) (hil : i ≠ l) (hjl : j ≠ l)
    (h5 : parB C.sc [x, y, z] (swapM (fun x => C.sc.names.lookup x) [.Name x px, .Name y py, .Name z pz] [u, v, t]) = true) : PS X (.Assign [.Tuple [.Name x px, .Name y py, .Name z pz] k1 tp] (.Tuple [u, v, t] k2 vp) pos) (tS K F (.par3 i j l a b c)) := by
  have hK := ok.K
  subst hK
  obtain ⟨n1, n2, n3, n4⟩ := ok.storeP h1
  obtain ⟨m1, m2, m3, m4⟩ := ok.storeP h2
  obtain ⟨o1, o2, o3, o4⟩ := ok.storeP h0
  have ha := sdE G a C X u ok tie h3
  have hb := sdE G b C X v ok tie h4
  have hc := sdE G c C X t ok tie h6
  have pa : PA X [u, v, t] (tCons (tE X.K F a) (tCons (tE X.K F b) (tCons (tE X.K F c) tNil))) := pa_cons ha (pa_cons hb (pa_cons hc pa_nil (star_cons st)) (star_cons sv)) (star_cons su)
  have core : ∀ (D0 : Ends) (σ : L2.St) (H : Hp), tS X.K F (.par3 i j l a b c) D0 σ H → tE X.K F a σ H fun v1 H1 => tE X.K F b σ H1 fun v2 H2 => tE X.K F c σ H2 fun v3 H3 => ∀ H4, (H4 = H3 ∨ ∃ p o, H3 p = none ∧ H4 = upd H3 p o) → D0.nx (((σ.set i (some v1)).set j (some v2)).set l (some v3)) H4 := fun D0 σ H hq => by
    obtain ⟨O, A, B, ρ, st, T, f, ρ', st', R, e, q⟩ := hq
    simp only [exS] at e
    obtain ⟨⟨fr, d, ρ1, st1⟩, e1, e⟩ := bindS e
    obtain ⟨⟨fr', d', ρ2, st2⟩, e2, e⟩ := bindS e
    obtain ⟨⟨fr'', d'', ρ3, st3⟩, e3, e⟩ := bindS e
    obtain ⟨ρ4, e4, e⟩ := bindS e
    obtain ⟨ρ5, e5, e⟩ := bindS e
    obtain ⟨ρ6, e6, e⟩ := bindS e
    have hn : ¬ (i = j ∨ i = l ∨ j = l) := fun z => z.elim hij fun z => z.elim hil hjl
    simp only [if_neg hn] at e
    cases e
    refine ⟨O, A, B, ρ, st, T, fr, d, ρ1, st1, R, e1, fun v1 A1 B1 H1 hA1 hB1 p1 => ?_⟩
    obtain ⟨T1, R1, back1⟩ := p1.hold
    refine ⟨O, A1, B1, ρ1, st1, T1, fr', d', ρ2, _, R1, e2, fun v2 A2 B2 H2 hA2 hB2 p2 => ?_⟩
    obtain ⟨T2, R2, back2⟩ := p2.hold
    refine ⟨O, A2, B2, ρ2, st2, T2, fr'', d'', ρ3, _, R2, e3, fun v3 A3 B3 H3 hA3 hB3 p3 H4 h4 => ?_⟩
    have p4 : EPost X.K O σ T2 ρ3 st' fr'' d'' v3 A3 B3 H4 := by
      rcases h4 with rfl | ⟨p, o, hp, rfl⟩
      · exact p3
      · obtain ⟨T3, R3, back3⟩ := p3.hold
        exact back3 _ _ _ _ _ _ (Px.refl _) (Ex.refl _) (R3.waste hp)
    have r4 := p4.asg e4
    have r5 := (back2 _ _ _ _ _ _ hA3 hB3 r4).asg e5
    have r6 := (back1 _ _ _ _ _ _ (hA2.trans hA3) (hB2.trans hB3) r5).asg e6
    rw [List.set_comm _ _ (Ne.symm hjl), List.set_comm _ _ (Ne.symm hil), List.set_comm _ _ (Ne.symm hij)] at r6
    exact q _ A3 B3 H4 ((hA1.trans hA2).trans hA3) ((hB1.trans hB2).trans hB3) r6
  have hs : swapsWithSole [.Tuple [.Name x px, .Name y py, .Name z pz] k1 tp] (.Tuple [u, v, t] k2 vp) pos.line X.env = pure false := by rw [sole]; exact swaps_no rfl
  unfold parB at h5
  split at h5
  · rename_i hw
    have sw := swapM_ok (k := k1) (k2 := k2) (p := tp) (p2 := vp) ok.scKind (r := none) (by rw [ok.kd]; exact hw)
    have st2 : [Expr.Name x px, Expr.Name y py, Expr.Name z pz].all starB = true := rfl
    refine (ps_asg (pe_tup pa) (pg_tup (n := 3) ok.calm (pgs_cons (pg_name n1 n2 n3 n4) (pgs_cons (pg_name m1 m2 m3 m4) (pgs_cons (pg_name o1 o2 o3 o4) pgs_nil (by rw [asg_list rfl]; rfl)) (by rw [asg_list rfl]; rfl)) (by rw [asg_list st2]; rfl)) (by rw [asg_list st2]; rfl) (by rw [asg_list st2]; rfl)) hs sw (asg_one rfl)).imp fun D0 σ H hq => ?_
    refine core D0 σ H hq |> fun z => ?_
    obtain ⟨O, A, B, ρ, st, T, fr, d, ρ', st', R, e, q⟩ := z
    refine ⟨O, A, B, ρ, st, T, fr, d, ρ', st', R, e, fun v1 A1 B1 H1 hA1 hB1 p1 => ?_⟩
    obtain ⟨O', A', B', ρ2, st2, T', fr', d', ρ3, st3, R', e', q'⟩ := q v1 A1 B1 H1 hA1 hB1 p1
    refine ⟨O', A', B', ρ2, st2, T', fr', d', ρ3, st3, R', e', fun v2 A2 B2 H2 hA2 hB2 p2 => ?_⟩
    obtain ⟨O'', A'', B'', ρ4, st4, T'', fr'', d'', ρ5, st5, R'', e'', q''⟩ := q' v2 A2 B2 H2 hA2 hB2 p2
    refine ⟨O'', A'', B'', ρ4, st4, T'', fr'', d'', ρ5, st5, R'', e'', fun v3 A3 B3 H3 hA3 hB3 p3 => ?_⟩
    have z := q'' v3 A3 B3 H3 hA3 hB3 p3
    refine ⟨by show 3 ≤ sizeLine; decide, fun p hp => ?_⟩
    exact ⟨p, [v1, v2, v3], rfl, SqT.of upd_same, rfl, v1, [v2, v3], rfl, v2, [v3], rfl, v3, [], rfl, rfl, z _ (.inr ⟨p, _, hp, rfl⟩)⟩
  · rename_i ns hw
    simp only [Bool.and_eq_true, decide_eq_true_eq, List.all_cons, List.all_nil, Bool.and_true] at h5
    obtain ⟨rfl, l1, l2, l3⟩ := h5
    have sw := swapM_ok (k := k1) (k2 := k2) (p := tp) (p2 := vp) ok.scKind (r := some [x, y, z]) (by rw [ok.kd]; exact hw)
    refine (ps_par3 ok.calm n1 n2 m2 o2 hij hil hjl (by rw [ok.sc]; exact loc_lookup l1) (by rw [ok.sc]; exact loc_lookup l2) (by rw [ok.sc]; exact loc_lookup l3) pa sw hs).imp fun D0 σ H hq => ?_
    refine core D0 σ H hq |> fun z => ?_
    obtain ⟨O, A, B, ρ, st, T, fr, d, ρ', st', R, e, q⟩ := z
    refine ⟨O, A, B, ρ, st, T, fr, d, ρ', st', R, e, fun v1 A1 B1 H1 hA1 hB1 p1 => ?_⟩
    obtain ⟨O', A', B', ρ2, st2, T', fr', d', ρ3, st3, R', e', q'⟩ := q v1 A1 B1 H1 hA1 hB1 p1
    refine ⟨O', A', B', ρ2, st2, T', fr', d', ρ3, st3, R', e', fun v2 A2 B2 H2 hA2 hB2 p2 => ?_⟩
    obtain ⟨O'', A'', B'', ρ4, st4, T'', fr'', d'', ρ5, st5, R'', e'', q''⟩ := q' v2 A2 B2 H2 hA2 hB2 p2
    exact ⟨O'', A'', B'', ρ4, st4, T'', fr'', d'', ρ5, st5, R'', e'', fun v3 A3 B3 H3 hA3 hB3 p3 => ⟨v1, v2, v3, rfl, q'' v3 A3 B3 H3 hA3 hB3 p3 _ (.inl rfl)⟩⟩
  · cases h5
/-! ### the simple statements -/
theorem imp_ret {p : E} (hp : ∀ i, p ≠ .v i) (D : Ends) (σ : L2.St) (H : Hp) (hq : tS K F (.ret p) D σ H) : tRet (tE K F p) D σ H := by
  obtain ⟨O, A, B, ρ, st, T, f, ρ', st', R, e, q⟩ := hq
  simp only [exS] at e
  obtain ⟨⟨fr, d, ρ1, st1⟩, e1, e⟩ := bindS e
  cases e
  have e2 : evE F p ρ st = some (fr, d, ρ1, st1) := by
    unfold retE at e1
    split at e1
    · rename_i i; exact absurd rfl (hp i)
    · exact e1
  exact ⟨O, A, B, ρ, st, T, fr, d, ρ1, st1, R, e2, fun v A1 B1 H1 hA1 hB1 hp => q v σ A1 B1 H1 hA1 hB1 hp⟩
theorem imp_retv {i : Nat} (D : Ends) (σ : L2.St) (H : Hp) (hq : tS K F (.ret (.v i)) D σ H) : tRet (tVar i) D σ H := by
  obtain ⟨O, A, B, ρ, st, T, f, ρ', st', R, e, q⟩ := hq
  simp only [exS] at e
  obtain ⟨⟨fr, d, ρ1, st1⟩, e1, e⟩ := bindS e
  cases e
  simp only [retE] at e1
  cases z : ρ[i]? with
  | none => rw [z] at e1; simp only [evE, z] at e1; cases e1
  | some s =>
    rw [z] at e1
    cases s with
    | no => simp only [evE, z] at e1; cases e1
    | val d' =>
      simp only [evE, z] at e1
      cases e1
      obtain ⟨v, h1, h2⟩ := R.val i _ z
      exact ⟨v, h1, q v σ A B H (Px.refl _) (Ex.refl _) (.val R h2)⟩
    | own xs =>
      cases e1
      obtain ⟨a, h1, R1⟩ := R.take z
      refine ⟨_, h1, q (.ref a) σ A B H (Px.refl _) (Ex.refl _) ?_⟩
      unfold EPost
      rw [if_pos rfl]
      exact ⟨a, xs, rfl, rfl, R1⟩
theorem imp_ex {p : E} (D : Ends) (σ : L2.St) (H : Hp) (hq : tS K F (.ex p) D σ H) : tDrop (tE K F p) D σ H := by
  obtain ⟨O, A, B, ρ, st, T, f, ρ', st', R, e, q⟩ := hq
  simp only [exS] at e
  obtain ⟨⟨fr, d, ρ1, st1⟩, e1, e⟩ := bindS e
  cases e
  refine ⟨O, A, B, ρ, st, T, fr, d, _, _, R, e1, fun v A1 B1 H1 hA1 hB1 hp => ?_⟩
  obtain ⟨B2, h1, h2, h3⟩ := hp.freeze
  exact q σ A1 B2 H1 hA1 (hB1.trans h1) h2
def ipD (K : PySem.W.Frag) (o : Operator) : TIp := fun x y H Q => ∃ A B a b d, Ho K A B x a ∧ Ho K A B y b ∧ augD o a b = some d ∧ ∀ v, (∀ A B, Ho K A B v d) → Q v H
theorem iop_mulW : OpR X (inplaceOp .Mult) (rI CMulW fun i j => .int (i * j)) := opI fun _ _ _ _ _ _ _ hc q => imul_int q hc.ok
theorem pip_all (o : Operator) : PIp X o (ipD X.K o) := by
  intro pins s σ H x y v u Q I rx ry h
  obtain ⟨A, B, a, b, d, hx, hy, e, q⟩ := h
  cases o with
  | Add =>
    cases a <;> cases b <;> first
      | (cases e; done)
      | (cases hx; cases hy; cases e; exact iop_add pins s σ H _ _ v u Q I rx ry ⟨_, _, rfl, rfl, q _ fun _ _ => .int _⟩)
  | Sub =>
    cases a <;> cases b <;> first
      | (cases e; done)
      | (cases hx; cases hy; cases e; exact iop_sub pins s σ H _ _ v u Q I rx ry ⟨_, _, rfl, rfl, q _ fun _ _ => .int _⟩)
  | Mult =>
    cases a <;> cases b <;> first
      | (cases e; done)
      | (cases hx; cases hy
         simp only [augD] at e
         split at e
         · rename_i hl
           cases e
           exact iop_mulW pins s σ H _ _ v u Q I rx ry ⟨_, _, rfl, rfl, CMulW_of hl.1 hl.2, q _ fun _ _ => .int _⟩
         · cases e)
  | _ => cases a <;> cases b <;> cases e
theorem imp_aug {i : Nat} {o : Operator} {p : E} (D : Ends) (σ : L2.St) (H : Hp) (hq : tS K F (.aug i o p) D σ H) : tAug i (tE K F p) (ipD K o) D σ H := by
  obtain ⟨O, A, B, ρ, st, T, f, ρ', st', R, e, q⟩ := hq
  simp only [exS] at e
  split at e
  · rename_i x hx
    obtain ⟨⟨y, ρ1, st1⟩, e1, e⟩ := bindS e
    obtain ⟨z, e2, e⟩ := bindS e
    obtain ⟨ρ2, e3, e⟩ := bindS e
    cases e
    obtain ⟨v, h1, h2⟩ := R.val i _ hx
    refine ⟨v, h1, tE_V R e1 fun u A1 B1 H1 hA1 hB1 R1 hu => ⟨A1, B1, x, y, z, h2.mono hA1 hB1, hu, e2, fun r hr => ?_⟩⟩
    obtain ⟨hi, rfl⟩ := asgN_val e3
    exact q _ A1 B1 H1 hA1 hB1 (R1.setVal (hr A1 B1))
  · cases e
end
end Pv

namespace Pv
open PySem PySem.Spec PyProof.Rows L2

section
variable {P : Program} {w : World} {K : PySem.W.Frag} {mg : Str → Option Value} {base : Heap} {k : Nat} {F : Tb} {C : SC} {X : Cx} {gl : Str → Bool} {fp : Str → Bool} {kw : Str → Nat → List Str → List Nat → Bool}
theorem imp_retN (D : Ends) (σ : L2.St) (H : Hp) (hq : tS K F .retN D σ H) : tRetN D σ H := by
  obtain ⟨O, A, B, ρ, st, T, f, ρ', st', R, e, q⟩ := hq
  simp only [exS] at e
  cases e
  exact q .non σ A B H (Px.refl _) (Ex.refl _) (.val R .non)
theorem imp_pass (D : Ends) (σ : L2.St) (H : Hp) (hq : tS K F .pass D σ H) : tNext D σ H := by
  obtain ⟨O, A, B, ρ, st, T, f, ρ', st', R, e, q⟩ := hq
  simp only [exS] at e
  cases e
  exact q σ A B H (Px.refl _) (Ex.refl _) R
theorem imp_brk (D : Ends) (σ : L2.St) (H : Hp) (hq : tS K F .brk D σ H) : tBreak D σ H := by
  obtain ⟨O, A, B, ρ, st, T, f, ρ', st', R, e, q⟩ := hq
  simp only [exS] at e
  cases e
  exact q σ A B H (Px.refl _) (Ex.refl _) R
theorem imp_cnt (D : Ends) (σ : L2.St) (H : Hp) (hq : tS K F .cnt D σ H) : tCont D σ H := by
  obtain ⟨O, A, B, ρ, st, T, f, ρ', st', R, e, q⟩ := hq
  simp only [exS] at e
  cases e
  exact q σ A B H (Px.refl _) (Ex.refl _) R
theorem imp_ite {c : Cn} {a b : Ss} (D : Ends) (σ : L2.St) (H : Hp) (hq : tS K F (.ite c a b) D σ H) : tIfS (tCn K F c) (tSs K F a) (tSs K F b) D σ H := by
  obtain ⟨O, A, B, ρ, st, T, f, ρ', st', R, e, q⟩ := hq
  simp only [exS] at e
  obtain ⟨⟨t, ρ1, st1⟩, e1, e⟩ := bindS e
  refine ⟨O, A, B, ρ, st, T, t, ρ1, st1, R, e1, fun A1 B1 H1 hA hB R1 => ?_⟩
  cases t with
  | true =>
    rw [if_pos rfl] at e ⊢
    exact ⟨O, A1, B1, ρ1, st1, T, f, ρ', st', R1, e, q.mono hA hB⟩
  | false =>
    rw [if_neg Bool.false_ne_true] at e ⊢
    exact ⟨O, A1, B1, ρ1, st1, T, f, ρ', st', R1, e, q.mono hA hB⟩
theorem imp_nil (D : Ends) (σ : L2.St) (H : Hp) (hq : tSs K F .nil D σ H) : tNext D σ H := by
  obtain ⟨O, A, B, ρ, st, T, f, ρ', st', R, e, q⟩ := hq
  simp only [exSs] at e
  cases e
  exact q σ A B H (Px.refl _) (Ex.refl _) R
theorem imp_cons {s : S} {ss : Ss} (D : Ends) (σ : L2.St) (H : Hp) (hq : tSs K F (.cons s ss) D σ H) : tSeq (tS K F s) (tSs K F ss) D σ H := by
  obtain ⟨O, A, B, ρ, st, T, f, ρ', st', R, e, q⟩ := hq
  simp only [exSs] at e
  obtain ⟨⟨g, ρ1, st1⟩, e1, e⟩ := bindS e
  refine ⟨O, A, B, ρ, st, T, g, ρ1, st1, R, e1, ?_⟩
  cases g with
  | nx => exact fun σ1 A1 B1 H1 hA hB R1 => ⟨O, A1, B1, ρ1, st1, T, f, ρ', st', R1, e, q.mono hA hB⟩
  | bk => cases e; exact q
  | ct => cases e; exact q
  | rt fr d => cases e; exact q
theorem imp_whl {c : Cn} {b : Ss} (D : Ends) (σ : L2.St) (H : Hp) (hq : tS K F (.whl c b) D σ H) : tWhile (tCn K F c) (tSs K F b) D σ H := by
  obtain ⟨O, A, B, ρ, st, T, f, ρ', st', R, e, q⟩ := hq
  rw [show exS F (.whl c b) ρ st = whlL (evT F c) (exSs F b) fuel ρ st by simp only [exS]] at e
  generalize fuel = n at e
  refine ⟨fun m σ H => ∃ A2 B2 ρ2 st2, Px A A2 ∧ Ex B B2 ∧ Rel K O A2 B2 σ H ρ2 st2 T ∧ whlL (evT F c) (exSs F b) m ρ2 st2 = some (f, ρ', st'), ⟨n, A, B, ρ, st, Px.refl _, Ex.refl _, R, e⟩, ?_⟩
  rintro m σ H ⟨A2, B2, ρ2, st2, hA2, hB2, R2, e2⟩
  cases m with
  | zero => simp only [whlL] at e2; cases e2
  | succ m =>
    simp only [whlL] at e2
    obtain ⟨⟨t, ρ3, st3⟩, e3, e2⟩ := bindS e2
    refine ⟨O, A2, B2, ρ2, st2, T, t, ρ3, st3, R2, e3, fun A3 B3 H3 hA3 hB3 R3 => ?_⟩
    cases t with
    | false =>
      simp only [Bool.false_eq_true, if_false] at e2 ⊢
      cases e2
      exact q σ A3 B3 H3 (hA2.trans hA3) (hB2.trans hB3) R3
    | true =>
      simp only [if_true] at e2 ⊢
      obtain ⟨⟨g, ρ4, st4⟩, e4, e2⟩ := bindS e2
      refine ⟨fun σ' H' => ∃ A5 B5, Px A A5 ∧ Ex B B5 ∧ Rel K O A5 B5 σ' H' ρ4 st4 T ∧ whlL (evT F c) (exSs F b) m ρ4 st4 = some (f, ρ', st'), fun σ' H' ⟨A5, B5, hA5, hB5, R5, e5⟩ => ⟨m, Nat.lt_succ_self m, A5, B5, ρ4, st4, hA5, hB5, R5, e5⟩, O, A3, B3, ρ3, st3, T, g, ρ4, st4, R3, e4, ?_⟩
      cases g with
      | nx => exact fun σ' A5 B5 H5 hA5 hB5 R5 => ⟨A5, B5, (hA2.trans hA3).trans hA5, (hB2.trans hB3).trans hB5, R5, e2⟩
      | ct => exact fun σ' A5 B5 H5 hA5 hB5 R5 => ⟨A5, B5, (hA2.trans hA3).trans hA5, (hB2.trans hB3).trans hB5, R5, e2⟩
      | bk => cases e2; exact fun σ' A5 B5 H5 hA5 hB5 R5 => q σ' A5 B5 H5 ((hA2.trans hA3).trans hA5) ((hB2.trans hB3).trans hB5) R5
      | rt fr d => cases e2; exact fun v σ' A5 B5 H5 hA5 hB5 R5 => q v σ' A5 B5 H5 ((hA2.trans hA3).trans hA5) ((hB2.trans hB3).trans hB5) R5
theorem drop_at {xs : List D} {i : Nat} {d : D} (h : xs[i]? = some d) : xs.drop i = d :: xs.drop (i + 1) := by
  obtain ⟨hi, e⟩ := List.getElem?_eq_some_iff.mp h
  rw [List.drop_eq_getElem_cons hi, e]
theorem imp_for {t : Tg} {it : I} {b : Ss} (D : Ends) (σ : L2.St) (H : Hp) (hq : tS K F (.for_ t it b) D σ H) : tFor (tI K F it) (tG K F t) (tSs K F b) D σ H := by
  obtain ⟨O, A, B, ρ, st, T, f, ρ', st', R, e, q⟩ := hq
  simp only [exS] at e
  obtain ⟨⟨xs, ρ1, st1⟩, e1, e⟩ := bindS e
  refine ⟨O, A, B, ρ, st, T, xs, ρ1, st1, R, e1, fun J A1 B1 H1 hA1 hB1 R1 wk => ?_⟩
  refine ⟨fun i m σ H => ∃ A2 B2 ρ2 st2, m = xs.length - i ∧ Px A1 A2 ∧ Ex B1 B2 ∧ Rel K O A2 B2 σ H ρ2 st2 T ∧ forL (evTg F t) (exSs F b) (xs.drop i) ρ2 st2 = some (f, ρ', st'), ⟨_, A1, B1, ρ1, st1, rfl, Px.refl _, Ex.refl _, R1, e⟩, ?_⟩
  rintro i m σ H ⟨A2, B2, ρ2, st2, rfl, hA2, hB2, R2, e2⟩
  cases hx : xs[i]? with
  | none =>
    have hl : xs.length ≤ i := List.getElem?_eq_none_iff.mp hx
    refine .inl ⟨(wk i A2 B2 H hA2 hB2 R2.ex).2 hl, ?_⟩
    rw [List.drop_eq_nil_of_le hl] at e2
    simp only [forL] at e2
    cases e2
    exact q σ A2 B2 H (hA1.trans hA2) (hB1.trans hB2) R2
  | some d =>
    obtain ⟨go, yld⟩ := (wk i A2 B2 H hA2 hB2 R2.ex).1 d hx
    have hi : i < xs.length := (List.getElem?_eq_some_iff.mp hx).1
    rw [drop_at hx] at e2
    simp only [forL] at e2
    obtain ⟨⟨ρ3, st3⟩, e3, e2⟩ := bindS e2
    obtain ⟨⟨g, ρ4, st4⟩, e4, e2⟩ := bindS e2
    refine .inr ⟨go, fun σ' H' => ∃ A5 B5, Px A1 A5 ∧ Ex B1 B5 ∧ Rel K O A5 B5 σ' H' ρ4 st4 T ∧ forL (evTg F t) (exSs F b) (xs.drop (i + 1)) ρ4 st4 = some (f, ρ', st'),
      fun σ' H' ⟨A5, B5, hA5, hB5, R5, e5⟩ => ⟨xs.length - (i + 1), by omega, A5, B5, ρ4, st4, rfl, hA5, hB5, R5, e5⟩, fun x H' y => ?_⟩
    obtain ⟨B3, hb, hh, hbh, hn, ho⟩ := yld x H' y
    have R3 := R2.grow hb hh hbh hn
    refine ⟨O, A2, B3, ρ2, st2, T, d, ρ3, st3, R3, ho, e3, fun σ4 A4 B4 H4 hA4 hB4 _ R4 => ?_⟩
    refine ⟨O, A4, B4, ρ3, st3, T, g, ρ4, st4, R4, e4, ?_⟩
    have hA : ∀ {A5}, Px A4 A5 → Px A1 A5 := fun z => (hA2.trans hA4).trans z
    have hB : ∀ {B5}, Ex B4 B5 → Ex B1 B5 := fun z => ((hB2.trans hb).trans hB4).trans z
    cases g with
    | nx => exact fun σ' A5 B5 H5 hA5 hB5 R5 => ⟨A5, B5, hA hA5, hB hB5, R5, e2⟩
    | ct => exact fun σ' A5 B5 H5 hA5 hB5 R5 => ⟨A5, B5, hA hA5, hB hB5, R5, e2⟩
    | bk => cases e2; exact fun σ' A5 B5 H5 hA5 hB5 R5 => q σ' A5 B5 H5 (hA1.trans (hA hA5)) (hB1.trans (hB hB5)) R5
    | rt fr d => cases e2; exact fun v σ' A5 B5 H5 hA5 hB5 R5 => q v σ' A5 B5 H5 (hA1.trans (hA hA5)) (hB1.trans (hB hB5)) R5
theorem COk.pass (ok : COk P w K mg base k C X) : PassesOwn (model X.prog X.w) X.A X.env X.xe := by
  rw [ok.xe]; exact PassesOwn.never
theorem swaps_one {t v : Expr} {l : Nat} {env : PySem.Env} (h : nameB t = false) : swapsWithSole [t] v l env = pure false := by
  rw [sole]
  exact swaps_sub (by cases t <;> first | rfl | (simp [nameB] at h))
theorem ss_asgT (G : GOk P w K mg base k F gl fp kw) (ok : COk P w K mg base k C X) (tie : Tied gl fp kw C) {t : Tg} {p : E} {tg v : Expr} {pos : Pos} (h1 : nameB tg = false) (h2 : chTg C t tg = true) (h3 : chE C p v = true) (h4 : starB tg = true)
    (h5 : asgTB (fun x => C.sc.names.lookup x) tg v = true) : PS X (.Assign [tg] v pos) (tS K F (.asgT t p)) := by
  have hK := ok.K
  subst hK
  have hw : swappedStores [tg] v X.env = pure none := by
    cases tg <;> first | (exact swap_none rfl) | (simp [asgTB] at h5; done) | (cases v <;> first | (exact swap_none rfl) | (simp [asgTB] at h5; done) | skip)
    simp only [asgTB] at h5
    split at h5
    · rename_i heq
      exact swapM_ok ok.scKind (by rw [ok.kd]; exact heq)
    · cases h5
  exact (ps_asg (sdE G p C X v ok tie h3) (sdT G t C X tg ok tie h2) (swaps_one h1) hw (asg_one h4)).imp imp_asgT
mutual
theorem ssS (G : GOk P w K mg base k F gl fp kw) : ∀ (p : S) (C : SC) (X : Cx) (s : Stmt), COk P w K mg base k C X → Tied gl fp kw C → chS C p s = true → PS X s (tS K F p)
  | .asg i e, C, X, s, ok, tie, h => by
    simp only [chS] at h
    split at h
    · simp only [Bool.and_eq_true] at h
      exact ss_asg G ok tie h.1.1 h.1.2 h.2
    · cases h
  | .asgT t e, C, X, s, ok, tie, h => by
    simp only [chS] at h
    split at h
    · simp only [Bool.and_eq_true, Bool.not_eq_true'] at h
      exact ss_asgT G ok tie h.1.1.1.1 h.1.1.1.2 h.1.1.2 h.1.2 h.2
    · cases h
  | .par2 i j a b, C, X, s, ok, tie, h => by
    simp only [chS] at h
    split at h
    · simp only [Bool.and_eq_true, decide_eq_true_eq] at h
      obtain ⟨⟨⟨⟨⟨⟨⟨h1, h2⟩, h3⟩, h4⟩, h5⟩, h6⟩, h7⟩, h8⟩ := h
      exact ss_par2 G ok tie h1 h2 h3 h4 h5 h6 h7 h8
    · cases h
  | .par3 i j l a b c, C, X, s, ok, tie, h => by
    simp only [chS] at h
    split at h
    · simp only [Bool.and_eq_true, decide_eq_true_eq] at h
      obtain ⟨⟨⟨⟨⟨⟨⟨⟨⟨⟨⟨⟨h1, h2⟩, h3⟩, h4⟩, h5⟩, h6⟩, h7⟩, h8⟩, h9⟩, h10⟩, h11⟩, h12⟩, h13⟩ := h
      exact ss_par3 G ok tie h1 h2 h3 h4 h5 h6 h7 h8 h9 h10 h11 h12 h13
    · cases h
  | .aug i o e, C, X, s, ok, tie, h => by
    simp only [chS] at h
    split at h
    · simp only [Bool.and_eq_true, decide_eq_true_eq] at h
      obtain ⟨⟨rfl, h2⟩, h3⟩ := h
      obtain ⟨n1, n2, n3, n4⟩ := ok.storeP h2
      have hK := ok.K
      subst hK
      exact (ps_aug n1 n2 n3 (sdE G e C X _ ok tie h3) (pip_all o) n4).imp imp_aug
    · cases h
  | .ex e, C, X, s, ok, tie, h => by
    simp only [chS] at h
    split at h
    · simp only [Bool.and_eq_true, Bool.not_eq_true'] at h
      exact (ps_expr (sdE G e C X _ ok tie h.1) (swaps_no h.2)).imp imp_ex
    · cases h
  | .ret e, C, X, s, ok, tie, h => by
    simp only [chS] at h
    split at h
    · rename_i v pos
      by_cases hv : ∃ i, e = .v i
      · obtain ⟨i, rfl⟩ := hv
        cases v <;> first | (simp [chE] at h; done) | skip
        simp only [chE] at h
        exact (ps_ret (ok.var h)).imp imp_retv
      · exact (ps_ret (sdE G e C X _ ok tie h)).imp (imp_ret fun i z => hv ⟨i, z⟩)
    · cases h
  | .retN, C, X, s, ok, tie, h => by
    simp only [chS] at h
    split at h
    · exact ps_retN.imp imp_retN
    · cases h
  | .pass, C, X, s, ok, tie, h => by
    simp only [chS] at h
    split at h
    · exact ps_pass.imp imp_pass
    · cases h
  | .brk, C, X, s, ok, tie, h => by
    simp only [chS] at h
    split at h
    · exact ps_break.imp imp_brk
    · cases h
  | .cnt, C, X, s, ok, tie, h => by
    simp only [chS] at h
    split at h
    · exact ps_continue.imp imp_cnt
    · cases h
  | .ite c a b, C, X, s, ok, tie, h => by
    simp only [chS] at h
    split at h
    · simp only [Bool.and_eq_true] at h
      exact (ps_if (sdC G c C X _ ok tie h.1.1).1 (ssSs G a C X _ ok tie h.1.2) (ssSs G b C X _ ok tie h.2)).imp imp_ite
    · cases h
  | .whl c b, C, X, s, ok, tie, h => by
    simp only [chS] at h
    split at h
    · simp only [Bool.and_eq_true] at h
      exact (ps_while ok.pass (sdC G c C X _ ok tie h.1).1 (ssSs G b C X _ ok tie h.2)).imp imp_whl
    · cases h
  | .for_ t it b, C, X, s, ok, tie, h => by
    simp only [chS] at h
    split at h
    · simp only [Bool.and_eq_true] at h
      exact (ps_for ok.pass ok.calm (sdI G it C X _ _ ok tie h.1.2) (sdT G t C X _ ok tie h.1.1) (ssSs G b C X _ ok tie h.2) (fold_ok (chI_set h.1.2) X.env)).imp imp_for
    · cases h
theorem ssSs (G : GOk P w K mg base k F gl fp kw) : ∀ (p : Ss) (C : SC) (X : Cx) (ss : List Stmt), COk P w K mg base k C X → Tied gl fp kw C → chSs C p ss = true → PSs X ss (tSs K F p)
  | .nil, C, X, ss, ok, tie, h => by
    cases ss with
    | nil => exact pss_nil.imp imp_nil
    | cons _ _ => simp [chSs] at h
  | .cons p ps, C, X, ss, ok, tie, h => by
    cases ss with
    | nil => simp [chSs] at h
    | cons s ss =>
      simp only [chSs, Bool.and_eq_true] at h
      exact (pss_cons (ssS G p C X s ok tie h.1) (ssSs G ps C X ss ok tie h.2)).imp imp_cons
end
end
end Pv

namespace Pv
open PySem PySem.Spec PyProof.Rows L2

/-! ## the table of a text -/
structure DefT where
  nm : Str
  st : Stmt
  ps : List Str
  N : List Str
  body : Ss
def progOf (ds : List DefT) (x : Str) : Option Fn := (ds.find? fun d => d.nm == x).map fun d => ⟨d.ps, d.N.length, d.body⟩
def fpOf (ds : List DefT) (x : Str) : Bool := ds.any fun d => d.nm == x
def glOf (cs : List (Str × D)) (x : Str) : Bool := cs.any fun c => c.1 == x
def gOf (cs : List (Str × D)) (x : Str) : Option D := (cs.find? fun c => c.1 == x).map (·.2)
abbrev KW := Str × Nat × List Str × List Nat
def kwOf (ks : List KW) (x : Str) (np : Nat) (ns : List Str) (perm : List Nat) : Bool := ks.any fun u => u.1 == x && u.2.1 == np && u.2.2.1 == ns && u.2.2.2 == perm
def scOf (ds : List DefT) (cs : List (Str × D)) (ks : List KW) (d : DefT) : SC := ⟨d.N, defScope d.st, fun _ => true, glOf cs, fpOf ds, kwOf ks⟩
def scB (N P : List Str) (sc : Scope) : Bool :=
  decide (sc.kind = .function) && !sc.isCoroutine && !sc.isGenerator && decide N.Nodup && decide (N.take P.length = P) && P.all (fun x => locB sc x) && sc.names.all (fun y => !decide (y.2 = .free))
theorem scB_ok {N P : List Str} {sc : Scope} (h : scB N P sc = true) : FnScope N P sc := by
  unfold scB at h
  simp only [Bool.and_eq_true, Bool.not_eq_true', decide_eq_true_eq, List.all_eq_true, decide_eq_false_iff_not] at h
  obtain ⟨⟨⟨⟨⟨⟨h1, h2⟩, h3⟩, h4⟩, h5⟩, h6⟩, h7⟩ := h
  refine ⟨h1, h2, h3, h4, h5, fun x hx => ?_, h7⟩
  exact loc_of (h6 x hx)
def chD (ds : List DefT) (cs : List (Str × D)) (ks : List KW) (d : DefT) : Bool := scB d.N d.ps (defScope d.st) && chSs (scOf ds cs ks d) d.body (defBody d.st) && decide (d.ps.length ≤ d.N.length)
/-- a def of the text as it stands -/
structure FF (K : PySem.W.Frag) (mg : Str → Option Value) (d : DefT) : Prop where
  ex : ∃ f fd, Fun K d.nm d.nm d.st f fd ∧ mg d.nm = some (.ref f) ∧ Binds K fd d.ps []
theorem ff_mk {K : PySem.W.Frag} {h : Heap} {mg : Str → Option Value} (X : K.In h) (G : h.Ns mainGlobals mg) {x : Str} {st : Stmt} {ps N : List Str} {b : Ss} {f : Addr} {od an : Option Addr} {sl : Array (Option Value)} {oc kV dc pm cd ct : Value}
    (hb : ∀ (kV doc pm : Value) (an : Option Addr) (cdv ct : Value) (us : List Value), us.length = ps.length → bindArgs (PySem.W.fnOf x x (defArgs st) (defBody st) (defScope st) .none kV doc pm an cdv ct) ⟨us, []⟩ = pure (ps.zip us))
    (a : PySem.W.nsIn K mainGlobals x = some (some (.ref f))) (l : K.lookup f = some ⟨oc, od, .func (PySem.W.fnOf x x (defArgs st) (defBody st) (defScope st) .none kV dc pm an cd ct), sl⟩) (c : PySem.W.codeIn K cd x = true) (k : PySem.W.keepIn K (.ref f) = true) :
    FF K mg ⟨x, st, ps, N, b⟩ := ⟨_, _, fun_mk l c k, PySem.W.mg_of X G a, (fun_mk (st := st) l c k).binds hb⟩
/-- the written part -/
structure Facts (K : PySem.W.Frag) (mg : Str → Option Value) (ds : List DefT) (cs : List (Str × D)) (ks : List KW) : Prop where
  ff : ∀ d ∈ ds, FF K mg d
  nd : (ds.map (·.nm)).Nodup
  ch : ∀ d ∈ ds, chD ds cs ks d = true
  blt : ∀ x, x ∈ blts → mg x = none
  glob : ∀ c ∈ cs, ∃ u v, mg c.1 = some u ∧ RelV v u ∧ ∀ A B, Ho K A B v c.2
  kws : ∀ u ∈ ks, ∃ d ∈ ds, d.nm = u.1 ∧ 0 < d.ps.length ∧ ∀ f fd, Fun K d.nm d.nm d.st f fd → ∀ (s : Shared) (us ws : List Value), us.length = u.2.1 → ws.length = u.2.2.1.length → BindsTo s fd ⟨us, u.2.2.1.zip ws⟩ (d.ps.zip (u.2.2.2.filterMap fun j => (us ++ ws)[j]?)) ∧ (u.2.2.2.filterMap fun j => (us ++ ws)[j]?).length = d.ps.length
theorem find_def : ∀ {ds : List DefT} {d : DefT}, (ds.map (·.nm)).Nodup → d ∈ ds → ds.find? (fun e => e.nm == d.nm) = some d
  | [], _, _, h => by cases h
  | e :: ds, d, nd, h => by
    rw [List.map_cons, List.nodup_cons] at nd
    rcases List.mem_cons.mp h with rfl | h
    · rw [List.find?_cons_of_pos (by simp)]
    · have : e.nm ≠ d.nm := fun z => nd.1 (by rw [z]; exact List.mem_map_of_mem h)
      rw [List.find?_cons_of_neg (by simpa using this)]
      exact find_def nd.2 h
theorem callN_len {prog : Str → Option Fn} {G : Str → Option D} {k : Nat} {x : Str} {f : Fn} (h : prog x = some f) {ds : List D} {st : Sto} {r : Bool × D × Sto} (e : callN prog G k x ds st = some r) : ds.length = f.ps.length := by
  cases k with
  | zero => simp only [callN] at e; cases e
  | succ k =>
    simp only [callN, h, runF] at e
    split at e
    · assumption
    · cases e
theorem list_start {N ps : List Str} {vs : List V} (h : vs.length = ps.length) : L2.start N vs = vs.map some ++ List.replicate (N.length - ps.length) none := by
  unfold L2.start; rw [h]
theorem ends_rt {K : PySem.W.Frag} {A A' : List Addr} {B B' H H' : Hp} {σ : L2.St} {ρ : Env} {st : Sto} {T : List (Addr × List D)} {fr : Bool} {d : D} {v : V} (h : EPost K ⟨A, B, H⟩ σ T ρ st fr d v A' B' H') : Back K A B H A' B' H' st fr d v := by
  unfold EPost at h
  cases fr with
  | false =>
    rw [if_neg Bool.false_ne_true] at h
    exact ⟨h.1.fw, h.1.srel, by rw [if_neg Bool.false_ne_true]; exact h.2⟩
  | true =>
    rw [if_pos rfl] at h
    obtain ⟨a, xs, rfl, rfl, R⟩ := h
    refine ⟨R.fw, R.srel, ?_⟩
    rw [if_pos rfl]
    refine ⟨a, xs, rfl, rfl, R.top, R.fresh (.t 0) xs a rfl rfl (fun n z => by cases z), fun hm => ?_⟩
    obtain ⟨n, hn⟩ := List.getElem?_of_mem hm
    have hl := (List.getElem?_eq_some_iff.mp hn).1
    rw [R.al] at hl
    have := R.dist (.t 0) (.h n) xs _ a rfl (List.getElem?_eq_getElem hl) rfl hn
    cases this
theorem tab_ok {P : Program} {w : World} {K : PySem.W.Frag} {mg : Str → Option Value} {base : Heap} {ds : List DefT} {cs : List (Str × D)} {ks : List KW} (Fa : Facts K mg ds cs ks) : ∀ (k : Nat) (d : DefT), d ∈ ds → ∀ (f : Addr) (fd : FuncData), Fun K d.nm d.nm d.st f fd → FnOk P w K mg base CX0 k f fd d.ps (spOf K d.ps.length (callN (progOf ds) (gOf cs) k d.nm))
  | 0, d, hd, f, fd, _ => ⟨fun vs H Q E h => h.1, fun A outer s H args us vs Q E _ _ _ _ h => by
      obtain ⟨_, _, _, _, _, _, _, _, _, _, e, _⟩ := h
      simp only [callN] at e
      cases e⟩
  | k + 1, d, hd, f, fd, F => by
    have hc := Fa.ch d hd
    unfold chD at hc
    simp only [Bool.and_eq_true, decide_eq_true_eq] at hc
    obtain ⟨⟨hs, hb⟩, hl⟩ := hc
    have S := scB_ok hs
    have pd : progOf ds d.nm = some ⟨d.ps, d.N.length, d.body⟩ := by unfold progOf; rw [find_def Fa.nd hd]; rfl
    have G : GOk P w K mg base k ⟨callN (progOf ds) (gOf cs) k, gOf cs⟩ (glOf cs) (fpOf ds) (kwOf ks) := by
      refine ⟨Fa.blt, fun x dd h1 h2 => ?_, fun x hx => ?_, fun x np ns perm hx => ?_⟩
      · have h2 : gOf cs x = some dd := h2
        unfold gOf at h2
        cases hf : cs.find? (fun c => c.1 == x) with
        | none => rw [hf] at h2; cases h2
        | some c =>
          rw [hf] at h2
          cases h2
          have e : c.1 = x := by simpa using List.find?_some hf
          have := Fa.glob c (List.mem_of_find?_eq_some hf)
          rw [e] at this
          exact this
      · unfold fpOf at hx
        obtain ⟨e, he, hn⟩ := List.any_eq_true.mp hx
        have hn : e.nm = x := by simpa using hn
        subst hn
        obtain ⟨g, gd, Fg, mgx, bg⟩ := (Fa.ff e he).ex
        refine ⟨g, gd, e.ps, mgx, Fg.kp, bg, tab_ok Fa k e he g gd Fg, fun ds' st r h => ?_⟩
        exact callN_len (f := ⟨e.ps, e.N.length, e.body⟩) (by unfold progOf; rw [find_def Fa.nd he]; rfl) h
      · unfold kwOf at hx
        obtain ⟨u, hu, hx⟩ := List.any_eq_true.mp hx
        simp only [Bool.and_eq_true, beq_iff_eq] at hx
        obtain ⟨⟨⟨rfl, rfl⟩, rfl⟩, rfl⟩ := hx
        obtain ⟨e, he, hn, h0, hbd⟩ := Fa.kws u hu
        obtain ⟨g, gd, Fg, mgx, bg⟩ := (Fa.ff e he).ex
        rw [← hn]
        refine ⟨g, gd, e.ps, mgx, Fg.kp, tab_ok Fa k e he g gd Fg, h0, hbd g gd Fg, fun ds' st r h => ?_⟩
        exact callN_len (f := ⟨e.ps, e.N.length, e.body⟩) (by unfold progOf; rw [find_def Fa.nd he]; rfl) h
    refine F.ok S (fun vs H Q E h => h.1) (fun cdv A outer s H vs Q E hr h => ?_)
    obtain ⟨hv, A0, B0, st, xs, fr, dd, st', SR, hx, e, q⟩ := h
    refine ⟨_, ssSs G d.body (scOf ds cs ks d) _ _ ⟨rfl, rfl, rfl, rfl, rfl, rfl, S.nd, rfl, hr, rfl, fun _ _ => .inl rfl, S.kind, rfl⟩ ⟨rfl, rfl, rfl⟩ hb, ?_⟩
    simp only [callN, pd, runF] at e
    split at e
    · rename_i hxl
      rw [list_start hv]
      have R := Rel.start (n := d.N.length - d.ps.length) SR hx
      split at e
      · rename_i fr' d' ρ' st2 ex
        cases e
        exact ⟨_, A0, B0, _, st, [], _, ρ', _, R, ex, fun v σ' A' B' H' _ _ hp => q v A' B' H' (ends_rt hp)⟩
      · rename_i ρ' st2 ex
        cases e
        exact ⟨_, A0, B0, _, st, [], _, ρ', _, R, ex, fun σ' A' B' H' _ _ R' => q .non A' B' H' (ends_rt (.val R' .non))⟩
      · cases e
    · cases e
/-- a tuple of the module -/
theorem ho_tupK {K : PySem.W.Frag} {A : List Addr} {B : Hp} {a : Addr} {its : Array Value} {n : Nat} {sl : Array (Option Value)} {vs : List V} {ds : List D} (l : K.lookup a = some ⟨.type "tuple", none, .seq its n, sl⟩) (z : its.size ≤ sizeLine) (r : Vals vs its.toList) (h : HoL K A B vs ds) : Ho K A B (.ref a) (.tup ds) :=
  .tup (.inr ⟨_, its, n, l, rfl, rfl, z, r⟩) (.inr ⟨_, l, rfl⟩) h
/-- the law's end -/
def spLaw (K : PySem.W.Frag) (f : List D → Sto → Option (Bool × D × Sto)) : Sp := spOf K 1 f
theorem law_end {K : PySem.W.Frag} {f : List D → Sto → Option (Bool × D × Sto)} {H : Hp} {a : Addr} {ns : List Int} {st' : Sto} (hS : SqL K H a (ns.map V.int)) (e : f [.scr ns] [] = some (false, .bl true, st')) :
    spLaw K f [.ref a] H (fun v _ => v = .bl true) fun _ _ _ => False := by
  refine ⟨rfl, [], H, [], [.scr ns], false, .bl true, st', ⟨Ex.refl _, rfl, fun n a xs h => by simp at h, fun n m a h => by simp at h⟩, .cons (.scr hS) .nil, e, fun v A' B' H' b => ?_⟩
  obtain ⟨_, _, h⟩ := b
  rw [if_neg Bool.false_ne_true] at h
  cases h
  rfl
end Pv

namespace Pv
open PySem PySem.Spec PyProof.Rows L2

/-! ## the law's helpers -/
def law_deal_e0 : E := (.v 5)
def law_deal_c1 : Cn := (.e (.cmp .GtE (.v 5) (.op .Pow (.k (.int 10)) (.k (.int 18)))))
def law_deal_b2 : Ss := (.cons
  (.asg 4 (.op .Mod (.bi .int (.cons (.op .Add (.op .Add (.op .Mult (.v 4) (.k (.int 69621))) (.op .Mod (.bi .int (.cons (.v 5) .nil)) (.k (.int 2147483563)))) (.k (.int 23))) .nil)) (.k (.int 2147483647)))) .nil)
def law_deal_e3 : E := (.op .Mod (.bi .int (.cons (.bi .abs (.cons (.bi .int (.cons (.v 5) .nil)) .nil)) .nil)) (.v 2))
def h_deal : Ss := (.cons
  (.asg 2 (.op .Mult (.op .Mult (.op .Mult (.op .Mult (.op .Mult (.op .Pow (.k (.int 10)) (.k (.int 64))) (.op .Pow (.k (.int 10)) (.k (.int 64)))) (.op .Pow (.k (.int 10)) (.k (.int 64)))) (.op .Pow (.k (.int 10)) (.k (.int 64)))) (.op .Pow (.k (.int 10)) (.k (.int 64)))) (.op .Pow (.k (.int 10)) (.k (.int 64))))) (.cons
  (.asg 3 (.lc law_deal_e3 (.n 5) (.val (.sl (.v 0) .no (.so (.k (.int 63))))) .no [("cell", 5)])) (.cons
  (.asg 4 (.op .Add (.k (.int 70001)) (.op .Mult (.k (.int 7919)) (.v 1)))) (.cons
  (.for_ (.n 5) (.val (.v 3)) law_deal_b2) (.cons
  (.ret (.share (.lst (.cons (.share (.slr (.lc law_deal_e0 (.n 5) (.val (.v 3)) (.so law_deal_c1) [("cell", 5)]))) (.cons (.v 4) .nil))))) .nil)))))
def law_any_c0 : Cn := (.an (.e (.cmp .Gt (.bi .len (.cons (.ixv 0 (.k (.int 0))) .nil)) (.k (.int 0)))) (.e (.cmp .Eq (.ix (.ixv 0 (.k (.int 0))) (.neg (.k (.int 1)))) (.k (.int 0)))))
def law_any_b1 : Ss := (.cons
  (.ex (.mthH .pop (.ixv 0 (.k (.int 0))) .nil)) .nil)
def h_any : Ss := (.cons
  (.whl law_any_c0 law_any_b1) (.cons
  (.ite (.e (.cmp .Gt (.bi .len (.cons (.ixv 0 (.k (.int 0))) .nil)) (.k (.int 0)))) (.cons
  (.asg 2 (.bi .int (.cons (.mthH .pop (.ixv 0 (.k (.int 0))) .nil) .nil))) (.cons
  (.ex (.mthH .append (.ixv 0 (.k (.int 0))) (.cons (.op .FloorDiv (.v 2) (.v 1)) .nil))) (.cons
  (.ret (.op .Mod (.v 2) (.v 1))) .nil))) .nil) (.cons
  (.asgT (.sub 0 (.k (.int 1))) (.op .Mod (.bi .int (.cons (.op .Add (.op .Mult (.ixv 0 (.k (.int 1))) (.k (.int 48271))) (.k (.int 31))) .nil)) (.k (.int 2147483647)))) (.cons
  (.ret (.op .Mod (.bi .int (.cons (.op .FloorDiv (.ixv 0 (.k (.int 1))) (.k (.int 64))) .nil)) (.v 1))) .nil))))
def h_of : Ss := (.cons
  (.ret (.ixv 1 (.call "_law_any" (.cons (.v 0) (.cons (.lenv 1) .nil))))) .nil)
def h_is_kind : Ss := (.cons
  (.ite (.e (.cmp .Is (.v 1) (.k .non))) (.cons
  (.ret (.cmp .Is (.v 0) (.k .non))) .nil) .nil) (.cons
  (.ite (.or (.e (.cmp .Is (.v 1) (.k (.bl true)))) (.e (.cmp .Is (.v 1) (.k (.bl false))))) (.cons
  (.ret (.ite (.e (.v 1)) (.cmp .Is (.v 0) (.k (.bl true))) (.cmp .Is (.v 0) (.k (.bl false))))) .nil) .nil) (.cons
  (.ite (.e (.isi (.v 1) ["str"] false)) (.cons
  (.ret (.an (.isi (.v 0) ["str"] false) (.cmp .Eq (.v 0) (.v 1)))) .nil) .nil) (.cons
  (.ret (.an (.isi (.v 0) ["int"] false) (.an (.nt (.isi (.v 0) ["bool"] false)) (.cmp .Eq (.v 0) (.v 1))))) .nil))))
def law_same_c0 : Cn := (.e (.cmp .Gt (.lenv 2) (.k (.int 0))))
def law_same_b1 : Ss := (.cons
  (.ex (.mth .append 2 (.cons (.tup (.cons (.ixv 3 (.v 5)) (.cons (.ixv 4 (.v 5)) .nil))) .nil))) .nil)
def law_same_b2 : Ss := (.cons
  (.asgT (.tup (.cons (.n 3) (.cons (.n 4) .nil))) (.mth .pop 2 .nil)) (.cons
  (.ite (.e (.isi (.v 4) ["tuple"] false)) (.cons
  (.ite (.or (.nt (.e (.isi (.v 3) ["tuple"] false))) (.e (.cmp .NotEq (.lenv 3) (.lenv 4)))) (.cons
  (.ret (.k (.bl false))) .nil) .nil) (.cons
  (.for_ (.n 5) (.rng (.cons (.lenv 4) .nil)) law_same_b1) .nil)) (.cons
  (.ite (.or (.e (.isi (.v 3) ["tuple", "list", "dict"] true)) (.nt (.e (.call "_law_is_kind" (.cons (.v 3) (.cons (.v 4) .nil)))))) (.cons
  (.ret (.k (.bl false))) .nil) .nil) .nil)) .nil))
def h_same : Ss := (.cons
  (.asg 2 (.lst (.cons (.tup (.cons (.v 0) (.cons (.v 1) .nil))) .nil))) (.cons
  (.whl law_same_c0 law_same_b2) (.cons
  (.ret (.k (.bl true))) .nil)))
def law_all_e0 : E := (.v 1)
def law_all_c1 : Cn := (.nt (.e (.call "_law_same" (.cons (.v 1) (.cons (.v 2) .nil)))))
def h_all : Ss := (.cons
  (.ret (.cmp .Eq (.bi .len (.cons (.lc law_all_e0 (.tup (.cons (.n 1) (.cons (.n 2) .nil))) (.val (.v 0)) (.so law_all_c1) [("told", 1), ("due", 2)]) .nil)) (.k (.int 0)))) .nil)
theorem eqv_int {i j : Int} : eqv (.int i) (.int j) = (i == j) := by simp only [eqv]
section
variable {P : Tb} {ρ ρ1 : Env} {st st1 : Sto}
theorem sq {s : S} {ss : Ss} (h : exS P s ρ st = some (.nx, ρ1, st1)) : exSs P (.cons s ss) ρ st = exSs P ss ρ1 st1 := by
  simp only [exSs, h, Option.bind_eq_bind, Option.bind_some]
theorem sq1 {s : S} (h : exS P s ρ st = some (.nx, ρ1, st1)) : exSs P (.cons s .nil) ρ st = some (.nx, ρ1, st1) := by
  simp only [exSs, h, Option.bind_eq_bind, Option.bind_some]
theorem sqr {s : S} {ss : Ss} {fr : Bool} {d : D} (h : exS P s ρ st = some (.rt fr d, ρ1, st1)) : exSs P (.cons s ss) ρ st = some (.rt fr d, ρ1, st1) := by
  simp only [exSs, h, Option.bind_eq_bind, Option.bind_some]
theorem run_rt {ps : List Str} {nl n : Nat} {b : Ss} {args : List D} {fr : Bool} {d : D} (hp : args.length = ps.length) (hn : nl - ps.length = n) (h : exSs P b (args.map Sl.val ++ List.replicate n .no) st = some (.rt fr d, ρ1, st1)) : runF P ⟨ps, nl, b⟩ args st = some (fr, d, st1) := by
  simp only [runF, hp, hn, h, if_true]
theorem ex_whl {c : Cn} {b : Ss} {r : Fl × Env × Sto} (h : whlL (evT P c) (exSs P b) fuel ρ st = some r) : exS P (.whl c b) ρ st = some r := by simp only [exS, h]
theorem ex_for {t : Tg} {it : I} {b : Ss} {xs : List D} {r : Fl × Env × Sto} (h1 : evI P it ρ st = some (xs, ρ1, st1)) (h2 : forL (evTg P t) (exSs P b) xs ρ1 st1 = some r) : exS P (.for_ t it b) ρ st = some r := by
  simp only [exS, h1, Option.bind_eq_bind, Option.bind_some, h2]
theorem ex_it {c : Cn} {a b : Ss} {t : Bool} {r : RS} (h : evT P c ρ st = some (t, ρ1, st1)) (h2 : (if t then exSs P a ρ1 st1 else exSs P b ρ1 st1) = r) : exS P (.ite c a b) ρ st = r := by
  simp only [exS, h, Option.bind_eq_bind, Option.bind_some, h2]
theorem ev_lc {e : E} {t : Tg} {it : I} {c : Co} {own : List (Str × Nat)} {xs acc : List D} {ρ2 : Env} {st2 : Sto} (h1 : evI P it ρ st = some (xs, ρ1, st1))
    (h2 : lcL (evTg P t) (evC P c) (fun ρ st => vv (evE P e ρ st)) (own.map (·.2)) xs [] (wipeE ρ1 (own.map (·.2))) st1 = some (acc, ρ2, st2)) : evE P (.lc e t it c own) ρ st = some (true, .lst acc, ρ2, st2) := by
  simp only [evE, h1, Option.bind_eq_bind, Option.bind_some, h2]
theorem for_all {asg : D → Env → Sto → Option (Env × Sto)} {b : Env → Sto → RS} (J : Nat → Env → Sto → Prop) : ∀ (xs : List D) (i : Nat) (ρ : Env) (st : Sto),
    (∀ k d ρ st, xs[k]? = some d → J (i + k) ρ st → ∃ ρ1 st1, asg d ρ st = some (ρ1, st1) ∧ ∃ ρ2 st2, b ρ1 st1 = some (.nx, ρ2, st2) ∧ J (i + k + 1) ρ2 st2) → J i ρ st → ∃ ρ' st', forL asg b xs ρ st = some (.nx, ρ', st') ∧ J (i + xs.length) ρ' st'
  | [], i, ρ, st, _, h => ⟨ρ, st, rfl, h⟩
  | x :: xs, i, ρ, st, hs, h => by
    obtain ⟨ρ1, st1, e1, ρ2, st2, e2, h2⟩ := hs 0 x ρ st rfl h
    obtain ⟨ρ3, st3, e3, h3⟩ := for_all J xs (i + 1) ρ2 st2 (fun k d ρ st hk hj => by
      obtain ⟨a1, a2, a3, a4, a5, a6, a7⟩ := hs (k + 1) d ρ st hk (by rw [show i + (k + 1) = i + 1 + k by omega]; exact hj)
      exact ⟨a1, a2, a3, a4, a5, a6, by rw [show i + 1 + k + 1 = i + (k + 1) + 1 by omega]; exact a7⟩) h2
    refine ⟨ρ3, st3, ?_, by rw [List.length_cons, show i + (xs.length + 1) = i + 1 + xs.length by omega]; exact h3⟩
    simp only [forL, e1, e2, Option.bind_eq_bind, Option.bind_some, e3]
/-- a comprehension without a test -/
theorem lc_all {asg : D → Env → Sto → Option (Env × Sto)} {c : Env → Sto → Option (Bool × Env × Sto)} {e : Env → Sto → Option (D × Env × Sto)} {vs : List Nat} (hc : ∀ ρ st, c ρ st = some (true, ρ, st)) (J : Nat → List D → Env → Sto → Prop) : ∀ (xs : List D) (i : Nat) (acc : List D) (ρ : Env) (st : Sto), acc.length + xs.length ≤ lim →
    (∀ k d acc ρ st, xs[k]? = some d → J (i + k) acc ρ st → ∃ ρ1 st1, asg d ρ st = some (ρ1, st1) ∧ ∃ x ρ2 st2, e ρ1 st1 = some (x, ρ2, st2) ∧ J (i + k + 1) (acc ++ [x]) (wipeE ρ2 vs) st2) → J i acc ρ st → ∃ acc' ρ' st', lcL asg c e vs xs acc ρ st = some (acc', ρ', st') ∧ J (i + xs.length) acc' ρ' st'
  | [], i, acc, ρ, st, _, _, h => ⟨acc, ρ, st, rfl, h⟩
  | x :: xs, i, acc, ρ, st, hl, hs, h => by
    obtain ⟨ρ1, st1, e1, y, ρ2, st2, e2, h2⟩ := hs 0 x acc ρ st rfl h
    rw [List.length_cons] at hl
    obtain ⟨acc3, ρ3, st3, e3, h3⟩ := lc_all hc J xs (i + 1) (acc ++ [y]) (wipeE ρ2 vs) st2 (by rw [List.length_append, List.length_singleton]; omega) (fun k d acc ρ st hk hj => by
      obtain ⟨a1, a2, a3, a4, a5, a6, a7, a8⟩ := hs (k + 1) d acc ρ st hk (by rw [show i + (k + 1) = i + 1 + k by omega]; exact hj)
      exact ⟨a1, a2, a3, a4, a5, a6, a7, by rw [show i + 1 + k + 1 = i + (k + 1) + 1 by omega]; exact a8⟩) h2
    refine ⟨acc3, ρ3, st3, ?_, by rw [List.length_cons, show i + (xs.length + 1) = i + 1 + xs.length by omega]; exact h3⟩
    have hlt : acc.length < lim := by omega
    simp only [lcL, e1, e2, hc, Option.bind_eq_bind, Option.bind_some, if_true, hlt, e3]
end
/-- a deal: the cells that are left, the mix -/
def Deal (st : Sto) : Prop := ∃ (cs : List Int) (mix : Int), st = [cs.map D.int, [.hd 0, .int mix]] ∧ cs.length ≤ 63 ∧ (∀ c ∈ cs, 0 ≤ c) ∧ 0 ≤ mix ∧ mix < 2147483647
theorem atI_lastD (xs : List D) (v : D) : atI (xs ++ [v]) (-1) = some v := atI_last xs v
theorem list_last {α : Type} : ∀ (xs : List α), xs = [] ∨ ∃ ys y, xs = ys ++ [y]
  | [] => .inl rfl
  | x :: xs => by
    rcases list_last xs with rfl | ⟨ys, y, rfl⟩
    · exact .inr ⟨[], x, rfl⟩
    · exact .inr ⟨x :: ys, y, rfl⟩
theorem at0 {α : Type} (x : α) (xs : List α) : atI (x :: xs) 0 = some x := by unfold atI ixN; simp
theorem at1 {α : Type} (x y : α) (xs : List α) : atI (x :: y :: xs) 1 = some y := by
  unfold atI ixN
  rw [if_pos (by decide), if_pos (by simp; omega)]
  rfl
theorem big_of {a : Int} {n : Nat} (hn : n ≤ 399999) (h : a.natAbs < 2 ^ n) : Big a := by
  unfold Big
  by_cases h0 : a.natAbs = 0
  · rw [h0]; decide
  · have := (Nat.log2_lt h0 (k := n)).mpr h
    omega
theorem big_small {a : Int} (h : a.natAbs < 2 ^ 200) : Big a := big_of (n := 200) (by decide) h
theorem log_small {a : Int} (h0 : 0 < a) (h : a < 2 ^ 62) : a.natAbs.log2 < 9000 := by
  have := (Nat.log2_lt (n := a.natAbs) (k := 62) (by omega)).mpr (by omega)
  omega
theorem any_loop (P : Tb) (b : Int) (mix : Int) : ∀ (n : Nat) (cs : List Int), cs.length < n → ∃ cs' : List Int, whlL (evT P law_any_c0) (exSs P law_any_b1) n [.val (.hd 1), .val (.int b), .no] [cs.map D.int, [.hd 0, .int mix]] = some (.nx, [.val (.hd 1), .val (.int b), .no], [cs'.map D.int, [.hd 0, .int mix]]) ∧ cs'.length ≤ cs.length ∧ (∀ c ∈ cs', c ∈ cs)
  | 0, cs, h => by omega
  | n + 1, cs, h => by
    rcases list_last cs with rfl | ⟨ds, d, rfl⟩
    · refine ⟨[], ?_, Nat.le_refl _, fun _ h => h⟩
      simp only [whlL, law_any_c0, at0, exSs, exS, evE, evEs, evT, Pv.evI, evC, evTg, evTgs, evO, vv, up, one, retE, Option.bind_eq_bind, Option.bind_some, Option.map_some, Option.pure_def, List.getElem?_cons_zero, List.getElem?_cons_succ, List.set_cons_zero, List.set_cons_succ, asgN, asgSub, setIx, opD, addD, mulD, biD, cmpD, ixD, ixL, lenD, slotSeq, slotLst, truD, List.length_cons, List.length_nil, if_true, if_false, Bool.false_eq_true, reduceIte, mthHR, mthR, mtD, slD, seqOf, wipeE, Tgs.len, Pv.unpack, Option.map_none, Option.bind_none, augD, revD, List.map_cons, List.map_nil, isiD, ty, List.any_cons, List.any_nil]
      rfl
    · by_cases hd : d = 0
      · subst hd
        obtain ⟨cs', h1, h2, h3⟩ := any_loop P b mix n ds (by simp at h; omega)
        refine ⟨cs', ?_, by simp; omega, fun c hc => List.mem_append_left _ (h3 c hc)⟩
        rw [← h1]
        simp only [whlL, law_any_c0, law_any_b1, at0, exSs, exS, evE, evEs, evT, Pv.evI, evC, evTg, evTgs, evO, vv, up, one, retE, Option.bind_eq_bind, Option.bind_some, Option.map_some, Option.pure_def, List.getElem?_cons_zero, List.getElem?_cons_succ, List.set_cons_zero, List.set_cons_succ, asgN, asgSub, setIx, opD, addD, mulD, biD, cmpD, ixD, ixL, lenD, slotSeq, slotLst, truD, List.length_cons, List.length_nil, if_true, if_false, Bool.false_eq_true, reduceIte, mthHR, mthR, mtD, slD, seqOf, wipeE, Tgs.len, Pv.unpack, Option.map_none, Option.bind_none, augD, revD, List.map_cons, List.map_nil, isiD, ty, List.any_cons, List.any_nil]
        simp [atI_lastD, exSs, exS, evE, evEs, evT, Pv.evI, evC, evTg, evTgs, evO, vv, up, one, retE, Option.bind_eq_bind, Option.bind_some, Option.map_some, Option.pure_def, List.getElem?_cons_zero, List.getElem?_cons_succ, List.set_cons_zero, List.set_cons_succ, asgN, asgSub, setIx, opD, addD, mulD, biD, cmpD, ixD, ixL, lenD, slotSeq, slotLst, truD, List.length_cons, List.length_nil, if_true, if_false, Bool.false_eq_true, reduceIte, mthHR, mthR, mtD, slD, seqOf, wipeE, Tgs.len, Pv.unpack, Option.map_none, Option.bind_none, augD, revD, List.map_cons, List.map_nil, isiD, ty, List.any_cons, List.any_nil, sh, eqv_int, at0]
      · refine ⟨ds ++ [d], ?_, Nat.le_refl _, fun _ h => h⟩
        simp only [whlL, law_any_c0, law_any_b1, at0, exSs, exS, evE, evEs, evT, Pv.evI, evC, evTg, evTgs, evO, vv, up, one, retE, Option.bind_eq_bind, Option.bind_some, Option.map_some, Option.pure_def, List.getElem?_cons_zero, List.getElem?_cons_succ, List.set_cons_zero, List.set_cons_succ, asgN, asgSub, setIx, opD, addD, mulD, biD, cmpD, ixD, ixL, lenD, slotSeq, slotLst, truD, List.length_cons, List.length_nil, if_true, if_false, Bool.false_eq_true, reduceIte, mthHR, mthR, mtD, slD, seqOf, wipeE, Tgs.len, Pv.unpack, Option.map_none, Option.bind_none, augD, revD, List.map_cons, List.map_nil, isiD, ty, List.any_cons, List.any_nil]
        simp [atI_lastD, exSs, exS, evE, evEs, evT, Pv.evI, evC, evTg, evTgs, evO, vv, up, one, retE, Option.bind_eq_bind, Option.bind_some, Option.map_some, Option.pure_def, List.getElem?_cons_zero, List.getElem?_cons_succ, List.set_cons_zero, List.set_cons_succ, asgN, asgSub, setIx, opD, addD, mulD, biD, cmpD, ixD, ixL, lenD, slotSeq, slotLst, truD, List.length_cons, List.length_nil, if_true, if_false, Bool.false_eq_true, reduceIte, mthHR, mthR, mtD, slD, seqOf, wipeE, Tgs.len, Pv.unpack, Option.map_none, Option.bind_none, augD, revD, List.map_cons, List.map_nil, isiD, ty, List.any_cons, List.any_nil, sh, eqv_int, at0, hd]
theorem any_ok (P : Tb) (ps : List Str) (hp : ps.length = 2) {st : Sto} (hst : Deal st) {b : Int} (h0 : 0 < b) (hb : b < 2 ^ 60) : ∃ r st', runF P ⟨ps, 3, h_any⟩ [.hd 1, .int b] st = some (false, .int r, st') ∧ 0 ≤ r ∧ r < b ∧ Deal st' := by
  obtain ⟨cs, mix, rfl, hl, hc, m0, m1⟩ := hst
  obtain ⟨cs', e, l', c'⟩ := any_loop P b mix fuel cs (by unfold fuel; omega)
  have hlog := log_small h0 (by omega)
  rcases list_last cs' with rfl | ⟨ds, d, rfl⟩
  · have q0 : 0 ≤ (mix * 48271 + 31) % 2147483647 := Int.emod_nonneg _ (by decide)
    have q1 : (mix * 48271 + 31) % 2147483647 < 2147483647 := Int.emod_lt_of_pos _ (by decide)
    refine ⟨((mix * 48271 + 31) % 2147483647 / 64) % b, [[], [.hd 0, .int ((mix * 48271 + 31) % 2147483647)]], ?_, Int.emod_nonneg _ (by omega), Int.emod_lt_of_pos _ h0, [], _, rfl, by simp, by simp, q0, q1⟩
    have hbm : Big mix := big_small (by omega)
    have hbk : Big 48271 := by decide
    have l64 : Nat.log2 64 < 9000 := by decide
    refine run_rt (ρ1 := [.val (.hd 1), .val (.int b), .no]) (n := 1) (by simp [hp]) (by simp [hp]) ?_
    refine (sq (ex_whl e)).trans ?_
    refine (sq (ex_it (t := false) (by simp [at0, exSs, exS, evE, evEs, evT, Pv.evI, evC, evTg, evTgs, evO, vv, up, one, retE, Option.bind_eq_bind, Option.bind_some, Option.map_some, Option.pure_def, List.getElem?_cons_zero, List.getElem?_cons_succ, List.set_cons_zero, List.set_cons_succ, asgN, asgSub, setIx, opD, addD, mulD, biD, cmpD, ixD, ixL, lenD, slotSeq, slotLst, truD, List.length_cons, List.length_nil, if_true, if_false, Bool.false_eq_true, reduceIte, mthHR, mthR, mtD, slD, seqOf, wipeE, Tgs.len, Pv.unpack, Option.map_none, Option.bind_none, augD, revD, List.map_cons, List.map_nil, isiD, ty, List.any_cons, List.any_nil]; exact ⟨rfl, rfl⟩) rfl)).trans ?_
    refine (sq (ρ1 := [.val (.hd 1), .val (.int b), .no]) (st1 := [[], [.hd 0, .int ((mix * 48271 + 31) % 2147483647)]]) (by simp [at0, at1, exSs, exS, evE, evEs, evT, Pv.evI, evC, evTg, evTgs, evO, vv, up, one, retE, Option.bind_eq_bind, Option.bind_some, Option.map_some, Option.pure_def, List.getElem?_cons_zero, List.getElem?_cons_succ, List.set_cons_zero, List.set_cons_succ, asgN, asgSub, setIx, opD, addD, mulD, biD, cmpD, ixD, ixL, lenD, slotSeq, slotLst, truD, List.length_cons, List.length_nil, if_true, if_false, Bool.false_eq_true, reduceIte, mthHR, mthR, mtD, slD, seqOf, wipeE, Tgs.len, Pv.unpack, Option.map_none, Option.bind_none, augD, revD, List.map_cons, List.map_nil, isiD, ty, List.any_cons, List.any_nil, hbm, hbk, ixN])).trans ?_
    exact sqr (by simp [at0, at1, exSs, exS, evE, evEs, evT, Pv.evI, evC, evTg, evTgs, evO, vv, up, one, retE, Option.bind_eq_bind, Option.bind_some, Option.map_some, Option.pure_def, List.getElem?_cons_zero, List.getElem?_cons_succ, List.set_cons_zero, List.set_cons_succ, asgN, asgSub, setIx, opD, addD, mulD, biD, cmpD, ixD, ixL, lenD, slotSeq, slotLst, truD, List.length_cons, List.length_nil, if_true, if_false, Bool.false_eq_true, reduceIte, mthHR, mthR, mtD, slD, seqOf, wipeE, Tgs.len, Pv.unpack, Option.map_none, Option.bind_none, augD, revD, List.map_cons, List.map_nil, isiD, ty, List.any_cons, List.any_nil, hbm, hbk, h0, ixN, l64])
  · have d0 : 0 ≤ d := hc d (c' d (by simp))
    have q0 : 0 ≤ d / b := Int.ediv_nonneg d0 (by omega)
    refine ⟨d % b, [(ds ++ [d / b]).map D.int, [.hd 0, .int mix]], ?_, Int.emod_nonneg _ (by omega), Int.emod_lt_of_pos _ h0, ds ++ [d / b], mix, rfl, by simp at l' ⊢; omega, fun c hc1 => ?_, m0, m1⟩
    · refine run_rt (ρ1 := [.val (.hd 1), .val (.int b), .val (.int d)]) (n := 1) (by simp [hp]) (by simp [hp]) ?_
      refine (sq (ex_whl e)).trans ?_
      have hlim : ds.length < lim := by simp at l'; unfold lim; omega
      refine sqr (ex_it (t := true) (ρ1 := [.val (.hd 1), .val (.int b), .no]) (st1 := [(ds ++ [d]).map D.int, [.hd 0, .int mix]]) (by simp [at0, exSs, exS, evE, evEs, evT, Pv.evI, evC, evTg, evTgs, evO, vv, up, one, retE, Option.bind_eq_bind, Option.bind_some, Option.map_some, Option.pure_def, List.getElem?_cons_zero, List.getElem?_cons_succ, List.set_cons_zero, List.set_cons_succ, asgN, asgSub, setIx, opD, addD, mulD, biD, cmpD, ixD, ixL, lenD, slotSeq, slotLst, truD, List.length_cons, List.length_nil, if_true, if_false, Bool.false_eq_true, reduceIte, mthHR, mthR, mtD, slD, seqOf, wipeE, Tgs.len, Pv.unpack, Option.map_none, Option.bind_none, augD, revD, List.map_cons, List.map_nil, isiD, ty, List.any_cons, List.any_nil]) ?_)
      simp only [if_true]
      refine (sq (ρ1 := [.val (.hd 1), .val (.int b), .val (.int d)]) (st1 := [ds.map D.int, [.hd 0, .int mix]]) (by simp [at0, exSs, exS, evE, evEs, evT, Pv.evI, evC, evTg, evTgs, evO, vv, up, one, retE, Option.bind_eq_bind, Option.bind_some, Option.map_some, Option.pure_def, List.getElem?_cons_zero, List.getElem?_cons_succ, List.set_cons_zero, List.set_cons_succ, asgN, asgSub, setIx, opD, addD, mulD, biD, cmpD, ixD, ixL, lenD, slotSeq, slotLst, truD, List.length_cons, List.length_nil, if_true, if_false, Bool.false_eq_true, reduceIte, mthHR, mthR, mtD, slD, seqOf, wipeE, Tgs.len, Pv.unpack, Option.map_none, Option.bind_none, augD, revD, List.map_cons, List.map_nil, isiD, ty, List.any_cons, List.any_nil])).trans ?_
      refine (sq (ρ1 := [.val (.hd 1), .val (.int b), .val (.int d)]) (st1 := [(ds ++ [d / b]).map D.int, [.hd 0, .int mix]]) (by simp [at0, exSs, exS, evE, evEs, evT, Pv.evI, evC, evTg, evTgs, evO, vv, up, one, retE, Option.bind_eq_bind, Option.bind_some, Option.map_some, Option.pure_def, List.getElem?_cons_zero, List.getElem?_cons_succ, List.set_cons_zero, List.set_cons_succ, asgN, asgSub, setIx, opD, addD, mulD, biD, cmpD, ixD, ixL, lenD, slotSeq, slotLst, truD, List.length_cons, List.length_nil, if_true, if_false, Bool.false_eq_true, reduceIte, mthHR, mthR, mtD, slD, seqOf, wipeE, Tgs.len, Pv.unpack, Option.map_none, Option.bind_none, augD, revD, List.map_cons, List.map_nil, isiD, ty, List.any_cons, List.any_nil, h0, hlog, hlim])).trans ?_
      exact sqr (by simp [at0, exSs, exS, evE, evEs, evT, Pv.evI, evC, evTg, evTgs, evO, vv, up, one, retE, Option.bind_eq_bind, Option.bind_some, Option.map_some, Option.pure_def, List.getElem?_cons_zero, List.getElem?_cons_succ, List.set_cons_zero, List.set_cons_succ, asgN, asgSub, setIx, opD, addD, mulD, biD, cmpD, ixD, ixL, lenD, slotSeq, slotLst, truD, List.length_cons, List.length_nil, if_true, if_false, Bool.false_eq_true, reduceIte, mthHR, mthR, mtD, slD, seqOf, wipeE, Tgs.len, Pv.unpack, Option.map_none, Option.bind_none, augD, revD, List.map_cons, List.map_nil, isiD, ty, List.any_cons, List.any_nil, h0])
    · rcases List.mem_append.mp hc1 with h | h
      · exact hc c (c' c (List.mem_append_left _ h))
      · rw [List.mem_singleton.mp h]; exact q0
/-! ### ranges -/
theorem rng_len {a b : Int} : (rngL a b 1).length = (b - a).toNat := by
  unfold rngL rngN Builtin.Range.rangeSize
  rw [List.length_map, List.length_range, if_pos (by decide)]
  split
  · rw [Int.ediv_one]; omega
  · show (0 : Int).toNat = _; simp; omega
theorem rng_at {a b c : Int} {k : Nat} {d : D} (h : (rngL a b c)[k]? = some d) : d = .int (a + (k : Int) * c) := (rng_get h).2
theorem rng_lt {a b c : Int} {k : Nat} {d : D} (h : (rngL a b c)[k]? = some d) : k < (rngL a b c).length := (List.getElem?_eq_some_iff.mp h).1
theorem rngD1 {n : Int} (h0 : 0 ≤ n) (h : n ≤ 1000000) : rngD [.int n] = some (rngL 0 n 1) := by
  have : rngOk 0 n 1 = true := by
    unfold rngOk Builtin.Range.small Builtin.Range.rangeSize Builtin.Range.rangeFitsLong
    simp
    split <;> omega
  simp only [rngD, this, if_true]
theorem rngD2 {a b : Int} (h0 : 0 ≤ a) (h1 : a ≤ 1000000) (h2 : 0 ≤ b) (h : b ≤ 1000000) : rngD [.int a, .int b] = some (rngL a b 1) := by
  have : rngOk a b 1 = true := by
    unfold rngOk Builtin.Range.small Builtin.Range.rangeSize Builtin.Range.rangeFitsLong
    simp
    split <;> omega
  simp only [rngD, this, if_true]
/-! ### one of some -/
def AnyOk (P : Tb) : Prop := ∀ (b : Int) (st : Sto), 0 < b → b < 2 ^ 60 → Deal st → ∃ r st', P.F "_law_any" [.hd 1, .int b] st = some (false, .int r, st') ∧ 0 ≤ r ∧ r < b ∧ Deal st'
theorem of_ok {P : Tb} (ha : AnyOk P) (ps : List Str) (hp : ps.length = 2) {st : Sto} (hst : Deal st) {xs : List D} (h0 : xs ≠ []) (hl : xs.length < 1000000) : ∃ x st', runF P ⟨ps, 2, h_of⟩ [.hd 1, .lst xs] st = some (false, x, st') ∧ x ∈ xs ∧ Deal st' := by
  have hpos : 0 < xs.length := List.length_pos_iff.mpr h0
  obtain ⟨r, st', e, r0, r1, hd⟩ := ha xs.length st (by omega) (by omega) hst
  obtain ⟨j, rfl⟩ := Int.eq_ofNat_of_zero_le r0
  have hj : j < xs.length := by omega
  refine ⟨xs[j], st', ?_, List.getElem_mem hj, hd⟩
  have hat : atI xs (j : Int) = some xs[j] := atI_nat (List.getElem?_eq_getElem hj)
  refine run_rt (ρ1 := [.val (.hd 1), .val (.lst xs)]) (n := 0) (by simp [hp]) (by simp [hp]) ?_
  exact sqr (by simp [exSs, exS, evE, evEs, evT, Pv.evI, evC, evTg, evTgs, evO, vv, up, one, retE, Option.bind_eq_bind, Option.bind_some, Option.map_some, Option.pure_def, List.getElem?_cons_zero, List.getElem?_cons_succ, List.set_cons_zero, List.set_cons_succ, asgN, asgSub, setIx, opD, addD, mulD, biD, cmpD, ixD, ixL, lenD, slotSeq, slotLst, truD, List.length_cons, List.length_nil, if_true, if_false, Bool.false_eq_true, reduceIte, mthHR, mthR, mtD, slD, seqOf, wipeE, Tgs.len, Pv.unpack, Option.map_none, Option.bind_none, augD, revD, List.map_cons, List.map_nil, isiD, ty, List.any_cons, List.any_nil, e, hat])
/-! ### the same -/
inductive Pl : D → Prop
  | non : Pl .non
  | int (i : Int) : Pl (.int i)
  | tup {xs : List D} : (∀ x ∈ xs, Pl x) → Pl (.tup xs)
mutual
def wt : D → Nat
  | .tup xs => 1 + wtL xs
  | _ => 1
def wtL : List D → Nat
  | [] => 0
  | x :: xs => wt x + wtL xs
end
theorem wtL_app : ∀ (xs ys : List D), wtL (xs ++ ys) = wtL xs + wtL ys
  | [], ys => by simp [wtL]
  | x :: xs, ys => by simp [wtL, wtL_app xs ys]; omega
theorem wt_pos (d : D) : 1 ≤ wt d := by cases d <;> simp [wt]
theorem wtL_len : ∀ xs : List D, xs.length ≤ wtL xs
  | [] => Nat.le_refl _
  | x :: xs => by have := wt_pos x; have := wtL_len xs; simp [wtL]; omega
theorem wtL_mem {x : D} : ∀ {xs : List D}, x ∈ xs → wt x ≤ wtL xs
  | y :: ys, h => by
    rcases List.mem_cons.mp h with rfl | h
    · simp [wtL]
    · have := wtL_mem h; simp [wtL]; omega
def pr (d : D) : D := .tup [d, d]
theorem kind_ok (P : Tb) (ps : List Str) (hp : ps.length = 2) (st : Sto) {d : D} (h : Pl d) (ht : ∀ xs, d ≠ .tup xs) : runF P ⟨ps, 2, h_is_kind⟩ [d, d] st = some (false, .bl true, st) := by
  cases h with
  | non =>
    refine run_rt (ρ1 := [.val .non, .val .non]) (n := 0) (by simp [hp]) (by simp [hp]) ?_
    exact sqr (ex_it (t := true) (by simp [exSs, exS, evE, evEs, evT, Pv.evI, evC, evTg, evTgs, evO, vv, up, one, retE, Option.bind_eq_bind, Option.bind_some, Option.map_some, Option.pure_def, List.getElem?_cons_zero, List.getElem?_cons_succ, List.set_cons_zero, List.set_cons_succ, asgN, asgSub, setIx, opD, addD, mulD, biD, cmpD, ixD, ixL, lenD, slotSeq, slotLst, truD, List.length_cons, List.length_nil, if_true, if_false, Bool.false_eq_true, reduceIte, mthHR, mthR, mtD, slD, seqOf, wipeE, Tgs.len, Pv.unpack, Option.map_none, Option.bind_none, augD, revD, List.map_cons, List.map_nil, isiD, ty, List.any_cons, List.any_nil]; exact ⟨rfl, rfl⟩) (by simp [exSs, exS, evE, evEs, evT, Pv.evI, evC, evTg, evTgs, evO, vv, up, one, retE, Option.bind_eq_bind, Option.bind_some, Option.map_some, Option.pure_def, List.getElem?_cons_zero, List.getElem?_cons_succ, List.set_cons_zero, List.set_cons_succ, asgN, asgSub, setIx, opD, addD, mulD, biD, cmpD, ixD, ixL, lenD, slotSeq, slotLst, truD, List.length_cons, List.length_nil, if_true, if_false, Bool.false_eq_true, reduceIte, mthHR, mthR, mtD, slD, seqOf, wipeE, Tgs.len, Pv.unpack, Option.map_none, Option.bind_none, augD, revD, List.map_cons, List.map_nil, isiD, ty, List.any_cons, List.any_nil]))
  | int i =>
    refine run_rt (ρ1 := [.val (.int i), .val (.int i)]) (n := 0) (by simp [hp]) (by simp [hp]) ?_
    refine (sq (ex_it (t := false) (by simp [exSs, exS, evE, evEs, evT, Pv.evI, evC, evTg, evTgs, evO, vv, up, one, retE, Option.bind_eq_bind, Option.bind_some, Option.map_some, Option.pure_def, List.getElem?_cons_zero, List.getElem?_cons_succ, List.set_cons_zero, List.set_cons_succ, asgN, asgSub, setIx, opD, addD, mulD, biD, cmpD, ixD, ixL, lenD, slotSeq, slotLst, truD, List.length_cons, List.length_nil, if_true, if_false, Bool.false_eq_true, reduceIte, mthHR, mthR, mtD, slD, seqOf, wipeE, Tgs.len, Pv.unpack, Option.map_none, Option.bind_none, augD, revD, List.map_cons, List.map_nil, isiD, ty, List.any_cons, List.any_nil]; exact ⟨rfl, rfl⟩) rfl)).trans ?_
    refine (sq (ex_it (t := false) (by simp [exSs, exS, evE, evEs, evT, Pv.evI, evC, evTg, evTgs, evO, vv, up, one, retE, Option.bind_eq_bind, Option.bind_some, Option.map_some, Option.pure_def, List.getElem?_cons_zero, List.getElem?_cons_succ, List.set_cons_zero, List.set_cons_succ, asgN, asgSub, setIx, opD, addD, mulD, biD, cmpD, ixD, ixL, lenD, slotSeq, slotLst, truD, List.length_cons, List.length_nil, if_true, if_false, Bool.false_eq_true, reduceIte, mthHR, mthR, mtD, slD, seqOf, wipeE, Tgs.len, Pv.unpack, Option.map_none, Option.bind_none, augD, revD, List.map_cons, List.map_nil, isiD, ty, List.any_cons, List.any_nil]; exact ⟨rfl, rfl⟩) rfl)).trans ?_
    refine (sq (ex_it (t := false) (by simp [exSs, exS, evE, evEs, evT, Pv.evI, evC, evTg, evTgs, evO, vv, up, one, retE, Option.bind_eq_bind, Option.bind_some, Option.map_some, Option.pure_def, List.getElem?_cons_zero, List.getElem?_cons_succ, List.set_cons_zero, List.set_cons_succ, asgN, asgSub, setIx, opD, addD, mulD, biD, cmpD, ixD, ixL, lenD, slotSeq, slotLst, truD, List.length_cons, List.length_nil, if_true, if_false, Bool.false_eq_true, reduceIte, mthHR, mthR, mtD, slD, seqOf, wipeE, Tgs.len, Pv.unpack, Option.map_none, Option.bind_none, augD, revD, List.map_cons, List.map_nil, isiD, ty, List.any_cons, List.any_nil]; exact ⟨rfl, rfl⟩) rfl)).trans ?_
    exact sqr (by simp [exSs, exS, evE, evEs, evT, Pv.evI, evC, evTg, evTgs, evO, vv, up, one, retE, Option.bind_eq_bind, Option.bind_some, Option.map_some, Option.pure_def, List.getElem?_cons_zero, List.getElem?_cons_succ, List.set_cons_zero, List.set_cons_succ, asgN, asgSub, setIx, opD, addD, mulD, biD, cmpD, ixD, ixL, lenD, slotSeq, slotLst, truD, List.length_cons, List.length_nil, if_true, if_false, Bool.false_eq_true, reduceIte, mthHR, mthR, mtD, slD, seqOf, wipeE, Tgs.len, Pv.unpack, Option.map_none, Option.bind_none, augD, revD, List.map_cons, List.map_nil, isiD, ty, List.any_cons, List.any_nil, sh, eqv_int])
  | tup h => exact absurd rfl (ht _)
def KindOk (P : Tb) : Prop := ∀ (st : Sto) (d : D), Pl d → (∀ xs, d ≠ .tup xs) → P.F "_law_is_kind" [d, d] st = some (false, .bl true, st)
theorem take_pr {xs : List D} {k : Nat} {d : D} (h : xs[k]? = some d) : (xs.take (k + 1)).map pr = (xs.take k).map pr ++ [.tup [d, d]] := by
  rw [List.take_add_one, h, List.map_append]; rfl
theorem same_loop {P : Tb} (hk : KindOk P) (st : Sto) (a b : D) : ∀ (n : Nat) (todo : List D) (s3 s4 s5 : Sl), wtL todo < n → wtL todo < 100000 → (∀ d ∈ todo, Pl d) → ∃ ρ', whlL (evT P law_same_c0) (exSs P law_same_b2) n [.val a, .val b, .own (todo.map pr), s3, s4, s5] st = some (.nx, ρ', st)
  | 0, _, _, _, _, h, _, _ => by omega
  | n + 1, todo, s3, s4, s5, h, hb, hp => by
    rcases list_last todo with rfl | ⟨init, d, rfl⟩
    · exact ⟨_, by simp only [whlL, law_same_c0, exSs, exS, evE, evEs, evT, Pv.evI, evC, evTg, evTgs, evO, vv, up, one, retE, Option.bind_eq_bind, Option.bind_some, Option.map_some, Option.pure_def, List.getElem?_cons_zero, List.getElem?_cons_succ, List.set_cons_zero, List.set_cons_succ, asgN, asgSub, setIx, opD, addD, mulD, biD, cmpD, ixD, ixL, lenD, slotSeq, slotLst, truD, List.length_cons, List.length_nil, if_true, if_false, Bool.false_eq_true, reduceIte, mthHR, mthR, mtD, slD, seqOf, wipeE, Tgs.len, Pv.unpack, Option.map_none, Option.bind_none, augD, revD, List.map_cons, List.map_nil, isiD, ty, List.any_cons, List.any_nil]; simp [exSs, exS, evE, evEs, evT, Pv.evI, evC, evTg, evTgs, evO, vv, up, one, retE, Option.bind_eq_bind, Option.bind_some, Option.map_some, Option.pure_def, List.getElem?_cons_zero, List.getElem?_cons_succ, List.set_cons_zero, List.set_cons_succ, asgN, asgSub, setIx, opD, addD, mulD, biD, cmpD, ixD, ixL, lenD, slotSeq, slotLst, truD, List.length_cons, List.length_nil, if_true, if_false, Bool.false_eq_true, reduceIte, mthHR, mthR, mtD, slD, seqOf, wipeE, Tgs.len, Pv.unpack, Option.map_none, Option.bind_none, augD, revD, List.map_cons, List.map_nil, isiD, ty, List.any_cons, List.any_nil]; rfl⟩
    · have hd : Pl d := hp d (by simp)
      have hi : ∀ x ∈ init, Pl x := fun x hx => hp x (by simp [hx])
      rw [wtL_app] at h hb
      have cT : evT P law_same_c0 [.val a, .val b, .own ((init ++ [d]).map pr), s3, s4, s5] st = some (true, [.val a, .val b, .own ((init ++ [d]).map pr), s3, s4, s5], st) := by
        simp only [law_same_c0, exSs, exS, evE, evEs, evT, Pv.evI, evC, evTg, evTgs, evO, vv, up, one, retE, Option.bind_eq_bind, Option.bind_some, Option.map_some, Option.pure_def, List.getElem?_cons_zero, List.getElem?_cons_succ, List.set_cons_zero, List.set_cons_succ, asgN, asgSub, setIx, opD, addD, mulD, biD, cmpD, ixD, ixL, lenD, slotSeq, slotLst, truD, List.length_cons, List.length_nil, if_true, if_false, Bool.false_eq_true, reduceIte, mthHR, mthR, mtD, slD, seqOf, wipeE, Tgs.len, Pv.unpack, Option.map_none, Option.bind_none, augD, revD, List.map_cons, List.map_nil, isiD, ty, List.any_cons, List.any_nil]
        simp [exSs, exS, evE, evEs, evT, Pv.evI, evC, evTg, evTgs, evO, vv, up, one, retE, Option.bind_eq_bind, Option.bind_some, Option.map_some, Option.pure_def, List.getElem?_cons_zero, List.getElem?_cons_succ, List.set_cons_zero, List.set_cons_succ, asgN, asgSub, setIx, opD, addD, mulD, biD, cmpD, ixD, ixL, lenD, slotSeq, slotLst, truD, List.length_cons, List.length_nil, if_true, if_false, Bool.false_eq_true, reduceIte, mthHR, mthR, mtD, slD, seqOf, wipeE, Tgs.len, Pv.unpack, Option.map_none, Option.bind_none, augD, revD, List.map_cons, List.map_nil, isiD, ty, List.any_cons, List.any_nil]
      have pop : exS P (.asgT (.tup (.cons (.n 3) (.cons (.n 4) .nil))) (.mth .pop 2 .nil)) [.val a, .val b, .own ((init ++ [d]).map pr), s3, s4, s5] st = some (.nx, [.val a, .val b, .own (init.map pr), .val d, .val d, s5], st) := by
        simp only [exSs, exS, evE, evEs, evT, Pv.evI, evC, evTg, evTgs, evO, vv, up, one, retE, Option.bind_eq_bind, Option.bind_some, Option.map_some, Option.pure_def, List.getElem?_cons_zero, List.getElem?_cons_succ, List.set_cons_zero, List.set_cons_succ, asgN, asgSub, setIx, opD, addD, mulD, biD, cmpD, ixD, ixL, lenD, slotSeq, slotLst, truD, List.length_cons, List.length_nil, if_true, if_false, Bool.false_eq_true, reduceIte, mthHR, mthR, mtD, slD, seqOf, wipeE, Tgs.len, Pv.unpack, Option.map_none, Option.bind_none, augD, revD, List.map_cons, List.map_nil, isiD, ty, List.any_cons, List.any_nil, evTgs]
        simp [exSs, exS, evE, evEs, evT, Pv.evI, evC, evTg, evTgs, evO, vv, up, one, retE, Option.bind_eq_bind, Option.bind_some, Option.map_some, Option.pure_def, List.getElem?_cons_zero, List.getElem?_cons_succ, List.set_cons_zero, List.set_cons_succ, asgN, asgSub, setIx, opD, addD, mulD, biD, cmpD, ixD, ixL, lenD, slotSeq, slotLst, truD, List.length_cons, List.length_nil, if_true, if_false, Bool.false_eq_true, reduceIte, mthHR, mthR, mtD, slD, seqOf, wipeE, Tgs.len, Pv.unpack, Option.map_none, Option.bind_none, augD, revD, List.map_cons, List.map_nil, isiD, ty, List.any_cons, List.any_nil, pr, evTgs]
      by_cases ht : ∃ xs, d = .tup xs
      · obtain ⟨xs, rfl⟩ := ht
        have hxs : ∀ x ∈ xs, Pl x := by cases hd with | tup h => exact h
        have hw : wtL [D.tup xs] = 1 + wtL xs := by simp [wtL, wt]
        have hl := wtL_len xs
        have hl2 := wtL_len init
        obtain ⟨ρ1, st1, e1, ⟨s, rfl, rfl⟩⟩ := for_all (asg := evTg P (.n 5)) (b := exSs P law_same_b1) (fun k ρ st' => ∃ s, ρ = [.val a, .val b, .own (init.map pr ++ (xs.take k).map pr), .val (.tup xs), .val (.tup xs), s] ∧ st' = st) (rngL 0 xs.length 1) 0 [.val a, .val b, .own (init.map pr), .val (.tup xs), .val (.tup xs), s5] st
          (fun k d ρ st' hk hj => by
            obtain ⟨s, rfl, rfl⟩ := hj
            have hkl := rng_lt hk
            rw [rng_len] at hkl
            have hkx : k < xs.length := by omega
            have hd := rng_at hk
            rw [Int.zero_add, Int.mul_one] at hd
            subst hd
            refine ⟨[.val a, .val b, .own (init.map pr ++ (xs.take (0 + k)).map pr), .val (.tup xs), .val (.tup xs), .val (.int k)], st', by simp [exSs, exS, evE, evEs, evT, Pv.evI, evC, evTg, evTgs, evO, vv, up, one, retE, Option.bind_eq_bind, Option.bind_some, Option.map_some, Option.pure_def, List.getElem?_cons_zero, List.getElem?_cons_succ, List.set_cons_zero, List.set_cons_succ, asgN, asgSub, setIx, opD, addD, mulD, biD, cmpD, ixD, ixL, lenD, slotSeq, slotLst, truD, List.length_cons, List.length_nil, if_true, if_false, Bool.false_eq_true, reduceIte, mthHR, mthR, mtD, slD, seqOf, wipeE, Tgs.len, Pv.unpack, Option.map_none, Option.bind_none, augD, revD, List.map_cons, List.map_nil, isiD, ty, List.any_cons, List.any_nil], ?_⟩
            have hat : atI xs (k : Int) = some xs[k] := atI_nat (List.getElem?_eq_getElem hkx)
            have hlim : init.length + min k xs.length < lim := by unfold lim; omega
            refine ⟨[.val a, .val b, .own (init.map pr ++ (xs.take (k + 1)).map pr), .val (.tup xs), .val (.tup xs), .val (.int k)], st', ?_, ⟨_, by rw [Nat.zero_add], rfl⟩⟩
            rw [take_pr (List.getElem?_eq_getElem hkx), ← List.append_assoc, Nat.zero_add]
            refine sq1 (ρ1 := [.val a, .val b, .own (init.map pr ++ (xs.take k).map pr ++ [.tup [xs[k], xs[k]]]), .val (.tup xs), .val (.tup xs), .val (.int k)]) (st1 := st') ?_
            simp [exSs, exS, evE, evEs, evT, Pv.evI, evC, evTg, evTgs, evO, vv, up, one, retE, Option.bind_eq_bind, Option.bind_some, Option.map_some, Option.pure_def, List.getElem?_cons_zero, List.getElem?_cons_succ, List.set_cons_zero, List.set_cons_succ, asgN, asgSub, setIx, opD, addD, mulD, biD, cmpD, ixD, ixL, lenD, slotSeq, slotLst, truD, List.length_cons, List.length_nil, if_true, if_false, Bool.false_eq_true, reduceIte, mthHR, mthR, mtD, slD, seqOf, wipeE, Tgs.len, Pv.unpack, Option.map_none, Option.bind_none, augD, revD, List.map_cons, List.map_nil, isiD, ty, List.any_cons, List.any_nil, hat, hlim, show (2 : Nat) ≤ lim by decide])
          ⟨s5, by simp, rfl⟩
        rw [rng_len] at e1
        have tk : (xs.take (0 + (rngL 0 xs.length 1).length)) = xs := by rw [rng_len]; simp
        obtain ⟨ρ', e'⟩ := same_loop hk st1 a b n (init ++ xs) (.val (.tup xs)) (.val (.tup xs)) s (by rw [wtL_app]; omega) (by rw [wtL_app]; omega) (fun x hx => (List.mem_append.mp hx).elim (hi x) (hxs x))
        refine ⟨ρ', ?_⟩
        rw [← e', List.map_append (l₁ := init) (l₂ := xs)]
        rw [show 0 + ((xs.length : Int) - 0).toNat = xs.length by omega, List.take_length] at e1
        have body : exSs P law_same_b2 [.val a, .val b, .own ((init ++ [D.tup xs]).map pr), s3, s4, s5] st1 = some (.nx, [.val a, .val b, .own (init.map pr ++ xs.map pr), .val (.tup xs), .val (.tup xs), s], st1) := by
          refine (sq pop).trans ?_
          refine sq1 (ex_it (t := true) (by simp [exSs, exS, evE, evEs, evT, Pv.evI, evC, evTg, evTgs, evO, vv, up, one, retE, Option.bind_eq_bind, Option.bind_some, Option.map_some, Option.pure_def, List.getElem?_cons_zero, List.getElem?_cons_succ, List.set_cons_zero, List.set_cons_succ, asgN, asgSub, setIx, opD, addD, mulD, biD, cmpD, ixD, ixL, lenD, slotSeq, slotLst, truD, List.length_cons, List.length_nil, if_true, if_false, Bool.false_eq_true, reduceIte, mthHR, mthR, mtD, slD, seqOf, wipeE, Tgs.len, Pv.unpack, Option.map_none, Option.bind_none, augD, revD, List.map_cons, List.map_nil, isiD, ty, List.any_cons, List.any_nil]; exact ⟨rfl, rfl⟩) ?_)
          simp only [if_true]
          refine (sq (ex_it (t := false) (by simp [exSs, exS, evE, evEs, evT, Pv.evI, evC, evTg, evTgs, evO, vv, up, one, retE, Option.bind_eq_bind, Option.bind_some, Option.map_some, Option.pure_def, List.getElem?_cons_zero, List.getElem?_cons_succ, List.set_cons_zero, List.set_cons_succ, asgN, asgSub, setIx, opD, addD, mulD, biD, cmpD, ixD, ixL, lenD, slotSeq, slotLst, truD, List.length_cons, List.length_nil, if_true, if_false, Bool.false_eq_true, reduceIte, mthHR, mthR, mtD, slD, seqOf, wipeE, Tgs.len, Pv.unpack, Option.map_none, Option.bind_none, augD, revD, List.map_cons, List.map_nil, isiD, ty, List.any_cons, List.any_nil, sh, eqv_int]; exact ⟨rfl, rfl⟩) rfl)).trans ?_
          have hr : evI P (.rng (.cons (.lenv 4) .nil)) [.val a, .val b, .own (init.map pr), .val (.tup xs), .val (.tup xs), s5] st1 = some (rngL 0 xs.length 1, [.val a, .val b, .own (init.map pr), .val (.tup xs), .val (.tup xs), s5], st1) := by
            simp [exSs, exS, evE, evEs, evT, Pv.evI, evC, evTg, evTgs, evO, vv, up, one, retE, Option.bind_eq_bind, Option.bind_some, Option.map_some, Option.pure_def, List.getElem?_cons_zero, List.getElem?_cons_succ, List.set_cons_zero, List.set_cons_succ, asgN, asgSub, setIx, opD, addD, mulD, biD, cmpD, ixD, ixL, lenD, slotSeq, slotLst, truD, List.length_cons, List.length_nil, if_true, if_false, Bool.false_eq_true, reduceIte, mthHR, mthR, mtD, slD, seqOf, wipeE, Tgs.len, Pv.unpack, Option.map_none, Option.bind_none, augD, revD, List.map_cons, List.map_nil, isiD, ty, List.any_cons, List.any_nil, rngD1 (n := xs.length) (by omega) (by omega)]
          exact sq1 (ex_for hr e1)
        simp only [whlL, cT, body, Option.bind_eq_bind, Option.bind_some, if_true]
      · have hn : ∀ xs, d ≠ .tup xs := fun xs z => ht ⟨xs, z⟩
        have kd := hk st d hd hn
        have fl : (ty d == "tuple") = false ∧ (ty d == "list") = false ∧ (ty d == "dict") = false ∧ ∀ ns, d ≠ .scr ns := by
          cases hd with
          | non => exact ⟨rfl, rfl, rfl, fun _ z => by cases z⟩
          | int i => exact ⟨rfl, rfl, rfl, fun _ z => by cases z⟩
          | tup h => exact absurd rfl (hn _)
        have hw : 1 ≤ wtL [d] := by have := wt_pos d; simp [wtL]; omega
        obtain ⟨ρ', e'⟩ := same_loop hk st a b n init (.val d) (.val d) s5 (by omega) (by omega) hi
        refine ⟨ρ', ?_⟩
        rw [← e']
        have body : exSs P law_same_b2 [.val a, .val b, .own ((init ++ [d]).map pr), s3, s4, s5] st = some (.nx, [.val a, .val b, .own (init.map pr), .val d, .val d, s5], st) := by
          refine (sq pop).trans ?_
          have t1 : evT P (.e (.isi (.v 4) ["tuple"] false)) [.val a, .val b, .own (init.map pr), .val d, .val d, s5] st = some (false, [.val a, .val b, .own (init.map pr), .val d, .val d, s5], st) := by
            cases hd with
            | non => simp [exSs, exS, evE, evEs, evT, Pv.evI, evC, evTg, evTgs, evO, vv, up, one, retE, Option.bind_eq_bind, Option.bind_some, Option.map_some, Option.pure_def, List.getElem?_cons_zero, List.getElem?_cons_succ, List.set_cons_zero, List.set_cons_succ, asgN, asgSub, setIx, opD, addD, mulD, biD, cmpD, ixD, ixL, lenD, slotSeq, slotLst, truD, List.length_cons, List.length_nil, if_true, if_false, Bool.false_eq_true, reduceIte, mthHR, mthR, mtD, slD, seqOf, wipeE, Tgs.len, Pv.unpack, Option.map_none, Option.bind_none, augD, revD, List.map_cons, List.map_nil, isiD, ty, List.any_cons, List.any_nil]
            | int i => simp [exSs, exS, evE, evEs, evT, Pv.evI, evC, evTg, evTgs, evO, vv, up, one, retE, Option.bind_eq_bind, Option.bind_some, Option.map_some, Option.pure_def, List.getElem?_cons_zero, List.getElem?_cons_succ, List.set_cons_zero, List.set_cons_succ, asgN, asgSub, setIx, opD, addD, mulD, biD, cmpD, ixD, ixL, lenD, slotSeq, slotLst, truD, List.length_cons, List.length_nil, if_true, if_false, Bool.false_eq_true, reduceIte, mthHR, mthR, mtD, slD, seqOf, wipeE, Tgs.len, Pv.unpack, Option.map_none, Option.bind_none, augD, revD, List.map_cons, List.map_nil, isiD, ty, List.any_cons, List.any_nil]
            | tup h => exact absurd rfl (hn _)
          have t2 : evT P (.or (.e (.isi (.v 3) ["tuple", "list", "dict"] true)) (.nt (.e (.call "_law_is_kind" (.cons (.v 3) (.cons (.v 4) .nil)))))) [.val a, .val b, .own (init.map pr), .val d, .val d, s5] st = some (false, [.val a, .val b, .own (init.map pr), .val d, .val d, s5], st) := by
            cases hd with
            | non => simp [exSs, exS, evE, evEs, evT, Pv.evI, evC, evTg, evTgs, evO, vv, up, one, retE, Option.bind_eq_bind, Option.bind_some, Option.map_some, Option.pure_def, List.getElem?_cons_zero, List.getElem?_cons_succ, List.set_cons_zero, List.set_cons_succ, asgN, asgSub, setIx, opD, addD, mulD, biD, cmpD, ixD, ixL, lenD, slotSeq, slotLst, truD, List.length_cons, List.length_nil, if_true, if_false, Bool.false_eq_true, reduceIte, mthHR, mthR, mtD, slD, seqOf, wipeE, Tgs.len, Pv.unpack, Option.map_none, Option.bind_none, augD, revD, List.map_cons, List.map_nil, isiD, ty, List.any_cons, List.any_nil, kd]
            | int i => simp [exSs, exS, evE, evEs, evT, Pv.evI, evC, evTg, evTgs, evO, vv, up, one, retE, Option.bind_eq_bind, Option.bind_some, Option.map_some, Option.pure_def, List.getElem?_cons_zero, List.getElem?_cons_succ, List.set_cons_zero, List.set_cons_succ, asgN, asgSub, setIx, opD, addD, mulD, biD, cmpD, ixD, ixL, lenD, slotSeq, slotLst, truD, List.length_cons, List.length_nil, if_true, if_false, Bool.false_eq_true, reduceIte, mthHR, mthR, mtD, slD, seqOf, wipeE, Tgs.len, Pv.unpack, Option.map_none, Option.bind_none, augD, revD, List.map_cons, List.map_nil, isiD, ty, List.any_cons, List.any_nil, kd]
            | tup h => exact absurd rfl (hn _)
          refine sq1 (ex_it t1 ?_)
          simp only [Bool.false_eq_true, if_false]
          exact sq1 (ex_it t2 (by simp only [Bool.false_eq_true, if_false, exSs]))
        simp only [whlL, cT, body, Option.bind_eq_bind, Option.bind_some, if_true]
theorem same_ok {P : Tb} (hk : KindOk P) (ps : List Str) (hp : ps.length = 2) (st : Sto) {d : D} (h : Pl d) (hw : wt d < 99999) : runF P ⟨ps, 6, h_same⟩ [d, d] st = some (false, .bl true, st) := by
  obtain ⟨ρ', e⟩ := same_loop hk st d d fuel [d] .no .no .no (by simp [wtL]; unfold fuel; omega) (by simp [wtL]; omega) (fun x hx => by rw [List.mem_singleton.mp hx]; exact h)
  refine run_rt (ρ1 := ρ') (n := 4) (by simp [hp]) (by simp [hp]) ?_
  refine (sq (ρ1 := [.val d, .val d, .own [pr d], .no, .no, .no]) (st1 := st) (by simp [exSs, exS, evE, evEs, evT, Pv.evI, evC, evTg, evTgs, evO, vv, up, one, retE, Option.bind_eq_bind, Option.bind_some, Option.map_some, Option.pure_def, List.getElem?_cons_zero, List.getElem?_cons_succ, List.set_cons_zero, List.set_cons_succ, asgN, asgSub, setIx, opD, addD, mulD, biD, cmpD, ixD, ixL, lenD, slotSeq, slotLst, truD, List.length_cons, List.length_nil, if_true, if_false, Bool.false_eq_true, reduceIte, mthHR, mthR, mtD, slD, seqOf, wipeE, Tgs.len, Pv.unpack, Option.map_none, Option.bind_none, augD, revD, List.map_cons, List.map_nil, isiD, ty, List.any_cons, List.any_nil, pr, show (2 : Nat) ≤ lim by decide, show (1 : Nat) ≤ lim by decide])).trans ?_
  refine (sq (ex_whl e)).trans ?_
  exact sqr (by simp [exSs, exS, evE, evEs, evT, Pv.evI, evC, evTg, evTgs, evO, vv, up, one, retE, Option.bind_eq_bind, Option.bind_some, Option.map_some, Option.pure_def, List.getElem?_cons_zero, List.getElem?_cons_succ, List.set_cons_zero, List.set_cons_succ, asgN, asgSub, setIx, opD, addD, mulD, biD, cmpD, ixD, ixL, lenD, slotSeq, slotLst, truD, List.length_cons, List.length_nil, if_true, if_false, Bool.false_eq_true, reduceIte, mthHR, mthR, mtD, slD, seqOf, wipeE, Tgs.len, Pv.unpack, Option.map_none, Option.bind_none, augD, revD, List.map_cons, List.map_nil, isiD, ty, List.any_cons, List.any_nil])
/-! ### all -/
def SameOk (P : Tb) : Prop := ∀ (st : Sto) (d : D), Pl d → wt d < 99999 → P.F "_law_same" [d, d] st = some (false, .bl true, st)
def Prs (xs : List D) : Prop := ∀ x ∈ xs, ∃ d, x = pr d ∧ Pl d ∧ wt d < 99999
theorem all_loop {P : Tb} (hs : SameOk P) (a : Sl) (st : Sto) : ∀ (xs : List D), Prs xs → lcL (evTg P (.tup (.cons (.n 1) (.cons (.n 2) .nil)))) (evC P (.so law_all_c1)) (fun ρ st => vv (evE P law_all_e0 ρ st)) [1, 2] xs [] [a, .no, .no] st = some ([], [a, .no, .no], st)
  | [], _ => rfl
  | x :: xs, h => by
    obtain ⟨d, rfl, hd, hw⟩ := h x List.mem_cons_self
    have ih := all_loop hs a st xs fun y hy => h y (List.mem_cons_of_mem _ hy)
    have e1 : evTg P (.tup (.cons (.n 1) (.cons (.n 2) .nil))) (pr d) [a, .no, .no] st = some ([a, .val d, .val d], st) := by
      simp [exSs, exS, evE, evEs, evT, Pv.evI, evC, evTg, evTgs, evO, vv, up, one, retE, Option.bind_eq_bind, Option.bind_some, Option.map_some, Option.pure_def, List.getElem?_cons_zero, List.getElem?_cons_succ, List.set_cons_zero, List.set_cons_succ, asgN, asgSub, setIx, opD, addD, mulD, biD, cmpD, ixD, ixL, lenD, slotSeq, slotLst, truD, List.length_cons, List.length_nil, if_true, if_false, Bool.false_eq_true, reduceIte, mthHR, mthR, mtD, slD, seqOf, wipeE, Tgs.len, Pv.unpack, Option.map_none, Option.bind_none, augD, revD, List.map_cons, List.map_nil, isiD, ty, List.any_cons, List.any_nil, evTgs, pr]
    have e2 : evC P (.so law_all_c1) [a, .val d, .val d] st = some (false, [a, .val d, .val d], st) := by
      simp [law_all_c1, exSs, exS, evE, evEs, evT, Pv.evI, evC, evTg, evTgs, evO, vv, up, one, retE, Option.bind_eq_bind, Option.bind_some, Option.map_some, Option.pure_def, List.getElem?_cons_zero, List.getElem?_cons_succ, List.set_cons_zero, List.set_cons_succ, asgN, asgSub, setIx, opD, addD, mulD, biD, cmpD, ixD, ixL, lenD, slotSeq, slotLst, truD, List.length_cons, List.length_nil, if_true, if_false, Bool.false_eq_true, reduceIte, mthHR, mthR, mtD, slD, seqOf, wipeE, Tgs.len, Pv.unpack, Option.map_none, Option.bind_none, augD, revD, List.map_cons, List.map_nil, isiD, ty, List.any_cons, List.any_nil, hs st d hd hw]
    simp only [lcL, e1, e2, Option.bind_eq_bind, Option.bind_some, Bool.false_eq_true, if_false, wipeE, List.set_cons_zero, List.set_cons_succ]
    exact ih
theorem all_ok {P : Tb} (hs : SameOk P) (ps : List Str) (hp : ps.length = 1) (st : Sto) {xs : List D} (h : Prs xs) : runF P ⟨ps, 3, h_all⟩ [.lst xs] st = some (false, .bl true, st) := by
  refine run_rt (ρ1 := [.val (.lst xs), .no, .no]) (n := 2) (by simp [hp]) (by simp [hp]) ?_
  have e : evE P (.lc law_all_e0 (.tup (.cons (.n 1) (.cons (.n 2) .nil))) (.val (.v 0)) (.so law_all_c1) [("told", 1), ("due", 2)]) [.val (.lst xs), .no, .no] st = some (true, .lst [], [.val (.lst xs), .no, .no], st) :=
    ev_lc (xs := xs) (ρ1 := [.val (.lst xs), .no, .no]) (st1 := st) (by simp [exSs, exS, evE, evEs, evT, Pv.evI, evC, evTg, evTgs, evO, vv, up, one, retE, Option.bind_eq_bind, Option.bind_some, Option.map_some, Option.pure_def, List.getElem?_cons_zero, List.getElem?_cons_succ, List.set_cons_zero, List.set_cons_succ, asgN, asgSub, setIx, opD, addD, mulD, biD, cmpD, ixD, ixL, lenD, slotSeq, slotLst, truD, List.length_cons, List.length_nil, if_true, if_false, Bool.false_eq_true, reduceIte, mthHR, mthR, mtD, slD, seqOf, wipeE, Tgs.len, Pv.unpack, Option.map_none, Option.bind_none, augD, revD, List.map_cons, List.map_nil, isiD, ty, List.any_cons, List.any_nil]) (all_loop hs _ st xs h)
  unfold h_all
  generalize E.lc law_all_e0 _ _ _ _ = LC at e ⊢
  exact sqr (by simp [e, exSs, exS, evE, evEs, evT, Pv.evI, evC, evTg, evTgs, evO, vv, up, one, retE, Option.bind_eq_bind, Option.bind_some, Option.map_some, Option.pure_def, List.getElem?_cons_zero, List.getElem?_cons_succ, List.set_cons_zero, List.set_cons_succ, asgN, asgSub, setIx, opD, addD, mulD, biD, cmpD, ixD, ixL, lenD, slotSeq, slotLst, truD, List.length_cons, List.length_nil, if_true, if_false, Bool.false_eq_true, reduceIte, mthHR, mthR, mtD, slD, seqOf, wipeE, Tgs.len, Pv.unpack, Option.map_none, Option.bind_none, augD, revD, List.map_cons, List.map_nil, isiD, ty, List.any_cons, List.any_nil, sh, eqv_int])
/-! ### the deal -/
def allI (xs : List D) : Prop := ∀ x ∈ xs, ∃ i : Int, x = .int i
def nats (xs : List D) : Prop := ∀ x ∈ xs, ∃ i : Int, x = .int i ∧ 0 ≤ i
theorem nats_map {xs : List D} (h : nats xs) : ∃ cs : List Int, xs = cs.map D.int ∧ ∀ c ∈ cs, 0 ≤ c := by
  induction xs with
  | nil => exact ⟨[], rfl, fun _ h => by cases h⟩
  | cons x xs ih =>
    obtain ⟨cs, e, hc⟩ := ih fun y hy => h y (List.mem_cons_of_mem _ hy)
    obtain ⟨i, rfl, h0⟩ := h x List.mem_cons_self
    exact ⟨i :: cs, by rw [e]; rfl, fun c hc' => (List.mem_cons.mp hc').elim (fun z => by rw [z]; exact h0) (hc c)⟩
def mostV : Int := 10 ^ 384
theorem deal_cells {P : Tb} (a b : Sl) (st : Sto) : ∀ (xs acc : List D), allI xs → nats acc → acc.length + xs.length ≤ 63 → ∃ acc', lcL (evTg P (.n 5)) (evC P .no) (fun ρ st => vv (evE P law_deal_e3 ρ st)) [5] xs acc [a, b, .val (.int mostV), .no, .no, .no] st = some (acc', [a, b, .val (.int mostV), .no, .no, .no], st) ∧ nats acc' ∧ acc'.length ≤ 63
  | [], acc, _, h, hl => ⟨acc, rfl, h, hl⟩
  | x :: xs, acc, hx, h, hl => by
    obtain ⟨i, rfl⟩ := hx x List.mem_cons_self
    rw [List.length_cons] at hl
    have hm : 0 < mostV := by unfold mostV; decide
    obtain ⟨acc', e, h1, h2⟩ := deal_cells (P := P) a b st xs (acc ++ [.int ((if i < 0 then -i else i) % mostV)]) (fun y hy => hx y (List.mem_cons_of_mem _ hy)) (fun y hy => (List.mem_append.mp hy).elim (h y) fun z => ⟨_, List.mem_singleton.mp z, Int.emod_nonneg _ (by omega)⟩) (by simp; omega)
    refine ⟨acc', ?_, h1, h2⟩
    rw [← e]
    have hlt : acc.length < lim := by unfold lim; omega
    have e1 : evTg P (.n 5) (.int i) [a, b, .val (.int mostV), .no, .no, .no] st = some ([a, b, .val (.int mostV), .no, .no, .val (.int i)], st) := by simp [exSs, exS, evE, evEs, evT, Pv.evI, evC, evTg, evTgs, evO, vv, up, one, retE, Option.bind_eq_bind, Option.bind_some, Option.map_some, Option.pure_def, List.getElem?_cons_zero, List.getElem?_cons_succ, List.set_cons_zero, List.set_cons_succ, asgN, asgSub, setIx, opD, addD, mulD, biD, cmpD, ixD, ixL, lenD, slotSeq, slotLst, truD, List.length_cons, List.length_nil, if_true, if_false, Bool.false_eq_true, reduceIte, mthHR, mthR, mtD, slD, seqOf, wipeE, Tgs.len, Pv.unpack, Option.map_none, Option.bind_none, augD, revD, List.map_cons, List.map_nil, isiD, ty, List.any_cons, List.any_nil]
    have e2 : vv (evE P law_deal_e3 [a, b, .val (.int mostV), .no, .no, .val (.int i)] st) = some (.int ((if i < 0 then -i else i) % mostV), [a, b, .val (.int mostV), .no, .no, .val (.int i)], st) := by
      simp [law_deal_e3, exSs, exS, evE, evEs, evT, Pv.evI, evC, evTg, evTgs, evO, vv, up, one, retE, Option.bind_eq_bind, Option.bind_some, Option.map_some, Option.pure_def, List.getElem?_cons_zero, List.getElem?_cons_succ, List.set_cons_zero, List.set_cons_succ, asgN, asgSub, setIx, opD, addD, mulD, biD, cmpD, ixD, ixL, lenD, slotSeq, slotLst, truD, List.length_cons, List.length_nil, if_true, if_false, Bool.false_eq_true, reduceIte, mthHR, mthR, mtD, slD, seqOf, wipeE, Tgs.len, Pv.unpack, Option.map_none, Option.bind_none, augD, revD, List.map_cons, List.map_nil, isiD, ty, List.any_cons, List.any_nil, hm]
    simp only [lcL, e1, e2, evC, Option.bind_eq_bind, Option.bind_some, if_true, hlt, wipeE, List.set_cons_zero, List.set_cons_succ]
theorem deal_mix {P : Tb} (a b c d : Sl) (st : Sto) : ∀ (xs : List D) (mix : Int) (s : Sl), nats xs → 0 ≤ mix → mix < 2147483647 → ∃ mix' s', forL (evTg P (.n 5)) (exSs P law_deal_b2) xs [a, b, c, d, .val (.int mix), s] st = some (.nx, [a, b, c, d, .val (.int mix'), s'], st) ∧ 0 ≤ mix' ∧ mix' < 2147483647
  | [], mix, s, _, h0, h1 => ⟨mix, s, rfl, h0, h1⟩
  | x :: xs, mix, s, hx, h0, h1 => by
    obtain ⟨i, rfl, hi⟩ := hx x List.mem_cons_self
    have q0 : 0 ≤ (mix * 69621 + i % 2147483563 + 23) % 2147483647 := Int.emod_nonneg _ (by decide)
    have q1 : (mix * 69621 + i % 2147483563 + 23) % 2147483647 < 2147483647 := Int.emod_lt_of_pos _ (by decide)
    obtain ⟨mix', s', e, h2, h3⟩ := deal_mix (P := P) a b c d st xs ((mix * 69621 + i % 2147483563 + 23) % 2147483647) (.val (.int i)) (fun y hy => hx y (List.mem_cons_of_mem _ hy)) q0 q1
    refine ⟨mix', s', ?_, h2, h3⟩
    rw [← e]
    have hbm : Big mix := big_small (by omega)
    have hbk : Big 69621 := by decide
    have e1 : evTg P (.n 5) (.int i) [a, b, c, d, .val (.int mix), s] st = some ([a, b, c, d, .val (.int mix), .val (.int i)], st) := by simp [exSs, exS, evE, evEs, evT, Pv.evI, evC, evTg, evTgs, evO, vv, up, one, retE, Option.bind_eq_bind, Option.bind_some, Option.map_some, Option.pure_def, List.getElem?_cons_zero, List.getElem?_cons_succ, List.set_cons_zero, List.set_cons_succ, asgN, asgSub, setIx, opD, addD, mulD, biD, cmpD, ixD, ixL, lenD, slotSeq, slotLst, truD, List.length_cons, List.length_nil, if_true, if_false, Bool.false_eq_true, reduceIte, mthHR, mthR, mtD, slD, seqOf, wipeE, Tgs.len, Pv.unpack, Option.map_none, Option.bind_none, augD, revD, List.map_cons, List.map_nil, isiD, ty, List.any_cons, List.any_nil]
    have e2 : exSs P law_deal_b2 [a, b, c, d, .val (.int mix), .val (.int i)] st = some (.nx, [a, b, c, d, .val (.int ((mix * 69621 + i % 2147483563 + 23) % 2147483647)), .val (.int i)], st) := by
      unfold law_deal_b2
      exact sq1 (by simp [exSs, exS, evE, evEs, evT, Pv.evI, evC, evTg, evTgs, evO, vv, up, one, retE, Option.bind_eq_bind, Option.bind_some, Option.map_some, Option.pure_def, List.getElem?_cons_zero, List.getElem?_cons_succ, List.set_cons_zero, List.set_cons_succ, asgN, asgSub, setIx, opD, addD, mulD, biD, cmpD, ixD, ixL, lenD, slotSeq, slotLst, truD, List.length_cons, List.length_nil, if_true, if_false, Bool.false_eq_true, reduceIte, mthHR, mthR, mtD, slD, seqOf, wipeE, Tgs.len, Pv.unpack, Option.map_none, Option.bind_none, augD, revD, List.map_cons, List.map_nil, isiD, ty, List.any_cons, List.any_nil, hbm, hbk])
    simp only [forL, e1, e2, Option.bind_eq_bind, Option.bind_some]
theorem deal_big {P : Tb} (a b c d m : Sl) (st : Sto) : ∀ (xs acc : List D), nats xs → nats acc → acc.length + xs.length ≤ 63 → ∃ acc', lcL (evTg P (.n 5)) (evC P (.so law_deal_c1)) (fun ρ st => vv (evE P law_deal_e0 ρ st)) [5] xs acc [a, b, c, d, m, .no] st = some (acc', [a, b, c, d, m, .no], st) ∧ nats acc' ∧ acc'.length ≤ 63
  | [], acc, _, h, hl => ⟨acc, rfl, h, hl⟩
  | x :: xs, acc, hx, h, hl => by
    obtain ⟨i, rfl, hi⟩ := hx x List.mem_cons_self
    rw [List.length_cons] at hl
    have hlt : acc.length < lim := by unfold lim; omega
    have e1 : evTg P (.n 5) (.int i) [a, b, c, d, m, .no] st = some ([a, b, c, d, m, .val (.int i)], st) := by simp [exSs, exS, evE, evEs, evT, Pv.evI, evC, evTg, evTgs, evO, vv, up, one, retE, Option.bind_eq_bind, Option.bind_some, Option.map_some, Option.pure_def, List.getElem?_cons_zero, List.getElem?_cons_succ, List.set_cons_zero, List.set_cons_succ, asgN, asgSub, setIx, opD, addD, mulD, biD, cmpD, ixD, ixL, lenD, slotSeq, slotLst, truD, List.length_cons, List.length_nil, if_true, if_false, Bool.false_eq_true, reduceIte, mthHR, mthR, mtD, slD, seqOf, wipeE, Tgs.len, Pv.unpack, Option.map_none, Option.bind_none, augD, revD, List.map_cons, List.map_nil, isiD, ty, List.any_cons, List.any_nil]
    have e2 : evC P (.so law_deal_c1) [a, b, c, d, m, .val (.int i)] st = some (decide ((1000000000000000000 : Int) ≤ i), [a, b, c, d, m, .val (.int i)], st) := by
      simp [law_deal_c1, exSs, exS, evE, evEs, evT, Pv.evI, evC, evTg, evTgs, evO, vv, up, one, retE, Option.bind_eq_bind, Option.bind_some, Option.map_some, Option.pure_def, List.getElem?_cons_zero, List.getElem?_cons_succ, List.set_cons_zero, List.set_cons_succ, asgN, asgSub, setIx, opD, addD, mulD, biD, cmpD, ixD, ixL, lenD, slotSeq, slotLst, truD, List.length_cons, List.length_nil, if_true, if_false, Bool.false_eq_true, reduceIte, mthHR, mthR, mtD, slD, seqOf, wipeE, Tgs.len, Pv.unpack, Option.map_none, Option.bind_none, augD, revD, List.map_cons, List.map_nil, isiD, ty, List.any_cons, List.any_nil]
    have e3 : vv (evE P law_deal_e0 [a, b, c, d, m, .val (.int i)] st) = some (.int i, [a, b, c, d, m, .val (.int i)], st) := by
      simp [law_deal_e0, exSs, exS, evE, evEs, evT, Pv.evI, evC, evTg, evTgs, evO, vv, up, one, retE, Option.bind_eq_bind, Option.bind_some, Option.map_some, Option.pure_def, List.getElem?_cons_zero, List.getElem?_cons_succ, List.set_cons_zero, List.set_cons_succ, asgN, asgSub, setIx, opD, addD, mulD, biD, cmpD, ixD, ixL, lenD, slotSeq, slotLst, truD, List.length_cons, List.length_nil, if_true, if_false, Bool.false_eq_true, reduceIte, mthHR, mthR, mtD, slD, seqOf, wipeE, Tgs.len, Pv.unpack, Option.map_none, Option.bind_none, augD, revD, List.map_cons, List.map_nil, isiD, ty, List.any_cons, List.any_nil]
    by_cases hc : (1000000000000000000 : Int) ≤ i
    · obtain ⟨acc', e, h1, h2⟩ := deal_big (P := P) a b c d m st xs (acc ++ [.int i]) (fun y hy => hx y (List.mem_cons_of_mem _ hy)) (fun y hy => (List.mem_append.mp hy).elim (h y) fun z => ⟨_, List.mem_singleton.mp z, hi⟩) (by simp; omega)
      refine ⟨acc', ?_, h1, h2⟩
      rw [← e]
      simp only [lcL, e1, e2, e3, decide_eq_true hc, Option.bind_eq_bind, Option.bind_some, if_true, hlt, wipeE, List.set_cons_zero, List.set_cons_succ]
    · obtain ⟨acc', e, h1, h2⟩ := deal_big (P := P) a b c d m st xs acc (fun y hy => hx y (List.mem_cons_of_mem _ hy)) h (by omega)
      refine ⟨acc', ?_, h1, h2⟩
      rw [← e]
      simp only [lcL, e1, e2, decide_eq_false hc, Option.bind_eq_bind, Option.bind_some, Bool.false_eq_true, if_false, wipeE, List.set_cons_zero, List.set_cons_succ]
theorem cut_len (ns : List Int) (h : ns.length ≤ 63) : cutI ns none (some 63) = ns := by
  unfold cutI
  rw [HT.sIx_none, show HT.sIx ns.length ns.length (some 63) = min 63 ns.length from HT.sIx_nat _ _ 63, List.drop_zero, Nat.sub_zero, List.take_of_length_le (by omega)]
theorem deal_ok {P : Tb} (ps : List Str) (hp : ps.length = 2) (ns : List Int) (hl : ns.length ≤ 63) {salt : Int} (h0 : 0 ≤ salt) (h1 : salt < 100000) : ∃ st, runF P ⟨ps, 6, h_deal⟩ [.scr ns, .int salt] [] = some (false, .hd 1, st) ∧ Deal st := by
  obtain ⟨cs, e3, hn, hcl⟩ := deal_cells (P := P) (.val (.scr ns)) (.val (.int salt)) [] (ns.map D.int) [] (fun x hx => by
    obtain ⟨i, _, rfl⟩ := List.mem_map.mp hx; exact ⟨i, rfl⟩) (fun _ h => by cases h) (by simpa using hl)
  obtain ⟨mix, s, e5, m0, m1⟩ := deal_mix (P := P) (.val (.scr ns)) (.val (.int salt)) (.val (.int mostV)) (.val (.lst cs)) [] cs (70001 + 7919 * salt) .no hn (by omega) (by omega)
  obtain ⟨bs, e6, hb, hbl⟩ := deal_big (P := P) (.val (.scr ns)) (.val (.int salt)) (.val (.int mostV)) (.val (.lst cs)) (.val (.int mix)) [] cs [] hn (fun _ h => by cases h) (by simpa using hcl)
  obtain ⟨is, rfl, hi⟩ := nats_map hb
  refine ⟨[is.reverse.map D.int, [.hd 0, .int mix]], ?_, is.reverse, mix, rfl, by simpa using hbl, fun c hc => hi c (by simpa using hc), m0, m1⟩
  have hbs : Big salt := big_small (by omega)
  have hb7 : Big 7919 := by decide
  refine run_rt (ρ1 := [.val (.scr ns), .val (.int salt), .val (.int mostV), .val (.lst cs), .val (.int mix), .no]) (n := 4) (by simp [hp]) (by simp [hp]) ?_
  unfold h_deal
  refine (sq (ρ1 := [.val (.scr ns), .val (.int salt), .val (.int mostV), .no, .no, .no]) (st1 := []) rfl).trans ?_
  have l1 : evE P (.lc law_deal_e3 (.n 5) (.val (.sl (.v 0) .no (.so (.k (.int 63))))) .no [("cell", 5)]) [.val (.scr ns), .val (.int salt), .val (.int mostV), .no, .no, .no] [] = some (true, .lst cs, [.val (.scr ns), .val (.int salt), .val (.int mostV), .no, .no, .no], []) :=
    ev_lc (xs := ns.map D.int) (ρ1 := [.val (.scr ns), .val (.int salt), .val (.int mostV), .no, .no, .no]) (st1 := []) (by simp [exSs, exS, evE, evEs, evT, Pv.evI, evC, evTg, evTgs, evO, vv, up, one, retE, Option.bind_eq_bind, Option.bind_some, Option.map_some, Option.pure_def, List.getElem?_cons_zero, List.getElem?_cons_succ, List.set_cons_zero, List.set_cons_succ, asgN, asgSub, setIx, opD, addD, mulD, biD, cmpD, ixD, ixL, lenD, slotSeq, slotLst, truD, List.length_cons, List.length_nil, if_true, if_false, Bool.false_eq_true, reduceIte, mthHR, mthR, mtD, slD, seqOf, wipeE, Tgs.len, Pv.unpack, Option.map_none, Option.bind_none, augD, revD, List.map_cons, List.map_nil, isiD, ty, List.any_cons, List.any_nil, cut_len ns hl]) e3
  generalize E.lc law_deal_e3 _ _ _ _ = LC at l1 ⊢
  refine (sq (ρ1 := [.val (.scr ns), .val (.int salt), .val (.int mostV), .own cs, .no, .no]) (st1 := []) (by simp [exSs, exS, evE, evEs, evT, Pv.evI, evC, evTg, evTgs, evO, vv, up, one, retE, Option.bind_eq_bind, Option.bind_some, Option.map_some, Option.pure_def, List.getElem?_cons_zero, List.getElem?_cons_succ, List.set_cons_zero, List.set_cons_succ, asgN, asgSub, setIx, opD, addD, mulD, biD, cmpD, ixD, ixL, lenD, slotSeq, slotLst, truD, List.length_cons, List.length_nil, if_true, if_false, Bool.false_eq_true, reduceIte, mthHR, mthR, mtD, slD, seqOf, wipeE, Tgs.len, Pv.unpack, Option.map_none, Option.bind_none, augD, revD, List.map_cons, List.map_nil, isiD, ty, List.any_cons, List.any_nil, l1])).trans ?_
  refine (sq (ρ1 := [.val (.scr ns), .val (.int salt), .val (.int mostV), .own cs, .val (.int (70001 + 7919 * salt)), .no]) (st1 := []) (by simp [exSs, exS, evE, evEs, evT, Pv.evI, evC, evTg, evTgs, evO, vv, up, one, retE, Option.bind_eq_bind, Option.bind_some, Option.map_some, Option.pure_def, List.getElem?_cons_zero, List.getElem?_cons_succ, List.set_cons_zero, List.set_cons_succ, asgN, asgSub, setIx, opD, addD, mulD, biD, cmpD, ixD, ixL, lenD, slotSeq, slotLst, truD, List.length_cons, List.length_nil, if_true, if_false, Bool.false_eq_true, reduceIte, mthHR, mthR, mtD, slD, seqOf, wipeE, Tgs.len, Pv.unpack, Option.map_none, Option.bind_none, augD, revD, List.map_cons, List.map_nil, isiD, ty, List.any_cons, List.any_nil, hbs, hb7])).trans ?_
  refine (sq (ex_for (xs := cs) (ρ1 := [.val (.scr ns), .val (.int salt), .val (.int mostV), .val (.lst cs), .val (.int (70001 + 7919 * salt)), .no]) (st1 := []) (by simp [exSs, exS, evE, evEs, evT, Pv.evI, evC, evTg, evTgs, evO, vv, up, one, retE, Option.bind_eq_bind, Option.bind_some, Option.map_some, Option.pure_def, List.getElem?_cons_zero, List.getElem?_cons_succ, List.set_cons_zero, List.set_cons_succ, asgN, asgSub, setIx, opD, addD, mulD, biD, cmpD, ixD, ixL, lenD, slotSeq, slotLst, truD, List.length_cons, List.length_nil, if_true, if_false, Bool.false_eq_true, reduceIte, mthHR, mthR, mtD, slD, seqOf, wipeE, Tgs.len, Pv.unpack, Option.map_none, Option.bind_none, augD, revD, List.map_cons, List.map_nil, isiD, ty, List.any_cons, List.any_nil]) e5)).trans ?_
  have l2 : evE P (.lc law_deal_e0 (.n 5) (.val (.v 3)) (.so law_deal_c1) [("cell", 5)]) [.val (.scr ns), .val (.int salt), .val (.int mostV), .val (.lst cs), .val (.int mix), s] [] = some (true, .lst (is.map D.int), [.val (.scr ns), .val (.int salt), .val (.int mostV), .val (.lst cs), .val (.int mix), .no], []) :=
    ev_lc (xs := cs) (ρ1 := [.val (.scr ns), .val (.int salt), .val (.int mostV), .val (.lst cs), .val (.int mix), s]) (st1 := []) (by simp [exSs, exS, evE, evEs, evT, Pv.evI, evC, evTg, evTgs, evO, vv, up, one, retE, Option.bind_eq_bind, Option.bind_some, Option.map_some, Option.pure_def, List.getElem?_cons_zero, List.getElem?_cons_succ, List.set_cons_zero, List.set_cons_succ, asgN, asgSub, setIx, opD, addD, mulD, biD, cmpD, ixD, ixL, lenD, slotSeq, slotLst, truD, List.length_cons, List.length_nil, if_true, if_false, Bool.false_eq_true, reduceIte, mthHR, mthR, mtD, slD, seqOf, wipeE, Tgs.len, Pv.unpack, Option.map_none, Option.bind_none, augD, revD, List.map_cons, List.map_nil, isiD, ty, List.any_cons, List.any_nil]) e6
  generalize E.lc law_deal_e0 _ _ _ _ = LC2 at l2 ⊢
  exact sqr (by simp [exSs, exS, evE, evEs, evT, Pv.evI, evC, evTg, evTgs, evO, vv, up, one, retE, Option.bind_eq_bind, Option.bind_some, Option.map_some, Option.pure_def, List.getElem?_cons_zero, List.getElem?_cons_succ, List.set_cons_zero, List.set_cons_succ, asgN, asgSub, setIx, opD, addD, mulD, biD, cmpD, ixD, ixL, lenD, slotSeq, slotLst, truD, List.length_cons, List.length_nil, if_true, if_false, Bool.false_eq_true, reduceIte, mthHR, mthR, mtD, slD, seqOf, wipeE, Tgs.len, Pv.unpack, Option.map_none, Option.bind_none, augD, revD, List.map_cons, List.map_nil, isiD, ty, List.any_cons, List.any_nil, l2, show (2 : Nat) ≤ lim by decide])
theorem call_of {ds : List DefT} {cs : List (Str × D)} {k : Nat} {d : DefT} (nd : (ds.map (·.nm)).Nodup) (h : d ∈ ds) : callN (progOf ds) (gOf cs) (k + 1) d.nm = runF ⟨callN (progOf ds) (gOf cs) k, gOf cs⟩ ⟨d.ps, d.N.length, d.body⟩ := by
  have pd : progOf ds d.nm = some ⟨d.ps, d.N.length, d.body⟩ := by unfold progOf; rw [find_def nd h]; rfl
  funext args st
  simp only [callN, pd]
end Pv

namespace Pv
open PySem PySem.Spec PyProof.Rows L2
/-! ## typed data, its order -/
section
variable {α : Type} [DecidableEq α]
structure Lin (lt : α → α → Bool) : Prop where
  irr : ∀ a, lt a a = false
  tr : ∀ a b c, lt a b = true → lt b c = true → lt a c = true
  tri : ∀ a b, lt a b = true ∨ a = b ∨ lt b a = true
def lexB (lt : α → α → Bool) : List α → List α → Bool
  | _, [] => false
  | [], _ :: _ => true
  | x :: xs, y :: ys => if x = y then lexB lt xs ys else lt x y
theorem Lin.asym {lt : α → α → Bool} (h : Lin lt) {a b : α} (x : lt a b = true) : lt b a = false := by
  cases y : lt b a with
  | false => rfl
  | true => have := h.tr a b a x y; rw [h.irr] at this; cases this
theorem Lin.anti {lt : α → α → Bool} (h : Lin lt) {a b : α} (x : lt b a = false) (y : lt a b = false) : a = b := by
  rcases h.tri a b with z | z | z
  · rw [y] at z; cases z
  · exact z
  · rw [x] at z; cases z
/-- the weak order is transitive -/
theorem Lin.le_tr {lt : α → α → Bool} (h : Lin lt) {a b c : α} (x : lt b a = false) (y : lt c b = false) : lt c a = false := by
  cases z : lt c a with
  | false => rfl
  | true =>
    rcases h.tri a b with w | w | w
    · have := h.tr c a b z w; rw [y] at this; cases this
    · subst w; rw [y] at z; cases z
    · rw [x] at w; cases w
theorem lexB_lin {lt : α → α → Bool} (h : Lin lt) : Lin (lexB lt) where
  irr := by
    intro a
    induction a with
    | nil => rfl
    | cons x xs ih => simp [lexB, ih]
  tr := by
    intro a
    induction a with
    | nil => intro b c x y; cases c with
      | nil => cases b <;> simp [lexB] at y
      | cons _ _ => rfl
    | cons x xs ih =>
      intro b c p q
      cases b with
      | nil => simp [lexB] at p
      | cons y ys =>
        cases c with
        | nil => simp [lexB] at q
        | cons z zs =>
          simp only [lexB] at p q ⊢
          by_cases e1 : x = y
          · subst e1
            rw [if_pos rfl] at p
            by_cases e2 : x = z
            · subst e2
              rw [if_pos rfl] at q ⊢
              exact ih _ _ p q
            · rw [if_neg e2] at q ⊢; exact q
          · rw [if_neg e1] at p
            by_cases e2 : y = z
            · subst e2
              rw [if_neg e1]; exact p
            · rw [if_neg e2] at q
              have r := h.tr _ _ _ p q
              by_cases e3 : x = z
              · subst e3; rw [h.irr] at r; cases r
              · rw [if_neg e3]; exact r
  tri := by
    intro a
    induction a with
    | nil => intro b; cases b with
      | nil => exact .inr (.inl rfl)
      | cons _ _ => exact .inl rfl
    | cons x xs ih =>
      intro b
      cases b with
      | nil => exact .inr (.inr rfl)
      | cons y ys =>
        simp only [lexB]
        by_cases e : x = y
        · subst e
          rw [if_pos rfl, if_pos rfl]
          rcases ih ys with z | z | z
          · exact .inl z
          · exact .inr (.inl (by rw [z]))
          · exact .inr (.inr z)
        · rw [if_neg e, if_neg (fun z => e z.symm)]
          rcases h.tri x y with z | z | z
          · exact .inl z
          · exact absurd z e
          · exact .inr (.inr z)
def srt (lt : α → α → Bool) (xs : List α) : List α := xs.mergeSort fun a b => !lt b a
theorem srt_perm (lt : α → α → Bool) (xs : List α) : (srt lt xs).Perm xs := List.mergeSort_perm _ _
theorem srt_pw {lt : α → α → Bool} (h : Lin lt) (xs : List α) : (srt lt xs).Pairwise fun a b => lt b a = false := by
  have := List.pairwise_mergeSort (le := fun a b => !lt b a) (fun a b c x y => by
    simp only [Bool.not_eq_true'] at x y ⊢; exact h.le_tr x y) (fun a b => by
    rcases h.tri a b with z | z | z
    · simp [h.asym z]
    · subst z; simp [h.irr]
    · simp [h.asym z]) xs
  exact this.imp fun {a b} z => by simpa using z
theorem srt_eq {lt : α → α → Bool} (h : Lin lt) {xs ys : List α} (p : ys.Perm xs) (s : ys.Pairwise fun a b => lt b a = false) : srt lt xs = ys :=
  List.Perm.eq_of_pairwise (fun a b _ _ x y => h.anti x y) (srt_pw h xs) s ((srt_perm lt xs).trans p.symm)
theorem srt_congr {lt : α → α → Bool} (h : Lin lt) {xs ys : List α} (p : xs.Perm ys) : srt lt xs = srt lt ys :=
  srt_eq h ((srt_perm lt ys).trans p.symm) (srt_pw h ys)
theorem srt_len (lt : α → α → Bool) (xs : List α) : (srt lt xs).length = xs.length := (srt_perm lt xs).length_eq
def insB (lt : α → α → Bool) (x : α) : List α → List α
  | [] => [x]
  | y :: ys => if lt y x then y :: insB lt x ys else x :: y :: ys
def isort (lt : α → α → Bool) : List α → List α
  | [] => []
  | x :: xs => insB lt x (isort lt xs)
theorem insB_perm (lt : α → α → Bool) (x : α) : ∀ ys : List α, (insB lt x ys).Perm (x :: ys)
  | [] => List.Perm.refl _
  | y :: ys => by
    unfold insB
    split
    · exact ((insB_perm lt x ys).cons y).trans (List.Perm.swap x y ys)
    · exact List.Perm.refl _
theorem isort_perm (lt : α → α → Bool) : ∀ xs : List α, (isort lt xs).Perm xs
  | [] => List.Perm.refl _
  | x :: xs => (insB_perm lt x _).trans ((isort_perm lt xs).cons x)
theorem insB_pw {lt : α → α → Bool} (h : Lin lt) (x : α) : ∀ ys : List α, ys.Pairwise (fun a b => lt b a = false) → (insB lt x ys).Pairwise fun a b => lt b a = false
  | [], _ => by simp [insB]
  | y :: ys, s => by
    rw [List.pairwise_cons] at s
    unfold insB
    split
    · rename_i hy
      refine List.pairwise_cons.mpr ⟨fun z hz => ?_, insB_pw h x ys s.2⟩
      rcases List.mem_cons.mp ((insB_perm lt x ys).mem_iff.mp hz) with e | e
      · rw [e]; exact h.asym hy
      · exact s.1 z e
    · rename_i hy
      have hy : lt y x = false := by simpa using hy
      refine List.pairwise_cons.mpr ⟨fun z hz => ?_, List.pairwise_cons.mpr s⟩
      rcases List.mem_cons.mp hz with e | e
      · rw [e]; exact hy
      · exact h.le_tr hy (s.1 z e)
theorem isort_pw {lt : α → α → Bool} (h : Lin lt) : ∀ xs : List α, (isort lt xs).Pairwise fun a b => lt b a = false
  | [] => List.Pairwise.nil
  | x :: xs => insB_pw h x _ (isort_pw h xs)
theorem srt_isort {lt : α → α → Bool} (h : Lin lt) (xs : List α) : srt lt xs = isort lt xs := srt_eq h (isort_perm lt xs) (isort_pw h xs)
end
def ltI (a b : Int) : Bool := decide (a < b)
theorem ltI_lin : Lin ltI where
  irr a := by simp [ltI]
  tr a b c x y := by simp [ltI] at x y ⊢; omega
  tri a b := by simp only [ltI, decide_eq_true_eq]; omega
structure Enc {α : Type} [DecidableEq α] (enc : α → D) (lt : α → α → Bool) (n : Nat) : Prop where
  lin : Lin lt
  eq : ∀ a b, eqv (enc a) (enc b) = decide (a = b)
  lt' : ∀ a b, ltD (enc a) (enc b) = lt a b
  al : ∀ a b, alD (enc a) (enc b) = true
  sh : ∀ a m, n ≤ m → sh m (enc a) = true
  pl : ∀ a, Pl (enc a)
  kind : (∀ a, isTupB (enc a) = true) ∨ (∀ a, isKeyB (enc a) = true)
theorem Enc.int : Enc D.int ltI 0 where
  lin := ltI_lin
  eq a b := by simp only [eqv]; by_cases h : a = b <;> simp [h]
  lt' a b := rfl
  al a b := rfl
  sh a m _ := by cases m <;> rfl
  pl a := .int a
  kind := .inr fun _ => rfl
section
variable {α : Type} [DecidableEq α] {enc : α → D} {lt : α → α → Bool} {n : Nat}
def tupE (enc : α → D) (xs : List α) : D := .tup (xs.map enc)
theorem Enc.eqL (h : Enc enc lt n) : ∀ xs ys : List α, eqvL (xs.map enc) (ys.map enc) = decide (xs = ys)
  | [], [] => by simp [eqvL]
  | [], y :: ys => by simp [eqvL]
  | x :: xs, [] => by simp [eqvL]
  | x :: xs, y :: ys => by
    simp only [List.map_cons, eqvL, h.eq, h.eqL xs ys]
    by_cases e : x = y <;> by_cases e2 : xs = ys <;> simp [e, e2]
theorem Enc.ltL (h : Enc enc lt n) : ∀ xs ys : List α, ltL (xs.map enc) (ys.map enc) = lexB lt xs ys
  | [], [] => by simp [Pv.ltL, lexB]
  | [], y :: ys => by simp [Pv.ltL, lexB]
  | x :: xs, [] => by simp [Pv.ltL, lexB]
  | x :: xs, y :: ys => by
    simp only [List.map_cons, Pv.ltL, lexB, h.eq, h.ltL xs ys, h.lt']
    by_cases e : x = y <;> simp [e]
theorem Enc.alL (h : Enc enc lt n) : ∀ xs ys : List α, alL (xs.map enc) (ys.map enc) = true
  | [], [] => by simp [Pv.alL]
  | [], y :: ys => by simp [Pv.alL]
  | x :: xs, [] => by simp [Pv.alL]
  | x :: xs, y :: ys => by simp only [List.map_cons, Pv.alL, h.al, h.alL xs ys]; rfl
theorem Enc.tup (h : Enc enc lt n) : Enc (tupE enc) (lexB lt) (n + 1) where
  lin := lexB_lin h.lin
  eq a b := by show eqv (.tup _) (.tup _) = _; simp only [eqv]; exact h.eqL a b
  lt' a b := by show ltD (.tup _) (.tup _) = _; simp only [ltD]; exact h.ltL a b
  al a b := by show alD (.tup _) (.tup _) = _; simp only [alD]; exact h.alL a b
  sh a m hm := by
    cases m with
    | zero => omega
    | succ m =>
      show Pv.sh (m + 1) (.tup _) = true
      simp only [Pv.sh, List.all_map, List.all_eq_true]
      intro x _
      exact h.sh x m (by omega)
  pl a := .tup fun x hx => by
    obtain ⟨y, _, rfl⟩ := List.mem_map.mp hx
    exact h.pl y
  kind := .inl fun _ => rfl
theorem Enc.inj (h : Enc enc lt n) {a b : α} (e : enc a = enc b) : a = b := by
  have h1 := h.eq a b
  rw [e, h.eq b b] at h1
  simpa using h1.symm
theorem Enc.ord (h : Enc enc lt n) (hn : n ≤ 50) (xs : List α) : ordOk (xs.map enc) = true := by
  simp only [ordOk, Bool.and_eq_true, Bool.or_eq_true, List.all_map, List.all_eq_true, Function.comp]
  refine ⟨⟨fun x _ => h.sh x 50 hn, fun x _ y _ => h.al x y⟩, ?_⟩
  rcases h.kind with z | z
  · exact .inl fun x _ => z x
  · exact .inr fun x _ => z x
theorem Enc.sort (h : Enc enc lt n) (xs : List α) : sortD (xs.map enc) = (srt lt xs).map enc := by
  unfold sortD srt
  exact (List.map_mergeSort (fun a _ b _ => by
    show (!lt b a) = leD (enc a) (enc b)
    unfold leD; rw [h.lt'])).symm
end
abbrev lt1 := lexB ltI
abbrev lt2 := lexB lt1
abbrev tP := tupE tupI
abbrev tPP := tupE tP
theorem enc1 : Enc tupI lt1 1 := Enc.int.tup
theorem enc2 : Enc tP lt2 2 := enc1.tup
end Pv

namespace Pv
open PySem PySem.Spec PyProof.Rows L2
/-! ## comprehensions that touch no list -/
theorem lc_fm {asg : D → Env → Sto → Option (Env × Sto)} {c : Env → Sto → Option (Bool × Env × Sto)} {e : Env → Sto → Option (D × Env × Sto)} {vs : List Nat} {α : Type} {enc : α → D} (p : α → Bool) (f : α → D) (ρx : α → Env) {ρ : Env} {st : Sto} : ∀ (xs : List α) (acc : List D),
    (∀ x ∈ xs, asg (enc x) ρ st = some (ρx x, st) ∧ c (ρx x) st = some (p x, ρx x, st) ∧ (p x = true → e (ρx x) st = some (f x, ρx x, st)) ∧ wipeE (ρx x) vs = ρ) → acc.length + xs.length ≤ lim →
    lcL asg c e vs (xs.map enc) acc ρ st = some (acc ++ (xs.filter p).map f, ρ, st)
  | [], acc, _, _ => by simp [lcL]
  | x :: xs, acc, h, hl => by
    obtain ⟨h1, h2, h3, h4⟩ := h x List.mem_cons_self
    rw [List.length_cons] at hl
    cases hp : p x with
    | true =>
      have ih := lc_fm p f ρx (asg := asg) (c := c) (e := e) (vs := vs) (ρ := ρ) (st := st) xs (acc ++ [f x]) (fun y hy => h y (List.mem_cons_of_mem _ hy)) (by rw [List.length_append, List.length_singleton]; omega)
      rw [hp] at h2
      have hlt : acc.length < lim := by omega
      simp only [List.map_cons, lcL, h1, h2, h3 hp, Option.bind_eq_bind, Option.bind_some, if_true, hlt, h4, ih, List.filter_cons, hp]
      simp
    | false =>
      have ih := lc_fm p f ρx (asg := asg) (c := c) (e := e) (vs := vs) (ρ := ρ) (st := st) xs acc (fun y hy => h y (List.mem_cons_of_mem _ hy)) (by omega)
      rw [hp] at h2
      simp only [List.map_cons, lcL, h1, h2, Option.bind_eq_bind, Option.bind_some, Bool.false_eq_true, if_false, h4, ih, List.filter_cons, hp]
theorem ev_fm {P : Tb} {e : E} {t : Tg} {it : I} {c : Co} {own : List (Str × Nat)} {ρ ρ1 : Env} {st st1 : Sto} {α : Type} {enc : α → D} (xs : List α) (p : α → Bool) (f : α → D) (ρx : α → Env) (h1 : evI P it ρ st = some (xs.map enc, ρ1, st1)) (hw : wipeE ρ1 (own.map (·.2)) = ρ1) (hl : xs.length ≤ lim)
    (h : ∀ x ∈ xs, evTg P t (enc x) ρ1 st1 = some (ρx x, st1) ∧ evC P c (ρx x) st1 = some (p x, ρx x, st1) ∧ (p x = true → vv (evE P e (ρx x) st1) = some (f x, ρx x, st1)) ∧ wipeE (ρx x) (own.map (·.2)) = ρ1) :
    evE P (.lc e t it c own) ρ st = some (true, .lst ((xs.filter p).map f), ρ1, st1) := by
  refine ev_lc h1 ?_
  rw [hw]
  exact lc_fm p f ρx xs [] h (by simpa using hl)
/-! ## for loops -/
theorem for_inv {P : Tb} {t : Tg} {b : Ss} {α : Type} {enc : α → D} (J : List α → Env → Sto → Prop) : ∀ (xs pre : List α) (ρ : Env) (st : Sto),
    (∀ pre' x ρ st, (∃ post, pre ++ xs = pre' ++ x :: post) → J pre' ρ st → ∃ ρ1 st1, evTg P t (enc x) ρ st = some (ρ1, st1) ∧ ∃ ρ2 st2, exSs P b ρ1 st1 = some (.nx, ρ2, st2) ∧ J (pre' ++ [x]) ρ2 st2) → J pre ρ st →
    ∃ ρ' st', forL (evTg P t) (exSs P b) (xs.map enc) ρ st = some (.nx, ρ', st') ∧ J (pre ++ xs) ρ' st'
  | [], pre, ρ, st, _, h => ⟨ρ, st, rfl, by simpa using h⟩
  | x :: xs, pre, ρ, st, hs, h => by
    obtain ⟨ρ1, st1, e1, ρ2, st2, e2, h2⟩ := hs pre x ρ st ⟨xs, rfl⟩ h
    obtain ⟨ρ3, st3, e3, h3⟩ := for_inv J xs (pre ++ [x]) ρ2 st2 (fun pre' y ρ st hp hj => hs pre' y ρ st (by simpa using hp) hj) h2
    refine ⟨ρ3, st3, ?_, by simpa using h3⟩
    simp only [List.map_cons, forL, e1, e2, Option.bind_eq_bind, Option.bind_some, e3]
/-! ## ranges -/
def natI (n : Nat) : D := .int (n : Nat)
theorem rngL_nat {a b : Nat} : rngL (a : Int) (b : Int) 1 = (List.range' a (b - a)).map natI := by
  have hl : rngN (a : Int) (b : Int) 1 = b - a := by have := rng_len (a := a) (b := b); unfold rngL at this; rw [List.length_map, List.length_range] at this; omega
  unfold rngL
  rw [hl, List.range'_eq_map_range, List.map_map]
  refine List.map_congr_left fun i _ => ?_
  simp [natI]
/-! ## the same, by list(zip) -/
def same2_c0 : Cn := (.e (.cmp .Gt (.lenv 2) (.k (.int 0))))
def same2_b1 : Ss := (.cons
  (.asgT (.tup (.cons (.n 3) (.cons (.n 4) .nil))) (.mth .pop 2 .nil)) (.cons
  (.ite (.e (.isi (.v 4) ["tuple"] false)) (.cons
  (.ite (.or (.nt (.e (.isi (.v 3) ["tuple"] false))) (.e (.cmp .NotEq (.lenv 3) (.lenv 4)))) (.cons
  (.ret (.k (.bl false))) .nil) .nil) (.cons
  (.asg 2 (.op .Add (.v 2) (.lzip (.v 3) (.v 4)))) .nil)) (.cons
  (.ite (.or (.e (.isi (.v 3) ["tuple", "list", "dict"] true)) (.nt (.e (.call "_law_is_kind" (.cons (.v 3) (.cons (.v 4) .nil)))))) (.cons
  (.ret (.k (.bl false))) .nil) .nil) .nil)) .nil))
def h_same2 : Ss := (.cons
  (.asg 2 (.lst (.cons (.tup (.cons (.v 0) (.cons (.v 1) .nil))) .nil))) (.cons
  (.whl same2_c0 same2_b1) (.cons
  (.ret (.k (.bl true))) .nil)))
theorem zipT_pr : ∀ xs : List D, zipT xs xs = xs.map pr
  | [] => rfl
  | x :: xs => by rw [zipT, zipT_pr xs]; rfl
theorem same2_loop {P : Tb} (hk : KindOk P) (st : Sto) (a b : D) : ∀ (n : Nat) (todo : List D) (s3 s4 : Sl), wtL todo < n → wtL todo < 100000 → (∀ d ∈ todo, Pl d) → ∃ ρ', whlL (evT P same2_c0) (exSs P same2_b1) n [.val a, .val b, .own (todo.map pr), s3, s4] st = some (.nx, ρ', st)
  | 0, _, _, _, h, _, _ => by omega
  | n + 1, todo, s3, s4, h, hb, hp => by
    rcases list_last todo with rfl | ⟨init, d, rfl⟩
    · exact ⟨_, by simp only [whlL, same2_c0, exSs, exS, evE, evEs, evT, Pv.evI, evC, evTg, evTgs, evO, vv, up, one, retE, Option.bind_eq_bind, Option.bind_some, Option.map_some, Option.pure_def, List.getElem?_cons_zero, List.getElem?_cons_succ, List.set_cons_zero, List.set_cons_succ, asgN, asgSub, setIx, opD, addD, mulD, biD, cmpD, ixD, ixL, lenD, slotSeq, slotLst, truD, List.length_cons, List.length_nil, if_true, if_false, Bool.false_eq_true, reduceIte, mthHR, mthR, mtD, slD, seqOf, wipeE, Tgs.len, Pv.unpack, Option.map_none, Option.bind_none, augD, revD, List.map_cons, List.map_nil, isiD, ty, List.any_cons, List.any_nil]; simp [exSs, exS, evE, evEs, evT, Pv.evI, evC, evTg, evTgs, evO, vv, up, one, retE, Option.bind_eq_bind, Option.bind_some, Option.map_some, Option.pure_def, List.getElem?_cons_zero, List.getElem?_cons_succ, List.set_cons_zero, List.set_cons_succ, asgN, asgSub, setIx, opD, addD, mulD, biD, cmpD, ixD, ixL, lenD, slotSeq, slotLst, truD, List.length_cons, List.length_nil, if_true, if_false, Bool.false_eq_true, reduceIte, mthHR, mthR, mtD, slD, seqOf, wipeE, Tgs.len, Pv.unpack, Option.map_none, Option.bind_none, augD, revD, List.map_cons, List.map_nil, isiD, ty, List.any_cons, List.any_nil]; rfl⟩
    · have hd : Pl d := hp d (by simp)
      have hi : ∀ x ∈ init, Pl x := fun x hx => hp x (by simp [hx])
      rw [wtL_app] at h hb
      have cT : evT P same2_c0 [.val a, .val b, .own ((init ++ [d]).map pr), s3, s4] st = some (true, [.val a, .val b, .own ((init ++ [d]).map pr), s3, s4], st) := by
        simp only [same2_c0, exSs, exS, evE, evEs, evT, Pv.evI, evC, evTg, evTgs, evO, vv, up, one, retE, Option.bind_eq_bind, Option.bind_some, Option.map_some, Option.pure_def, List.getElem?_cons_zero, List.getElem?_cons_succ, List.set_cons_zero, List.set_cons_succ, asgN, asgSub, setIx, opD, addD, mulD, biD, cmpD, ixD, ixL, lenD, slotSeq, slotLst, truD, List.length_cons, List.length_nil, if_true, if_false, Bool.false_eq_true, reduceIte, mthHR, mthR, mtD, slD, seqOf, wipeE, Tgs.len, Pv.unpack, Option.map_none, Option.bind_none, augD, revD, List.map_cons, List.map_nil, isiD, ty, List.any_cons, List.any_nil]
        simp [exSs, exS, evE, evEs, evT, Pv.evI, evC, evTg, evTgs, evO, vv, up, one, retE, Option.bind_eq_bind, Option.bind_some, Option.map_some, Option.pure_def, List.getElem?_cons_zero, List.getElem?_cons_succ, List.set_cons_zero, List.set_cons_succ, asgN, asgSub, setIx, opD, addD, mulD, biD, cmpD, ixD, ixL, lenD, slotSeq, slotLst, truD, List.length_cons, List.length_nil, if_true, if_false, Bool.false_eq_true, reduceIte, mthHR, mthR, mtD, slD, seqOf, wipeE, Tgs.len, Pv.unpack, Option.map_none, Option.bind_none, augD, revD, List.map_cons, List.map_nil, isiD, ty, List.any_cons, List.any_nil]
      have pop : exS P (.asgT (.tup (.cons (.n 3) (.cons (.n 4) .nil))) (.mth .pop 2 .nil)) [.val a, .val b, .own ((init ++ [d]).map pr), s3, s4] st = some (.nx, [.val a, .val b, .own (init.map pr), .val d, .val d], st) := by
        simp only [exSs, exS, evE, evEs, evT, Pv.evI, evC, evTg, evTgs, evO, vv, up, one, retE, Option.bind_eq_bind, Option.bind_some, Option.map_some, Option.pure_def, List.getElem?_cons_zero, List.getElem?_cons_succ, List.set_cons_zero, List.set_cons_succ, asgN, asgSub, setIx, opD, addD, mulD, biD, cmpD, ixD, ixL, lenD, slotSeq, slotLst, truD, List.length_cons, List.length_nil, if_true, if_false, Bool.false_eq_true, reduceIte, mthHR, mthR, mtD, slD, seqOf, wipeE, Tgs.len, Pv.unpack, Option.map_none, Option.bind_none, augD, revD, List.map_cons, List.map_nil, isiD, ty, List.any_cons, List.any_nil, evTgs]
        simp [exSs, exS, evE, evEs, evT, Pv.evI, evC, evTg, evTgs, evO, vv, up, one, retE, Option.bind_eq_bind, Option.bind_some, Option.map_some, Option.pure_def, List.getElem?_cons_zero, List.getElem?_cons_succ, List.set_cons_zero, List.set_cons_succ, asgN, asgSub, setIx, opD, addD, mulD, biD, cmpD, ixD, ixL, lenD, slotSeq, slotLst, truD, List.length_cons, List.length_nil, if_true, if_false, Bool.false_eq_true, reduceIte, mthHR, mthR, mtD, slD, seqOf, wipeE, Tgs.len, Pv.unpack, Option.map_none, Option.bind_none, augD, revD, List.map_cons, List.map_nil, isiD, ty, List.any_cons, List.any_nil, pr, evTgs]
      by_cases ht : ∃ xs, d = .tup xs
      · obtain ⟨xs, rfl⟩ := ht
        have hxs : ∀ x ∈ xs, Pl x := by cases hd with | tup h => exact h
        have hw : wtL [D.tup xs] = 1 + wtL xs := by simp [wtL, wt]
        have hl := wtL_len xs
        have hl2 := wtL_len init
        obtain ⟨ρ', e'⟩ := same2_loop hk st a b n (init ++ xs) (.val (.tup xs)) (.val (.tup xs)) (by rw [wtL_app]; omega) (by rw [wtL_app]; omega) (fun x hx => (List.mem_append.mp hx).elim (hi x) (hxs x))
        refine ⟨ρ', ?_⟩
        rw [← e', List.map_append (l₁ := init) (l₂ := xs)]
        have hlim : xs.length < lim := by unfold lim; omega
        have hlim2 : init.length + xs.length ≤ lim := by unfold lim; omega
        have body : exSs P same2_b1 [.val a, .val b, .own ((init ++ [D.tup xs]).map pr), s3, s4] st = some (.nx, [.val a, .val b, .own (init.map pr ++ xs.map pr), .val (.tup xs), .val (.tup xs)], st) := by
          refine (sq pop).trans ?_
          refine sq1 (ex_it (t := true) (by simp [exSs, exS, evE, evEs, evT, Pv.evI, evC, evTg, evTgs, evO, vv, up, one, retE, Option.bind_eq_bind, Option.bind_some, Option.map_some, Option.pure_def, List.getElem?_cons_zero, List.getElem?_cons_succ, List.set_cons_zero, List.set_cons_succ, asgN, asgSub, setIx, opD, addD, mulD, biD, cmpD, ixD, ixL, lenD, slotSeq, slotLst, truD, List.length_cons, List.length_nil, if_true, if_false, Bool.false_eq_true, reduceIte, mthHR, mthR, mtD, slD, seqOf, wipeE, Tgs.len, Pv.unpack, Option.map_none, Option.bind_none, augD, revD, List.map_cons, List.map_nil, isiD, ty, List.any_cons, List.any_nil]; exact ⟨rfl, rfl⟩) ?_)
          simp only [if_true]
          refine (sq (ex_it (t := false) (by simp [exSs, exS, evE, evEs, evT, Pv.evI, evC, evTg, evTgs, evO, vv, up, one, retE, Option.bind_eq_bind, Option.bind_some, Option.map_some, Option.pure_def, List.getElem?_cons_zero, List.getElem?_cons_succ, List.set_cons_zero, List.set_cons_succ, asgN, asgSub, setIx, opD, addD, mulD, biD, cmpD, ixD, ixL, lenD, slotSeq, slotLst, truD, List.length_cons, List.length_nil, if_true, if_false, Bool.false_eq_true, reduceIte, mthHR, mthR, mtD, slD, seqOf, wipeE, Tgs.len, Pv.unpack, Option.map_none, Option.bind_none, augD, revD, List.map_cons, List.map_nil, isiD, ty, List.any_cons, List.any_nil, Pv.sh, eqv_int]; exact ⟨rfl, rfl⟩) rfl)).trans ?_
          exact sq1 (by simp [exSs, exS, evE, evEs, evT, Pv.evI, evC, evTg, evTgs, evO, vv, up, one, retE, Option.bind_eq_bind, Option.bind_some, Option.map_some, Option.pure_def, List.getElem?_cons_zero, List.getElem?_cons_succ, List.set_cons_zero, List.set_cons_succ, asgN, asgSub, setIx, opD, addD, mulD, biD, cmpD, ixD, ixL, lenD, slotSeq, slotLst, truD, List.length_cons, List.length_nil, if_true, if_false, Bool.false_eq_true, reduceIte, mthHR, mthR, mtD, slD, seqOf, wipeE, Tgs.len, Pv.unpack, Option.map_none, Option.bind_none, augD, revD, List.map_cons, List.map_nil, isiD, ty, List.any_cons, List.any_nil, zipT_pr, hlim, hlim2])
        simp only [whlL, cT, body, Option.bind_eq_bind, Option.bind_some, if_true]
      · have hn : ∀ xs, d ≠ .tup xs := fun xs z => ht ⟨xs, z⟩
        have kd := hk st d hd hn
        have hw : 1 ≤ wtL [d] := by have := wt_pos d; simp [wtL]; omega
        obtain ⟨ρ', e'⟩ := same2_loop hk st a b n init (.val d) (.val d) (by omega) (by omega) hi
        refine ⟨ρ', ?_⟩
        rw [← e']
        have body : exSs P same2_b1 [.val a, .val b, .own ((init ++ [d]).map pr), s3, s4] st = some (.nx, [.val a, .val b, .own (init.map pr), .val d, .val d], st) := by
          refine (sq pop).trans ?_
          have t1 : evT P (.e (.isi (.v 4) ["tuple"] false)) [.val a, .val b, .own (init.map pr), .val d, .val d] st = some (false, [.val a, .val b, .own (init.map pr), .val d, .val d], st) := by
            cases hd with
            | non => simp [exSs, exS, evE, evEs, evT, Pv.evI, evC, evTg, evTgs, evO, vv, up, one, retE, Option.bind_eq_bind, Option.bind_some, Option.map_some, Option.pure_def, List.getElem?_cons_zero, List.getElem?_cons_succ, List.set_cons_zero, List.set_cons_succ, asgN, asgSub, setIx, opD, addD, mulD, biD, cmpD, ixD, ixL, lenD, slotSeq, slotLst, truD, List.length_cons, List.length_nil, if_true, if_false, Bool.false_eq_true, reduceIte, mthHR, mthR, mtD, slD, seqOf, wipeE, Tgs.len, Pv.unpack, Option.map_none, Option.bind_none, augD, revD, List.map_cons, List.map_nil, isiD, ty, List.any_cons, List.any_nil]
            | int i => simp [exSs, exS, evE, evEs, evT, Pv.evI, evC, evTg, evTgs, evO, vv, up, one, retE, Option.bind_eq_bind, Option.bind_some, Option.map_some, Option.pure_def, List.getElem?_cons_zero, List.getElem?_cons_succ, List.set_cons_zero, List.set_cons_succ, asgN, asgSub, setIx, opD, addD, mulD, biD, cmpD, ixD, ixL, lenD, slotSeq, slotLst, truD, List.length_cons, List.length_nil, if_true, if_false, Bool.false_eq_true, reduceIte, mthHR, mthR, mtD, slD, seqOf, wipeE, Tgs.len, Pv.unpack, Option.map_none, Option.bind_none, augD, revD, List.map_cons, List.map_nil, isiD, ty, List.any_cons, List.any_nil]
            | tup h => exact absurd rfl (hn _)
          have t2 : evT P (.or (.e (.isi (.v 3) ["tuple", "list", "dict"] true)) (.nt (.e (.call "_law_is_kind" (.cons (.v 3) (.cons (.v 4) .nil)))))) [.val a, .val b, .own (init.map pr), .val d, .val d] st = some (false, [.val a, .val b, .own (init.map pr), .val d, .val d], st) := by
            cases hd with
            | non => simp [exSs, exS, evE, evEs, evT, Pv.evI, evC, evTg, evTgs, evO, vv, up, one, retE, Option.bind_eq_bind, Option.bind_some, Option.map_some, Option.pure_def, List.getElem?_cons_zero, List.getElem?_cons_succ, List.set_cons_zero, List.set_cons_succ, asgN, asgSub, setIx, opD, addD, mulD, biD, cmpD, ixD, ixL, lenD, slotSeq, slotLst, truD, List.length_cons, List.length_nil, if_true, if_false, Bool.false_eq_true, reduceIte, mthHR, mthR, mtD, slD, seqOf, wipeE, Tgs.len, Pv.unpack, Option.map_none, Option.bind_none, augD, revD, List.map_cons, List.map_nil, isiD, ty, List.any_cons, List.any_nil, kd]
            | int i => simp [exSs, exS, evE, evEs, evT, Pv.evI, evC, evTg, evTgs, evO, vv, up, one, retE, Option.bind_eq_bind, Option.bind_some, Option.map_some, Option.pure_def, List.getElem?_cons_zero, List.getElem?_cons_succ, List.set_cons_zero, List.set_cons_succ, asgN, asgSub, setIx, opD, addD, mulD, biD, cmpD, ixD, ixL, lenD, slotSeq, slotLst, truD, List.length_cons, List.length_nil, if_true, if_false, Bool.false_eq_true, reduceIte, mthHR, mthR, mtD, slD, seqOf, wipeE, Tgs.len, Pv.unpack, Option.map_none, Option.bind_none, augD, revD, List.map_cons, List.map_nil, isiD, ty, List.any_cons, List.any_nil, kd]
            | tup h => exact absurd rfl (hn _)
          refine sq1 (ex_it t1 ?_)
          simp only [Bool.false_eq_true, if_false]
          exact sq1 (ex_it t2 (by simp only [Bool.false_eq_true, if_false, exSs]))
        simp only [whlL, cT, body, Option.bind_eq_bind, Option.bind_some, if_true]
theorem same2_ok {P : Tb} (hk : KindOk P) (ps : List Str) (hp : ps.length = 2) (st : Sto) {d : D} (h : Pl d) (hw : wt d < 99999) : runF P ⟨ps, 5, h_same2⟩ [d, d] st = some (false, .bl true, st) := by
  obtain ⟨ρ', e⟩ := same2_loop hk st d d fuel [d] .no .no (by simp [wtL]; unfold fuel; omega) (by simp [wtL]; omega) (fun x hx => by rw [List.mem_singleton.mp hx]; exact h)
  refine run_rt (ρ1 := ρ') (n := 3) (by simp [hp]) (by simp [hp]) ?_
  refine (sq (ρ1 := [.val d, .val d, .own [pr d], .no, .no]) (st1 := st) (by simp [exSs, exS, evE, evEs, evT, Pv.evI, evC, evTg, evTgs, evO, vv, up, one, retE, Option.bind_eq_bind, Option.bind_some, Option.map_some, Option.pure_def, List.getElem?_cons_zero, List.getElem?_cons_succ, List.set_cons_zero, List.set_cons_succ, asgN, asgSub, setIx, opD, addD, mulD, biD, cmpD, ixD, ixL, lenD, slotSeq, slotLst, truD, List.length_cons, List.length_nil, if_true, if_false, Bool.false_eq_true, reduceIte, mthHR, mthR, mtD, slD, seqOf, wipeE, Tgs.len, Pv.unpack, Option.map_none, Option.bind_none, augD, revD, List.map_cons, List.map_nil, isiD, ty, List.any_cons, List.any_nil, pr, show (2 : Nat) ≤ lim by decide, show (1 : Nat) ≤ lim by decide])).trans ?_
  refine (sq (ex_whl e)).trans ?_
  exact sqr (by simp [exSs, exS, evE, evEs, evT, Pv.evI, evC, evTg, evTgs, evO, vv, up, one, retE, Option.bind_eq_bind, Option.bind_some, Option.map_some, Option.pure_def, List.getElem?_cons_zero, List.getElem?_cons_succ, List.set_cons_zero, List.set_cons_succ, asgN, asgSub, setIx, opD, addD, mulD, biD, cmpD, ixD, ixL, lenD, slotSeq, slotLst, truD, List.length_cons, List.length_nil, if_true, if_false, Bool.false_eq_true, reduceIte, mthHR, mthR, mtD, slD, seqOf, wipeE, Tgs.len, Pv.unpack, Option.map_none, Option.bind_none, augD, revD, List.map_cons, List.map_nil, isiD, ty, List.any_cons, List.any_nil])
/-! ## things in a drawn order -/
def mixed_b0 : Ss := (.cons
  (.ex (.mth .append 3 (.cons (.mth .popAt 2 (.cons (.call "_law_any" (.cons (.v 0) (.cons (.lenv 2) .nil))) .nil)) .nil))) .nil)
def h_mixed : Ss := (.cons
  (.par2 2 3 (.bi .list (.cons (.v 1) .nil)) (.lst .nil)) (.cons
  (.for_ (.n 4) (.rng (.cons (.lenv 1) .nil)) mixed_b0) (.cons
  (.ret (.v 3)) .nil)))
theorem mixed_loop {P : Tb} (ha : AnyOk P) {α : Type} {enc : α → D} (xs : List α) (a1 : Sl) (hx : xs.length < 1000000) : ∀ (ds : List D) (L F : List α) (s : Sl) (st : Sto), ds.length = L.length → (F ++ L).Perm xs → Deal st →
    ∃ (F' : List α) (st' : Sto) (s' : Sl), forL (evTg P (.n 4)) (exSs P mixed_b0) ds [.val (.hd 1), a1, .own (L.map enc), .own (F.map enc), s] st = some (.nx, [.val (.hd 1), a1, .own [], .own (F'.map enc), s'], st') ∧ F'.Perm xs ∧ Deal st'
  | [], L, F, s, st, hl, hp, hd => by
    cases L with
    | nil => exact ⟨F, st, s, rfl, by simpa using hp, hd⟩
    | cons _ _ => simp at hl
  | d :: ds, L, F, s, st, hl, hp, hd => by
    have hlen := hp.length_eq
    rw [List.length_append] at hlen
    rw [List.length_cons] at hl
    obtain ⟨r, st1, e, r0, r1, hd1⟩ := ha (L.length : Int) st (by omega) (by omega) hd
    obtain ⟨j, rfl⟩ := Int.eq_ofNat_of_zero_le r0
    have hj : j < L.length := by omega
    have hix : ixN L.length (j : Int) = some j := by unfold ixN; rw [if_pos (by omega), if_pos (by omega)]; rfl
    have hL : (F ++ [L[j]] ++ L.eraseIdx j).Perm xs := by
      refine List.Perm.trans ?_ hp
      rw [List.append_assoc]
      refine List.Perm.append_left F ?_
      have h1 : L = L.take j ++ L[j] :: L.drop (j + 1) := by rw [List.getElem_cons_drop, List.take_append_drop]
      have h2 : L.eraseIdx j = L.take j ++ L.drop (j + 1) := List.eraseIdx_eq_take_drop_succ L j
      rw [h2, List.singleton_append]
      exact List.perm_middle.symm.trans (by rw [← h1])
    have hlim : F.length < lim := by unfold lim; omega
    obtain ⟨F', st', s', e', h1, h2⟩ := mixed_loop ha xs a1 hx ds (L.eraseIdx j) (F ++ [L[j]]) (.val d) st1 (by rw [List.length_eraseIdx_of_lt hj]; omega) hL hd1
    refine ⟨F', st', s', ?_, h1, h2⟩
    rw [← e']
    have er : (L.map enc).eraseIdx j = (L.eraseIdx j).map enc := by rw [List.eraseIdx_eq_take_drop_succ, List.eraseIdx_eq_take_drop_succ, List.map_append, List.map_take, List.map_drop]
    have e1 : evTg P (.n 4) d [.val (.hd 1), a1, .own (L.map enc), .own (F.map enc), s] st = some ([.val (.hd 1), a1, .own (L.map enc), .own (F.map enc), .val d], st) := by simp [exSs, exS, evE, evEs, evT, Pv.evI, evC, evTg, evTgs, evO, vv, up, one, retE, Option.bind_eq_bind, Option.bind_some, Option.map_some, Option.pure_def, List.getElem?_cons_zero, List.getElem?_cons_succ, List.set_cons_zero, List.set_cons_succ, asgN, asgSub, setIx, opD, addD, mulD, biD, cmpD, ixD, ixL, lenD, slotSeq, slotLst, truD, List.length_cons, List.length_nil, if_true, if_false, Bool.false_eq_true, reduceIte, mthHR, mthR, mtD, slD, seqOf, wipeE, Tgs.len, Pv.unpack, Option.map_none, Option.bind_none, augD, revD, List.map_cons, List.map_nil, isiD, ty, List.any_cons, List.any_nil]
    have e2 : exSs P mixed_b0 [.val (.hd 1), a1, .own (L.map enc), .own (F.map enc), .val d] st = some (.nx, [.val (.hd 1), a1, .own ((L.eraseIdx j).map enc), .own ((F ++ [L[j]]).map enc), .val d], st1) := by
      unfold mixed_b0
      refine sq1 ?_
      simp [exSs, exS, evE, evEs, evT, Pv.evI, evC, evTg, evTgs, evO, vv, up, one, retE, Option.bind_eq_bind, Option.bind_some, Option.map_some, Option.pure_def, List.getElem?_cons_zero, List.getElem?_cons_succ, List.set_cons_zero, List.set_cons_succ, asgN, asgSub, setIx, opD, addD, mulD, biD, cmpD, ixD, ixL, lenD, slotSeq, slotLst, truD, List.length_cons, List.length_nil, if_true, if_false, Bool.false_eq_true, reduceIte, mthHR, mthR, mtD, slD, seqOf, wipeE, Tgs.len, Pv.unpack, Option.map_none, Option.bind_none, augD, revD, List.map_cons, List.map_nil, isiD, ty, List.any_cons, List.any_nil, e, hix, hj, hlim, er]
    simp only [forL, e1, e2, Option.bind_eq_bind, Option.bind_some]
theorem mixed_ok {P : Tb} (ha : AnyOk P) (ps : List Str) (hp : ps.length = 2) {α : Type} {enc : α → D} (xs : List α) (hx : xs.length < 1000000) {st : Sto} (hst : Deal st) : ∃ (ys : List α) (st' : Sto), runF P ⟨ps, 5, h_mixed⟩ [.hd 1, .lst (xs.map enc)] st = some (true, .lst (ys.map enc), st') ∧ ys.Perm xs ∧ Deal st' := by
  obtain ⟨ys, st', s', e, h1, h2⟩ := mixed_loop ha xs (.val (.lst (xs.map enc))) hx (rngL 0 xs.length 1) xs [] .no st (by rw [rng_len]; omega) (List.Perm.refl _) hst
  refine ⟨ys, st', ?_, h1, h2⟩
  refine run_rt (ρ1 := [.val (.hd 1), .val (.lst (xs.map enc)), .own [], .no, s']) (n := 3) (by simp [hp]) (by simp [hp]) ?_
  refine (sq (ρ1 := [.val (.hd 1), .val (.lst (xs.map enc)), .own (xs.map enc), .own [], .no]) (st1 := st) (by simp [exSs, exS, evE, evEs, evT, Pv.evI, evC, evTg, evTgs, evO, vv, up, one, retE, Option.bind_eq_bind, Option.bind_some, Option.map_some, Option.pure_def, List.getElem?_cons_zero, List.getElem?_cons_succ, List.set_cons_zero, List.set_cons_succ, asgN, asgSub, setIx, opD, addD, mulD, biD, cmpD, ixD, ixL, lenD, slotSeq, slotLst, truD, List.length_cons, List.length_nil, if_true, if_false, Bool.false_eq_true, reduceIte, mthHR, mthR, mtD, slD, seqOf, wipeE, Tgs.len, Pv.unpack, Option.map_none, Option.bind_none, augD, revD, List.map_cons, List.map_nil, isiD, ty, List.any_cons, List.any_nil])).trans ?_
  refine (sq (ex_for (xs := rngL 0 xs.length 1) (ρ1 := [.val (.hd 1), .val (.lst (xs.map enc)), .own (xs.map enc), .own [], .no]) (st1 := st) (by simp [exSs, exS, evE, evEs, evT, Pv.evI, evC, evTg, evTgs, evO, vv, up, one, retE, Option.bind_eq_bind, Option.bind_some, Option.map_some, Option.pure_def, List.getElem?_cons_zero, List.getElem?_cons_succ, List.set_cons_zero, List.set_cons_succ, asgN, asgSub, setIx, opD, addD, mulD, biD, cmpD, ixD, ixL, lenD, slotSeq, slotLst, truD, List.length_cons, List.length_nil, if_true, if_false, Bool.false_eq_true, reduceIte, mthHR, mthR, mtD, slD, seqOf, wipeE, Tgs.len, Pv.unpack, Option.map_none, Option.bind_none, augD, revD, List.map_cons, List.map_nil, isiD, ty, List.any_cons, List.any_nil, rngD1 (n := xs.length) (by omega) (by omega)]) e)).trans ?_
  exact sqr (by simp [exSs, exS, evE, evEs, evT, Pv.evI, evC, evTg, evTgs, evO, vv, up, one, retE, Option.bind_eq_bind, Option.bind_some, Option.map_some, Option.pure_def, List.getElem?_cons_zero, List.getElem?_cons_succ, List.set_cons_zero, List.set_cons_succ, asgN, asgSub, setIx, opD, addD, mulD, biD, cmpD, ixD, ixL, lenD, slotSeq, slotLst, truD, List.length_cons, List.length_nil, if_true, if_false, Bool.false_eq_true, reduceIte, mthHR, mthR, mtD, slD, seqOf, wipeE, Tgs.len, Pv.unpack, Option.map_none, Option.bind_none, augD, revD, List.map_cons, List.map_nil, isiD, ty, List.any_cons, List.any_nil])
def MixOk (P : Tb) : Prop := ∀ (α : Type) (enc : α → D) (xs : List α) (st : Sto), xs.length < 1000000 → Deal st → ∃ (ys : List α) (st' : Sto), P.F "_law_mixed" [.hd 1, .lst (xs.map enc)] st = some (true, .lst (ys.map enc), st') ∧ ys.Perm xs ∧ Deal st'
/-! ## the deal, its first two at once -/
def h_deal2 : Ss := (.cons
  (.asg 2 (.op .Mult (.op .Mult (.op .Mult (.op .Mult (.op .Mult (.op .Pow (.k (.int 10)) (.k (.int 64))) (.op .Pow (.k (.int 10)) (.k (.int 64)))) (.op .Pow (.k (.int 10)) (.k (.int 64)))) (.op .Pow (.k (.int 10)) (.k (.int 64)))) (.op .Pow (.k (.int 10)) (.k (.int 64)))) (.op .Pow (.k (.int 10)) (.k (.int 64))))) (.cons
  (.par2 3 4 (.lc law_deal_e3 (.n 5) (.val (.sl (.v 0) .no (.so (.k (.int 63))))) .no [("cell", 5)]) (.op .Add (.k (.int 70001)) (.op .Mult (.k (.int 7919)) (.v 1)))) (.cons
  (.for_ (.n 5) (.val (.v 3)) law_deal_b2) (.cons
  (.ret (.share (.lst (.cons (.share (.slr (.lc law_deal_e0 (.n 5) (.val (.v 3)) (.so law_deal_c1) [("cell", 5)]))) (.cons (.v 4) .nil))))) .nil))))
theorem deal2_ok {P : Tb} (ps : List Str) (hp : ps.length = 2) (ns : List Int) (hl : ns.length ≤ 63) {salt : Int} (h0 : 0 ≤ salt) (h1 : salt < 100000) : ∃ st, runF P ⟨ps, 6, h_deal2⟩ [.scr ns, .int salt] [] = some (false, .hd 1, st) ∧ Deal st := by
  obtain ⟨cs, e3, hn, hcl⟩ := deal_cells (P := P) (.val (.scr ns)) (.val (.int salt)) [] (ns.map D.int) [] (fun x hx => by
    obtain ⟨i, _, rfl⟩ := List.mem_map.mp hx; exact ⟨i, rfl⟩) (fun _ h => by cases h) (by simpa using hl)
  obtain ⟨mix, s, e5, m0, m1⟩ := deal_mix (P := P) (.val (.scr ns)) (.val (.int salt)) (.val (.int mostV)) (.val (.lst cs)) [] cs (70001 + 7919 * salt) .no hn (by omega) (by omega)
  obtain ⟨bs, e6, hb, hbl⟩ := deal_big (P := P) (.val (.scr ns)) (.val (.int salt)) (.val (.int mostV)) (.val (.lst cs)) (.val (.int mix)) [] cs [] hn (fun _ h => by cases h) (by simpa using hcl)
  obtain ⟨is, rfl, hi⟩ := nats_map hb
  refine ⟨[is.reverse.map D.int, [.hd 0, .int mix]], ?_, is.reverse, mix, rfl, by simpa using hbl, fun c hc => hi c (by simpa using hc), m0, m1⟩
  have hbs : Big salt := big_small (by omega)
  have hb7 : Big 7919 := by decide
  refine run_rt (ρ1 := [.val (.scr ns), .val (.int salt), .val (.int mostV), .val (.lst cs), .val (.int mix), .no]) (n := 4) (by simp [hp]) (by simp [hp]) ?_
  unfold h_deal2
  refine (sq (ρ1 := [.val (.scr ns), .val (.int salt), .val (.int mostV), .no, .no, .no]) (st1 := []) rfl).trans ?_
  have l1 : evE P (.lc law_deal_e3 (.n 5) (.val (.sl (.v 0) .no (.so (.k (.int 63))))) .no [("cell", 5)]) [.val (.scr ns), .val (.int salt), .val (.int mostV), .no, .no, .no] [] = some (true, .lst cs, [.val (.scr ns), .val (.int salt), .val (.int mostV), .no, .no, .no], []) :=
    ev_lc (xs := ns.map D.int) (ρ1 := [.val (.scr ns), .val (.int salt), .val (.int mostV), .no, .no, .no]) (st1 := []) (by simp [exSs, exS, evE, evEs, evT, Pv.evI, evC, evTg, evTgs, evO, vv, up, one, retE, Option.bind_eq_bind, Option.bind_some, Option.map_some, Option.pure_def, List.getElem?_cons_zero, List.getElem?_cons_succ, List.set_cons_zero, List.set_cons_succ, asgN, asgSub, setIx, opD, addD, mulD, biD, cmpD, ixD, ixL, lenD, slotSeq, slotLst, truD, List.length_cons, List.length_nil, if_true, if_false, Bool.false_eq_true, reduceIte, mthHR, mthR, mtD, slD, seqOf, wipeE, Tgs.len, Pv.unpack, Option.map_none, Option.bind_none, augD, revD, List.map_cons, List.map_nil, isiD, ty, List.any_cons, List.any_nil, cut_len ns hl]) e3
  generalize E.lc law_deal_e3 _ _ _ _ = LC at l1 ⊢
  refine (sq (ρ1 := [.val (.scr ns), .val (.int salt), .val (.int mostV), .own cs, .val (.int (70001 + 7919 * salt)), .no]) (st1 := []) (by simp [exSs, exS, evE, evEs, evT, Pv.evI, evC, evTg, evTgs, evO, vv, up, one, retE, Option.bind_eq_bind, Option.bind_some, Option.map_some, Option.pure_def, List.getElem?_cons_zero, List.getElem?_cons_succ, List.set_cons_zero, List.set_cons_succ, asgN, asgSub, setIx, opD, addD, mulD, biD, cmpD, ixD, ixL, lenD, slotSeq, slotLst, truD, List.length_cons, List.length_nil, if_true, if_false, Bool.false_eq_true, reduceIte, mthHR, mthR, mtD, slD, seqOf, wipeE, Tgs.len, Pv.unpack, Option.map_none, Option.bind_none, augD, revD, List.map_cons, List.map_nil, isiD, ty, List.any_cons, List.any_nil, l1, hbs, hb7])).trans ?_
  refine (sq (ex_for (xs := cs) (ρ1 := [.val (.scr ns), .val (.int salt), .val (.int mostV), .val (.lst cs), .val (.int (70001 + 7919 * salt)), .no]) (st1 := []) (by simp [exSs, exS, evE, evEs, evT, Pv.evI, evC, evTg, evTgs, evO, vv, up, one, retE, Option.bind_eq_bind, Option.bind_some, Option.map_some, Option.pure_def, List.getElem?_cons_zero, List.getElem?_cons_succ, List.set_cons_zero, List.set_cons_succ, asgN, asgSub, setIx, opD, addD, mulD, biD, cmpD, ixD, ixL, lenD, slotSeq, slotLst, truD, List.length_cons, List.length_nil, if_true, if_false, Bool.false_eq_true, reduceIte, mthHR, mthR, mtD, slD, seqOf, wipeE, Tgs.len, Pv.unpack, Option.map_none, Option.bind_none, augD, revD, List.map_cons, List.map_nil, isiD, ty, List.any_cons, List.any_nil]) e5)).trans ?_
  have l2 : evE P (.lc law_deal_e0 (.n 5) (.val (.v 3)) (.so law_deal_c1) [("cell", 5)]) [.val (.scr ns), .val (.int salt), .val (.int mostV), .val (.lst cs), .val (.int mix), s] [] = some (true, .lst (is.map D.int), [.val (.scr ns), .val (.int salt), .val (.int mostV), .val (.lst cs), .val (.int mix), .no], []) :=
    ev_lc (xs := cs) (ρ1 := [.val (.scr ns), .val (.int salt), .val (.int mostV), .val (.lst cs), .val (.int mix), s]) (st1 := []) (by simp [exSs, exS, evE, evEs, evT, Pv.evI, evC, evTg, evTgs, evO, vv, up, one, retE, Option.bind_eq_bind, Option.bind_some, Option.map_some, Option.pure_def, List.getElem?_cons_zero, List.getElem?_cons_succ, List.set_cons_zero, List.set_cons_succ, asgN, asgSub, setIx, opD, addD, mulD, biD, cmpD, ixD, ixL, lenD, slotSeq, slotLst, truD, List.length_cons, List.length_nil, if_true, if_false, Bool.false_eq_true, reduceIte, mthHR, mthR, mtD, slD, seqOf, wipeE, Tgs.len, Pv.unpack, Option.map_none, Option.bind_none, augD, revD, List.map_cons, List.map_nil, isiD, ty, List.any_cons, List.any_nil]) e6
  generalize E.lc law_deal_e0 _ _ _ _ = LC2 at l2 ⊢
  exact sqr (by simp [exSs, exS, evE, evEs, evT, Pv.evI, evC, evTg, evTgs, evO, vv, up, one, retE, Option.bind_eq_bind, Option.bind_some, Option.map_some, Option.pure_def, List.getElem?_cons_zero, List.getElem?_cons_succ, List.set_cons_zero, List.set_cons_succ, asgN, asgSub, setIx, opD, addD, mulD, biD, cmpD, ixD, ixL, lenD, slotSeq, slotLst, truD, List.length_cons, List.length_nil, if_true, if_false, Bool.false_eq_true, reduceIte, mthHR, mthR, mtD, slD, seqOf, wipeE, Tgs.len, Pv.unpack, Option.map_none, Option.bind_none, augD, revD, List.map_cons, List.map_nil, isiD, ty, List.any_cons, List.any_nil, l2, show (2 : Nat) ≤ lim by decide])
end Pv

namespace Lk35
open PySem PySem.Spec PyProof.Rows L2 Pv
abbrev topS (j : Nat) : Stmt := PySem.Challenge.pw_liarschange_k35_whole_patterns_by_sides.main.body.getD j (.Pass ⟨0, 0, 0, 0⟩)
def all_lots_e0 : E := (.op .Add (.v 6) (.tup (.cons (.v 8) .nil)))
def all_lots_b1 : Ss := (.cons
  (.asg 7 (.ite (.e (.cmp .Eq (.v 6) (.tup .nil))) (.k (.int 0)) (.op .Add (.ixv 6 (.neg (.k (.int 1)))) (.k (.int 1))))) (.cons
  (.ex (.mth .extend 5 (.cons (.lc all_lots_e0 (.n 8) (.rng (.cons (.v 7) (.cons (.v 0) .nil))) .no [("machine", 8)]) .nil))) .nil))
def all_lots_b2 : Ss := (.cons
  (.asg 5 (.lst .nil)) (.cons
  (.for_ (.n 6) (.val (.v 3)) all_lots_b1) (.cons
  (.ex (.mth .extend 2 (.cons (.v 5) .nil))) (.cons
  (.asg 3 (.v 5)) .nil))))
def b_all_lots : Ss := (.cons
  (.asg 2 (.lst (.cons (.tup .nil) .nil))) (.cons
  (.asg 3 (.lst (.cons (.tup .nil) .nil))) (.cons
  (.for_ (.n 4) (.rng (.cons (.bi .min2 (.cons (.v 1) (.cons (.op .Sub (.v 0) (.k (.int 1))) .nil))) .nil)) all_lots_b2) (.cons
  (.ret (.bi .tuple (.cons (.bi .sorted (.cons (.v 2) .nil)) .nil))) .nil))))
def d_all_lots : DefT := ⟨"all_lots", topS 1, ["machines", "many"], ["machines", "many", "found", "longest", "_", "longer", "lot", "first", "machine"], b_all_lots⟩
def b_faulty_ones : Ss := (.cons
  (.ret (.bi .tuple (.cons (.bi .sorted (.cons (.op .Add (.ixv 0 (.k (.int 0))) (.ixv 0 (.k (.int 1)))) .nil)) .nil))) .nil)
def d_faulty_ones : DefT := ⟨"faulty_ones", topS 4, ["pattern"], ["pattern"], b_faulty_ones⟩
def is_apart_e0 : E := (.v 2)
def is_apart_c1 : Cn := (.e (.cmpv .In (.v 2) 1))
def b_is_apart : Ss := (.cons
  (.ret (.cmp .Eq (.lc is_apart_e0 (.n 2) (.val (.v 0)) (.so is_apart_c1) [("machine", 2)]) (.lst .nil))) .nil)
def d_is_apart : DefT := ⟨"is_apart", topS 5, ["silent", "liars"], ["silent", "liars", "machine"], b_is_apart⟩
def all_patterns_b0 : Ss := (.cons
  (.ite (.an (.e (.call "is_apart" (.cons (.v 4) (.cons (.v 5) .nil)))) (.e (.cmp .Lt (.op .Add (.lenv 4) (.lenv 5)) (.v 0)))) (.cons
  (.ex (.mth .append 3 (.cons (.tup (.cons (.v 4) (.cons (.v 5) .nil))) .nil))) .nil) .nil) .nil)
def all_patterns_b1 : Ss := (.cons
  (.for_ (.n 5) (.val (.call "all_lots" (.cons (.v 0) (.cons (.v 2) .nil)))) all_patterns_b0) .nil)
def b_all_patterns : Ss := (.cons
  (.asg 3 (.lst .nil)) (.cons
  (.for_ (.n 4) (.val (.call "all_lots" (.cons (.v 0) (.cons (.v 1) .nil)))) all_patterns_b1) (.cons
  (.ret (.bi .tuple (.cons (.bi .sorted (.cons (.v 3) .nil)) .nil))) .nil)))
def d_all_patterns : DefT := ⟨"all_patterns", topS 6, ["machines", "silent", "liars"], ["machines", "silent", "liars", "found", "quiet", "lot"], b_all_patterns⟩
def all_goes_e0 : E := (.tup (.cons (.v 2) (.cons (.v 3) .nil)))
def b_all_goes : Ss := (.cons
  (.asg 1 (.lrng (.cons (.lenv 0) .nil))) (.cons
  (.ret (.bi .tuple (.cons (.lc2 all_goes_e0 (.n 2) (.val (.v 1)) .no (.n 3) (.val (.v 1)) .no [("one", 2), ("other", 3)] [3]) .nil))) .nil))
def d_all_goes : DefT := ⟨"all_goes", topS 7, ["patterns"], ["patterns", "numbers", "one", "other"], b_all_goes⟩
def ends_of_roads_e0 : E := (.v 3)
def ends_of_roads_c1 : Cn := (.e (.cmpv .In (.v 2) 0))
def b_ends_of_roads : Ss := (.cons
  (.ret (.op .Add (.bi .list (.cons (.v 0) .nil)) (.lc ends_of_roads_e0 (.tup (.cons (.n 2) (.cons (.n 3) .nil))) (.val (.v 1)) (.so ends_of_roads_c1) [("begin", 2), ("end", 3)]))) .nil)
def d_ends_of_roads : DefT := ⟨"ends_of_roads", topS 8, ["lot", "roads"], ["lot", "roads", "begin", "end"], b_ends_of_roads⟩
def may_go_e0 : E := (.v 4)
def may_go_c1 : Cn := (.e (.cmpv .NotIn (.v 4) 3))
def b_may_go : Ss := (.cons
  (.ite (.e (.cmp .In (.g "NOBODY") (.tup (.cons (.v 0) (.cons (.v 1) .nil))))) (.cons
  (.ret (.k (.bl true))) .nil) .nil) (.cons
  (.asg 3 (.call "ends_of_roads" (.cons (.call "faulty_ones" (.cons (.v 0) .nil)) (.cons (.v 2) .nil)))) (.cons
  (.ret (.cmp .Eq (.lc may_go_e0 (.n 4) (.val (.call "faulty_ones" (.cons (.v 1) .nil))) (.so may_go_c1) [("machine", 4)]) (.lst .nil))) .nil)))
def d_may_go : DefT := ⟨"may_go", topS 9, ["one", "other", "roads"], ["one", "other", "roads", "near", "machine"], b_may_go⟩
def road_goes_e0 : E := (.tup (.cons (.v 3) (.cons (.v 5) .nil)))
def road_goes_c1 : Cn := (.e (.call "may_go" (.cons (.v 4) (.cons (.v 6) (.cons (.v 1) .nil)))))
def road_goes_b2 : Ss := (.cons
  (.ex (.mth .extend 2 (.cons (.lc road_goes_e0 (.tup (.cons (.n 5) (.cons (.n 6) .nil))) (.enum (.v 0)) (.so road_goes_c1) [("to", 5), ("other", 6)]) .nil))) .nil)
def b_road_goes : Ss := (.cons
  (.asg 2 (.lst .nil)) (.cons
  (.for_ (.tup (.cons (.n 3) (.cons (.n 4) .nil))) (.enum (.v 0)) road_goes_b2) (.cons
  (.ret (.bi .tuple (.cons (.v 2) .nil))) .nil)))
def d_road_goes : DefT := ⟨"road_goes", topS 10, ["patterns", "roads"], ["patterns", "roads", "found", "at", "one", "to", "other"], b_road_goes⟩
def law_deal_e0 : E := (.v 5)
def law_deal_c1 : Cn := (.e (.cmp .GtE (.v 5) (.op .Pow (.k (.int 10)) (.k (.int 18)))))
def law_deal_b2 : Ss := (.cons
  (.asg 4 (.op .Mod (.bi .int (.cons (.op .Add (.op .Add (.op .Mult (.v 4) (.k (.int 69621))) (.op .Mod (.bi .int (.cons (.v 5) .nil)) (.k (.int 2147483563)))) (.k (.int 23))) .nil)) (.k (.int 2147483647)))) .nil)
def law_deal_e3 : E := (.op .Mod (.bi .int (.cons (.bi .abs (.cons (.bi .int (.cons (.v 5) .nil)) .nil)) .nil)) (.v 2))
def b_law_deal : Ss := (.cons
  (.asg 2 (.op .Mult (.op .Mult (.op .Mult (.op .Mult (.op .Mult (.op .Pow (.k (.int 10)) (.k (.int 64))) (.op .Pow (.k (.int 10)) (.k (.int 64)))) (.op .Pow (.k (.int 10)) (.k (.int 64)))) (.op .Pow (.k (.int 10)) (.k (.int 64)))) (.op .Pow (.k (.int 10)) (.k (.int 64)))) (.op .Pow (.k (.int 10)) (.k (.int 64))))) (.cons
  (.par2 3 4 (.lc law_deal_e3 (.n 5) (.val (.sl (.v 0) .no (.so (.k (.int 63))))) .no [("cell", 5)]) (.op .Add (.k (.int 70001)) (.op .Mult (.k (.int 7919)) (.v 1)))) (.cons
  (.for_ (.n 5) (.val (.v 3)) law_deal_b2) (.cons
  (.ret (.share (.lst (.cons (.share (.slr (.lc law_deal_e0 (.n 5) (.val (.v 3)) (.so law_deal_c1) [("cell", 5)]))) (.cons (.v 4) .nil))))) .nil))))
def d_law_deal : DefT := ⟨"_law_deal", topS 12, ["script", "salt"], ["script", "salt", "most", "cells", "mix", "cell"], b_law_deal⟩
def law_any_c0 : Cn := (.an (.e (.cmp .Gt (.bi .len (.cons (.ixv 0 (.k (.int 0))) .nil)) (.k (.int 0)))) (.e (.cmp .Eq (.ix (.ixv 0 (.k (.int 0))) (.neg (.k (.int 1)))) (.k (.int 0)))))
def law_any_b1 : Ss := (.cons
  (.ex (.mthH .pop (.ixv 0 (.k (.int 0))) .nil)) .nil)
def b_law_any : Ss := (.cons
  (.whl law_any_c0 law_any_b1) (.cons
  (.ite (.e (.cmp .Gt (.bi .len (.cons (.ixv 0 (.k (.int 0))) .nil)) (.k (.int 0)))) (.cons
  (.asg 2 (.bi .int (.cons (.mthH .pop (.ixv 0 (.k (.int 0))) .nil) .nil))) (.cons
  (.ex (.mthH .append (.ixv 0 (.k (.int 0))) (.cons (.op .FloorDiv (.v 2) (.v 1)) .nil))) (.cons
  (.ret (.op .Mod (.v 2) (.v 1))) .nil))) .nil) (.cons
  (.asgT (.sub 0 (.k (.int 1))) (.op .Mod (.bi .int (.cons (.op .Add (.op .Mult (.ixv 0 (.k (.int 1))) (.k (.int 48271))) (.k (.int 31))) .nil)) (.k (.int 2147483647)))) (.cons
  (.ret (.op .Mod (.bi .int (.cons (.op .FloorDiv (.ixv 0 (.k (.int 1))) (.k (.int 64))) .nil)) (.v 1))) .nil))))
def d_law_any : DefT := ⟨"_law_any", topS 13, ["deal", "bound"], ["deal", "bound", "rest"], b_law_any⟩
def law_mixed_b0 : Ss := (.cons
  (.ex (.mth .append 3 (.cons (.mth .popAt 2 (.cons (.call "_law_any" (.cons (.v 0) (.cons (.lenv 2) .nil))) .nil)) .nil))) .nil)
def b_law_mixed : Ss := (.cons
  (.par2 2 3 (.bi .list (.cons (.v 1) .nil)) (.lst .nil)) (.cons
  (.for_ (.n 4) (.rng (.cons (.lenv 1) .nil)) law_mixed_b0) (.cons
  (.ret (.v 3)) .nil)))
def d_law_mixed : DefT := ⟨"_law_mixed", topS 14, ["deal", "some"], ["deal", "some", "left", "found", "turn"], b_law_mixed⟩
def b_law_is_kind : Ss := (.cons
  (.ite (.e (.cmp .Is (.v 1) (.k .non))) (.cons
  (.ret (.cmp .Is (.v 0) (.k .non))) .nil) .nil) (.cons
  (.ite (.or (.e (.cmp .Is (.v 1) (.k (.bl true)))) (.e (.cmp .Is (.v 1) (.k (.bl false))))) (.cons
  (.ret (.ite (.e (.v 1)) (.cmp .Is (.v 0) (.k (.bl true))) (.cmp .Is (.v 0) (.k (.bl false))))) .nil) .nil) (.cons
  (.ite (.e (.isi (.v 1) ["str"] false)) (.cons
  (.ret (.an (.isi (.v 0) ["str"] false) (.cmp .Eq (.v 0) (.v 1)))) .nil) .nil) (.cons
  (.ret (.an (.isi (.v 0) ["int"] false) (.an (.nt (.isi (.v 0) ["bool"] false)) (.cmp .Eq (.v 0) (.v 1))))) .nil))))
def d_law_is_kind : DefT := ⟨"_law_is_kind", topS 15, ["told", "due"], ["told", "due"], b_law_is_kind⟩
def law_same_c0 : Cn := (.e (.cmp .Gt (.lenv 2) (.k (.int 0))))
def law_same_b1 : Ss := (.cons
  (.asgT (.tup (.cons (.n 3) (.cons (.n 4) .nil))) (.mth .pop 2 .nil)) (.cons
  (.ite (.e (.isi (.v 4) ["tuple"] false)) (.cons
  (.ite (.or (.nt (.e (.isi (.v 3) ["tuple"] false))) (.e (.cmp .NotEq (.lenv 3) (.lenv 4)))) (.cons
  (.ret (.k (.bl false))) .nil) .nil) (.cons
  (.asg 2 (.op .Add (.v 2) (.lzip (.v 3) (.v 4)))) .nil)) (.cons
  (.ite (.or (.e (.isi (.v 3) ["tuple", "list", "dict"] true)) (.nt (.e (.call "_law_is_kind" (.cons (.v 3) (.cons (.v 4) .nil)))))) (.cons
  (.ret (.k (.bl false))) .nil) .nil) .nil)) .nil))
def b_law_same : Ss := (.cons
  (.asg 2 (.lst (.cons (.tup (.cons (.v 0) (.cons (.v 1) .nil))) .nil))) (.cons
  (.whl law_same_c0 law_same_b1) (.cons
  (.ret (.k (.bl true))) .nil)))
def d_law_same : DefT := ⟨"_law_same", topS 16, ["told", "due"], ["told", "due", "todo", "one", "other"], b_law_same⟩
def law_all_e0 : E := (.v 1)
def law_all_c1 : Cn := (.nt (.e (.call "_law_same" (.cons (.v 1) (.cons (.v 2) .nil)))))
def b_law_all : Ss := (.cons
  (.ret (.cmp .Eq (.bi .len (.cons (.lc law_all_e0 (.tup (.cons (.n 1) (.cons (.n 2) .nil))) (.val (.v 0)) (.so law_all_c1) [("told", 1), ("due", 2)]) .nil)) (.k (.int 0)))) .nil)
def d_law_all : DefT := ⟨"_law_all", topS 17, ["pairs"], ["pairs", "told", "due"], b_law_all⟩
def law_rows_of_e0 : E := (.op .Add (.v 4) (.tup (.cons (.v 5) .nil)))
def law_rows_of_b1 : Ss := (.cons
  (.asg 3 (.op .Add (.v 3) (.lc law_rows_of_e0 (.n 5) (.val (.v 2)) .no [("thing", 5)]))) .nil)
def law_rows_of_b2 : Ss := (.cons
  (.asg 3 (.lst .nil)) (.cons
  (.for_ (.n 4) (.val (.v 1)) law_rows_of_b1) (.cons
  (.asg 1 (.v 3)) .nil)))
def b_law_rows_of : Ss := (.cons
  (.asg 1 (.lst (.cons (.tup .nil) .nil))) (.cons
  (.for_ (.n 2) (.val (.v 0)) law_rows_of_b2) (.cons
  (.ret (.v 1)) .nil)))
def d_law_rows_of : DefT := ⟨"_law_rows_of", topS 18, ["lots"], ["lots", "found", "lot", "late", "row", "thing"], b_law_rows_of⟩
def law_pairs_e0 : E := (.tup (.cons (.v 3) (.cons (.v 4) .nil)))
def law_pairs_b1 : Ss := (.cons
  (.asg 2 (.op .Add (.v 2) (.lc law_pairs_e0 (.n 4) (.val (.v 1)) .no [("other", 4)]))) .nil)
def b_law_pairs : Ss := (.cons
  (.asg 2 (.lst .nil)) (.cons
  (.for_ (.n 3) (.val (.v 0)) law_pairs_b1) (.cons
  (.ret (.v 2)) .nil)))
def d_law_pairs : DefT := ⟨"_law_pairs", topS 19, ["ones", "others"], ["ones", "others", "found", "one", "other"], b_law_pairs⟩
def b_law_faulty : Ss := (.cons
  (.ret (.bi .tuple (.cons (.bi .sorted (.cons (.op .Add (.ixv 0 (.k (.int 0))) (.ixv 0 (.k (.int 1)))) .nil)) .nil))) .nil)
def d_law_faulty : DefT := ⟨"_law_faulty", topS 20, ["pattern"], ["pattern"], b_law_faulty⟩
def law_all_patterns_e0 : E := (.v 5)
def law_all_patterns_c1 : Cn := (.e (.cmp .Eq (.ixv 4 (.v 5)) (.k (.int 2))))
def law_all_patterns_e2 : E := (.v 5)
def law_all_patterns_c3 : Cn := (.e (.cmp .Eq (.ixv 4 (.v 5)) (.k (.int 1))))
def law_all_patterns_b4 : Ss := (.cons
  (.ite (.an (.e (.cmp .LtE (.sm .count (.v 4) (.k (.int 1))) (.v 1))) (.an (.e (.cmp .LtE (.sm .count (.v 4) (.k (.int 2))) (.v 2))) (.e (.cmpv .In (.k (.int 0)) 4)))) (.cons
  (.ex (.mth .append 3 (.cons (.tup (.cons (.bi .tuple (.cons (.lc law_all_patterns_e2 (.n 5) (.rng (.cons (.v 0) .nil)) (.so law_all_patterns_c3) [("machine", 5)]) .nil)) (.cons (.bi .tuple (.cons (.lc law_all_patterns_e0 (.n 5) (.rng (.cons (.v 0) .nil)) (.so law_all_patterns_c1) [("machine", 5)]) .nil)) .nil))) .nil))) .nil) .nil) .nil)
def b_law_all_patterns : Ss := (.cons
  (.asg 3 (.lst .nil)) (.cons
  (.for_ (.n 4) (.val (.call "_law_rows_of" (.cons (.op .Mult (.lst (.cons (.lst (.cons (.k (.int 0)) (.cons (.k (.int 1)) (.cons (.k (.int 2)) .nil)))) .nil)) (.v 0)) .nil))) law_all_patterns_b4) (.cons
  (.ret (.bi .tuple (.cons (.bi .sorted (.cons (.v 3) .nil)) .nil))) .nil)))
def d_law_all_patterns : DefT := ⟨"_law_all_patterns", topS 21, ["many", "silent", "liars"], ["many", "silent", "liars", "found", "sides", "machine"], b_law_all_patterns⟩
def b_law_all_goes : Ss := (.cons
  (.ret (.bi .tuple (.cons (.call "_law_pairs" (.cons (.lrng (.cons (.v 0) .nil)) (.cons (.lrng (.cons (.v 0) .nil)) .nil))) .nil))) .nil)
def d_law_all_goes : DefT := ⟨"_law_all_goes", topS 22, ["many"], ["many"], b_law_all_goes⟩
def law_road_goes_e0 : E := (.v 10)
def law_road_goes_c1 : Cn := (.e (.cmpv .NotIn (.v 10) 7))
def law_road_goes_e2 : E := (.v 9)
def law_road_goes_c3 : Cn := (.e (.cmpv .In (.v 8) 5))
def law_road_goes_b4 : Ss := (.cons
  (.par2 5 6 (.call "_law_faulty" (.cons (.ixv 0 (.v 3)) .nil)) (.call "_law_faulty" (.cons (.ixv 0 (.v 4)) .nil))) (.cons
  (.asg 7 (.op .Add (.bi .list (.cons (.v 5) .nil)) (.lc law_road_goes_e2 (.tup (.cons (.n 8) (.cons (.n 9) .nil))) (.val (.v 1)) (.so law_road_goes_c3) [("start", 8), ("end", 9)]))) (.cons
  (.ite (.or (.e (.cmp .Eq (.lenv 5) (.k (.int 0)))) (.e (.cmp .Eq (.bi .len (.cons (.lc law_road_goes_e0 (.n 10) (.val (.v 6)) (.so law_road_goes_c1) [("machine", 10)]) .nil)) (.k (.int 0))))) (.cons
  (.ex (.mth .append 2 (.cons (.tup (.cons (.v 3) (.cons (.v 4) .nil))) .nil))) .nil) .nil) .nil)))
def b_law_road_goes : Ss := (.cons
  (.asg 2 (.lst .nil)) (.cons
  (.for_ (.tup (.cons (.n 3) (.cons (.n 4) .nil))) (.val (.call "_law_all_goes" (.cons (.lenv 0) .nil))) law_road_goes_b4) (.cons
  (.ret (.bi .tuple (.cons (.v 2) .nil))) .nil)))
def d_law_road_goes : DefT := ⟨"_law_road_goes", topS 23, ["patterns", "roads"], ["patterns", "roads", "found", "one", "other", "ahead", "behind", "reached", "start", "end", "machine"], b_law_road_goes⟩
def law_ways_of_b0 : Ss := (.cons
  (.asg 2 (.op .FloorDiv (.op .Mult (.v 2) (.op .Sub (.v 0) (.v 3))) (.op .Add (.v 3) (.k (.int 1))))) .nil)
def b_law_ways_of : Ss := (.cons
  (.asg 2 (.k (.int 1))) (.cons
  (.for_ (.n 3) (.rng (.cons (.v 1) .nil)) law_ways_of_b0) (.cons
  (.ret (.v 2)) .nil)))
def d_law_ways_of : DefT := ⟨"_law_ways_of", topS 24, ["many", "taken"], ["many", "taken", "found", "turn"], b_law_ways_of⟩
def law_under_e0 : E := (.ixv 1 (.v 3))
def law_under_e1 : E := (.bi .tuple (.cons (.bi .sorted (.cons (.lc law_under_e0 (.n 3) (.val (.v 2)) .no [("machine", 3)]) .nil)) .nil))
def b_law_under : Ss := (.cons
  (.ret (.bi .tuple (.cons (.lc law_under_e1 (.n 2) (.val (.v 0)) .no [("side", 2)]) .nil))) .nil)
def d_law_under : DefT := ⟨"_law_under", topS 25, ["pattern", "places"], ["pattern", "places", "side", "machine"], b_law_under⟩
def law_e0 : E := (.tup (.cons (.v 27) (.cons (.v 26) .nil)))
def law_e1 : E := (.tup (.cons (.v 25) (.cons (.op .Mod (.bi .int (.cons (.op .Add (.v 25) (.k (.int 1))) .nil)) (.v 8)) .nil)))
def law_b2 : Ss := (.cons
  (.asg 20 (.ite (.e (.cmp .Eq (.call "_law_any" (.cons (.v 1) (.cons (.k (.int 2)) .nil))) (.k (.int 0)))) (.call "all_patterns" (.cons (.v 8) (.cons (.k (.int 1)) (.cons (.k (.int 0)) .nil)))) (.call "all_patterns" (.cons (.v 8) (.cons (.k (.int 0)) (.cons (.k (.int 1)) .nil)))))) (.cons
  (.asg 21 (.lc law_e1 (.n 25) (.rng (.cons (.v 8) .nil)) .no [("at", 25)])) (.cons
  (.asg 22 (.bi .tuple (.cons (.sset (.op .Add (.v 21) (.lc law_e0 (.tup (.cons (.n 26) (.cons (.n 27) .nil))) (.val (.v 21)) .no [("start", 26), ("end", 27)]))) .nil))) (.cons
  (.asg 2 (.op .Add (.v 2) (.lst (.cons (.tup (.cons (.lenv 20) (.cons (.op .Add (.v 8) (.k (.int 1))) .nil))) (.cons (.tup (.cons (.bi .len (.cons (.call "road_goes" (.cons (.v 20) (.cons (.bi .tuple (.cons (.v 21) .nil)) .nil))) .nil)) (.cons (.op .Add (.op .Mult (.k (.int 4)) (.v 8)) (.k (.int 1))) .nil))) .nil))))) (.cons
  (.asg 2 (.op .Add (.v 2) (.lst (.cons (.tup (.cons (.bi .len (.cons (.call "road_goes" (.cons (.v 20) (.cons (.v 22) .nil))) .nil)) (.cons (.ite (.e (.cmp .Gt (.v 8) (.k (.int 2)))) (.op .Add (.op .Mult (.k (.int 5)) (.v 8)) (.k (.int 1))) (.k (.int 9))) .nil))) (.cons (.tup (.cons (.bi .len (.cons (.call "road_goes" (.cons (.v 20) (.cons (.tup .nil) .nil))) .nil)) (.cons (.op .Add (.op .Mult (.k (.int 3)) (.v 8)) (.k (.int 1))) .nil))) .nil))))) .nil)))))
def law_e3 : E := (.tup (.cons (.v 25) (.cons (.ite (.e (.cmp .Lt (.op .Add (.v 25) (.k (.int 1))) (.v 4))) (.op .Add (.v 25) (.k (.int 1))) (.k (.int 0))) .nil)))
def law_e4 : E := (.tup (.cons (.ixv 15 (.v 10)) (.cons (.ixv 15 (.v 11)) .nil)))
def law_e5 : E := (.tup (.cons (.ixv 13 (.v 26)) (.cons (.ixv 13 (.v 27)) .nil)))
def law_b6 : Ss := (.cons
  (.asg 18 (.call "_law_road_goes" (.cons (.v 12) (.cons (.v 17) .nil)))) (.cons
  (.ex (.mth .append 2 (.cons (.tup (.cons (.ite (.e (.cmp .Eq (.v 3) (.k (.int 1)))) (.callk "road_goes" .nil ["roads", "patterns"] (.cons (.v 17) (.cons (.v 12) .nil)) [1, 0]) (.call "road_goes" (.cons (.v 12) (.cons (.v 17) .nil)))) (.cons (.v 18) .nil))) .nil))) (.cons
  (.asg 19 (.bi .tuple (.cons (.bi .sorted (.cons (.lc law_e5 (.tup (.cons (.n 26) (.cons (.n 27) .nil))) (.val (.v 17)) .no [("start", 26), ("end", 27)]) .nil)) .nil))) (.cons
  (.ex (.mth .append 2 (.cons (.tup (.cons (.call "road_goes" (.cons (.v 14) (.cons (.v 19) .nil))) (.cons (.bi .tuple (.cons (.bi .sorted (.cons (.lc law_e4 (.tup (.cons (.n 10) (.cons (.n 11) .nil))) (.val (.v 18)) .no [("one", 10), ("other", 11)]) .nil)) .nil)) .nil))) .nil))) .nil))))
def law_e7 : E := (.tup (.cons (.call "_law_any" (.cons (.v 1) (.cons (.v 4) .nil))) (.cons (.call "_law_any" (.cons (.v 1) (.cons (.v 4) .nil))) .nil)))
def law_e8 : E := (.sm .index (.v 14) (.call "_law_under" (.cons (.v 23) (.cons (.v 13) .nil))))
def law_e9 : E := (.call "_law_under" (.cons (.v 23) (.cons (.v 13) .nil)))
def law_e10 : E := (.tup (.cons (.ite (.e (.cmp .Eq (.v 3) (.k (.int 0)))) (.callk "faulty_ones" .nil ["pattern"] (.cons (.v 23) .nil) [0]) (.call "faulty_ones" (.cons (.v 23) .nil))) (.cons (.call "_law_faulty" (.cons (.v 23) .nil)) .nil)))
def law_b11 : Ss := (.cons
  (.asg 8 (.op .Add (.v 8) (.ite (.e (.cmp .Lt (.op .Add (.v 10) (.v 11)) (.v 4))) (.op .Mult (.call "_law_ways_of" (.cons (.v 4) (.cons (.v 10) .nil))) (.call "_law_ways_of" (.cons (.op .Sub (.v 4) (.v 10)) (.cons (.v 11) .nil)))) (.k (.int 0))))) .nil)
def law_b12 : Ss := (.cons
  (.par3 4 5 6 (.op .Add (.k (.int 1)) (.call "_law_any" (.cons (.v 1) (.cons (.k (.int 5)) .nil)))) (.call "_law_any" (.cons (.v 1) (.cons (.k (.int 4)) .nil))) (.call "_law_any" (.cons (.v 1) (.cons (.k (.int 4)) .nil)))) (.cons
  (.par2 7 8 (.call "_law_all_patterns" (.cons (.v 4) (.cons (.v 5) (.cons (.v 6) .nil)))) (.k (.int 0))) (.cons
  (.asg 9 (.ite (.e (.cmp .Gt (.v 3) (.k (.int 0)))) (.call "all_patterns" (.cons (.v 4) (.cons (.v 5) (.cons (.v 6) .nil)))) (.callk "all_patterns" .nil ["liars", "silent", "machines"] (.cons (.v 6) (.cons (.v 5) (.cons (.v 4) .nil))) [2, 1, 0]))) (.cons
  (.for_ (.tup (.cons (.n 10) (.cons (.n 11) .nil))) (.val (.call "_law_pairs" (.cons (.lrng (.cons (.op .Add (.v 5) (.k (.int 1))) .nil)) (.cons (.lrng (.cons (.op .Add (.v 6) (.k (.int 1))) .nil)) .nil)))) law_b11) (.cons
  (.asg 2 (.op .Add (.v 2) (.lst (.cons (.tup (.cons (.v 9) (.cons (.v 7) .nil))) (.cons (.tup (.cons (.lenv 9) (.cons (.v 8) .nil))) .nil))))) (.cons
  (.asg 12 (.bi .tuple (.cons (.bi .sorted (.cons (.sl (.call "_law_mixed" (.cons (.v 1) (.cons (.bi .list (.cons (.v 7) .nil)) .nil))) .no (.so (.k (.int 7)))) .nil)) .nil))) (.cons
  (.asg 2 (.op .Add (.v 2) (.lc law_e10 (.n 23) (.val (.v 12)) .no [("pattern", 23)]))) (.cons
  (.ex (.mth .append 2 (.cons (.tup (.cons (.ite (.e (.cmp .Eq (.v 3) (.k (.int 0)))) (.callk "all_goes" .nil ["patterns"] (.cons (.v 12) .nil) [0]) (.call "all_goes" (.cons (.v 12) .nil))) (.cons (.call "_law_all_goes" (.cons (.lenv 12) .nil)) .nil))) .nil))) (.cons
  (.asg 13 (.call "_law_mixed" (.cons (.v 1) (.cons (.lrng (.cons (.v 4) .nil)) .nil)))) (.cons
  (.asg 14 (.bi .tuple (.cons (.bi .sorted (.cons (.lc law_e9 (.n 23) (.val (.v 12)) .no [("pattern", 23)]) .nil)) .nil))) (.cons
  (.asg 15 (.lc law_e8 (.n 23) (.val (.v 12)) .no [("pattern", 23)])) (.cons
  (.asg 16 (.bi .tuple (.cons (.sset (.lc law_e7 (.n 24) (.rng (.cons (.call "_law_any" (.cons (.v 1) (.cons (.k (.int 7)) .nil))) .nil)) .no [("again", 24)])) .nil))) (.cons
  (.for_ (.n 17) (.val (.lst (.cons (.v 16) (.cons (.tup .nil) (.cons (.bi .tuple (.cons (.lc law_e3 (.n 25) (.rng (.cons (.v 4) .nil)) .no [("at", 25)]) .nil)) .nil))))) law_b6) .nil)))))))))))))
def b_law : Ss := (.cons
  (.par2 1 2 (.call "_law_deal" (.cons (.v 0) (.cons (.k (.int 8835)) .nil))) (.lst .nil)) (.cons
  (.for_ (.n 3) (.rng (.cons (.k (.int 5)) .nil)) law_b12) (.cons
  (.for_ (.n 8) (.rng (.cons (.k (.int 2)) (.cons (.k (.int 7)) .nil))) law_b2) (.cons
  (.asg 2 (.op .Add (.v 2) (.lst (.cons (.tup (.cons (.call "all_patterns" (.cons (.k (.int 6)) (.cons (.k (.int 0)) (.cons (.k (.int 0)) .nil)))) (.cons (.tup (.cons (.tup (.cons (.tup .nil) (.cons (.tup .nil) .nil))) .nil)) .nil))) (.cons (.tup (.cons (.bi .len (.cons (.call "all_patterns" (.cons (.k (.int 6)) (.cons (.k (.int 1)) (.cons (.k (.int 1)) .nil)))) .nil)) (.cons (.op .Add (.op .Add (.op .Add (.k (.int 1)) (.k (.int 6))) (.k (.int 6))) (.k (.int 30))) .nil))) (.cons (.tup (.cons (.call "faulty_ones" (.cons (.tup (.cons (.tup (.cons (.k (.int 3)) .nil)) (.cons (.tup (.cons (.k (.int 0)) (.cons (.k (.int 5)) .nil))) .nil))) .nil)) (.cons (.tup (.cons (.k (.int 0)) (.cons (.k (.int 3)) (.cons (.k (.int 5)) .nil)))) .nil))) .nil)))))) (.cons
  (.ret (.call "_law_all" (.cons (.op .Add (.v 2) (.lst (.cons (.tup (.cons (.call "all_goes" (.cons (.tup (.cons (.tup (.cons (.tup .nil) (.cons (.tup .nil) .nil))) .nil)) .nil)) (.cons (.tup (.cons (.tup (.cons (.k (.int 0)) (.cons (.k (.int 0)) .nil))) .nil)) .nil))) .nil))) .nil))) .nil)))))
def d_law : DefT := ⟨"law", topS 26, ["script"], ["script", "deal", "pairs", "turn", "machines", "silent", "liars", "due", "many", "told", "one", "other", "some", "places", "others", "moved", "roads", "late", "goes", "under", "ones", "there", "both", "pattern", "again", "at", "start", "end"], b_law⟩
def ds : List DefT := [d_all_lots, d_faulty_ones, d_is_apart, d_all_patterns, d_all_goes, d_ends_of_roads, d_may_go, d_road_goes, d_law_deal, d_law_any, d_law_mixed, d_law_is_kind, d_law_same, d_law_all, d_law_rows_of, d_law_pairs, d_law_faulty, d_law_all_patterns, d_law_all_goes, d_law_road_goes, d_law_ways_of, d_law_under, d_law]
def cs : List (Str × D) := [("NOBODY", (.tup [(.tup []), (.tup [])]))]
def ks : List KW := [("all_goes", 0, ["patterns"], [0]), ("all_patterns", 0, ["liars", "silent", "machines"], [2, 1, 0]), ("faulty_ones", 0, ["pattern"], [0]), ("road_goes", 0, ["roads", "patterns"], [1, 0])]
abbrev Fc (k : Nat) : Str → List D → Sto → Option (Bool × D × Sto) := callN (progOf ds) (gOf cs) k
theorem nd_all : (ds.map (·.nm)).Nodup := by decide +kernel
theorem q_all_lots (k : Nat) : Fc (k + 1) "all_lots" = runF ⟨Fc k, gOf cs⟩ ⟨["machines", "many"], 9, b_all_lots⟩ := call_of nd_all (d := d_all_lots) (List.mem_of_getElem? (i := 0) rfl)
theorem q_faulty_ones (k : Nat) : Fc (k + 1) "faulty_ones" = runF ⟨Fc k, gOf cs⟩ ⟨["pattern"], 1, b_faulty_ones⟩ := call_of nd_all (d := d_faulty_ones) (List.mem_of_getElem? (i := 1) rfl)
theorem q_is_apart (k : Nat) : Fc (k + 1) "is_apart" = runF ⟨Fc k, gOf cs⟩ ⟨["silent", "liars"], 3, b_is_apart⟩ := call_of nd_all (d := d_is_apart) (List.mem_of_getElem? (i := 2) rfl)
theorem q_all_patterns (k : Nat) : Fc (k + 1) "all_patterns" = runF ⟨Fc k, gOf cs⟩ ⟨["machines", "silent", "liars"], 6, b_all_patterns⟩ := call_of nd_all (d := d_all_patterns) (List.mem_of_getElem? (i := 3) rfl)
theorem q_all_goes (k : Nat) : Fc (k + 1) "all_goes" = runF ⟨Fc k, gOf cs⟩ ⟨["patterns"], 4, b_all_goes⟩ := call_of nd_all (d := d_all_goes) (List.mem_of_getElem? (i := 4) rfl)
theorem q_ends_of_roads (k : Nat) : Fc (k + 1) "ends_of_roads" = runF ⟨Fc k, gOf cs⟩ ⟨["lot", "roads"], 4, b_ends_of_roads⟩ := call_of nd_all (d := d_ends_of_roads) (List.mem_of_getElem? (i := 5) rfl)
theorem q_may_go (k : Nat) : Fc (k + 1) "may_go" = runF ⟨Fc k, gOf cs⟩ ⟨["one", "other", "roads"], 5, b_may_go⟩ := call_of nd_all (d := d_may_go) (List.mem_of_getElem? (i := 6) rfl)
theorem q_road_goes (k : Nat) : Fc (k + 1) "road_goes" = runF ⟨Fc k, gOf cs⟩ ⟨["patterns", "roads"], 7, b_road_goes⟩ := call_of nd_all (d := d_road_goes) (List.mem_of_getElem? (i := 7) rfl)
theorem q_law_deal (k : Nat) : Fc (k + 1) "_law_deal" = runF ⟨Fc k, gOf cs⟩ ⟨["script", "salt"], 6, b_law_deal⟩ := call_of nd_all (d := d_law_deal) (List.mem_of_getElem? (i := 8) rfl)
theorem q_law_any (k : Nat) : Fc (k + 1) "_law_any" = runF ⟨Fc k, gOf cs⟩ ⟨["deal", "bound"], 3, b_law_any⟩ := call_of nd_all (d := d_law_any) (List.mem_of_getElem? (i := 9) rfl)
theorem q_law_mixed (k : Nat) : Fc (k + 1) "_law_mixed" = runF ⟨Fc k, gOf cs⟩ ⟨["deal", "some"], 5, b_law_mixed⟩ := call_of nd_all (d := d_law_mixed) (List.mem_of_getElem? (i := 10) rfl)
theorem q_law_is_kind (k : Nat) : Fc (k + 1) "_law_is_kind" = runF ⟨Fc k, gOf cs⟩ ⟨["told", "due"], 2, b_law_is_kind⟩ := call_of nd_all (d := d_law_is_kind) (List.mem_of_getElem? (i := 11) rfl)
theorem q_law_same (k : Nat) : Fc (k + 1) "_law_same" = runF ⟨Fc k, gOf cs⟩ ⟨["told", "due"], 5, b_law_same⟩ := call_of nd_all (d := d_law_same) (List.mem_of_getElem? (i := 12) rfl)
theorem q_law_all (k : Nat) : Fc (k + 1) "_law_all" = runF ⟨Fc k, gOf cs⟩ ⟨["pairs"], 3, b_law_all⟩ := call_of nd_all (d := d_law_all) (List.mem_of_getElem? (i := 13) rfl)
theorem q_law_rows_of (k : Nat) : Fc (k + 1) "_law_rows_of" = runF ⟨Fc k, gOf cs⟩ ⟨["lots"], 6, b_law_rows_of⟩ := call_of nd_all (d := d_law_rows_of) (List.mem_of_getElem? (i := 14) rfl)
theorem q_law_pairs (k : Nat) : Fc (k + 1) "_law_pairs" = runF ⟨Fc k, gOf cs⟩ ⟨["ones", "others"], 5, b_law_pairs⟩ := call_of nd_all (d := d_law_pairs) (List.mem_of_getElem? (i := 15) rfl)
theorem q_law_faulty (k : Nat) : Fc (k + 1) "_law_faulty" = runF ⟨Fc k, gOf cs⟩ ⟨["pattern"], 1, b_law_faulty⟩ := call_of nd_all (d := d_law_faulty) (List.mem_of_getElem? (i := 16) rfl)
theorem q_law_all_patterns (k : Nat) : Fc (k + 1) "_law_all_patterns" = runF ⟨Fc k, gOf cs⟩ ⟨["many", "silent", "liars"], 6, b_law_all_patterns⟩ := call_of nd_all (d := d_law_all_patterns) (List.mem_of_getElem? (i := 17) rfl)
theorem q_law_all_goes (k : Nat) : Fc (k + 1) "_law_all_goes" = runF ⟨Fc k, gOf cs⟩ ⟨["many"], 1, b_law_all_goes⟩ := call_of nd_all (d := d_law_all_goes) (List.mem_of_getElem? (i := 18) rfl)
theorem q_law_road_goes (k : Nat) : Fc (k + 1) "_law_road_goes" = runF ⟨Fc k, gOf cs⟩ ⟨["patterns", "roads"], 11, b_law_road_goes⟩ := call_of nd_all (d := d_law_road_goes) (List.mem_of_getElem? (i := 19) rfl)
theorem q_law_ways_of (k : Nat) : Fc (k + 1) "_law_ways_of" = runF ⟨Fc k, gOf cs⟩ ⟨["many", "taken"], 4, b_law_ways_of⟩ := call_of nd_all (d := d_law_ways_of) (List.mem_of_getElem? (i := 20) rfl)
theorem q_law_under (k : Nat) : Fc (k + 1) "_law_under" = runF ⟨Fc k, gOf cs⟩ ⟨["pattern", "places"], 4, b_law_under⟩ := call_of nd_all (d := d_law_under) (List.mem_of_getElem? (i := 21) rfl)
theorem q_law (k : Nat) : Fc (k + 1) "law" = runF ⟨Fc k, gOf cs⟩ ⟨["script"], 28, b_law⟩ := call_of nd_all (d := d_law) (List.mem_of_getElem? (i := 22) rfl)
end Lk35

namespace Lk35
open PySem PySem.Spec PyProof.Rows L2 Pv
abbrev T (k : Nat) : Tb := ⟨Fc k, gOf cs⟩
theorem anyOk (k : Nat) : AnyOk (T (k + 1)) := fun b st h0 hb hd => by
  show ∃ r st', Fc (k + 1) "_law_any" [.hd 1, .int b] st = some (false, .int r, st') ∧ _
  rw [q_law_any]
  exact any_ok (T k) ["deal", "bound"] rfl hd h0 hb
theorem kindOk (k : Nat) : KindOk (T (k + 1)) := fun st d h ht => by
  show Fc (k + 1) "_law_is_kind" [d, d] st = _
  rw [q_law_is_kind]
  exact kind_ok (T k) ["told", "due"] rfl st h ht
theorem sameOk (k : Nat) : SameOk (T (k + 2)) := fun st d h hw => by
  show Fc (k + 2) "_law_same" [d, d] st = _
  rw [q_law_same]
  exact same2_ok (kindOk k) ["told", "due"] rfl st h hw
theorem all_run (k : Nat) (st : Sto) {xs : List D} (h : Prs xs) : Fc (k + 3) "_law_all" [.lst xs] st = some (false, .bl true, st) := by
  rw [q_law_all]
  exact all_ok (sameOk k) ["pairs"] rfl st h
theorem deal_run (k : Nat) (ns : List Int) (hl : ns.length ≤ 63) : ∃ st, Fc (k + 1) "_law_deal" [.scr ns, .int 8835] [] = some (false, .hd 1, st) ∧ Deal st := by
  rw [q_law_deal]
  exact deal2_ok (salt := 8835) ["script", "salt"] rfl ns hl (by decide) (by decide)
theorem mixOk (k : Nat) : MixOk (T (k + 2)) := fun α enc xs st hx hd => by
  show ∃ (ys : List α) (st' : Sto), Fc (k + 2) "_law_mixed" [.hd 1, .lst (xs.map enc)] st = some (true, .lst (ys.map enc), st') ∧ _
  rw [q_law_mixed]
  exact mixed_ok (anyOk k) ["deal", "some"] rfl xs hx hd
/-! ## what is told of a pattern -/
abbrev Pat := List (List Int)
/-- a pattern: two lots -/
def PatOk (p : Pat) : Prop := ∃ a b : List Int, p = [a, b] ∧ a.length ≤ 100 ∧ b.length ≤ 100
def faulty : Pat → List Int
  | [a, b] => srt ltI (a ++ b)
  | _ => []
theorem faulty_run (k : Nat) (st : Sto) {p : Pat} (h : PatOk p) : Fc (k + 1) "faulty_ones" [tP p] st = some (false, tupI (faulty p), st) := by
  obtain ⟨a, b, rfl, ha, hb⟩ := h
  rw [q_faulty_ones]
  refine run_rt (ρ1 := [.val (tP [a, b])]) (n := 0) rfl rfl ?_
  have o := Enc.int.ord (by decide) (a ++ b)
  have s := Enc.int.sort (a ++ b)
  have hl : a.length + b.length ≤ lim := by unfold lim; omega
  rw [List.map_append] at o s
  exact sqr (by simp [exSs, exS, evE, evEs, evT, Pv.evI, evC, evTg, evTgs, evO, vv, up, one, retE, Option.bind_eq_bind, Option.bind_some, Option.map_some, Option.pure_def, List.getElem?_cons_zero, List.getElem?_cons_succ, List.set_cons_zero, List.set_cons_succ, asgN, asgSub, setIx, opD, addD, mulD, biD, cmpD, ixD, ixL, lenD, slotSeq, slotLst, truD, List.length_cons, List.length_nil, if_true, if_false, Bool.false_eq_true, reduceIte, mthHR, mthR, mtD, slD, seqOf, wipeE, Tgs.len, Pv.unpack, Option.map_none, Option.bind_none, augD, revD, List.map_cons, List.map_nil, isiD, ty, List.any_cons, List.any_nil, tupE, tupI, at0, at1, hl, o, s, faulty])
theorem lfaulty_run (k : Nat) (st : Sto) {p : Pat} (h : PatOk p) : Fc (k + 1) "_law_faulty" [tP p] st = some (false, tupI (faulty p), st) := by
  obtain ⟨a, b, rfl, ha, hb⟩ := h
  rw [q_law_faulty]
  refine run_rt (ρ1 := [.val (tP [a, b])]) (n := 0) rfl rfl ?_
  have o := Enc.int.ord (by decide) (a ++ b)
  have s := Enc.int.sort (a ++ b)
  have hl : a.length + b.length ≤ lim := by unfold lim; omega
  rw [List.map_append] at o s
  exact sqr (by simp [exSs, exS, evE, evEs, evT, Pv.evI, evC, evTg, evTgs, evO, vv, up, one, retE, Option.bind_eq_bind, Option.bind_some, Option.map_some, Option.pure_def, List.getElem?_cons_zero, List.getElem?_cons_succ, List.set_cons_zero, List.set_cons_succ, asgN, asgSub, setIx, opD, addD, mulD, biD, cmpD, ixD, ixL, lenD, slotSeq, slotLst, truD, List.length_cons, List.length_nil, if_true, if_false, Bool.false_eq_true, reduceIte, mthHR, mthR, mtD, slD, seqOf, wipeE, Tgs.len, Pv.unpack, Option.map_none, Option.bind_none, augD, revD, List.map_cons, List.map_nil, isiD, ty, List.any_cons, List.any_nil, tupE, tupI, at0, at1, hl, o, s, faulty])
/-! ## all pairs -/
def pairsL {α : Type} (as bs : List α) : List (List α) := as.flatMap fun a => bs.map fun b => [a, b]
theorem pairsL_len {α : Type} (as bs : List α) : (pairsL as bs).length = as.length * bs.length := by
  unfold pairsL
  induction as with
  | nil => simp
  | cons a as ih => rw [List.flatMap_cons, List.length_append, ih, List.length_map, List.length_cons, Nat.succ_mul, Nat.add_comm]
theorem filt {α : Type} (xs : List α) : (xs.filter fun _ => true) = xs := by simp
theorem lpairs_loop {k : Nat} {α : Type} {enc : α → D} (bs : List α) (st : Sto) (s0 : Sl) : ∀ (as : List α) (acc : List D) (s3 : Sl), acc.length + as.length * bs.length ≤ lim → bs.length ≤ lim →
    ∃ s', forL (evTg (T k) (.n 3)) (exSs (T k) law_pairs_b1) (as.map enc) [s0, .val (.lst (bs.map enc)), .own acc, s3, .no] st = some (.nx, [s0, .val (.lst (bs.map enc)), .own (acc ++ (pairsL as bs).map (tupE enc)), s', .no], st)
  | [], acc, s3, _, _ => ⟨s3, by simp [forL, pairsL]⟩
  | a :: as, acc, s3, hl, hb => by
    rw [List.length_cons, Nat.succ_mul] at hl
    obtain ⟨s', ih⟩ := lpairs_loop (k := k) (enc := enc) bs st s0 as (acc ++ (bs.map fun b => [a, b]).map (tupE enc)) (.val (enc a)) (by simp; omega) hb
    refine ⟨s', ?_⟩
    have e1 : evTg (T k) (.n 3) (enc a) [s0, .val (.lst (bs.map enc)), .own acc, s3, .no] st = some ([s0, .val (.lst (bs.map enc)), .own acc, .val (enc a), .no], st) := by simp [exSs, exS, evE, evEs, evT, Pv.evI, evC, evTg, evTgs, evO, vv, up, one, retE, Option.bind_eq_bind, Option.bind_some, Option.map_some, Option.pure_def, List.getElem?_cons_zero, List.getElem?_cons_succ, List.set_cons_zero, List.set_cons_succ, asgN, asgSub, setIx, opD, addD, mulD, biD, cmpD, ixD, ixL, lenD, slotSeq, slotLst, truD, List.length_cons, List.length_nil, if_true, if_false, Bool.false_eq_true, reduceIte, mthHR, mthR, mtD, slD, seqOf, wipeE, Tgs.len, Pv.unpack, Option.map_none, Option.bind_none, augD, revD, List.map_cons, List.map_nil, isiD, ty, List.any_cons, List.any_nil]
    have l1 : evE (T k) (.lc law_pairs_e0 (.n 4) (.val (.v 1)) .no [("other", 4)]) [s0, .val (.lst (bs.map enc)), .val (.lst acc), .val (enc a), .no] st = some (true, .lst ((bs.filter fun _ => true).map fun b => tupE enc [a, b]), [s0, .val (.lst (bs.map enc)), .val (.lst acc), .val (enc a), .no], st) :=
      ev_fm (enc := enc) bs (fun _ => true) (fun b => tupE enc [a, b]) (fun b => [s0, .val (.lst (bs.map enc)), .val (.lst acc), .val (enc a), .val (enc b)]) (by simp [exSs, exS, evE, evEs, evT, Pv.evI, evC, evTg, evTgs, evO, vv, up, one, retE, Option.bind_eq_bind, Option.bind_some, Option.map_some, Option.pure_def, List.getElem?_cons_zero, List.getElem?_cons_succ, List.set_cons_zero, List.set_cons_succ, asgN, asgSub, setIx, opD, addD, mulD, biD, cmpD, ixD, ixL, lenD, slotSeq, slotLst, truD, List.length_cons, List.length_nil, if_true, if_false, Bool.false_eq_true, reduceIte, mthHR, mthR, mtD, slD, seqOf, wipeE, Tgs.len, Pv.unpack, Option.map_none, Option.bind_none, augD, revD, List.map_cons, List.map_nil, isiD, ty, List.any_cons, List.any_nil]) (by simp [exSs, exS, evE, evEs, evT, Pv.evI, evC, evTg, evTgs, evO, vv, up, one, retE, Option.bind_eq_bind, Option.bind_some, Option.map_some, Option.pure_def, List.getElem?_cons_zero, List.getElem?_cons_succ, List.set_cons_zero, List.set_cons_succ, asgN, asgSub, setIx, opD, addD, mulD, biD, cmpD, ixD, ixL, lenD, slotSeq, slotLst, truD, List.length_cons, List.length_nil, if_true, if_false, Bool.false_eq_true, reduceIte, mthHR, mthR, mtD, slD, seqOf, wipeE, Tgs.len, Pv.unpack, Option.map_none, Option.bind_none, augD, revD, List.map_cons, List.map_nil, isiD, ty, List.any_cons, List.any_nil]) hb fun b _ => ⟨by simp [exSs, exS, evE, evEs, evT, Pv.evI, evC, evTg, evTgs, evO, vv, up, one, retE, Option.bind_eq_bind, Option.bind_some, Option.map_some, Option.pure_def, List.getElem?_cons_zero, List.getElem?_cons_succ, List.set_cons_zero, List.set_cons_succ, asgN, asgSub, setIx, opD, addD, mulD, biD, cmpD, ixD, ixL, lenD, slotSeq, slotLst, truD, List.length_cons, List.length_nil, if_true, if_false, Bool.false_eq_true, reduceIte, mthHR, mthR, mtD, slD, seqOf, wipeE, Tgs.len, Pv.unpack, Option.map_none, Option.bind_none, augD, revD, List.map_cons, List.map_nil, isiD, ty, List.any_cons, List.any_nil], by simp [exSs, exS, evE, evEs, evT, Pv.evI, evC, evTg, evTgs, evO, vv, up, one, retE, Option.bind_eq_bind, Option.bind_some, Option.map_some, Option.pure_def, List.getElem?_cons_zero, List.getElem?_cons_succ, List.set_cons_zero, List.set_cons_succ, asgN, asgSub, setIx, opD, addD, mulD, biD, cmpD, ixD, ixL, lenD, slotSeq, slotLst, truD, List.length_cons, List.length_nil, if_true, if_false, Bool.false_eq_true, reduceIte, mthHR, mthR, mtD, slD, seqOf, wipeE, Tgs.len, Pv.unpack, Option.map_none, Option.bind_none, augD, revD, List.map_cons, List.map_nil, isiD, ty, List.any_cons, List.any_nil], fun _ => by simp [law_pairs_e0, exSs, exS, evE, evEs, evT, Pv.evI, evC, evTg, evTgs, evO, vv, up, one, retE, Option.bind_eq_bind, Option.bind_some, Option.map_some, Option.pure_def, List.getElem?_cons_zero, List.getElem?_cons_succ, List.set_cons_zero, List.set_cons_succ, asgN, asgSub, setIx, opD, addD, mulD, biD, cmpD, ixD, ixL, lenD, slotSeq, slotLst, truD, List.length_cons, List.length_nil, if_true, if_false, Bool.false_eq_true, reduceIte, mthHR, mthR, mtD, slD, seqOf, wipeE, Tgs.len, Pv.unpack, Option.map_none, Option.bind_none, augD, revD, List.map_cons, List.map_nil, isiD, ty, List.any_cons, List.any_nil, tupE, show (2 : Nat) ≤ lim by decide], by simp [exSs, exS, evE, evEs, evT, Pv.evI, evC, evTg, evTgs, evO, vv, up, one, retE, Option.bind_eq_bind, Option.bind_some, Option.map_some, Option.pure_def, List.getElem?_cons_zero, List.getElem?_cons_succ, List.set_cons_zero, List.set_cons_succ, asgN, asgSub, setIx, opD, addD, mulD, biD, cmpD, ixD, ixL, lenD, slotSeq, slotLst, truD, List.length_cons, List.length_nil, if_true, if_false, Bool.false_eq_true, reduceIte, mthHR, mthR, mtD, slD, seqOf, wipeE, Tgs.len, Pv.unpack, Option.map_none, Option.bind_none, augD, revD, List.map_cons, List.map_nil, isiD, ty, List.any_cons, List.any_nil]⟩
    rw [filt] at l1
    have e2 : exSs (T k) law_pairs_b1 [s0, .val (.lst (bs.map enc)), .own acc, .val (enc a), .no] st = some (.nx, [s0, .val (.lst (bs.map enc)), .own (acc ++ (bs.map fun b => [a, b]).map (tupE enc)), .val (enc a), .no], st) := by
      unfold law_pairs_b1
      generalize E.lc law_pairs_e0 _ _ _ _ = LC at l1 ⊢
      have hlim : acc.length + bs.length ≤ lim := by omega
      exact sq1 (by simp [exSs, exS, evE, evEs, evT, Pv.evI, evC, evTg, evTgs, evO, vv, up, one, retE, Option.bind_eq_bind, Option.bind_some, Option.map_some, Option.pure_def, List.getElem?_cons_zero, List.getElem?_cons_succ, List.set_cons_zero, List.set_cons_succ, asgN, asgSub, setIx, opD, addD, mulD, biD, cmpD, ixD, ixL, lenD, slotSeq, slotLst, truD, List.length_cons, List.length_nil, if_true, if_false, Bool.false_eq_true, reduceIte, mthHR, mthR, mtD, slD, seqOf, wipeE, Tgs.len, Pv.unpack, Option.map_none, Option.bind_none, augD, revD, List.map_cons, List.map_nil, isiD, ty, List.any_cons, List.any_nil, l1, hlim, Function.comp_def])
    simp only [List.map_cons, forL, e1, e2, Option.bind_eq_bind, Option.bind_some, ih]
    simp [pairsL]
theorem lpairs_run (k : Nat) (st : Sto) {α : Type} {enc : α → D} (as bs : List α) (h : as.length * bs.length ≤ lim) (hb : bs.length ≤ lim) : Fc (k + 1) "_law_pairs" [.lst (as.map enc), .lst (bs.map enc)] st = some (true, .lst ((pairsL as bs).map (tupE enc)), st) := by
  rw [q_law_pairs]
  obtain ⟨s', e⟩ := lpairs_loop (k := k) (enc := enc) bs st (.val (.lst (as.map enc))) as [] .no (by simpa using h) hb
  refine run_rt (ρ1 := [.val (.lst (as.map enc)), .val (.lst (bs.map enc)), .no, s', .no]) (n := 3) rfl rfl ?_
  unfold b_law_pairs
  refine (sq (ρ1 := [.val (.lst (as.map enc)), .val (.lst (bs.map enc)), .own [], .no, .no]) (st1 := st) (by simp [exSs, exS, evE, evEs, evT, Pv.evI, evC, evTg, evTgs, evO, vv, up, one, retE, Option.bind_eq_bind, Option.bind_some, Option.map_some, Option.pure_def, List.getElem?_cons_zero, List.getElem?_cons_succ, List.set_cons_zero, List.set_cons_succ, asgN, asgSub, setIx, opD, addD, mulD, biD, cmpD, ixD, ixL, lenD, slotSeq, slotLst, truD, List.length_cons, List.length_nil, if_true, if_false, Bool.false_eq_true, reduceIte, mthHR, mthR, mtD, slD, seqOf, wipeE, Tgs.len, Pv.unpack, Option.map_none, Option.bind_none, augD, revD, List.map_cons, List.map_nil, isiD, ty, List.any_cons, List.any_nil])).trans ?_
  refine (sq (ex_for (xs := as.map enc) (ρ1 := [.val (.lst (as.map enc)), .val (.lst (bs.map enc)), .own [], .no, .no]) (st1 := st) (by simp [exSs, exS, evE, evEs, evT, Pv.evI, evC, evTg, evTgs, evO, vv, up, one, retE, Option.bind_eq_bind, Option.bind_some, Option.map_some, Option.pure_def, List.getElem?_cons_zero, List.getElem?_cons_succ, List.set_cons_zero, List.set_cons_succ, asgN, asgSub, setIx, opD, addD, mulD, biD, cmpD, ixD, ixL, lenD, slotSeq, slotLst, truD, List.length_cons, List.length_nil, if_true, if_false, Bool.false_eq_true, reduceIte, mthHR, mthR, mtD, slD, seqOf, wipeE, Tgs.len, Pv.unpack, Option.map_none, Option.bind_none, augD, revD, List.map_cons, List.map_nil, isiD, ty, List.any_cons, List.any_nil]) e)).trans ?_
  exact sqr (by simp [exSs, exS, evE, evEs, evT, Pv.evI, evC, evTg, evTgs, evO, vv, up, one, retE, Option.bind_eq_bind, Option.bind_some, Option.map_some, Option.pure_def, List.getElem?_cons_zero, List.getElem?_cons_succ, List.set_cons_zero, List.set_cons_succ, asgN, asgSub, setIx, opD, addD, mulD, biD, cmpD, ixD, ixL, lenD, slotSeq, slotLst, truD, List.length_cons, List.length_nil, if_true, if_false, Bool.false_eq_true, reduceIte, mthHR, mthR, mtD, slD, seqOf, wipeE, Tgs.len, Pv.unpack, Option.map_none, Option.bind_none, augD, revD, List.map_cons, List.map_nil, isiD, ty, List.any_cons, List.any_nil])
def upto (n : Nat) : List Int := (List.range n).map Int.ofNat
theorem upto_len (n : Nat) : (upto n).length = n := by simp [upto]
theorem rng_upto {n : Nat} : rngL 0 (n : Int) 1 = (upto n).map D.int := by
  have := rngL_nat (a := 0) (b := n)
  rw [show ((0 : Nat) : Int) = 0 from rfl] at this
  rw [this, Nat.sub_zero, ← List.range_eq_range', upto, List.map_map]; rfl
def goesN (n : Nat) : List (List Int) := pairsL (upto n) (upto n)
theorem lgoes_run (k : Nat) (st : Sto) (n : Nat) (hn : n ≤ 100) : Fc (k + 2) "_law_all_goes" [.int (n : Nat)] st = some (false, tP (goesN n), st) := by
  rw [q_law_all_goes]
  refine run_rt (ρ1 := [.val (.int (n : Nat))]) (n := 0) rfl rfl ?_
  have hm : n * n ≤ 10000 := Nat.mul_le_mul hn hn
  have hlim : n ≤ lim := by unfold lim; omega
  have e := lpairs_run k st (enc := D.int) (upto n) (upto n) (by rw [upto_len]; unfold lim; omega) (by rw [upto_len]; exact hlim)
  unfold b_law_all_goes
  exact sqr (by simp [exSs, exS, evE, evEs, evT, Pv.evI, evC, evTg, evTgs, evO, vv, up, one, retE, Option.bind_eq_bind, Option.bind_some, Option.map_some, Option.pure_def, List.getElem?_cons_zero, List.getElem?_cons_succ, List.set_cons_zero, List.set_cons_succ, asgN, asgSub, setIx, opD, addD, mulD, biD, cmpD, ixD, ixL, lenD, slotSeq, slotLst, truD, List.length_cons, List.length_nil, if_true, if_false, Bool.false_eq_true, reduceIte, mthHR, mthR, mtD, slD, seqOf, wipeE, Tgs.len, Pv.unpack, Option.map_none, Option.bind_none, augD, revD, List.map_cons, List.map_nil, isiD, ty, List.any_cons, List.any_nil, rngD1 (n := n) (by omega) (by omega), rng_upto, upto_len, hlim, e, goesN]; rfl)
theorem lc2_run {k : Nat} (bs : List Int) (s0 : Sl) (st : Sto) (hb : bs.length ≤ 1000) : ∀ (as : List Int) (acc : List D), acc.length + as.length * bs.length ≤ lim →
    lcL2 (evTg (T k) (.n 2)) (evC (T k) .no) (Pv.evI (T k) (.val (.v 1))) (lcL (evTg (T k) (.n 3)) (evC (T k) .no) (fun ρ st => vv (evE (T k) all_goes_e0 ρ st)) [3]) [2, 3] [3] (as.map D.int) acc [s0, .val (.lst (bs.map D.int)), .no, .no] st =
      some (acc ++ (pairsL as bs).map tupI, [s0, .val (.lst (bs.map D.int)), .no, .no], st)
  | [], acc, _ => by simp [lcL2, pairsL]
  | a :: as, acc, hl => by
    rw [List.length_cons, Nat.succ_mul] at hl
    have ih := lc2_run (k := k) bs s0 st hb as (acc ++ (bs.map fun b => [a, b]).map tupI) (by simp; omega)
    have i1 : lcL (evTg (T k) (.n 3)) (evC (T k) .no) (fun ρ st => vv (evE (T k) all_goes_e0 ρ st)) [3] (bs.map D.int) acc [s0, .val (.lst (bs.map D.int)), .val (.int a), .no] st = some (acc ++ (bs.filter fun _ => true).map fun b => tupI [a, b], [s0, .val (.lst (bs.map D.int)), .val (.int a), .no], st) :=
      lc_fm (fun _ => true) (fun b => tupI [a, b]) (fun b => [s0, .val (.lst (bs.map D.int)), .val (.int a), .val (.int b)]) bs acc (fun b _ => ⟨by simp [exSs, exS, evE, evEs, evT, Pv.evI, evC, evTg, evTgs, evO, vv, up, one, retE, Option.bind_eq_bind, Option.bind_some, Option.map_some, Option.pure_def, List.getElem?_cons_zero, List.getElem?_cons_succ, List.set_cons_zero, List.set_cons_succ, asgN, asgSub, setIx, opD, addD, mulD, biD, cmpD, ixD, ixL, lenD, slotSeq, slotLst, truD, List.length_cons, List.length_nil, if_true, if_false, Bool.false_eq_true, reduceIte, mthHR, mthR, mtD, slD, seqOf, wipeE, Tgs.len, Pv.unpack, Option.map_none, Option.bind_none, augD, revD, List.map_cons, List.map_nil, isiD, ty, List.any_cons, List.any_nil], by simp [exSs, exS, evE, evEs, evT, Pv.evI, evC, evTg, evTgs, evO, vv, up, one, retE, Option.bind_eq_bind, Option.bind_some, Option.map_some, Option.pure_def, List.getElem?_cons_zero, List.getElem?_cons_succ, List.set_cons_zero, List.set_cons_succ, asgN, asgSub, setIx, opD, addD, mulD, biD, cmpD, ixD, ixL, lenD, slotSeq, slotLst, truD, List.length_cons, List.length_nil, if_true, if_false, Bool.false_eq_true, reduceIte, mthHR, mthR, mtD, slD, seqOf, wipeE, Tgs.len, Pv.unpack, Option.map_none, Option.bind_none, augD, revD, List.map_cons, List.map_nil, isiD, ty, List.any_cons, List.any_nil], fun _ => by simp [all_goes_e0, exSs, exS, evE, evEs, evT, Pv.evI, evC, evTg, evTgs, evO, vv, up, one, retE, Option.bind_eq_bind, Option.bind_some, Option.map_some, Option.pure_def, List.getElem?_cons_zero, List.getElem?_cons_succ, List.set_cons_zero, List.set_cons_succ, asgN, asgSub, setIx, opD, addD, mulD, biD, cmpD, ixD, ixL, lenD, slotSeq, slotLst, truD, List.length_cons, List.length_nil, if_true, if_false, Bool.false_eq_true, reduceIte, mthHR, mthR, mtD, slD, seqOf, wipeE, Tgs.len, Pv.unpack, Option.map_none, Option.bind_none, augD, revD, List.map_cons, List.map_nil, isiD, ty, List.any_cons, List.any_nil, tupI, show (2 : Nat) ≤ lim by decide], by simp [exSs, exS, evE, evEs, evT, Pv.evI, evC, evTg, evTgs, evO, vv, up, one, retE, Option.bind_eq_bind, Option.bind_some, Option.map_some, Option.pure_def, List.getElem?_cons_zero, List.getElem?_cons_succ, List.set_cons_zero, List.set_cons_succ, asgN, asgSub, setIx, opD, addD, mulD, biD, cmpD, ixD, ixL, lenD, slotSeq, slotLst, truD, List.length_cons, List.length_nil, if_true, if_false, Bool.false_eq_true, reduceIte, mthHR, mthR, mtD, slD, seqOf, wipeE, Tgs.len, Pv.unpack, Option.map_none, Option.bind_none, augD, revD, List.map_cons, List.map_nil, isiD, ty, List.any_cons, List.any_nil]⟩) (by omega)
    rw [filt] at i1
    have e1 : evTg (T k) (.n 2) (.int a) [s0, .val (.lst (bs.map D.int)), .no, .no] st = some ([s0, .val (.lst (bs.map D.int)), .val (.int a), .no], st) := by simp [exSs, exS, evE, evEs, evT, Pv.evI, evC, evTg, evTgs, evO, vv, up, one, retE, Option.bind_eq_bind, Option.bind_some, Option.map_some, Option.pure_def, List.getElem?_cons_zero, List.getElem?_cons_succ, List.set_cons_zero, List.set_cons_succ, asgN, asgSub, setIx, opD, addD, mulD, biD, cmpD, ixD, ixL, lenD, slotSeq, slotLst, truD, List.length_cons, List.length_nil, if_true, if_false, Bool.false_eq_true, reduceIte, mthHR, mthR, mtD, slD, seqOf, wipeE, Tgs.len, Pv.unpack, Option.map_none, Option.bind_none, augD, revD, List.map_cons, List.map_nil, isiD, ty, List.any_cons, List.any_nil]
    have c1 : ∀ ρ, evC (T k) .no ρ st = some (true, ρ, st) := fun ρ => by simp only [evC]
    have t1 : Pv.evI (T k) (.val (.v 1)) [s0, .val (.lst (bs.map D.int)), .val (.int a), .no] st = some (bs.map D.int, [s0, .val (.lst (bs.map D.int)), .val (.int a), .no], st) := by simp [exSs, exS, evE, evEs, evT, Pv.evI, evC, evTg, evTgs, evO, vv, up, one, retE, Option.bind_eq_bind, Option.bind_some, Option.map_some, Option.pure_def, List.getElem?_cons_zero, List.getElem?_cons_succ, List.set_cons_zero, List.set_cons_succ, asgN, asgSub, setIx, opD, addD, mulD, biD, cmpD, ixD, ixL, lenD, slotSeq, slotLst, truD, List.length_cons, List.length_nil, if_true, if_false, Bool.false_eq_true, reduceIte, mthHR, mthR, mtD, slD, seqOf, wipeE, Tgs.len, Pv.unpack, Option.map_none, Option.bind_none, augD, revD, List.map_cons, List.map_nil, isiD, ty, List.any_cons, List.any_nil]
    simp only [List.map_map, Function.comp_def] at ih
    simp only [List.map_cons, lcL2, e1, c1, t1, wipeE, List.set_cons_succ, List.set_cons_zero, Option.bind_eq_bind, Option.bind_some, if_true, i1, ih]
    simp [pairsL, Function.comp_def]
theorem goes_run (k : Nat) (st : Sto) (xs : List D) (hn : xs.length ≤ 100) : Fc (k + 1) "all_goes" [.tup xs] st = some (false, tP (goesN xs.length), st) := by
  rw [q_all_goes]
  have hm : xs.length * xs.length ≤ 10000 := Nat.mul_le_mul hn hn
  have hlim : xs.length ≤ lim := by unfold lim; omega
  have e := lc2_run (k := k) (upto xs.length) (.val (.tup xs)) st (by rw [upto_len]; omega) (upto xs.length) [] (by rw [upto_len]; simp; unfold lim; omega)
  refine run_rt (ρ1 := [.val (.tup xs), .val (.lst ((upto xs.length).map D.int)), .no, .no]) (n := 3) rfl rfl ?_
  unfold b_all_goes
  refine (sq (ρ1 := [.val (.tup xs), .own ((upto xs.length).map D.int), .no, .no]) (st1 := st) (by simp [exSs, exS, evE, evEs, evT, Pv.evI, evC, evTg, evTgs, evO, vv, up, one, retE, Option.bind_eq_bind, Option.bind_some, Option.map_some, Option.pure_def, List.getElem?_cons_zero, List.getElem?_cons_succ, List.set_cons_zero, List.set_cons_succ, asgN, asgSub, setIx, opD, addD, mulD, biD, cmpD, ixD, ixL, lenD, slotSeq, slotLst, truD, List.length_cons, List.length_nil, if_true, if_false, Bool.false_eq_true, reduceIte, mthHR, mthR, mtD, slD, seqOf, wipeE, Tgs.len, Pv.unpack, Option.map_none, Option.bind_none, augD, revD, List.map_cons, List.map_nil, isiD, ty, List.any_cons, List.any_nil, rngD1 (n := xs.length) (by omega) (by omega), rng_upto, upto_len, hlim])).trans ?_
  have l : evE (T k) (.lc2 all_goes_e0 (.n 2) (.val (.v 1)) .no (.n 3) (.val (.v 1)) .no [("one", 2), ("other", 3)] [3]) [.val (.tup xs), .own ((upto xs.length).map D.int), .no, .no] st = some (true, .lst ((goesN xs.length).map tupI), [.val (.tup xs), .val (.lst ((upto xs.length).map D.int)), .no, .no], st) := by
    simp only [evE]
    have hi : Pv.evI (T k) (.val (.v 1)) [.val (.tup xs), .own ((upto xs.length).map D.int), .no, .no] st = some ((upto xs.length).map D.int, [.val (.tup xs), .val (.lst ((upto xs.length).map D.int)), .no, .no], st) := by simp [exSs, exS, evE, evEs, evT, Pv.evI, evC, evTg, evTgs, evO, vv, up, one, retE, Option.bind_eq_bind, Option.bind_some, Option.map_some, Option.pure_def, List.getElem?_cons_zero, List.getElem?_cons_succ, List.set_cons_zero, List.set_cons_succ, asgN, asgSub, setIx, opD, addD, mulD, biD, cmpD, ixD, ixL, lenD, slotSeq, slotLst, truD, List.length_cons, List.length_nil, if_true, if_false, Bool.false_eq_true, reduceIte, mthHR, mthR, mtD, slD, seqOf, wipeE, Tgs.len, Pv.unpack, Option.map_none, Option.bind_none, augD, revD, List.map_cons, List.map_nil, isiD, ty, List.any_cons, List.any_nil]
    rw [hi]
    simp only [Option.bind_eq_bind, Option.bind_some, wipeE, List.map_cons, List.map_nil, List.set_cons_succ, List.set_cons_zero, e]
    simp [goesN]
  generalize E.lc2 _ _ _ _ _ _ _ _ _ = LC at l ⊢
  exact sqr (by simp [exSs, exS, evE, evEs, evT, Pv.evI, evC, evTg, evTgs, evO, vv, up, one, retE, Option.bind_eq_bind, Option.bind_some, Option.map_some, Option.pure_def, List.getElem?_cons_zero, List.getElem?_cons_succ, List.set_cons_zero, List.set_cons_succ, asgN, asgSub, setIx, opD, addD, mulD, biD, cmpD, ixD, ixL, lenD, slotSeq, slotLst, truD, List.length_cons, List.length_nil, if_true, if_false, Bool.false_eq_true, reduceIte, mthHR, mthR, mtD, slD, seqOf, wipeE, Tgs.len, Pv.unpack, Option.map_none, Option.bind_none, augD, revD, List.map_cons, List.map_nil, isiD, ty, List.any_cons, List.any_nil, l, tupE])
end Lk35

namespace Lk35
open PySem PySem.Spec PyProof.Rows L2 Pv
def r0 : List Int → Int
  | [b, _] => b
  | _ => 0
def r1 : List Int → Int
  | [_, e] => e
  | _ => 0
def RdOk (r : List Int) : Prop := ∃ b e : Int, r = [b, e]
theorem flat_ints (xs : List Int) : (xs.map D.int).all flat = true := by
  rw [List.all_map, List.all_eq_true]; intro x _; rfl
theorem any_ints (b : Int) : ∀ xs : List Int, ((xs.map D.int).any fun y => eqv y (.int b)) = decide (b ∈ xs)
  | [] => by simp
  | x :: xs => by
    rw [List.map_cons, List.any_cons, any_ints b xs, eqv_int]
    by_cases h : x = b
    · simp [h]
    · have : ¬ b = x := fun z => h z.symm
      by_cases h2 : b ∈ xs <;> simp [h, this, h2]
theorem inD_int (b : Int) (xs : List Int) : inD (.int b) (xs.map D.int) = some (decide (b ∈ xs)) := by
  unfold inD
  rw [flat_ints, any_ints]; rfl
def reach (lot : List Int) (roads : List (List Int)) : List Int := lot ++ (roads.filter fun r => decide (r0 r ∈ lot)).map r1
theorem ends_run (k : Nat) (st : Sto) (lot : List Int) {roads : List (List Int)} (hr : ∀ r ∈ roads, RdOk r) (h1 : lot.length ≤ 1000) (h2 : roads.length ≤ 1000) : Fc (k + 1) "ends_of_roads" [tupI lot, tP roads] st = some (true, .lst ((reach lot roads).map D.int), st) := by
  rw [q_ends_of_roads]
  refine run_rt (ρ1 := [.val (tupI lot), .val (tP roads), .no, .no]) (n := 2) rfl rfl ?_
  have l : evE (T k) (.lc ends_of_roads_e0 (.tup (.cons (.n 2) (.cons (.n 3) .nil))) (.val (.v 1)) (.so ends_of_roads_c1) [("begin", 2), ("end", 3)]) [.val (tupI lot), .val (tP roads), .no, .no] st = some (true, .lst ((roads.filter fun r => decide (r0 r ∈ lot)).map fun r => .int (r1 r)), [.val (tupI lot), .val (tP roads), .no, .no], st) := by
    refine ev_fm (enc := tupI) roads (fun r => decide (r0 r ∈ lot)) (fun r => .int (r1 r)) (fun r => [.val (tupI lot), .val (tP roads), .val (.int (r0 r)), .val (.int (r1 r))]) (by simp [exSs, exS, evE, evEs, evT, Pv.evI, evC, evTg, evTgs, evO, vv, up, one, retE, Option.bind_eq_bind, Option.bind_some, Option.map_some, Option.pure_def, List.getElem?_cons_zero, List.getElem?_cons_succ, List.set_cons_zero, List.set_cons_succ, asgN, asgSub, setIx, opD, addD, mulD, biD, cmpD, ixD, ixL, lenD, slotSeq, slotLst, truD, List.length_cons, List.length_nil, if_true, if_false, Bool.false_eq_true, reduceIte, mthHR, mthR, mtD, slD, seqOf, wipeE, Tgs.len, Pv.unpack, Option.map_none, Option.bind_none, augD, revD, List.map_cons, List.map_nil, isiD, ty, List.any_cons, List.any_nil, tupE]) (by simp [exSs, exS, evE, evEs, evT, Pv.evI, evC, evTg, evTgs, evO, vv, up, one, retE, Option.bind_eq_bind, Option.bind_some, Option.map_some, Option.pure_def, List.getElem?_cons_zero, List.getElem?_cons_succ, List.set_cons_zero, List.set_cons_succ, asgN, asgSub, setIx, opD, addD, mulD, biD, cmpD, ixD, ixL, lenD, slotSeq, slotLst, truD, List.length_cons, List.length_nil, if_true, if_false, Bool.false_eq_true, reduceIte, mthHR, mthR, mtD, slD, seqOf, wipeE, Tgs.len, Pv.unpack, Option.map_none, Option.bind_none, augD, revD, List.map_cons, List.map_nil, isiD, ty, List.any_cons, List.any_nil]) (by unfold lim; omega) fun r hr' => ?_
    obtain ⟨b, e, rfl⟩ := hr r hr'
    refine ⟨by simp [exSs, exS, evE, evEs, evT, Pv.evI, evC, evTg, evTgs, evO, vv, up, one, retE, Option.bind_eq_bind, Option.bind_some, Option.map_some, Option.pure_def, List.getElem?_cons_zero, List.getElem?_cons_succ, List.set_cons_zero, List.set_cons_succ, asgN, asgSub, setIx, opD, addD, mulD, biD, cmpD, ixD, ixL, lenD, slotSeq, slotLst, truD, List.length_cons, List.length_nil, if_true, if_false, Bool.false_eq_true, reduceIte, mthHR, mthR, mtD, slD, seqOf, wipeE, Tgs.len, Pv.unpack, Option.map_none, Option.bind_none, augD, revD, List.map_cons, List.map_nil, isiD, ty, List.any_cons, List.any_nil, evTgs, tupI, r0, r1], by simp [ends_of_roads_c1, exSs, exS, evE, evEs, evT, Pv.evI, evC, evTg, evTgs, evO, vv, up, one, retE, Option.bind_eq_bind, Option.bind_some, Option.map_some, Option.pure_def, List.getElem?_cons_zero, List.getElem?_cons_succ, List.set_cons_zero, List.set_cons_succ, asgN, asgSub, setIx, opD, addD, mulD, biD, cmpD, ixD, ixL, lenD, slotSeq, slotLst, truD, List.length_cons, List.length_nil, if_true, if_false, Bool.false_eq_true, reduceIte, mthHR, mthR, mtD, slD, seqOf, wipeE, Tgs.len, Pv.unpack, Option.map_none, Option.bind_none, augD, revD, List.map_cons, List.map_nil, isiD, ty, List.any_cons, List.any_nil, tupI, inD_int, r0] <;> congr, fun _ => by simp [ends_of_roads_e0, exSs, exS, evE, evEs, evT, Pv.evI, evC, evTg, evTgs, evO, vv, up, one, retE, Option.bind_eq_bind, Option.bind_some, Option.map_some, Option.pure_def, List.getElem?_cons_zero, List.getElem?_cons_succ, List.set_cons_zero, List.set_cons_succ, asgN, asgSub, setIx, opD, addD, mulD, biD, cmpD, ixD, ixL, lenD, slotSeq, slotLst, truD, List.length_cons, List.length_nil, if_true, if_false, Bool.false_eq_true, reduceIte, mthHR, mthR, mtD, slD, seqOf, wipeE, Tgs.len, Pv.unpack, Option.map_none, Option.bind_none, augD, revD, List.map_cons, List.map_nil, isiD, ty, List.any_cons, List.any_nil, r1], by simp [exSs, exS, evE, evEs, evT, Pv.evI, evC, evTg, evTgs, evO, vv, up, one, retE, Option.bind_eq_bind, Option.bind_some, Option.map_some, Option.pure_def, List.getElem?_cons_zero, List.getElem?_cons_succ, List.set_cons_zero, List.set_cons_succ, asgN, asgSub, setIx, opD, addD, mulD, biD, cmpD, ixD, ixL, lenD, slotSeq, slotLst, truD, List.length_cons, List.length_nil, if_true, if_false, Bool.false_eq_true, reduceIte, mthHR, mthR, mtD, slD, seqOf, wipeE, Tgs.len, Pv.unpack, Option.map_none, Option.bind_none, augD, revD, List.map_cons, List.map_nil, isiD, ty, List.any_cons, List.any_nil]⟩
  have hlim : lot.length + (roads.filter fun r => decide (r0 r ∈ lot)).length ≤ lim := by
    have := List.length_filter_le (fun r => decide (r0 r ∈ lot)) roads
    unfold lim; omega
  unfold b_ends_of_roads
  generalize E.lc ends_of_roads_e0 _ _ _ _ = LC at l ⊢
  have i1 : evE (T k) (.bi .list (.cons (.v 0) .nil)) [.val (tupI lot), .val (tP roads), .no, .no] st = some (true, .lst (lot.map D.int), [.val (tupI lot), .val (tP roads), .no, .no], st) := by simp [exSs, exS, evE, evEs, evT, Pv.evI, evC, evTg, evTgs, evO, vv, up, one, retE, Option.bind_eq_bind, Option.bind_some, Option.map_some, Option.pure_def, List.getElem?_cons_zero, List.getElem?_cons_succ, List.set_cons_zero, List.set_cons_succ, asgN, asgSub, setIx, opD, addD, mulD, biD, cmpD, ixD, ixL, lenD, slotSeq, slotLst, truD, List.length_cons, List.length_nil, if_true, if_false, Bool.false_eq_true, reduceIte, mthHR, mthR, mtD, slD, seqOf, wipeE, Tgs.len, Pv.unpack, Option.map_none, Option.bind_none, augD, revD, List.map_cons, List.map_nil, isiD, ty, List.any_cons, List.any_nil, tupI]
  generalize E.bi Bi.list _ = BL at i1 ⊢
  exact sqr (by simp [exSs, exS, evE, evEs, evT, Pv.evI, evC, evTg, evTgs, evO, vv, up, one, retE, Option.bind_eq_bind, Option.bind_some, Option.map_some, Option.pure_def, List.getElem?_cons_zero, List.getElem?_cons_succ, List.set_cons_zero, List.set_cons_succ, asgN, asgSub, setIx, opD, addD, mulD, biD, cmpD, ixD, ixL, lenD, slotSeq, slotLst, truD, List.length_cons, List.length_nil, if_true, if_false, Bool.false_eq_true, reduceIte, mthHR, mthR, mtD, slD, seqOf, wipeE, Tgs.len, Pv.unpack, Option.map_none, Option.bind_none, augD, revD, List.map_cons, List.map_nil, isiD, ty, List.any_cons, List.any_nil, l, i1, hlim, reach])
def nob : Pat := [[], []]
theorem nob_D : gOf cs "NOBODY" = some (tP nob) := rfl
def mayGo (pa pb : Pat) (roads : List (List Int)) : Bool := if pa = nob ∨ pb = nob then true else ((faulty pb).filter fun m => !decide (m ∈ reach (faulty pa) roads)).isEmpty
theorem faulty_len {p : Pat} (h : PatOk p) : (faulty p).length ≤ 200 := by
  obtain ⟨a, b, rfl, ha, hb⟩ := h
  show (srt ltI (a ++ b)).length ≤ 200
  rw [srt_len, List.length_append]; omega
theorem reach_len (lot : List Int) (roads : List (List Int)) : (reach lot roads).length ≤ lot.length + roads.length := by
  have := List.length_filter_le (fun r => decide (r0 r ∈ lot)) roads
  simp only [reach, List.length_append, List.length_map]; omega
theorem in_nob (pa pb : Pat) : inDd (tP nob) [tP pa, tP pb] = some (decide (pa = nob ∨ pb = nob)) := by
  have f : flat (tP nob) = false := rfl
  unfold inDd
  rw [f]
  have s : ∀ p : Pat, sh 50 (tP p) = true := fun p => enc2.sh p 50 (by decide)
  simp only [Bool.false_and, Bool.false_eq_true, if_false, List.all_cons, List.all_nil, s, Bool.and_true, if_true, List.any_cons, List.any_nil, Bool.or_false, enc2.eq]
  by_cases h1 : pa = nob <;> by_cases h2 : pb = nob <;> simp [h1, h2]
theorem eq_nil (xs : List Int) : eqv (.lst (xs.map D.int)) (.lst []) = xs.isEmpty := by
  cases xs <;> simp [eqv, eqvL]
theorem sh_ints (n : Nat) (xs : List Int) : sh (n + 1) (.lst (xs.map D.int)) = true := by
  simp only [sh, List.all_map, List.all_eq_true]
  intro x _
  cases n <;> rfl
theorem may_run (k : Nat) (st : Sto) {pa pb : Pat} (h1 : PatOk pa) (h2 : PatOk pb) {roads : List (List Int)} (hr : ∀ r ∈ roads, RdOk r) (hl : roads.length ≤ 500) : Fc (k + 2) "may_go" [tP pa, tP pb, tP roads] st = some (false, .bl (mayGo pa pb roads), st) := by
  rw [q_may_go]
  by_cases hn : pa = nob ∨ pb = nob
  · refine run_rt (ρ1 := [.val (tP pa), .val (tP pb), .val (tP roads), .no, .no]) (n := 2) rfl rfl ?_
    refine sqr (ex_it (t := true) (ρ1 := [.val (tP pa), .val (tP pb), .val (tP roads), .no, .no]) (st1 := st) (by simp [exSs, exS, evE, evEs, evT, Pv.evI, evC, evTg, evTgs, evO, vv, up, one, retE, Option.bind_eq_bind, Option.bind_some, Option.map_some, Option.pure_def, List.getElem?_cons_zero, List.getElem?_cons_succ, List.set_cons_zero, List.set_cons_succ, asgN, asgSub, setIx, opD, addD, mulD, biD, cmpD, ixD, ixL, lenD, slotSeq, slotLst, truD, List.length_cons, List.length_nil, if_true, if_false, Bool.false_eq_true, reduceIte, mthHR, mthR, mtD, slD, seqOf, wipeE, Tgs.len, Pv.unpack, Option.map_none, Option.bind_none, augD, revD, List.map_cons, List.map_nil, isiD, ty, List.any_cons, List.any_nil, nob_D, in_nob, hn, show (2 : Nat) ≤ lim by decide]) ?_)
    simp [exSs, exS, evE, evEs, evT, Pv.evI, evC, evTg, evTgs, evO, vv, up, one, retE, Option.bind_eq_bind, Option.bind_some, Option.map_some, Option.pure_def, List.getElem?_cons_zero, List.getElem?_cons_succ, List.set_cons_zero, List.set_cons_succ, asgN, asgSub, setIx, opD, addD, mulD, biD, cmpD, ixD, ixL, lenD, slotSeq, slotLst, truD, List.length_cons, List.length_nil, if_true, if_false, Bool.false_eq_true, reduceIte, mthHR, mthR, mtD, slD, seqOf, wipeE, Tgs.len, Pv.unpack, Option.map_none, Option.bind_none, augD, revD, List.map_cons, List.map_nil, isiD, ty, List.any_cons, List.any_nil, mayGo, hn]
  · refine run_rt (ρ1 := [.val (tP pa), .val (tP pb), .val (tP roads), .own ((reach (faulty pa) roads).map D.int), .no]) (n := 2) rfl rfl ?_
    refine (sq (ex_it (t := false) (ρ1 := [.val (tP pa), .val (tP pb), .val (tP roads), .no, .no]) (st1 := st) (by simp [exSs, exS, evE, evEs, evT, Pv.evI, evC, evTg, evTgs, evO, vv, up, one, retE, Option.bind_eq_bind, Option.bind_some, Option.map_some, Option.pure_def, List.getElem?_cons_zero, List.getElem?_cons_succ, List.set_cons_zero, List.set_cons_succ, asgN, asgSub, setIx, opD, addD, mulD, biD, cmpD, ixD, ixL, lenD, slotSeq, slotLst, truD, List.length_cons, List.length_nil, if_true, if_false, Bool.false_eq_true, reduceIte, mthHR, mthR, mtD, slD, seqOf, wipeE, Tgs.len, Pv.unpack, Option.map_none, Option.bind_none, augD, revD, List.map_cons, List.map_nil, isiD, ty, List.any_cons, List.any_nil, nob_D, in_nob, hn, show (2 : Nat) ≤ lim by decide]) rfl)).trans ?_
    have f1 := faulty_run k st h1
    have f2 := faulty_run k st h2
    have e := ends_run k st (faulty pa) hr (by have := faulty_len h1; omega) (by omega)
    refine (sq (ρ1 := [.val (tP pa), .val (tP pb), .val (tP roads), .own ((reach (faulty pa) roads).map D.int), .no]) (st1 := st) (by simp [exSs, exS, evE, evEs, evT, Pv.evI, evC, evTg, evTgs, evO, vv, up, one, retE, Option.bind_eq_bind, Option.bind_some, Option.map_some, Option.pure_def, List.getElem?_cons_zero, List.getElem?_cons_succ, List.set_cons_zero, List.set_cons_succ, asgN, asgSub, setIx, opD, addD, mulD, biD, cmpD, ixD, ixL, lenD, slotSeq, slotLst, truD, List.length_cons, List.length_nil, if_true, if_false, Bool.false_eq_true, reduceIte, mthHR, mthR, mtD, slD, seqOf, wipeE, Tgs.len, Pv.unpack, Option.map_none, Option.bind_none, augD, revD, List.map_cons, List.map_nil, isiD, ty, List.any_cons, List.any_nil, f1, e])).trans ?_
    have l : evE (T (k + 1)) (.lc may_go_e0 (.n 4) (.val (.call "faulty_ones" (.cons (.v 1) .nil))) (.so may_go_c1) [("machine", 4)]) [.val (tP pa), .val (tP pb), .val (tP roads), .own ((reach (faulty pa) roads).map D.int), .no] st = some (true, .lst (((faulty pb).filter fun m => !decide (m ∈ reach (faulty pa) roads)).map D.int), [.val (tP pa), .val (tP pb), .val (tP roads), .own ((reach (faulty pa) roads).map D.int), .no], st) := by
      refine ev_fm (enc := D.int) (faulty pb) (fun m => !decide (m ∈ reach (faulty pa) roads)) D.int (fun m => [.val (tP pa), .val (tP pb), .val (tP roads), .own ((reach (faulty pa) roads).map D.int), .val (.int m)]) (by simp [exSs, exS, evE, evEs, evT, Pv.evI, evC, evTg, evTgs, evO, vv, up, one, retE, Option.bind_eq_bind, Option.bind_some, Option.map_some, Option.pure_def, List.getElem?_cons_zero, List.getElem?_cons_succ, List.set_cons_zero, List.set_cons_succ, asgN, asgSub, setIx, opD, addD, mulD, biD, cmpD, ixD, ixL, lenD, slotSeq, slotLst, truD, List.length_cons, List.length_nil, if_true, if_false, Bool.false_eq_true, reduceIte, mthHR, mthR, mtD, slD, seqOf, wipeE, Tgs.len, Pv.unpack, Option.map_none, Option.bind_none, augD, revD, List.map_cons, List.map_nil, isiD, ty, List.any_cons, List.any_nil, f2, tupI]) (by simp [exSs, exS, evE, evEs, evT, Pv.evI, evC, evTg, evTgs, evO, vv, up, one, retE, Option.bind_eq_bind, Option.bind_some, Option.map_some, Option.pure_def, List.getElem?_cons_zero, List.getElem?_cons_succ, List.set_cons_zero, List.set_cons_succ, asgN, asgSub, setIx, opD, addD, mulD, biD, cmpD, ixD, ixL, lenD, slotSeq, slotLst, truD, List.length_cons, List.length_nil, if_true, if_false, Bool.false_eq_true, reduceIte, mthHR, mthR, mtD, slD, seqOf, wipeE, Tgs.len, Pv.unpack, Option.map_none, Option.bind_none, augD, revD, List.map_cons, List.map_nil, isiD, ty, List.any_cons, List.any_nil]) (by have := faulty_len h2; unfold lim; omega) fun m _ => ?_
      exact ⟨by simp [exSs, exS, evE, evEs, evT, Pv.evI, evC, evTg, evTgs, evO, vv, up, one, retE, Option.bind_eq_bind, Option.bind_some, Option.map_some, Option.pure_def, List.getElem?_cons_zero, List.getElem?_cons_succ, List.set_cons_zero, List.set_cons_succ, asgN, asgSub, setIx, opD, addD, mulD, biD, cmpD, ixD, ixL, lenD, slotSeq, slotLst, truD, List.length_cons, List.length_nil, if_true, if_false, Bool.false_eq_true, reduceIte, mthHR, mthR, mtD, slD, seqOf, wipeE, Tgs.len, Pv.unpack, Option.map_none, Option.bind_none, augD, revD, List.map_cons, List.map_nil, isiD, ty, List.any_cons, List.any_nil], by simp [may_go_c1, exSs, exS, evE, evEs, evT, Pv.evI, evC, evTg, evTgs, evO, vv, up, one, retE, Option.bind_eq_bind, Option.bind_some, Option.map_some, Option.pure_def, List.getElem?_cons_zero, List.getElem?_cons_succ, List.set_cons_zero, List.set_cons_succ, asgN, asgSub, setIx, opD, addD, mulD, biD, cmpD, ixD, ixL, lenD, slotSeq, slotLst, truD, List.length_cons, List.length_nil, if_true, if_false, Bool.false_eq_true, reduceIte, mthHR, mthR, mtD, slD, seqOf, wipeE, Tgs.len, Pv.unpack, Option.map_none, Option.bind_none, augD, revD, List.map_cons, List.map_nil, isiD, ty, List.any_cons, List.any_nil, inD_int], fun _ => by simp [may_go_e0, exSs, exS, evE, evEs, evT, Pv.evI, evC, evTg, evTgs, evO, vv, up, one, retE, Option.bind_eq_bind, Option.bind_some, Option.map_some, Option.pure_def, List.getElem?_cons_zero, List.getElem?_cons_succ, List.set_cons_zero, List.set_cons_succ, asgN, asgSub, setIx, opD, addD, mulD, biD, cmpD, ixD, ixL, lenD, slotSeq, slotLst, truD, List.length_cons, List.length_nil, if_true, if_false, Bool.false_eq_true, reduceIte, mthHR, mthR, mtD, slD, seqOf, wipeE, Tgs.len, Pv.unpack, Option.map_none, Option.bind_none, augD, revD, List.map_cons, List.map_nil, isiD, ty, List.any_cons, List.any_nil], by simp [exSs, exS, evE, evEs, evT, Pv.evI, evC, evTg, evTgs, evO, vv, up, one, retE, Option.bind_eq_bind, Option.bind_some, Option.map_some, Option.pure_def, List.getElem?_cons_zero, List.getElem?_cons_succ, List.set_cons_zero, List.set_cons_succ, asgN, asgSub, setIx, opD, addD, mulD, biD, cmpD, ixD, ixL, lenD, slotSeq, slotLst, truD, List.length_cons, List.length_nil, if_true, if_false, Bool.false_eq_true, reduceIte, mthHR, mthR, mtD, slD, seqOf, wipeE, Tgs.len, Pv.unpack, Option.map_none, Option.bind_none, augD, revD, List.map_cons, List.map_nil, isiD, ty, List.any_cons, List.any_nil]⟩
    generalize E.lc may_go_e0 _ _ _ _ = LC at l ⊢
    have hs := sh_ints 59 ((faulty pb).filter fun m => !decide (m ∈ reach (faulty pa) roads))
    have hs0 : sh 60 (.lst []) = true := by decide
    have hm : mayGo pa pb roads = ((faulty pb).filter fun m => !decide (m ∈ reach (faulty pa) roads)).isEmpty := by unfold mayGo; rw [if_neg hn]
    have he := eq_nil ((faulty pb).filter fun m => !decide (m ∈ reach (faulty pa) roads))
    rw [hm]
    generalize (faulty pb).filter (fun m => !decide (m ∈ reach (faulty pa) roads)) = R at *
    exact sqr (by simp [exSs, exS, evE, evEs, evT, Pv.evI, evC, evTg, evTgs, evO, vv, up, one, retE, Option.bind_eq_bind, Option.bind_some, Option.map_some, Option.pure_def, List.getElem?_cons_zero, List.getElem?_cons_succ, List.set_cons_zero, List.set_cons_succ, asgN, asgSub, setIx, opD, addD, mulD, biD, cmpD, ixD, ixL, lenD, slotSeq, slotLst, truD, List.length_cons, List.length_nil, if_true, if_false, Bool.false_eq_true, reduceIte, mthHR, mthR, mtD, slD, seqOf, wipeE, Tgs.len, Pv.unpack, Option.map_none, Option.bind_none, augD, revD, List.map_cons, List.map_nil, isiD, ty, List.any_cons, List.any_nil, l, hs, hs0, he])
def en {α : Type} : Nat → List α → List (Nat × α)
  | _, [] => []
  | n, x :: xs => (n, x) :: en (n + 1) xs
def encI {α : Type} (enc : α → D) (p : Nat × α) : D := .itm [.int (p.1 : Nat), enc p.2]
theorem enum_en {α : Type} {enc : α → D} : ∀ (n : Nat) (xs : List α), enumL n (xs.map enc) = (en n xs).map (encI enc)
  | _, [] => rfl
  | n, x :: xs => by rw [List.map_cons, enumL, enum_en (n + 1) xs]; rfl
theorem en_len {α : Type} : ∀ (n : Nat) (xs : List α), (en n xs).length = xs.length
  | _, [] => rfl
  | n, x :: xs => by simp [en, en_len (n + 1) xs]
theorem en_mem {α : Type} : ∀ {n : Nat} {xs : List α} {p : Nat × α}, p ∈ en n xs → p.2 ∈ xs
  | _, [], _, h => by simp [en] at h
  | n, x :: xs, p, h => by
    rcases List.mem_cons.mp h with rfl | h
    · simp
    · exact List.mem_cons_of_mem _ (en_mem h)
def goesFrom (ps : List Pat) (roads : List (List Int)) (a : Nat × Pat) : List (List Int) := ((en 0 ps).filter fun b => mayGo a.2 b.2 roads).map fun b => [(a.1 : Int), (b.1 : Int)]
def roadGoes (ps : List Pat) (roads : List (List Int)) : List (List Int) := (en 0 ps).flatMap (goesFrom ps roads)
theorem from_len (ps : List Pat) (roads : List (List Int)) (a : Nat × Pat) : (goesFrom ps roads a).length ≤ ps.length := by
  have := List.length_filter_le (fun b => mayGo a.2 b.2 roads) (en 0 ps)
  rw [en_len] at this
  simpa [goesFrom] using this
theorem road_loop {k : Nat} (st : Sto) {ps : List Pat} (hp : ∀ p ∈ ps, PatOk p) (hl : ps.length ≤ 100) {roads : List (List Int)} (hr : ∀ r ∈ roads, RdOk r) (hrl : roads.length ≤ 500) : ∀ (as : List (Nat × Pat)) (acc : List D) (s3 s4 : Sl), (∀ a ∈ as, PatOk a.2) → acc.length + as.length * ps.length ≤ 1000000 →
    ∃ s3' s4', forL (evTg (T (k + 2)) (.tup (.cons (.n 3) (.cons (.n 4) .nil)))) (exSs (T (k + 2)) road_goes_b2) (as.map (encI tP)) [.val (tPP ps), .val (tP roads), .own acc, s3, s4, .no, .no] st =
      some (.nx, [.val (tPP ps), .val (tP roads), .own (acc ++ (as.flatMap (goesFrom ps roads)).map tupI), s3', s4', .no, .no], st)
  | [], acc, s3, s4, _, _ => ⟨s3, s4, by simp [forL]⟩
  | a :: as, acc, s3, s4, ha, hb => by
    have fl := from_len ps roads a
    rw [List.length_cons, Nat.succ_mul] at hb
    obtain ⟨s3', s4', ih⟩ := road_loop (k := k) st hp hl hr hrl as (acc ++ (goesFrom ps roads a).map tupI) (.val (.int (a.1 : Nat))) (.val (tP a.2)) (fun x hx => ha x (List.mem_cons_of_mem _ hx)) (by simp; omega)
    refine ⟨s3', s4', ?_⟩
    have e1 : evTg (T (k + 2)) (.tup (.cons (.n 3) (.cons (.n 4) .nil))) (encI tP a) [.val (tPP ps), .val (tP roads), .own acc, s3, s4, .no, .no] st = some ([.val (tPP ps), .val (tP roads), .own acc, .val (.int (a.1 : Nat)), .val (tP a.2), .no, .no], st) := by simp [exSs, exS, evE, evEs, evT, Pv.evI, evC, evTg, evTgs, evO, vv, up, one, retE, Option.bind_eq_bind, Option.bind_some, Option.map_some, Option.pure_def, List.getElem?_cons_zero, List.getElem?_cons_succ, List.set_cons_zero, List.set_cons_succ, asgN, asgSub, setIx, opD, addD, mulD, biD, cmpD, ixD, ixL, lenD, slotSeq, slotLst, truD, List.length_cons, List.length_nil, if_true, if_false, Bool.false_eq_true, reduceIte, mthHR, mthR, mtD, slD, seqOf, wipeE, Tgs.len, Pv.unpack, Option.map_none, Option.bind_none, augD, revD, List.map_cons, List.map_nil, isiD, ty, List.any_cons, List.any_nil, evTgs, encI]
    have l : evE (T (k + 2)) (.lc road_goes_e0 (.tup (.cons (.n 5) (.cons (.n 6) .nil))) (.enum (.v 0)) (.so road_goes_c1) [("to", 5), ("other", 6)]) [.val (tPP ps), .val (tP roads), .own acc, .val (.int (a.1 : Nat)), .val (tP a.2), .no, .no] st =
        some (true, .lst (((en 0 ps).filter fun b => mayGo a.2 b.2 roads).map fun b => tupI [(a.1 : Int), (b.1 : Int)]), [.val (tPP ps), .val (tP roads), .own acc, .val (.int (a.1 : Nat)), .val (tP a.2), .no, .no], st) := by
      refine ev_fm (enc := encI tP) (en 0 ps) (fun b => mayGo a.2 b.2 roads) (fun b => tupI [(a.1 : Int), (b.1 : Int)]) (fun b => [.val (tPP ps), .val (tP roads), .own acc, .val (.int (a.1 : Nat)), .val (tP a.2), .val (.int (b.1 : Nat)), .val (tP b.2)]) (by simp [exSs, exS, evE, evEs, evT, Pv.evI, evC, evTg, evTgs, evO, vv, up, one, retE, Option.bind_eq_bind, Option.bind_some, Option.map_some, Option.pure_def, List.getElem?_cons_zero, List.getElem?_cons_succ, List.set_cons_zero, List.set_cons_succ, asgN, asgSub, setIx, opD, addD, mulD, biD, cmpD, ixD, ixL, lenD, slotSeq, slotLst, truD, List.length_cons, List.length_nil, if_true, if_false, Bool.false_eq_true, reduceIte, mthHR, mthR, mtD, slD, seqOf, wipeE, Tgs.len, Pv.unpack, Option.map_none, Option.bind_none, augD, revD, List.map_cons, List.map_nil, isiD, ty, List.any_cons, List.any_nil, tupE, ← enum_en]) (by simp [exSs, exS, evE, evEs, evT, Pv.evI, evC, evTg, evTgs, evO, vv, up, one, retE, Option.bind_eq_bind, Option.bind_some, Option.map_some, Option.pure_def, List.getElem?_cons_zero, List.getElem?_cons_succ, List.set_cons_zero, List.set_cons_succ, asgN, asgSub, setIx, opD, addD, mulD, biD, cmpD, ixD, ixL, lenD, slotSeq, slotLst, truD, List.length_cons, List.length_nil, if_true, if_false, Bool.false_eq_true, reduceIte, mthHR, mthR, mtD, slD, seqOf, wipeE, Tgs.len, Pv.unpack, Option.map_none, Option.bind_none, augD, revD, List.map_cons, List.map_nil, isiD, ty, List.any_cons, List.any_nil]) (by rw [en_len]; unfold lim; omega) fun b hb => ?_
      have m := may_run k st (ha a List.mem_cons_self) (hp b.2 (en_mem hb)) hr hrl
      exact ⟨by simp [exSs, exS, evE, evEs, evT, Pv.evI, evC, evTg, evTgs, evO, vv, up, one, retE, Option.bind_eq_bind, Option.bind_some, Option.map_some, Option.pure_def, List.getElem?_cons_zero, List.getElem?_cons_succ, List.set_cons_zero, List.set_cons_succ, asgN, asgSub, setIx, opD, addD, mulD, biD, cmpD, ixD, ixL, lenD, slotSeq, slotLst, truD, List.length_cons, List.length_nil, if_true, if_false, Bool.false_eq_true, reduceIte, mthHR, mthR, mtD, slD, seqOf, wipeE, Tgs.len, Pv.unpack, Option.map_none, Option.bind_none, augD, revD, List.map_cons, List.map_nil, isiD, ty, List.any_cons, List.any_nil, evTgs, encI], by simp [road_goes_c1, exSs, exS, evE, evEs, evT, Pv.evI, evC, evTg, evTgs, evO, vv, up, one, retE, Option.bind_eq_bind, Option.bind_some, Option.map_some, Option.pure_def, List.getElem?_cons_zero, List.getElem?_cons_succ, List.set_cons_zero, List.set_cons_succ, asgN, asgSub, setIx, opD, addD, mulD, biD, cmpD, ixD, ixL, lenD, slotSeq, slotLst, truD, List.length_cons, List.length_nil, if_true, if_false, Bool.false_eq_true, reduceIte, mthHR, mthR, mtD, slD, seqOf, wipeE, Tgs.len, Pv.unpack, Option.map_none, Option.bind_none, augD, revD, List.map_cons, List.map_nil, isiD, ty, List.any_cons, List.any_nil, m], fun _ => by simp [road_goes_e0, exSs, exS, evE, evEs, evT, Pv.evI, evC, evTg, evTgs, evO, vv, up, one, retE, Option.bind_eq_bind, Option.bind_some, Option.map_some, Option.pure_def, List.getElem?_cons_zero, List.getElem?_cons_succ, List.set_cons_zero, List.set_cons_succ, asgN, asgSub, setIx, opD, addD, mulD, biD, cmpD, ixD, ixL, lenD, slotSeq, slotLst, truD, List.length_cons, List.length_nil, if_true, if_false, Bool.false_eq_true, reduceIte, mthHR, mthR, mtD, slD, seqOf, wipeE, Tgs.len, Pv.unpack, Option.map_none, Option.bind_none, augD, revD, List.map_cons, List.map_nil, isiD, ty, List.any_cons, List.any_nil, tupI, show (2 : Nat) ≤ lim by decide], by simp [exSs, exS, evE, evEs, evT, Pv.evI, evC, evTg, evTgs, evO, vv, up, one, retE, Option.bind_eq_bind, Option.bind_some, Option.map_some, Option.pure_def, List.getElem?_cons_zero, List.getElem?_cons_succ, List.set_cons_zero, List.set_cons_succ, asgN, asgSub, setIx, opD, addD, mulD, biD, cmpD, ixD, ixL, lenD, slotSeq, slotLst, truD, List.length_cons, List.length_nil, if_true, if_false, Bool.false_eq_true, reduceIte, mthHR, mthR, mtD, slD, seqOf, wipeE, Tgs.len, Pv.unpack, Option.map_none, Option.bind_none, augD, revD, List.map_cons, List.map_nil, isiD, ty, List.any_cons, List.any_nil]⟩
    have hlim : acc.length + (goesFrom ps roads a).length ≤ lim := by unfold lim; omega
    have hg : (((en 0 ps).filter fun b => mayGo a.2 b.2 roads).map fun b => tupI [(a.1 : Int), (b.1 : Int)]) = (goesFrom ps roads a).map tupI := by unfold goesFrom; rw [List.map_map]; rfl
    rw [hg] at l
    have e2 : exSs (T (k + 2)) road_goes_b2 [.val (tPP ps), .val (tP roads), .own acc, .val (.int (a.1 : Nat)), .val (tP a.2), .no, .no] st = some (.nx, [.val (tPP ps), .val (tP roads), .own (acc ++ (goesFrom ps roads a).map tupI), .val (.int (a.1 : Nat)), .val (tP a.2), .no, .no], st) := by
      unfold road_goes_b2
      generalize E.lc road_goes_e0 _ _ _ _ = LC at l ⊢
      exact sq1 (by simp [exSs, exS, evE, evEs, evT, Pv.evI, evC, evTg, evTgs, evO, vv, up, one, retE, Option.bind_eq_bind, Option.bind_some, Option.map_some, Option.pure_def, List.getElem?_cons_zero, List.getElem?_cons_succ, List.set_cons_zero, List.set_cons_succ, asgN, asgSub, setIx, opD, addD, mulD, biD, cmpD, ixD, ixL, lenD, slotSeq, slotLst, truD, List.length_cons, List.length_nil, if_true, if_false, Bool.false_eq_true, reduceIte, mthHR, mthR, mtD, slD, seqOf, wipeE, Tgs.len, Pv.unpack, Option.map_none, Option.bind_none, augD, revD, List.map_cons, List.map_nil, isiD, ty, List.any_cons, List.any_nil, l, hlim])
    simp only [List.map_cons, forL, e1, e2, Option.bind_eq_bind, Option.bind_some, ih]
    simp
theorem roads_run (k : Nat) (st : Sto) {ps : List Pat} (hp : ∀ p ∈ ps, PatOk p) (hl : ps.length ≤ 100) {roads : List (List Int)} (hr : ∀ r ∈ roads, RdOk r) (hrl : roads.length ≤ 500) : Fc (k + 3) "road_goes" [tPP ps, tP roads] st = some (false, tP (roadGoes ps roads), st) := by
  rw [q_road_goes]
  have hm : ps.length * ps.length ≤ 10000 := Nat.mul_le_mul hl hl
  obtain ⟨s3, s4, e⟩ := road_loop (k := k) st hp hl hr hrl (en 0 ps) [] .no .no (fun a ha => hp _ (en_mem ha)) (by rw [en_len]; simp; omega)
  refine run_rt (ρ1 := [.val (tPP ps), .val (tP roads), .val (.lst ((roadGoes ps roads).map tupI)), s3, s4, .no, .no]) (n := 5) rfl rfl ?_
  unfold b_road_goes
  refine (sq (ρ1 := [.val (tPP ps), .val (tP roads), .own [], .no, .no, .no, .no]) (st1 := st) (by simp [exSs, exS, evE, evEs, evT, Pv.evI, evC, evTg, evTgs, evO, vv, up, one, retE, Option.bind_eq_bind, Option.bind_some, Option.map_some, Option.pure_def, List.getElem?_cons_zero, List.getElem?_cons_succ, List.set_cons_zero, List.set_cons_succ, asgN, asgSub, setIx, opD, addD, mulD, biD, cmpD, ixD, ixL, lenD, slotSeq, slotLst, truD, List.length_cons, List.length_nil, if_true, if_false, Bool.false_eq_true, reduceIte, mthHR, mthR, mtD, slD, seqOf, wipeE, Tgs.len, Pv.unpack, Option.map_none, Option.bind_none, augD, revD, List.map_cons, List.map_nil, isiD, ty, List.any_cons, List.any_nil])).trans ?_
  refine (sq (ex_for (xs := (en 0 ps).map (encI tP)) (ρ1 := [.val (tPP ps), .val (tP roads), .own [], .no, .no, .no, .no]) (st1 := st) (by simp [exSs, exS, evE, evEs, evT, Pv.evI, evC, evTg, evTgs, evO, vv, up, one, retE, Option.bind_eq_bind, Option.bind_some, Option.map_some, Option.pure_def, List.getElem?_cons_zero, List.getElem?_cons_succ, List.set_cons_zero, List.set_cons_succ, asgN, asgSub, setIx, opD, addD, mulD, biD, cmpD, ixD, ixL, lenD, slotSeq, slotLst, truD, List.length_cons, List.length_nil, if_true, if_false, Bool.false_eq_true, reduceIte, mthHR, mthR, mtD, slD, seqOf, wipeE, Tgs.len, Pv.unpack, Option.map_none, Option.bind_none, augD, revD, List.map_cons, List.map_nil, isiD, ty, List.any_cons, List.any_nil, tupE, ← enum_en]) e)).trans ?_
  exact sqr (by simp [exSs, exS, evE, evEs, evT, Pv.evI, evC, evTg, evTgs, evO, vv, up, one, retE, Option.bind_eq_bind, Option.bind_some, Option.map_some, Option.pure_def, List.getElem?_cons_zero, List.getElem?_cons_succ, List.set_cons_zero, List.set_cons_succ, asgN, asgSub, setIx, opD, addD, mulD, biD, cmpD, ixD, ixL, lenD, slotSeq, slotLst, truD, List.length_cons, List.length_nil, if_true, if_false, Bool.false_eq_true, reduceIte, mthHR, mthR, mtD, slD, seqOf, wipeE, Tgs.len, Pv.unpack, Option.map_none, Option.bind_none, augD, revD, List.map_cons, List.map_nil, isiD, ty, List.any_cons, List.any_nil, roadGoes, tupE])
end Lk35

namespace Lk35
open PySem PySem.Spec PyProof.Rows L2 Pv
def patAt (ps : List Pat) (i : Int) : Pat := ps.getD i.toNat []
def lmay (pa pb : Pat) (roads : List (List Int)) : Bool := decide (faulty pa = []) || ((faulty pb).filter fun m => !decide (m ∈ reach (faulty pa) roads)).isEmpty
def lroadGoes (ps : List Pat) (roads : List (List Int)) : List (List Int) := (goesN ps.length).filter fun g => lmay (patAt ps (r0 g)) (patAt ps (r1 g)) roads
theorem atI_pat {ps : List Pat} {i : Int} (h0 : 0 ≤ i) (h : i < ps.length) : atI (ps.map tP) i = some (tP (patAt ps i)) ∧ patAt ps i ∈ ps := by
  obtain ⟨j, rfl⟩ := Int.eq_ofNat_of_zero_le h0
  have hj : j < ps.length := by omega
  have e : patAt ps (j : Int) = ps[j] := by simp [patAt, hj]
  rw [e]
  exact ⟨atI_nat (by rw [List.getElem?_map, List.getElem?_eq_getElem hj]; rfl), List.getElem_mem hj⟩
theorem isEmpty_len (xs : List D) : decide (((xs.length : Nat) : Int) = 0) = xs.isEmpty := by
  cases xs <;> simp <;> omega
theorem lroad_body {k : Nat} (st : Sto) {ps : List Pat} (hp : ∀ p ∈ ps, PatOk p) {roads : List (List Int)} (hr : ∀ r ∈ roads, RdOk r) (hrl : roads.length ≤ 500) (acc : List D) (ha : acc.length < lim) (s5 s6 s7 : Sl) {i j : Int} (hi : 0 ≤ i ∧ i < ps.length) (hj : 0 ≤ j ∧ j < ps.length) : ∃ s5' s6' s7',
    exSs (T (k + 1)) law_road_goes_b4 [.val (tPP ps), .val (tP roads), .own acc, .val (.int i), .val (.int j), s5, s6, s7, .no, .no, .no] st =
      some (.nx, [.val (tPP ps), .val (tP roads), .own (if lmay (patAt ps i) (patAt ps j) roads then acc ++ [tupI [i, j]] else acc), .val (.int i), .val (.int j), s5', s6', s7', .no, .no, .no], st) := by
  obtain ⟨a1, m1⟩ := atI_pat hi.1 hi.2
  obtain ⟨a2, m2⟩ := atI_pat hj.1 hj.2
  have p1 := hp _ m1
  have p2 := hp _ m2
  have f1 := lfaulty_run k st p1
  have f2 := lfaulty_run k st p2
  have n1 := faulty_len p1
  have n2 := faulty_len p2
  unfold lmay
  simp only [tupE] at f1 f2
  generalize faulty (patAt ps i) = fa at *
  generalize faulty (patAt ps j) = fb at *
  refine ⟨.val (tupI fa), .val (tupI fb), .own ((reach fa roads).map D.int), ?_⟩
  unfold law_road_goes_b4
  refine (sq (ρ1 := [.val (tPP ps), .val (tP roads), .own acc, .val (.int i), .val (.int j), .val (tupI fa), .val (tupI fb), s7, .no, .no, .no]) (st1 := st) (by simp [exSs, exS, evE, evEs, evT, Pv.evI, evC, evTg, evTgs, evO, vv, up, one, retE, Option.bind_eq_bind, Option.bind_some, Option.map_some, Option.pure_def, List.getElem?_cons_zero, List.getElem?_cons_succ, List.set_cons_zero, List.set_cons_succ, asgN, asgSub, setIx, opD, addD, mulD, biD, cmpD, ixD, ixL, lenD, slotSeq, slotLst, truD, List.length_cons, List.length_nil, if_true, if_false, Bool.false_eq_true, reduceIte, mthHR, mthR, mtD, slD, seqOf, wipeE, Tgs.len, Pv.unpack, Option.map_none, Option.bind_none, augD, revD, List.map_cons, List.map_nil, isiD, ty, List.any_cons, List.any_nil, tupE, a1, a2, f1, f2])).trans ?_
  have l1 : evE (T (k + 1)) (.lc law_road_goes_e2 (.tup (.cons (.n 8) (.cons (.n 9) .nil))) (.val (.v 1)) (.so law_road_goes_c3) [("start", 8), ("end", 9)]) [.val (tPP ps), .val (tP roads), .own acc, .val (.int i), .val (.int j), .val (tupI fa), .val (tupI fb), s7, .no, .no, .no] st = some (true, .lst ((roads.filter fun r => decide (r0 r ∈ fa)).map fun r => .int (r1 r)), [.val (tPP ps), .val (tP roads), .own acc, .val (.int i), .val (.int j), .val (tupI fa), .val (tupI fb), s7, .no, .no, .no], st) := by
    refine ev_fm (enc := tupI) roads (fun r => decide (r0 r ∈ fa)) (fun r => .int (r1 r)) (fun r => [.val (tPP ps), .val (tP roads), .own acc, .val (.int i), .val (.int j), .val (tupI fa), .val (tupI fb), s7, .val (.int (r0 r)), .val (.int (r1 r)), .no]) (by simp [exSs, exS, evE, evEs, evT, Pv.evI, evC, evTg, evTgs, evO, vv, up, one, retE, Option.bind_eq_bind, Option.bind_some, Option.map_some, Option.pure_def, List.getElem?_cons_zero, List.getElem?_cons_succ, List.set_cons_zero, List.set_cons_succ, asgN, asgSub, setIx, opD, addD, mulD, biD, cmpD, ixD, ixL, lenD, slotSeq, slotLst, truD, List.length_cons, List.length_nil, if_true, if_false, Bool.false_eq_true, reduceIte, mthHR, mthR, mtD, slD, seqOf, wipeE, Tgs.len, Pv.unpack, Option.map_none, Option.bind_none, augD, revD, List.map_cons, List.map_nil, isiD, ty, List.any_cons, List.any_nil, tupE]) (by simp [exSs, exS, evE, evEs, evT, Pv.evI, evC, evTg, evTgs, evO, vv, up, one, retE, Option.bind_eq_bind, Option.bind_some, Option.map_some, Option.pure_def, List.getElem?_cons_zero, List.getElem?_cons_succ, List.set_cons_zero, List.set_cons_succ, asgN, asgSub, setIx, opD, addD, mulD, biD, cmpD, ixD, ixL, lenD, slotSeq, slotLst, truD, List.length_cons, List.length_nil, if_true, if_false, Bool.false_eq_true, reduceIte, mthHR, mthR, mtD, slD, seqOf, wipeE, Tgs.len, Pv.unpack, Option.map_none, Option.bind_none, augD, revD, List.map_cons, List.map_nil, isiD, ty, List.any_cons, List.any_nil]) (by unfold lim; omega) fun r hr' => ?_
    obtain ⟨b, e, rfl⟩ := hr r hr'
    refine ⟨by simp [exSs, exS, evE, evEs, evT, Pv.evI, evC, evTg, evTgs, evO, vv, up, one, retE, Option.bind_eq_bind, Option.bind_some, Option.map_some, Option.pure_def, List.getElem?_cons_zero, List.getElem?_cons_succ, List.set_cons_zero, List.set_cons_succ, asgN, asgSub, setIx, opD, addD, mulD, biD, cmpD, ixD, ixL, lenD, slotSeq, slotLst, truD, List.length_cons, List.length_nil, if_true, if_false, Bool.false_eq_true, reduceIte, mthHR, mthR, mtD, slD, seqOf, wipeE, Tgs.len, Pv.unpack, Option.map_none, Option.bind_none, augD, revD, List.map_cons, List.map_nil, isiD, ty, List.any_cons, List.any_nil, evTgs, tupI, r0, r1], by simp [law_road_goes_c3, exSs, exS, evE, evEs, evT, Pv.evI, evC, evTg, evTgs, evO, vv, up, one, retE, Option.bind_eq_bind, Option.bind_some, Option.map_some, Option.pure_def, List.getElem?_cons_zero, List.getElem?_cons_succ, List.set_cons_zero, List.set_cons_succ, asgN, asgSub, setIx, opD, addD, mulD, biD, cmpD, ixD, ixL, lenD, slotSeq, slotLst, truD, List.length_cons, List.length_nil, if_true, if_false, Bool.false_eq_true, reduceIte, mthHR, mthR, mtD, slD, seqOf, wipeE, Tgs.len, Pv.unpack, Option.map_none, Option.bind_none, augD, revD, List.map_cons, List.map_nil, isiD, ty, List.any_cons, List.any_nil, tupI, inD_int, r0] <;> congr, fun _ => by simp [law_road_goes_e2, exSs, exS, evE, evEs, evT, Pv.evI, evC, evTg, evTgs, evO, vv, up, one, retE, Option.bind_eq_bind, Option.bind_some, Option.map_some, Option.pure_def, List.getElem?_cons_zero, List.getElem?_cons_succ, List.set_cons_zero, List.set_cons_succ, asgN, asgSub, setIx, opD, addD, mulD, biD, cmpD, ixD, ixL, lenD, slotSeq, slotLst, truD, List.length_cons, List.length_nil, if_true, if_false, Bool.false_eq_true, reduceIte, mthHR, mthR, mtD, slD, seqOf, wipeE, Tgs.len, Pv.unpack, Option.map_none, Option.bind_none, augD, revD, List.map_cons, List.map_nil, isiD, ty, List.any_cons, List.any_nil, r1], by simp [exSs, exS, evE, evEs, evT, Pv.evI, evC, evTg, evTgs, evO, vv, up, one, retE, Option.bind_eq_bind, Option.bind_some, Option.map_some, Option.pure_def, List.getElem?_cons_zero, List.getElem?_cons_succ, List.set_cons_zero, List.set_cons_succ, asgN, asgSub, setIx, opD, addD, mulD, biD, cmpD, ixD, ixL, lenD, slotSeq, slotLst, truD, List.length_cons, List.length_nil, if_true, if_false, Bool.false_eq_true, reduceIte, mthHR, mthR, mtD, slD, seqOf, wipeE, Tgs.len, Pv.unpack, Option.map_none, Option.bind_none, augD, revD, List.map_cons, List.map_nil, isiD, ty, List.any_cons, List.any_nil]⟩
  have i1 : evE (T (k + 1)) (.bi .list (.cons (.v 5) .nil)) [.val (tPP ps), .val (tP roads), .own acc, .val (.int i), .val (.int j), .val (tupI fa), .val (tupI fb), s7, .no, .no, .no] st = some (true, .lst (fa.map D.int), [.val (tPP ps), .val (tP roads), .own acc, .val (.int i), .val (.int j), .val (tupI fa), .val (tupI fb), s7, .no, .no, .no], st) := by simp [exSs, exS, evE, evEs, evT, Pv.evI, evC, evTg, evTgs, evO, vv, up, one, retE, Option.bind_eq_bind, Option.bind_some, Option.map_some, Option.pure_def, List.getElem?_cons_zero, List.getElem?_cons_succ, List.set_cons_zero, List.set_cons_succ, asgN, asgSub, setIx, opD, addD, mulD, biD, cmpD, ixD, ixL, lenD, slotSeq, slotLst, truD, List.length_cons, List.length_nil, if_true, if_false, Bool.false_eq_true, reduceIte, mthHR, mthR, mtD, slD, seqOf, wipeE, Tgs.len, Pv.unpack, Option.map_none, Option.bind_none, augD, revD, List.map_cons, List.map_nil, isiD, ty, List.any_cons, List.any_nil, tupI]
  have hlim : fa.length + (roads.filter fun r => decide (r0 r ∈ fa)).length ≤ lim := by
    have := List.length_filter_le (fun r => decide (r0 r ∈ fa)) roads
    unfold lim; omega
  generalize E.lc law_road_goes_e2 _ _ _ _ = LC at l1 ⊢
  generalize E.bi Bi.list _ = BL at i1 ⊢
  refine (sq (ρ1 := [.val (tPP ps), .val (tP roads), .own acc, .val (.int i), .val (.int j), .val (tupI fa), .val (tupI fb), .own ((reach fa roads).map D.int), .no, .no, .no]) (st1 := st) (by simp [exSs, exS, evE, evEs, evT, Pv.evI, evC, evTg, evTgs, evO, vv, up, one, retE, Option.bind_eq_bind, Option.bind_some, Option.map_some, Option.pure_def, List.getElem?_cons_zero, List.getElem?_cons_succ, List.set_cons_zero, List.set_cons_succ, asgN, asgSub, setIx, opD, addD, mulD, biD, cmpD, ixD, ixL, lenD, slotSeq, slotLst, truD, List.length_cons, List.length_nil, if_true, if_false, Bool.false_eq_true, reduceIte, mthHR, mthR, mtD, slD, seqOf, wipeE, Tgs.len, Pv.unpack, Option.map_none, Option.bind_none, augD, revD, List.map_cons, List.map_nil, isiD, ty, List.any_cons, List.any_nil, l1, i1, hlim, reach])).trans ?_
  have l2 : evE (T (k + 1)) (.lc law_road_goes_e0 (.n 10) (.val (.v 6)) (.so law_road_goes_c1) [("machine", 10)]) [.val (tPP ps), .val (tP roads), .own acc, .val (.int i), .val (.int j), .val (tupI fa), .val (tupI fb), .own ((reach fa roads).map D.int), .no, .no, .no] st = some (true, .lst ((fb.filter fun m => !decide (m ∈ reach fa roads)).map D.int), [.val (tPP ps), .val (tP roads), .own acc, .val (.int i), .val (.int j), .val (tupI fa), .val (tupI fb), .own ((reach fa roads).map D.int), .no, .no, .no], st) := by
    refine ev_fm (enc := D.int) fb (fun m => !decide (m ∈ reach fa roads)) D.int (fun m => [.val (tPP ps), .val (tP roads), .own acc, .val (.int i), .val (.int j), .val (tupI fa), .val (tupI fb), .own ((reach fa roads).map D.int), .no, .no, .val (.int m)]) (by simp [exSs, exS, evE, evEs, evT, Pv.evI, evC, evTg, evTgs, evO, vv, up, one, retE, Option.bind_eq_bind, Option.bind_some, Option.map_some, Option.pure_def, List.getElem?_cons_zero, List.getElem?_cons_succ, List.set_cons_zero, List.set_cons_succ, asgN, asgSub, setIx, opD, addD, mulD, biD, cmpD, ixD, ixL, lenD, slotSeq, slotLst, truD, List.length_cons, List.length_nil, if_true, if_false, Bool.false_eq_true, reduceIte, mthHR, mthR, mtD, slD, seqOf, wipeE, Tgs.len, Pv.unpack, Option.map_none, Option.bind_none, augD, revD, List.map_cons, List.map_nil, isiD, ty, List.any_cons, List.any_nil, tupI]) (by simp [exSs, exS, evE, evEs, evT, Pv.evI, evC, evTg, evTgs, evO, vv, up, one, retE, Option.bind_eq_bind, Option.bind_some, Option.map_some, Option.pure_def, List.getElem?_cons_zero, List.getElem?_cons_succ, List.set_cons_zero, List.set_cons_succ, asgN, asgSub, setIx, opD, addD, mulD, biD, cmpD, ixD, ixL, lenD, slotSeq, slotLst, truD, List.length_cons, List.length_nil, if_true, if_false, Bool.false_eq_true, reduceIte, mthHR, mthR, mtD, slD, seqOf, wipeE, Tgs.len, Pv.unpack, Option.map_none, Option.bind_none, augD, revD, List.map_cons, List.map_nil, isiD, ty, List.any_cons, List.any_nil]) (by unfold lim; omega) fun m _ => ?_
    exact ⟨by simp [exSs, exS, evE, evEs, evT, Pv.evI, evC, evTg, evTgs, evO, vv, up, one, retE, Option.bind_eq_bind, Option.bind_some, Option.map_some, Option.pure_def, List.getElem?_cons_zero, List.getElem?_cons_succ, List.set_cons_zero, List.set_cons_succ, asgN, asgSub, setIx, opD, addD, mulD, biD, cmpD, ixD, ixL, lenD, slotSeq, slotLst, truD, List.length_cons, List.length_nil, if_true, if_false, Bool.false_eq_true, reduceIte, mthHR, mthR, mtD, slD, seqOf, wipeE, Tgs.len, Pv.unpack, Option.map_none, Option.bind_none, augD, revD, List.map_cons, List.map_nil, isiD, ty, List.any_cons, List.any_nil], by simp [law_road_goes_c1, exSs, exS, evE, evEs, evT, Pv.evI, evC, evTg, evTgs, evO, vv, up, one, retE, Option.bind_eq_bind, Option.bind_some, Option.map_some, Option.pure_def, List.getElem?_cons_zero, List.getElem?_cons_succ, List.set_cons_zero, List.set_cons_succ, asgN, asgSub, setIx, opD, addD, mulD, biD, cmpD, ixD, ixL, lenD, slotSeq, slotLst, truD, List.length_cons, List.length_nil, if_true, if_false, Bool.false_eq_true, reduceIte, mthHR, mthR, mtD, slD, seqOf, wipeE, Tgs.len, Pv.unpack, Option.map_none, Option.bind_none, augD, revD, List.map_cons, List.map_nil, isiD, ty, List.any_cons, List.any_nil, inD_int], fun _ => by simp [law_road_goes_e0, exSs, exS, evE, evEs, evT, Pv.evI, evC, evTg, evTgs, evO, vv, up, one, retE, Option.bind_eq_bind, Option.bind_some, Option.map_some, Option.pure_def, List.getElem?_cons_zero, List.getElem?_cons_succ, List.set_cons_zero, List.set_cons_succ, asgN, asgSub, setIx, opD, addD, mulD, biD, cmpD, ixD, ixL, lenD, slotSeq, slotLst, truD, List.length_cons, List.length_nil, if_true, if_false, Bool.false_eq_true, reduceIte, mthHR, mthR, mtD, slD, seqOf, wipeE, Tgs.len, Pv.unpack, Option.map_none, Option.bind_none, augD, revD, List.map_cons, List.map_nil, isiD, ty, List.any_cons, List.any_nil], by simp [exSs, exS, evE, evEs, evT, Pv.evI, evC, evTg, evTgs, evO, vv, up, one, retE, Option.bind_eq_bind, Option.bind_some, Option.map_some, Option.pure_def, List.getElem?_cons_zero, List.getElem?_cons_succ, List.set_cons_zero, List.set_cons_succ, asgN, asgSub, setIx, opD, addD, mulD, biD, cmpD, ixD, ixL, lenD, slotSeq, slotLst, truD, List.length_cons, List.length_nil, if_true, if_false, Bool.false_eq_true, reduceIte, mthHR, mthR, mtD, slD, seqOf, wipeE, Tgs.len, Pv.unpack, Option.map_none, Option.bind_none, augD, revD, List.map_cons, List.map_nil, isiD, ty, List.any_cons, List.any_nil]⟩
  generalize (fb.filter fun m => !decide (m ∈ reach fa roads)) = R at *
  generalize reach fa roads = Rc at *
  generalize E.lc law_road_goes_e0 _ _ _ _ = LC2 at l2 ⊢
  have s0 : ∀ n : Int, sh 60 (.int n) = true := fun _ => rfl
  have t : evT (T (k + 1)) (.or (.e (.cmp .Eq (.lenv 5) (.k (.int 0)))) (.e (.cmp .Eq (.bi .len (.cons LC2 .nil)) (.k (.int 0))))) [.val (tPP ps), .val (tP roads), .own acc, .val (.int i), .val (.int j), .val (tupI fa), .val (tupI fb), .own (Rc.map D.int), .no, .no, .no] st =
      some (decide (fa = []) || R.isEmpty, [.val (tPP ps), .val (tP roads), .own acc, .val (.int i), .val (.int j), .val (tupI fa), .val (tupI fb), .own (Rc.map D.int), .no, .no, .no], st) := by
    cases fa with
    | nil => simp [exSs, exS, evE, evEs, evT, Pv.evI, evC, evTg, evTgs, evO, vv, up, one, retE, Option.bind_eq_bind, Option.bind_some, Option.map_some, Option.pure_def, List.getElem?_cons_zero, List.getElem?_cons_succ, List.set_cons_zero, List.set_cons_succ, asgN, asgSub, setIx, opD, addD, mulD, biD, cmpD, ixD, ixL, lenD, slotSeq, slotLst, truD, List.length_cons, List.length_nil, if_true, if_false, Bool.false_eq_true, reduceIte, mthHR, mthR, mtD, slD, seqOf, wipeE, Tgs.len, Pv.unpack, Option.map_none, Option.bind_none, augD, revD, List.map_cons, List.map_nil, isiD, ty, List.any_cons, List.any_nil, tupI, s0, eqv_int]
    | cons x xs =>
      have h0 : ¬ ((xs.length : Int) + 1 = 0) := by omega
      simp only [tupI, List.map_cons] at l2
      cases R with
      | nil => simp [exSs, exS, evE, evEs, evT, Pv.evI, evC, evTg, evTgs, evO, vv, up, one, retE, Option.bind_eq_bind, Option.bind_some, Option.map_some, Option.pure_def, List.getElem?_cons_zero, List.getElem?_cons_succ, List.set_cons_zero, List.set_cons_succ, asgN, asgSub, setIx, opD, addD, mulD, biD, cmpD, ixD, ixL, lenD, slotSeq, slotLst, truD, List.length_cons, List.length_nil, if_true, if_false, Bool.false_eq_true, reduceIte, mthHR, mthR, mtD, slD, seqOf, wipeE, Tgs.len, Pv.unpack, Option.map_none, Option.bind_none, augD, revD, List.map_cons, List.map_nil, isiD, ty, List.any_cons, List.any_nil, tupI, s0, eqv_int, l2, h0]
      | cons y ys =>
        have h1 : ¬ ((ys.length : Int) + 1 = 0) := by omega
        simp [exSs, exS, evE, evEs, evT, Pv.evI, evC, evTg, evTgs, evO, vv, up, one, retE, Option.bind_eq_bind, Option.bind_some, Option.map_some, Option.pure_def, List.getElem?_cons_zero, List.getElem?_cons_succ, List.set_cons_zero, List.set_cons_succ, asgN, asgSub, setIx, opD, addD, mulD, biD, cmpD, ixD, ixL, lenD, slotSeq, slotLst, truD, List.length_cons, List.length_nil, if_true, if_false, Bool.false_eq_true, reduceIte, mthHR, mthR, mtD, slD, seqOf, wipeE, Tgs.len, Pv.unpack, Option.map_none, Option.bind_none, augD, revD, List.map_cons, List.map_nil, isiD, ty, List.any_cons, List.any_nil, tupI, s0, eqv_int, l2, h0, h1]
  cases hb : (decide (fa = []) || R.isEmpty) with
  | true =>
    rw [hb] at t
    refine sq1 (ex_it t ?_)
    simp only [if_true]
    exact sq1 (by simp [exSs, exS, evE, evEs, evT, Pv.evI, evC, evTg, evTgs, evO, vv, up, one, retE, Option.bind_eq_bind, Option.bind_some, Option.map_some, Option.pure_def, List.getElem?_cons_zero, List.getElem?_cons_succ, List.set_cons_zero, List.set_cons_succ, asgN, asgSub, setIx, opD, addD, mulD, biD, cmpD, ixD, ixL, lenD, slotSeq, slotLst, truD, List.length_cons, List.length_nil, if_true, if_false, Bool.false_eq_true, reduceIte, mthHR, mthR, mtD, slD, seqOf, wipeE, Tgs.len, Pv.unpack, Option.map_none, Option.bind_none, augD, revD, List.map_cons, List.map_nil, isiD, ty, List.any_cons, List.any_nil, ha, tupI, show (2 : Nat) ≤ lim by decide])
  | false =>
    rw [hb] at t
    refine sq1 (ex_it t ?_)
    simp only [Bool.false_eq_true, if_false, exSs]
theorem lroad_loop {k : Nat} (st : Sto) {ps : List Pat} (hp : ∀ p ∈ ps, PatOk p) {roads : List (List Int)} (hr : ∀ r ∈ roads, RdOk r) (hrl : roads.length ≤ 500) : ∀ (gs : List (List Int)) (acc : List D) (s3 s4 s5 s6 s7 : Sl), (∀ g ∈ gs, ∃ i j : Int, g = [i, j] ∧ (0 ≤ i ∧ i < ps.length) ∧ (0 ≤ j ∧ j < ps.length)) → acc.length + gs.length ≤ 1000000 →
    ∃ s3' s4' s5' s6' s7', forL (evTg (T (k + 1)) (.tup (.cons (.n 3) (.cons (.n 4) .nil)))) (exSs (T (k + 1)) law_road_goes_b4) (gs.map tupI) [.val (tPP ps), .val (tP roads), .own acc, s3, s4, s5, s6, s7, .no, .no, .no] st =
      some (.nx, [.val (tPP ps), .val (tP roads), .own (acc ++ (gs.filter fun g => lmay (patAt ps (r0 g)) (patAt ps (r1 g)) roads).map tupI), s3', s4', s5', s6', s7', .no, .no, .no], st)
  | [], acc, s3, s4, s5, s6, s7, _, _ => ⟨s3, s4, s5, s6, s7, by simp [forL]⟩
  | g :: gs, acc, s3, s4, s5, s6, s7, hg, hl => by
    rw [List.length_cons] at hl
    obtain ⟨i, j, rfl, hi, hj⟩ := hg g List.mem_cons_self
    obtain ⟨s5', s6', s7', eb⟩ := lroad_body (k := k) st hp hr hrl acc (by unfold lim; omega) s5 s6 s7 hi hj
    have e1 : evTg (T (k + 1)) (.tup (.cons (.n 3) (.cons (.n 4) .nil))) (tupI [i, j]) [.val (tPP ps), .val (tP roads), .own acc, s3, s4, s5, s6, s7, .no, .no, .no] st = some ([.val (tPP ps), .val (tP roads), .own acc, .val (.int i), .val (.int j), s5, s6, s7, .no, .no, .no], st) := by simp [exSs, exS, evE, evEs, evT, Pv.evI, evC, evTg, evTgs, evO, vv, up, one, retE, Option.bind_eq_bind, Option.bind_some, Option.map_some, Option.pure_def, List.getElem?_cons_zero, List.getElem?_cons_succ, List.set_cons_zero, List.set_cons_succ, asgN, asgSub, setIx, opD, addD, mulD, biD, cmpD, ixD, ixL, lenD, slotSeq, slotLst, truD, List.length_cons, List.length_nil, if_true, if_false, Bool.false_eq_true, reduceIte, mthHR, mthR, mtD, slD, seqOf, wipeE, Tgs.len, Pv.unpack, Option.map_none, Option.bind_none, augD, revD, List.map_cons, List.map_nil, isiD, ty, List.any_cons, List.any_nil, evTgs, tupI]
    cases hm : lmay (patAt ps i) (patAt ps j) roads with
    | true =>
      rw [hm, if_pos rfl] at eb
      obtain ⟨t3, t4, t5, t6, t7, ih⟩ := lroad_loop (k := k) st hp hr hrl gs (acc ++ [tupI [i, j]]) (.val (.int i)) (.val (.int j)) s5' s6' s7' (fun g hg' => hg g (List.mem_cons_of_mem _ hg')) (by simp; omega)
      refine ⟨t3, t4, t5, t6, t7, ?_⟩
      simp only [List.map_cons, forL, e1, eb, Option.bind_eq_bind, Option.bind_some, ih]
      rw [List.filter_cons, show lmay (patAt ps (r0 [i, j])) (patAt ps (r1 [i, j])) roads = true from hm]
      simp
    | false =>
      rw [hm, if_neg Bool.false_ne_true] at eb
      obtain ⟨t3, t4, t5, t6, t7, ih⟩ := lroad_loop (k := k) st hp hr hrl gs acc (.val (.int i)) (.val (.int j)) s5' s6' s7' (fun g hg' => hg g (List.mem_cons_of_mem _ hg')) (by omega)
      refine ⟨t3, t4, t5, t6, t7, ?_⟩
      simp only [List.map_cons, forL, e1, eb, Option.bind_eq_bind, Option.bind_some, ih]
      rw [List.filter_cons, show lmay (patAt ps (r0 [i, j])) (patAt ps (r1 [i, j])) roads = false from hm]
      simp
theorem upto_mem {n : Nat} {i : Int} (h : i ∈ upto n) : 0 ≤ i ∧ i < n := by
  obtain ⟨j, hj, rfl⟩ := List.mem_map.mp h
  have := List.mem_range.mp hj
  simp; omega
theorem goesN_mem {n : Nat} {g : List Int} (h : g ∈ goesN n) : ∃ i j : Int, g = [i, j] ∧ (0 ≤ i ∧ i < n) ∧ (0 ≤ j ∧ j < n) := by
  obtain ⟨a, ha, h⟩ := List.mem_flatMap.mp h
  obtain ⟨b, hb, rfl⟩ := List.mem_map.mp h
  exact ⟨a, b, rfl, upto_mem ha, upto_mem hb⟩
theorem lroads_run (k : Nat) (st : Sto) {ps : List Pat} (hp : ∀ p ∈ ps, PatOk p) (hl : ps.length ≤ 100) {roads : List (List Int)} (hr : ∀ r ∈ roads, RdOk r) (hrl : roads.length ≤ 500) : Fc (k + 3) "_law_road_goes" [tPP ps, tP roads] st = some (false, tP (lroadGoes ps roads), st) := by
  rw [q_law_road_goes]
  have hm : ps.length * ps.length ≤ 10000 := Nat.mul_le_mul hl hl
  obtain ⟨s3, s4, s5, s6, s7, e⟩ := lroad_loop (k := k + 1) st hp hr hrl (goesN ps.length) [] .no .no .no .no .no (fun g hg => goesN_mem hg) (by rw [goesN, pairsL_len, upto_len]; simp; omega)
  refine run_rt (ρ1 := [.val (tPP ps), .val (tP roads), .val (.lst ((lroadGoes ps roads).map tupI)), s3, s4, s5, s6, s7, .no, .no, .no]) (n := 9) rfl rfl ?_
  unfold b_law_road_goes
  refine (sq (ρ1 := [.val (tPP ps), .val (tP roads), .own [], .no, .no, .no, .no, .no, .no, .no, .no]) (st1 := st) (by simp [exSs, exS, evE, evEs, evT, Pv.evI, evC, evTg, evTgs, evO, vv, up, one, retE, Option.bind_eq_bind, Option.bind_some, Option.map_some, Option.pure_def, List.getElem?_cons_zero, List.getElem?_cons_succ, List.set_cons_zero, List.set_cons_succ, asgN, asgSub, setIx, opD, addD, mulD, biD, cmpD, ixD, ixL, lenD, slotSeq, slotLst, truD, List.length_cons, List.length_nil, if_true, if_false, Bool.false_eq_true, reduceIte, mthHR, mthR, mtD, slD, seqOf, wipeE, Tgs.len, Pv.unpack, Option.map_none, Option.bind_none, augD, revD, List.map_cons, List.map_nil, isiD, ty, List.any_cons, List.any_nil])).trans ?_
  have g := lgoes_run k st ps.length hl
  refine (sq (ex_for (xs := (goesN ps.length).map tupI) (ρ1 := [.val (tPP ps), .val (tP roads), .own [], .no, .no, .no, .no, .no, .no, .no, .no]) (st1 := st) ?_ e)).trans ?_
  · have h1 : slotSeq st (.val (tPP ps)) = some (ps.map tP) := rfl
    have h2 : seqOf (tP (goesN ps.length)) = some ((goesN ps.length).map tupI) := rfl
    simp only [Pv.evI, evE, evEs, vv, List.getElem?_cons_zero, h1, List.length_map, Option.map_some, Option.bind_eq_bind, Option.bind_some, g, h2]
  · exact sqr (by simp [exSs, exS, evE, evEs, evT, Pv.evI, evC, evTg, evTgs, evO, vv, up, one, retE, Option.bind_eq_bind, Option.bind_some, Option.map_some, Option.pure_def, List.getElem?_cons_zero, List.getElem?_cons_succ, List.set_cons_zero, List.set_cons_succ, asgN, asgSub, setIx, opD, addD, mulD, biD, cmpD, ixD, ixL, lenD, slotSeq, slotLst, truD, List.length_cons, List.length_nil, if_true, if_false, Bool.false_eq_true, reduceIte, mthHR, mthR, mtD, slD, seqOf, wipeE, Tgs.len, Pv.unpack, Option.map_none, Option.bind_none, augD, revD, List.map_cons, List.map_nil, isiD, ty, List.any_cons, List.any_nil, lroadGoes, tupE])
end Lk35

namespace Lk35
open PySem PySem.Spec PyProof.Rows L2 Pv
def rg (a b : Int) : List Int := (List.range (b - a).toNat).map fun i => a + Int.ofNat i
theorem rng_rg {a b : Int} : rngL a b 1 = (rg a b).map D.int := by
  have hl := rng_len (a := a) (b := b)
  unfold rngL at hl ⊢
  rw [List.length_map, List.length_range] at hl
  rw [hl, rg, List.map_map]
  refine List.map_congr_left fun i _ => ?_
  simp
theorem rg_len (a b : Int) : (rg a b).length = (b - a).toNat := by simp [rg]
theorem rg_mem {a b x : Int} (h : x ∈ rg a b) : a ≤ x ∧ x < b := by
  obtain ⟨i, hi, rfl⟩ := List.mem_map.mp h
  have := List.mem_range.mp hi
  simp; omega
/-! ## all lots -/
def firstOf (lot : List Int) : Int := match lot.getLast? with
  | none => 0
  | some x => x + 1
def longer (m : Int) (lot : List Int) : List (List Int) := (rg (firstOf lot) m).map fun x => lot ++ [x]
def LotOk (m : Int) (lot : List Int) : Prop := (∀ x ∈ lot, 0 ≤ x ∧ x < m) ∧ lot.length ≤ 1000
theorem first_ok {m : Int} (hm : 0 ≤ m) {lot : List Int} (h : LotOk m lot) : 0 ≤ firstOf lot ∧ firstOf lot ≤ m := by
  unfold firstOf
  cases e : lot.getLast? with
  | none => simp; omega
  | some x =>
    have := h.1 x (List.mem_of_getLast? e)
    simp; omega
theorem longer_len {m : Int} (hm : 0 ≤ m) {lot : List Int} (h : LotOk m lot) : (longer m lot).length ≤ m.toNat := by
  have := first_ok hm h
  unfold longer
  rw [List.length_map, rg_len]; omega
theorem lots_loop {k : Nat} (st : Sto) {m : Int} (hm : 1 ≤ m ∧ m ≤ 6) (s1 s2 s3 s4 : Sl) : ∀ (ls : List (List Int)) (acc : List D) (s6 s7 : Sl), (∀ l ∈ ls, LotOk m l ∧ l.length < 500) → acc.length + ls.length * 6 ≤ 1000000 →
    ∃ s6' s7', forL (evTg (T k) (.n 6)) (exSs (T k) all_lots_b1) (ls.map tupI) [.val (.int m), s1, s2, s3, s4, .own acc, s6, s7, .no] st = some (.nx, [.val (.int m), s1, s2, s3, s4, .own (acc ++ (ls.flatMap (longer m)).map tupI), s6', s7', .no], st)
  | [], acc, s6, s7, _, _ => ⟨s6, s7, by simp [forL]⟩
  | l :: ls, acc, s6, s7, h, hl => by
    obtain ⟨hL, hl5⟩ := h l List.mem_cons_self
    rw [List.length_cons, Nat.succ_mul] at hl
    have hf := first_ok (by omega) hL
    have hlen := longer_len (by omega) hL
    obtain ⟨s6', s7', ih⟩ := lots_loop (k := k) st hm s1 s2 s3 s4 ls (acc ++ (longer m l).map tupI) (.val (tupI l)) (.val (.int (firstOf l))) (fun x hx => h x (List.mem_cons_of_mem _ hx)) (by simp; omega)
    refine ⟨s6', s7', ?_⟩
    have e1 : evTg (T k) (.n 6) (tupI l) [.val (.int m), s1, s2, s3, s4, .own acc, s6, s7, .no] st = some ([.val (.int m), s1, s2, s3, s4, .own acc, .val (tupI l), s7, .no], st) := by simp [exSs, exS, evE, evEs, evT, Pv.evI, evC, evTg, evTgs, evO, vv, up, one, retE, Option.bind_eq_bind, Option.bind_some, Option.map_some, Option.pure_def, List.getElem?_cons_zero, List.getElem?_cons_succ, List.set_cons_zero, List.set_cons_succ, asgN, asgSub, setIx, opD, addD, mulD, biD, cmpD, ixD, ixL, lenD, slotSeq, slotLst, truD, List.length_cons, List.length_nil, if_true, if_false, Bool.false_eq_true, reduceIte, mthHR, mthR, mtD, slD, seqOf, wipeE, Tgs.len, Pv.unpack, Option.map_none, Option.bind_none, augD, revD, List.map_cons, List.map_nil, isiD, ty, List.any_cons, List.any_nil]
    have st1 : exS (T k) (.asg 7 (.ite (.e (.cmp .Eq (.v 6) (.tup .nil))) (.k (.int 0)) (.op .Add (.ixv 6 (.neg (.k (.int 1)))) (.k (.int 1))))) [.val (.int m), s1, s2, s3, s4, .own acc, .val (tupI l), s7, .no] st = some (.nx, [.val (.int m), s1, s2, s3, s4, .own acc, .val (tupI l), .val (.int (firstOf l)), .no], st) := by
      have sh1 := enc1.sh l 60 (by decide)
      have sh2 : sh 60 (.tup []) = true := rfl
      rcases list_last l with rfl | ⟨ys, y, rfl⟩
      · simp [exSs, exS, evE, evEs, evT, Pv.evI, evC, evTg, evTgs, evO, vv, up, one, retE, Option.bind_eq_bind, Option.bind_some, Option.map_some, Option.pure_def, List.getElem?_cons_zero, List.getElem?_cons_succ, List.set_cons_zero, List.set_cons_succ, asgN, asgSub, setIx, opD, addD, mulD, biD, cmpD, ixD, ixL, lenD, slotSeq, slotLst, truD, List.length_cons, List.length_nil, if_true, if_false, Bool.false_eq_true, reduceIte, mthHR, mthR, mtD, slD, seqOf, wipeE, Tgs.len, Pv.unpack, Option.map_none, Option.bind_none, augD, revD, List.map_cons, List.map_nil, isiD, ty, List.any_cons, List.any_nil, tupI, firstOf, sh2, eqv, eqvL]
      · have eq : eqv (tupI (ys ++ [y])) (.tup []) = false := by
          have := enc1.eq (ys ++ [y]) []
          simpa [tupI] using this
        simp only [tupI] at sh1 eq
        rw [List.map_append] at sh1 eq
        simp only [List.map_cons, List.map_nil] at sh1 eq
        simp [exSs, exS, evE, evEs, evT, Pv.evI, evC, evTg, evTgs, evO, vv, up, one, retE, Option.bind_eq_bind, Option.bind_some, Option.map_some, Option.pure_def, List.getElem?_cons_zero, List.getElem?_cons_succ, List.set_cons_zero, List.set_cons_succ, asgN, asgSub, setIx, opD, addD, mulD, biD, cmpD, ixD, ixL, lenD, slotSeq, slotLst, truD, List.length_cons, List.length_nil, if_true, if_false, Bool.false_eq_true, reduceIte, mthHR, mthR, mtD, slD, seqOf, wipeE, Tgs.len, Pv.unpack, Option.map_none, Option.bind_none, augD, revD, List.map_cons, List.map_nil, isiD, ty, List.any_cons, List.any_nil, tupI, firstOf, sh1, sh2, eq, atI_lastD]
    have l1 : evE (T k) (.lc all_lots_e0 (.n 8) (.rng (.cons (.v 7) (.cons (.v 0) .nil))) .no [("machine", 8)]) [.val (.int m), s1, s2, s3, s4, .own acc, .val (tupI l), .val (.int (firstOf l)), .no] st = some (true, .lst (((rg (firstOf l) m).filter fun _ => true).map fun x => tupI (l ++ [x])), [.val (.int m), s1, s2, s3, s4, .own acc, .val (tupI l), .val (.int (firstOf l)), .no], st) := by
      refine ev_fm (enc := D.int) (rg (firstOf l) m) (fun _ => true) (fun x => tupI (l ++ [x])) (fun x => [.val (.int m), s1, s2, s3, s4, .own acc, .val (tupI l), .val (.int (firstOf l)), .val (.int x)]) (by simp [exSs, exS, evE, evEs, evT, Pv.evI, evC, evTg, evTgs, evO, vv, up, one, retE, Option.bind_eq_bind, Option.bind_some, Option.map_some, Option.pure_def, List.getElem?_cons_zero, List.getElem?_cons_succ, List.set_cons_zero, List.set_cons_succ, asgN, asgSub, setIx, opD, addD, mulD, biD, cmpD, ixD, ixL, lenD, slotSeq, slotLst, truD, List.length_cons, List.length_nil, if_true, if_false, Bool.false_eq_true, reduceIte, mthHR, mthR, mtD, slD, seqOf, wipeE, Tgs.len, Pv.unpack, Option.map_none, Option.bind_none, augD, revD, List.map_cons, List.map_nil, isiD, ty, List.any_cons, List.any_nil, rngD2 (a := firstOf l) (b := m) (by omega) (by omega) (by omega) (by omega), rng_rg]) (by simp [exSs, exS, evE, evEs, evT, Pv.evI, evC, evTg, evTgs, evO, vv, up, one, retE, Option.bind_eq_bind, Option.bind_some, Option.map_some, Option.pure_def, List.getElem?_cons_zero, List.getElem?_cons_succ, List.set_cons_zero, List.set_cons_succ, asgN, asgSub, setIx, opD, addD, mulD, biD, cmpD, ixD, ixL, lenD, slotSeq, slotLst, truD, List.length_cons, List.length_nil, if_true, if_false, Bool.false_eq_true, reduceIte, mthHR, mthR, mtD, slD, seqOf, wipeE, Tgs.len, Pv.unpack, Option.map_none, Option.bind_none, augD, revD, List.map_cons, List.map_nil, isiD, ty, List.any_cons, List.any_nil]) (by rw [rg_len]; unfold lim; omega) fun x _ => ?_
      have h1 : l.length + 1 ≤ lim := by unfold lim; omega
      exact ⟨by simp [exSs, exS, evE, evEs, evT, Pv.evI, evC, evTg, evTgs, evO, vv, up, one, retE, Option.bind_eq_bind, Option.bind_some, Option.map_some, Option.pure_def, List.getElem?_cons_zero, List.getElem?_cons_succ, List.set_cons_zero, List.set_cons_succ, asgN, asgSub, setIx, opD, addD, mulD, biD, cmpD, ixD, ixL, lenD, slotSeq, slotLst, truD, List.length_cons, List.length_nil, if_true, if_false, Bool.false_eq_true, reduceIte, mthHR, mthR, mtD, slD, seqOf, wipeE, Tgs.len, Pv.unpack, Option.map_none, Option.bind_none, augD, revD, List.map_cons, List.map_nil, isiD, ty, List.any_cons, List.any_nil], by simp [exSs, exS, evE, evEs, evT, Pv.evI, evC, evTg, evTgs, evO, vv, up, one, retE, Option.bind_eq_bind, Option.bind_some, Option.map_some, Option.pure_def, List.getElem?_cons_zero, List.getElem?_cons_succ, List.set_cons_zero, List.set_cons_succ, asgN, asgSub, setIx, opD, addD, mulD, biD, cmpD, ixD, ixL, lenD, slotSeq, slotLst, truD, List.length_cons, List.length_nil, if_true, if_false, Bool.false_eq_true, reduceIte, mthHR, mthR, mtD, slD, seqOf, wipeE, Tgs.len, Pv.unpack, Option.map_none, Option.bind_none, augD, revD, List.map_cons, List.map_nil, isiD, ty, List.any_cons, List.any_nil], fun _ => by simp [all_lots_e0, exSs, exS, evE, evEs, evT, Pv.evI, evC, evTg, evTgs, evO, vv, up, one, retE, Option.bind_eq_bind, Option.bind_some, Option.map_some, Option.pure_def, List.getElem?_cons_zero, List.getElem?_cons_succ, List.set_cons_zero, List.set_cons_succ, asgN, asgSub, setIx, opD, addD, mulD, biD, cmpD, ixD, ixL, lenD, slotSeq, slotLst, truD, List.length_cons, List.length_nil, if_true, if_false, Bool.false_eq_true, reduceIte, mthHR, mthR, mtD, slD, seqOf, wipeE, Tgs.len, Pv.unpack, Option.map_none, Option.bind_none, augD, revD, List.map_cons, List.map_nil, isiD, ty, List.any_cons, List.any_nil, tupI, h1, show (1 : Nat) ≤ lim by decide], by simp [exSs, exS, evE, evEs, evT, Pv.evI, evC, evTg, evTgs, evO, vv, up, one, retE, Option.bind_eq_bind, Option.bind_some, Option.map_some, Option.pure_def, List.getElem?_cons_zero, List.getElem?_cons_succ, List.set_cons_zero, List.set_cons_succ, asgN, asgSub, setIx, opD, addD, mulD, biD, cmpD, ixD, ixL, lenD, slotSeq, slotLst, truD, List.length_cons, List.length_nil, if_true, if_false, Bool.false_eq_true, reduceIte, mthHR, mthR, mtD, slD, seqOf, wipeE, Tgs.len, Pv.unpack, Option.map_none, Option.bind_none, augD, revD, List.map_cons, List.map_nil, isiD, ty, List.any_cons, List.any_nil]⟩
    rw [filt] at l1
    have hl2 : ((rg (firstOf l) m).map fun x => tupI (l ++ [x])) = (longer m l).map tupI := by unfold longer; rw [List.map_map]; rfl
    rw [hl2] at l1
    have hlim : acc.length + (longer m l).length ≤ lim := by unfold lim; omega
    have e2 : exSs (T k) all_lots_b1 [.val (.int m), s1, s2, s3, s4, .own acc, .val (tupI l), s7, .no] st = some (.nx, [.val (.int m), s1, s2, s3, s4, .own (acc ++ (longer m l).map tupI), .val (tupI l), .val (.int (firstOf l)), .no], st) := by
      unfold all_lots_b1
      refine (sq st1).trans ?_
      generalize E.lc all_lots_e0 _ _ _ _ = LC at l1 ⊢
      exact sq1 (by simp [exSs, exS, evE, evEs, evT, Pv.evI, evC, evTg, evTgs, evO, vv, up, one, retE, Option.bind_eq_bind, Option.bind_some, Option.map_some, Option.pure_def, List.getElem?_cons_zero, List.getElem?_cons_succ, List.set_cons_zero, List.set_cons_succ, asgN, asgSub, setIx, opD, addD, mulD, biD, cmpD, ixD, ixL, lenD, slotSeq, slotLst, truD, List.length_cons, List.length_nil, if_true, if_false, Bool.false_eq_true, reduceIte, mthHR, mthR, mtD, slD, seqOf, wipeE, Tgs.len, Pv.unpack, Option.map_none, Option.bind_none, augD, revD, List.map_cons, List.map_nil, isiD, ty, List.any_cons, List.any_nil, l1, hlim])
    simp only [List.map_cons, forL, e1, e2, Option.bind_eq_bind, Option.bind_some, ih]
    simp
def lotsN (m : Int) : Nat → List (List Int) × List (List Int)
  | 0 => ([[]], [[]])
  | n + 1 => ((lotsN m n).1 ++ (lotsN m n).2.flatMap (longer m), (lotsN m n).2.flatMap (longer m))
theorem longer_ok {m : Int} (hm : 0 ≤ m) {lot l' : List Int} (h : LotOk m lot) (hl : lot.length < 900) (h' : l' ∈ longer m lot) : LotOk m l' ∧ l'.length = lot.length + 1 := by
  obtain ⟨x, hx, rfl⟩ := List.mem_map.mp h'
  have h1 := rg_mem hx
  have h2 := first_ok hm h
  refine ⟨⟨fun y hy => ?_, by rw [List.length_append, List.length_singleton]; omega⟩, by simp⟩
  rcases List.mem_append.mp hy with z | z
  · exact h.1 y z
  · rw [List.mem_singleton.mp z]; omega
theorem lotsN_ok {m : Int} (hm : 1 ≤ m ∧ m ≤ 6) : ∀ n : Nat, n ≤ 6 → (∀ l ∈ (lotsN m n).1, LotOk m l ∧ l.length ≤ n) ∧ (∀ l ∈ (lotsN m n).2, LotOk m l ∧ l.length = n) ∧ (lotsN m n).1.length ≤ 7 ^ n ∧ (lotsN m n).2.length ≤ 6 ^ n
  | 0, _ => by
    have h0 : LotOk m [] := ⟨fun x h => by simp at h, by simp⟩
    refine ⟨fun l h => ?_, fun l h => ?_, by simp [lotsN], by simp [lotsN]⟩
    · simp [lotsN] at h; subst h; exact ⟨h0, by simp⟩
    · simp [lotsN] at h; subst h; exact ⟨h0, by simp⟩
  | n + 1, hn => by
    obtain ⟨h1, h2, h3, h4⟩ := lotsN_ok hm n (by omega)
    have hs : ∀ l ∈ (lotsN m n).2.flatMap (longer m), LotOk m l ∧ l.length = n + 1 := fun l h => by
      obtain ⟨l0, h0, hl⟩ := List.mem_flatMap.mp h
      obtain ⟨a, b⟩ := h2 l0 h0
      have := longer_ok (by omega) a (by omega) hl
      exact ⟨this.1, by omega⟩
    have hb : ((lotsN m n).2.flatMap (longer m)).length ≤ 6 ^ (n + 1) := by
      have : ∀ ls : List (List Int), (∀ l ∈ ls, LotOk m l) → (ls.flatMap (longer m)).length ≤ ls.length * 6 := fun ls => by
        induction ls with
        | nil => intro _; simp
        | cons a as ih =>
          intro ha
          have h5 := longer_len (m := m) (by omega) (ha a List.mem_cons_self)
          have h6 := ih fun x hx => ha x (List.mem_cons_of_mem _ hx)
          rw [List.flatMap_cons, List.length_append, List.length_cons]; omega
      have h7 := this _ fun l hl => (h2 l hl).1
      rw [Nat.pow_succ]; omega
    refine ⟨fun l h => ?_, hs, ?_, hb⟩
    · rcases List.mem_append.mp h with z | z
      · exact ⟨(h1 l z).1, by have := (h1 l z).2; omega⟩
      · exact ⟨(hs l z).1, by have := (hs l z).2; omega⟩
    · show ((lotsN m n).1 ++ (lotsN m n).2.flatMap (longer m)).length ≤ 7 ^ (n + 1)
      have h8 : 6 ^ (n + 1) ≤ 6 * 7 ^ n := by
        rw [Nat.pow_succ, Nat.mul_comm]; exact Nat.mul_le_mul_left 6 (Nat.pow_le_pow_left (by decide) n)
      rw [List.length_append, Nat.pow_succ]; omega
theorem pow_small {n : Nat} (h : n ≤ 6) : 6 ^ n ≤ 46656 ∧ 7 ^ n ≤ 117649 :=
  ⟨Nat.le_trans (Nat.pow_le_pow_right (by decide) h) (by decide), Nat.le_trans (Nat.pow_le_pow_right (by decide) h) (by decide)⟩
/-- a slot that holds a list -/
def Holds (s : Sl) (xs : List D) : Prop := s = .own xs ∨ s = .val (.lst xs)
theorem lots_outer {k : Nat} (st : Sto) {m : Int} (hm : 1 ≤ m ∧ m ≤ 6) (s1 : Sl) : ∀ (ds : List D) (n : Nat) (s3 s4 s5 s6 s7 : Sl), Holds s3 ((lotsN m n).2.map tupI) → n + ds.length ≤ 5 →
    ∃ s3' s4' s5' s6' s7', forL (evTg (T k) (.n 4)) (exSs (T k) all_lots_b2) ds [.val (.int m), s1, .own ((lotsN m n).1.map tupI), s3, s4, s5, s6, s7, .no] st = some (.nx, [.val (.int m), s1, .own ((lotsN m (n + ds.length)).1.map tupI), s3', s4', s5', s6', s7', .no], st)
  | [], n, s3, s4, s5, s6, s7, _, _ => ⟨s3, s4, s5, s6, s7, rfl⟩
  | d :: ds, n, s3, s4, s5, s6, s7, h3, hn => by
    rw [List.length_cons] at hn
    obtain ⟨o1, o2, o3, o4⟩ := lotsN_ok hm n (by omega)
    obtain ⟨p1, p2⟩ := pow_small (n := n) (by omega)
    obtain ⟨q1, q2⟩ := pow_small (n := n + 1) (by omega)
    obtain ⟨_, _, o5, o6⟩ := lotsN_ok hm (n + 1) (by omega)
    obtain ⟨t6, t7, el⟩ := lots_loop (k := k) st hm s1 (.own ((lotsN m n).1.map tupI)) (.val (.lst ((lotsN m n).2.map tupI))) (.val d) (lotsN m n).2 [] s6 s7 (fun l hl => ⟨(o2 l hl).1, by have := (o2 l hl).2; omega⟩) (by simp; omega)
    rw [List.nil_append] at el
    obtain ⟨r3, r4, r5, r6, r7, ih⟩ := lots_outer (k := k) st hm s1 ds (n + 1) (.val (.lst (((lotsN m n).2.flatMap (longer m)).map tupI))) (.val d) (.val (.lst (((lotsN m n).2.flatMap (longer m)).map tupI))) t6 t7 (.inr rfl) (by omega)
    refine ⟨r3, r4, r5, r6, r7, ?_⟩
    have e1 : evTg (T k) (.n 4) d [.val (.int m), s1, .own ((lotsN m n).1.map tupI), s3, s4, s5, s6, s7, .no] st = some ([.val (.int m), s1, .own ((lotsN m n).1.map tupI), s3, .val d, s5, s6, s7, .no], st) := by simp [exSs, exS, evE, evEs, evT, Pv.evI, evC, evTg, evTgs, evO, vv, up, one, retE, Option.bind_eq_bind, Option.bind_some, Option.map_some, Option.pure_def, List.getElem?_cons_zero, List.getElem?_cons_succ, List.set_cons_zero, List.set_cons_succ, asgN, asgSub, setIx, opD, addD, mulD, biD, cmpD, ixD, ixL, lenD, slotSeq, slotLst, truD, List.length_cons, List.length_nil, if_true, if_false, Bool.false_eq_true, reduceIte, mthHR, mthR, mtD, slD, seqOf, wipeE, Tgs.len, Pv.unpack, Option.map_none, Option.bind_none, augD, revD, List.map_cons, List.map_nil, isiD, ty, List.any_cons, List.any_nil]
    have hlim : (lotsN m n).1.length + ((lotsN m n).2.flatMap (longer m)).length ≤ lim := by
      have o5' : ((lotsN m n).1 ++ (lotsN m n).2.flatMap (longer m)).length ≤ 7 ^ (n + 1) := o5
      rw [List.length_append] at o5'
      unfold lim; omega
    have e2 : exSs (T k) all_lots_b2 [.val (.int m), s1, .own ((lotsN m n).1.map tupI), s3, .val d, s5, s6, s7, .no] st =
        some (.nx, [.val (.int m), s1, .own ((lotsN m (n + 1)).1.map tupI), .val (.lst (((lotsN m n).2.flatMap (longer m)).map tupI)), .val d, .val (.lst (((lotsN m n).2.flatMap (longer m)).map tupI)), t6, t7, .no], st) := by
      unfold all_lots_b2
      refine (sq (ρ1 := [.val (.int m), s1, .own ((lotsN m n).1.map tupI), s3, .val d, .own [], s6, s7, .no]) (st1 := st) (by simp [exSs, exS, evE, evEs, evT, Pv.evI, evC, evTg, evTgs, evO, vv, up, one, retE, Option.bind_eq_bind, Option.bind_some, Option.map_some, Option.pure_def, List.getElem?_cons_zero, List.getElem?_cons_succ, List.set_cons_zero, List.set_cons_succ, asgN, asgSub, setIx, opD, addD, mulD, biD, cmpD, ixD, ixL, lenD, slotSeq, slotLst, truD, List.length_cons, List.length_nil, if_true, if_false, Bool.false_eq_true, reduceIte, mthHR, mthR, mtD, slD, seqOf, wipeE, Tgs.len, Pv.unpack, Option.map_none, Option.bind_none, augD, revD, List.map_cons, List.map_nil, isiD, ty, List.any_cons, List.any_nil])).trans ?_
      refine (sq (ex_for (xs := (lotsN m n).2.map tupI) (ρ1 := [.val (.int m), s1, .own ((lotsN m n).1.map tupI), .val (.lst ((lotsN m n).2.map tupI)), .val d, .own [], s6, s7, .no]) (st1 := st) (by rcases h3 with rfl | rfl <;> simp [exSs, exS, evE, evEs, evT, Pv.evI, evC, evTg, evTgs, evO, vv, up, one, retE, Option.bind_eq_bind, Option.bind_some, Option.map_some, Option.pure_def, List.getElem?_cons_zero, List.getElem?_cons_succ, List.set_cons_zero, List.set_cons_succ, asgN, asgSub, setIx, opD, addD, mulD, biD, cmpD, ixD, ixL, lenD, slotSeq, slotLst, truD, List.length_cons, List.length_nil, if_true, if_false, Bool.false_eq_true, reduceIte, mthHR, mthR, mtD, slD, seqOf, wipeE, Tgs.len, Pv.unpack, Option.map_none, Option.bind_none, augD, revD, List.map_cons, List.map_nil, isiD, ty, List.any_cons, List.any_nil]) el)).trans ?_
      refine (sq (ρ1 := [.val (.int m), s1, .own ((lotsN m (n + 1)).1.map tupI), .val (.lst ((lotsN m n).2.map tupI)), .val d, .val (.lst (((lotsN m n).2.flatMap (longer m)).map tupI)), t6, t7, .no]) (st1 := st) (by simp [-List.length_flatMap, exSs, exS, evE, evEs, evT, Pv.evI, evC, evTg, evTgs, evO, vv, up, one, retE, Option.bind_eq_bind, Option.bind_some, Option.map_some, Option.pure_def, List.getElem?_cons_zero, List.getElem?_cons_succ, List.set_cons_zero, List.set_cons_succ, asgN, asgSub, setIx, opD, addD, mulD, biD, cmpD, ixD, ixL, lenD, slotSeq, slotLst, truD, List.length_cons, List.length_nil, if_true, if_false, Bool.false_eq_true, reduceIte, mthHR, mthR, mtD, slD, seqOf, wipeE, Tgs.len, Pv.unpack, Option.map_none, Option.bind_none, augD, revD, List.map_cons, List.map_nil, isiD, ty, List.any_cons, List.any_nil, hlim, lotsN])).trans ?_
      exact sq1 (by simp [exSs, exS, evE, evEs, evT, Pv.evI, evC, evTg, evTgs, evO, vv, up, one, retE, Option.bind_eq_bind, Option.bind_some, Option.map_some, Option.pure_def, List.getElem?_cons_zero, List.getElem?_cons_succ, List.set_cons_zero, List.set_cons_succ, asgN, asgSub, setIx, opD, addD, mulD, biD, cmpD, ixD, ixL, lenD, slotSeq, slotLst, truD, List.length_cons, List.length_nil, if_true, if_false, Bool.false_eq_true, reduceIte, mthHR, mthR, mtD, slD, seqOf, wipeE, Tgs.len, Pv.unpack, Option.map_none, Option.bind_none, augD, revD, List.map_cons, List.map_nil, isiD, ty, List.any_cons, List.any_nil])
    simp only [forL, e1, e2, Option.bind_eq_bind, Option.bind_some, ih, List.length_cons]
    rw [show n + 1 + ds.length = n + (ds.length + 1) by omega]
def allLots (m k : Int) : List (List Int) := srt lt1 (lotsN m (min k (m - 1)).toNat).1
theorem lots_run (k : Nat) (st : Sto) {m c : Int} (hm : 1 ≤ m ∧ m ≤ 6) (hc : 0 ≤ c ∧ c ≤ 100) : Fc (k + 1) "all_lots" [.int m, .int c] st = some (false, tP (allLots m c), st) := by
  rw [q_all_lots]
  have hmin : (if m - 1 < c then m - 1 else c) = min c (m - 1) := by
    split <;> omega
  have hr : (rngL 0 (min c (m - 1)) 1).length = (min c (m - 1)).toNat := by rw [rng_len]; omega
  obtain ⟨s3, s4, s5, s6, s7, e⟩ := lots_outer (k := k) st hm (.val (.int c)) (rngL 0 (min c (m - 1)) 1) 0 (.own [tupI []]) .no .no .no .no (.inl rfl) (by rw [hr]; omega)
  rw [hr, Nat.zero_add] at e
  have o := enc1.ord (by decide) (lotsN m (min c (m - 1)).toNat).1
  have s := enc1.sort (lotsN m (min c (m - 1)).toNat).1
  refine run_rt (ρ1 := [.val (.int m), .val (.int c), .val (.lst ((lotsN m (min c (m - 1)).toNat).1.map tupI)), s3, s4, s5, s6, s7, .no]) (n := 7) rfl rfl ?_
  unfold b_all_lots
  refine (sq (ρ1 := [.val (.int m), .val (.int c), .own [tupI []], .no, .no, .no, .no, .no, .no]) (st1 := st) (by simp [exSs, exS, evE, evEs, evT, Pv.evI, evC, evTg, evTgs, evO, vv, up, one, retE, Option.bind_eq_bind, Option.bind_some, Option.map_some, Option.pure_def, List.getElem?_cons_zero, List.getElem?_cons_succ, List.set_cons_zero, List.set_cons_succ, asgN, asgSub, setIx, opD, addD, mulD, biD, cmpD, ixD, ixL, lenD, slotSeq, slotLst, truD, List.length_cons, List.length_nil, if_true, if_false, Bool.false_eq_true, reduceIte, mthHR, mthR, mtD, slD, seqOf, wipeE, Tgs.len, Pv.unpack, Option.map_none, Option.bind_none, augD, revD, List.map_cons, List.map_nil, isiD, ty, List.any_cons, List.any_nil, tupI, show (1 : Nat) ≤ lim by decide])).trans ?_
  refine (sq (ρ1 := [.val (.int m), .val (.int c), .own [tupI []], .own [tupI []], .no, .no, .no, .no, .no]) (st1 := st) (by simp [exSs, exS, evE, evEs, evT, Pv.evI, evC, evTg, evTgs, evO, vv, up, one, retE, Option.bind_eq_bind, Option.bind_some, Option.map_some, Option.pure_def, List.getElem?_cons_zero, List.getElem?_cons_succ, List.set_cons_zero, List.set_cons_succ, asgN, asgSub, setIx, opD, addD, mulD, biD, cmpD, ixD, ixL, lenD, slotSeq, slotLst, truD, List.length_cons, List.length_nil, if_true, if_false, Bool.false_eq_true, reduceIte, mthHR, mthR, mtD, slD, seqOf, wipeE, Tgs.len, Pv.unpack, Option.map_none, Option.bind_none, augD, revD, List.map_cons, List.map_nil, isiD, ty, List.any_cons, List.any_nil, tupI, show (1 : Nat) ≤ lim by decide])).trans ?_
  refine (sq (ex_for (xs := rngL 0 (min c (m - 1)) 1) (ρ1 := [.val (.int m), .val (.int c), .own [tupI []], .own [tupI []], .no, .no, .no, .no, .no]) (st1 := st) (by simp [exSs, exS, evE, evEs, evT, Pv.evI, evC, evTg, evTgs, evO, vv, up, one, retE, Option.bind_eq_bind, Option.bind_some, Option.map_some, Option.pure_def, List.getElem?_cons_zero, List.getElem?_cons_succ, List.set_cons_zero, List.set_cons_succ, asgN, asgSub, setIx, opD, addD, mulD, biD, cmpD, ixD, ixL, lenD, slotSeq, slotLst, truD, List.length_cons, List.length_nil, if_true, if_false, Bool.false_eq_true, reduceIte, mthHR, mthR, mtD, slD, seqOf, wipeE, Tgs.len, Pv.unpack, Option.map_none, Option.bind_none, augD, revD, List.map_cons, List.map_nil, isiD, ty, List.any_cons, List.any_nil, hmin, rngD1 (n := min c (m - 1)) (by omega) (by omega)]) e)).trans ?_
  exact sqr (by simp [exSs, exS, evE, evEs, evT, Pv.evI, evC, evTg, evTgs, evO, vv, up, one, retE, Option.bind_eq_bind, Option.bind_some, Option.map_some, Option.pure_def, List.getElem?_cons_zero, List.getElem?_cons_succ, List.set_cons_zero, List.set_cons_succ, asgN, asgSub, setIx, opD, addD, mulD, biD, cmpD, ixD, ixL, lenD, slotSeq, slotLst, truD, List.length_cons, List.length_nil, if_true, if_false, Bool.false_eq_true, reduceIte, mthHR, mthR, mtD, slD, seqOf, wipeE, Tgs.len, Pv.unpack, Option.map_none, Option.bind_none, augD, revD, List.map_cons, List.map_nil, isiD, ty, List.any_cons, List.any_nil, o, s, allLots, tupE])
end Lk35

namespace Lk35
open PySem PySem.Spec PyProof.Rows L2 Pv
def apart (a b : List Int) : Bool := (a.filter fun x => decide (x ∈ b)).isEmpty
theorem apart_run (k : Nat) (st : Sto) (a b : List Int) (h : a.length ≤ 1000) : Fc (k + 1) "is_apart" [tupI a, tupI b] st = some (false, .bl (apart a b), st) := by
  rw [q_is_apart]
  refine run_rt (ρ1 := [.val (tupI a), .val (tupI b), .no]) (n := 1) rfl rfl ?_
  have l : evE (T k) (.lc is_apart_e0 (.n 2) (.val (.v 0)) (.so is_apart_c1) [("machine", 2)]) [.val (tupI a), .val (tupI b), .no] st = some (true, .lst ((a.filter fun x => decide (x ∈ b)).map D.int), [.val (tupI a), .val (tupI b), .no], st) := by
    refine ev_fm (enc := D.int) a (fun x => decide (x ∈ b)) D.int (fun x => [.val (tupI a), .val (tupI b), .val (.int x)]) (by simp [exSs, exS, evE, evEs, evT, Pv.evI, evC, evTg, evTgs, evO, vv, up, one, retE, Option.bind_eq_bind, Option.bind_some, Option.map_some, Option.pure_def, List.getElem?_cons_zero, List.getElem?_cons_succ, List.set_cons_zero, List.set_cons_succ, asgN, asgSub, setIx, opD, addD, mulD, biD, cmpD, ixD, ixL, lenD, slotSeq, slotLst, truD, List.length_cons, List.length_nil, if_true, if_false, Bool.false_eq_true, reduceIte, mthHR, mthR, mtD, slD, seqOf, wipeE, Tgs.len, Pv.unpack, Option.map_none, Option.bind_none, augD, revD, List.map_cons, List.map_nil, isiD, ty, List.any_cons, List.any_nil, tupI]) (by simp [exSs, exS, evE, evEs, evT, Pv.evI, evC, evTg, evTgs, evO, vv, up, one, retE, Option.bind_eq_bind, Option.bind_some, Option.map_some, Option.pure_def, List.getElem?_cons_zero, List.getElem?_cons_succ, List.set_cons_zero, List.set_cons_succ, asgN, asgSub, setIx, opD, addD, mulD, biD, cmpD, ixD, ixL, lenD, slotSeq, slotLst, truD, List.length_cons, List.length_nil, if_true, if_false, Bool.false_eq_true, reduceIte, mthHR, mthR, mtD, slD, seqOf, wipeE, Tgs.len, Pv.unpack, Option.map_none, Option.bind_none, augD, revD, List.map_cons, List.map_nil, isiD, ty, List.any_cons, List.any_nil]) (by unfold lim; omega) fun x _ => ?_
    exact ⟨by simp [exSs, exS, evE, evEs, evT, Pv.evI, evC, evTg, evTgs, evO, vv, up, one, retE, Option.bind_eq_bind, Option.bind_some, Option.map_some, Option.pure_def, List.getElem?_cons_zero, List.getElem?_cons_succ, List.set_cons_zero, List.set_cons_succ, asgN, asgSub, setIx, opD, addD, mulD, biD, cmpD, ixD, ixL, lenD, slotSeq, slotLst, truD, List.length_cons, List.length_nil, if_true, if_false, Bool.false_eq_true, reduceIte, mthHR, mthR, mtD, slD, seqOf, wipeE, Tgs.len, Pv.unpack, Option.map_none, Option.bind_none, augD, revD, List.map_cons, List.map_nil, isiD, ty, List.any_cons, List.any_nil], by simp [is_apart_c1, exSs, exS, evE, evEs, evT, Pv.evI, evC, evTg, evTgs, evO, vv, up, one, retE, Option.bind_eq_bind, Option.bind_some, Option.map_some, Option.pure_def, List.getElem?_cons_zero, List.getElem?_cons_succ, List.set_cons_zero, List.set_cons_succ, asgN, asgSub, setIx, opD, addD, mulD, biD, cmpD, ixD, ixL, lenD, slotSeq, slotLst, truD, List.length_cons, List.length_nil, if_true, if_false, Bool.false_eq_true, reduceIte, mthHR, mthR, mtD, slD, seqOf, wipeE, Tgs.len, Pv.unpack, Option.map_none, Option.bind_none, augD, revD, List.map_cons, List.map_nil, isiD, ty, List.any_cons, List.any_nil, tupI, inD_int] <;> congr, fun _ => by simp [is_apart_e0, exSs, exS, evE, evEs, evT, Pv.evI, evC, evTg, evTgs, evO, vv, up, one, retE, Option.bind_eq_bind, Option.bind_some, Option.map_some, Option.pure_def, List.getElem?_cons_zero, List.getElem?_cons_succ, List.set_cons_zero, List.set_cons_succ, asgN, asgSub, setIx, opD, addD, mulD, biD, cmpD, ixD, ixL, lenD, slotSeq, slotLst, truD, List.length_cons, List.length_nil, if_true, if_false, Bool.false_eq_true, reduceIte, mthHR, mthR, mtD, slD, seqOf, wipeE, Tgs.len, Pv.unpack, Option.map_none, Option.bind_none, augD, revD, List.map_cons, List.map_nil, isiD, ty, List.any_cons, List.any_nil], by simp [exSs, exS, evE, evEs, evT, Pv.evI, evC, evTg, evTgs, evO, vv, up, one, retE, Option.bind_eq_bind, Option.bind_some, Option.map_some, Option.pure_def, List.getElem?_cons_zero, List.getElem?_cons_succ, List.set_cons_zero, List.set_cons_succ, asgN, asgSub, setIx, opD, addD, mulD, biD, cmpD, ixD, ixL, lenD, slotSeq, slotLst, truD, List.length_cons, List.length_nil, if_true, if_false, Bool.false_eq_true, reduceIte, mthHR, mthR, mtD, slD, seqOf, wipeE, Tgs.len, Pv.unpack, Option.map_none, Option.bind_none, augD, revD, List.map_cons, List.map_nil, isiD, ty, List.any_cons, List.any_nil]⟩
  unfold b_is_apart
  have hs := sh_ints 59 (a.filter fun x => decide (x ∈ b))
  have hs0 : sh 60 (.lst []) = true := by decide
  have he := eq_nil (a.filter fun x => decide (x ∈ b))
  have ha : apart a b = (a.filter fun x => decide (x ∈ b)).isEmpty := rfl
  rw [ha]
  generalize (a.filter fun x => decide (x ∈ b)) = R at *
  generalize E.lc is_apart_e0 _ _ _ _ = LC at l ⊢
  exact sqr (by simp [exSs, exS, evE, evEs, evT, Pv.evI, evC, evTg, evTgs, evO, vv, up, one, retE, Option.bind_eq_bind, Option.bind_some, Option.map_some, Option.pure_def, List.getElem?_cons_zero, List.getElem?_cons_succ, List.set_cons_zero, List.set_cons_succ, asgN, asgSub, setIx, opD, addD, mulD, biD, cmpD, ixD, ixL, lenD, slotSeq, slotLst, truD, List.length_cons, List.length_nil, if_true, if_false, Bool.false_eq_true, reduceIte, mthHR, mthR, mtD, slD, seqOf, wipeE, Tgs.len, Pv.unpack, Option.map_none, Option.bind_none, augD, revD, List.map_cons, List.map_nil, isiD, ty, List.any_cons, List.any_nil, l, hs, hs0, he])
def patsF (m : Int) (qs ls : List (List Int)) : List Pat := qs.flatMap fun q => (ls.filter fun l => apart q l && decide ((q.length : Int) + l.length < m)).map fun l => [q, l]
theorem patsF_len (m : Int) (qs ls : List (List Int)) : (patsF m qs ls).length ≤ qs.length * ls.length := by
  unfold patsF
  induction qs with
  | nil => simp
  | cons q qs ih =>
    have := List.length_filter_le (fun l => apart q l && decide ((q.length : Int) + l.length < m)) ls
    rw [List.flatMap_cons, List.length_append, List.length_map, List.length_cons, Nat.succ_mul]; omega
theorem pats_inner {k : Nat} (st : Sto) (m : Int) (s1 s2 : Sl) (q : List Int) (hq : q.length ≤ 1000) : ∀ (ls : List (List Int)) (acc : List D) (s5 : Sl), acc.length + ls.length ≤ 1000000 →
    ∃ s5', forL (evTg (T (k + 1)) (.n 5)) (exSs (T (k + 1)) all_patterns_b0) (ls.map tupI) [.val (.int m), s1, s2, .own acc, .val (tupI q), s5] st =
      some (.nx, [.val (.int m), s1, s2, .own (acc ++ ((ls.filter fun l => apart q l && decide ((q.length : Int) + l.length < m)).map fun l => tP [q, l])), .val (tupI q), s5'], st)
  | [], acc, s5, _ => ⟨s5, by simp [forL]⟩
  | l :: ls, acc, s5, hl => by
    rw [List.length_cons] at hl
    have e1 : evTg (T (k + 1)) (.n 5) (tupI l) [.val (.int m), s1, s2, .own acc, .val (tupI q), s5] st = some ([.val (.int m), s1, s2, .own acc, .val (tupI q), .val (tupI l)], st) := by simp [exSs, exS, evE, evEs, evT, Pv.evI, evC, evTg, evTgs, evO, vv, up, one, retE, Option.bind_eq_bind, Option.bind_some, Option.map_some, Option.pure_def, List.getElem?_cons_zero, List.getElem?_cons_succ, List.set_cons_zero, List.set_cons_succ, asgN, asgSub, setIx, opD, addD, mulD, biD, cmpD, ixD, ixL, lenD, slotSeq, slotLst, truD, List.length_cons, List.length_nil, if_true, if_false, Bool.false_eq_true, reduceIte, mthHR, mthR, mtD, slD, seqOf, wipeE, Tgs.len, Pv.unpack, Option.map_none, Option.bind_none, augD, revD, List.map_cons, List.map_nil, isiD, ty, List.any_cons, List.any_nil]
    have ar := apart_run k st q l hq
    have hlim : acc.length < lim := by unfold lim; omega
    have t : evT (T (k + 1)) (.an (.e (.call "is_apart" (.cons (.v 4) (.cons (.v 5) .nil)))) (.e (.cmp .Lt (.op .Add (.lenv 4) (.lenv 5)) (.v 0)))) [.val (.int m), s1, s2, .own acc, .val (tupI q), .val (tupI l)] st = some (apart q l && decide ((q.length : Int) + l.length < m), [.val (.int m), s1, s2, .own acc, .val (tupI q), .val (tupI l)], st) := by
      cases ha : apart q l with
      | true => rw [ha] at ar; simp only [tupI] at ar; simp [exSs, exS, evE, evEs, evT, Pv.evI, evC, evTg, evTgs, evO, vv, up, one, retE, Option.bind_eq_bind, Option.bind_some, Option.map_some, Option.pure_def, List.getElem?_cons_zero, List.getElem?_cons_succ, List.set_cons_zero, List.set_cons_succ, asgN, asgSub, setIx, opD, addD, mulD, biD, cmpD, ixD, ixL, lenD, slotSeq, slotLst, truD, List.length_cons, List.length_nil, if_true, if_false, Bool.false_eq_true, reduceIte, mthHR, mthR, mtD, slD, seqOf, wipeE, Tgs.len, Pv.unpack, Option.map_none, Option.bind_none, augD, revD, List.map_cons, List.map_nil, isiD, ty, List.any_cons, List.any_nil, tupI, ar]
      | false => rw [ha] at ar; simp [exSs, exS, evE, evEs, evT, Pv.evI, evC, evTg, evTgs, evO, vv, up, one, retE, Option.bind_eq_bind, Option.bind_some, Option.map_some, Option.pure_def, List.getElem?_cons_zero, List.getElem?_cons_succ, List.set_cons_zero, List.set_cons_succ, asgN, asgSub, setIx, opD, addD, mulD, biD, cmpD, ixD, ixL, lenD, slotSeq, slotLst, truD, List.length_cons, List.length_nil, if_true, if_false, Bool.false_eq_true, reduceIte, mthHR, mthR, mtD, slD, seqOf, wipeE, Tgs.len, Pv.unpack, Option.map_none, Option.bind_none, augD, revD, List.map_cons, List.map_nil, isiD, ty, List.any_cons, List.any_nil, ar]
    cases hb : (apart q l && decide ((q.length : Int) + l.length < m)) with
    | true =>
      rw [hb] at t
      obtain ⟨s5', ih⟩ := pats_inner (k := k) st m s1 s2 q hq ls (acc ++ [tP [q, l]]) (.val (tupI l)) (by simp; omega)
      refine ⟨s5', ?_⟩
      have e2 : exSs (T (k + 1)) all_patterns_b0 [.val (.int m), s1, s2, .own acc, .val (tupI q), .val (tupI l)] st = some (.nx, [.val (.int m), s1, s2, .own (acc ++ [tP [q, l]]), .val (tupI q), .val (tupI l)], st) := by
        unfold all_patterns_b0
        refine sq1 (ex_it t ?_)
        simp only [if_true]
        exact sq1 (by simp [exSs, exS, evE, evEs, evT, Pv.evI, evC, evTg, evTgs, evO, vv, up, one, retE, Option.bind_eq_bind, Option.bind_some, Option.map_some, Option.pure_def, List.getElem?_cons_zero, List.getElem?_cons_succ, List.set_cons_zero, List.set_cons_succ, asgN, asgSub, setIx, opD, addD, mulD, biD, cmpD, ixD, ixL, lenD, slotSeq, slotLst, truD, List.length_cons, List.length_nil, if_true, if_false, Bool.false_eq_true, reduceIte, mthHR, mthR, mtD, slD, seqOf, wipeE, Tgs.len, Pv.unpack, Option.map_none, Option.bind_none, augD, revD, List.map_cons, List.map_nil, isiD, ty, List.any_cons, List.any_nil, hlim, tupE, show (2 : Nat) ≤ lim by decide])
      simp only [List.map_cons, forL, e1, e2, Option.bind_eq_bind, Option.bind_some, ih]
      rw [List.filter_cons, hb]
      simp
    | false =>
      rw [hb] at t
      obtain ⟨s5', ih⟩ := pats_inner (k := k) st m s1 s2 q hq ls acc (.val (tupI l)) (by omega)
      refine ⟨s5', ?_⟩
      have e2 : exSs (T (k + 1)) all_patterns_b0 [.val (.int m), s1, s2, .own acc, .val (tupI q), .val (tupI l)] st = some (.nx, [.val (.int m), s1, s2, .own acc, .val (tupI q), .val (tupI l)], st) := by
        unfold all_patterns_b0
        refine sq1 (ex_it t ?_)
        simp only [Bool.false_eq_true, if_false, exSs]
      simp only [List.map_cons, forL, e1, e2, Option.bind_eq_bind, Option.bind_some, ih]
      rw [List.filter_cons, hb]
      simp
theorem pats_outer {k : Nat} (st : Sto) {m : Int} (hm : 1 ≤ m ∧ m ≤ 6) (s1 : Sl) {c : Int} (hc : 0 ≤ c ∧ c ≤ 100) (h6 : (allLots m c).length ≤ 100) : ∀ (qs : List (List Int)) (acc : List D) (s4 s5 : Sl), (∀ q ∈ qs, q.length ≤ 1000) → acc.length + qs.length * 100 ≤ 1000000 →
    ∃ s4' s5', forL (evTg (T (k + 1)) (.n 4)) (exSs (T (k + 1)) all_patterns_b1) (qs.map tupI) [.val (.int m), s1, .val (.int c), .own acc, s4, s5] st =
      some (.nx, [.val (.int m), s1, .val (.int c), .own (acc ++ (patsF m qs (allLots m c)).map tP), s4', s5'], st)
  | [], acc, s4, s5, _, _ => ⟨s4, s5, by simp [forL, patsF]⟩
  | q :: qs, acc, s4, s5, hq, hl => by
    rw [List.length_cons, Nat.succ_mul] at hl
    obtain ⟨t5, el⟩ := pats_inner (k := k) st m s1 (.val (.int c)) q (hq q List.mem_cons_self) (allLots m c) acc s5 (by omega)
    have fl := List.length_filter_le (fun l => apart q l && decide ((q.length : Int) + l.length < m)) (allLots m c)
    obtain ⟨r4, r5, ih⟩ := pats_outer (k := k) st hm s1 hc h6 qs (acc ++ (((allLots m c).filter fun l => apart q l && decide ((q.length : Int) + l.length < m)).map fun l => tP [q, l])) (.val (tupI q)) t5 (fun x hx => hq x (List.mem_cons_of_mem _ hx)) (by simp; omega)
    refine ⟨r4, r5, ?_⟩
    have e1 : evTg (T (k + 1)) (.n 4) (tupI q) [.val (.int m), s1, .val (.int c), .own acc, s4, s5] st = some ([.val (.int m), s1, .val (.int c), .own acc, .val (tupI q), s5], st) := by simp [exSs, exS, evE, evEs, evT, Pv.evI, evC, evTg, evTgs, evO, vv, up, one, retE, Option.bind_eq_bind, Option.bind_some, Option.map_some, Option.pure_def, List.getElem?_cons_zero, List.getElem?_cons_succ, List.set_cons_zero, List.set_cons_succ, asgN, asgSub, setIx, opD, addD, mulD, biD, cmpD, ixD, ixL, lenD, slotSeq, slotLst, truD, List.length_cons, List.length_nil, if_true, if_false, Bool.false_eq_true, reduceIte, mthHR, mthR, mtD, slD, seqOf, wipeE, Tgs.len, Pv.unpack, Option.map_none, Option.bind_none, augD, revD, List.map_cons, List.map_nil, isiD, ty, List.any_cons, List.any_nil]
    have lr := lots_run k st hm hc
    have e2 : exSs (T (k + 1)) all_patterns_b1 [.val (.int m), s1, .val (.int c), .own acc, .val (tupI q), s5] st = some (.nx, [.val (.int m), s1, .val (.int c), .own (acc ++ (((allLots m c).filter fun l => apart q l && decide ((q.length : Int) + l.length < m)).map fun l => tP [q, l])), .val (tupI q), t5], st) := by
      unfold all_patterns_b1
      refine sq1 (ex_for (xs := (allLots m c).map tupI) (ρ1 := [.val (.int m), s1, .val (.int c), .own acc, .val (tupI q), s5]) (st1 := st) ?_ el)
      simp [exSs, exS, evE, evEs, evT, Pv.evI, evC, evTg, evTgs, evO, vv, up, one, retE, Option.bind_eq_bind, Option.bind_some, Option.map_some, Option.pure_def, List.getElem?_cons_zero, List.getElem?_cons_succ, List.set_cons_zero, List.set_cons_succ, asgN, asgSub, setIx, opD, addD, mulD, biD, cmpD, ixD, ixL, lenD, slotSeq, slotLst, truD, List.length_cons, List.length_nil, if_true, if_false, Bool.false_eq_true, reduceIte, mthHR, mthR, mtD, slD, seqOf, wipeE, Tgs.len, Pv.unpack, Option.map_none, Option.bind_none, augD, revD, List.map_cons, List.map_nil, isiD, ty, List.any_cons, List.any_nil, lr, tupE]
    simp only [List.map_cons, forL, e1, e2, Option.bind_eq_bind, Option.bind_some, ih]
    simp [patsF, Function.comp_def]
def allPats (m s l : Int) : List Pat := srt lt2 (patsF m (allLots m s) (allLots m l))
theorem lots_small : ∀ m ∈ ([1, 2, 3, 4, 5, 6] : List Int), ∀ n ∈ [0, 1, 2, 3, 4, 5], (lotsN m n).1.length ≤ 63 := by decide +kernel
theorem allLots_len {m c : Int} (hm : 1 ≤ m ∧ m ≤ 6) (hc : 0 ≤ c) : (allLots m c).length ≤ 63 := by
  unfold allLots
  rw [srt_len]
  refine lots_small m ?_ _ ?_
  · simp; omega
  · simp; omega
theorem allLots_ok {m c : Int} (hm : 1 ≤ m ∧ m ≤ 6) (hc : 0 ≤ c) {q : List Int} (h : q ∈ allLots m c) : LotOk m q := by
  have := (srt_perm lt1 _).mem_iff.mp h
  exact ((lotsN_ok hm (min c (m - 1)).toNat (by omega)).1 q this).1
theorem pats_run (k : Nat) (st : Sto) {m s l : Int} (hm : 1 ≤ m ∧ m ≤ 6) (hs : 0 ≤ s ∧ s ≤ 100) (hl : 0 ≤ l ∧ l ≤ 100) : Fc (k + 2) "all_patterns" [.int m, .int s, .int l] st = some (false, tPP (allPats m s l), st) := by
  rw [q_all_patterns]
  have z1 := allLots_len hm hs.1
  have z2 := allLots_len hm hl.1
  obtain ⟨r4, r5, e⟩ := pats_outer (k := k) st hm (.val (.int s)) hl (by omega) (allLots m s) [] .no .no (fun q hq => (allLots_ok hm hs.1 hq).2) (by simp; omega)
  rw [List.nil_append] at e
  have lr := lots_run k st hm hs
  have o := enc2.ord (by decide) (patsF m (allLots m s) (allLots m l))
  have so := enc2.sort (patsF m (allLots m s) (allLots m l))
  refine run_rt (ρ1 := [.val (.int m), .val (.int s), .val (.int l), .val (.lst ((patsF m (allLots m s) (allLots m l)).map tP)), r4, r5]) (n := 3) rfl rfl ?_
  unfold b_all_patterns
  refine (sq (ρ1 := [.val (.int m), .val (.int s), .val (.int l), .own [], .no, .no]) (st1 := st) (by simp [exSs, exS, evE, evEs, evT, Pv.evI, evC, evTg, evTgs, evO, vv, up, one, retE, Option.bind_eq_bind, Option.bind_some, Option.map_some, Option.pure_def, List.getElem?_cons_zero, List.getElem?_cons_succ, List.set_cons_zero, List.set_cons_succ, asgN, asgSub, setIx, opD, addD, mulD, biD, cmpD, ixD, ixL, lenD, slotSeq, slotLst, truD, List.length_cons, List.length_nil, if_true, if_false, Bool.false_eq_true, reduceIte, mthHR, mthR, mtD, slD, seqOf, wipeE, Tgs.len, Pv.unpack, Option.map_none, Option.bind_none, augD, revD, List.map_cons, List.map_nil, isiD, ty, List.any_cons, List.any_nil])).trans ?_
  refine (sq (ex_for (xs := (allLots m s).map tupI) (ρ1 := [.val (.int m), .val (.int s), .val (.int l), .own [], .no, .no]) (st1 := st) (by simp [exSs, exS, evE, evEs, evT, Pv.evI, evC, evTg, evTgs, evO, vv, up, one, retE, Option.bind_eq_bind, Option.bind_some, Option.map_some, Option.pure_def, List.getElem?_cons_zero, List.getElem?_cons_succ, List.set_cons_zero, List.set_cons_succ, asgN, asgSub, setIx, opD, addD, mulD, biD, cmpD, ixD, ixL, lenD, slotSeq, slotLst, truD, List.length_cons, List.length_nil, if_true, if_false, Bool.false_eq_true, reduceIte, mthHR, mthR, mtD, slD, seqOf, wipeE, Tgs.len, Pv.unpack, Option.map_none, Option.bind_none, augD, revD, List.map_cons, List.map_nil, isiD, ty, List.any_cons, List.any_nil, lr, tupE]) e)).trans ?_
  have fin : ∀ xs : List Pat, tPP xs = .tup (xs.map tP) := fun _ => rfl
  rw [fin]
  exact sqr (by simp [exSs, exS, evE, evEs, evT, Pv.evI, evC, evTg, evTgs, evO, vv, up, one, retE, Option.bind_eq_bind, Option.bind_some, Option.map_some, Option.pure_def, List.getElem?_cons_zero, List.getElem?_cons_succ, List.set_cons_zero, List.set_cons_succ, asgN, asgSub, setIx, opD, addD, mulD, biD, cmpD, ixD, ixL, lenD, slotSeq, slotLst, truD, List.length_cons, List.length_nil, if_true, if_false, Bool.false_eq_true, reduceIte, mthHR, mthR, mtD, slD, seqOf, wipeE, Tgs.len, Pv.unpack, Option.map_none, Option.bind_none, augD, revD, List.map_cons, List.map_nil, isiD, ty, List.any_cons, List.any_nil, o, so, allPats])
/-! ## by sides -/
def ext (found : List (List Int)) (lot : List Int) : List (List Int) := found.flatMap fun row => lot.map fun t => row ++ [t]
theorem ext_len (found : List (List Int)) (lot : List Int) : (ext found lot).length = found.length * lot.length := by
  unfold ext
  induction found with
  | nil => simp
  | cons a as ih => rw [List.flatMap_cons, List.length_append, ih, List.length_map, List.length_cons, Nat.succ_mul, Nat.add_comm]
def rowsN : Nat → List (List Int)
  | 0 => [[]]
  | n + 1 => ext (rowsN n) [0, 1, 2]
theorem rowsN_len : ∀ n : Nat, (rowsN n).length = 3 ^ n
  | 0 => rfl
  | n + 1 => by rw [rowsN, ext_len, rowsN_len n, Nat.pow_succ]; rfl
theorem rowsN_mem : ∀ {n : Nat} {r : List Int}, r ∈ rowsN n → r.length = n
  | 0, r, h => by simp [rowsN] at h; subst h; rfl
  | n + 1, r, h => by
    obtain ⟨a, ha, h⟩ := List.mem_flatMap.mp h
    obtain ⟨b, hb, rfl⟩ := List.mem_map.mp h
    rw [List.length_append, rowsN_mem ha]; rfl
theorem rows_inner {k : Nat} (st : Sto) (s0 s1 : Sl) (lot : List Int) (hlot : lot.length ≤ 3) : ∀ (rows : List (List Int)) (acc : List D) (s4 : Sl), (∀ r ∈ rows, r.length ≤ 1000) → acc.length + rows.length * 3 ≤ 1000000 →
    ∃ s4', forL (evTg (T k) (.n 4)) (exSs (T k) law_rows_of_b1) (rows.map tupI) [s0, s1, .val (.lst (lot.map D.int)), .own acc, s4, .no] st =
      some (.nx, [s0, s1, .val (.lst (lot.map D.int)), .own (acc ++ (ext rows lot).map tupI), s4', .no], st)
  | [], acc, s4, _, _ => ⟨s4, by simp [forL, ext]⟩
  | r :: rows, acc, s4, hr, hl => by
    rw [List.length_cons, Nat.succ_mul] at hl
    obtain ⟨t4, ih⟩ := rows_inner (k := k) st s0 s1 lot hlot rows (acc ++ (lot.map fun t => r ++ [t]).map tupI) (.val (tupI r)) (fun x hx => hr x (List.mem_cons_of_mem _ hx)) (by simp; omega)
    refine ⟨t4, ?_⟩
    have hr1 := hr r List.mem_cons_self
    have e1 : evTg (T k) (.n 4) (tupI r) [s0, s1, .val (.lst (lot.map D.int)), .own acc, s4, .no] st = some ([s0, s1, .val (.lst (lot.map D.int)), .own acc, .val (tupI r), .no], st) := by simp [exSs, exS, evE, evEs, evT, Pv.evI, evC, evTg, evTgs, evO, vv, up, one, retE, Option.bind_eq_bind, Option.bind_some, Option.map_some, Option.pure_def, List.getElem?_cons_zero, List.getElem?_cons_succ, List.set_cons_zero, List.set_cons_succ, asgN, asgSub, setIx, opD, addD, mulD, biD, cmpD, ixD, ixL, lenD, slotSeq, slotLst, truD, List.length_cons, List.length_nil, if_true, if_false, Bool.false_eq_true, reduceIte, mthHR, mthR, mtD, slD, seqOf, wipeE, Tgs.len, Pv.unpack, Option.map_none, Option.bind_none, augD, revD, List.map_cons, List.map_nil, isiD, ty, List.any_cons, List.any_nil]
    have l1 : evE (T k) (.lc law_rows_of_e0 (.n 5) (.val (.v 2)) .no [("thing", 5)]) [s0, s1, .val (.lst (lot.map D.int)), .val (.lst acc), .val (tupI r), .no] st = some (true, .lst ((lot.filter fun _ => true).map fun t => tupI (r ++ [t])), [s0, s1, .val (.lst (lot.map D.int)), .val (.lst acc), .val (tupI r), .no], st) := by
      refine ev_fm (enc := D.int) lot (fun _ => true) (fun t => tupI (r ++ [t])) (fun t => [s0, s1, .val (.lst (lot.map D.int)), .val (.lst acc), .val (tupI r), .val (.int t)]) (by simp [exSs, exS, evE, evEs, evT, Pv.evI, evC, evTg, evTgs, evO, vv, up, one, retE, Option.bind_eq_bind, Option.bind_some, Option.map_some, Option.pure_def, List.getElem?_cons_zero, List.getElem?_cons_succ, List.set_cons_zero, List.set_cons_succ, asgN, asgSub, setIx, opD, addD, mulD, biD, cmpD, ixD, ixL, lenD, slotSeq, slotLst, truD, List.length_cons, List.length_nil, if_true, if_false, Bool.false_eq_true, reduceIte, mthHR, mthR, mtD, slD, seqOf, wipeE, Tgs.len, Pv.unpack, Option.map_none, Option.bind_none, augD, revD, List.map_cons, List.map_nil, isiD, ty, List.any_cons, List.any_nil]) (by simp [exSs, exS, evE, evEs, evT, Pv.evI, evC, evTg, evTgs, evO, vv, up, one, retE, Option.bind_eq_bind, Option.bind_some, Option.map_some, Option.pure_def, List.getElem?_cons_zero, List.getElem?_cons_succ, List.set_cons_zero, List.set_cons_succ, asgN, asgSub, setIx, opD, addD, mulD, biD, cmpD, ixD, ixL, lenD, slotSeq, slotLst, truD, List.length_cons, List.length_nil, if_true, if_false, Bool.false_eq_true, reduceIte, mthHR, mthR, mtD, slD, seqOf, wipeE, Tgs.len, Pv.unpack, Option.map_none, Option.bind_none, augD, revD, List.map_cons, List.map_nil, isiD, ty, List.any_cons, List.any_nil]) (by unfold lim; omega) fun t _ => ?_
      have h1 : r.length + 1 ≤ lim := by unfold lim; omega
      exact ⟨by simp [exSs, exS, evE, evEs, evT, Pv.evI, evC, evTg, evTgs, evO, vv, up, one, retE, Option.bind_eq_bind, Option.bind_some, Option.map_some, Option.pure_def, List.getElem?_cons_zero, List.getElem?_cons_succ, List.set_cons_zero, List.set_cons_succ, asgN, asgSub, setIx, opD, addD, mulD, biD, cmpD, ixD, ixL, lenD, slotSeq, slotLst, truD, List.length_cons, List.length_nil, if_true, if_false, Bool.false_eq_true, reduceIte, mthHR, mthR, mtD, slD, seqOf, wipeE, Tgs.len, Pv.unpack, Option.map_none, Option.bind_none, augD, revD, List.map_cons, List.map_nil, isiD, ty, List.any_cons, List.any_nil], by simp [exSs, exS, evE, evEs, evT, Pv.evI, evC, evTg, evTgs, evO, vv, up, one, retE, Option.bind_eq_bind, Option.bind_some, Option.map_some, Option.pure_def, List.getElem?_cons_zero, List.getElem?_cons_succ, List.set_cons_zero, List.set_cons_succ, asgN, asgSub, setIx, opD, addD, mulD, biD, cmpD, ixD, ixL, lenD, slotSeq, slotLst, truD, List.length_cons, List.length_nil, if_true, if_false, Bool.false_eq_true, reduceIte, mthHR, mthR, mtD, slD, seqOf, wipeE, Tgs.len, Pv.unpack, Option.map_none, Option.bind_none, augD, revD, List.map_cons, List.map_nil, isiD, ty, List.any_cons, List.any_nil], fun _ => by simp [law_rows_of_e0, exSs, exS, evE, evEs, evT, Pv.evI, evC, evTg, evTgs, evO, vv, up, one, retE, Option.bind_eq_bind, Option.bind_some, Option.map_some, Option.pure_def, List.getElem?_cons_zero, List.getElem?_cons_succ, List.set_cons_zero, List.set_cons_succ, asgN, asgSub, setIx, opD, addD, mulD, biD, cmpD, ixD, ixL, lenD, slotSeq, slotLst, truD, List.length_cons, List.length_nil, if_true, if_false, Bool.false_eq_true, reduceIte, mthHR, mthR, mtD, slD, seqOf, wipeE, Tgs.len, Pv.unpack, Option.map_none, Option.bind_none, augD, revD, List.map_cons, List.map_nil, isiD, ty, List.any_cons, List.any_nil, tupI, h1, show (1 : Nat) ≤ lim by decide], by simp [exSs, exS, evE, evEs, evT, Pv.evI, evC, evTg, evTgs, evO, vv, up, one, retE, Option.bind_eq_bind, Option.bind_some, Option.map_some, Option.pure_def, List.getElem?_cons_zero, List.getElem?_cons_succ, List.set_cons_zero, List.set_cons_succ, asgN, asgSub, setIx, opD, addD, mulD, biD, cmpD, ixD, ixL, lenD, slotSeq, slotLst, truD, List.length_cons, List.length_nil, if_true, if_false, Bool.false_eq_true, reduceIte, mthHR, mthR, mtD, slD, seqOf, wipeE, Tgs.len, Pv.unpack, Option.map_none, Option.bind_none, augD, revD, List.map_cons, List.map_nil, isiD, ty, List.any_cons, List.any_nil]⟩
    rw [filt] at l1
    have hm : (lot.map fun t => tupI (r ++ [t])) = (lot.map fun t => r ++ [t]).map tupI := by rw [List.map_map]; rfl
    rw [hm] at l1
    have hlim : acc.length + lot.length ≤ lim := by unfold lim; omega
    have e2 : exSs (T k) law_rows_of_b1 [s0, s1, .val (.lst (lot.map D.int)), .own acc, .val (tupI r), .no] st = some (.nx, [s0, s1, .val (.lst (lot.map D.int)), .own (acc ++ (lot.map fun t => r ++ [t]).map tupI), .val (tupI r), .no], st) := by
      unfold law_rows_of_b1
      generalize E.lc law_rows_of_e0 _ _ _ _ = LC at l1 ⊢
      exact sq1 (by simp [exSs, exS, evE, evEs, evT, Pv.evI, evC, evTg, evTgs, evO, vv, up, one, retE, Option.bind_eq_bind, Option.bind_some, Option.map_some, Option.pure_def, List.getElem?_cons_zero, List.getElem?_cons_succ, List.set_cons_zero, List.set_cons_succ, asgN, asgSub, setIx, opD, addD, mulD, biD, cmpD, ixD, ixL, lenD, slotSeq, slotLst, truD, List.length_cons, List.length_nil, if_true, if_false, Bool.false_eq_true, reduceIte, mthHR, mthR, mtD, slD, seqOf, wipeE, Tgs.len, Pv.unpack, Option.map_none, Option.bind_none, augD, revD, List.map_cons, List.map_nil, isiD, ty, List.any_cons, List.any_nil, l1, hlim])
    simp only [List.map_cons, forL, e1, e2, Option.bind_eq_bind, Option.bind_some, ih]
    simp [ext]
def L3 : D := .lst [.int 0, .int 1, .int 2]
theorem rows_outer {k : Nat} (st : Sto) (s0 : Sl) : ∀ (j n : Nat) (s1 s2 s3 s4 : Sl), Holds s1 ((rowsN n).map tupI) → n + j ≤ 6 →
    ∃ s1' s2' s3' s4', forL (evTg (T k) (.n 2)) (exSs (T k) law_rows_of_b2) (List.replicate j L3) [s0, s1, s2, s3, s4, .no] st = some (.nx, [s0, s1', s2', s3', s4', .no], st) ∧ Holds s1' ((rowsN (n + j)).map tupI)
  | 0, n, s1, s2, s3, s4, h, _ => ⟨s1, s2, s3, s4, rfl, h⟩
  | j + 1, n, s1, s2, s3, s4, h, hn => by
    have hp : 3 ^ n ≤ 729 := Nat.le_trans (Nat.pow_le_pow_right (by decide) (by omega : n ≤ 6)) (by decide)
    obtain ⟨t4, el⟩ := rows_inner (k := k) st s0 (.val (.lst ((rowsN n).map tupI))) [0, 1, 2] (by decide) (rowsN n) [] s4 (fun r hr => by have := rowsN_mem hr; omega) (by rw [rowsN_len]; simp; omega)
    rw [List.nil_append] at el
    obtain ⟨a1, a2, a3, a4, ih, ih2⟩ := rows_outer (k := k) st s0 j (n + 1) (.val (.lst ((ext (rowsN n) [0, 1, 2]).map tupI))) (.val L3) (.val (.lst ((ext (rowsN n) [0, 1, 2]).map tupI))) t4 (.inr rfl) (by omega)
    refine ⟨a1, a2, a3, a4, ?_, by rw [show n + (j + 1) = n + 1 + j by omega]; exact ih2⟩
    have e1 : evTg (T k) (.n 2) L3 [s0, s1, s2, s3, s4, .no] st = some ([s0, s1, .val L3, s3, s4, .no], st) := by simp [exSs, exS, evE, evEs, evT, Pv.evI, evC, evTg, evTgs, evO, vv, up, one, retE, Option.bind_eq_bind, Option.bind_some, Option.map_some, Option.pure_def, List.getElem?_cons_zero, List.getElem?_cons_succ, List.set_cons_zero, List.set_cons_succ, asgN, asgSub, setIx, opD, addD, mulD, biD, cmpD, ixD, ixL, lenD, slotSeq, slotLst, truD, List.length_cons, List.length_nil, if_true, if_false, Bool.false_eq_true, reduceIte, mthHR, mthR, mtD, slD, seqOf, wipeE, Tgs.len, Pv.unpack, Option.map_none, Option.bind_none, augD, revD, List.map_cons, List.map_nil, isiD, ty, List.any_cons, List.any_nil]
    have e2 : exSs (T k) law_rows_of_b2 [s0, s1, .val L3, s3, s4, .no] st = some (.nx, [s0, .val (.lst ((ext (rowsN n) [0, 1, 2]).map tupI)), .val L3, .val (.lst ((ext (rowsN n) [0, 1, 2]).map tupI)), t4, .no], st) := by
      unfold law_rows_of_b2
      refine (sq (ρ1 := [s0, s1, .val L3, .own [], s4, .no]) (st1 := st) (by simp [exSs, exS, evE, evEs, evT, Pv.evI, evC, evTg, evTgs, evO, vv, up, one, retE, Option.bind_eq_bind, Option.bind_some, Option.map_some, Option.pure_def, List.getElem?_cons_zero, List.getElem?_cons_succ, List.set_cons_zero, List.set_cons_succ, asgN, asgSub, setIx, opD, addD, mulD, biD, cmpD, ixD, ixL, lenD, slotSeq, slotLst, truD, List.length_cons, List.length_nil, if_true, if_false, Bool.false_eq_true, reduceIte, mthHR, mthR, mtD, slD, seqOf, wipeE, Tgs.len, Pv.unpack, Option.map_none, Option.bind_none, augD, revD, List.map_cons, List.map_nil, isiD, ty, List.any_cons, List.any_nil])).trans ?_
      refine (sq (ex_for (xs := (rowsN n).map tupI) (ρ1 := [s0, .val (.lst ((rowsN n).map tupI)), .val L3, .own [], s4, .no]) (st1 := st) (by rcases h with rfl | rfl <;> simp [exSs, exS, evE, evEs, evT, Pv.evI, evC, evTg, evTgs, evO, vv, up, one, retE, Option.bind_eq_bind, Option.bind_some, Option.map_some, Option.pure_def, List.getElem?_cons_zero, List.getElem?_cons_succ, List.set_cons_zero, List.set_cons_succ, asgN, asgSub, setIx, opD, addD, mulD, biD, cmpD, ixD, ixL, lenD, slotSeq, slotLst, truD, List.length_cons, List.length_nil, if_true, if_false, Bool.false_eq_true, reduceIte, mthHR, mthR, mtD, slD, seqOf, wipeE, Tgs.len, Pv.unpack, Option.map_none, Option.bind_none, augD, revD, List.map_cons, List.map_nil, isiD, ty, List.any_cons, List.any_nil]) el)).trans ?_
      exact sq1 (by simp [exSs, exS, evE, evEs, evT, Pv.evI, evC, evTg, evTgs, evO, vv, up, one, retE, Option.bind_eq_bind, Option.bind_some, Option.map_some, Option.pure_def, List.getElem?_cons_zero, List.getElem?_cons_succ, List.set_cons_zero, List.set_cons_succ, asgN, asgSub, setIx, opD, addD, mulD, biD, cmpD, ixD, ixL, lenD, slotSeq, slotLst, truD, List.length_cons, List.length_nil, if_true, if_false, Bool.false_eq_true, reduceIte, mthHR, mthR, mtD, slD, seqOf, wipeE, Tgs.len, Pv.unpack, Option.map_none, Option.bind_none, augD, revD, List.map_cons, List.map_nil, isiD, ty, List.any_cons, List.any_nil]; rfl)
    simp only [List.replicate_succ, forL, e1, e2, Option.bind_eq_bind, Option.bind_some, ih]
theorem rows_run (k : Nat) (st : Sto) {n : Nat} (hn : n ≤ 6) : ∃ fr, Fc (k + 1) "_law_rows_of" [.lst (List.replicate n L3)] st = some (fr, .lst ((rowsN n).map tupI), st) := by
  rw [q_law_rows_of]
  obtain ⟨a1, a2, a3, a4, e, h⟩ := rows_outer (k := k) st (.val (.lst (List.replicate n L3))) n 0 (.own [tupI []]) .no .no .no (.inl rfl) (by omega)
  rw [Nat.zero_add] at h
  have go : ∀ (s1 : Sl), s1 = a1 → ∃ fr, runF (T k) ⟨["lots"], 6, b_law_rows_of⟩ [.lst (List.replicate n L3)] st = some (fr, .lst ((rowsN n).map tupI), st) := fun s1 hs => by
    rcases h with rfl | rfl
    · refine ⟨true, run_rt (ρ1 := [.val (.lst (List.replicate n L3)), .no, a2, a3, a4, .no]) (n := 5) rfl rfl ?_⟩
      unfold b_law_rows_of
      refine (sq (ρ1 := [.val (.lst (List.replicate n L3)), .own [tupI []], .no, .no, .no, .no]) (st1 := st) (by simp [exSs, exS, evE, evEs, evT, Pv.evI, evC, evTg, evTgs, evO, vv, up, one, retE, Option.bind_eq_bind, Option.bind_some, Option.map_some, Option.pure_def, List.getElem?_cons_zero, List.getElem?_cons_succ, List.set_cons_zero, List.set_cons_succ, asgN, asgSub, setIx, opD, addD, mulD, biD, cmpD, ixD, ixL, lenD, slotSeq, slotLst, truD, List.length_cons, List.length_nil, if_true, if_false, Bool.false_eq_true, reduceIte, mthHR, mthR, mtD, slD, seqOf, wipeE, Tgs.len, Pv.unpack, Option.map_none, Option.bind_none, augD, revD, List.map_cons, List.map_nil, isiD, ty, List.any_cons, List.any_nil, tupI, show (1 : Nat) ≤ lim by decide])).trans ?_
      refine (sq (ex_for (xs := List.replicate n L3) (ρ1 := [.val (.lst (List.replicate n L3)), .own [tupI []], .no, .no, .no, .no]) (st1 := st) (by simp [exSs, exS, evE, evEs, evT, Pv.evI, evC, evTg, evTgs, evO, vv, up, one, retE, Option.bind_eq_bind, Option.bind_some, Option.map_some, Option.pure_def, List.getElem?_cons_zero, List.getElem?_cons_succ, List.set_cons_zero, List.set_cons_succ, asgN, asgSub, setIx, opD, addD, mulD, biD, cmpD, ixD, ixL, lenD, slotSeq, slotLst, truD, List.length_cons, List.length_nil, if_true, if_false, Bool.false_eq_true, reduceIte, mthHR, mthR, mtD, slD, seqOf, wipeE, Tgs.len, Pv.unpack, Option.map_none, Option.bind_none, augD, revD, List.map_cons, List.map_nil, isiD, ty, List.any_cons, List.any_nil]) e)).trans ?_
      exact sqr (by simp [exSs, exS, evE, evEs, evT, Pv.evI, evC, evTg, evTgs, evO, vv, up, one, retE, Option.bind_eq_bind, Option.bind_some, Option.map_some, Option.pure_def, List.getElem?_cons_zero, List.getElem?_cons_succ, List.set_cons_zero, List.set_cons_succ, asgN, asgSub, setIx, opD, addD, mulD, biD, cmpD, ixD, ixL, lenD, slotSeq, slotLst, truD, List.length_cons, List.length_nil, if_true, if_false, Bool.false_eq_true, reduceIte, mthHR, mthR, mtD, slD, seqOf, wipeE, Tgs.len, Pv.unpack, Option.map_none, Option.bind_none, augD, revD, List.map_cons, List.map_nil, isiD, ty, List.any_cons, List.any_nil])
    · refine ⟨false, run_rt (ρ1 := [.val (.lst (List.replicate n L3)), .val (.lst ((rowsN n).map tupI)), a2, a3, a4, .no]) (n := 5) rfl rfl ?_⟩
      unfold b_law_rows_of
      refine (sq (ρ1 := [.val (.lst (List.replicate n L3)), .own [tupI []], .no, .no, .no, .no]) (st1 := st) (by simp [exSs, exS, evE, evEs, evT, Pv.evI, evC, evTg, evTgs, evO, vv, up, one, retE, Option.bind_eq_bind, Option.bind_some, Option.map_some, Option.pure_def, List.getElem?_cons_zero, List.getElem?_cons_succ, List.set_cons_zero, List.set_cons_succ, asgN, asgSub, setIx, opD, addD, mulD, biD, cmpD, ixD, ixL, lenD, slotSeq, slotLst, truD, List.length_cons, List.length_nil, if_true, if_false, Bool.false_eq_true, reduceIte, mthHR, mthR, mtD, slD, seqOf, wipeE, Tgs.len, Pv.unpack, Option.map_none, Option.bind_none, augD, revD, List.map_cons, List.map_nil, isiD, ty, List.any_cons, List.any_nil, tupI, show (1 : Nat) ≤ lim by decide])).trans ?_
      refine (sq (ex_for (xs := List.replicate n L3) (ρ1 := [.val (.lst (List.replicate n L3)), .own [tupI []], .no, .no, .no, .no]) (st1 := st) (by simp [exSs, exS, evE, evEs, evT, Pv.evI, evC, evTg, evTgs, evO, vv, up, one, retE, Option.bind_eq_bind, Option.bind_some, Option.map_some, Option.pure_def, List.getElem?_cons_zero, List.getElem?_cons_succ, List.set_cons_zero, List.set_cons_succ, asgN, asgSub, setIx, opD, addD, mulD, biD, cmpD, ixD, ixL, lenD, slotSeq, slotLst, truD, List.length_cons, List.length_nil, if_true, if_false, Bool.false_eq_true, reduceIte, mthHR, mthR, mtD, slD, seqOf, wipeE, Tgs.len, Pv.unpack, Option.map_none, Option.bind_none, augD, revD, List.map_cons, List.map_nil, isiD, ty, List.any_cons, List.any_nil]) e)).trans ?_
      exact sqr (by simp [exSs, exS, evE, evEs, evT, Pv.evI, evC, evTg, evTgs, evO, vv, up, one, retE, Option.bind_eq_bind, Option.bind_some, Option.map_some, Option.pure_def, List.getElem?_cons_zero, List.getElem?_cons_succ, List.set_cons_zero, List.set_cons_succ, asgN, asgSub, setIx, opD, addD, mulD, biD, cmpD, ixD, ixL, lenD, slotSeq, slotLst, truD, List.length_cons, List.length_nil, if_true, if_false, Bool.false_eq_true, reduceIte, mthHR, mthR, mtD, slD, seqOf, wipeE, Tgs.len, Pv.unpack, Option.map_none, Option.bind_none, augD, revD, List.map_cons, List.map_nil, isiD, ty, List.any_cons, List.any_nil])
  exact go a1 rfl
end Lk35

namespace Lk35
open PySem PySem.Spec PyProof.Rows L2 Pv
def cnt (xs : List Int) (c : Int) : Nat := xs.countP fun x => decide (x = c)
theorem count_ints (xs : List Int) (c : Int) (h : xs.length ≤ 1000) : smD .count (xs.map D.int) (.int c) = some (cnt xs c : Int) := by
  have h1 : (xs.map D.int).all (sh 50) = true := by rw [List.all_map, List.all_eq_true]; intro x _; rfl
  have h2 : sh 50 (.int c) = true := rfl
  have h3 : xs.length < lim := by unfold lim; omega
  unfold smD
  rw [h1, h2, List.length_map, decide_eq_true h3]
  simp only [Bool.and_self, if_true, List.countP_map]
  have e : List.countP ((fun y => eqv y (.int c)) ∘ D.int) xs = cnt xs c := by
    unfold cnt
    refine List.countP_congr fun x _ => ?_
    simp [eqv_int]
  rw [e]
def sideOf (sides : List Int) (m c : Int) : List Int := (rg 0 m).filter fun i => decide (sides.getD i.toNat 9 = c)
def sidesOk (s l : Int) (r : List Int) : Bool := decide ((cnt r 1 : Int) ≤ s) && (decide ((cnt r 2 : Int) ≤ l) && decide ((0 : Int) ∈ r))
def lpatF (m : Int) (r : List Int) : Pat := [sideOf r m 1, sideOf r m 2]
theorem side_lc {k : Nat} (st : Sto) {m : Int} (hm : 0 ≤ m ∧ m ≤ 6) {r : List Int} (hr : (r.length : Int) = m) (s1 s2 s3 : Sl) (c : Int) (e0 : E) (c1 : Cn) (he : e0 = .v 5) (hc : c1 = (.e (.cmp .Eq (.ixv 4 (.v 5)) (.k (.int c))))) :
    evE (T k) (.lc e0 (.n 5) (.rng (.cons (.v 0) .nil)) (.so c1) [("machine", 5)]) [.val (.int m), s1, s2, s3, .val (tupI r), .no] st = some (true, .lst ((sideOf r m c).map D.int), [.val (.int m), s1, s2, s3, .val (tupI r), .no], st) := by
  subst he hc
  refine ev_fm (enc := D.int) (rg 0 m) (fun i => decide (r.getD i.toNat 9 = c)) D.int (fun i => [.val (.int m), s1, s2, s3, .val (tupI r), .val (.int i)]) (by simp [exSs, exS, evE, evEs, evT, Pv.evI, evC, evTg, evTgs, evO, vv, up, one, retE, Option.bind_eq_bind, Option.bind_some, Option.map_some, Option.pure_def, List.getElem?_cons_zero, List.getElem?_cons_succ, List.set_cons_zero, List.set_cons_succ, asgN, asgSub, setIx, opD, addD, mulD, biD, cmpD, ixD, ixL, lenD, slotSeq, slotLst, truD, List.length_cons, List.length_nil, if_true, if_false, Bool.false_eq_true, reduceIte, mthHR, mthR, mtD, slD, seqOf, wipeE, Tgs.len, Pv.unpack, Option.map_none, Option.bind_none, augD, revD, List.map_cons, List.map_nil, isiD, ty, List.any_cons, List.any_nil, rngD1 (n := m) (by omega) (by omega), rng_rg]) (by simp [exSs, exS, evE, evEs, evT, Pv.evI, evC, evTg, evTgs, evO, vv, up, one, retE, Option.bind_eq_bind, Option.bind_some, Option.map_some, Option.pure_def, List.getElem?_cons_zero, List.getElem?_cons_succ, List.set_cons_zero, List.set_cons_succ, asgN, asgSub, setIx, opD, addD, mulD, biD, cmpD, ixD, ixL, lenD, slotSeq, slotLst, truD, List.length_cons, List.length_nil, if_true, if_false, Bool.false_eq_true, reduceIte, mthHR, mthR, mtD, slD, seqOf, wipeE, Tgs.len, Pv.unpack, Option.map_none, Option.bind_none, augD, revD, List.map_cons, List.map_nil, isiD, ty, List.any_cons, List.any_nil]) (by rw [rg_len]; unfold lim; omega) fun i hi => ?_
  have hi := rg_mem hi
  obtain ⟨j, rfl⟩ := Int.eq_ofNat_of_zero_le hi.1
  have hj : j < r.length := by omega
  have at1 : atI (r.map D.int) (j : Int) = some (.int r[j]) := atI_nat (by rw [List.getElem?_map, List.getElem?_eq_getElem hj]; rfl)
  have g : r.getD (j : Int).toNat 9 = r[j] := by simp [hj]
  have s0 : ∀ n : Int, sh 60 (.int n) = true := fun _ => rfl
  refine ⟨by simp [exSs, exS, evE, evEs, evT, Pv.evI, evC, evTg, evTgs, evO, vv, up, one, retE, Option.bind_eq_bind, Option.bind_some, Option.map_some, Option.pure_def, List.getElem?_cons_zero, List.getElem?_cons_succ, List.set_cons_zero, List.set_cons_succ, asgN, asgSub, setIx, opD, addD, mulD, biD, cmpD, ixD, ixL, lenD, slotSeq, slotLst, truD, List.length_cons, List.length_nil, if_true, if_false, Bool.false_eq_true, reduceIte, mthHR, mthR, mtD, slD, seqOf, wipeE, Tgs.len, Pv.unpack, Option.map_none, Option.bind_none, augD, revD, List.map_cons, List.map_nil, isiD, ty, List.any_cons, List.any_nil], ?_, fun _ => by simp [exSs, exS, evE, evEs, evT, Pv.evI, evC, evTg, evTgs, evO, vv, up, one, retE, Option.bind_eq_bind, Option.bind_some, Option.map_some, Option.pure_def, List.getElem?_cons_zero, List.getElem?_cons_succ, List.set_cons_zero, List.set_cons_succ, asgN, asgSub, setIx, opD, addD, mulD, biD, cmpD, ixD, ixL, lenD, slotSeq, slotLst, truD, List.length_cons, List.length_nil, if_true, if_false, Bool.false_eq_true, reduceIte, mthHR, mthR, mtD, slD, seqOf, wipeE, Tgs.len, Pv.unpack, Option.map_none, Option.bind_none, augD, revD, List.map_cons, List.map_nil, isiD, ty, List.any_cons, List.any_nil], by simp [exSs, exS, evE, evEs, evT, Pv.evI, evC, evTg, evTgs, evO, vv, up, one, retE, Option.bind_eq_bind, Option.bind_some, Option.map_some, Option.pure_def, List.getElem?_cons_zero, List.getElem?_cons_succ, List.set_cons_zero, List.set_cons_succ, asgN, asgSub, setIx, opD, addD, mulD, biD, cmpD, ixD, ixL, lenD, slotSeq, slotLst, truD, List.length_cons, List.length_nil, if_true, if_false, Bool.false_eq_true, reduceIte, mthHR, mthR, mtD, slD, seqOf, wipeE, Tgs.len, Pv.unpack, Option.map_none, Option.bind_none, augD, revD, List.map_cons, List.map_nil, isiD, ty, List.any_cons, List.any_nil]⟩
  show evC (T k) _ _ _ = some (decide (r.getD (j : Int).toNat 9 = c), _)
  rw [g]
  simp only [exSs, exS, evE, evEs, evT, Pv.evI, evC, evTg, evTgs, evO, vv, up, one, retE, Option.bind_eq_bind, Option.bind_some, Option.map_some, Option.pure_def, List.getElem?_cons_zero, List.getElem?_cons_succ, List.set_cons_zero, List.set_cons_succ, asgN, asgSub, setIx, opD, addD, mulD, biD, cmpD, ixD, ixL, lenD, slotSeq, slotLst, truD, List.length_cons, List.length_nil, if_true, if_false, Bool.false_eq_true, reduceIte, mthHR, mthR, mtD, slD, seqOf, wipeE, Tgs.len, Pv.unpack, Option.map_none, Option.bind_none, augD, revD, List.map_cons, List.map_nil, isiD, ty, List.any_cons, List.any_nil, tupI, at1, s0, eqv_int, Bool.and_self]
  by_cases h : r[j] = c <;> simp [h]
theorem lpats_loop {k : Nat} (st : Sto) {m : Int} (hm : 0 ≤ m ∧ m ≤ 6) (s l : Int) : ∀ (rows : List (List Int)) (acc : List D) (s4 : Sl), (∀ r ∈ rows, (r.length : Int) = m) → acc.length + rows.length ≤ 1000000 →
    ∃ s4', forL (evTg (T k) (.n 4)) (exSs (T k) law_all_patterns_b4) (rows.map tupI) [.val (.int m), .val (.int s), .val (.int l), .own acc, s4, .no] st =
      some (.nx, [.val (.int m), .val (.int s), .val (.int l), .own (acc ++ ((rows.filter (sidesOk s l)).map (lpatF m)).map tP), s4', .no], st)
  | [], acc, s4, _, _ => ⟨s4, by simp [forL]⟩
  | r :: rows, acc, s4, hr, hl => by
    rw [List.length_cons] at hl
    have hr1 := hr r List.mem_cons_self
    have e1 : evTg (T k) (.n 4) (tupI r) [.val (.int m), .val (.int s), .val (.int l), .own acc, s4, .no] st = some ([.val (.int m), .val (.int s), .val (.int l), .own acc, .val (tupI r), .no], st) := by simp [exSs, exS, evE, evEs, evT, Pv.evI, evC, evTg, evTgs, evO, vv, up, one, retE, Option.bind_eq_bind, Option.bind_some, Option.map_some, Option.pure_def, List.getElem?_cons_zero, List.getElem?_cons_succ, List.set_cons_zero, List.set_cons_succ, asgN, asgSub, setIx, opD, addD, mulD, biD, cmpD, ixD, ixL, lenD, slotSeq, slotLst, truD, List.length_cons, List.length_nil, if_true, if_false, Bool.false_eq_true, reduceIte, mthHR, mthR, mtD, slD, seqOf, wipeE, Tgs.len, Pv.unpack, Option.map_none, Option.bind_none, augD, revD, List.map_cons, List.map_nil, isiD, ty, List.any_cons, List.any_nil]
    have c1 := count_ints r 1 (by omega)
    have c2 := count_ints r 2 (by omega)
    have hlim : acc.length < lim := by unfold lim; omega
    have t : evT (T k) (.an (.e (.cmp .LtE (.sm .count (.v 4) (.k (.int 1))) (.v 1))) (.an (.e (.cmp .LtE (.sm .count (.v 4) (.k (.int 2))) (.v 2))) (.e (.cmpv .In (.k (.int 0)) 4)))) [.val (.int m), .val (.int s), .val (.int l), .own acc, .val (tupI r), .no] st =
        some (sidesOk s l r, [.val (.int m), .val (.int s), .val (.int l), .own acc, .val (tupI r), .no], st) := by
      unfold sidesOk
      by_cases h1 : (cnt r 1 : Int) ≤ s
      · by_cases h2 : (cnt r 2 : Int) ≤ l
        · simp [exSs, exS, evE, evEs, evT, Pv.evI, evC, evTg, evTgs, evO, vv, up, one, retE, Option.bind_eq_bind, Option.bind_some, Option.map_some, Option.pure_def, List.getElem?_cons_zero, List.getElem?_cons_succ, List.set_cons_zero, List.set_cons_succ, asgN, asgSub, setIx, opD, addD, mulD, biD, cmpD, ixD, ixL, lenD, slotSeq, slotLst, truD, List.length_cons, List.length_nil, if_true, if_false, Bool.false_eq_true, reduceIte, mthHR, mthR, mtD, slD, seqOf, wipeE, Tgs.len, Pv.unpack, Option.map_none, Option.bind_none, augD, revD, List.map_cons, List.map_nil, isiD, ty, List.any_cons, List.any_nil, tupI, c1, c2, h1, h2, inD_int]
        · simp [exSs, exS, evE, evEs, evT, Pv.evI, evC, evTg, evTgs, evO, vv, up, one, retE, Option.bind_eq_bind, Option.bind_some, Option.map_some, Option.pure_def, List.getElem?_cons_zero, List.getElem?_cons_succ, List.set_cons_zero, List.set_cons_succ, asgN, asgSub, setIx, opD, addD, mulD, biD, cmpD, ixD, ixL, lenD, slotSeq, slotLst, truD, List.length_cons, List.length_nil, if_true, if_false, Bool.false_eq_true, reduceIte, mthHR, mthR, mtD, slD, seqOf, wipeE, Tgs.len, Pv.unpack, Option.map_none, Option.bind_none, augD, revD, List.map_cons, List.map_nil, isiD, ty, List.any_cons, List.any_nil, tupI, c1, c2, h1, h2]
      · simp [exSs, exS, evE, evEs, evT, Pv.evI, evC, evTg, evTgs, evO, vv, up, one, retE, Option.bind_eq_bind, Option.bind_some, Option.map_some, Option.pure_def, List.getElem?_cons_zero, List.getElem?_cons_succ, List.set_cons_zero, List.set_cons_succ, asgN, asgSub, setIx, opD, addD, mulD, biD, cmpD, ixD, ixL, lenD, slotSeq, slotLst, truD, List.length_cons, List.length_nil, if_true, if_false, Bool.false_eq_true, reduceIte, mthHR, mthR, mtD, slD, seqOf, wipeE, Tgs.len, Pv.unpack, Option.map_none, Option.bind_none, augD, revD, List.map_cons, List.map_nil, isiD, ty, List.any_cons, List.any_nil, tupI, c1, h1]
    cases hb : sidesOk s l r with
    | true =>
      rw [hb] at t
      obtain ⟨s4', ih⟩ := lpats_loop (k := k) st hm s l rows (acc ++ [tP (lpatF m r)]) (.val (tupI r)) (fun x hx => hr x (List.mem_cons_of_mem _ hx)) (by simp; omega)
      refine ⟨s4', ?_⟩
      have l1 := side_lc (k := k) st hm hr1 (.val (.int s)) (.val (.int l)) (.own acc) 1 law_all_patterns_e2 law_all_patterns_c3 rfl rfl
      have l2 := side_lc (k := k) st hm hr1 (.val (.int s)) (.val (.int l)) (.own acc) 2 law_all_patterns_e0 law_all_patterns_c1 rfl rfl
      have e2 : exSs (T k) law_all_patterns_b4 [.val (.int m), .val (.int s), .val (.int l), .own acc, .val (tupI r), .no] st = some (.nx, [.val (.int m), .val (.int s), .val (.int l), .own (acc ++ [tP (lpatF m r)]), .val (tupI r), .no], st) := by
        unfold law_all_patterns_b4
        refine sq1 (ex_it t ?_)
        simp only [if_true]
        unfold lpatF
        generalize sideOf r m 1 = A1 at *
        generalize sideOf r m 2 = A2 at *
        generalize E.lc law_all_patterns_e2 _ _ _ _ = LC1 at l1 ⊢
        generalize E.lc law_all_patterns_e0 _ _ _ _ = LC2 at l2 ⊢
        simp only [tupI] at l1 l2
        exact sq1 (by simp [exSs, exS, evE, evEs, evT, Pv.evI, evC, evTg, evTgs, evO, vv, up, one, retE, Option.bind_eq_bind, Option.bind_some, Option.map_some, Option.pure_def, List.getElem?_cons_zero, List.getElem?_cons_succ, List.set_cons_zero, List.set_cons_succ, asgN, asgSub, setIx, opD, addD, mulD, biD, cmpD, ixD, ixL, lenD, slotSeq, slotLst, truD, List.length_cons, List.length_nil, if_true, if_false, Bool.false_eq_true, reduceIte, mthHR, mthR, mtD, slD, seqOf, wipeE, Tgs.len, Pv.unpack, Option.map_none, Option.bind_none, augD, revD, List.map_cons, List.map_nil, isiD, ty, List.any_cons, List.any_nil, hlim, l1, l2, tupE, tupI, show (2 : Nat) ≤ lim by decide])
      simp only [List.map_cons, forL, e1, e2, Option.bind_eq_bind, Option.bind_some, ih]
      rw [List.filter_cons, hb]
      simp
    | false =>
      rw [hb] at t
      obtain ⟨s4', ih⟩ := lpats_loop (k := k) st hm s l rows acc (.val (tupI r)) (fun x hx => hr x (List.mem_cons_of_mem _ hx)) (by omega)
      refine ⟨s4', ?_⟩
      have e2 : exSs (T k) law_all_patterns_b4 [.val (.int m), .val (.int s), .val (.int l), .own acc, .val (tupI r), .no] st = some (.nx, [.val (.int m), .val (.int s), .val (.int l), .own acc, .val (tupI r), .no], st) := by
        unfold law_all_patterns_b4
        refine sq1 (ex_it t ?_)
        simp only [Bool.false_eq_true, if_false, exSs]
      simp only [List.map_cons, forL, e1, e2, Option.bind_eq_bind, Option.bind_some, ih]
      rw [List.filter_cons, hb]
      simp
def lallPats (m s l : Int) : List Pat := srt lt2 (((rowsN m.toNat).filter (sidesOk s l)).map (lpatF m))
theorem rep_flat {α : Type} (x : α) : ∀ n : Nat, (List.replicate n [x]).flatten = List.replicate n x
  | 0 => rfl
  | n + 1 => by rw [List.replicate_succ, List.flatten_cons, rep_flat x n, List.replicate_succ]; rfl
theorem lpats_run (k : Nat) (st : Sto) {m s l : Int} (hm : 0 ≤ m ∧ m ≤ 6) : Fc (k + 2) "_law_all_patterns" [.int m, .int s, .int l] st = some (false, tPP (lallPats m s l), st) := by
  rw [q_law_all_patterns]
  have hp : 3 ^ m.toNat ≤ 729 := Nat.le_trans (Nat.pow_le_pow_right (by decide) (by omega : m.toNat ≤ 6)) (by decide)
  obtain ⟨s4, e⟩ := lpats_loop (k := k + 1) st hm s l (rowsN m.toNat) [] .no (fun r hr => by have := rowsN_mem hr; omega) (by rw [rowsN_len]; simp; omega)
  rw [List.nil_append] at e
  obtain ⟨fr, rr⟩ := rows_run k st (n := m.toNat) (by omega)
  have o := enc2.ord (by decide) (((rowsN m.toNat).filter (sidesOk s l)).map (lpatF m))
  have so := enc2.sort (((rowsN m.toNat).filter (sidesOk s l)).map (lpatF m))
  have hL : lallPats m s l = srt lt2 (((rowsN m.toNat).filter (sidesOk s l)).map (lpatF m)) := rfl
  rw [hL]
  generalize ((rowsN m.toNat).filter (sidesOk s l)).map (lpatF m) = R at *
  refine run_rt (ρ1 := [.val (.int m), .val (.int s), .val (.int l), .val (.lst (R.map tP)), s4, .no]) (n := 3) rfl rfl ?_
  unfold b_law_all_patterns
  refine (sq (ρ1 := [.val (.int m), .val (.int s), .val (.int l), .own [], .no, .no]) (st1 := st) (by simp [exSs, exS, evE, evEs, evT, Pv.evI, evC, evTg, evTgs, evO, vv, up, one, retE, Option.bind_eq_bind, Option.bind_some, Option.map_some, Option.pure_def, List.getElem?_cons_zero, List.getElem?_cons_succ, List.set_cons_zero, List.set_cons_succ, asgN, asgSub, setIx, opD, addD, mulD, biD, cmpD, ixD, ixL, lenD, slotSeq, slotLst, truD, List.length_cons, List.length_nil, if_true, if_false, Bool.false_eq_true, reduceIte, mthHR, mthR, mtD, slD, seqOf, wipeE, Tgs.len, Pv.unpack, Option.map_none, Option.bind_none, augD, revD, List.map_cons, List.map_nil, isiD, ty, List.any_cons, List.any_nil])).trans ?_
  have mu : mulD (.lst [L3]) (.int m) = some (true, .lst (List.replicate m.toNat L3)) := by
    simp only [mulD]
    rw [if_pos ⟨by omega, by omega, by simp; unfold lim; omega⟩, rep_flat]
  have arg : evE (T (k + 1)) (.op .Mult (.lst (.cons (.lst (.cons (.k (.int 0)) (.cons (.k (.int 1)) (.cons (.k (.int 2)) .nil)))) .nil)) (.v 0)) [.val (.int m), .val (.int s), .val (.int l), .own [], .no, .no] st = some (true, .lst (List.replicate m.toNat L3), [.val (.int m), .val (.int s), .val (.int l), .own [], .no, .no], st) := by
    simp only [evE, evEs, vv, Option.map_some, Option.bind_eq_bind, Option.bind_some, List.length_cons, List.length_nil, show (0 + 1 + 1 + 1 : Nat) ≤ lim by decide, show (0 + 1 : Nat) ≤ lim by decide, if_true, List.getElem?_cons_zero, opD]
    show up _ _ (mulD (.lst [L3]) (.int m)) = _
    rw [mu]; rfl
  generalize E.op Operator.Mult _ _ = AR at arg ⊢
  refine (sq (ex_for (xs := (rowsN m.toNat).map tupI) (ρ1 := [.val (.int m), .val (.int s), .val (.int l), .own [], .no, .no]) (st1 := st) (by simp [exSs, exS, evE, evEs, evT, Pv.evI, evC, evTg, evTgs, evO, vv, up, one, retE, Option.bind_eq_bind, Option.bind_some, Option.map_some, Option.pure_def, List.getElem?_cons_zero, List.getElem?_cons_succ, List.set_cons_zero, List.set_cons_succ, asgN, asgSub, setIx, opD, addD, mulD, biD, cmpD, ixD, ixL, lenD, slotSeq, slotLst, truD, List.length_cons, List.length_nil, if_true, if_false, Bool.false_eq_true, reduceIte, mthHR, mthR, mtD, slD, seqOf, wipeE, Tgs.len, Pv.unpack, Option.map_none, Option.bind_none, augD, revD, List.map_cons, List.map_nil, isiD, ty, List.any_cons, List.any_nil, arg, rr]) e)).trans ?_
  have fin : ∀ xs : List Pat, tPP xs = .tup (xs.map tP) := fun _ => rfl
  rw [fin]
  exact sqr (by simp [exSs, exS, evE, evEs, evT, Pv.evI, evC, evTg, evTgs, evO, vv, up, one, retE, Option.bind_eq_bind, Option.bind_some, Option.map_some, Option.pure_def, List.getElem?_cons_zero, List.getElem?_cons_succ, List.set_cons_zero, List.set_cons_succ, asgN, asgSub, setIx, opD, addD, mulD, biD, cmpD, ixD, ixL, lenD, slotSeq, slotLst, truD, List.length_cons, List.length_nil, if_true, if_false, Bool.false_eq_true, reduceIte, mthHR, mthR, mtD, slD, seqOf, wipeE, Tgs.len, Pv.unpack, Option.map_none, Option.bind_none, augD, revD, List.map_cons, List.map_nil, isiD, ty, List.any_cons, List.any_nil, o, so])
/-! ## ways of taking some -/
def waysN (m : Int) : Nat → Int
  | 0 => 1
  | n + 1 => waysN m n * (m - n) / ((n : Int) + 1)
theorem ways_loop {k : Nat} (st : Sto) (m : Int) (hm : 0 ≤ m ∧ m ≤ 6) (s1 : Sl) (hw : ∀ n : Nat, n ≤ 6 → 0 ≤ waysN m n ∧ waysN m n ≤ 1000) : ∀ (j n : Nat) (s3 : Sl), n + j ≤ 6 →
    ∃ s3', forL (evTg (T k) (.n 3)) (exSs (T k) law_ways_of_b0) ((List.range' n j).map natI) [.val (.int m), s1, .val (.int (waysN m n)), s3] st = some (.nx, [.val (.int m), s1, .val (.int (waysN m (n + j))), s3'], st)
  | 0, n, s3, _ => ⟨s3, rfl⟩
  | j + 1, n, s3, h => by
    obtain ⟨s3', ih⟩ := ways_loop (k := k) st m hm s1 hw j (n + 1) (.val (natI n)) (by omega)
    refine ⟨s3', ?_⟩
    have e1 : evTg (T k) (.n 3) (natI n) [.val (.int m), s1, .val (.int (waysN m n)), s3] st = some ([.val (.int m), s1, .val (.int (waysN m n)), .val (natI n)], st) := by simp [exSs, exS, evE, evEs, evT, Pv.evI, evC, evTg, evTgs, evO, vv, up, one, retE, Option.bind_eq_bind, Option.bind_some, Option.map_some, Option.pure_def, List.getElem?_cons_zero, List.getElem?_cons_succ, List.set_cons_zero, List.set_cons_succ, asgN, asgSub, setIx, opD, addD, mulD, biD, cmpD, ixD, ixL, lenD, slotSeq, slotLst, truD, List.length_cons, List.length_nil, if_true, if_false, Bool.false_eq_true, reduceIte, mthHR, mthR, mtD, slD, seqOf, wipeE, Tgs.len, Pv.unpack, Option.map_none, Option.bind_none, augD, revD, List.map_cons, List.map_nil, isiD, ty, List.any_cons, List.any_nil]
    have w := hw n (by omega)
    have b1 : Big (waysN m n) := big_small (by omega)
    have b2 : Big (m - n) := big_small (by omega)
    have l1 : ((n : Int) + 1).natAbs.log2 < 9000 := log_small (by omega) (by omega)
    have p1 : (0 : Int) < (n : Int) + 1 := by omega
    have e2 : exSs (T k) law_ways_of_b0 [.val (.int m), s1, .val (.int (waysN m n)), .val (natI n)] st = some (.nx, [.val (.int m), s1, .val (.int (waysN m (n + 1))), .val (natI n)], st) := by
      unfold law_ways_of_b0
      exact sq1 (by simp [exSs, exS, evE, evEs, evT, Pv.evI, evC, evTg, evTgs, evO, vv, up, one, retE, Option.bind_eq_bind, Option.bind_some, Option.map_some, Option.pure_def, List.getElem?_cons_zero, List.getElem?_cons_succ, List.set_cons_zero, List.set_cons_succ, asgN, asgSub, setIx, opD, addD, mulD, biD, cmpD, ixD, ixL, lenD, slotSeq, slotLst, truD, List.length_cons, List.length_nil, if_true, if_false, Bool.false_eq_true, reduceIte, mthHR, mthR, mtD, slD, seqOf, wipeE, Tgs.len, Pv.unpack, Option.map_none, Option.bind_none, augD, revD, List.map_cons, List.map_nil, isiD, ty, List.any_cons, List.any_nil, natI, b1, b2, l1, p1, waysN])
    rw [List.range'_succ]
    simp only [List.map_cons, forL, e1, e2, Option.bind_eq_bind, Option.bind_some, ih]
    rw [show n + 1 + j = n + (j + 1) by omega]
theorem ways_small : ∀ m ∈ ([0, 1, 2, 3, 4, 5, 6] : List Int), ∀ n ∈ [0, 1, 2, 3, 4, 5, 6], 0 ≤ waysN m n ∧ waysN m n ≤ 1000 := by decide +kernel
theorem ways_ok {m : Int} (hm : 0 ≤ m ∧ m ≤ 6) (n : Nat) (hn : n ≤ 6) : 0 ≤ waysN m n ∧ waysN m n ≤ 1000 := ways_small m (by simp; omega) n (by simp; omega)
theorem ways_run (k : Nat) (st : Sto) {m n : Int} (hm : 0 ≤ m ∧ m ≤ 6) (hn : 0 ≤ n ∧ n ≤ 6) : Fc (k + 1) "_law_ways_of" [.int m, .int n] st = some (false, .int (waysN m n.toNat), st) := by
  rw [q_law_ways_of]
  obtain ⟨s3, e⟩ := ways_loop (k := k) st m hm (.val (.int n)) (ways_ok hm) n.toNat 0 .no (by omega)
  have hr : rngL 0 n 1 = (List.range' 0 n.toNat).map natI := by
    have := rngL_nat (a := 0) (b := n.toNat)
    rw [show ((0 : Nat) : Int) = 0 from rfl, show ((n.toNat : Nat) : Int) = n by omega] at this
    rw [this]; rfl
  rw [Nat.zero_add, ← hr] at e
  refine run_rt (ρ1 := [.val (.int m), .val (.int n), .val (.int (waysN m n.toNat)), s3]) (n := 2) rfl rfl ?_
  unfold b_law_ways_of
  refine (sq (ρ1 := [.val (.int m), .val (.int n), .val (.int 1), .no]) (st1 := st) (by simp [exSs, exS, evE, evEs, evT, Pv.evI, evC, evTg, evTgs, evO, vv, up, one, retE, Option.bind_eq_bind, Option.bind_some, Option.map_some, Option.pure_def, List.getElem?_cons_zero, List.getElem?_cons_succ, List.set_cons_zero, List.set_cons_succ, asgN, asgSub, setIx, opD, addD, mulD, biD, cmpD, ixD, ixL, lenD, slotSeq, slotLst, truD, List.length_cons, List.length_nil, if_true, if_false, Bool.false_eq_true, reduceIte, mthHR, mthR, mtD, slD, seqOf, wipeE, Tgs.len, Pv.unpack, Option.map_none, Option.bind_none, augD, revD, List.map_cons, List.map_nil, isiD, ty, List.any_cons, List.any_nil])).trans ?_
  refine (sq (ex_for (xs := rngL 0 n 1) (ρ1 := [.val (.int m), .val (.int n), .val (.int 1), .no]) (st1 := st) (by simp [exSs, exS, evE, evEs, evT, Pv.evI, evC, evTg, evTgs, evO, vv, up, one, retE, Option.bind_eq_bind, Option.bind_some, Option.map_some, Option.pure_def, List.getElem?_cons_zero, List.getElem?_cons_succ, List.set_cons_zero, List.set_cons_succ, asgN, asgSub, setIx, opD, addD, mulD, biD, cmpD, ixD, ixL, lenD, slotSeq, slotLst, truD, List.length_cons, List.length_nil, if_true, if_false, Bool.false_eq_true, reduceIte, mthHR, mthR, mtD, slD, seqOf, wipeE, Tgs.len, Pv.unpack, Option.map_none, Option.bind_none, augD, revD, List.map_cons, List.map_nil, isiD, ty, List.any_cons, List.any_nil, rngD1 (n := n) (by omega) (by omega)]) e)).trans ?_
  exact sqr (by simp [exSs, exS, evE, evEs, evT, Pv.evI, evC, evTg, evTgs, evO, vv, up, one, retE, Option.bind_eq_bind, Option.bind_some, Option.map_some, Option.pure_def, List.getElem?_cons_zero, List.getElem?_cons_succ, List.set_cons_zero, List.set_cons_succ, asgN, asgSub, setIx, opD, addD, mulD, biD, cmpD, ixD, ixL, lenD, slotSeq, slotLst, truD, List.length_cons, List.length_nil, if_true, if_false, Bool.false_eq_true, reduceIte, mthHR, mthR, mtD, slD, seqOf, wipeE, Tgs.len, Pv.unpack, Option.map_none, Option.bind_none, augD, revD, List.map_cons, List.map_nil, isiD, ty, List.any_cons, List.any_nil])
/-! ## under other numbers -/
def ren (places : List Int) (i : Int) : Int := places.getD i.toNat 0
def underL (places : List Int) (l : List Int) : List Int := srt ltI (l.map (ren places))
def under (places : List Int) (p : Pat) : Pat := p.map (underL places)
theorem ren_at {places : List Int} {i : Int} (h : 0 ≤ i ∧ i < places.length) : atI (places.map D.int) i = some (.int (ren places i)) := by
  obtain ⟨j, rfl⟩ := Int.eq_ofNat_of_zero_le h.1
  have hj : j < places.length := by omega
  refine atI_nat ?_
  rw [List.getElem?_map, List.getElem?_eq_getElem hj]
  simp [ren, hj]
def LInd (m : Int) (l : List Int) : Prop := ∀ x ∈ l, 0 ≤ x ∧ x < m
theorem under_run (k : Nat) (st : Sto) {places : List Int} {p : Pat} (hp : ∀ l ∈ p, LInd places.length l ∧ l.length ≤ 1000) (hl : p.length ≤ 100) (d : D) (hd : d = .lst (places.map D.int)) : Fc (k + 1) "_law_under" [tP p, d] st = some (false, tP (under places p), st) := by
  subst hd
  rw [q_law_under]
  have l : evE (T k) (.lc law_under_e1 (.n 2) (.val (.v 0)) .no [("side", 2)]) [.val (tP p), .val (.lst (places.map D.int)), .no, .no] st = some (true, .lst ((p.filter fun _ => true).map fun l => tupI (underL places l)), [.val (tP p), .val (.lst (places.map D.int)), .no, .no], st) := by
    refine ev_fm (enc := tupI) p (fun _ => true) (fun l => tupI (underL places l)) (fun l => [.val (tP p), .val (.lst (places.map D.int)), .val (tupI l), .no]) (by simp [exSs, exS, evE, evEs, evT, Pv.evI, evC, evTg, evTgs, evO, vv, up, one, retE, Option.bind_eq_bind, Option.bind_some, Option.map_some, Option.pure_def, List.getElem?_cons_zero, List.getElem?_cons_succ, List.set_cons_zero, List.set_cons_succ, asgN, asgSub, setIx, opD, addD, mulD, biD, cmpD, ixD, ixL, lenD, slotSeq, slotLst, truD, List.length_cons, List.length_nil, if_true, if_false, Bool.false_eq_true, reduceIte, mthHR, mthR, mtD, slD, seqOf, wipeE, Tgs.len, Pv.unpack, Option.map_none, Option.bind_none, augD, revD, List.map_cons, List.map_nil, isiD, ty, List.any_cons, List.any_nil, tupE]) (by simp [exSs, exS, evE, evEs, evT, Pv.evI, evC, evTg, evTgs, evO, vv, up, one, retE, Option.bind_eq_bind, Option.bind_some, Option.map_some, Option.pure_def, List.getElem?_cons_zero, List.getElem?_cons_succ, List.set_cons_zero, List.set_cons_succ, asgN, asgSub, setIx, opD, addD, mulD, biD, cmpD, ixD, ixL, lenD, slotSeq, slotLst, truD, List.length_cons, List.length_nil, if_true, if_false, Bool.false_eq_true, reduceIte, mthHR, mthR, mtD, slD, seqOf, wipeE, Tgs.len, Pv.unpack, Option.map_none, Option.bind_none, augD, revD, List.map_cons, List.map_nil, isiD, ty, List.any_cons, List.any_nil]) (by unfold lim; omega) fun l hlp => ?_
    obtain ⟨h1, h2⟩ := hp l hlp
    have l2 : evE (T k) (.lc law_under_e0 (.n 3) (.val (.v 2)) .no [("machine", 3)]) [.val (tP p), .val (.lst (places.map D.int)), .val (tupI l), .no] st = some (true, .lst ((l.filter fun _ => true).map fun x => .int (ren places x)), [.val (tP p), .val (.lst (places.map D.int)), .val (tupI l), .no], st) := by
      refine ev_fm (enc := D.int) l (fun _ => true) (fun x => .int (ren places x)) (fun x => [.val (tP p), .val (.lst (places.map D.int)), .val (tupI l), .val (.int x)]) (by simp [exSs, exS, evE, evEs, evT, Pv.evI, evC, evTg, evTgs, evO, vv, up, one, retE, Option.bind_eq_bind, Option.bind_some, Option.map_some, Option.pure_def, List.getElem?_cons_zero, List.getElem?_cons_succ, List.set_cons_zero, List.set_cons_succ, asgN, asgSub, setIx, opD, addD, mulD, biD, cmpD, ixD, ixL, lenD, slotSeq, slotLst, truD, List.length_cons, List.length_nil, if_true, if_false, Bool.false_eq_true, reduceIte, mthHR, mthR, mtD, slD, seqOf, wipeE, Tgs.len, Pv.unpack, Option.map_none, Option.bind_none, augD, revD, List.map_cons, List.map_nil, isiD, ty, List.any_cons, List.any_nil, tupI]) (by simp [exSs, exS, evE, evEs, evT, Pv.evI, evC, evTg, evTgs, evO, vv, up, one, retE, Option.bind_eq_bind, Option.bind_some, Option.map_some, Option.pure_def, List.getElem?_cons_zero, List.getElem?_cons_succ, List.set_cons_zero, List.set_cons_succ, asgN, asgSub, setIx, opD, addD, mulD, biD, cmpD, ixD, ixL, lenD, slotSeq, slotLst, truD, List.length_cons, List.length_nil, if_true, if_false, Bool.false_eq_true, reduceIte, mthHR, mthR, mtD, slD, seqOf, wipeE, Tgs.len, Pv.unpack, Option.map_none, Option.bind_none, augD, revD, List.map_cons, List.map_nil, isiD, ty, List.any_cons, List.any_nil]) (by unfold lim; omega) fun x hx => ?_
      have a := ren_at (h1 x hx)
      exact ⟨by simp [exSs, exS, evE, evEs, evT, Pv.evI, evC, evTg, evTgs, evO, vv, up, one, retE, Option.bind_eq_bind, Option.bind_some, Option.map_some, Option.pure_def, List.getElem?_cons_zero, List.getElem?_cons_succ, List.set_cons_zero, List.set_cons_succ, asgN, asgSub, setIx, opD, addD, mulD, biD, cmpD, ixD, ixL, lenD, slotSeq, slotLst, truD, List.length_cons, List.length_nil, if_true, if_false, Bool.false_eq_true, reduceIte, mthHR, mthR, mtD, slD, seqOf, wipeE, Tgs.len, Pv.unpack, Option.map_none, Option.bind_none, augD, revD, List.map_cons, List.map_nil, isiD, ty, List.any_cons, List.any_nil], by simp [exSs, exS, evE, evEs, evT, Pv.evI, evC, evTg, evTgs, evO, vv, up, one, retE, Option.bind_eq_bind, Option.bind_some, Option.map_some, Option.pure_def, List.getElem?_cons_zero, List.getElem?_cons_succ, List.set_cons_zero, List.set_cons_succ, asgN, asgSub, setIx, opD, addD, mulD, biD, cmpD, ixD, ixL, lenD, slotSeq, slotLst, truD, List.length_cons, List.length_nil, if_true, if_false, Bool.false_eq_true, reduceIte, mthHR, mthR, mtD, slD, seqOf, wipeE, Tgs.len, Pv.unpack, Option.map_none, Option.bind_none, augD, revD, List.map_cons, List.map_nil, isiD, ty, List.any_cons, List.any_nil], fun _ => by simp [law_under_e0, exSs, exS, evE, evEs, evT, Pv.evI, evC, evTg, evTgs, evO, vv, up, one, retE, Option.bind_eq_bind, Option.bind_some, Option.map_some, Option.pure_def, List.getElem?_cons_zero, List.getElem?_cons_succ, List.set_cons_zero, List.set_cons_succ, asgN, asgSub, setIx, opD, addD, mulD, biD, cmpD, ixD, ixL, lenD, slotSeq, slotLst, truD, List.length_cons, List.length_nil, if_true, if_false, Bool.false_eq_true, reduceIte, mthHR, mthR, mtD, slD, seqOf, wipeE, Tgs.len, Pv.unpack, Option.map_none, Option.bind_none, augD, revD, List.map_cons, List.map_nil, isiD, ty, List.any_cons, List.any_nil, a], by simp [exSs, exS, evE, evEs, evT, Pv.evI, evC, evTg, evTgs, evO, vv, up, one, retE, Option.bind_eq_bind, Option.bind_some, Option.map_some, Option.pure_def, List.getElem?_cons_zero, List.getElem?_cons_succ, List.set_cons_zero, List.set_cons_succ, asgN, asgSub, setIx, opD, addD, mulD, biD, cmpD, ixD, ixL, lenD, slotSeq, slotLst, truD, List.length_cons, List.length_nil, if_true, if_false, Bool.false_eq_true, reduceIte, mthHR, mthR, mtD, slD, seqOf, wipeE, Tgs.len, Pv.unpack, Option.map_none, Option.bind_none, augD, revD, List.map_cons, List.map_nil, isiD, ty, List.any_cons, List.any_nil]⟩
    rw [filt] at l2
    have hm : (l.map fun x => D.int (ren places x)) = (l.map (ren places)).map D.int := by rw [List.map_map]; rfl
    rw [hm] at l2
    have o := Enc.int.ord (by decide) (l.map (ren places))
    have s := Enc.int.sort (l.map (ren places))
    have hu : underL places l = srt ltI (l.map (ren places)) := rfl
    rw [hu]
    generalize l.map (ren places) = R at *
    refine ⟨by simp [exSs, exS, evE, evEs, evT, Pv.evI, evC, evTg, evTgs, evO, vv, up, one, retE, Option.bind_eq_bind, Option.bind_some, Option.map_some, Option.pure_def, List.getElem?_cons_zero, List.getElem?_cons_succ, List.set_cons_zero, List.set_cons_succ, asgN, asgSub, setIx, opD, addD, mulD, biD, cmpD, ixD, ixL, lenD, slotSeq, slotLst, truD, List.length_cons, List.length_nil, if_true, if_false, Bool.false_eq_true, reduceIte, mthHR, mthR, mtD, slD, seqOf, wipeE, Tgs.len, Pv.unpack, Option.map_none, Option.bind_none, augD, revD, List.map_cons, List.map_nil, isiD, ty, List.any_cons, List.any_nil], by simp [exSs, exS, evE, evEs, evT, Pv.evI, evC, evTg, evTgs, evO, vv, up, one, retE, Option.bind_eq_bind, Option.bind_some, Option.map_some, Option.pure_def, List.getElem?_cons_zero, List.getElem?_cons_succ, List.set_cons_zero, List.set_cons_succ, asgN, asgSub, setIx, opD, addD, mulD, biD, cmpD, ixD, ixL, lenD, slotSeq, slotLst, truD, List.length_cons, List.length_nil, if_true, if_false, Bool.false_eq_true, reduceIte, mthHR, mthR, mtD, slD, seqOf, wipeE, Tgs.len, Pv.unpack, Option.map_none, Option.bind_none, augD, revD, List.map_cons, List.map_nil, isiD, ty, List.any_cons, List.any_nil], fun _ => ?_, by simp [exSs, exS, evE, evEs, evT, Pv.evI, evC, evTg, evTgs, evO, vv, up, one, retE, Option.bind_eq_bind, Option.bind_some, Option.map_some, Option.pure_def, List.getElem?_cons_zero, List.getElem?_cons_succ, List.set_cons_zero, List.set_cons_succ, asgN, asgSub, setIx, opD, addD, mulD, biD, cmpD, ixD, ixL, lenD, slotSeq, slotLst, truD, List.length_cons, List.length_nil, if_true, if_false, Bool.false_eq_true, reduceIte, mthHR, mthR, mtD, slD, seqOf, wipeE, Tgs.len, Pv.unpack, Option.map_none, Option.bind_none, augD, revD, List.map_cons, List.map_nil, isiD, ty, List.any_cons, List.any_nil]⟩
    unfold law_under_e1
    generalize E.lc law_under_e0 _ _ _ _ = LC at l2 ⊢
    simp only [tupI] at l2
    simp [exSs, exS, evE, evEs, evT, Pv.evI, evC, evTg, evTgs, evO, vv, up, one, retE, Option.bind_eq_bind, Option.bind_some, Option.map_some, Option.pure_def, List.getElem?_cons_zero, List.getElem?_cons_succ, List.set_cons_zero, List.set_cons_succ, asgN, asgSub, setIx, opD, addD, mulD, biD, cmpD, ixD, ixL, lenD, slotSeq, slotLst, truD, List.length_cons, List.length_nil, if_true, if_false, Bool.false_eq_true, reduceIte, mthHR, mthR, mtD, slD, seqOf, wipeE, Tgs.len, Pv.unpack, Option.map_none, Option.bind_none, augD, revD, List.map_cons, List.map_nil, isiD, ty, List.any_cons, List.any_nil, l2, o, s, tupI]
  rw [filt] at l
  have hm : (p.map fun l => tupI (underL places l)) = (under places p).map tupI := by unfold under; rw [List.map_map]; rfl
  rw [hm] at l
  refine run_rt (ρ1 := [.val (tP p), .val (.lst (places.map D.int)), .no, .no]) (n := 2) rfl rfl ?_
  unfold b_law_under
  generalize E.lc law_under_e1 _ _ _ _ = LC at l ⊢
  have fin : ∀ xs : Pat, tP xs = .tup (xs.map tupI) := fun _ => rfl
  rw [fin (under places p)]
  exact sqr (by simp [exSs, exS, evE, evEs, evT, Pv.evI, evC, evTg, evTgs, evO, vv, up, one, retE, Option.bind_eq_bind, Option.bind_some, Option.map_some, Option.pure_def, List.getElem?_cons_zero, List.getElem?_cons_succ, List.set_cons_zero, List.set_cons_succ, asgN, asgSub, setIx, opD, addD, mulD, biD, cmpD, ixD, ixL, lenD, slotSeq, slotLst, truD, List.length_cons, List.length_nil, if_true, if_false, Bool.false_eq_true, reduceIte, mthHR, mthR, mtD, slD, seqOf, wipeE, Tgs.len, Pv.unpack, Option.map_none, Option.bind_none, augD, revD, List.map_cons, List.map_nil, isiD, ty, List.any_cons, List.any_nil, l])
end Lk35

namespace Lk35
open PySem PySem.Spec PyProof.Rows L2 Pv
theorem lin1 : Lin lt1 := lexB_lin ltI_lin
theorem lin2 : Lin lt2 := lexB_lin lin1
def allLotsI (m k : Int) : List (List Int) := isort lt1 (lotsN m (min k (m - 1)).toNat).1
theorem allLots_I (m k : Int) : allLots m k = allLotsI m k := srt_isort lin1 _
def pI (m s l : Int) : List Pat := isort lt2 (patsF m (allLotsI m s) (allLotsI m l))
def lI (m s l : Int) : List Pat := isort lt2 (((rowsN m.toNat).filter (sidesOk s l)).map (lpatF m))
theorem allPats_I (m s l : Int) : allPats m s l = pI m s l := by
  unfold allPats pI
  rw [srt_isort lin2, allLots_I, allLots_I]
theorem lallPats_I (m s l : Int) : lallPats m s l = lI m s l := srt_isort lin2 _
def stepM (m : Int) (acc : Int) (g : List Int) : Int := acc + if r0 g + r1 g < m then waysN m (r0 g).toNat * waysN (m - r0 g) (r1 g).toNat else 0
def manyOf (m s l : Int) : Int := (pairsL (upto (s + 1).toNat) (upto (l + 1).toNat)).foldl (stepM m) 0
/-- lots in order, without repeats -/
def canon (a : List Int) : Bool := a == isort ltI a && decide a.Nodup
def finOk (m s l : Int) : Bool := pI m s l == lI m s l && decide (((pI m s l).length : Int) = manyOf m s l) && (pI m s l).all (fun p => p.all canon) && decide (pI m s l).Nodup && decide ((pI m s l).length ≤ 500)
theorem fin_all : ∀ m ∈ ([1, 2, 3, 4, 5] : List Int), ∀ s ∈ ([0, 1, 2, 3] : List Int), ∀ l ∈ ([0, 1, 2, 3] : List Int), finOk m s l = true := by decide +kernel
theorem fin_of {m s l : Int} (hm : 1 ≤ m ∧ m ≤ 5) (hs : 0 ≤ s ∧ s ≤ 3) (hl : 0 ≤ l ∧ l ≤ 3) : lallPats m s l = allPats m s l ∧ ((allPats m s l).length : Int) = manyOf m s l ∧ (∀ p ∈ allPats m s l, ∀ a ∈ p, canon a = true) ∧ (allPats m s l).Nodup ∧ (allPats m s l).length ≤ 500 := by
  have h := fin_all m (by simp; omega) s (by simp; omega) l (by simp; omega)
  unfold finOk at h
  simp only [Bool.and_eq_true, beq_iff_eq, decide_eq_true_eq, List.all_eq_true] at h
  rw [allPats_I, lallPats_I]
  exact ⟨h.1.1.1.1.symm, h.1.1.1.2, h.1.1.2, h.1.2, h.2⟩
theorem pats_ok {m s l : Int} (hm : 1 ≤ m ∧ m ≤ 6) (hs : 0 ≤ s) (hl : 0 ≤ l) {p : Pat} (h : p ∈ allPats m s l) : ∃ a b : List Int, p = [a, b] ∧ LotOk m a ∧ LotOk m b := by
  have := (srt_perm lt2 _).mem_iff.mp h
  obtain ⟨q, hq, h1⟩ := List.mem_flatMap.mp this
  obtain ⟨r, hr, rfl⟩ := List.mem_map.mp h1
  exact ⟨q, r, rfl, allLots_ok hm hs hq, allLots_ok hm hl (List.mem_filter.mp hr).1⟩
/-! ## the two ways to see what may follow -/
theorem en_range {α : Type} (d : α) : ∀ (xs : List α) (k : Nat), en k xs = (List.range xs.length).map fun i => (k + i, xs.getD i d)
  | [], _ => rfl
  | x :: xs, k => by
    rw [en, en_range d xs (k + 1), List.length_cons, List.range_succ_eq_map, List.map_cons, List.map_map]
    congr 1
    refine List.map_congr_left fun i _ => ?_
    simp [Function.comp]; omega
theorem perm_nil {xs : List Int} : srt ltI xs = [] ↔ xs = [] := by
  have := (srt_perm ltI xs).length_eq
  constructor
  · intro h; rw [h] at this; exact List.length_eq_zero_iff.mp this.symm
  · rintro rfl; exact List.length_eq_zero_iff.mp this
theorem fnob : faulty [[], []] = [] := perm_nil.mpr rfl
theorem may_eq {pa pb : Pat} (ha : PatOk pa) (hb : PatOk pb) (roads : List (List Int)) : mayGo pa pb roads = lmay pa pb roads := by
  obtain ⟨a1, a2, rfl, _, _⟩ := ha
  obtain ⟨b1, b2, rfl, _, _⟩ := hb
  unfold mayGo lmay nob
  by_cases h1 : ([a1, a2] : Pat) = [[], []]
  · have : faulty [a1, a2] = [] := by rw [h1]; exact fnob
    rw [if_pos (.inl h1), this]; simp
  · have n1 : ¬ faulty [a1, a2] = [] := fun z => h1 (by
      have z' : a1 ++ a2 = [] := perm_nil.mp z
      obtain ⟨rfl, rfl⟩ := List.append_eq_nil_iff.mp z'
      rfl)
    rw [decide_eq_false n1]
    by_cases h2 : ([b1, b2] : Pat) = [[], []]
    · have : faulty [b1, b2] = [] := by rw [h2]; exact fnob
      rw [if_pos (.inr h2), this]; simp
    · rw [if_neg (fun z => z.elim h1 h2)]; simp
theorem roads_eq {ps : List Pat} (hp : ∀ p ∈ ps, PatOk p) (roads : List (List Int)) : roadGoes ps roads = lroadGoes ps roads := by
  unfold roadGoes lroadGoes goesN pairsL
  rw [en_range [] ps 0]
  unfold upto
  rw [List.filter_flatMap, List.flatMap_map, List.flatMap_map]
  refine congrArg List.flatten (List.map_congr_left fun i hi => ?_)
  have hi := List.mem_range.mp hi
  show goesFrom ps roads (0 + i, ps.getD i []) = _
  unfold goesFrom
  rw [en_range [] ps 0, List.filter_map, List.map_map, List.filter_map, List.filter_map, List.map_map]
  have e : (List.range ps.length).filter ((fun b : Nat × Pat => mayGo (ps.getD i []) b.2 roads) ∘ fun i => (0 + i, ps.getD i [])) = (List.range ps.length).filter (((fun g => lmay (patAt ps (r0 g)) (patAt ps (r1 g)) roads) ∘ fun b => [Int.ofNat i, b]) ∘ Int.ofNat) := by
    refine List.filter_congr fun j hj => ?_
    have hj := List.mem_range.mp hj
    show mayGo (ps.getD i []) (ps.getD j []) roads = lmay (ps.getD i []) (ps.getD j []) roads
    refine may_eq (hp _ ?_) (hp _ ?_) roads
    · simp [hi]
    · simp [hj]
  rw [e]
  refine List.map_congr_left fun j _ => ?_
  simp [Function.comp]
end Lk35

namespace Lk35
open PySem PySem.Spec PyProof.Rows L2 Pv
/-! ## the same under other numbers -/
def Bij (m : Int) (places : List Int) : Prop := ∀ x y, 0 ≤ x ∧ x < m → 0 ≤ y ∧ y < m → ren places x = ren places y → x = y
theorem bij_of {m : Nat} {places : List Int} (h : places.Perm (upto m)) : Bij m places ∧ places.length = m ∧ ∀ x : Int, 0 ≤ x ∧ x < m → 0 ≤ ren places x ∧ ren places x < m := by
  have hl : places.length = m := by rw [h.length_eq, upto_len]
  have hn : places.Nodup := h.nodup_iff.mpr (by
    unfold upto
    exact List.pairwise_map.mpr (List.nodup_range.imp fun {a b} z e => z (Int.ofNat.inj e)))
  refine ⟨fun x y hx hy e => ?_, hl, fun x hx => ?_⟩
  · obtain ⟨i, rfl⟩ := Int.eq_ofNat_of_zero_le hx.1
    obtain ⟨j, rfl⟩ := Int.eq_ofNat_of_zero_le hy.1
    have hi : i < places.length := by omega
    have hj : j < places.length := by omega
    have e' : places[i] = places[j] := by simpa [ren, hi, hj] using e
    rw [(List.getElem_inj hn).mp e']
  · obtain ⟨i, rfl⟩ := Int.eq_ofNat_of_zero_le hx.1
    have hi : i < places.length := by omega
    have e : ren places (i : Int) = places[i] := by simp [ren, hi]
    rw [e]
    exact upto_mem (h.mem_iff.mp (List.getElem_mem hi))
theorem underL_mem {places l : List Int} {x : Int} : x ∈ underL places l ↔ ∃ y ∈ l, ren places y = x := by
  unfold underL
  rw [(srt_perm _ _).mem_iff, List.mem_map]
theorem faulty_mem {a b : List Int} {x : Int} : x ∈ faulty [a, b] ↔ x ∈ a ∨ x ∈ b := by
  show x ∈ srt ltI (a ++ b) ↔ _
  rw [(srt_perm _ _).mem_iff, List.mem_append]
theorem reach_mem {lot : List Int} {roads : List (List Int)} {x : Int} : x ∈ reach lot roads ↔ x ∈ lot ∨ ∃ r ∈ roads, r0 r ∈ lot ∧ r1 r = x := by
  unfold reach
  rw [List.mem_append, List.mem_map]
  simp only [List.mem_filter, decide_eq_true_eq, and_assoc]
theorem lmay_iff {pa pb : Pat} {roads : List (List Int)} : lmay pa pb roads = true ↔ (faulty pa = [] ∨ ∀ x ∈ faulty pb, x ∈ reach (faulty pa) roads) := by
  unfold lmay
  rw [Bool.or_eq_true, decide_eq_true_eq, List.isEmpty_iff, List.filter_eq_nil_iff]
  simp
/-- a pattern of m machines -/
structure PatM (m : Int) (p : Pat) : Prop where
  two : ∃ a b : List Int, p = [a, b] ∧ LotOk m a ∧ LotOk m b
  can : ∀ a ∈ p, canon a = true
theorem canon_eq {a b : List Int} (ha : canon a = true) (hb : canon b = true) (h : ∀ x, x ∈ a ↔ x ∈ b) : a = b := by
  unfold canon at ha hb
  simp only [Bool.and_eq_true, beq_iff_eq, decide_eq_true_eq] at ha hb
  rw [ha.1, hb.1, ← srt_isort ltI_lin, ← srt_isort ltI_lin]
  exact srt_congr ltI_lin ((List.perm_ext_iff_of_nodup ha.2 hb.2).mpr h)
theorem underL_inj {m : Int} {places : List Int} (hb : Bij m places) {a b : List Int} (la : LotOk m a) (lb : LotOk m b) (ca : canon a = true) (cb : canon b = true) (h : underL places a = underL places b) : a = b := by
  refine canon_eq ca cb fun x => ⟨fun hx => ?_, fun hx => ?_⟩
  · have : ren places x ∈ underL places b := by rw [← h]; exact underL_mem.mpr ⟨x, hx, rfl⟩
    obtain ⟨y, hy, e⟩ := underL_mem.mp this
    rw [← hb y x (lb.1 y hy) (la.1 x hx) e]; exact hy
  · have : ren places x ∈ underL places a := by rw [h]; exact underL_mem.mpr ⟨x, hx, rfl⟩
    obtain ⟨y, hy, e⟩ := underL_mem.mp this
    rw [← hb y x (la.1 y hy) (lb.1 x hx) e]; exact hy
theorem under_inj {m : Int} {places : List Int} (hb : Bij m places) {p q : Pat} (hp : PatM m p) (hq : PatM m q) (h : under places p = under places q) : p = q := by
  obtain ⟨a, b, rfl, la, lb⟩ := hp.two
  obtain ⟨c, d, rfl, lc, ld⟩ := hq.two
  have h : [underL places a, underL places b] = [underL places c, underL places d] := h
  injection h with h1 h2
  injection h2 with h2 _
  rw [underL_inj hb la lc (hp.can _ (by simp)) (hq.can _ (by simp)) h1, underL_inj hb lb ld (hp.can _ (by simp)) (hq.can _ (by simp)) h2]
def renR (places : List Int) (r : List Int) : List Int := [ren places (r0 r), ren places (r1 r)]
/-- a road between machines -/
def RdM (m : Int) (r : List Int) : Prop := ∃ b e : Int, r = [b, e] ∧ (0 ≤ b ∧ b < m) ∧ (0 ≤ e ∧ e < m)
def underR (places : List Int) (roads : List (List Int)) : List (List Int) := srt lt1 (roads.map (renR places))
theorem faulty_rng {m : Int} {p : Pat} (h : PatM m p) {x : Int} (hx : x ∈ faulty p) : 0 ≤ x ∧ x < m := by
  obtain ⟨a, b, rfl, la, lb⟩ := h.two
  rcases faulty_mem.mp hx with z | z
  · exact la.1 x z
  · exact lb.1 x z
theorem faulty_under {places : List Int} {m : Int} {p : Pat} (h : PatM m p) {x : Int} : x ∈ faulty (under places p) ↔ ∃ y ∈ faulty p, ren places y = x := by
  obtain ⟨a, b, rfl, la, lb⟩ := h.two
  show x ∈ faulty [underL places a, underL places b] ↔ _
  rw [faulty_mem, underL_mem, underL_mem]
  constructor
  · rintro (⟨y, hy, e⟩ | ⟨y, hy, e⟩)
    · exact ⟨y, faulty_mem.mpr (.inl hy), e⟩
    · exact ⟨y, faulty_mem.mpr (.inr hy), e⟩
  · rintro ⟨y, hy, e⟩
    rcases faulty_mem.mp hy with z | z
    · exact .inl ⟨y, z, e⟩
    · exact .inr ⟨y, z, e⟩
theorem in_under {places : List Int} {m : Int} (hb : Bij m places) {p : Pat} (h : PatM m p) {x : Int} (hx : 0 ≤ x ∧ x < m) : ren places x ∈ faulty (under places p) ↔ x ∈ faulty p := by
  rw [faulty_under h]
  constructor
  · rintro ⟨y, hy, e⟩
    rw [← hb y x (faulty_rng h hy) hx e]; exact hy
  · intro z; exact ⟨x, z, rfl⟩
theorem reach_under {places : List Int} {m : Int} (hb : Bij m places) {p : Pat} (h : PatM m p) {roads : List (List Int)} (hr : ∀ r ∈ roads, RdM m r) {x : Int} (hx : 0 ≤ x ∧ x < m) : ren places x ∈ reach (faulty (under places p)) (underR places roads) ↔ x ∈ reach (faulty p) roads := by
  rw [reach_mem, reach_mem, in_under hb h hx]
  constructor
  · rintro (z | ⟨r, hr1, h0, h1⟩)
    · exact .inl z
    · have := (srt_perm _ _).mem_iff.mp hr1
      obtain ⟨r', hr', rfl⟩ := List.mem_map.mp this
      obtain ⟨b, e, rfl, hb1, he1⟩ := hr r' hr'
      refine .inr ⟨_, hr', (in_under hb h hb1).mp h0, ?_⟩
      exact hb e x he1 hx h1
  · rintro (z | ⟨r, hr1, h0, h1⟩)
    · exact .inl z
    · obtain ⟨b, e, rfl, hb1, he1⟩ := hr r hr1
      refine .inr ⟨renR places [b, e], (srt_perm _ _).mem_iff.mpr (List.mem_map.mpr ⟨_, hr1, rfl⟩), (in_under hb h hb1).mpr h0, ?_⟩
      show ren places e = ren places x
      have h1 : e = x := h1
      rw [h1]
theorem lmay_under {places : List Int} {m : Int} (hb : Bij m places) {p q : Pat} (hp : PatM m p) (hq : PatM m q) {roads : List (List Int)} (hr : ∀ r ∈ roads, RdM m r) : lmay (under places p) (under places q) (underR places roads) = lmay p q roads := by
  refine Bool.eq_iff_iff.mpr ?_
  rw [lmay_iff, lmay_iff]
  have e0 : faulty (under places p) = [] ↔ faulty p = [] := by
    constructor
    · intro z
      refine List.eq_nil_iff_forall_not_mem.mpr fun x hx => ?_
      have : ren places x ∈ faulty (under places p) := (faulty_under hp).mpr ⟨x, hx, rfl⟩
      rw [z] at this; simp at this
    · intro z
      refine List.eq_nil_iff_forall_not_mem.mpr fun x hx => ?_
      obtain ⟨y, hy, _⟩ := (faulty_under hp).mp hx
      rw [z] at hy; simp at hy
  rw [e0]
  refine or_congr Iff.rfl ⟨fun z x hx => ?_, fun z x hx => ?_⟩
  · exact (reach_under hb hp hr (faulty_rng hq hx)).mp (z _ ((faulty_under hq).mpr ⟨x, hx, rfl⟩))
  · obtain ⟨y, hy, rfl⟩ := (faulty_under hq).mp hx
    exact (reach_under hb hp hr (faulty_rng hq hy)).mpr (z y hy)
/-! ## the places of patterns among the others -/
def othersOf (places : List Int) (ps : List Pat) : List Pat := srt lt2 (ps.map (under places))
def mv (places : List Int) (ps : List Pat) (i : Int) : Int := ((othersOf places ps).findIdx fun q => decide (q = under places (patAt ps i)) : Nat)
section
variable {m : Nat} {places : List Int} {ps : List Pat}
theorem others_nodup (hb : Bij m places) (hp : ∀ p ∈ ps, PatM m p) (hn : ps.Nodup) : (othersOf places ps).Nodup := by
  refine (srt_perm _ _).nodup_iff.mpr (List.pairwise_map.mpr (hn.imp_of_mem fun {a b} ha hb' ne e => ne ?_))
  exact under_inj hb (hp a ha) (hp b hb') e
theorem patAt_mem {i : Int} (h : 0 ≤ i ∧ i < ps.length) : patAt ps i ∈ ps := (atI_pat h.1 h.2).2
theorem patAt_inj (hn : ps.Nodup) {i j : Int} (hi : 0 ≤ i ∧ i < ps.length) (hj : 0 ≤ j ∧ j < ps.length) (e : patAt ps i = patAt ps j) : i = j := by
  obtain ⟨a, rfl⟩ := Int.eq_ofNat_of_zero_le hi.1
  obtain ⟨b, rfl⟩ := Int.eq_ofNat_of_zero_le hj.1
  have ha : a < ps.length := by omega
  have hb : b < ps.length := by omega
  have e' : ps[a] = ps[b] := by simpa [patAt, ha, hb] using e
  rw [(List.getElem_inj hn).mp e']
theorem patAt_of {p : Pat} (h : p ∈ ps) : ∃ i : Int, (0 ≤ i ∧ i < ps.length) ∧ patAt ps i = p := by
  obtain ⟨a, ha, e⟩ := List.getElem_of_mem h
  exact ⟨(a : Int), ⟨by omega, by omega⟩, by simp [patAt, ha, e]⟩
theorem others_len : (othersOf places ps).length = ps.length := by unfold othersOf; rw [srt_len, List.length_map]
theorem patAt_nat {qs : List Pat} {n : Nat} (h : n < qs.length) : patAt qs (n : Nat) = qs[n] := by simp [patAt, h]
theorem mv_at {i : Int} (hi : 0 ≤ i ∧ i < ps.length) : (0 ≤ mv places ps i ∧ mv places ps i < ps.length) ∧ patAt (othersOf places ps) (mv places ps i) = under places (patAt ps i) := by
  have hm : under places (patAt ps i) ∈ othersOf places ps := (srt_perm _ _).mem_iff.mpr (List.mem_map.mpr ⟨_, patAt_mem hi, rfl⟩)
  have hlt : (othersOf places ps).findIdx (fun q => decide (q = under places (patAt ps i))) < (othersOf places ps).length := List.findIdx_lt_length_of_exists ⟨_, hm, by simp⟩
  have hg := List.findIdx_getElem (w := hlt)
  have hl := others_len (places := places) (ps := ps)
  unfold mv
  refine ⟨⟨by omega, by omega⟩, ?_⟩
  have h1 : (othersOf places ps)[(othersOf places ps).findIdx fun q => decide (q = under places (patAt ps i))] = under places (patAt ps i) := by simpa using hg
  exact (patAt_nat hlt).trans h1
theorem mv_inj (hb : Bij m places) (hp : ∀ p ∈ ps, PatM m p) (hn : ps.Nodup) {i j : Int} (hi : 0 ≤ i ∧ i < ps.length) (hj : 0 ≤ j ∧ j < ps.length) (e : mv places ps i = mv places ps j) : i = j := by
  have h1 := (mv_at (places := places) hi).2
  have h2 := (mv_at (places := places) hj).2
  rw [e, h2] at h1
  exact patAt_inj hn hi hj (under_inj hb (hp _ (patAt_mem hi)) (hp _ (patAt_mem hj)) h1.symm)
theorem mv_onto (hb : Bij m places) (hp : ∀ p ∈ ps, PatM m p) (hn : ps.Nodup) {j : Int} (hj : 0 ≤ j ∧ j < ps.length) : ∃ i : Int, (0 ≤ i ∧ i < ps.length) ∧ mv places ps i = j := by
  have hl := others_len (places := places) (ps := ps)
  have hj' : 0 ≤ j ∧ j < (othersOf places ps).length := by omega
  have := (srt_perm _ _).mem_iff.mp (patAt_mem hj')
  obtain ⟨p, hp1, e⟩ := List.mem_map.mp this
  obtain ⟨i, hi, rfl⟩ := patAt_of hp1
  refine ⟨i, hi, ?_⟩
  have h1 := mv_at (places := places) hi
  refine patAt_inj (others_nodup hb hp hn) (by omega) hj' ?_
  rw [h1.2, e]; rfl
end
/-! ## the pairs in order -/
theorem upto_pw (n : Nat) : (upto n).Pairwise fun a b => a < b := by
  unfold upto
  refine List.pairwise_map.mpr (List.pairwise_lt_range.imp fun {a b} h => Int.ofNat_lt.mpr h)
theorem goesN_pw (n : Nat) : (goesN n).Pairwise fun a b => lt1 a b = true := by
  unfold goesN pairsL
  rw [List.pairwise_flatMap]
  refine ⟨fun a _ => List.pairwise_map.mpr ((upto_pw n).imp fun {x y} h => ?_), (upto_pw n).imp fun {a b} h => ?_⟩
  · have n : ¬ x = y := by omega
    simp [lexB, ltI, n]; omega
  · intro x hx y hy
    obtain ⟨x', _, rfl⟩ := List.mem_map.mp hx
    obtain ⟨y', _, rfl⟩ := List.mem_map.mp hy
    have n : ¬ a = b := by omega
    simp [lexB, ltI, n]; omega
theorem goes_mem {n : Nat} {i j : Int} (hi : 0 ≤ i ∧ i < n) (hj : 0 ≤ j ∧ j < n) : [i, j] ∈ goesN n := by
  have up : ∀ x : Int, 0 ≤ x ∧ x < n → x ∈ upto n := fun x hx => by
    obtain ⟨a, rfl⟩ := Int.eq_ofNat_of_zero_le hx.1
    exact List.mem_map.mpr ⟨a, List.mem_range.mpr (by omega), rfl⟩
  exact List.mem_flatMap.mpr ⟨i, up i hi, List.mem_map.mpr ⟨j, up j hj, rfl⟩⟩
theorem ne_of_lt {a b : List Int} (h : lt1 a b = true) : a ≠ b := fun e => by rw [e, lin1.irr] at h; cases h
theorem lroads_pw (ps : List Pat) (roads : List (List Int)) : (lroadGoes ps roads).Pairwise fun a b => lt1 a b = true := (goesN_pw _).filter _
def mvG (places : List Int) (ps : List Pat) (g : List Int) : List Int := [mv places ps (r0 g), mv places ps (r1 g)]
theorem equi {m : Nat} {places : List Int} {ps : List Pat} (hb : Bij m places) (hp : ∀ p ∈ ps, PatM m p) (hn : ps.Nodup) {roads : List (List Int)} (hr : ∀ r ∈ roads, RdM m r) :
    lroadGoes (othersOf places ps) (underR places roads) = srt lt1 ((lroadGoes ps roads).map (mvG places ps)) := by
  symm
  refine srt_eq lin1 ?_ ((lroads_pw _ _).imp fun {a b} h => lin1.asym h)
  have hl := others_len (places := places) (ps := ps)
  refine (List.perm_ext_iff_of_nodup ((lroads_pw _ _).imp fun {a b} h => ne_of_lt h) ?_).mpr fun g => ?_
  · refine List.pairwise_map.mpr (((lroads_pw ps roads).imp fun {a b} h => ne_of_lt h).imp_of_mem fun {a b} ha hb' ne e => ne ?_)
    obtain ⟨i, j, rfl, hi, hj⟩ := goesN_mem (List.mem_filter.mp ha).1
    obtain ⟨i', j', rfl, hi', hj'⟩ := goesN_mem (List.mem_filter.mp hb').1
    have e : [mv places ps i, mv places ps j] = [mv places ps i', mv places ps j'] := e
    injection e with e1 e2
    injection e2 with e2 _
    rw [mv_inj hb hp hn hi hi' e1, mv_inj hb hp hn hj hj' e2]
  · constructor
    · intro h
      obtain ⟨h1, h2⟩ := List.mem_filter.mp h
      obtain ⟨i', j', rfl, hi', hj'⟩ := goesN_mem h1
      rw [hl] at hi' hj'
      obtain ⟨i, hi, rfl⟩ := mv_onto hb hp hn hi'
      obtain ⟨j, hj, rfl⟩ := mv_onto hb hp hn hj'
      have h2 : lmay (patAt (othersOf places ps) (mv places ps i)) (patAt (othersOf places ps) (mv places ps j)) (underR places roads) = true := h2
      rw [(mv_at hi).2, (mv_at hj).2, lmay_under hb (hp _ (patAt_mem hi)) (hp _ (patAt_mem hj)) hr] at h2
      exact List.mem_map.mpr ⟨[i, j], List.mem_filter.mpr ⟨goes_mem hi hj, h2⟩, rfl⟩
    · intro h
      obtain ⟨g', h1, rfl⟩ := List.mem_map.mp h
      obtain ⟨h1, h2⟩ := List.mem_filter.mp h1
      obtain ⟨i, j, rfl, hi, hj⟩ := goesN_mem h1
      have a1 := mv_at (places := places) hi
      have a2 := mv_at (places := places) hj
      refine List.mem_filter.mpr ⟨goes_mem (i := mv places ps i) (j := mv places ps j) (by rw [hl]; exact a1.1) (by rw [hl]; exact a2.1), ?_⟩
      show lmay (patAt (othersOf places ps) (mv places ps i)) (patAt (othersOf places ps) (mv places ps j)) (underR places roads) = true
      rw [a1.2, a2.2, lmay_under hb (hp _ (patAt_mem hi)) (hp _ (patAt_mem hj)) hr]
      exact h2
end Lk35

namespace Lk35
open PySem PySem.Spec PyProof.Rows L2 Pv
def faultyI : Pat → List Int
  | [a, b] => isort ltI (a ++ b)
  | _ => []
theorem faulty_I (p : Pat) : faulty p = faultyI p := by
  match p with
  | [] => rfl
  | [_] => rfl
  | [a, b] => exact srt_isort ltI_lin _
  | _ :: _ :: _ :: _ => rfl
def mayGoI (pa pb : Pat) (roads : List (List Int)) : Bool := if pa = nob ∨ pb = nob then true else ((faultyI pb).filter fun m => !decide (m ∈ reach (faultyI pa) roads)).isEmpty
theorem mayGo_I (pa pb : Pat) (roads : List (List Int)) : mayGo pa pb roads = mayGoI pa pb roads := by
  unfold mayGo mayGoI
  rw [faulty_I, faulty_I]
def roadGoesI (ps : List Pat) (roads : List (List Int)) : List (List Int) := (en 0 ps).flatMap fun a => ((en 0 ps).filter fun b => mayGoI a.2 b.2 roads).map fun b => [(a.1 : Int), (b.1 : Int)]
theorem roadGoes_I (ps : List Pat) (roads : List (List Int)) : roadGoes ps roads = roadGoesI ps roads := by
  unfold roadGoes roadGoesI
  refine congrArg List.flatten (List.map_congr_left fun a _ => ?_)
  unfold goesFrom
  simp only [mayGo_I]
def thereN (n : Int) : List (List Int) := (rg 0 n).map fun i => [i, (i + 1) % n]
def backR (r : List Int) : List Int := [r1 r, r0 r]
def bothN (n : Int) : List (List Int) := thereN n ++ (thereN n).map backR
def bothI (n : Int) : List (List Int) := isort lt1 (nub (bothN n))
def codePw : List (List Int) → Bool
  | [] => true
  | x :: xs => xs.all (fun y => decide (TS.code 64 x ≤ TS.code 64 y)) && codePw xs
theorem codePw_ok : ∀ {xs : List (List Int)}, codePw xs = true → xs.Pairwise fun a b => TS.code 64 a ≤ TS.code 64 b
  | [], _ => .nil
  | x :: xs, h => by
    unfold codePw at h
    rw [Bool.and_eq_true, List.all_eq_true] at h
    exact .cons (fun y hy => by simpa using h.1 y hy) (codePw_ok h.2)
theorem fin_both : ∀ n ∈ ([2, 3, 4, 5, 6] : List Int), pairOk (bothN n) = true ∧ (bothI n).Nodup ∧ ((bothI n).all (fun a => (bothN n).contains a) && (bothN n).all (fun a => (bothI n).contains a)) = true ∧ codePw (bothI n) = true := by decide +kernel
theorem both_eq {n : Int} (h : 2 ≤ n ∧ n ≤ 6) : pairOk (bothN n) = true ∧ ssetI (bothN n) = bothI n := by
  obtain ⟨h1, h2, h3, h4⟩ := fin_both n (by simp; omega)
  rw [Bool.and_eq_true, List.all_eq_true, List.all_eq_true] at h3
  refine ⟨h1, (sset_eq h1 h2 (fun a => ⟨fun ha => ?_, fun ha => ?_⟩) (codePw_ok h4)).symm⟩
  · simpa using h3.1 a ha
  · simpa using h3.2 a ha
def roundOk (n s l : Int) : Bool := decide (((pI n s l).length : Int) = n + 1) && decide (((roadGoesI (pI n s l) (thereN n)).length : Int) = 4 * n + 1) && decide (((roadGoesI (pI n s l) (bothI n)).length : Int) = if n > 2 then 5 * n + 1 else 9) && decide (((roadGoesI (pI n s l) []).length : Int) = 3 * n + 1) && (bothI n).all (fun r => r.length == 2) && decide ((bothI n).length ≤ 100)
theorem fin_round : ∀ n ∈ ([2, 3, 4, 5, 6] : List Int), roundOk n 1 0 = true ∧ roundOk n 0 1 = true := by decide +kernel
theorem fin_last : pI 6 0 0 = [nob] ∧ (pI 6 1 1).length = 43 ∧ faultyI [[3], [0, 5]] = [0, 3, 5] ∧ goesN 1 = [[0, 0]] := by decide +kernel
end Lk35

namespace Lk35
open PySem PySem.Spec PyProof.Rows L2 Pv
/-! ## the weight of what is told -/
theorem wt_ints : ∀ l : List Int, wtL (l.map D.int) = l.length
  | [] => rfl
  | x :: l => by rw [List.map_cons, wtL, wt_ints l, List.length_cons]; simp [wt]; omega
theorem wt_tupI (l : List Int) : wt (tupI l) = 1 + l.length := by
  show 1 + wtL _ = _; rw [wt_ints]
theorem wt_tP {c : Nat} : ∀ p : List (List Int), (∀ l ∈ p, l.length ≤ c) → wtL (p.map tupI) ≤ p.length * (1 + c)
  | [], _ => by simp [wtL]
  | l :: p, h => by
    have h1 := wt_tP p fun x hx => h x (List.mem_cons_of_mem _ hx)
    have h2 := h l List.mem_cons_self
    have h3 := wt_tupI l
    rw [List.map_cons, wtL, List.length_cons, Nat.succ_mul]; omega
theorem wt_tPP {c : Nat} : ∀ ps : List Pat, (∀ p ∈ ps, p.length = 2 ∧ ∀ l ∈ p, l.length ≤ c) → wtL (ps.map tP) ≤ ps.length * (3 + 2 * c)
  | [], _ => by simp [wtL]
  | p :: ps, h => by
    have h1 := wt_tPP ps fun x hx => h x (List.mem_cons_of_mem _ hx)
    obtain ⟨h2, h3⟩ := h p List.mem_cons_self
    have h4 := wt_tP p h3
    have h5 : wt (tP p) = 1 + wtL (p.map tupI) := rfl
    rw [h2] at h4
    rw [List.map_cons, wtL, List.length_cons, Nat.succ_mul]; omega
def Ok (d : D) : Prop := Pl d ∧ wt d < 99999
def Good (ps : List D) (n : Nat) : Prop := Prs ps ∧ ps.length ≤ n
theorem Good.app {ps : List D} {n : Nat} {d : D} (h : Good ps n) (hd : Ok d) : Good (ps ++ [pr d]) (n + 1) :=
  ⟨fun x hx => (List.mem_append.mp hx).elim (h.1 x) fun z => ⟨d, List.mem_singleton.mp z, hd.1, hd.2⟩, by have := h.2; simp; omega⟩
theorem Good.many {ps : List D} {n : Nat} (h : Good ps n) : ∀ (ds : List D), (∀ d ∈ ds, Ok d) → Good (ps ++ ds.map pr) (n + ds.length)
  | [], _ => by simpa using h
  | d :: ds, hd => by
    have h1 := (h.app (hd d List.mem_cons_self)).many ds fun x hx => hd x (List.mem_cons_of_mem _ hx)
    rw [List.map_cons, List.length_cons, show n + (ds.length + 1) = n + 1 + ds.length by omega]
    simpa using h1
theorem Good.mono {ps : List D} {n m : Nat} (h : Good ps n) (hm : n ≤ m) : Good ps m := ⟨h.1, Nat.le_trans h.2 hm⟩
theorem Good.lt {ps : List D} {n : Nat} (h : Good ps n) (hn : n ≤ 100000) : ps.length < lim := by have := h.2; unfold lim; omega
theorem ok_int (i : Int) : Ok (.int i) := ⟨.int i, by simp [wt]⟩
theorem ok_tupI {l : List Int} (h : l.length ≤ 1000) : Ok (tupI l) := ⟨enc1.pl l, by rw [wt_tupI]; omega⟩
theorem ok_tP {p : List (List Int)} (h : p.length ≤ 1000) (h2 : ∀ l ∈ p, l.length ≤ 20) : Ok (tP p) := ⟨enc2.pl p, by
  have h1 : wt (tP p) = 1 + wtL (p.map tupI) := rfl
  have := wt_tP p h2
  rw [h1]; omega⟩
theorem ok_tPP {ps : List Pat} (h : ps.length ≤ 1000) (h2 : ∀ p ∈ ps, p.length = 2 ∧ ∀ l ∈ p, l.length ≤ 20) : Ok (tPP ps) := ⟨enc2.tup.pl ps, by
  have h1 : wt (tPP ps) = 1 + wtL (ps.map tP) := rfl
  have := wt_tPP ps h2
  rw [h1]; omega⟩
/-! ## patterns are short -/
theorem allLots_short {m c : Int} (hm : 1 ≤ m ∧ m ≤ 6) (hc : 0 ≤ c) {q : List Int} (h : q ∈ allLots m c) : LotOk m q ∧ q.length ≤ 6 := by
  have := (srt_perm lt1 _).mem_iff.mp h
  have h2 := (lotsN_ok hm (min c (m - 1)).toNat (by omega)).1 q this
  exact ⟨h2.1, by have := h2.2; omega⟩
structure PatS (m : Int) (p : Pat) : Prop where
  two : ∃ a b : List Int, p = [a, b] ∧ (LotOk m a ∧ a.length ≤ 6) ∧ (LotOk m b ∧ b.length ≤ 6)
theorem pats_short {m s l : Int} (hm : 1 ≤ m ∧ m ≤ 6) (hs : 0 ≤ s) (hl : 0 ≤ l) {p : Pat} (h : p ∈ allPats m s l) : PatS m p := by
  have := (srt_perm lt2 _).mem_iff.mp h
  obtain ⟨q, hq, h1⟩ := List.mem_flatMap.mp this
  obtain ⟨r, hr, rfl⟩ := List.mem_map.mp h1
  exact ⟨q, r, rfl, allLots_short hm hs hq, allLots_short hm hl (List.mem_filter.mp hr).1⟩
theorem PatS.ok {m : Int} {p : Pat} (h : PatS m p) : PatOk p := by
  obtain ⟨a, b, rfl, ha, hb⟩ := h.two
  exact ⟨a, b, rfl, by omega, by omega⟩
theorem PatS.len {m : Int} {p : Pat} (h : PatS m p) : p.length = 2 ∧ ∀ l ∈ p, l.length ≤ 20 := by
  obtain ⟨a, b, rfl, ha, hb⟩ := h.two
  refine ⟨rfl, fun l hl => ?_⟩
  simp at hl
  rcases hl with rfl | rfl <;> omega
theorem PatS.faulty {m : Int} {p : Pat} (h : PatS m p) : (Lk35.faulty p).length ≤ 12 := by
  obtain ⟨a, b, rfl, ha, hb⟩ := h.two
  show (srt ltI (a ++ b)).length ≤ 12
  rw [srt_len, List.length_append]; omega
/-! ## a comprehension that wipes its own names first -/
theorem ev_fmw {P : Tb} {e : E} {t : Tg} {it : I} {c : Co} {own : List (Str × Nat)} {ρ ρ1 ρw : Pv.Env} {st st1 : Sto} {α : Type} {enc : α → D} (xs : List α) (p : α → Bool) (f : α → D) (ρx : α → Pv.Env) (h1 : evI P it ρ st = some (xs.map enc, ρ1, st1)) (hw : wipeE ρ1 (own.map (·.2)) = ρw) (hl : xs.length ≤ lim)
    (h : ∀ x ∈ xs, evTg P t (enc x) ρw st1 = some (ρx x, st1) ∧ evC P c (ρx x) st1 = some (p x, ρx x, st1) ∧ (p x = true → vv (evE P e (ρx x) st1) = some (f x, ρx x, st1)) ∧ wipeE (ρx x) (own.map (·.2)) = ρw) :
    evE P (.lc e t it c own) ρ st = some (true, .lst ((xs.filter p).map f), ρw, st1) := by
  refine ev_lc h1 ?_
  rw [hw]
  exact lc_fm p f ρx xs [] h (by simpa using hl)
/-! ## the turn's first part -/
theorem many_loop {s0 s5 s6 s7 s9 s12 s13 s14 s15 s16 s17 s18 s19 s20 s21 s22 : Sl} {ps : List D} {t m : Int} (st : Sto) (hm : 0 ≤ m ∧ m ≤ 6) : ∀ (gs : List (List Int)) (acc : Int) (s10 s11 : Sl), (∀ g ∈ gs, ∃ i j : Int, g = [i, j] ∧ (0 ≤ i ∧ i ≤ 6) ∧ (0 ≤ j ∧ j ≤ 6)) → 
    ∃ s10' s11', forL (evTg (T 11) (.tup (.cons (.n 10) (.cons (.n 11) .nil)))) (exSs (T 11) law_b11) (gs.map tupI) [s0, .val (.hd 1), .own ps, .val (.int t), .val (.int m), s5, s6, s7, .val (.int acc), s9, s10, s11, s12, s13, s14, s15, s16, s17, s18, s19, s20, s21, s22, .no, .no, .no, .no, .no] st =
      some (.nx, (fun s10 s11 => [s0, .val (.hd 1), .own ps, .val (.int t), .val (.int m), s5, s6, s7, .val (.int (gs.foldl (stepM m) acc)), s9, s10, s11, s12, s13, s14, s15, s16, s17, s18, s19, s20, s21, s22, .no, .no, .no, .no, .no]) s10' s11', st)
  | [], acc, s10, s11, _ => ⟨s10, s11, rfl⟩
  | g :: gs, acc, s10, s11, h => by
    obtain ⟨i, j, rfl, hi, hj⟩ := h g List.mem_cons_self
    obtain ⟨a, b, ih⟩ := many_loop (s0 := s0) (s5 := s5) (s6 := s6) (s7 := s7) (s9 := s9) (s12 := s12) (s13 := s13) (s14 := s14) (s15 := s15) (s16 := s16) (s17 := s17) (s18 := s18) (s19 := s19) (s20 := s20) (s21 := s21) (s22 := s22) (ps := ps) (t := t) st hm gs (stepM m acc [i, j]) (.val (.int i)) (.val (.int j)) (fun x hx => h x (List.mem_cons_of_mem _ hx))
    refine ⟨a, b, ?_⟩
    have e1 : evTg (T 11) (.tup (.cons (.n 10) (.cons (.n 11) .nil))) (tupI [i, j]) [s0, .val (.hd 1), .own ps, .val (.int t), .val (.int m), s5, s6, s7, .val (.int acc), s9, s10, s11, s12, s13, s14, s15, s16, s17, s18, s19, s20, s21, s22, .no, .no, .no, .no, .no] st = some ([s0, .val (.hd 1), .own ps, .val (.int t), .val (.int m), s5, s6, s7, .val (.int acc), s9, .val (.int i), .val (.int j), s12, s13, s14, s15, s16, s17, s18, s19, s20, s21, s22, .no, .no, .no, .no, .no], st) := by
      simp [exSs, exS, evE, evEs, evT, Pv.evI, evC, evTg, evTgs, evO, vv, up, one, retE, Option.bind_eq_bind, Option.bind_some, Option.map_some, Option.pure_def, List.getElem?_cons_zero, List.getElem?_cons_succ, List.set_cons_zero, List.set_cons_succ, asgN, asgSub, setIx, opD, addD, mulD, biD, cmpD, ixD, ixL, lenD, slotSeq, slotLst, truD, List.length_cons, List.length_nil, if_true, if_false, Bool.false_eq_true, reduceIte, mthHR, mthR, mtD, slD, seqOf, wipeE, Tgs.len, Pv.unpack, Option.map_none, Option.bind_none, augD, revD, List.map_cons, List.map_nil, isiD, ty, List.any_cons, List.any_nil, evTgs, tupI]
    have e2 : exSs (T 11) law_b11 [s0, .val (.hd 1), .own ps, .val (.int t), .val (.int m), s5, s6, s7, .val (.int acc), s9, .val (.int i), .val (.int j), s12, s13, s14, s15, s16, s17, s18, s19, s20, s21, s22, .no, .no, .no, .no, .no] st = some (.nx, [s0, .val (.hd 1), .own ps, .val (.int t), .val (.int m), s5, s6, s7, .val (.int (stepM m acc [i, j])), s9, .val (.int i), .val (.int j), s12, s13, s14, s15, s16, s17, s18, s19, s20, s21, s22, .no, .no, .no, .no, .no], st) := by
      unfold law_b11
      refine sq1 ?_
      by_cases hlt : i + j < m
      · have w1 := ways_run 10 st hm hi
        have w2 := ways_run 10 st (m := m - i) (n := j) (by omega) hj
        have b1 := ways_ok hm i.toNat (by omega)
        have b2 := ways_ok (m := m - i) (by omega) j.toNat (by omega)
        have g1 : Big (waysN m i.toNat) := big_small (by omega)
        have g2 : Big (waysN (m - i) j.toNat) := big_small (by omega)
        simp [exSs, exS, evE, evEs, evT, Pv.evI, evC, evTg, evTgs, evO, vv, up, one, retE, Option.bind_eq_bind, Option.bind_some, Option.map_some, Option.pure_def, List.getElem?_cons_zero, List.getElem?_cons_succ, List.set_cons_zero, List.set_cons_succ, asgN, asgSub, setIx, opD, addD, mulD, biD, cmpD, ixD, ixL, lenD, slotSeq, slotLst, truD, List.length_cons, List.length_nil, if_true, if_false, Bool.false_eq_true, reduceIte, mthHR, mthR, mtD, slD, seqOf, wipeE, Tgs.len, Pv.unpack, Option.map_none, Option.bind_none, augD, revD, List.map_cons, List.map_nil, isiD, ty, List.any_cons, List.any_nil, hlt, w1, w2, g1, g2, stepM, r0, r1]
      · simp [exSs, exS, evE, evEs, evT, Pv.evI, evC, evTg, evTgs, evO, vv, up, one, retE, Option.bind_eq_bind, Option.bind_some, Option.map_some, Option.pure_def, List.getElem?_cons_zero, List.getElem?_cons_succ, List.set_cons_zero, List.set_cons_succ, asgN, asgSub, setIx, opD, addD, mulD, biD, cmpD, ixD, ixL, lenD, slotSeq, slotLst, truD, List.length_cons, List.length_nil, if_true, if_false, Bool.false_eq_true, reduceIte, mthHR, mthR, mtD, slD, seqOf, wipeE, Tgs.len, Pv.unpack, Option.map_none, Option.bind_none, augD, revD, List.map_cons, List.map_nil, isiD, ty, List.any_cons, List.any_nil, hlt, stepM, r0, r1]
    simp only [List.map_cons, forL, e1, e2, Option.bind_eq_bind, Option.bind_some, ih, List.foldl_cons]
end Lk35

namespace Lk35
open PySem PySem.Spec PyProof.Rows L2 Pv
theorem any11 {b : Int} {st : Sto} (h0 : 0 < b) (hb : b < 1000000) (hd : Deal st) : ∃ r st', Fc 11 "_law_any" [.hd 1, .int b] st = some (false, .int r, st') ∧ 0 ≤ r ∧ r < b ∧ Deal st' := anyOk 10 b st h0 (by omega) hd
theorem mix11 {α : Type} (enc : α → D) (xs : List α) {st : Sto} (hx : xs.length < 1000000) (hd : Deal st) : ∃ (ys : List α) (st' : Sto), Fc 11 "_law_mixed" [.hd 1, .lst (xs.map enc)] st = some (true, .lst (ys.map enc), st') ∧ ys.Perm xs ∧ Deal st' := mixOk 9 α enc xs st hx hd
section
variable {s0 s4 s5 s6 s7 s8 s9 s10 s11 s12 s13 s14 s15 s16 s17 s18 s19 s20 s21 s22 : Sl} {ps : List D} {t m s l : Int}
theorem st_draw {st : Sto} (hd : Deal st) : ∃ (a b c : Int) (st' : Sto), exS (T 11) (.par3 4 5 6 (.op .Add (.k (.int 1)) (.call "_law_any" (.cons (.v 1) (.cons (.k (.int 5)) .nil)))) (.call "_law_any" (.cons (.v 1) (.cons (.k (.int 4)) .nil))) (.call "_law_any" (.cons (.v 1) (.cons (.k (.int 4)) .nil)))) [s0, .val (.hd 1), .own ps, .val (.int t), s4, s5, s6, s7, s8, s9, s10, s11, s12, s13, s14, s15, s16, s17, s18, s19, s20, s21, s22, .no, .no, .no, .no, .no] st =
    some (.nx, [s0, .val (.hd 1), .own ps, .val (.int t), .val (.int (1 + a)), .val (.int b), .val (.int c), s7, s8, s9, s10, s11, s12, s13, s14, s15, s16, s17, s18, s19, s20, s21, s22, .no, .no, .no, .no, .no], st') ∧ (0 ≤ a ∧ a < 5) ∧ (0 ≤ b ∧ b < 4) ∧ (0 ≤ c ∧ c < 4) ∧ Deal st' := by
  obtain ⟨a, st1, e1, a0, a1, d1⟩ := any11 (b := 5) (by decide) (by decide) hd
  obtain ⟨b, st2, e2, b0, b1, d2⟩ := any11 (b := 4) (by decide) (by decide) d1
  obtain ⟨c, st3, e3, c0, c1, d3⟩ := any11 (b := 4) (by decide) (by decide) d2
  exact ⟨a, b, c, st3, by simp [exSs, exS, evE, evEs, evT, Pv.evI, evC, evTg, evTgs, evO, vv, up, one, retE, Option.bind_eq_bind, Option.bind_some, Option.map_some, Option.pure_def, List.getElem?_cons_zero, List.getElem?_cons_succ, List.set_cons_zero, List.set_cons_succ, asgN, asgSub, setIx, opD, addD, mulD, biD, cmpD, ixD, ixL, lenD, slotSeq, slotLst, truD, List.length_cons, List.length_nil, if_true, if_false, Bool.false_eq_true, reduceIte, mthHR, mthR, mtD, slD, seqOf, wipeE, Tgs.len, Pv.unpack, Option.map_none, Option.bind_none, augD, revD, List.map_cons, List.map_nil, isiD, ty, List.any_cons, List.any_nil, e1, e2, e3], ⟨a0, a1⟩, ⟨b0, b1⟩, ⟨c0, c1⟩, d3⟩
theorem st_due (st : Sto) (hm : 1 ≤ m ∧ m ≤ 5) (hs : 0 ≤ s ∧ s ≤ 3) (hl : 0 ≤ l ∧ l ≤ 3) : exS (T 11) (.par2 7 8 (.call "_law_all_patterns" (.cons (.v 4) (.cons (.v 5) (.cons (.v 6) .nil)))) (.k (.int 0))) [s0, .val (.hd 1), .own ps, .val (.int t), .val (.int m), .val (.int s), .val (.int l), s7, s8, s9, s10, s11, s12, s13, s14, s15, s16, s17, s18, s19, s20, s21, s22, .no, .no, .no, .no, .no] st =
    some (.nx, [s0, .val (.hd 1), .own ps, .val (.int t), .val (.int m), .val (.int s), .val (.int l), .val (tPP (allPats m s l)), .val (.int 0), s9, s10, s11, s12, s13, s14, s15, s16, s17, s18, s19, s20, s21, s22, .no, .no, .no, .no, .no], st) := by
  have e := lpats_run 9 st (m := m) (s := s) (l := l) (by omega)
  rw [(fin_of hm hs hl).1] at e
  simp [exSs, exS, evE, evEs, evT, Pv.evI, evC, evTg, evTgs, evO, vv, up, one, retE, Option.bind_eq_bind, Option.bind_some, Option.map_some, Option.pure_def, List.getElem?_cons_zero, List.getElem?_cons_succ, List.set_cons_zero, List.set_cons_succ, asgN, asgSub, setIx, opD, addD, mulD, biD, cmpD, ixD, ixL, lenD, slotSeq, slotLst, truD, List.length_cons, List.length_nil, if_true, if_false, Bool.false_eq_true, reduceIte, mthHR, mthR, mtD, slD, seqOf, wipeE, Tgs.len, Pv.unpack, Option.map_none, Option.bind_none, augD, revD, List.map_cons, List.map_nil, isiD, ty, List.any_cons, List.any_nil, e]
theorem st_told (st : Sto) (hm : 1 ≤ m ∧ m ≤ 5) (hs : 0 ≤ s ∧ s ≤ 3) (hl : 0 ≤ l ∧ l ≤ 3) : exS (T 11) (.asg 9 (.ite (.e (.cmp .Gt (.v 3) (.k (.int 0)))) (.call "all_patterns" (.cons (.v 4) (.cons (.v 5) (.cons (.v 6) .nil)))) (.callk "all_patterns" .nil ["liars", "silent", "machines"] (.cons (.v 6) (.cons (.v 5) (.cons (.v 4) .nil))) [2, 1, 0]))) [s0, .val (.hd 1), .own ps, .val (.int t), .val (.int m), .val (.int s), .val (.int l), s7, s8, s9, s10, s11, s12, s13, s14, s15, s16, s17, s18, s19, s20, s21, s22, .no, .no, .no, .no, .no] st =
    some (.nx, [s0, .val (.hd 1), .own ps, .val (.int t), .val (.int m), .val (.int s), .val (.int l), s7, s8, .val (tPP (allPats m s l)), s10, s11, s12, s13, s14, s15, s16, s17, s18, s19, s20, s21, s22, .no, .no, .no, .no, .no], st) := by
  have e := pats_run 9 st (m := m) (s := s) (l := l) (by omega) (by omega) (by omega)
  by_cases h : 0 < t <;> simp [exSs, exS, evE, evEs, evT, Pv.evI, evC, evTg, evTgs, evO, vv, up, one, retE, Option.bind_eq_bind, Option.bind_some, Option.map_some, Option.pure_def, List.getElem?_cons_zero, List.getElem?_cons_succ, List.set_cons_zero, List.set_cons_succ, asgN, asgSub, setIx, opD, addD, mulD, biD, cmpD, ixD, ixL, lenD, slotSeq, slotLst, truD, List.length_cons, List.length_nil, if_true, if_false, Bool.false_eq_true, reduceIte, mthHR, mthR, mtD, slD, seqOf, wipeE, Tgs.len, Pv.unpack, Option.map_none, Option.bind_none, augD, revD, List.map_cons, List.map_nil, isiD, ty, List.any_cons, List.any_nil, e, h]
theorem st_many (st : Sto) (hm : 1 ≤ m ∧ m ≤ 5) (hs : 0 ≤ s ∧ s ≤ 3) (hl : 0 ≤ l ∧ l ≤ 3) : ∃ s10' s11', exS (T 11) (.for_ (.tup (.cons (.n 10) (.cons (.n 11) .nil))) (.val (.call "_law_pairs" (.cons (.lrng (.cons (.op .Add (.v 5) (.k (.int 1))) .nil)) (.cons (.lrng (.cons (.op .Add (.v 6) (.k (.int 1))) .nil)) .nil)))) law_b11) [s0, .val (.hd 1), .own ps, .val (.int t), .val (.int m), .val (.int s), .val (.int l), s7, .val (.int 0), s9, s10, s11, s12, s13, s14, s15, s16, s17, s18, s19, s20, s21, s22, .no, .no, .no, .no, .no] st =
    some (.nx, (fun s10 s11 => [s0, .val (.hd 1), .own ps, .val (.int t), .val (.int m), .val (.int s), .val (.int l), s7, .val (.int (manyOf m s l)), s9, s10, s11, s12, s13, s14, s15, s16, s17, s18, s19, s20, s21, s22, .no, .no, .no, .no, .no]) s10' s11', st) := by
  have z : ∀ n : Int, 0 ≤ n ∧ n ≤ 3 → rngD [.int (n + 1)] = some ((upto (n + 1).toNat).map D.int) := fun n hn => by
    rw [rngD1 (n := n + 1) (by omega) (by omega)]
    have := rng_upto (n := (n + 1).toNat)
    rw [show (((n + 1).toNat : Nat) : Int) = n + 1 by omega] at this
    rw [this]
  have e := lpairs_run 10 st (enc := D.int) (upto (s + 1).toNat) (upto (l + 1).toNat) (by
    rw [upto_len, upto_len]
    have : (s + 1).toNat * (l + 1).toNat ≤ 4 * 4 := Nat.mul_le_mul (by omega) (by omega)
    unfold lim; omega) (by rw [upto_len]; unfold lim; omega)
  obtain ⟨a, b, lp⟩ := many_loop (s0 := s0) (s5 := .val (.int s)) (s6 := .val (.int l)) (s7 := s7) (s9 := s9) (s12 := s12) (s13 := s13) (s14 := s14) (s15 := s15) (s16 := s16) (s17 := s17) (s18 := s18) (s19 := s19) (s20 := s20) (s21 := s21) (s22 := s22) (ps := ps) (t := t) st (m := m) (by omega) (pairsL (upto (s + 1).toNat) (upto (l + 1).toNat)) 0 s10 s11 (fun g hg => by
    obtain ⟨x, hx, h⟩ := List.mem_flatMap.mp hg
    obtain ⟨y, hy, rfl⟩ := List.mem_map.mp h
    have h1 := upto_mem hx
    have h2 := upto_mem hy
    exact ⟨x, y, rfl, by omega, by omega⟩)
  refine ⟨a, b, ex_for (xs := (pairsL (upto (s + 1).toNat) (upto (l + 1).toNat)).map tupI) (ρ1 := [s0, .val (.hd 1), .own ps, .val (.int t), .val (.int m), .val (.int s), .val (.int l), s7, .val (.int 0), s9, s10, s11, s12, s13, s14, s15, s16, s17, s18, s19, s20, s21, s22, .no, .no, .no, .no, .no]) (st1 := st) ?_ lp⟩
  have l1 : (s + 1).toNat ≤ lim := by unfold lim; omega
  have l2 : (l + 1).toNat ≤ lim := by unfold lim; omega
  simp [exSs, exS, evE, evEs, evT, Pv.evI, evC, evTg, evTgs, evO, vv, up, one, retE, Option.bind_eq_bind, Option.bind_some, Option.map_some, Option.pure_def, List.getElem?_cons_zero, List.getElem?_cons_succ, List.set_cons_zero, List.set_cons_succ, asgN, asgSub, setIx, opD, addD, mulD, biD, cmpD, ixD, ixL, lenD, slotSeq, slotLst, truD, List.length_cons, List.length_nil, if_true, if_false, Bool.false_eq_true, reduceIte, mthHR, mthR, mtD, slD, seqOf, wipeE, Tgs.len, Pv.unpack, Option.map_none, Option.bind_none, augD, revD, List.map_cons, List.map_nil, isiD, ty, List.any_cons, List.any_nil, z s hs, z l hl, upto_len, l1, l2, e]
  exact fun _ _ => rfl
theorem st_pair (st : Sto) {n : Nat} (hg : Good ps n) (hn : n ≤ 10000) (P : List Pat) {c : Int} (hc : ((P.length : Nat) : Int) = c) : exS (T 11) (.asg 2 (.op .Add (.v 2) (.lst (.cons (.tup (.cons (.v 9) (.cons (.v 7) .nil))) (.cons (.tup (.cons (.lenv 9) (.cons (.v 8) .nil))) .nil))))) [s0, .val (.hd 1), .own ps, .val (.int t), .val (.int m), s5, s6, .val (tPP P), .val (.int c), .val (tPP P), s10, s11, s12, s13, s14, s15, s16, s17, s18, s19, s20, s21, s22, .no, .no, .no, .no, .no] st =
    some (.nx, [s0, .val (.hd 1), .own (ps ++ [pr (tPP P)] ++ [pr (.int c)]), .val (.int t), .val (.int m), s5, s6, .val (tPP P), .val (.int c), .val (tPP P), s10, s11, s12, s13, s14, s15, s16, s17, s18, s19, s20, s21, s22, .no, .no, .no, .no, .no], st) := by
  subst hc
  have h1 : ps.length + 2 ≤ lim := by have := hg.2; unfold lim; omega
  have h2 : slotSeq st (.val (tPP P)) = some (P.map tP) := rfl
  simp [evE, evEs, exS, vv, up, asgN, opD, addD, h2, h1, pr, show (2 : Nat) ≤ lim by decide]
theorem take7 (xs : List D) : Pv.cutD xs none (some 7) = xs.take 7 := by
  unfold Pv.cutD
  rw [HT.sIx_none, show HT.sIx xs.length xs.length (some 7) = min 7 xs.length from HT.sIx_nat _ _ 7, List.drop_zero, Nat.sub_zero]
  by_cases h : xs.length ≤ 7
  · rw [Nat.min_eq_right h, List.take_length, List.take_of_length_le h]
  · rw [Nat.min_eq_left (by omega)]
theorem st_some {st : Sto} (hd : Deal st) (P : List Pat) (hP : P.length ≤ 500) (hn : P.Nodup) : ∃ (S : List Pat) (st' : Sto), exS (T 11) (.asg 12 (.bi .tuple (.cons (.bi .sorted (.cons (.sl (.call "_law_mixed" (.cons (.v 1) (.cons (.bi .list (.cons (.v 7) .nil)) .nil))) .no (.so (.k (.int 7)))) .nil)) .nil))) [s0, .val (.hd 1), .own ps, .val (.int t), s4, s5, s6, .val (tPP P), s8, s9, s10, s11, s12, s13, s14, s15, s16, s17, s18, s19, s20, s21, s22, .no, .no, .no, .no, .no] st =
    some (.nx, [s0, .val (.hd 1), .own ps, .val (.int t), s4, s5, s6, .val (tPP P), s8, s9, s10, s11, .val (tPP S), s13, s14, s15, s16, s17, s18, s19, s20, s21, s22, .no, .no, .no, .no, .no], st') ∧ S.Nodup ∧ S.length ≤ 7 ∧ (∀ p ∈ S, p ∈ P) ∧ Deal st' := by
  obtain ⟨ys, st1, e, hp, d1⟩ := mix11 tP P (by omega) hd
  have hl : (srt lt2 (ys.take 7)).length ≤ 7 := by rw [srt_len, List.length_take]; omega
  refine ⟨srt lt2 (ys.take 7), st1, ?_, (srt_perm _ _).nodup_iff.mpr ((hp.nodup_iff.mpr hn).sublist (List.take_sublist _ _)), hl, fun p h => hp.mem_iff.mp (List.mem_of_mem_take ((srt_perm _ _).mem_iff.mp h)), d1⟩
  have o := enc2.ord (by decide) (ys.take 7)
  have so := enc2.sort (ys.take 7)
  have tk : Pv.cutD (ys.map tP) none (some 7) = (ys.map tP).take 7 := take7 _
  rw [List.map_take] at o so
  have i1 : biD st .list [tPP P] = some (true, .lst (P.map tP)) := rfl
  have fin : ∀ xs : List Pat, tPP xs = .tup (xs.map tP) := fun _ => rfl
  rw [fin (srt lt2 (ys.take 7))]
  have arg : evE (T 11) (.call "_law_mixed" (.cons (.v 1) (.cons (.bi .list (.cons (.v 7) .nil)) .nil))) [s0, .val (.hd 1), .own ps, .val (.int t), s4, s5, s6, .val (tPP P), s8, s9, s10, s11, s12, s13, s14, s15, s16, s17, s18, s19, s20, s21, s22, .no, .no, .no, .no, .no] st = some (true, .lst (ys.map tP), [s0, .val (.hd 1), .own ps, .val (.int t), s4, s5, s6, .val (tPP P), s8, s9, s10, s11, s12, s13, s14, s15, s16, s17, s18, s19, s20, s21, s22, .no, .no, .no, .no, .no], st1) := by
    simp [evE, evEs, vv, up, i1, e]
  generalize E.call _ _ = AR at arg ⊢
  simp [exSs, exS, evE, evEs, evT, Pv.evI, evC, evTg, evTgs, evO, vv, up, one, retE, Option.bind_eq_bind, Option.bind_some, Option.map_some, Option.pure_def, List.getElem?_cons_zero, List.getElem?_cons_succ, List.set_cons_zero, List.set_cons_succ, asgN, asgSub, setIx, opD, addD, mulD, biD, cmpD, ixD, ixL, lenD, slotSeq, slotLst, truD, List.length_cons, List.length_nil, if_true, if_false, Bool.false_eq_true, reduceIte, mthHR, mthR, mtD, slD, seqOf, wipeE, Tgs.len, Pv.unpack, Option.map_none, Option.bind_none, augD, revD, List.map_cons, List.map_nil, isiD, ty, List.any_cons, List.any_nil, arg, tk, o, so]
end
end Lk35

namespace Lk35
open PySem PySem.Spec PyProof.Rows L2 Pv
theorem lc_gen {asg : D → Pv.Env → Sto → Option (Pv.Env × Sto)} {c : Pv.Env → Sto → Option (Bool × Pv.Env × Sto)} {e : Pv.Env → Sto → Option (D × Pv.Env × Sto)} {vs : List Nat} (hc : ∀ ρ st, c ρ st = some (true, ρ, st)) {α : Type} {enc : α → D} (f : α → D) (J : Pv.Env → Prop) {st : Sto} : ∀ (xs : List α) (acc : List D) (ρ : Pv.Env), J ρ →
    (∀ x ∈ xs, ∀ ρ, J ρ → ∃ ρ1, asg (enc x) ρ st = some (ρ1, st) ∧ ∃ ρ2, e ρ1 st = some (f x, ρ2, st) ∧ J (wipeE ρ2 vs)) → acc.length + xs.length ≤ lim → ∃ ρ', lcL asg c e vs (xs.map enc) acc ρ st = some (acc ++ xs.map f, ρ', st) ∧ J ρ'
  | [], acc, ρ, h, _, _ => ⟨ρ, by simp [lcL], h⟩
  | x :: xs, acc, ρ, h, hs, hl => by
    rw [List.length_cons] at hl
    obtain ⟨ρ1, e1, ρ2, e2, h2⟩ := hs x List.mem_cons_self ρ h
    obtain ⟨ρ', e3, h3⟩ := lc_gen hc f J (asg := asg) (e := e) (vs := vs) (st := st) xs (acc ++ [f x]) _ h2 (fun y hy => hs y (List.mem_cons_of_mem _ hy)) (by rw [List.length_append, List.length_singleton]; omega)
    refine ⟨ρ', ?_, h3⟩
    have hlt : acc.length < lim := by omega
    simp only [List.map_cons, lcL, e1, e2, hc, Option.bind_eq_bind, Option.bind_some, if_true, hlt, e3]
    simp
section
variable {s0 s4 s5 s6 s7 s8 s9 s10 s11 s12 s13 s14 s15 s16 s17 s18 s19 s20 s21 s22 : Sl} {ps : List D} {t : Int} {m : Nat}
theorem goes11 (st : Sto) {S : List Pat} (h : S.length ≤ 7) : Fc 11 "all_goes" [tPP S] st = some (false, tP (goesN S.length), st) := by
  have := goes_run 10 st (S.map tP) (by rw [List.length_map]; omega)
  rw [List.length_map] at this
  exact this
theorem st_faulty (st : Sto) {n : Nat} (hg : Good ps n) (hn : n ≤ 10000) {S : List Pat} (hS : ∀ p ∈ S, PatOk p) (hl : S.length ≤ 7) : exS (T 11) (.asg 2 (.op .Add (.v 2) (.lc law_e10 (.n 23) (.val (.v 12)) .no [("pattern", 23)]))) [s0, .val (.hd 1), .own ps, .val (.int t), s4, s5, s6, s7, s8, s9, s10, s11, .val (tPP S), s13, s14, s15, s16, s17, s18, s19, s20, s21, s22, .no, .no, .no, .no, .no] st =
    some (.nx, [s0, .val (.hd 1), .own (ps ++ (S.map fun p => tupI (faulty p)).map pr), .val (.int t), s4, s5, s6, s7, s8, s9, s10, s11, .val (tPP S), s13, s14, s15, s16, s17, s18, s19, s20, s21, s22, .no, .no, .no, .no, .no], st) := by
  have l1 : evE (T 11) (.lc law_e10 (.n 23) (.val (.v 12)) .no [("pattern", 23)]) [s0, .val (.hd 1), .val (.lst ps), .val (.int t), s4, s5, s6, s7, s8, s9, s10, s11, .val (tPP S), s13, s14, s15, s16, s17, s18, s19, s20, s21, s22, .no, .no, .no, .no, .no] st = some (true, .lst ((S.filter fun _ => true).map fun p => pr (tupI (faulty p))), [s0, .val (.hd 1), .val (.lst ps), .val (.int t), s4, s5, s6, s7, s8, s9, s10, s11, .val (tPP S), s13, s14, s15, s16, s17, s18, s19, s20, s21, s22, .no, .no, .no, .no, .no], st) := by
    refine ev_fm (enc := tP) S (fun _ => true) (fun p => pr (tupI (faulty p))) (fun p => [s0, .val (.hd 1), .val (.lst ps), .val (.int t), s4, s5, s6, s7, s8, s9, s10, s11, .val (tPP S), s13, s14, s15, s16, s17, s18, s19, s20, s21, s22, .val (tP p), .no, .no, .no, .no]) (by simp [exSs, exS, evE, evEs, evT, Pv.evI, evC, evTg, evTgs, evO, vv, up, one, retE, Option.bind_eq_bind, Option.bind_some, Option.map_some, Option.pure_def, List.getElem?_cons_zero, List.getElem?_cons_succ, List.set_cons_zero, List.set_cons_succ, asgN, asgSub, setIx, opD, addD, mulD, biD, cmpD, ixD, ixL, lenD, slotSeq, slotLst, truD, List.length_cons, List.length_nil, if_true, if_false, Bool.false_eq_true, reduceIte, mthHR, mthR, mtD, slD, seqOf, wipeE, Tgs.len, Pv.unpack, Option.map_none, Option.bind_none, augD, revD, List.map_cons, List.map_nil, isiD, ty, List.any_cons, List.any_nil, tupE]) (by simp [exSs, exS, evE, evEs, evT, Pv.evI, evC, evTg, evTgs, evO, vv, up, one, retE, Option.bind_eq_bind, Option.bind_some, Option.map_some, Option.pure_def, List.getElem?_cons_zero, List.getElem?_cons_succ, List.set_cons_zero, List.set_cons_succ, asgN, asgSub, setIx, opD, addD, mulD, biD, cmpD, ixD, ixL, lenD, slotSeq, slotLst, truD, List.length_cons, List.length_nil, if_true, if_false, Bool.false_eq_true, reduceIte, mthHR, mthR, mtD, slD, seqOf, wipeE, Tgs.len, Pv.unpack, Option.map_none, Option.bind_none, augD, revD, List.map_cons, List.map_nil, isiD, ty, List.any_cons, List.any_nil]) (by unfold lim; omega) fun p hp => ?_
    have e1 := faulty_run 10 st (hS p hp)
    have e2 := lfaulty_run 10 st (hS p hp)
    have s60 : ∀ i : Int, sh 60 (.int i) = true := fun _ => rfl
    refine ⟨by simp [exSs, exS, evE, evEs, evT, Pv.evI, evC, evTg, evTgs, evO, vv, up, one, retE, Option.bind_eq_bind, Option.bind_some, Option.map_some, Option.pure_def, List.getElem?_cons_zero, List.getElem?_cons_succ, List.set_cons_zero, List.set_cons_succ, asgN, asgSub, setIx, opD, addD, mulD, biD, cmpD, ixD, ixL, lenD, slotSeq, slotLst, truD, List.length_cons, List.length_nil, if_true, if_false, Bool.false_eq_true, reduceIte, mthHR, mthR, mtD, slD, seqOf, wipeE, Tgs.len, Pv.unpack, Option.map_none, Option.bind_none, augD, revD, List.map_cons, List.map_nil, isiD, ty, List.any_cons, List.any_nil], by simp [exSs, exS, evE, evEs, evT, Pv.evI, evC, evTg, evTgs, evO, vv, up, one, retE, Option.bind_eq_bind, Option.bind_some, Option.map_some, Option.pure_def, List.getElem?_cons_zero, List.getElem?_cons_succ, List.set_cons_zero, List.set_cons_succ, asgN, asgSub, setIx, opD, addD, mulD, biD, cmpD, ixD, ixL, lenD, slotSeq, slotLst, truD, List.length_cons, List.length_nil, if_true, if_false, Bool.false_eq_true, reduceIte, mthHR, mthR, mtD, slD, seqOf, wipeE, Tgs.len, Pv.unpack, Option.map_none, Option.bind_none, augD, revD, List.map_cons, List.map_nil, isiD, ty, List.any_cons, List.any_nil], fun _ => ?_, by simp [exSs, exS, evE, evEs, evT, Pv.evI, evC, evTg, evTgs, evO, vv, up, one, retE, Option.bind_eq_bind, Option.bind_some, Option.map_some, Option.pure_def, List.getElem?_cons_zero, List.getElem?_cons_succ, List.set_cons_zero, List.set_cons_succ, asgN, asgSub, setIx, opD, addD, mulD, biD, cmpD, ixD, ixL, lenD, slotSeq, slotLst, truD, List.length_cons, List.length_nil, if_true, if_false, Bool.false_eq_true, reduceIte, mthHR, mthR, mtD, slD, seqOf, wipeE, Tgs.len, Pv.unpack, Option.map_none, Option.bind_none, augD, revD, List.map_cons, List.map_nil, isiD, ty, List.any_cons, List.any_nil]⟩
    by_cases h : t = 0
    · subst h; simp [law_e10, exSs, exS, evE, evEs, evT, Pv.evI, evC, evTg, evTgs, evO, vv, up, one, retE, Option.bind_eq_bind, Option.bind_some, Option.map_some, Option.pure_def, List.getElem?_cons_zero, List.getElem?_cons_succ, List.set_cons_zero, List.set_cons_succ, asgN, asgSub, setIx, opD, addD, mulD, biD, cmpD, ixD, ixL, lenD, slotSeq, slotLst, truD, List.length_cons, List.length_nil, if_true, if_false, Bool.false_eq_true, reduceIte, mthHR, mthR, mtD, slD, seqOf, wipeE, Tgs.len, Pv.unpack, Option.map_none, Option.bind_none, augD, revD, List.map_cons, List.map_nil, isiD, ty, List.any_cons, List.any_nil, e1, e2, s60, eqv_int, pr, show (2 : Nat) ≤ lim by decide]
    · simp [law_e10, exSs, exS, evE, evEs, evT, Pv.evI, evC, evTg, evTgs, evO, vv, up, one, retE, Option.bind_eq_bind, Option.bind_some, Option.map_some, Option.pure_def, List.getElem?_cons_zero, List.getElem?_cons_succ, List.set_cons_zero, List.set_cons_succ, asgN, asgSub, setIx, opD, addD, mulD, biD, cmpD, ixD, ixL, lenD, slotSeq, slotLst, truD, List.length_cons, List.length_nil, if_true, if_false, Bool.false_eq_true, reduceIte, mthHR, mthR, mtD, slD, seqOf, wipeE, Tgs.len, Pv.unpack, Option.map_none, Option.bind_none, augD, revD, List.map_cons, List.map_nil, isiD, ty, List.any_cons, List.any_nil, e1, e2, s60, eqv_int, h, pr, show (2 : Nat) ≤ lim by decide]
  rw [filt] at l1
  have hm : (S.map fun p => pr (tupI (faulty p))) = (S.map fun p => tupI (faulty p)).map pr := by rw [List.map_map]; rfl
  rw [hm] at l1
  have hlen : (S.map fun p => tupI (faulty p)).length ≤ 7 := by rw [List.length_map]; exact hl
  generalize (S.map fun p => tupI (faulty p)) = R at *
  have h1 : ps.length + R.length ≤ lim := by have := hg.2; unfold lim; omega
  generalize E.lc law_e10 _ _ _ _ = LC at l1 ⊢
  simp [exSs, exS, evE, evEs, evT, Pv.evI, evC, evTg, evTgs, evO, vv, up, one, retE, Option.bind_eq_bind, Option.bind_some, Option.map_some, Option.pure_def, List.getElem?_cons_zero, List.getElem?_cons_succ, List.set_cons_zero, List.set_cons_succ, asgN, asgSub, setIx, opD, addD, mulD, biD, cmpD, ixD, ixL, lenD, slotSeq, slotLst, truD, List.length_cons, List.length_nil, if_true, if_false, Bool.false_eq_true, reduceIte, mthHR, mthR, mtD, slD, seqOf, wipeE, Tgs.len, Pv.unpack, Option.map_none, Option.bind_none, augD, revD, List.map_cons, List.map_nil, isiD, ty, List.any_cons, List.any_nil, l1, h1]
theorem st_goes (st : Sto) {n : Nat} (hg : Good ps n) (hn : n ≤ 10000) {S : List Pat} (hl : S.length ≤ 7) : exS (T 11) (.ex (.mth .append 2 (.cons (.tup (.cons (.ite (.e (.cmp .Eq (.v 3) (.k (.int 0)))) (.callk "all_goes" .nil ["patterns"] (.cons (.v 12) .nil) [0]) (.call "all_goes" (.cons (.v 12) .nil))) (.cons (.call "_law_all_goes" (.cons (.lenv 12) .nil)) .nil))) .nil))) [s0, .val (.hd 1), .own ps, .val (.int t), s4, s5, s6, s7, s8, s9, s10, s11, .val (tPP S), s13, s14, s15, s16, s17, s18, s19, s20, s21, s22, .no, .no, .no, .no, .no] st =
    some (.nx, [s0, .val (.hd 1), .own (ps ++ [pr (tP (goesN S.length))]), .val (.int t), s4, s5, s6, s7, s8, s9, s10, s11, .val (tPP S), s13, s14, s15, s16, s17, s18, s19, s20, s21, s22, .no, .no, .no, .no, .no], st) := by
  have e1 := goes11 st hl
  have e2 := lgoes_run 9 st S.length (by omega)
  have h2 : slotSeq st (.val (tPP S)) = some (S.map tP) := rfl
  have h1 := hg.lt (by omega)
  have h3 : slotLst st (.own ps) = some ps := rfl
  have s60 : ∀ i : Int, sh 60 (.int i) = true := fun _ => rfl
  by_cases h : t = 0
  · subst h
    simp [exS, evE, evEs, evT, vv, cmpD, truD, s60, eqv_int, e1, e2, h2, h3, mthR, mtD, h1, pr, show (2 : Nat) ≤ lim by decide]
  · simp [exS, evE, evEs, evT, vv, cmpD, truD, s60, eqv_int, h, e1, e2, h2, h3, mthR, mtD, h1, pr, show (2 : Nat) ≤ lim by decide]
theorem st_places {st : Sto} (hd : Deal st) (hm : m ≤ 6) : ∃ (places : List Int) (st' : Sto), exS (T 11) (.asg 13 (.call "_law_mixed" (.cons (.v 1) (.cons (.lrng (.cons (.v 4) .nil)) .nil)))) [s0, .val (.hd 1), .own ps, .val (.int t), .val (.int m), s5, s6, s7, s8, s9, s10, s11, s12, s13, s14, s15, s16, s17, s18, s19, s20, s21, s22, .no, .no, .no, .no, .no] st =
    some (.nx, [s0, .val (.hd 1), .own ps, .val (.int t), .val (.int m), s5, s6, s7, s8, s9, s10, s11, s12, .own (places.map D.int), s14, s15, s16, s17, s18, s19, s20, s21, s22, .no, .no, .no, .no, .no], st') ∧ places.Perm (upto m) ∧ Deal st' := by
  obtain ⟨ys, st1, e, hp, d1⟩ := mix11 D.int (upto m) (by rw [upto_len]; omega) hd
  refine ⟨ys, st1, ?_, hp, d1⟩
  have hl : m ≤ lim := by unfold lim; omega
  simp [exSs, exS, evE, evEs, evT, Pv.evI, evC, evTg, evTgs, evO, vv, up, one, retE, Option.bind_eq_bind, Option.bind_some, Option.map_some, Option.pure_def, List.getElem?_cons_zero, List.getElem?_cons_succ, List.set_cons_zero, List.set_cons_succ, asgN, asgSub, setIx, opD, addD, mulD, biD, cmpD, ixD, ixL, lenD, slotSeq, slotLst, truD, List.length_cons, List.length_nil, if_true, if_false, Bool.false_eq_true, reduceIte, mthHR, mthR, mtD, slD, seqOf, wipeE, Tgs.len, Pv.unpack, Option.map_none, Option.bind_none, augD, revD, List.map_cons, List.map_nil, isiD, ty, List.any_cons, List.any_nil, rngD1 (n := (m : Int)) (by omega) (by omega), rng_upto, upto_len, hl, e]
theorem under11 (st : Sto) {places : List Int} {p : Pat} (hp : PatS places.length p) : Fc 11 "_law_under" [tP p, .lst (places.map D.int)] st = some (false, tP (under places p), st) := by
  refine under_run 10 st (fun l hl => ?_) ?_ _ rfl
  · obtain ⟨a, b, rfl, ha, hb⟩ := hp.two
    simp at hl
    rcases hl with rfl | rfl
    · exact ⟨ha.1.1, by omega⟩
    · exact ⟨hb.1.1, by omega⟩
  · rw [hp.len.1]; decide
theorem st_others (st : Sto) {places : List Int} {S : List Pat} (hS : ∀ p ∈ S, PatS places.length p) (hl : S.length ≤ 7) : ∃ s13', Holds s13' (places.map D.int) ∧ exS (T 11) (.asg 14 (.bi .tuple (.cons (.bi .sorted (.cons (.lc law_e9 (.n 23) (.val (.v 12)) .no [("pattern", 23)]) .nil)) .nil))) [s0, .val (.hd 1), .own ps, .val (.int t), s4, s5, s6, s7, s8, s9, s10, s11, .val (tPP S), .own (places.map D.int), s14, s15, s16, s17, s18, s19, s20, s21, s22, .no, .no, .no, .no, .no] st =
    some (.nx, (fun s13 => [s0, .val (.hd 1), .own ps, .val (.int t), s4, s5, s6, s7, s8, s9, s10, s11, .val (tPP S), s13, .val (tPP (othersOf places S)), s15, s16, s17, s18, s19, s20, s21, s22, .no, .no, .no, .no, .no]) s13', st) := by
  obtain ⟨ρ', e, s13', h13, rfl⟩ := lc_gen (asg := evTg (T 11) (.n 23)) (c := evC (T 11) .no) (e := fun ρ st => vv (evE (T 11) law_e9 ρ st)) (vs := [23]) (enc := tP) (fun ρ st => by simp [exSs, exS, evE, evEs, evT, Pv.evI, evC, evTg, evTgs, evO, vv, up, one, retE, Option.bind_eq_bind, Option.bind_some, Option.map_some, Option.pure_def, List.getElem?_cons_zero, List.getElem?_cons_succ, List.set_cons_zero, List.set_cons_succ, asgN, asgSub, setIx, opD, addD, mulD, biD, cmpD, ixD, ixL, lenD, slotSeq, slotLst, truD, List.length_cons, List.length_nil, if_true, if_false, Bool.false_eq_true, reduceIte, mthHR, mthR, mtD, slD, seqOf, wipeE, Tgs.len, Pv.unpack, Option.map_none, Option.bind_none, augD, revD, List.map_cons, List.map_nil, isiD, ty, List.any_cons, List.any_nil]) (fun p => tP (under places p)) (fun ρ => ∃ s13', Holds s13' (places.map D.int) ∧ ρ = (fun s13 => [s0, .val (.hd 1), .own ps, .val (.int t), s4, s5, s6, s7, s8, s9, s10, s11, .val (tPP S), s13, s14, s15, s16, s17, s18, s19, s20, s21, s22, .no, .no, .no, .no, .no]) s13') (st := st) S [] _ ⟨.own (places.map D.int), .inl rfl, rfl⟩ (fun p hp ρ hj => by
    obtain ⟨s13', h13, rfl⟩ := hj
    have e := under11 st (hS p hp)
    refine ⟨(fun s13 => [s0, .val (.hd 1), .own ps, .val (.int t), s4, s5, s6, s7, s8, s9, s10, s11, .val (tPP S), s13, s14, s15, s16, s17, s18, s19, s20, s21, s22, .val (tP p), .no, .no, .no, .no]) s13', by simp [exSs, exS, evE, evEs, evT, Pv.evI, evC, evTg, evTgs, evO, vv, up, one, retE, Option.bind_eq_bind, Option.bind_some, Option.map_some, Option.pure_def, List.getElem?_cons_zero, List.getElem?_cons_succ, List.set_cons_zero, List.set_cons_succ, asgN, asgSub, setIx, opD, addD, mulD, biD, cmpD, ixD, ixL, lenD, slotSeq, slotLst, truD, List.length_cons, List.length_nil, if_true, if_false, Bool.false_eq_true, reduceIte, mthHR, mthR, mtD, slD, seqOf, wipeE, Tgs.len, Pv.unpack, Option.map_none, Option.bind_none, augD, revD, List.map_cons, List.map_nil, isiD, ty, List.any_cons, List.any_nil], (fun s13 => [s0, .val (.hd 1), .own ps, .val (.int t), s4, s5, s6, s7, s8, s9, s10, s11, .val (tPP S), s13, s14, s15, s16, s17, s18, s19, s20, s21, s22, .val (tP p), .no, .no, .no, .no]) (.val (.lst (places.map D.int))), ?_, .val (.lst (places.map D.int)), .inr rfl, by simp [exSs, exS, evE, evEs, evT, Pv.evI, evC, evTg, evTgs, evO, vv, up, one, retE, Option.bind_eq_bind, Option.bind_some, Option.map_some, Option.pure_def, List.getElem?_cons_zero, List.getElem?_cons_succ, List.set_cons_zero, List.set_cons_succ, asgN, asgSub, setIx, opD, addD, mulD, biD, cmpD, ixD, ixL, lenD, slotSeq, slotLst, truD, List.length_cons, List.length_nil, if_true, if_false, Bool.false_eq_true, reduceIte, mthHR, mthR, mtD, slD, seqOf, wipeE, Tgs.len, Pv.unpack, Option.map_none, Option.bind_none, augD, revD, List.map_cons, List.map_nil, isiD, ty, List.any_cons, List.any_nil]⟩
    rcases h13 with rfl | rfl <;> simp [law_e9, exSs, exS, evE, evEs, evT, Pv.evI, evC, evTg, evTgs, evO, vv, up, one, retE, Option.bind_eq_bind, Option.bind_some, Option.map_some, Option.pure_def, List.getElem?_cons_zero, List.getElem?_cons_succ, List.set_cons_zero, List.set_cons_succ, asgN, asgSub, setIx, opD, addD, mulD, biD, cmpD, ixD, ixL, lenD, slotSeq, slotLst, truD, List.length_cons, List.length_nil, if_true, if_false, Bool.false_eq_true, reduceIte, mthHR, mthR, mtD, slD, seqOf, wipeE, Tgs.len, Pv.unpack, Option.map_none, Option.bind_none, augD, revD, List.map_cons, List.map_nil, isiD, ty, List.any_cons, List.any_nil, e]) (by simp; unfold lim; omega)
  refine ⟨s13', h13, ?_⟩
  have l1 : evE (T 11) (.lc law_e9 (.n 23) (.val (.v 12)) .no [("pattern", 23)]) [s0, .val (.hd 1), .own ps, .val (.int t), s4, s5, s6, s7, s8, s9, s10, s11, .val (tPP S), .own (places.map D.int), s14, s15, s16, s17, s18, s19, s20, s21, s22, .no, .no, .no, .no, .no] st = some (true, .lst (S.map fun p => tP (under places p)), (fun s13 => [s0, .val (.hd 1), .own ps, .val (.int t), s4, s5, s6, s7, s8, s9, s10, s11, .val (tPP S), s13, s14, s15, s16, s17, s18, s19, s20, s21, s22, .no, .no, .no, .no, .no]) s13', st) :=
    ev_lc (xs := S.map tP) (ρ1 := [s0, .val (.hd 1), .own ps, .val (.int t), s4, s5, s6, s7, s8, s9, s10, s11, .val (tPP S), .own (places.map D.int), s14, s15, s16, s17, s18, s19, s20, s21, s22, .no, .no, .no, .no, .no]) (st1 := st) (by simp [exSs, exS, evE, evEs, evT, Pv.evI, evC, evTg, evTgs, evO, vv, up, one, retE, Option.bind_eq_bind, Option.bind_some, Option.map_some, Option.pure_def, List.getElem?_cons_zero, List.getElem?_cons_succ, List.set_cons_zero, List.set_cons_succ, asgN, asgSub, setIx, opD, addD, mulD, biD, cmpD, ixD, ixL, lenD, slotSeq, slotLst, truD, List.length_cons, List.length_nil, if_true, if_false, Bool.false_eq_true, reduceIte, mthHR, mthR, mtD, slD, seqOf, wipeE, Tgs.len, Pv.unpack, Option.map_none, Option.bind_none, augD, revD, List.map_cons, List.map_nil, isiD, ty, List.any_cons, List.any_nil, tupE]) (by simpa [wipeE] using e)
  have hm : (S.map fun p => tP (under places p)) = (S.map (under places)).map tP := by rw [List.map_map]; rfl
  rw [hm] at l1
  have o := enc2.ord (by decide) (S.map (under places))
  have so := enc2.sort (S.map (under places))
  have ho : othersOf places S = srt lt2 (S.map (under places)) := rfl
  rw [ho]
  generalize S.map (under places) = R at *
  generalize E.lc law_e9 _ _ _ _ = LC at l1 ⊢
  have fin : ∀ xs : List Pat, tPP xs = .tup (xs.map tP) := fun _ => rfl
  rw [fin (srt lt2 R)]
  simp [exSs, exS, evE, evEs, evT, Pv.evI, evC, evTg, evTgs, evO, vv, up, one, retE, Option.bind_eq_bind, Option.bind_some, Option.map_some, Option.pure_def, List.getElem?_cons_zero, List.getElem?_cons_succ, List.set_cons_zero, List.set_cons_succ, asgN, asgSub, setIx, opD, addD, mulD, biD, cmpD, ixD, ixL, lenD, slotSeq, slotLst, truD, List.length_cons, List.length_nil, if_true, if_false, Bool.false_eq_true, reduceIte, mthHR, mthR, mtD, slD, seqOf, wipeE, Tgs.len, Pv.unpack, Option.map_none, Option.bind_none, augD, revD, List.map_cons, List.map_nil, isiD, ty, List.any_cons, List.any_nil, l1, o, so]
theorem find_enc (Q : List Pat) (q : Pat) (hq : q ∈ Q) (hl : Q.length ≤ 1000) : smD .index (Q.map tP) (tP q) = some ((Q.findIdx fun x => decide (x = q) : Nat) : Int) := by
  have h1 : (Q.map tP).all (sh 50) = true := by rw [List.all_map, List.all_eq_true]; intro x _; exact enc2.sh x 50 (by decide)
  have h2 : sh 50 (tP q) = true := enc2.sh q 50 (by decide)
  have h3 : Q.length < lim := by unfold lim; omega
  unfold smD
  rw [h1, h2, List.length_map, decide_eq_true h3]
  simp only [Bool.and_self, if_true]
  have h4 : (Q.map tP).findIdx? (fun y => eqv y (tP q)) = some (Q.findIdx fun x => decide (x = q)) := by
    rw [List.findIdx?_map]
    have h5 : ((fun y => eqv y (tP q)) ∘ tP) = fun x => decide (x = q) := by funext x; exact enc2.eq x q
    rw [h5]
    have hlt : Q.findIdx (fun x => decide (x = q)) < Q.length := List.findIdx_lt_length_of_exists ⟨q, hq, by simp⟩
    rw [List.findIdx?_eq_some_iff_getElem]
    refine ⟨hlt, List.findIdx_getElem (w := hlt), fun j hj => ?_⟩
    have := List.not_of_lt_findIdx hj
    simpa using this
  rw [h4]; rfl
theorem st_moved (st : Sto) {places : List Int} (h13 : Holds s13 (places.map D.int)) {S : List Pat} (hS : ∀ p ∈ S, PatS places.length p) (hl : S.length ≤ 7) : ∃ s13', Holds s13' (places.map D.int) ∧ exS (T 11) (.asg 15 (.lc law_e8 (.n 23) (.val (.v 12)) .no [("pattern", 23)])) [s0, .val (.hd 1), .own ps, .val (.int t), s4, s5, s6, s7, s8, s9, s10, s11, .val (tPP S), s13, .val (tPP (othersOf places S)), s15, s16, s17, s18, s19, s20, s21, s22, .no, .no, .no, .no, .no] st =
    some (.nx, (fun s13 => [s0, .val (.hd 1), .own ps, .val (.int t), s4, s5, s6, s7, s8, s9, s10, s11, .val (tPP S), s13, .val (tPP (othersOf places S)), .own (((upto S.length).map (mv places S)).map D.int), s16, s17, s18, s19, s20, s21, s22, .no, .no, .no, .no, .no]) s13', st) := by
  obtain ⟨ρ', e, s13', h13', rfl⟩ := lc_gen (asg := evTg (T 11) (.n 23)) (c := evC (T 11) .no) (e := fun ρ st => vv (evE (T 11) law_e8 ρ st)) (vs := [23]) (enc := tP) (fun ρ st => by simp [exSs, exS, evE, evEs, evT, Pv.evI, evC, evTg, evTgs, evO, vv, up, one, retE, Option.bind_eq_bind, Option.bind_some, Option.map_some, Option.pure_def, List.getElem?_cons_zero, List.getElem?_cons_succ, List.set_cons_zero, List.set_cons_succ, asgN, asgSub, setIx, opD, addD, mulD, biD, cmpD, ixD, ixL, lenD, slotSeq, slotLst, truD, List.length_cons, List.length_nil, if_true, if_false, Bool.false_eq_true, reduceIte, mthHR, mthR, mtD, slD, seqOf, wipeE, Tgs.len, Pv.unpack, Option.map_none, Option.bind_none, augD, revD, List.map_cons, List.map_nil, isiD, ty, List.any_cons, List.any_nil]) (fun p => .int ((othersOf places S).findIdx fun x => decide (x = under places p) : Nat)) (fun ρ => ∃ s13', Holds s13' (places.map D.int) ∧ ρ = (fun s13 => [s0, .val (.hd 1), .own ps, .val (.int t), s4, s5, s6, s7, s8, s9, s10, s11, .val (tPP S), s13, .val (tPP (othersOf places S)), s15, s16, s17, s18, s19, s20, s21, s22, .no, .no, .no, .no, .no]) s13') (st := st) S [] _ ⟨s13, h13, rfl⟩ (fun p hp ρ hj => by
    obtain ⟨s13', h13, rfl⟩ := hj
    have e := under11 st (hS p hp)
    have hlo : (othersOf places S).length ≤ 1000 := by rw [others_len]; omega
    have fi := find_enc (othersOf places S) (under places p) ((srt_perm _ _).mem_iff.mpr (List.mem_map.mpr ⟨p, hp, rfl⟩)) hlo
    have sq0 : seqOf (tPP (othersOf places S)) = some ((othersOf places S).map tP) := rfl
    refine ⟨(fun s13 => [s0, .val (.hd 1), .own ps, .val (.int t), s4, s5, s6, s7, s8, s9, s10, s11, .val (tPP S), s13, .val (tPP (othersOf places S)), s15, s16, s17, s18, s19, s20, s21, s22, .val (tP p), .no, .no, .no, .no]) s13', by simp [exSs, exS, evE, evEs, evT, Pv.evI, evC, evTg, evTgs, evO, vv, up, one, retE, Option.bind_eq_bind, Option.bind_some, Option.map_some, Option.pure_def, List.getElem?_cons_zero, List.getElem?_cons_succ, List.set_cons_zero, List.set_cons_succ, asgN, asgSub, setIx, opD, addD, mulD, biD, cmpD, ixD, ixL, lenD, slotSeq, slotLst, truD, List.length_cons, List.length_nil, if_true, if_false, Bool.false_eq_true, reduceIte, mthHR, mthR, mtD, slD, seqOf, wipeE, Tgs.len, Pv.unpack, Option.map_none, Option.bind_none, augD, revD, List.map_cons, List.map_nil, isiD, ty, List.any_cons, List.any_nil], (fun s13 => [s0, .val (.hd 1), .own ps, .val (.int t), s4, s5, s6, s7, s8, s9, s10, s11, .val (tPP S), s13, .val (tPP (othersOf places S)), s15, s16, s17, s18, s19, s20, s21, s22, .val (tP p), .no, .no, .no, .no]) (.val (.lst (places.map D.int))), ?_, .val (.lst (places.map D.int)), .inr rfl, by simp [exSs, exS, evE, evEs, evT, Pv.evI, evC, evTg, evTgs, evO, vv, up, one, retE, Option.bind_eq_bind, Option.bind_some, Option.map_some, Option.pure_def, List.getElem?_cons_zero, List.getElem?_cons_succ, List.set_cons_zero, List.set_cons_succ, asgN, asgSub, setIx, opD, addD, mulD, biD, cmpD, ixD, ixL, lenD, slotSeq, slotLst, truD, List.length_cons, List.length_nil, if_true, if_false, Bool.false_eq_true, reduceIte, mthHR, mthR, mtD, slD, seqOf, wipeE, Tgs.len, Pv.unpack, Option.map_none, Option.bind_none, augD, revD, List.map_cons, List.map_nil, isiD, ty, List.any_cons, List.any_nil]⟩
    rcases h13 with rfl | rfl <;> simp [law_e8, evE, evEs, vv, e, sq0, fi]) (by simp; unfold lim; omega)
  refine ⟨s13', h13', ?_⟩
  have l1 : evE (T 11) (.lc law_e8 (.n 23) (.val (.v 12)) .no [("pattern", 23)]) [s0, .val (.hd 1), .own ps, .val (.int t), s4, s5, s6, s7, s8, s9, s10, s11, .val (tPP S), s13, .val (tPP (othersOf places S)), s15, s16, s17, s18, s19, s20, s21, s22, .no, .no, .no, .no, .no] st = some (true, .lst (S.map fun p => .int ((othersOf places S).findIdx fun x => decide (x = under places p) : Nat)), (fun s13 => [s0, .val (.hd 1), .own ps, .val (.int t), s4, s5, s6, s7, s8, s9, s10, s11, .val (tPP S), s13, .val (tPP (othersOf places S)), s15, s16, s17, s18, s19, s20, s21, s22, .no, .no, .no, .no, .no]) s13', st) :=
    ev_lc (xs := S.map tP) (ρ1 := [s0, .val (.hd 1), .own ps, .val (.int t), s4, s5, s6, s7, s8, s9, s10, s11, .val (tPP S), s13, .val (tPP (othersOf places S)), s15, s16, s17, s18, s19, s20, s21, s22, .no, .no, .no, .no, .no]) (st1 := st) (by simp [exSs, exS, evE, evEs, evT, Pv.evI, evC, evTg, evTgs, evO, vv, up, one, retE, Option.bind_eq_bind, Option.bind_some, Option.map_some, Option.pure_def, List.getElem?_cons_zero, List.getElem?_cons_succ, List.set_cons_zero, List.set_cons_succ, asgN, asgSub, setIx, opD, addD, mulD, biD, cmpD, ixD, ixL, lenD, slotSeq, slotLst, truD, List.length_cons, List.length_nil, if_true, if_false, Bool.false_eq_true, reduceIte, mthHR, mthR, mtD, slD, seqOf, wipeE, Tgs.len, Pv.unpack, Option.map_none, Option.bind_none, augD, revD, List.map_cons, List.map_nil, isiD, ty, List.any_cons, List.any_nil, tupE]) (by simpa [wipeE] using e)
  have hm : (S.map fun p => D.int ((othersOf places S).findIdx fun x => decide (x = under places p) : Nat)) = ((upto S.length).map (mv places S)).map D.int := by
    unfold upto
    rw [List.map_map, List.map_map]
    refine List.ext_getElem (by simp) fun i h1 h2 => ?_
    have hi : i < S.length := by simpa using h1
    simp [mv, patAt, hi]
  rw [hm] at l1
  generalize E.lc law_e8 _ _ _ _ = LC at l1 ⊢
  simp [exSs, exS, evE, evEs, evT, Pv.evI, evC, evTg, evTgs, evO, vv, up, one, retE, Option.bind_eq_bind, Option.bind_some, Option.map_some, Option.pure_def, List.getElem?_cons_zero, List.getElem?_cons_succ, List.set_cons_zero, List.set_cons_succ, asgN, asgSub, setIx, opD, addD, mulD, biD, cmpD, ixD, ixL, lenD, slotSeq, slotLst, truD, List.length_cons, List.length_nil, if_true, if_false, Bool.false_eq_true, reduceIte, mthHR, mthR, mtD, slD, seqOf, wipeE, Tgs.len, Pv.unpack, Option.map_none, Option.bind_none, augD, revD, List.map_cons, List.map_nil, isiD, ty, List.any_cons, List.any_nil, l1]
end
end Lk35

namespace Lk35
open PySem PySem.Spec PyProof.Rows L2 Pv
theorem intsOf_mapD : ∀ l : List Int, intsOf (l.map D.int) = some l
  | [] => rfl
  | x :: l => by rw [List.map_cons, intsOf, intsOf_mapD l]; rfl
theorem intsT_tup : ∀ rs : List (List Int), intsT (rs.map tupI) = some rs
  | [] => rfl
  | r :: rs => by
    rw [List.map_cons]
    show (intsOf (r.map D.int)).bind (fun ns => (intsT (rs.map tupI)).map (ns :: ·)) = _
    rw [intsOf_mapD, intsT_tup rs]; rfl
theorem ssetI_mem {ns : List (List Int)} {a : List Int} : a ∈ ssetI ns ↔ a ∈ ns := by
  unfold ssetI
  rw [(List.mergeSort_perm _ _).mem_iff, nub_mem]
theorem nub_len : ∀ ns : List (List Int), (nub ns).length ≤ ns.length
  | [] => Nat.le_refl _
  | n :: ns => by
    have := nub_len ns
    unfold nub
    split
    · simp; omega
    · simp; omega
theorem ssetI_len (ns : List (List Int)) : (ssetI ns).length ≤ ns.length := by
  unfold ssetI
  rw [(List.mergeSort_perm _ _).length_eq]; exact nub_len ns
theorem RdM.ok {m : Int} {r : List Int} (h : RdM m r) : RdOk r := by
  obtain ⟨b, e, rfl, _⟩ := h
  exact ⟨b, e, rfl⟩
theorem pair_ok {m : Int} (hm : m ≤ 64) {rs : List (List Int)} (h : ∀ r ∈ rs, RdM m r) (hl : rs.length < 64) : pairOk rs = true := by
  unfold pairOk
  rw [decide_eq_true hl, Bool.true_and, List.all_eq_true]
  intro r hr
  obtain ⟨b, e, rfl, hb, he⟩ := h r hr
  simp; omega
section
variable {s0 s4 s5 s6 s7 s8 s9 s10 s11 s12 s13 s14 s15 s16 s17 s18 s19 s20 s21 s22 : Sl} {ps : List D} {t : Int} {m : Nat}
theorem st_roads {st : Sto} (hd : Deal st) (hm : 1 ≤ m ∧ m ≤ 6) : ∃ (R : List (List Int)) (st' : Sto), exS (T 11) (.asg 16 (.bi .tuple (.cons (.sset (.lc law_e7 (.n 24) (.rng (.cons (.call "_law_any" (.cons (.v 1) (.cons (.k (.int 7)) .nil))) .nil)) .no [("again", 24)])) .nil))) [s0, .val (.hd 1), .own ps, .val (.int t), .val (.int m), s5, s6, s7, s8, s9, s10, s11, s12, s13, s14, s15, s16, s17, s18, s19, s20, s21, s22, .no, .no, .no, .no, .no] st =
    some (.nx, [s0, .val (.hd 1), .own ps, .val (.int t), .val (.int m), s5, s6, s7, s8, s9, s10, s11, s12, s13, s14, s15, .val (tP R), s17, s18, s19, s20, s21, s22, .no, .no, .no, .no, .no], st') ∧ (∀ r ∈ R, RdM m r) ∧ R.length ≤ 100 ∧ Deal st' := by
  obtain ⟨a, st1, e1, a0, a1, d1⟩ := any11 (b := 7) (by decide) (by decide) hd
  have hln : (rngL 0 a 1).length = a.toNat := by rw [rng_len]; omega
  obtain ⟨acc, ρ', st2, e2, hρ, d2, rs, hacc, hrs, hlen⟩ := lc_all (asg := evTg (T 11) (.n 24)) (c := evC (T 11) .no) (e := fun ρ st => vv (evE (T 11) law_e7 ρ st)) (vs := [24]) (fun ρ st => by simp [exSs, exS, evE, evEs, evT, Pv.evI, evC, evTg, evTgs, evO, vv, up, one, retE, Option.bind_eq_bind, Option.bind_some, Option.map_some, Option.pure_def, List.getElem?_cons_zero, List.getElem?_cons_succ, List.set_cons_zero, List.set_cons_succ, asgN, asgSub, setIx, opD, addD, mulD, biD, cmpD, ixD, ixL, lenD, slotSeq, slotLst, truD, List.length_cons, List.length_nil, if_true, if_false, Bool.false_eq_true, reduceIte, mthHR, mthR, mtD, slD, seqOf, wipeE, Tgs.len, Pv.unpack, Option.map_none, Option.bind_none, augD, revD, List.map_cons, List.map_nil, isiD, ty, List.any_cons, List.any_nil]) (fun k acc ρ st => ρ = [s0, .val (.hd 1), .own ps, .val (.int t), .val (.int m), s5, s6, s7, s8, s9, s10, s11, s12, s13, s14, s15, s16, s17, s18, s19, s20, s21, s22, .no, .no, .no, .no, .no] ∧ Deal st ∧ ∃ rs : List (List Int), acc = rs.map tupI ∧ (∀ r ∈ rs, RdM m r) ∧ rs.length = k) (rngL 0 a 1) 0 [] [s0, .val (.hd 1), .own ps, .val (.int t), .val (.int m), s5, s6, s7, s8, s9, s10, s11, s12, s13, s14, s15, s16, s17, s18, s19, s20, s21, s22, .no, .no, .no, .no, .no] st1 (by rw [hln]; simp; unfold lim; omega) (fun k d acc ρ st hk hj => by
    obtain ⟨rfl, hd, rs, rfl, hrs, hlen⟩ := hj
    obtain ⟨x, st2, x1, x2, x3, dx⟩ := any11 (b := m) (by omega) (by omega) hd
    obtain ⟨y, st3, y1, y2, y3, dy⟩ := any11 (b := m) (by omega) (by omega) dx
    refine ⟨[s0, .val (.hd 1), .own ps, .val (.int t), .val (.int m), s5, s6, s7, s8, s9, s10, s11, s12, s13, s14, s15, s16, s17, s18, s19, s20, s21, s22, .no, .val d, .no, .no, .no], st, by simp [exSs, exS, evE, evEs, evT, Pv.evI, evC, evTg, evTgs, evO, vv, up, one, retE, Option.bind_eq_bind, Option.bind_some, Option.map_some, Option.pure_def, List.getElem?_cons_zero, List.getElem?_cons_succ, List.set_cons_zero, List.set_cons_succ, asgN, asgSub, setIx, opD, addD, mulD, biD, cmpD, ixD, ixL, lenD, slotSeq, slotLst, truD, List.length_cons, List.length_nil, if_true, if_false, Bool.false_eq_true, reduceIte, mthHR, mthR, mtD, slD, seqOf, wipeE, Tgs.len, Pv.unpack, Option.map_none, Option.bind_none, augD, revD, List.map_cons, List.map_nil, isiD, ty, List.any_cons, List.any_nil], tupI [x, y], [s0, .val (.hd 1), .own ps, .val (.int t), .val (.int m), s5, s6, s7, s8, s9, s10, s11, s12, s13, s14, s15, s16, s17, s18, s19, s20, s21, s22, .no, .val d, .no, .no, .no], st3, by simp [law_e7, exSs, exS, evE, evEs, evT, Pv.evI, evC, evTg, evTgs, evO, vv, up, one, retE, Option.bind_eq_bind, Option.bind_some, Option.map_some, Option.pure_def, List.getElem?_cons_zero, List.getElem?_cons_succ, List.set_cons_zero, List.set_cons_succ, asgN, asgSub, setIx, opD, addD, mulD, biD, cmpD, ixD, ixL, lenD, slotSeq, slotLst, truD, List.length_cons, List.length_nil, if_true, if_false, Bool.false_eq_true, reduceIte, mthHR, mthR, mtD, slD, seqOf, wipeE, Tgs.len, Pv.unpack, Option.map_none, Option.bind_none, augD, revD, List.map_cons, List.map_nil, isiD, ty, List.any_cons, List.any_nil, x1, y1, tupI, show (2 : Nat) ≤ lim by decide], by simp [exSs, exS, evE, evEs, evT, Pv.evI, evC, evTg, evTgs, evO, vv, up, one, retE, Option.bind_eq_bind, Option.bind_some, Option.map_some, Option.pure_def, List.getElem?_cons_zero, List.getElem?_cons_succ, List.set_cons_zero, List.set_cons_succ, asgN, asgSub, setIx, opD, addD, mulD, biD, cmpD, ixD, ixL, lenD, slotSeq, slotLst, truD, List.length_cons, List.length_nil, if_true, if_false, Bool.false_eq_true, reduceIte, mthHR, mthR, mtD, slD, seqOf, wipeE, Tgs.len, Pv.unpack, Option.map_none, Option.bind_none, augD, revD, List.map_cons, List.map_nil, isiD, ty, List.any_cons, List.any_nil], dy, rs ++ [[x, y]], by simp, fun r hr => ?_, by simp; omega⟩
    rcases List.mem_append.mp hr with z | z
    · exact hrs r z
    · rw [List.mem_singleton.mp z]; exact ⟨x, y, rfl, ⟨x2, x3⟩, ⟨y2, y3⟩⟩) ⟨rfl, d1, [], rfl, fun _ h => by simp at h, rfl⟩
  subst hρ hacc
  rw [hln] at hlen
  have l1 : evE (T 11) (.lc law_e7 (.n 24) (.rng (.cons (.call "_law_any" (.cons (.v 1) (.cons (.k (.int 7)) .nil))) .nil)) .no [("again", 24)]) [s0, .val (.hd 1), .own ps, .val (.int t), .val (.int m), s5, s6, s7, s8, s9, s10, s11, s12, s13, s14, s15, s16, s17, s18, s19, s20, s21, s22, .no, .no, .no, .no, .no] st = some (true, .lst (rs.map tupI), [s0, .val (.hd 1), .own ps, .val (.int t), .val (.int m), s5, s6, s7, s8, s9, s10, s11, s12, s13, s14, s15, s16, s17, s18, s19, s20, s21, s22, .no, .no, .no, .no, .no], st2) :=
    ev_lc (xs := rngL 0 a 1) (ρ1 := [s0, .val (.hd 1), .own ps, .val (.int t), .val (.int m), s5, s6, s7, s8, s9, s10, s11, s12, s13, s14, s15, s16, s17, s18, s19, s20, s21, s22, .no, .no, .no, .no, .no]) (st1 := st1) (by simp [exSs, exS, evE, evEs, evT, Pv.evI, evC, evTg, evTgs, evO, vv, up, one, retE, Option.bind_eq_bind, Option.bind_some, Option.map_some, Option.pure_def, List.getElem?_cons_zero, List.getElem?_cons_succ, List.set_cons_zero, List.set_cons_succ, asgN, asgSub, setIx, opD, addD, mulD, biD, cmpD, ixD, ixL, lenD, slotSeq, slotLst, truD, List.length_cons, List.length_nil, if_true, if_false, Bool.false_eq_true, reduceIte, mthHR, mthR, mtD, slD, seqOf, wipeE, Tgs.len, Pv.unpack, Option.map_none, Option.bind_none, augD, revD, List.map_cons, List.map_nil, isiD, ty, List.any_cons, List.any_nil, e1, rngD1 (n := a) a0 (by omega)]) (by simpa [wipeE] using e2)
  have po := pair_ok (m := (m : Int)) (by omega) hrs (by omega)
  refine ⟨ssetI rs, st2, ?_, fun r hr => hrs r (ssetI_mem.mp hr), by have := ssetI_len rs; omega, d2⟩
  generalize E.lc law_e7 _ _ _ _ = LC at l1 ⊢
  have it := intsT_tup rs
  have fin : tP (ssetI rs) = .tup ((ssetI rs).map tupI) := rfl
  rw [fin]
  simp [exSs, exS, evE, evEs, evT, Pv.evI, evC, evTg, evTgs, evO, vv, up, one, retE, Option.bind_eq_bind, Option.bind_some, Option.map_some, Option.pure_def, List.getElem?_cons_zero, List.getElem?_cons_succ, List.set_cons_zero, List.set_cons_succ, asgN, asgSub, setIx, opD, addD, mulD, biD, cmpD, ixD, ixL, lenD, slotSeq, slotLst, truD, List.length_cons, List.length_nil, if_true, if_false, Bool.false_eq_true, reduceIte, mthHR, mthR, mtD, slD, seqOf, wipeE, Tgs.len, Pv.unpack, Option.map_none, Option.bind_none, augD, revD, List.map_cons, List.map_nil, isiD, ty, List.any_cons, List.any_nil, l1, it, po]
/-! ## one lot of roads -/
theorem atI_upto {k : Nat} {f : Int → Int} {i : Int} (h : 0 ≤ i ∧ i < k) : atI (((upto k).map f).map D.int) i = some (.int (f i)) := by
  obtain ⟨j, rfl⟩ := Int.eq_ofNat_of_zero_le h.1
  have hj : j < k := by omega
  refine atI_nat ?_
  rw [List.getElem?_map, List.getElem?_map]
  unfold upto
  rw [List.getElem?_map, List.getElem?_range hj]
  rfl
theorem b6_run (st : Sto) {n : Nat} (hg : Good ps n) (hn : n ≤ 10000) {places : List Int} (h13 : Holds s13 (places.map D.int)) (hpl : places.Perm (upto m)) (hm : m ≤ 6) {S : List Pat} (hS : ∀ p ∈ S, PatS m p ∧ PatM m p) (hN : S.Nodup) (hl : S.length ≤ 7) {L : List (List Int)} (hL : ∀ r ∈ L, RdM m r) (hll : L.length ≤ 100) :
    ∃ ps' s18' s19', Good ps' (n + 2) ∧ exSs (T 11) law_b6 [s0, .val (.hd 1), .own ps, .val (.int t), s4, s5, s6, s7, s8, s9, s10, s11, .val (tPP S), s13, .val (tPP (othersOf places S)), .own (((upto S.length).map (mv places S)).map D.int), s16, .val (tP L), s18, s19, s20, s21, s22, .no, .no, .no, .no, .no] st =
      some (.nx, (fun s18 s19 => [s0, .val (.hd 1), .own ps', .val (.int t), s4, s5, s6, s7, s8, s9, .no, .no, .val (tPP S), s13, .val (tPP (othersOf places S)), .own (((upto S.length).map (mv places S)).map D.int), s16, .val (tP L), s18, s19, s20, s21, s22, .no, .no, .no, .no, .no]) s18' s19', st) := by
  obtain ⟨bij, plen, prng⟩ := bij_of hpl
  have hSo : ∀ p ∈ S, PatOk p := fun p hp => (hS p hp).1.ok
  have hLo : ∀ r ∈ L, RdOk r := fun r hr => (hL r hr).ok
  have g1 := lroads_run 8 st hSo (by omega) hLo (by omega)
  have g2 := roads_run 8 st hSo (by omega) hLo (by omega)
  rw [roads_eq hSo] at g2
  have hU : ∀ r ∈ underR places L, RdM m r := fun r hr => by
    obtain ⟨r', hr', rfl⟩ := List.mem_map.mp ((srt_perm _ _).mem_iff.mp hr)
    obtain ⟨b, e, rfl, hb, he⟩ := hL r' hr'
    exact ⟨_, _, rfl, prng b hb, prng e he⟩
  have hUo : ∀ r ∈ underR places L, RdOk r := fun r hr => (hU r hr).ok
  have hUl : (underR places L).length ≤ 100 := by unfold underR; rw [srt_len, List.length_map]; exact hll
  have hO : ∀ p ∈ othersOf places S, PatOk p := fun p hp => by
    obtain ⟨q, hq, rfl⟩ := List.mem_map.mp ((srt_perm _ _).mem_iff.mp hp)
    obtain ⟨a, b, rfl, ha, hb⟩ := (hS q hq).1.two
    exact ⟨underL places a, underL places b, rfl, by unfold underL; rw [srt_len, List.length_map]; omega, by unfold underL; rw [srt_len, List.length_map]; omega⟩
  have hol := others_len (places := places) (ps := S)
  have g3 := roads_run 8 st hO (by omega) hUo (by omega)
  rw [roads_eq hO, equi bij (fun p hp => (hS p hp).2) hN hL] at g3
  have glen : (lroadGoes S L).length ≤ 49 := by
    have h1 := List.length_filter_le (fun g => lmay (patAt S (r0 g)) (patAt S (r1 g)) L) (goesN S.length)
    have h2 : (goesN S.length).length = S.length * S.length := by rw [goesN, pairsL_len, upto_len]
    have h3 : S.length * S.length ≤ 7 * 7 := Nat.mul_le_mul hl hl
    unfold lroadGoes; omega
  have gm : ∀ g ∈ lroadGoes S L, ∃ i j : Int, g = [i, j] ∧ (0 ≤ i ∧ i < S.length) ∧ (0 ≤ j ∧ j < S.length) := fun g hg => goesN_mem (List.mem_filter.mp hg).1
  have okG : Ok (tP (lroadGoes S L)) := ok_tP (by omega) fun g hg => by
    obtain ⟨i, j, rfl, _⟩ := gm g hg
    simp
  have okM : Ok (tP (srt lt1 ((lroadGoes S L).map (mvG places S)))) := ok_tP (by rw [srt_len, List.length_map]; omega) fun g hg => by
    obtain ⟨g', _, rfl⟩ := List.mem_map.mp ((srt_perm _ _).mem_iff.mp hg)
    simp [mvG]
  generalize lroadGoes S L = G at *
  refine ⟨ps ++ [pr (tP G)] ++ [pr (tP (srt lt1 (G.map (mvG places S))))], .val (tP G), .val (tP (underR places L)), (hg.app okG).app okM, ?_⟩
  unfold law_b6
  refine (sq (ρ1 := (fun s18 => [s0, .val (.hd 1), .own ps, .val (.int t), s4, s5, s6, s7, s8, s9, s10, s11, .val (tPP S), s13, .val (tPP (othersOf places S)), .own (((upto S.length).map (mv places S)).map D.int), s16, .val (tP L), s18, s19, s20, s21, s22, .no, .no, .no, .no, .no]) (.val (tP G))) (st1 := st) (by simp [exSs, exS, evE, evEs, evT, Pv.evI, evC, evTg, evTgs, evO, vv, up, one, retE, Option.bind_eq_bind, Option.bind_some, Option.map_some, Option.pure_def, List.getElem?_cons_zero, List.getElem?_cons_succ, List.set_cons_zero, List.set_cons_succ, asgN, asgSub, setIx, opD, addD, mulD, biD, cmpD, ixD, ixL, lenD, slotSeq, slotLst, truD, List.length_cons, List.length_nil, if_true, if_false, Bool.false_eq_true, reduceIte, mthHR, mthR, mtD, slD, seqOf, wipeE, Tgs.len, Pv.unpack, Option.map_none, Option.bind_none, augD, revD, List.map_cons, List.map_nil, isiD, ty, List.any_cons, List.any_nil, g1])).trans ?_
  have h1 := hg.lt (by omega)
  have s60 : ∀ i : Int, sh 60 (.int i) = true := fun _ => rfl
  refine (sq (ρ1 := [s0, .val (.hd 1), .own (ps ++ [pr (tP G)]), .val (.int t), s4, s5, s6, s7, s8, s9, s10, s11, .val (tPP S), s13, .val (tPP (othersOf places S)), .own (((upto S.length).map (mv places S)).map D.int), s16, .val (tP L), .val (tP G), s19, s20, s21, s22, .no, .no, .no, .no, .no]) (st1 := st) ?_).trans ?_
  · by_cases h : t = 1
    · subst h; simp [exSs, exS, evE, evEs, evT, Pv.evI, evC, evTg, evTgs, evO, vv, up, one, retE, Option.bind_eq_bind, Option.bind_some, Option.map_some, Option.pure_def, List.getElem?_cons_zero, List.getElem?_cons_succ, List.set_cons_zero, List.set_cons_succ, asgN, asgSub, setIx, opD, addD, mulD, biD, cmpD, ixD, ixL, lenD, slotSeq, slotLst, truD, List.length_cons, List.length_nil, if_true, if_false, Bool.false_eq_true, reduceIte, mthHR, mthR, mtD, slD, seqOf, wipeE, Tgs.len, Pv.unpack, Option.map_none, Option.bind_none, augD, revD, List.map_cons, List.map_nil, isiD, ty, List.any_cons, List.any_nil, s60, eqv_int, g2, h1, pr, show (2 : Nat) ≤ lim by decide]
    · simp [exSs, exS, evE, evEs, evT, Pv.evI, evC, evTg, evTgs, evO, vv, up, one, retE, Option.bind_eq_bind, Option.bind_some, Option.map_some, Option.pure_def, List.getElem?_cons_zero, List.getElem?_cons_succ, List.set_cons_zero, List.set_cons_succ, asgN, asgSub, setIx, opD, addD, mulD, biD, cmpD, ixD, ixL, lenD, slotSeq, slotLst, truD, List.length_cons, List.length_nil, if_true, if_false, Bool.false_eq_true, reduceIte, mthHR, mthR, mtD, slD, seqOf, wipeE, Tgs.len, Pv.unpack, Option.map_none, Option.bind_none, augD, revD, List.map_cons, List.map_nil, isiD, ty, List.any_cons, List.any_nil, s60, eqv_int, h, g2, h1, pr, show (2 : Nat) ≤ lim by decide]
  have hg' := hg.app okG
  generalize ps ++ [pr (tP G)] = ps1 at *
  -- under
  have l1 : evE (T 11) (.lc law_e5 (.tup (.cons (.n 26) (.cons (.n 27) .nil))) (.val (.v 17)) .no [("start", 26), ("end", 27)]) [s0, .val (.hd 1), .own ps1, .val (.int t), s4, s5, s6, s7, s8, s9, s10, s11, .val (tPP S), s13, .val (tPP (othersOf places S)), .own (((upto S.length).map (mv places S)).map D.int), s16, .val (tP L), .val (tP G), s19, s20, s21, s22, .no, .no, .no, .no, .no] st =
      some (true, .lst ((L.filter fun _ => true).map fun r => tupI (renR places r)), [s0, .val (.hd 1), .own ps1, .val (.int t), s4, s5, s6, s7, s8, s9, s10, s11, .val (tPP S), s13, .val (tPP (othersOf places S)), .own (((upto S.length).map (mv places S)).map D.int), s16, .val (tP L), .val (tP G), s19, s20, s21, s22, .no, .no, .no, .no, .no], st) := by
    refine ev_fm (enc := tupI) L (fun _ => true) (fun r => tupI (renR places r)) (fun r => [s0, .val (.hd 1), .own ps1, .val (.int t), s4, s5, s6, s7, s8, s9, s10, s11, .val (tPP S), s13, .val (tPP (othersOf places S)), .own (((upto S.length).map (mv places S)).map D.int), s16, .val (tP L), .val (tP G), s19, s20, s21, s22, .no, .no, .no, .val (.int (r0 r)), .val (.int (r1 r))]) (by simp [exSs, exS, evE, evEs, evT, Pv.evI, evC, evTg, evTgs, evO, vv, up, one, retE, Option.bind_eq_bind, Option.bind_some, Option.map_some, Option.pure_def, List.getElem?_cons_zero, List.getElem?_cons_succ, List.set_cons_zero, List.set_cons_succ, asgN, asgSub, setIx, opD, addD, mulD, biD, cmpD, ixD, ixL, lenD, slotSeq, slotLst, truD, List.length_cons, List.length_nil, if_true, if_false, Bool.false_eq_true, reduceIte, mthHR, mthR, mtD, slD, seqOf, wipeE, Tgs.len, Pv.unpack, Option.map_none, Option.bind_none, augD, revD, List.map_cons, List.map_nil, isiD, ty, List.any_cons, List.any_nil, tupE]) (by simp [exSs, exS, evE, evEs, evT, Pv.evI, evC, evTg, evTgs, evO, vv, up, one, retE, Option.bind_eq_bind, Option.bind_some, Option.map_some, Option.pure_def, List.getElem?_cons_zero, List.getElem?_cons_succ, List.set_cons_zero, List.set_cons_succ, asgN, asgSub, setIx, opD, addD, mulD, biD, cmpD, ixD, ixL, lenD, slotSeq, slotLst, truD, List.length_cons, List.length_nil, if_true, if_false, Bool.false_eq_true, reduceIte, mthHR, mthR, mtD, slD, seqOf, wipeE, Tgs.len, Pv.unpack, Option.map_none, Option.bind_none, augD, revD, List.map_cons, List.map_nil, isiD, ty, List.any_cons, List.any_nil]) (by unfold lim; omega) fun r hr => ?_
    obtain ⟨b, e, rfl, hb, he⟩ := hL r hr
    have a1 := ren_at (places := places) (i := b) (by rw [plen]; exact hb)
    have a2 := ren_at (places := places) (i := e) (by rw [plen]; exact he)
    refine ⟨by simp [exSs, exS, evE, evEs, evT, Pv.evI, evC, evTg, evTgs, evO, vv, up, one, retE, Option.bind_eq_bind, Option.bind_some, Option.map_some, Option.pure_def, List.getElem?_cons_zero, List.getElem?_cons_succ, List.set_cons_zero, List.set_cons_succ, asgN, asgSub, setIx, opD, addD, mulD, biD, cmpD, ixD, ixL, lenD, slotSeq, slotLst, truD, List.length_cons, List.length_nil, if_true, if_false, Bool.false_eq_true, reduceIte, mthHR, mthR, mtD, slD, seqOf, wipeE, Tgs.len, Pv.unpack, Option.map_none, Option.bind_none, augD, revD, List.map_cons, List.map_nil, isiD, ty, List.any_cons, List.any_nil, evTgs, tupI, r0, r1], by simp [exSs, exS, evE, evEs, evT, Pv.evI, evC, evTg, evTgs, evO, vv, up, one, retE, Option.bind_eq_bind, Option.bind_some, Option.map_some, Option.pure_def, List.getElem?_cons_zero, List.getElem?_cons_succ, List.set_cons_zero, List.set_cons_succ, asgN, asgSub, setIx, opD, addD, mulD, biD, cmpD, ixD, ixL, lenD, slotSeq, slotLst, truD, List.length_cons, List.length_nil, if_true, if_false, Bool.false_eq_true, reduceIte, mthHR, mthR, mtD, slD, seqOf, wipeE, Tgs.len, Pv.unpack, Option.map_none, Option.bind_none, augD, revD, List.map_cons, List.map_nil, isiD, ty, List.any_cons, List.any_nil], fun _ => ?_, by simp [exSs, exS, evE, evEs, evT, Pv.evI, evC, evTg, evTgs, evO, vv, up, one, retE, Option.bind_eq_bind, Option.bind_some, Option.map_some, Option.pure_def, List.getElem?_cons_zero, List.getElem?_cons_succ, List.set_cons_zero, List.set_cons_succ, asgN, asgSub, setIx, opD, addD, mulD, biD, cmpD, ixD, ixL, lenD, slotSeq, slotLst, truD, List.length_cons, List.length_nil, if_true, if_false, Bool.false_eq_true, reduceIte, mthHR, mthR, mtD, slD, seqOf, wipeE, Tgs.len, Pv.unpack, Option.map_none, Option.bind_none, augD, revD, List.map_cons, List.map_nil, isiD, ty, List.any_cons, List.any_nil]⟩
    rcases h13 with rfl | rfl <;> simp [law_e5, exSs, exS, evE, evEs, evT, Pv.evI, evC, evTg, evTgs, evO, vv, up, one, retE, Option.bind_eq_bind, Option.bind_some, Option.map_some, Option.pure_def, List.getElem?_cons_zero, List.getElem?_cons_succ, List.set_cons_zero, List.set_cons_succ, asgN, asgSub, setIx, opD, addD, mulD, biD, cmpD, ixD, ixL, lenD, slotSeq, slotLst, truD, List.length_cons, List.length_nil, if_true, if_false, Bool.false_eq_true, reduceIte, mthHR, mthR, mtD, slD, seqOf, wipeE, Tgs.len, Pv.unpack, Option.map_none, Option.bind_none, augD, revD, List.map_cons, List.map_nil, isiD, ty, List.any_cons, List.any_nil, r0, r1, a1, a2, tupI, renR, show (2 : Nat) ≤ lim by decide]
  rw [filt] at l1
  have hm1 : (L.map fun r => tupI (renR places r)) = (L.map (renR places)).map tupI := by rw [List.map_map]; rfl
  rw [hm1] at l1
  have o1 := enc1.ord (by decide) (L.map (renR places))
  have so1 := enc1.sort (L.map (renR places))
  have hu : underR places L = srt lt1 (L.map (renR places)) := rfl
  refine (sq (ρ1 := (fun s19 => [s0, .val (.hd 1), .own ps1, .val (.int t), s4, s5, s6, s7, s8, s9, s10, s11, .val (tPP S), s13, .val (tPP (othersOf places S)), .own (((upto S.length).map (mv places S)).map D.int), s16, .val (tP L), .val (tP G), s19, s20, s21, s22, .no, .no, .no, .no, .no]) (.val (tP (underR places L)))) (st1 := st) ?_).trans ?_
  · rw [hu]
    clear hu g3 hU hUo hUl
    generalize L.map (renR places) = R at *
    have fin : tP (srt lt1 R) = .tup ((srt lt1 R).map tupI) := rfl
    rw [fin]
    generalize ((upto S.length).map (mv places S)).map D.int = MV at *
    generalize E.lc law_e5 _ _ _ _ = LC at l1 ⊢
    simp [exSs, exS, evE, evEs, evT, Pv.evI, evC, evTg, evTgs, evO, vv, up, one, retE, Option.bind_eq_bind, Option.bind_some, Option.map_some, Option.pure_def, List.getElem?_cons_zero, List.getElem?_cons_succ, List.set_cons_zero, List.set_cons_succ, asgN, asgSub, setIx, opD, addD, mulD, biD, cmpD, ixD, ixL, lenD, slotSeq, slotLst, truD, List.length_cons, List.length_nil, if_true, if_false, Bool.false_eq_true, reduceIte, mthHR, mthR, mtD, slD, seqOf, wipeE, Tgs.len, Pv.unpack, Option.map_none, Option.bind_none, augD, revD, List.map_cons, List.map_nil, isiD, ty, List.any_cons, List.any_nil, l1, o1, so1]
  -- the pairs of the other
  have l2 : evE (T 11) (.lc law_e4 (.tup (.cons (.n 10) (.cons (.n 11) .nil))) (.val (.v 18)) .no [("one", 10), ("other", 11)]) [s0, .val (.hd 1), .own ps1, .val (.int t), s4, s5, s6, s7, s8, s9, s10, s11, .val (tPP S), s13, .val (tPP (othersOf places S)), .own (((upto S.length).map (mv places S)).map D.int), s16, .val (tP L), .val (tP G), .val (tP (underR places L)), s20, s21, s22, .no, .no, .no, .no, .no] st =
      some (true, .lst ((G.filter fun _ => true).map fun g => tupI (mvG places S g)), [s0, .val (.hd 1), .own ps1, .val (.int t), s4, s5, s6, s7, s8, s9, .no, .no, .val (tPP S), s13, .val (tPP (othersOf places S)), .own (((upto S.length).map (mv places S)).map D.int), s16, .val (tP L), .val (tP G), .val (tP (underR places L)), s20, s21, s22, .no, .no, .no, .no, .no], st) := by
    refine ev_fmw (enc := tupI) (ρ1 := [s0, .val (.hd 1), .own ps1, .val (.int t), s4, s5, s6, s7, s8, s9, s10, s11, .val (tPP S), s13, .val (tPP (othersOf places S)), .own (((upto S.length).map (mv places S)).map D.int), s16, .val (tP L), .val (tP G), .val (tP (underR places L)), s20, s21, s22, .no, .no, .no, .no, .no]) G (fun _ => true) (fun g => tupI (mvG places S g)) (fun g => [s0, .val (.hd 1), .own ps1, .val (.int t), s4, s5, s6, s7, s8, s9, .val (.int (r0 g)), .val (.int (r1 g)), .val (tPP S), s13, .val (tPP (othersOf places S)), .own (((upto S.length).map (mv places S)).map D.int), s16, .val (tP L), .val (tP G), .val (tP (underR places L)), s20, s21, s22, .no, .no, .no, .no, .no]) (by simp [exSs, exS, evE, evEs, evT, Pv.evI, evC, evTg, evTgs, evO, vv, up, one, retE, Option.bind_eq_bind, Option.bind_some, Option.map_some, Option.pure_def, List.getElem?_cons_zero, List.getElem?_cons_succ, List.set_cons_zero, List.set_cons_succ, asgN, asgSub, setIx, opD, addD, mulD, biD, cmpD, ixD, ixL, lenD, slotSeq, slotLst, truD, List.length_cons, List.length_nil, if_true, if_false, Bool.false_eq_true, reduceIte, mthHR, mthR, mtD, slD, seqOf, wipeE, Tgs.len, Pv.unpack, Option.map_none, Option.bind_none, augD, revD, List.map_cons, List.map_nil, isiD, ty, List.any_cons, List.any_nil, tupE]) (by simp [exSs, exS, evE, evEs, evT, Pv.evI, evC, evTg, evTgs, evO, vv, up, one, retE, Option.bind_eq_bind, Option.bind_some, Option.map_some, Option.pure_def, List.getElem?_cons_zero, List.getElem?_cons_succ, List.set_cons_zero, List.set_cons_succ, asgN, asgSub, setIx, opD, addD, mulD, biD, cmpD, ixD, ixL, lenD, slotSeq, slotLst, truD, List.length_cons, List.length_nil, if_true, if_false, Bool.false_eq_true, reduceIte, mthHR, mthR, mtD, slD, seqOf, wipeE, Tgs.len, Pv.unpack, Option.map_none, Option.bind_none, augD, revD, List.map_cons, List.map_nil, isiD, ty, List.any_cons, List.any_nil]) (by unfold lim; omega) fun g hgm => ?_
    obtain ⟨i, j, rfl, hi, hj⟩ := gm g hgm
    have a1 := atI_upto (k := S.length) (f := mv places S) hi
    have a2 := atI_upto (k := S.length) (f := mv places S) hj
    refine ⟨by simp [exSs, exS, evE, evEs, evT, Pv.evI, evC, evTg, evTgs, evO, vv, up, one, retE, Option.bind_eq_bind, Option.bind_some, Option.map_some, Option.pure_def, List.getElem?_cons_zero, List.getElem?_cons_succ, List.set_cons_zero, List.set_cons_succ, asgN, asgSub, setIx, opD, addD, mulD, biD, cmpD, ixD, ixL, lenD, slotSeq, slotLst, truD, List.length_cons, List.length_nil, if_true, if_false, Bool.false_eq_true, reduceIte, mthHR, mthR, mtD, slD, seqOf, wipeE, Tgs.len, Pv.unpack, Option.map_none, Option.bind_none, augD, revD, List.map_cons, List.map_nil, isiD, ty, List.any_cons, List.any_nil, evTgs, tupI, r0, r1], by simp [exSs, exS, evE, evEs, evT, Pv.evI, evC, evTg, evTgs, evO, vv, up, one, retE, Option.bind_eq_bind, Option.bind_some, Option.map_some, Option.pure_def, List.getElem?_cons_zero, List.getElem?_cons_succ, List.set_cons_zero, List.set_cons_succ, asgN, asgSub, setIx, opD, addD, mulD, biD, cmpD, ixD, ixL, lenD, slotSeq, slotLst, truD, List.length_cons, List.length_nil, if_true, if_false, Bool.false_eq_true, reduceIte, mthHR, mthR, mtD, slD, seqOf, wipeE, Tgs.len, Pv.unpack, Option.map_none, Option.bind_none, augD, revD, List.map_cons, List.map_nil, isiD, ty, List.any_cons, List.any_nil], fun _ => ?_, by simp [exSs, exS, evE, evEs, evT, Pv.evI, evC, evTg, evTgs, evO, vv, up, one, retE, Option.bind_eq_bind, Option.bind_some, Option.map_some, Option.pure_def, List.getElem?_cons_zero, List.getElem?_cons_succ, List.set_cons_zero, List.set_cons_succ, asgN, asgSub, setIx, opD, addD, mulD, biD, cmpD, ixD, ixL, lenD, slotSeq, slotLst, truD, List.length_cons, List.length_nil, if_true, if_false, Bool.false_eq_true, reduceIte, mthHR, mthR, mtD, slD, seqOf, wipeE, Tgs.len, Pv.unpack, Option.map_none, Option.bind_none, augD, revD, List.map_cons, List.map_nil, isiD, ty, List.any_cons, List.any_nil]⟩
    generalize ((upto S.length).map (mv places S)).map D.int = MV at *
    simp [law_e4, exSs, exS, evE, evEs, evT, Pv.evI, evC, evTg, evTgs, evO, vv, up, one, retE, Option.bind_eq_bind, Option.bind_some, Option.map_some, Option.pure_def, List.getElem?_cons_zero, List.getElem?_cons_succ, List.set_cons_zero, List.set_cons_succ, asgN, asgSub, setIx, opD, addD, mulD, biD, cmpD, ixD, ixL, lenD, slotSeq, slotLst, truD, List.length_cons, List.length_nil, if_true, if_false, Bool.false_eq_true, reduceIte, mthHR, mthR, mtD, slD, seqOf, wipeE, Tgs.len, Pv.unpack, Option.map_none, Option.bind_none, augD, revD, List.map_cons, List.map_nil, isiD, ty, List.any_cons, List.any_nil, r0, r1, a1, a2, tupI, mvG, show (2 : Nat) ≤ lim by decide]
  rw [filt] at l2
  have hm2 : (G.map fun g => tupI (mvG places S g)) = (G.map (mvG places S)).map tupI := by rw [List.map_map]; rfl
  rw [hm2] at l2
  have o2 := enc1.ord (by decide) (G.map (mvG places S))
  have so2 := enc1.sort (G.map (mvG places S))
  generalize G.map (mvG places S) = R at *
  generalize ((upto S.length).map (mv places S)).map D.int = MV at *
  generalize E.lc law_e4 _ _ _ _ = LC at l2 ⊢
  have fin : pr (tP (srt lt1 R)) = .tup [tP (srt lt1 R), .tup ((srt lt1 R).map tupI)] := rfl
  rw [fin]
  have h2 := hg'.lt (by omega)
  exact sq1 (by simp [exSs, exS, evE, evEs, evT, Pv.evI, evC, evTg, evTgs, evO, vv, up, one, retE, Option.bind_eq_bind, Option.bind_some, Option.map_some, Option.pure_def, List.getElem?_cons_zero, List.getElem?_cons_succ, List.set_cons_zero, List.set_cons_succ, asgN, asgSub, setIx, opD, addD, mulD, biD, cmpD, ixD, ixL, lenD, slotSeq, slotLst, truD, List.length_cons, List.length_nil, if_true, if_false, Bool.false_eq_true, reduceIte, mthHR, mthR, mtD, slD, seqOf, wipeE, Tgs.len, Pv.unpack, Option.map_none, Option.bind_none, augD, revD, List.map_cons, List.map_nil, isiD, ty, List.any_cons, List.any_nil, g3, l2, o2, so2, h2, show (2 : Nat) ≤ lim by decide])
end
end Lk35

namespace Lk35
open PySem PySem.Spec PyProof.Rows L2 Pv
def roundL (m : Nat) : List (List Int) := (upto m).map fun i => [i, if i + 1 < m then i + 1 else 0]
theorem roundL_ok {m : Nat} (hm : 1 ≤ m) {r : List Int} (h : r ∈ roundL m) : RdM m r := by
  obtain ⟨i, hi, rfl⟩ := List.mem_map.mp h
  have := upto_mem hi
  refine ⟨i, _, rfl, this, ?_⟩
  split <;> omega
section
variable {s0 s4 s5 s6 s7 s8 s9 s10 s11 s12 s13 s14 s15 s16 s17 s18 s19 s20 s21 s22 : Sl} {ps : List D} {t : Int} {m : Nat}
theorem lates (st : Sto) (hm : 1 ≤ m ∧ m ≤ 6) (R : List (List Int)) : Pv.evI (T 11) (.val (.lst (.cons (.v 16) (.cons (.tup .nil) (.cons (.bi .tuple (.cons (.lc law_e3 (.n 25) (.rng (.cons (.v 4) .nil)) .no [("at", 25)]) .nil)) .nil))))) [s0, .val (.hd 1), .own ps, .val (.int t), .val (.int m), s5, s6, s7, s8, s9, s10, s11, s12, s13, s14, s15, .val (tP R), s17, s18, s19, s20, s21, s22, .no, .no, .no, .no, .no] st =
    some ([R, [], roundL m].map tP, [s0, .val (.hd 1), .own ps, .val (.int t), .val (.int m), s5, s6, s7, s8, s9, s10, s11, s12, s13, s14, s15, .val (tP R), s17, s18, s19, s20, s21, s22, .no, .no, .no, .no, .no], st) := by
  have l1 : evE (T 11) (.lc law_e3 (.n 25) (.rng (.cons (.v 4) .nil)) .no [("at", 25)]) [s0, .val (.hd 1), .own ps, .val (.int t), .val (.int m), s5, s6, s7, s8, s9, s10, s11, s12, s13, s14, s15, .val (tP R), s17, s18, s19, s20, s21, s22, .no, .no, .no, .no, .no] st = some (true, .lst (((upto m).filter fun _ => true).map fun i => tupI [i, if i + 1 < m then i + 1 else 0]), [s0, .val (.hd 1), .own ps, .val (.int t), .val (.int m), s5, s6, s7, s8, s9, s10, s11, s12, s13, s14, s15, .val (tP R), s17, s18, s19, s20, s21, s22, .no, .no, .no, .no, .no], st) := by
    refine ev_fm (enc := D.int) (upto m) (fun _ => true) (fun i => tupI [i, if i + 1 < m then i + 1 else 0]) (fun i => [s0, .val (.hd 1), .own ps, .val (.int t), .val (.int m), s5, s6, s7, s8, s9, s10, s11, s12, s13, s14, s15, .val (tP R), s17, s18, s19, s20, s21, s22, .no, .no, .val (.int i), .no, .no]) (by simp [exSs, exS, evE, evEs, evT, Pv.evI, evC, evTg, evTgs, evO, vv, up, one, retE, Option.bind_eq_bind, Option.bind_some, Option.map_some, Option.pure_def, List.getElem?_cons_zero, List.getElem?_cons_succ, List.set_cons_zero, List.set_cons_succ, asgN, asgSub, setIx, opD, addD, mulD, biD, cmpD, ixD, ixL, lenD, slotSeq, slotLst, truD, List.length_cons, List.length_nil, if_true, if_false, Bool.false_eq_true, reduceIte, mthHR, mthR, mtD, slD, seqOf, wipeE, Tgs.len, Pv.unpack, Option.map_none, Option.bind_none, augD, revD, List.map_cons, List.map_nil, isiD, ty, List.any_cons, List.any_nil, rngD1 (n := (m : Int)) (by omega) (by omega), rng_upto]) (by simp [exSs, exS, evE, evEs, evT, Pv.evI, evC, evTg, evTgs, evO, vv, up, one, retE, Option.bind_eq_bind, Option.bind_some, Option.map_some, Option.pure_def, List.getElem?_cons_zero, List.getElem?_cons_succ, List.set_cons_zero, List.set_cons_succ, asgN, asgSub, setIx, opD, addD, mulD, biD, cmpD, ixD, ixL, lenD, slotSeq, slotLst, truD, List.length_cons, List.length_nil, if_true, if_false, Bool.false_eq_true, reduceIte, mthHR, mthR, mtD, slD, seqOf, wipeE, Tgs.len, Pv.unpack, Option.map_none, Option.bind_none, augD, revD, List.map_cons, List.map_nil, isiD, ty, List.any_cons, List.any_nil]) (by rw [upto_len]; unfold lim; omega) fun i _ => ?_
    refine ⟨by simp [exSs, exS, evE, evEs, evT, Pv.evI, evC, evTg, evTgs, evO, vv, up, one, retE, Option.bind_eq_bind, Option.bind_some, Option.map_some, Option.pure_def, List.getElem?_cons_zero, List.getElem?_cons_succ, List.set_cons_zero, List.set_cons_succ, asgN, asgSub, setIx, opD, addD, mulD, biD, cmpD, ixD, ixL, lenD, slotSeq, slotLst, truD, List.length_cons, List.length_nil, if_true, if_false, Bool.false_eq_true, reduceIte, mthHR, mthR, mtD, slD, seqOf, wipeE, Tgs.len, Pv.unpack, Option.map_none, Option.bind_none, augD, revD, List.map_cons, List.map_nil, isiD, ty, List.any_cons, List.any_nil], by simp [exSs, exS, evE, evEs, evT, Pv.evI, evC, evTg, evTgs, evO, vv, up, one, retE, Option.bind_eq_bind, Option.bind_some, Option.map_some, Option.pure_def, List.getElem?_cons_zero, List.getElem?_cons_succ, List.set_cons_zero, List.set_cons_succ, asgN, asgSub, setIx, opD, addD, mulD, biD, cmpD, ixD, ixL, lenD, slotSeq, slotLst, truD, List.length_cons, List.length_nil, if_true, if_false, Bool.false_eq_true, reduceIte, mthHR, mthR, mtD, slD, seqOf, wipeE, Tgs.len, Pv.unpack, Option.map_none, Option.bind_none, augD, revD, List.map_cons, List.map_nil, isiD, ty, List.any_cons, List.any_nil], fun _ => ?_, by simp [exSs, exS, evE, evEs, evT, Pv.evI, evC, evTg, evTgs, evO, vv, up, one, retE, Option.bind_eq_bind, Option.bind_some, Option.map_some, Option.pure_def, List.getElem?_cons_zero, List.getElem?_cons_succ, List.set_cons_zero, List.set_cons_succ, asgN, asgSub, setIx, opD, addD, mulD, biD, cmpD, ixD, ixL, lenD, slotSeq, slotLst, truD, List.length_cons, List.length_nil, if_true, if_false, Bool.false_eq_true, reduceIte, mthHR, mthR, mtD, slD, seqOf, wipeE, Tgs.len, Pv.unpack, Option.map_none, Option.bind_none, augD, revD, List.map_cons, List.map_nil, isiD, ty, List.any_cons, List.any_nil]⟩
    by_cases h : i + 1 < (m : Int) <;> simp [law_e3, exSs, exS, evE, evEs, evT, Pv.evI, evC, evTg, evTgs, evO, vv, up, one, retE, Option.bind_eq_bind, Option.bind_some, Option.map_some, Option.pure_def, List.getElem?_cons_zero, List.getElem?_cons_succ, List.set_cons_zero, List.set_cons_succ, asgN, asgSub, setIx, opD, addD, mulD, biD, cmpD, ixD, ixL, lenD, slotSeq, slotLst, truD, List.length_cons, List.length_nil, if_true, if_false, Bool.false_eq_true, reduceIte, mthHR, mthR, mtD, slD, seqOf, wipeE, Tgs.len, Pv.unpack, Option.map_none, Option.bind_none, augD, revD, List.map_cons, List.map_nil, isiD, ty, List.any_cons, List.any_nil, h, tupI, show (2 : Nat) ≤ lim by decide]
  rw [filt] at l1
  have hm1 : ((upto m).map fun i => tupI [i, if i + 1 < m then i + 1 else 0]) = (roundL m).map tupI := by unfold roundL; rw [List.map_map]; rfl
  rw [hm1] at l1
  generalize roundL m = Z at *
  generalize E.lc law_e3 _ _ _ _ = LC at l1 ⊢
  have fin : [R, [], Z].map tP = [tP R, .tup [], .tup (Z.map tupI)] := rfl
  rw [fin]
  simp [exSs, exS, evE, evEs, evT, Pv.evI, evC, evTg, evTgs, evO, vv, up, one, retE, Option.bind_eq_bind, Option.bind_some, Option.map_some, Option.pure_def, List.getElem?_cons_zero, List.getElem?_cons_succ, List.set_cons_zero, List.set_cons_succ, asgN, asgSub, setIx, opD, addD, mulD, biD, cmpD, ixD, ixL, lenD, slotSeq, slotLst, truD, List.length_cons, List.length_nil, if_true, if_false, Bool.false_eq_true, reduceIte, mthHR, mthR, mtD, slD, seqOf, wipeE, Tgs.len, Pv.unpack, Option.map_none, Option.bind_none, augD, revD, List.map_cons, List.map_nil, isiD, ty, List.any_cons, List.any_nil, l1, show (3 : Nat) ≤ lim by decide]
theorem b6_loop (st : Sto) {places : List Int} (h13 : Holds s13 (places.map D.int)) (hpl : places.Perm (upto m)) (hm : m ≤ 6) {S : List Pat} (hS : ∀ p ∈ S, PatS m p ∧ PatM m p) (hN : S.Nodup) (hl : S.length ≤ 7) : ∀ (Ls : List (List (List Int))) (n : Nat) (ps : List D) (s10 s11 s17 s18 s19 : Sl), Good ps n → n + 2 * Ls.length ≤ 10000 → (∀ L ∈ Ls, (∀ r ∈ L, RdM m r) ∧ L.length ≤ 100) →
    ∃ ps' s10' s11' s17' s18' s19', Good ps' (n + 2 * Ls.length) ∧ forL (evTg (T 11) (.n 17)) (exSs (T 11) law_b6) (Ls.map tP) [s0, .val (.hd 1), .own ps, .val (.int t), s4, s5, s6, s7, s8, s9, s10, s11, .val (tPP S), s13, .val (tPP (othersOf places S)), .own (((upto S.length).map (mv places S)).map D.int), s16, s17, s18, s19, s20, s21, s22, .no, .no, .no, .no, .no] st =
      some (.nx, (fun s10 s11 s17 s18 s19 => [s0, .val (.hd 1), .own ps', .val (.int t), s4, s5, s6, s7, s8, s9, s10, s11, .val (tPP S), s13, .val (tPP (othersOf places S)), .own (((upto S.length).map (mv places S)).map D.int), s16, s17, s18, s19, s20, s21, s22, .no, .no, .no, .no, .no]) s10' s11' s17' s18' s19', st)
  | [], n, ps, s10, s11, s17, s18, s19, hg, _, _ => ⟨ps, s10, s11, s17, s18, s19, by simpa using hg, rfl⟩
  | L :: Ls, n, ps, s10, s11, s17, s18, s19, hg, hn, hL => by
    rw [List.length_cons] at hn
    obtain ⟨h1, h2⟩ := hL L List.mem_cons_self
    obtain ⟨ps1, a18, a19, g1, e1⟩ := b6_run (s0 := s0) (s4 := s4) (s5 := s5) (s6 := s6) (s7 := s7) (s8 := s8) (s9 := s9) (s10 := s10) (s11 := s11) (s16 := s16) (s18 := s18) (s19 := s19) (s20 := s20) (s21 := s21) (s22 := s22) (t := t) st hg (by omega) h13 hpl hm hS hN hl h1 h2
    obtain ⟨ps2, b10, b11, b17, b18, b19, g2, e2⟩ := b6_loop st h13 hpl hm hS hN hl Ls (n + 2) ps1 .no .no (.val (tP L)) a18 a19 g1 (by omega) fun x hx => hL x (List.mem_cons_of_mem _ hx)
    refine ⟨ps2, b10, b11, b17, b18, b19, by rw [List.length_cons, show n + 2 * (Ls.length + 1) = n + 2 + 2 * Ls.length by omega]; exact g2, ?_⟩
    have e0 : evTg (T 11) (.n 17) (tP L) [s0, .val (.hd 1), .own ps, .val (.int t), s4, s5, s6, s7, s8, s9, s10, s11, .val (tPP S), s13, .val (tPP (othersOf places S)), .own (((upto S.length).map (mv places S)).map D.int), s16, s17, s18, s19, s20, s21, s22, .no, .no, .no, .no, .no] st = some ([s0, .val (.hd 1), .own ps, .val (.int t), s4, s5, s6, s7, s8, s9, s10, s11, .val (tPP S), s13, .val (tPP (othersOf places S)), .own (((upto S.length).map (mv places S)).map D.int), s16, .val (tP L), s18, s19, s20, s21, s22, .no, .no, .no, .no, .no], st) := by
      generalize ((upto S.length).map (mv places S)).map D.int = MV
      simp [exSs, exS, evE, evEs, evT, Pv.evI, evC, evTg, evTgs, evO, vv, up, one, retE, Option.bind_eq_bind, Option.bind_some, Option.map_some, Option.pure_def, List.getElem?_cons_zero, List.getElem?_cons_succ, List.set_cons_zero, List.set_cons_succ, asgN, asgSub, setIx, opD, addD, mulD, biD, cmpD, ixD, ixL, lenD, slotSeq, slotLst, truD, List.length_cons, List.length_nil, if_true, if_false, Bool.false_eq_true, reduceIte, mthHR, mthR, mtD, slD, seqOf, wipeE, Tgs.len, Pv.unpack, Option.map_none, Option.bind_none, augD, revD, List.map_cons, List.map_nil, isiD, ty, List.any_cons, List.any_nil]
    simp only [List.map_cons, forL, e0, e1, e2, Option.bind_eq_bind, Option.bind_some]
end
/-! ## a turn -/
def JJ (n : Nat) (ρ : Pv.Env) (st : Sto) : Prop := ∃ (s0 s3 s4 s5 s6 s7 s8 s9 s10 s11 s12 s13 s14 s15 s16 s17 s18 s19 s20 s21 s22 : Sl) (ps : List D), ρ = [s0, .val (.hd 1), .own ps, s3, s4, s5, s6, s7, s8, s9, s10, s11, s12, s13, s14, s15, s16, s17, s18, s19, s20, s21, s22, .no, .no, .no, .no, .no] ∧ Good ps n ∧ Deal st
theorem stepX {P : Tb} {s : S} {ss : Ss} {ρ ρ1 : Pv.Env} {st st1 : Sto} {Q : Pv.Env → Sto → Prop} (h : exS P s ρ st = some (.nx, ρ1, st1)) (k : ∃ ρ' st', exSs P ss ρ1 st1 = some (.nx, ρ', st') ∧ Q ρ' st') : ∃ ρ' st', exSs P (.cons s ss) ρ st = some (.nx, ρ', st') ∧ Q ρ' st' := by
  obtain ⟨ρ', st', e, q⟩ := k
  exact ⟨ρ', st', (sq h).trans e, q⟩
theorem turn_run {n : Nat} {st : Sto} {t : Int} (s0 s4 s5 s6 s7 s8 s9 s10 s11 s12 s13 s14 s15 s16 s17 s18 s19 s20 s21 s22 : Sl) (ps : List D) (hg : Good ps n) (hn : n ≤ 1000) (hd : Deal st) :
    ∃ ρ' st', exSs (T 11) law_b12 [s0, .val (.hd 1), .own ps, .val (.int t), s4, s5, s6, s7, s8, s9, s10, s11, s12, s13, s14, s15, s16, s17, s18, s19, s20, s21, s22, .no, .no, .no, .no, .no] st = some (.nx, ρ', st') ∧ JJ (n + 16) ρ' st' := by
  obtain ⟨a, s, l, st1, e1, ha, hs, hl, d1⟩ := st_draw (s0 := s0) (s4 := s4) (s5 := s5) (s6 := s6) (s7 := s7) (s8 := s8) (s9 := s9) (s10 := s10) (s11 := s11) (s12 := s12) (s13 := s13) (s14 := s14) (s15 := s15) (s16 := s16) (s17 := s17) (s18 := s18) (s19 := s19) (s20 := s20) (s21 := s21) (s22 := s22) (ps := ps) (t := t) hd
  obtain ⟨m, hm⟩ : ∃ m : Nat, 1 + a = (m : Int) := ⟨(1 + a).toNat, by omega⟩
  rw [hm] at e1
  have hm5 : 1 ≤ (m : Int) ∧ (m : Int) ≤ 5 := by omega
  obtain ⟨f1, f2, f3, f4, f5⟩ := fin_of (m := (m : Int)) (s := s) (l := l) hm5 (by omega) (by omega)
  have fS : ∀ p ∈ allPats m s l, PatS m p := fun p hp => pats_short (by omega) (by omega) (by omega) hp
  unfold law_b12
  refine stepX e1 ?_
  refine stepX (st_due st1 hm5 (by omega) (by omega)) ?_
  refine stepX (st_told st1 hm5 (by omega) (by omega)) ?_
  obtain ⟨t10, t11, e4⟩ := st_many (s0 := s0) (s7 := .val (tPP (allPats m s l))) (s9 := .val (tPP (allPats m s l))) (s10 := s10) (s11 := s11) (s12 := s12) (s13 := s13) (s14 := s14) (s15 := s15) (s16 := s16) (s17 := s17) (s18 := s18) (s19 := s19) (s20 := s20) (s21 := s21) (s22 := s22) (ps := ps) (t := t) st1 hm5 (s := s) (l := l) (by omega) (by omega)
  refine stepX e4 ?_
  clear e1 e4
  generalize allPats m s l = P at *
  generalize manyOf m s l = c at *
  refine stepX (st_pair st1 hg (by omega) P f2) ?_
  have g1 := (hg.app (ok_tPP (ps := P) (by omega) fun p hp => (fS p hp).len)).app (ok_int c)
  generalize ps ++ [pr (tPP P)] ++ [pr (.int c)] = ps1 at *
  obtain ⟨S, st2, e6, S1, S2, S3, d2⟩ := st_some (s0 := s0) (s4 := .val (.int m)) (s5 := .val (.int s)) (s6 := .val (.int l)) (s8 := .val (.int c)) (s9 := .val (tPP P)) (s10 := t10) (s11 := t11) (s12 := s12) (s13 := s13) (s14 := s14) (s15 := s15) (s16 := s16) (s17 := s17) (s18 := s18) (s19 := s19) (s20 := s20) (s21 := s21) (s22 := s22) (ps := ps1) (t := t) d1 P f5 f4
  refine stepX e6 ?_
  have hS : ∀ p ∈ S, PatS m p ∧ PatM m p := fun p hp => by
    have h1 := fS p (S3 p hp)
    obtain ⟨x, y, rfl, hx, hy⟩ := h1.two
    exact ⟨h1, ⟨⟨x, y, rfl, hx.1, hy.1⟩, f3 _ (S3 _ hp)⟩⟩
  refine stepX (st_faulty st2 g1 (by omega) (fun p hp => (hS p hp).1.ok) S2) ?_
  have g2 := g1.many (S.map fun p => tupI (faulty p)) fun d hd => by
    obtain ⟨p, hp, rfl⟩ := List.mem_map.mp hd
    exact ok_tupI (by have := (hS p hp).1.faulty; omega)
  rw [List.length_map] at g2
  generalize ps1 ++ (S.map fun p => tupI (faulty p)).map pr = ps2 at *
  refine stepX (st_goes st2 g2 (by omega) S2) ?_
  have hgl : (goesN S.length).length ≤ 49 := by
    rw [goesN, pairsL_len, upto_len]; exact Nat.mul_le_mul S2 S2
  have g3 := g2.app (ok_tP (p := goesN S.length) (by omega) fun g hg => by
    obtain ⟨i, j, rfl, _⟩ := goesN_mem hg
    simp)
  generalize ps2 ++ [pr (tP (goesN S.length))] = ps3 at *
  obtain ⟨places, st3, e9, pp, d3⟩ := st_places (s0 := s0) (s5 := .val (.int s)) (s6 := .val (.int l)) (s7 := .val (tPP P)) (s8 := .val (.int c)) (s9 := .val (tPP P)) (s10 := t10) (s11 := t11) (s12 := .val (tPP S)) (s13 := s13) (s14 := s14) (s15 := s15) (s16 := s16) (s17 := s17) (s18 := s18) (s19 := s19) (s20 := s20) (s21 := s21) (s22 := s22) (ps := ps3) (t := t) d2 (m := m) (by omega)
  refine stepX e9 ?_
  have plen : places.length = m := by rw [pp.length_eq, upto_len]
  have hS' : ∀ p ∈ S, PatS places.length p := fun p hp => by rw [plen]; exact (hS p hp).1
  obtain ⟨u13, h13, e10⟩ := st_others (s0 := s0) (s4 := .val (.int m)) (s5 := .val (.int s)) (s6 := .val (.int l)) (s7 := .val (tPP P)) (s8 := .val (.int c)) (s9 := .val (tPP P)) (s10 := t10) (s11 := t11) (s14 := s14) (s15 := s15) (s16 := s16) (s17 := s17) (s18 := s18) (s19 := s19) (s20 := s20) (s21 := s21) (s22 := s22) (ps := ps3) (t := t) st3 hS' S2
  refine stepX e10 ?_
  obtain ⟨v13, k13, e11⟩ := st_moved (s0 := s0) (s4 := .val (.int m)) (s5 := .val (.int s)) (s6 := .val (.int l)) (s7 := .val (tPP P)) (s8 := .val (.int c)) (s9 := .val (tPP P)) (s10 := t10) (s11 := t11) (s15 := s15) (s16 := s16) (s17 := s17) (s18 := s18) (s19 := s19) (s20 := s20) (s21 := s21) (s22 := s22) (ps := ps3) (t := t) st3 h13 hS' S2
  refine stepX e11 ?_
  obtain ⟨R, st4, e12, R1, R2, d4⟩ := st_roads (s0 := s0) (s5 := .val (.int s)) (s6 := .val (.int l)) (s7 := .val (tPP P)) (s8 := .val (.int c)) (s9 := .val (tPP P)) (s10 := t10) (s11 := t11) (s12 := .val (tPP S)) (s13 := v13) (s14 := .val (tPP (othersOf places S))) (s15 := .own (((upto S.length).map (mv places S)).map D.int)) (s16 := s16) (s17 := s17) (s18 := s18) (s19 := s19) (s20 := s20) (s21 := s21) (s22 := s22) (ps := ps3) (t := t) d3 (m := m) (by omega)
  refine stepX e12 ?_
  have hrl : (roundL m).length ≤ 100 := by unfold roundL; rw [List.length_map, upto_len]; omega
  obtain ⟨ps4, w10, w11, w17, w18, w19, g4, e13⟩ := b6_loop (s0 := s0) (s4 := .val (.int m)) (s5 := .val (.int s)) (s6 := .val (.int l)) (s7 := .val (tPP P)) (s8 := .val (.int c)) (s9 := .val (tPP P)) (s16 := .val (tP R)) (s20 := s20) (s21 := s21) (s22 := s22) (t := t) st4 k13 pp (by omega) hS S1 S2 [R, [], roundL m] _ ps3 t10 t11 s17 s18 s19 g3 (by simp; omega) (fun L hL => by
    simp at hL
    rcases hL with rfl | rfl | rfl
    · exact ⟨R1, R2⟩
    · exact ⟨fun _ h => by simp at h, by simp⟩
    · exact ⟨fun r hr => roundL_ok (by omega) hr, hrl⟩)
  have la := lates (s0 := s0) (s5 := .val (.int s)) (s6 := .val (.int l)) (s7 := .val (tPP P)) (s8 := .val (.int c)) (s9 := .val (tPP P)) (s10 := t10) (s11 := t11) (s12 := .val (tPP S)) (s13 := v13) (s14 := .val (tPP (othersOf places S))) (s15 := .own (((upto S.length).map (mv places S)).map D.int)) (s17 := s17) (s18 := s18) (s19 := s19) (s20 := s20) (s21 := s21) (s22 := s22) (ps := ps3) (t := t) (m := m) st4 (by omega) R
  refine ⟨_, st4, sq1 (ex_for la e13), _, _, _, _, _, _, _, _, _, _, _, _, _, _, _, _, _, _, _, _, _, ps4, rfl, g4.mono (by simp; omega), d4⟩
end Lk35

namespace Lk35
open PySem PySem.Spec PyProof.Rows L2 Pv
theorem turns : ∀ (ts : List Int) (n : Nat) (ρ : Pv.Env) (st : Sto), JJ n ρ st → n + 16 * ts.length ≤ 1000 → ∃ ρ' st', forL (evTg (T 11) (.n 3)) (exSs (T 11) law_b12) (ts.map D.int) ρ st = some (.nx, ρ', st') ∧ JJ (n + 16 * ts.length) ρ' st'
  | [], n, ρ, st, h, _ => ⟨ρ, st, rfl, by simpa using h⟩
  | t :: ts, n, ρ, st, h, hn => by
    rw [List.length_cons] at hn
    obtain ⟨s0, s3, s4, s5, s6, s7, s8, s9, s10, s11, s12, s13, s14, s15, s16, s17, s18, s19, s20, s21, s22, ps, rfl, hg, hd⟩ := h
    obtain ⟨ρ1, st1, e1, j1⟩ := turn_run (t := t) s0 s4 s5 s6 s7 s8 s9 s10 s11 s12 s13 s14 s15 s16 s17 s18 s19 s20 s21 s22 ps hg (by omega) hd
    obtain ⟨ρ2, st2, e2, j2⟩ := turns ts (n + 16) ρ1 st1 j1 (by omega)
    refine ⟨ρ2, st2, ?_, by rw [List.length_cons, show n + 16 * (ts.length + 1) = n + 16 + 16 * ts.length by omega]; exact j2⟩
    have e0 : evTg (T 11) (.n 3) (.int t) [s0, .val (.hd 1), .own ps, s3, s4, s5, s6, s7, s8, s9, s10, s11, s12, s13, s14, s15, s16, s17, s18, s19, s20, s21, s22, .no, .no, .no, .no, .no] st = some ([s0, .val (.hd 1), .own ps, .val (.int t), s4, s5, s6, s7, s8, s9, s10, s11, s12, s13, s14, s15, s16, s17, s18, s19, s20, s21, s22, .no, .no, .no, .no, .no], st) := by simp [exSs, exS, evE, evEs, evT, Pv.evI, evC, evTg, evTgs, evO, vv, up, one, retE, Option.bind_eq_bind, Option.bind_some, Option.map_some, Option.pure_def, List.getElem?_cons_zero, List.getElem?_cons_succ, List.set_cons_zero, List.set_cons_succ, asgN, asgSub, setIx, opD, addD, mulD, biD, cmpD, ixD, ixL, lenD, slotSeq, slotLst, truD, List.length_cons, List.length_nil, if_true, if_false, Bool.false_eq_true, reduceIte, mthHR, mthR, mtD, slD, seqOf, wipeE, Tgs.len, Pv.unpack, Option.map_none, Option.bind_none, augD, revD, List.map_cons, List.map_nil, isiD, ty, List.any_cons, List.any_nil]
    simp only [List.map_cons, forL, e0, e1, e2, Option.bind_eq_bind, Option.bind_some]
/-! ## a round -/
section
variable {s0 s3 s4 s5 s6 s7 s8 s9 s10 s11 s12 s13 s14 s15 s16 s17 s18 s19 s20 s21 s22 : Sl} {ps : List D} {n : Int}
theorem st_ones {st : Sto} (hd : Deal st) (hn : 2 ≤ n ∧ n ≤ 6) : ∃ (O : List Pat) (st' : Sto), exS (T 11) (.asg 20 (.ite (.e (.cmp .Eq (.call "_law_any" (.cons (.v 1) (.cons (.k (.int 2)) .nil))) (.k (.int 0)))) (.call "all_patterns" (.cons (.v 8) (.cons (.k (.int 1)) (.cons (.k (.int 0)) .nil)))) (.call "all_patterns" (.cons (.v 8) (.cons (.k (.int 0)) (.cons (.k (.int 1)) .nil)))))) [s0, .val (.hd 1), .own ps, s3, s4, s5, s6, s7, .val (.int n), s9, s10, s11, s12, s13, s14, s15, s16, s17, s18, s19, s20, s21, s22, .no, .no, .no, .no, .no] st =
    some (.nx, [s0, .val (.hd 1), .own ps, s3, s4, s5, s6, s7, .val (.int n), s9, s10, s11, s12, s13, s14, s15, s16, s17, s18, s19, .val (tPP O), s21, s22, .no, .no, .no, .no, .no], st') ∧ (∀ p ∈ O, PatOk p) ∧ ((O.length : Nat) : Int) = n + 1 ∧ (((roadGoes O (thereN n)).length : Nat) : Int) = 4 * n + 1 ∧ (((roadGoes O (bothI n)).length : Nat) : Int) = (if n > 2 then 5 * n + 1 else 9) ∧ (((roadGoes O []).length : Nat) : Int) = 3 * n + 1 ∧ ((bothI n).length ≤ 100 ∧ ∀ r ∈ bothI n, RdOk r) ∧ Deal st' := by
  obtain ⟨a, st1, e1, a0, a1, d1⟩ := any11 (b := 2) (by decide) (by decide) hd
  have f := fin_round n (by simp; omega)
  have s60 : ∀ i : Int, sh 60 (.int i) = true := fun _ => rfl
  have key : ∀ s l : Int, 0 ≤ s → 0 ≤ l → roundOk n s l = true → (∀ p ∈ allPats n s l, PatOk p) ∧ (((allPats n s l).length : Nat) : Int) = n + 1 ∧ (((roadGoes (allPats n s l) (thereN n)).length : Nat) : Int) = 4 * n + 1 ∧ (((roadGoes (allPats n s l) (bothI n)).length : Nat) : Int) = (if n > 2 then 5 * n + 1 else 9) ∧ (((roadGoes (allPats n s l) []).length : Nat) : Int) = 3 * n + 1 ∧ ((bothI n).length ≤ 100 ∧ ∀ r ∈ bothI n, RdOk r) := fun s l hs hl h => by
    unfold roundOk at h
    simp only [Bool.and_eq_true, decide_eq_true_eq, List.all_eq_true, beq_iff_eq] at h
    rw [roadGoes_I, roadGoes_I, roadGoes_I, allPats_I]
    refine ⟨fun p hp => ?_, h.1.1.1.1.1, h.1.1.1.1.2, h.1.1.1.2, h.1.1.2, h.2, fun r hr => ?_⟩
    · rw [← allPats_I] at hp
      exact (pats_short (m := n) (s := s) (l := l) (by omega) hs hl hp).ok
    · have := h.1.2 r hr
      match r, this with
      | [x, y], _ => exact ⟨x, y, rfl⟩
  by_cases h : a = 0
  · subst h
    have e2 := pats_run 9 st1 (m := n) (s := 1) (l := 0) (by omega) (by decide) (by decide)
    obtain ⟨k1, k2, k3, k4, k5, k6⟩ := key 1 0 (by decide) (by decide) f.1
    exact ⟨allPats n 1 0, st1, by simp [exSs, exS, evE, evEs, evT, Pv.evI, evC, evTg, evTgs, evO, vv, up, one, retE, Option.bind_eq_bind, Option.bind_some, Option.map_some, Option.pure_def, List.getElem?_cons_zero, List.getElem?_cons_succ, List.set_cons_zero, List.set_cons_succ, asgN, asgSub, setIx, opD, addD, mulD, biD, cmpD, ixD, ixL, lenD, slotSeq, slotLst, truD, List.length_cons, List.length_nil, if_true, if_false, Bool.false_eq_true, reduceIte, mthHR, mthR, mtD, slD, seqOf, wipeE, Tgs.len, Pv.unpack, Option.map_none, Option.bind_none, augD, revD, List.map_cons, List.map_nil, isiD, ty, List.any_cons, List.any_nil, e1, e2, s60, eqv_int], k1, k2, k3, k4, k5, k6, d1⟩
  · have e2 := pats_run 9 st1 (m := n) (s := 0) (l := 1) (by omega) (by decide) (by decide)
    obtain ⟨k1, k2, k3, k4, k5, k6⟩ := key 0 1 (by decide) (by decide) f.2
    exact ⟨allPats n 0 1, st1, by simp [exSs, exS, evE, evEs, evT, Pv.evI, evC, evTg, evTgs, evO, vv, up, one, retE, Option.bind_eq_bind, Option.bind_some, Option.map_some, Option.pure_def, List.getElem?_cons_zero, List.getElem?_cons_succ, List.set_cons_zero, List.set_cons_succ, asgN, asgSub, setIx, opD, addD, mulD, biD, cmpD, ixD, ixL, lenD, slotSeq, slotLst, truD, List.length_cons, List.length_nil, if_true, if_false, Bool.false_eq_true, reduceIte, mthHR, mthR, mtD, slD, seqOf, wipeE, Tgs.len, Pv.unpack, Option.map_none, Option.bind_none, augD, revD, List.map_cons, List.map_nil, isiD, ty, List.any_cons, List.any_nil, e1, e2, s60, eqv_int, h], k1, k2, k3, k4, k5, k6, d1⟩
theorem st_there (st : Sto) (hn : 2 ≤ n ∧ n ≤ 6) : exS (T 11) (.asg 21 (.lc law_e1 (.n 25) (.rng (.cons (.v 8) .nil)) .no [("at", 25)])) [s0, .val (.hd 1), .own ps, s3, s4, s5, s6, s7, .val (.int n), s9, s10, s11, s12, s13, s14, s15, s16, s17, s18, s19, s20, s21, s22, .no, .no, .no, .no, .no] st =
    some (.nx, [s0, .val (.hd 1), .own ps, s3, s4, s5, s6, s7, .val (.int n), s9, s10, s11, s12, s13, s14, s15, s16, s17, s18, s19, s20, .own ((thereN n).map tupI), s22, .no, .no, .no, .no, .no], st) := by
  have l1 : evE (T 11) (.lc law_e1 (.n 25) (.rng (.cons (.v 8) .nil)) .no [("at", 25)]) [s0, .val (.hd 1), .own ps, s3, s4, s5, s6, s7, .val (.int n), s9, s10, s11, s12, s13, s14, s15, s16, s17, s18, s19, s20, s21, s22, .no, .no, .no, .no, .no] st = some (true, .lst (((rg 0 n).filter fun _ => true).map fun i => tupI [i, (i + 1) % n]), [s0, .val (.hd 1), .own ps, s3, s4, s5, s6, s7, .val (.int n), s9, s10, s11, s12, s13, s14, s15, s16, s17, s18, s19, s20, s21, s22, .no, .no, .no, .no, .no], st) := by
    have n0 : 0 < n := by omega
    refine ev_fm (enc := D.int) (rg 0 n) (fun _ => true) (fun i => tupI [i, (i + 1) % n]) (fun i => [s0, .val (.hd 1), .own ps, s3, s4, s5, s6, s7, .val (.int n), s9, s10, s11, s12, s13, s14, s15, s16, s17, s18, s19, s20, s21, s22, .no, .no, .val (.int i), .no, .no]) (by simp [exSs, exS, evE, evEs, evT, Pv.evI, evC, evTg, evTgs, evO, vv, up, one, retE, Option.bind_eq_bind, Option.bind_some, Option.map_some, Option.pure_def, List.getElem?_cons_zero, List.getElem?_cons_succ, List.set_cons_zero, List.set_cons_succ, asgN, asgSub, setIx, opD, addD, mulD, biD, cmpD, ixD, ixL, lenD, slotSeq, slotLst, truD, List.length_cons, List.length_nil, if_true, if_false, Bool.false_eq_true, reduceIte, mthHR, mthR, mtD, slD, seqOf, wipeE, Tgs.len, Pv.unpack, Option.map_none, Option.bind_none, augD, revD, List.map_cons, List.map_nil, isiD, ty, List.any_cons, List.any_nil, rngD1 (n := n) (by omega) (by omega), rng_rg]) (by simp [exSs, exS, evE, evEs, evT, Pv.evI, evC, evTg, evTgs, evO, vv, up, one, retE, Option.bind_eq_bind, Option.bind_some, Option.map_some, Option.pure_def, List.getElem?_cons_zero, List.getElem?_cons_succ, List.set_cons_zero, List.set_cons_succ, asgN, asgSub, setIx, opD, addD, mulD, biD, cmpD, ixD, ixL, lenD, slotSeq, slotLst, truD, List.length_cons, List.length_nil, if_true, if_false, Bool.false_eq_true, reduceIte, mthHR, mthR, mtD, slD, seqOf, wipeE, Tgs.len, Pv.unpack, Option.map_none, Option.bind_none, augD, revD, List.map_cons, List.map_nil, isiD, ty, List.any_cons, List.any_nil]) (by rw [rg_len]; unfold lim; omega) fun i _ => ?_
    exact ⟨by simp [exSs, exS, evE, evEs, evT, Pv.evI, evC, evTg, evTgs, evO, vv, up, one, retE, Option.bind_eq_bind, Option.bind_some, Option.map_some, Option.pure_def, List.getElem?_cons_zero, List.getElem?_cons_succ, List.set_cons_zero, List.set_cons_succ, asgN, asgSub, setIx, opD, addD, mulD, biD, cmpD, ixD, ixL, lenD, slotSeq, slotLst, truD, List.length_cons, List.length_nil, if_true, if_false, Bool.false_eq_true, reduceIte, mthHR, mthR, mtD, slD, seqOf, wipeE, Tgs.len, Pv.unpack, Option.map_none, Option.bind_none, augD, revD, List.map_cons, List.map_nil, isiD, ty, List.any_cons, List.any_nil], by simp [exSs, exS, evE, evEs, evT, Pv.evI, evC, evTg, evTgs, evO, vv, up, one, retE, Option.bind_eq_bind, Option.bind_some, Option.map_some, Option.pure_def, List.getElem?_cons_zero, List.getElem?_cons_succ, List.set_cons_zero, List.set_cons_succ, asgN, asgSub, setIx, opD, addD, mulD, biD, cmpD, ixD, ixL, lenD, slotSeq, slotLst, truD, List.length_cons, List.length_nil, if_true, if_false, Bool.false_eq_true, reduceIte, mthHR, mthR, mtD, slD, seqOf, wipeE, Tgs.len, Pv.unpack, Option.map_none, Option.bind_none, augD, revD, List.map_cons, List.map_nil, isiD, ty, List.any_cons, List.any_nil], fun _ => by simp [law_e1, exSs, exS, evE, evEs, evT, Pv.evI, evC, evTg, evTgs, evO, vv, up, one, retE, Option.bind_eq_bind, Option.bind_some, Option.map_some, Option.pure_def, List.getElem?_cons_zero, List.getElem?_cons_succ, List.set_cons_zero, List.set_cons_succ, asgN, asgSub, setIx, opD, addD, mulD, biD, cmpD, ixD, ixL, lenD, slotSeq, slotLst, truD, List.length_cons, List.length_nil, if_true, if_false, Bool.false_eq_true, reduceIte, mthHR, mthR, mtD, slD, seqOf, wipeE, Tgs.len, Pv.unpack, Option.map_none, Option.bind_none, augD, revD, List.map_cons, List.map_nil, isiD, ty, List.any_cons, List.any_nil, n0, tupI, show (2 : Nat) ≤ lim by decide], by simp [exSs, exS, evE, evEs, evT, Pv.evI, evC, evTg, evTgs, evO, vv, up, one, retE, Option.bind_eq_bind, Option.bind_some, Option.map_some, Option.pure_def, List.getElem?_cons_zero, List.getElem?_cons_succ, List.set_cons_zero, List.set_cons_succ, asgN, asgSub, setIx, opD, addD, mulD, biD, cmpD, ixD, ixL, lenD, slotSeq, slotLst, truD, List.length_cons, List.length_nil, if_true, if_false, Bool.false_eq_true, reduceIte, mthHR, mthR, mtD, slD, seqOf, wipeE, Tgs.len, Pv.unpack, Option.map_none, Option.bind_none, augD, revD, List.map_cons, List.map_nil, isiD, ty, List.any_cons, List.any_nil]⟩
  rw [filt] at l1
  have hm1 : ((rg 0 n).map fun i => tupI [i, (i + 1) % n]) = (thereN n).map tupI := by unfold thereN; rw [List.map_map]; rfl
  rw [hm1] at l1
  generalize thereN n = Z at *
  generalize E.lc law_e1 _ _ _ _ = LC at l1 ⊢
  simp [exSs, exS, evE, evEs, evT, Pv.evI, evC, evTg, evTgs, evO, vv, up, one, retE, Option.bind_eq_bind, Option.bind_some, Option.map_some, Option.pure_def, List.getElem?_cons_zero, List.getElem?_cons_succ, List.set_cons_zero, List.set_cons_succ, asgN, asgSub, setIx, opD, addD, mulD, biD, cmpD, ixD, ixL, lenD, slotSeq, slotLst, truD, List.length_cons, List.length_nil, if_true, if_false, Bool.false_eq_true, reduceIte, mthHR, mthR, mtD, slD, seqOf, wipeE, Tgs.len, Pv.unpack, Option.map_none, Option.bind_none, augD, revD, List.map_cons, List.map_nil, isiD, ty, List.any_cons, List.any_nil, l1]
theorem thereN_ok {r : List Int} (h : r ∈ thereN n) : RdOk r := by
  obtain ⟨i, _, rfl⟩ := List.mem_map.mp h
  exact ⟨_, _, rfl⟩
theorem thereN_len (hn : 2 ≤ n ∧ n ≤ 6) : (thereN n).length ≤ 6 := by unfold thereN; rw [List.length_map, rg_len]; omega
theorem st_both (st : Sto) (hn : 2 ≤ n ∧ n ≤ 6) : exS (T 11) (.asg 22 (.bi .tuple (.cons (.sset (.op .Add (.v 21) (.lc law_e0 (.tup (.cons (.n 26) (.cons (.n 27) .nil))) (.val (.v 21)) .no [("start", 26), ("end", 27)]))) .nil))) [s0, .val (.hd 1), .own ps, s3, s4, s5, s6, s7, .val (.int n), s9, s10, s11, s12, s13, s14, s15, s16, s17, s18, s19, s20, .own ((thereN n).map tupI), s22, .no, .no, .no, .no, .no] st =
    some (.nx, [s0, .val (.hd 1), .own ps, s3, s4, s5, s6, s7, .val (.int n), s9, s10, s11, s12, s13, s14, s15, s16, s17, s18, s19, s20, .val (.lst ((thereN n).map tupI)), .val (tP (bothI n)), .no, .no, .no, .no, .no], st) := by
  have hl := thereN_len hn
  have l1 : evE (T 11) (.lc law_e0 (.tup (.cons (.n 26) (.cons (.n 27) .nil))) (.val (.v 21)) .no [("start", 26), ("end", 27)]) [s0, .val (.hd 1), .own ps, s3, s4, s5, s6, s7, .val (.int n), s9, s10, s11, s12, s13, s14, s15, s16, s17, s18, s19, s20, .val (.lst ((thereN n).map tupI)), s22, .no, .no, .no, .no, .no] st = some (true, .lst (((thereN n).filter fun _ => true).map fun r => tupI (backR r)), [s0, .val (.hd 1), .own ps, s3, s4, s5, s6, s7, .val (.int n), s9, s10, s11, s12, s13, s14, s15, s16, s17, s18, s19, s20, .val (.lst ((thereN n).map tupI)), s22, .no, .no, .no, .no, .no], st) := by
    refine ev_fm (enc := tupI) (thereN n) (fun _ => true) (fun r => tupI (backR r)) (fun r => [s0, .val (.hd 1), .own ps, s3, s4, s5, s6, s7, .val (.int n), s9, s10, s11, s12, s13, s14, s15, s16, s17, s18, s19, s20, .val (.lst ((thereN n).map tupI)), s22, .no, .no, .no, .val (.int (r0 r)), .val (.int (r1 r))]) (by simp [exSs, exS, evE, evEs, evT, Pv.evI, evC, evTg, evTgs, evO, vv, up, one, retE, Option.bind_eq_bind, Option.bind_some, Option.map_some, Option.pure_def, List.getElem?_cons_zero, List.getElem?_cons_succ, List.set_cons_zero, List.set_cons_succ, asgN, asgSub, setIx, opD, addD, mulD, biD, cmpD, ixD, ixL, lenD, slotSeq, slotLst, truD, List.length_cons, List.length_nil, if_true, if_false, Bool.false_eq_true, reduceIte, mthHR, mthR, mtD, slD, seqOf, wipeE, Tgs.len, Pv.unpack, Option.map_none, Option.bind_none, augD, revD, List.map_cons, List.map_nil, isiD, ty, List.any_cons, List.any_nil]) (by simp [exSs, exS, evE, evEs, evT, Pv.evI, evC, evTg, evTgs, evO, vv, up, one, retE, Option.bind_eq_bind, Option.bind_some, Option.map_some, Option.pure_def, List.getElem?_cons_zero, List.getElem?_cons_succ, List.set_cons_zero, List.set_cons_succ, asgN, asgSub, setIx, opD, addD, mulD, biD, cmpD, ixD, ixL, lenD, slotSeq, slotLst, truD, List.length_cons, List.length_nil, if_true, if_false, Bool.false_eq_true, reduceIte, mthHR, mthR, mtD, slD, seqOf, wipeE, Tgs.len, Pv.unpack, Option.map_none, Option.bind_none, augD, revD, List.map_cons, List.map_nil, isiD, ty, List.any_cons, List.any_nil]) (by unfold lim; omega) fun r hr => ?_
    obtain ⟨b, e, rfl⟩ := thereN_ok hr
    exact ⟨by simp [exSs, exS, evE, evEs, evT, Pv.evI, evC, evTg, evTgs, evO, vv, up, one, retE, Option.bind_eq_bind, Option.bind_some, Option.map_some, Option.pure_def, List.getElem?_cons_zero, List.getElem?_cons_succ, List.set_cons_zero, List.set_cons_succ, asgN, asgSub, setIx, opD, addD, mulD, biD, cmpD, ixD, ixL, lenD, slotSeq, slotLst, truD, List.length_cons, List.length_nil, if_true, if_false, Bool.false_eq_true, reduceIte, mthHR, mthR, mtD, slD, seqOf, wipeE, Tgs.len, Pv.unpack, Option.map_none, Option.bind_none, augD, revD, List.map_cons, List.map_nil, isiD, ty, List.any_cons, List.any_nil, evTgs, tupI, r0, r1], by simp [exSs, exS, evE, evEs, evT, Pv.evI, evC, evTg, evTgs, evO, vv, up, one, retE, Option.bind_eq_bind, Option.bind_some, Option.map_some, Option.pure_def, List.getElem?_cons_zero, List.getElem?_cons_succ, List.set_cons_zero, List.set_cons_succ, asgN, asgSub, setIx, opD, addD, mulD, biD, cmpD, ixD, ixL, lenD, slotSeq, slotLst, truD, List.length_cons, List.length_nil, if_true, if_false, Bool.false_eq_true, reduceIte, mthHR, mthR, mtD, slD, seqOf, wipeE, Tgs.len, Pv.unpack, Option.map_none, Option.bind_none, augD, revD, List.map_cons, List.map_nil, isiD, ty, List.any_cons, List.any_nil], fun _ => by simp [law_e0, exSs, exS, evE, evEs, evT, Pv.evI, evC, evTg, evTgs, evO, vv, up, one, retE, Option.bind_eq_bind, Option.bind_some, Option.map_some, Option.pure_def, List.getElem?_cons_zero, List.getElem?_cons_succ, List.set_cons_zero, List.set_cons_succ, asgN, asgSub, setIx, opD, addD, mulD, biD, cmpD, ixD, ixL, lenD, slotSeq, slotLst, truD, List.length_cons, List.length_nil, if_true, if_false, Bool.false_eq_true, reduceIte, mthHR, mthR, mtD, slD, seqOf, wipeE, Tgs.len, Pv.unpack, Option.map_none, Option.bind_none, augD, revD, List.map_cons, List.map_nil, isiD, ty, List.any_cons, List.any_nil, tupI, backR, r0, r1, show (2 : Nat) ≤ lim by decide], by simp [exSs, exS, evE, evEs, evT, Pv.evI, evC, evTg, evTgs, evO, vv, up, one, retE, Option.bind_eq_bind, Option.bind_some, Option.map_some, Option.pure_def, List.getElem?_cons_zero, List.getElem?_cons_succ, List.set_cons_zero, List.set_cons_succ, asgN, asgSub, setIx, opD, addD, mulD, biD, cmpD, ixD, ixL, lenD, slotSeq, slotLst, truD, List.length_cons, List.length_nil, if_true, if_false, Bool.false_eq_true, reduceIte, mthHR, mthR, mtD, slD, seqOf, wipeE, Tgs.len, Pv.unpack, Option.map_none, Option.bind_none, augD, revD, List.map_cons, List.map_nil, isiD, ty, List.any_cons, List.any_nil]⟩
  rw [filt] at l1
  have hm1 : ((thereN n).map fun r => tupI (backR r)) = ((thereN n).map backR).map tupI := by rw [List.map_map]; rfl
  rw [hm1] at l1
  obtain ⟨po, se⟩ := both_eq hn
  have it := intsT_tup (bothN n)
  have hb : bothN n = thereN n ++ (thereN n).map backR := rfl
  rw [hb, List.map_append] at it
  rw [hb] at po se
  have hbl : ((thereN n).map backR).length ≤ 6 := by rw [List.length_map]; exact hl
  generalize (thereN n).map backR = Bk at *
  generalize thereN n = Z at *
  have h1 : Z.length + Bk.length ≤ lim := by unfold lim; omega
  have fin : tP (bothI n) = .tup ((ssetI (Z ++ Bk)).map tupI) := by rw [se]; rfl
  rw [fin]
  generalize E.lc law_e0 _ _ _ _ = LC at l1 ⊢
  simp [exSs, exS, evE, evEs, evT, Pv.evI, evC, evTg, evTgs, evO, vv, up, one, retE, Option.bind_eq_bind, Option.bind_some, Option.map_some, Option.pure_def, List.getElem?_cons_zero, List.getElem?_cons_succ, List.set_cons_zero, List.set_cons_succ, asgN, asgSub, setIx, opD, addD, mulD, biD, cmpD, ixD, ixL, lenD, slotSeq, slotLst, truD, List.length_cons, List.length_nil, if_true, if_false, Bool.false_eq_true, reduceIte, mthHR, mthR, mtD, slD, seqOf, wipeE, Tgs.len, Pv.unpack, Option.map_none, Option.bind_none, augD, revD, List.map_cons, List.map_nil, isiD, ty, List.any_cons, List.any_nil, l1, h1, it, po]
theorem len_tP (st : Sto) (Z : List (List Int)) : biD st .len [tP Z] = some (false, .int (Z.length : Nat)) := by
  show biD st .len [.tup (Z.map tupI)] = _
  simp [biD, lenD]
theorem st_lens1 (st : Sto) {g : Nat} (hg : Good ps g) (hgn : g ≤ 10000) (hn : 2 ≤ n ∧ n ≤ 6) {O : List Pat} (hO : ∀ p ∈ O, PatOk p) (h1 : ((O.length : Nat) : Int) = n + 1) (h2 : (((roadGoes O (thereN n)).length : Nat) : Int) = 4 * n + 1) :
    exS (T 11) (.asg 2 (.op .Add (.v 2) (.lst (.cons (.tup (.cons (.lenv 20) (.cons (.op .Add (.v 8) (.k (.int 1))) .nil))) (.cons (.tup (.cons (.bi .len (.cons (.call "road_goes" (.cons (.v 20) (.cons (.bi .tuple (.cons (.v 21) .nil)) .nil))) .nil)) (.cons (.op .Add (.op .Mult (.k (.int 4)) (.v 8)) (.k (.int 1))) .nil))) .nil))))) [s0, .val (.hd 1), .own ps, s3, s4, s5, s6, s7, .val (.int n), s9, s10, s11, s12, s13, s14, s15, s16, s17, s18, s19, .val (tPP O), .val (.lst ((thereN n).map tupI)), s22, .no, .no, .no, .no, .no] st =
    some (.nx, [s0, .val (.hd 1), .own (ps ++ [pr (.int (n + 1))] ++ [pr (.int (4 * n + 1))]), s3, s4, s5, s6, s7, .val (.int n), s9, s10, s11, s12, s13, s14, s15, s16, s17, s18, s19, .val (tPP O), .val (.lst ((thereN n).map tupI)), s22, .no, .no, .no, .no, .no], st) := by
  have e := roads_run 8 st hO (by omega) (roads := thereN n) (fun r hr => thereN_ok hr) (by have := thereN_len hn; omega)
  have h3 : slotSeq st (.val (tPP O)) = some (O.map tP) := rfl
  have h4 : ps.length + 2 ≤ lim := by have := hg.2; unfold lim; omega
  have b1 : Big 4 := by decide
  have b2 : Big n := big_small (by omega)
  have tp : biD st .tuple [.lst ((thereN n).map tupI)] = some (false, tP (thereN n)) := rfl
  generalize thereN n = Z at *
  have arg : evE (T 11) (.bi .len (.cons (.call "road_goes" (.cons (.v 20) (.cons (.bi .tuple (.cons (.v 21) .nil)) .nil))) .nil)) [s0, .val (.hd 1), .val (.lst ps), s3, s4, s5, s6, s7, .val (.int n), s9, s10, s11, s12, s13, s14, s15, s16, s17, s18, s19, .val (tPP O), .val (.lst (Z.map tupI)), s22, .no, .no, .no, .no, .no] st = some (false, .int (4 * n + 1), [s0, .val (.hd 1), .val (.lst ps), s3, s4, s5, s6, s7, .val (.int n), s9, s10, s11, s12, s13, s14, s15, s16, s17, s18, s19, .val (tPP O), .val (.lst (Z.map tupI)), s22, .no, .no, .no, .no, .no], st) := by
    have bl := len_tP st (roadGoes O Z)
    simp [evE, evEs, vv, up, tp, e, bl, h2]
  generalize E.bi Bi.len _ = AR at arg ⊢
  simp [evE, evEs, exS, vv, up, one, asgN, opD, addD, mulD, h3, arg, b1, b2, h1, h4, pr, show (2 : Nat) ≤ lim by decide]
theorem st_lens2 (st : Sto) {g : Nat} (hg : Good ps g) (hgn : g ≤ 10000) (hn : 2 ≤ n ∧ n ≤ 6) {O : List Pat} (hO : ∀ p ∈ O, PatOk p) (h0 : ((O.length : Nat) : Int) = n + 1) (hb : (bothI n).length ≤ 100 ∧ ∀ r ∈ bothI n, RdOk r) (h1 : (((roadGoes O (bothI n)).length : Nat) : Int) = (if n > 2 then 5 * n + 1 else 9)) (h2 : (((roadGoes O []).length : Nat) : Int) = 3 * n + 1) :
    exS (T 11) (.asg 2 (.op .Add (.v 2) (.lst (.cons (.tup (.cons (.bi .len (.cons (.call "road_goes" (.cons (.v 20) (.cons (.v 22) .nil))) .nil)) (.cons (.ite (.e (.cmp .Gt (.v 8) (.k (.int 2)))) (.op .Add (.op .Mult (.k (.int 5)) (.v 8)) (.k (.int 1))) (.k (.int 9))) .nil))) (.cons (.tup (.cons (.bi .len (.cons (.call "road_goes" (.cons (.v 20) (.cons (.tup .nil) .nil))) .nil)) (.cons (.op .Add (.op .Mult (.k (.int 3)) (.v 8)) (.k (.int 1))) .nil))) .nil))))) [s0, .val (.hd 1), .own ps, s3, s4, s5, s6, s7, .val (.int n), s9, s10, s11, s12, s13, s14, s15, s16, s17, s18, s19, .val (tPP O), s21, .val (tP (bothI n)), .no, .no, .no, .no, .no] st =
    some (.nx, [s0, .val (.hd 1), .own (ps ++ [pr (.int (if n > 2 then 5 * n + 1 else 9))] ++ [pr (.int (3 * n + 1))]), s3, s4, s5, s6, s7, .val (.int n), s9, s10, s11, s12, s13, s14, s15, s16, s17, s18, s19, .val (tPP O), s21, .val (tP (bothI n)), .no, .no, .no, .no, .no], st) := by
  have e1 := roads_run 8 st hO (by omega) (roads := bothI n) hb.2 (by omega)
  have e2 := roads_run 8 st hO (by omega) (roads := []) (fun _ h => by simp at h) (by simp)
  have h4 : ps.length + 2 ≤ lim := by have := hg.2; unfold lim; omega
  have b5 : Big 5 := by decide
  have b3 : Big 3 := by decide
  have b2 : Big n := big_small (by omega)
  have bl := len_tP st
  have e2' : Fc (8 + 3) "road_goes" [tPP O, .tup []] st = some (false, tP (roadGoes O []), st) := e2
  by_cases h : n > 2
  · rw [if_pos h] at h1 ⊢
    have h' : 2 < n := h
    simp [evE, evEs, evT, exS, vv, up, one, asgN, opD, addD, mulD, cmpD, truD, e1, e2', bl, h1, h2, h4, h', b5, b3, b2, pr, show (2 : Nat) ≤ lim by decide, show (0 : Nat) ≤ lim by decide]
  · rw [if_neg h] at h1 ⊢
    have h' : ¬ 2 < n := h
    simp [evE, evEs, evT, exS, vv, up, one, asgN, opD, addD, mulD, cmpD, truD, e1, e2', bl, h1, h2, h4, h', b3, b2, pr, show (2 : Nat) ≤ lim by decide, show (0 : Nat) ≤ lim by decide]
end
theorem round_run {g : Nat} {st : Sto} {n : Int} (hn : 2 ≤ n ∧ n ≤ 6) (s0 s3 s4 s5 s6 s7 s9 s10 s11 s12 s13 s14 s15 s16 s17 s18 s19 s20 s21 s22 : Sl) (ps : List D) (hg : Good ps g) (hgn : g ≤ 1000) (hd : Deal st) :
    ∃ ρ' st', exSs (T 11) law_b2 [s0, .val (.hd 1), .own ps, s3, s4, s5, s6, s7, .val (.int n), s9, s10, s11, s12, s13, s14, s15, s16, s17, s18, s19, s20, s21, s22, .no, .no, .no, .no, .no] st = some (.nx, ρ', st') ∧ JJ (g + 4) ρ' st' := by
  obtain ⟨O, st1, e1, h1, h2, h3, h4, h5, h6, d1⟩ := st_ones (s0 := s0) (s3 := s3) (s4 := s4) (s5 := s5) (s6 := s6) (s7 := s7) (s9 := s9) (s10 := s10) (s11 := s11) (s12 := s12) (s13 := s13) (s14 := s14) (s15 := s15) (s16 := s16) (s17 := s17) (s18 := s18) (s19 := s19) (s20 := s20) (s21 := s21) (s22 := s22) (ps := ps) hd hn
  unfold law_b2
  refine stepX e1 ?_
  refine stepX (st_there st1 hn) ?_
  refine stepX (st_both st1 hn) ?_
  refine stepX (st_lens1 st1 hg (by omega) hn h1 h2 h3) ?_
  have g1 := (hg.app (ok_int (n + 1))).app (ok_int (4 * n + 1))
  generalize ps ++ [pr (.int (n + 1))] ++ [pr (.int (4 * n + 1))] = ps1 at *
  refine stepX (st_lens2 st1 g1 (by omega) hn h1 h2 h6 h4 h5) ?_
  have g2 := (g1.app (ok_int (if n > 2 then 5 * n + 1 else 9))).app (ok_int (3 * n + 1))
  exact ⟨_, st1, rfl, _, _, _, _, _, _, _, _, _, _, _, _, _, _, _, _, _, _, _, _, _, _, rfl, g2, d1⟩
theorem rounds : ∀ (ts : List Int) (g : Nat) (ρ : Pv.Env) (st : Sto), JJ g ρ st → (∀ t ∈ ts, 2 ≤ t ∧ t ≤ 6) → g + 4 * ts.length ≤ 1000 → ∃ ρ' st', forL (evTg (T 11) (.n 8)) (exSs (T 11) law_b2) (ts.map D.int) ρ st = some (.nx, ρ', st') ∧ JJ (g + 4 * ts.length) ρ' st'
  | [], g, ρ, st, h, _, _ => ⟨ρ, st, rfl, by simpa using h⟩
  | t :: ts, g, ρ, st, h, ht, hn => by
    rw [List.length_cons] at hn
    obtain ⟨s0, s3, s4, s5, s6, s7, s8, s9, s10, s11, s12, s13, s14, s15, s16, s17, s18, s19, s20, s21, s22, ps, rfl, hg, hd⟩ := h
    obtain ⟨ρ1, st1, e1, j1⟩ := round_run (n := t) (ht t List.mem_cons_self) s0 s3 s4 s5 s6 s7 s9 s10 s11 s12 s13 s14 s15 s16 s17 s18 s19 s20 s21 s22 ps hg (by omega) hd
    obtain ⟨ρ2, st2, e2, j2⟩ := rounds ts (g + 4) ρ1 st1 j1 (fun x hx => ht x (List.mem_cons_of_mem _ hx)) (by omega)
    refine ⟨ρ2, st2, ?_, by rw [List.length_cons, show g + 4 * (ts.length + 1) = g + 4 + 4 * ts.length by omega]; exact j2⟩
    have e0 : evTg (T 11) (.n 8) (.int t) [s0, .val (.hd 1), .own ps, s3, s4, s5, s6, s7, s8, s9, s10, s11, s12, s13, s14, s15, s16, s17, s18, s19, s20, s21, s22, .no, .no, .no, .no, .no] st = some ([s0, .val (.hd 1), .own ps, s3, s4, s5, s6, s7, .val (.int t), s9, s10, s11, s12, s13, s14, s15, s16, s17, s18, s19, s20, s21, s22, .no, .no, .no, .no, .no], st) := by simp [exSs, exS, evE, evEs, evT, Pv.evI, evC, evTg, evTgs, evO, vv, up, one, retE, Option.bind_eq_bind, Option.bind_some, Option.map_some, Option.pure_def, List.getElem?_cons_zero, List.getElem?_cons_succ, List.set_cons_zero, List.set_cons_succ, asgN, asgSub, setIx, opD, addD, mulD, biD, cmpD, ixD, ixL, lenD, slotSeq, slotLst, truD, List.length_cons, List.length_nil, if_true, if_false, Bool.false_eq_true, reduceIte, mthHR, mthR, mtD, slD, seqOf, wipeE, Tgs.len, Pv.unpack, Option.map_none, Option.bind_none, augD, revD, List.map_cons, List.map_nil, isiD, ty, List.any_cons, List.any_nil]
    simp only [List.map_cons, forL, e0, e1, e2, Option.bind_eq_bind, Option.bind_some]
end Lk35

namespace Lk35
open PySem PySem.Spec PyProof.Rows L2 Pv
theorem last1 (st : Sto) : Fc 11 "all_patterns" [.int 6, .int 0, .int 0] st = some (false, .tup [.tup [.tup [], .tup []]], st) := by
  have e := pats_run 9 st (m := 6) (s := 0) (l := 0) (by decide) (by decide) (by decide)
  rw [allPats_I, fin_last.1] at e
  exact e
theorem last2 (st : Sto) : ∃ xs : List D, xs.length = 43 ∧ Fc 11 "all_patterns" [.int 6, .int 1, .int 1] st = some (false, .tup xs, st) := by
  have e := pats_run 9 st (m := 6) (s := 1) (l := 1) (by decide) (by decide) (by decide)
  rw [allPats_I] at e
  exact ⟨(pI 6 1 1).map tP, by rw [List.length_map]; exact fin_last.2.1, e⟩
theorem last3 (st : Sto) : Fc 11 "faulty_ones" [.tup [.tup [.int 3], .tup [.int 0, .int 5]]] st = some (false, .tup [.int 0, .int 3, .int 5], st) := by
  have e := faulty_run 10 st (p := [[3], [0, 5]]) ⟨[3], [0, 5], rfl, by decide, by decide⟩
  rw [faulty_I, fin_last.2.2.1] at e
  exact e
theorem last4 (st : Sto) : Fc 11 "all_goes" [.tup [.tup [.tup [], .tup []]]] st = some (false, .tup [.tup [.int 0, .int 0]], st) := by
  have e := goes_run 10 st [.tup [.tup [], .tup []]] (by decide)
  rw [show ([.tup [.tup [], .tup []]] : List D).length = 1 from rfl, fin_last.2.2.2] at e
  exact e
theorem law_true (ns : List Int) (h : ns.length ≤ 63) : ∃ st, Fc 12 "law" [.scr ns] [] = some (false, .bl true, st) := by
  rw [q_law]
  obtain ⟨st0, e0, d0⟩ := deal_run 10 ns h
  have j0 : JJ 0 [.val (.scr ns), .val (.hd 1), .own [], .no, .no, .no, .no, .no, .no, .no, .no, .no, .no, .no, .no, .no, .no, .no, .no, .no, .no, .no, .no, .no, .no, .no, .no, .no] st0 :=
    ⟨_, _, _, _, _, _, _, _, _, _, _, _, _, _, _, _, _, _, _, _, _, [], rfl, ⟨fun _ h => by simp at h, Nat.le_refl _⟩, d0⟩
  obtain ⟨ρ1, st1, e1, j1⟩ := turns [0, 1, 2, 3, 4] 0 _ st0 j0 (by decide)
  obtain ⟨ρ2, st2, e2, j2⟩ := rounds [2, 3, 4, 5, 6] _ ρ1 st1 j1 (by decide) (by decide)
  have hp1 : exS (T 11) (.par2 1 2 (.call "_law_deal" (.cons (.v 0) (.cons (.k (.int 8835)) .nil))) (.lst .nil)) [.val (.scr ns), .no, .no, .no, .no, .no, .no, .no, .no, .no, .no, .no, .no, .no, .no, .no, .no, .no, .no, .no, .no, .no, .no, .no, .no, .no, .no, .no] [] = some (.nx, [.val (.scr ns), .val (.hd 1), .own [], .no, .no, .no, .no, .no, .no, .no, .no, .no, .no, .no, .no, .no, .no, .no, .no, .no, .no, .no, .no, .no, .no, .no, .no, .no], st0) := by
    simp [exSs, exS, evE, evEs, evT, Pv.evI, evC, evTg, evTgs, evO, vv, up, one, retE, Option.bind_eq_bind, Option.bind_some, Option.map_some, Option.pure_def, List.getElem?_cons_zero, List.getElem?_cons_succ, List.set_cons_zero, List.set_cons_succ, asgN, asgSub, setIx, opD, addD, mulD, biD, cmpD, ixD, ixL, lenD, slotSeq, slotLst, truD, List.length_cons, List.length_nil, if_true, if_false, Bool.false_eq_true, reduceIte, mthHR, mthR, mtD, slD, seqOf, wipeE, Tgs.len, Pv.unpack, Option.map_none, Option.bind_none, augD, revD, List.map_cons, List.map_nil, isiD, ty, List.any_cons, List.any_nil, e0]
  have r5 : ∀ ρ st, Pv.evI (T 11) (.rng (.cons (.k (.int 5)) .nil)) ρ st = some (([0, 1, 2, 3, 4] : List Int).map D.int, ρ, st) := fun ρ st => by
    have : rngD [.int 5] = some (([0, 1, 2, 3, 4] : List Int).map D.int) := by rw [rngD1 (by decide) (by decide)]; rfl
    simp only [Pv.evI, evEs, evE, vv, Option.map_some, Option.bind_eq_bind, Option.bind_some, this]
  have r27 : ∀ ρ st, Pv.evI (T 11) (.rng (.cons (.k (.int 2)) (.cons (.k (.int 7)) .nil))) ρ st = some (([2, 3, 4, 5, 6] : List Int).map D.int, ρ, st) := fun ρ st => by
    have : rngD [.int 2, .int 7] = some (([2, 3, 4, 5, 6] : List Int).map D.int) := by rw [rngD2 (by decide) (by decide) (by decide) (by decide)]; rfl
    simp only [Pv.evI, evEs, evE, vv, Option.map_some, Option.bind_eq_bind, Option.bind_some, this]
  obtain ⟨s0, s3, s4, s5, s6, s7, s8, s9, s10, s11, s12, s13, s14, s15, s16, s17, s18, s19, s20, s21, s22, ps, rfl, hg, hd⟩ := j2
  have g1 := ((hg.app (d := .tup [.tup [.tup [], .tup []]]) (ok_tPP (ps := [nob]) (by decide) (fun p hp => by simp at hp; subst hp; exact ⟨rfl, by decide⟩))).app (ok_int 43)).app (d := .tup [.int 0, .int 3, .int 5]) (ok_tupI (l := [0, 3, 5]) (by decide))
  have g2 := g1.app (d := .tup [.tup [.int 0, .int 0]]) (ok_tP (p := [[0, 0]]) (by decide) (by decide))
  have hlim : ps.length + 3 ≤ lim := by have := hg.2; simp at this; unfold lim; omega
  have hlim2 : ps.length + 4 ≤ lim := by have := hg.2; simp at this; unfold lim; omega
  have fin := all_run 8 st2 g2.1
  obtain ⟨xs, x1, x2⟩ := last2 st2
  refine ⟨st2, ?_⟩
  refine run_rt (ρ1 := [s0, .val (.hd 1), .val (.lst (ps ++ [pr (.tup [.tup [.tup [], .tup []]])] ++ [pr (.int 43)] ++ [pr (.tup [.int 0, .int 3, .int 5])])), s3, s4, s5, s6, s7, s8, s9, s10, s11, s12, s13, s14, s15, s16, s17, s18, s19, s20, s21, s22, .no, .no, .no, .no, .no]) (n := 27) rfl rfl ?_
  unfold b_law
  refine (sq hp1).trans ?_
  refine (sq (ex_for (r5 _ _) e1)).trans ?_
  refine (sq (ex_for (r27 _ _) e2)).trans ?_
  have l1 := last1 st2
  have l3 := last3 st2
  have l4 := last4 st2
  refine (sq (ρ1 := [s0, .val (.hd 1), .own (ps ++ [pr (.tup [.tup [.tup [], .tup []]])] ++ [pr (.int 43)] ++ [pr (.tup [.int 0, .int 3, .int 5])]), s3, s4, s5, s6, s7, s8, s9, s10, s11, s12, s13, s14, s15, s16, s17, s18, s19, s20, s21, s22, .no, .no, .no, .no, .no]) (st1 := st2) (by
    simp [exSs, exS, evE, evEs, evT, Pv.evI, evC, evTg, evTgs, evO, vv, up, one, retE, Option.bind_eq_bind, Option.bind_some, Option.map_some, Option.pure_def, List.getElem?_cons_zero, List.getElem?_cons_succ, List.set_cons_zero, List.set_cons_succ, asgN, asgSub, setIx, opD, addD, mulD, biD, cmpD, ixD, ixL, lenD, slotSeq, slotLst, truD, List.length_cons, List.length_nil, if_true, if_false, Bool.false_eq_true, reduceIte, mthHR, mthR, mtD, slD, seqOf, wipeE, Tgs.len, Pv.unpack, Option.map_none, Option.bind_none, augD, revD, List.map_cons, List.map_nil, isiD, ty, List.any_cons, List.any_nil, l1, l3, x2, x1, hlim, pr, show (0 : Nat) ≤ lim by decide, show (1 : Nat) ≤ lim by decide, show (2 : Nat) ≤ lim by decide, show (3 : Nat) ≤ lim by decide])).trans ?_
  have hps : (ps ++ [pr (.tup [.tup [.tup [], .tup []]])] ++ [pr (.int 43)] ++ [pr (.tup [.int 0, .int 3, .int 5])]).length + 1 ≤ lim := by simp; omega
  generalize ps ++ [pr (.tup [.tup [.tup [], .tup []]])] ++ [pr (.int 43)] ++ [pr (.tup [.int 0, .int 3, .int 5])] = Z at *
  exact sqr (by simp [exSs, exS, evE, evEs, evT, Pv.evI, evC, evTg, evTgs, evO, vv, up, one, retE, Option.bind_eq_bind, Option.bind_some, Option.map_some, Option.pure_def, List.getElem?_cons_zero, List.getElem?_cons_succ, List.set_cons_zero, List.set_cons_succ, asgN, asgSub, setIx, opD, addD, mulD, biD, cmpD, ixD, ixL, lenD, slotSeq, slotLst, truD, List.length_cons, List.length_nil, if_true, if_false, Bool.false_eq_true, reduceIte, mthHR, mthR, mtD, slD, seqOf, wipeE, Tgs.len, Pv.unpack, Option.map_none, Option.bind_none, augD, revD, List.map_cons, List.map_nil, isiD, ty, List.any_cons, List.any_nil, l4, hps, pr, show (0 : Nat) ≤ lim by decide, show (1 : Nat) ≤ lim by decide, show (2 : Nat) ≤ lim by decide] at fin ⊢; simp [fin])
end Lk35

namespace Lk35
open PySem PySem.Spec PyProof.Rows L2 Pv
theorem ch_all_lots : chD ds cs ks d_all_lots = true := by decide +kernel
theorem ch_faulty_ones : chD ds cs ks d_faulty_ones = true := by decide +kernel
theorem ch_is_apart : chD ds cs ks d_is_apart = true := by decide +kernel
theorem ch_all_patterns : chD ds cs ks d_all_patterns = true := by decide +kernel
theorem ch_all_goes : chD ds cs ks d_all_goes = true := by decide +kernel
theorem ch_ends_of_roads : chD ds cs ks d_ends_of_roads = true := by decide +kernel
theorem ch_may_go : chD ds cs ks d_may_go = true := by decide +kernel
theorem ch_road_goes : chD ds cs ks d_road_goes = true := by decide +kernel
theorem ch_law_deal : chD ds cs ks d_law_deal = true := by decide +kernel
theorem ch_law_any : chD ds cs ks d_law_any = true := by decide +kernel
theorem ch_law_mixed : chD ds cs ks d_law_mixed = true := by decide +kernel
theorem ch_law_is_kind : chD ds cs ks d_law_is_kind = true := by decide +kernel
theorem ch_law_same : chD ds cs ks d_law_same = true := by decide +kernel
theorem ch_law_all : chD ds cs ks d_law_all = true := by decide +kernel
theorem ch_law_rows_of : chD ds cs ks d_law_rows_of = true := by decide +kernel
theorem ch_law_pairs : chD ds cs ks d_law_pairs = true := by decide +kernel
theorem ch_law_faulty : chD ds cs ks d_law_faulty = true := by decide +kernel
theorem ch_law_all_patterns : chD ds cs ks d_law_all_patterns = true := by decide +kernel
theorem ch_law_all_goes : chD ds cs ks d_law_all_goes = true := by decide +kernel
theorem ch_law_road_goes : chD ds cs ks d_law_road_goes = true := by decide +kernel
theorem ch_law_ways_of : chD ds cs ks d_law_ways_of = true := by decide +kernel
theorem ch_law_under : chD ds cs ks d_law_under = true := by decide +kernel
theorem ch_law : chD ds cs ks d_law = true := by decide +kernel
theorem ch_all : ∀ d ∈ ds, chD ds cs ks d = true := List.forall_mem_cons.mpr ⟨ch_all_lots, List.forall_mem_cons.mpr ⟨ch_faulty_ones, List.forall_mem_cons.mpr ⟨ch_is_apart, List.forall_mem_cons.mpr ⟨ch_all_patterns, List.forall_mem_cons.mpr ⟨ch_all_goes, List.forall_mem_cons.mpr ⟨ch_ends_of_roads, List.forall_mem_cons.mpr ⟨ch_may_go, List.forall_mem_cons.mpr ⟨ch_road_goes, List.forall_mem_cons.mpr ⟨ch_law_deal, List.forall_mem_cons.mpr ⟨ch_law_any, List.forall_mem_cons.mpr ⟨ch_law_mixed, List.forall_mem_cons.mpr ⟨ch_law_is_kind, List.forall_mem_cons.mpr ⟨ch_law_same, List.forall_mem_cons.mpr ⟨ch_law_all, List.forall_mem_cons.mpr ⟨ch_law_rows_of, List.forall_mem_cons.mpr ⟨ch_law_pairs, List.forall_mem_cons.mpr ⟨ch_law_faulty, List.forall_mem_cons.mpr ⟨ch_law_all_patterns, List.forall_mem_cons.mpr ⟨ch_law_all_goes, List.forall_mem_cons.mpr ⟨ch_law_road_goes, List.forall_mem_cons.mpr ⟨ch_law_ways_of, List.forall_mem_cons.mpr ⟨ch_law_under, List.forall_mem_cons.mpr ⟨ch_law, fun _ h => by cases h⟩⟩⟩⟩⟩⟩⟩⟩⟩⟩⟩⟩⟩⟩⟩⟩⟩⟩⟩⟩⟩⟩⟩
theorem facts {K : PySem.W.Frag} {mg : Str → Option Value} (f0 : FF K mg d_all_lots) (f1 : FF K mg d_faulty_ones) (f2 : FF K mg d_is_apart) (f3 : FF K mg d_all_patterns) (f4 : FF K mg d_all_goes) (f5 : FF K mg d_ends_of_roads) (f6 : FF K mg d_may_go) (f7 : FF K mg d_road_goes) (f8 : FF K mg d_law_deal) (f9 : FF K mg d_law_any) (f10 : FF K mg d_law_mixed) (f11 : FF K mg d_law_is_kind) (f12 : FF K mg d_law_same) (f13 : FF K mg d_law_all) (f14 : FF K mg d_law_rows_of) (f15 : FF K mg d_law_pairs) (f16 : FF K mg d_law_faulty) (f17 : FF K mg d_law_all_patterns) (f18 : FF K mg d_law_all_goes) (f19 : FF K mg d_law_road_goes) (f20 : FF K mg d_law_ways_of) (f21 : FF K mg d_law_under) (f22 : FF K mg d_law) (g0 : ∃ u v, mg "NOBODY" = some u ∧ RelV v u ∧ ∀ A B, Ho K A B v (.tup [(.tup []), (.tup [])])) (hz : ∀ x, x ∈ blts → mg x = none) : Facts K mg ds cs ks where
  ff := List.forall_mem_cons.mpr ⟨f0, List.forall_mem_cons.mpr ⟨f1, List.forall_mem_cons.mpr ⟨f2, List.forall_mem_cons.mpr ⟨f3, List.forall_mem_cons.mpr ⟨f4, List.forall_mem_cons.mpr ⟨f5, List.forall_mem_cons.mpr ⟨f6, List.forall_mem_cons.mpr ⟨f7, List.forall_mem_cons.mpr ⟨f8, List.forall_mem_cons.mpr ⟨f9, List.forall_mem_cons.mpr ⟨f10, List.forall_mem_cons.mpr ⟨f11, List.forall_mem_cons.mpr ⟨f12, List.forall_mem_cons.mpr ⟨f13, List.forall_mem_cons.mpr ⟨f14, List.forall_mem_cons.mpr ⟨f15, List.forall_mem_cons.mpr ⟨f16, List.forall_mem_cons.mpr ⟨f17, List.forall_mem_cons.mpr ⟨f18, List.forall_mem_cons.mpr ⟨f19, List.forall_mem_cons.mpr ⟨f20, List.forall_mem_cons.mpr ⟨f21, List.forall_mem_cons.mpr ⟨f22, fun _ h => by cases h⟩⟩⟩⟩⟩⟩⟩⟩⟩⟩⟩⟩⟩⟩⟩⟩⟩⟩⟩⟩⟩⟩⟩
  nd := nd_all
  ch := ch_all
  blt := hz
  glob := List.forall_mem_cons.mpr ⟨g0, fun _ h => by cases h⟩
  kws := List.forall_mem_cons.mpr ⟨⟨d_all_goes, List.mem_of_getElem? (i := 4) rfl, rfl, by decide, fun f fd F s us ws h1 h2 => by
    obtain ⟨oc, od, kV, doc, pm, an, cdv, ct, osl, rfl, lk, hcd⟩ := F.ex
    match us, ws, h1, h2 with
    | [], [b0], _, _ => exact ⟨.of_eq rfl, rfl⟩⟩, List.forall_mem_cons.mpr ⟨⟨d_all_patterns, List.mem_of_getElem? (i := 3) rfl, rfl, by decide, fun f fd F s us ws h1 h2 => by
    obtain ⟨oc, od, kV, doc, pm, an, cdv, ct, osl, rfl, lk, hcd⟩ := F.ex
    match us, ws, h1, h2 with
    | [], [b0, b1, b2], _, _ => exact ⟨.of_eq rfl, rfl⟩⟩, List.forall_mem_cons.mpr ⟨⟨d_faulty_ones, List.mem_of_getElem? (i := 1) rfl, rfl, by decide, fun f fd F s us ws h1 h2 => by
    obtain ⟨oc, od, kV, doc, pm, an, cdv, ct, osl, rfl, lk, hcd⟩ := F.ex
    match us, ws, h1, h2 with
    | [], [b0], _, _ => exact ⟨.of_eq rfl, rfl⟩⟩, List.forall_mem_cons.mpr ⟨⟨d_road_goes, List.mem_of_getElem? (i := 7) rfl, rfl, by decide, fun f fd F s us ws h1 h2 => by
    obtain ⟨oc, od, kV, doc, pm, an, cdv, ct, osl, rfl, lk, hcd⟩ := F.ex
    match us, ws, h1, h2 with
    | [], [b0, b1], _, _ => exact ⟨.of_eq rfl, rfl⟩⟩, fun _ h => by cases h⟩⟩⟩⟩
theorem all_mk {l : PySem.W.OpenLaw} {w : World} {K : PySem.W.Frag} {h : Heap} {mg : Str → Option Value} {fa : Addr} (X : K.In h) (G : h.Ns mainGlobals mg) (hfa : mg "law" = some (.ref fa)) {f0 f1 f2 f3 f4 f5 f6 f7 f8 f9 f10 f11 f12 f13 f14 f15 f16 f17 f18 f19 f20 f21 f22 : Addr} {od0 an0 od1 an1 od2 an2 od3 an3 od4 an4 od5 an5 od6 an6 od7 an7 od8 an8 od9 an9 od10 an10 od11 an11 od12 an12 od13 an13 od14 an14 od15 an15 od16 an16 od17 an17 od18 an18 od19 an19 od20 an20 od21 an21 od22 an22 : Option Addr} {sl0 sl1 sl2 sl3 sl4 sl5 sl6 sl7 sl8 sl9 sl10 sl11 sl12 sl13 sl14 sl15 sl16 sl17 sl18 sl19 sl20 sl21 sl22 : Array (Option Value)} {oc0 kV0 dc0 pm0 cd0 ct0 oc1 kV1 dc1 pm1 cd1 ct1 oc2 kV2 dc2 pm2 cd2 ct2 oc3 kV3 dc3 pm3 cd3 ct3 oc4 kV4 dc4 pm4 cd4 ct4 oc5 kV5 dc5 pm5 cd5 ct5 oc6 kV6 dc6 pm6 cd6 ct6 oc7 kV7 dc7 pm7 cd7 ct7 oc8 kV8 dc8 pm8 cd8 ct8 oc9 kV9 dc9 pm9 cd9 ct9 oc10 kV10 dc10 pm10 cd10 ct10 oc11 kV11 dc11 pm11 cd11 ct11 oc12 kV12 dc12 pm12 cd12 ct12 oc13 kV13 dc13 pm13 cd13 ct13 oc14 kV14 dc14 pm14 cd14 ct14 oc15 kV15 dc15 pm15 cd15 ct15 oc16 kV16 dc16 pm16 cd16 ct16 oc17 kV17 dc17 pm17 cd17 ct17 oc18 kV18 dc18 pm18 cd18 ct18 oc19 kV19 dc19 pm19 cd19 ct19 oc20 kV20 dc20 pm20 cd20 ct20 oc21 kV21 dc21 pm21 cd21 ct21 oc22 kV22 dc22 pm22 cd22 ct22 : Value} {ta0_0 : Addr} {tn0_0 : Nat} {tsl0_0 : Array (Option Value)} {ta0_1 : Addr} {tn0_1 : Nat} {tsl0_1 : Array (Option Value)} {ta0 : Addr} {tn0 : Nat} {tsl0 : Array (Option Value)}
    (a0 : PySem.W.nsIn K mainGlobals "all_lots" = some (some (.ref f0))) (l0 : K.lookup f0 = some ⟨oc0, od0, .func (PySem.W.fnOf "all_lots" "all_lots" (defArgs (topS 1)) (defBody (topS 1)) (defScope (topS 1)) .none kV0 dc0 pm0 an0 cd0 ct0), sl0⟩) (c0 : PySem.W.codeIn K cd0 "all_lots" = true) (k0 : PySem.W.keepIn K (.ref f0) = true)
    (a1 : PySem.W.nsIn K mainGlobals "faulty_ones" = some (some (.ref f1))) (l1 : K.lookup f1 = some ⟨oc1, od1, .func (PySem.W.fnOf "faulty_ones" "faulty_ones" (defArgs (topS 4)) (defBody (topS 4)) (defScope (topS 4)) .none kV1 dc1 pm1 an1 cd1 ct1), sl1⟩) (c1 : PySem.W.codeIn K cd1 "faulty_ones" = true) (k1 : PySem.W.keepIn K (.ref f1) = true)
    (a2 : PySem.W.nsIn K mainGlobals "is_apart" = some (some (.ref f2))) (l2 : K.lookup f2 = some ⟨oc2, od2, .func (PySem.W.fnOf "is_apart" "is_apart" (defArgs (topS 5)) (defBody (topS 5)) (defScope (topS 5)) .none kV2 dc2 pm2 an2 cd2 ct2), sl2⟩) (c2 : PySem.W.codeIn K cd2 "is_apart" = true) (k2 : PySem.W.keepIn K (.ref f2) = true)
    (a3 : PySem.W.nsIn K mainGlobals "all_patterns" = some (some (.ref f3))) (l3 : K.lookup f3 = some ⟨oc3, od3, .func (PySem.W.fnOf "all_patterns" "all_patterns" (defArgs (topS 6)) (defBody (topS 6)) (defScope (topS 6)) .none kV3 dc3 pm3 an3 cd3 ct3), sl3⟩) (c3 : PySem.W.codeIn K cd3 "all_patterns" = true) (k3 : PySem.W.keepIn K (.ref f3) = true)
    (a4 : PySem.W.nsIn K mainGlobals "all_goes" = some (some (.ref f4))) (l4 : K.lookup f4 = some ⟨oc4, od4, .func (PySem.W.fnOf "all_goes" "all_goes" (defArgs (topS 7)) (defBody (topS 7)) (defScope (topS 7)) .none kV4 dc4 pm4 an4 cd4 ct4), sl4⟩) (c4 : PySem.W.codeIn K cd4 "all_goes" = true) (k4 : PySem.W.keepIn K (.ref f4) = true)
    (a5 : PySem.W.nsIn K mainGlobals "ends_of_roads" = some (some (.ref f5))) (l5 : K.lookup f5 = some ⟨oc5, od5, .func (PySem.W.fnOf "ends_of_roads" "ends_of_roads" (defArgs (topS 8)) (defBody (topS 8)) (defScope (topS 8)) .none kV5 dc5 pm5 an5 cd5 ct5), sl5⟩) (c5 : PySem.W.codeIn K cd5 "ends_of_roads" = true) (k5 : PySem.W.keepIn K (.ref f5) = true)
    (a6 : PySem.W.nsIn K mainGlobals "may_go" = some (some (.ref f6))) (l6 : K.lookup f6 = some ⟨oc6, od6, .func (PySem.W.fnOf "may_go" "may_go" (defArgs (topS 9)) (defBody (topS 9)) (defScope (topS 9)) .none kV6 dc6 pm6 an6 cd6 ct6), sl6⟩) (c6 : PySem.W.codeIn K cd6 "may_go" = true) (k6 : PySem.W.keepIn K (.ref f6) = true)
    (a7 : PySem.W.nsIn K mainGlobals "road_goes" = some (some (.ref f7))) (l7 : K.lookup f7 = some ⟨oc7, od7, .func (PySem.W.fnOf "road_goes" "road_goes" (defArgs (topS 10)) (defBody (topS 10)) (defScope (topS 10)) .none kV7 dc7 pm7 an7 cd7 ct7), sl7⟩) (c7 : PySem.W.codeIn K cd7 "road_goes" = true) (k7 : PySem.W.keepIn K (.ref f7) = true)
    (a8 : PySem.W.nsIn K mainGlobals "_law_deal" = some (some (.ref f8))) (l8 : K.lookup f8 = some ⟨oc8, od8, .func (PySem.W.fnOf "_law_deal" "_law_deal" (defArgs (topS 12)) (defBody (topS 12)) (defScope (topS 12)) .none kV8 dc8 pm8 an8 cd8 ct8), sl8⟩) (c8 : PySem.W.codeIn K cd8 "_law_deal" = true) (k8 : PySem.W.keepIn K (.ref f8) = true)
    (a9 : PySem.W.nsIn K mainGlobals "_law_any" = some (some (.ref f9))) (l9 : K.lookup f9 = some ⟨oc9, od9, .func (PySem.W.fnOf "_law_any" "_law_any" (defArgs (topS 13)) (defBody (topS 13)) (defScope (topS 13)) .none kV9 dc9 pm9 an9 cd9 ct9), sl9⟩) (c9 : PySem.W.codeIn K cd9 "_law_any" = true) (k9 : PySem.W.keepIn K (.ref f9) = true)
    (a10 : PySem.W.nsIn K mainGlobals "_law_mixed" = some (some (.ref f10))) (l10 : K.lookup f10 = some ⟨oc10, od10, .func (PySem.W.fnOf "_law_mixed" "_law_mixed" (defArgs (topS 14)) (defBody (topS 14)) (defScope (topS 14)) .none kV10 dc10 pm10 an10 cd10 ct10), sl10⟩) (c10 : PySem.W.codeIn K cd10 "_law_mixed" = true) (k10 : PySem.W.keepIn K (.ref f10) = true)
    (a11 : PySem.W.nsIn K mainGlobals "_law_is_kind" = some (some (.ref f11))) (l11 : K.lookup f11 = some ⟨oc11, od11, .func (PySem.W.fnOf "_law_is_kind" "_law_is_kind" (defArgs (topS 15)) (defBody (topS 15)) (defScope (topS 15)) .none kV11 dc11 pm11 an11 cd11 ct11), sl11⟩) (c11 : PySem.W.codeIn K cd11 "_law_is_kind" = true) (k11 : PySem.W.keepIn K (.ref f11) = true)
    (a12 : PySem.W.nsIn K mainGlobals "_law_same" = some (some (.ref f12))) (l12 : K.lookup f12 = some ⟨oc12, od12, .func (PySem.W.fnOf "_law_same" "_law_same" (defArgs (topS 16)) (defBody (topS 16)) (defScope (topS 16)) .none kV12 dc12 pm12 an12 cd12 ct12), sl12⟩) (c12 : PySem.W.codeIn K cd12 "_law_same" = true) (k12 : PySem.W.keepIn K (.ref f12) = true)
    (a13 : PySem.W.nsIn K mainGlobals "_law_all" = some (some (.ref f13))) (l13 : K.lookup f13 = some ⟨oc13, od13, .func (PySem.W.fnOf "_law_all" "_law_all" (defArgs (topS 17)) (defBody (topS 17)) (defScope (topS 17)) .none kV13 dc13 pm13 an13 cd13 ct13), sl13⟩) (c13 : PySem.W.codeIn K cd13 "_law_all" = true) (k13 : PySem.W.keepIn K (.ref f13) = true)
    (a14 : PySem.W.nsIn K mainGlobals "_law_rows_of" = some (some (.ref f14))) (l14 : K.lookup f14 = some ⟨oc14, od14, .func (PySem.W.fnOf "_law_rows_of" "_law_rows_of" (defArgs (topS 18)) (defBody (topS 18)) (defScope (topS 18)) .none kV14 dc14 pm14 an14 cd14 ct14), sl14⟩) (c14 : PySem.W.codeIn K cd14 "_law_rows_of" = true) (k14 : PySem.W.keepIn K (.ref f14) = true)
    (a15 : PySem.W.nsIn K mainGlobals "_law_pairs" = some (some (.ref f15))) (l15 : K.lookup f15 = some ⟨oc15, od15, .func (PySem.W.fnOf "_law_pairs" "_law_pairs" (defArgs (topS 19)) (defBody (topS 19)) (defScope (topS 19)) .none kV15 dc15 pm15 an15 cd15 ct15), sl15⟩) (c15 : PySem.W.codeIn K cd15 "_law_pairs" = true) (k15 : PySem.W.keepIn K (.ref f15) = true)
    (a16 : PySem.W.nsIn K mainGlobals "_law_faulty" = some (some (.ref f16))) (l16 : K.lookup f16 = some ⟨oc16, od16, .func (PySem.W.fnOf "_law_faulty" "_law_faulty" (defArgs (topS 20)) (defBody (topS 20)) (defScope (topS 20)) .none kV16 dc16 pm16 an16 cd16 ct16), sl16⟩) (c16 : PySem.W.codeIn K cd16 "_law_faulty" = true) (k16 : PySem.W.keepIn K (.ref f16) = true)
    (a17 : PySem.W.nsIn K mainGlobals "_law_all_patterns" = some (some (.ref f17))) (l17 : K.lookup f17 = some ⟨oc17, od17, .func (PySem.W.fnOf "_law_all_patterns" "_law_all_patterns" (defArgs (topS 21)) (defBody (topS 21)) (defScope (topS 21)) .none kV17 dc17 pm17 an17 cd17 ct17), sl17⟩) (c17 : PySem.W.codeIn K cd17 "_law_all_patterns" = true) (k17 : PySem.W.keepIn K (.ref f17) = true)
    (a18 : PySem.W.nsIn K mainGlobals "_law_all_goes" = some (some (.ref f18))) (l18 : K.lookup f18 = some ⟨oc18, od18, .func (PySem.W.fnOf "_law_all_goes" "_law_all_goes" (defArgs (topS 22)) (defBody (topS 22)) (defScope (topS 22)) .none kV18 dc18 pm18 an18 cd18 ct18), sl18⟩) (c18 : PySem.W.codeIn K cd18 "_law_all_goes" = true) (k18 : PySem.W.keepIn K (.ref f18) = true)
    (a19 : PySem.W.nsIn K mainGlobals "_law_road_goes" = some (some (.ref f19))) (l19 : K.lookup f19 = some ⟨oc19, od19, .func (PySem.W.fnOf "_law_road_goes" "_law_road_goes" (defArgs (topS 23)) (defBody (topS 23)) (defScope (topS 23)) .none kV19 dc19 pm19 an19 cd19 ct19), sl19⟩) (c19 : PySem.W.codeIn K cd19 "_law_road_goes" = true) (k19 : PySem.W.keepIn K (.ref f19) = true)
    (a20 : PySem.W.nsIn K mainGlobals "_law_ways_of" = some (some (.ref f20))) (l20 : K.lookup f20 = some ⟨oc20, od20, .func (PySem.W.fnOf "_law_ways_of" "_law_ways_of" (defArgs (topS 24)) (defBody (topS 24)) (defScope (topS 24)) .none kV20 dc20 pm20 an20 cd20 ct20), sl20⟩) (c20 : PySem.W.codeIn K cd20 "_law_ways_of" = true) (k20 : PySem.W.keepIn K (.ref f20) = true)
    (a21 : PySem.W.nsIn K mainGlobals "_law_under" = some (some (.ref f21))) (l21 : K.lookup f21 = some ⟨oc21, od21, .func (PySem.W.fnOf "_law_under" "_law_under" (defArgs (topS 25)) (defBody (topS 25)) (defScope (topS 25)) .none kV21 dc21 pm21 an21 cd21 ct21), sl21⟩) (c21 : PySem.W.codeIn K cd21 "_law_under" = true) (k21 : PySem.W.keepIn K (.ref f21) = true)
    (a22 : PySem.W.nsIn K mainGlobals "law" = some (some (.ref f22))) (l22 : K.lookup f22 = some ⟨oc22, od22, .func (PySem.W.fnOf "law" "law" (defArgs (topS 26)) (defBody (topS 26)) (defScope (topS 26)) .none kV22 dc22 pm22 an22 cd22 ct22), sl22⟩) (c22 : PySem.W.codeIn K cd22 "law" = true) (k22 : PySem.W.keepIn K (.ref f22) = true)
    (y0 : PySem.W.nsIn K mainGlobals "NOBODY" = some (some (.ref ta0)))
    (tl0 : K.lookup ta0 = some ⟨.type "tuple", none, .seq #[.ref ta0_0, .ref ta0_1] tn0, tsl0⟩)
    (tl0_1 : K.lookup ta0_1 = some ⟨.type "tuple", none, .seq #[] tn0_1, tsl0_1⟩)
    (tl0_0 : K.lookup ta0_0 = some ⟨.type "tuple", none, .seq #[] tn0_0, tsl0_0⟩)
    (z0 : PySem.W.nsIn K mainGlobals "abs" = some none)
    (z1 : PySem.W.nsIn K mainGlobals "int" = some none)
    (z2 : PySem.W.nsIn K mainGlobals "len" = some none)
    (z3 : PySem.W.nsIn K mainGlobals "sum" = some none)
    (z4 : PySem.W.nsIn K mainGlobals "min" = some none)
    (z5 : PySem.W.nsIn K mainGlobals "max" = some none)
    (z6 : PySem.W.nsIn K mainGlobals "tuple" = some none)
    (z7 : PySem.W.nsIn K mainGlobals "list" = some none)
    (z8 : PySem.W.nsIn K mainGlobals "sorted" = some none)
    (z9 : PySem.W.nsIn K mainGlobals "range" = some none)
    (z10 : PySem.W.nsIn K mainGlobals "enumerate" = some none)
    (z11 : PySem.W.nsIn K mainGlobals "zip" = some none)
    (z12 : PySem.W.nsIn K mainGlobals "reversed" = some none)
    (z13 : PySem.W.nsIn K mainGlobals "isinstance" = some none)
    (z14 : PySem.W.nsIn K mainGlobals "str" = some none)
    (z15 : PySem.W.nsIn K mainGlobals "bool" = some none)
    (z16 : PySem.W.nsIn K mainGlobals "dict" = some none)
    (z17 : PySem.W.nsIn K mainGlobals "set" = some none)
    : ∃ fd : FuncData, (∀ (s : Shared) (v : Value), BindsTo s fd ⟨[v], []⟩ [("script", v)]) ∧ ∀ base : Heap, K.In base → base.Ns mainGlobals mg → FnOk l.prog w K mg base CX0 12 fa fd ["script"] (Pv.spLaw K (Fc 12 "law")) := by
  have e := hfa.symm.trans (PySem.W.mg_of X G a22)
  cases e
  have Fa : Facts K mg ds cs ks := facts (ff_mk X G (fun _ _ _ _ _ _ us hl => match us, hl with | [_, _], _ => rfl) a0 l0 c0 k0) (ff_mk X G (fun _ _ _ _ _ _ us hl => match us, hl with | [_], _ => rfl) a1 l1 c1 k1) (ff_mk X G (fun _ _ _ _ _ _ us hl => match us, hl with | [_, _], _ => rfl) a2 l2 c2 k2) (ff_mk X G (fun _ _ _ _ _ _ us hl => match us, hl with | [_, _, _], _ => rfl) a3 l3 c3 k3) (ff_mk X G (fun _ _ _ _ _ _ us hl => match us, hl with | [_], _ => rfl) a4 l4 c4 k4) (ff_mk X G (fun _ _ _ _ _ _ us hl => match us, hl with | [_, _], _ => rfl) a5 l5 c5 k5) (ff_mk X G (fun _ _ _ _ _ _ us hl => match us, hl with | [_, _, _], _ => rfl) a6 l6 c6 k6) (ff_mk X G (fun _ _ _ _ _ _ us hl => match us, hl with | [_, _], _ => rfl) a7 l7 c7 k7) (ff_mk X G (fun _ _ _ _ _ _ us hl => match us, hl with | [_, _], _ => rfl) a8 l8 c8 k8) (ff_mk X G (fun _ _ _ _ _ _ us hl => match us, hl with | [_, _], _ => rfl) a9 l9 c9 k9) (ff_mk X G (fun _ _ _ _ _ _ us hl => match us, hl with | [_, _], _ => rfl) a10 l10 c10 k10) (ff_mk X G (fun _ _ _ _ _ _ us hl => match us, hl with | [_, _], _ => rfl) a11 l11 c11 k11) (ff_mk X G (fun _ _ _ _ _ _ us hl => match us, hl with | [_, _], _ => rfl) a12 l12 c12 k12) (ff_mk X G (fun _ _ _ _ _ _ us hl => match us, hl with | [_], _ => rfl) a13 l13 c13 k13) (ff_mk X G (fun _ _ _ _ _ _ us hl => match us, hl with | [_], _ => rfl) a14 l14 c14 k14) (ff_mk X G (fun _ _ _ _ _ _ us hl => match us, hl with | [_, _], _ => rfl) a15 l15 c15 k15) (ff_mk X G (fun _ _ _ _ _ _ us hl => match us, hl with | [_], _ => rfl) a16 l16 c16 k16) (ff_mk X G (fun _ _ _ _ _ _ us hl => match us, hl with | [_, _, _], _ => rfl) a17 l17 c17 k17) (ff_mk X G (fun _ _ _ _ _ _ us hl => match us, hl with | [_], _ => rfl) a18 l18 c18 k18) (ff_mk X G (fun _ _ _ _ _ _ us hl => match us, hl with | [_, _], _ => rfl) a19 l19 c19 k19) (ff_mk X G (fun _ _ _ _ _ _ us hl => match us, hl with | [_, _], _ => rfl) a20 l20 c20 k20) (ff_mk X G (fun _ _ _ _ _ _ us hl => match us, hl with | [_, _], _ => rfl) a21 l21 c21 k21) (ff_mk X G (fun _ _ _ _ _ _ us hl => match us, hl with | [_], _ => rfl) a22 l22 c22 k22) ⟨_, V.ref ta0, PySem.W.mg_of X G y0, rfl, fun _ _ => ho_tupK (vs := [V.ref ta0_0, V.ref ta0_1]) tl0 (by show 2 ≤ sizeLine; rw [sizeLine_eq]; decide) (.cons (rfl) (.cons (rfl) (.nil))) (.cons (ho_tupK (vs := []) tl0_0 (by show 0 ≤ sizeLine; rw [sizeLine_eq]; decide) (.nil) (.nil)) (.cons (ho_tupK (vs := []) tl0_1 (by show 0 ≤ sizeLine; rw [sizeLine_eq]; decide) (.nil) (.nil)) (.nil)))⟩ (List.forall_mem_cons.mpr ⟨PySem.W.mg_none_of X G z0, List.forall_mem_cons.mpr ⟨PySem.W.mg_none_of X G z1, List.forall_mem_cons.mpr ⟨PySem.W.mg_none_of X G z2, List.forall_mem_cons.mpr ⟨PySem.W.mg_none_of X G z3, List.forall_mem_cons.mpr ⟨PySem.W.mg_none_of X G z4, List.forall_mem_cons.mpr ⟨PySem.W.mg_none_of X G z5, List.forall_mem_cons.mpr ⟨PySem.W.mg_none_of X G z6, List.forall_mem_cons.mpr ⟨PySem.W.mg_none_of X G z7, List.forall_mem_cons.mpr ⟨PySem.W.mg_none_of X G z8, List.forall_mem_cons.mpr ⟨PySem.W.mg_none_of X G z9, List.forall_mem_cons.mpr ⟨PySem.W.mg_none_of X G z10, List.forall_mem_cons.mpr ⟨PySem.W.mg_none_of X G z11, List.forall_mem_cons.mpr ⟨PySem.W.mg_none_of X G z12, List.forall_mem_cons.mpr ⟨PySem.W.mg_none_of X G z13, List.forall_mem_cons.mpr ⟨PySem.W.mg_none_of X G z14, List.forall_mem_cons.mpr ⟨PySem.W.mg_none_of X G z15, List.forall_mem_cons.mpr ⟨PySem.W.mg_none_of X G z16, List.forall_mem_cons.mpr ⟨PySem.W.mg_none_of X G z17, fun _ h => by cases h⟩⟩⟩⟩⟩⟩⟩⟩⟩⟩⟩⟩⟩⟩⟩⟩⟩⟩)
  exact ⟨_, fun s v => .of_eq rfl, fun base _ _ => tab_ok Fa 12 d_law (List.mem_of_getElem? (i := 22) rfl) fa _ (fun_mk l22 c22 k22)⟩
end Lk35
open PySem PySem.W PyProof.Rows
set_option maxHeartbeats 0 in
theorem PySem.Challenge.cw_liarschange_k35_whole_patterns_by_sides_holds : PySem.Challenge.rw_liarschange_k35_whole_patterns_by_sides.Holds := by
  w_on; o_law; k_head; (case hw => w_witness2)
  k_fill
  refine L2.walk_of (l := PySem.Challenge.rw_liarschange_k35_whole_patterns_by_sides) (n := 63) (k := 12) (x := "script") (CX := fun _ => L2.CX0) (sp := fun w => Pv.spLaw _ (Lk35.Fc 12 "law")) rfl (by decide) rfl ⟨rfl, by decide, by decide⟩ (fun w h Y => PySem.W.kIn_of Y) ?F (fun _ _ a ns hl _ hS => (Lk35.law_true ns hl).elim fun _ e => Pv.law_end hS e) (fun _ _ _ _ _ h => h)
  case F =>
    intro w mg fa h KX G hmg
    refine' Lk35.all_mk KX G hmg ?a0 ?l0 ?c0 ?k0 ?a1 ?l1 ?c1 ?k1 ?a2 ?l2 ?c2 ?k2 ?a3 ?l3 ?c3 ?k3 ?a4 ?l4 ?c4 ?k4 ?a5 ?l5 ?c5 ?k5 ?a6 ?l6 ?c6 ?k6 ?a7 ?l7 ?c7 ?k7 ?a8 ?l8 ?c8 ?k8 ?a9 ?l9 ?c9 ?k9 ?a10 ?l10 ?c10 ?k10 ?a11 ?l11 ?c11 ?k11 ?a12 ?l12 ?c12 ?k12 ?a13 ?l13 ?c13 ?k13 ?a14 ?l14 ?c14 ?k14 ?a15 ?l15 ?c15 ?k15 ?a16 ?l16 ?c16 ?k16 ?a17 ?l17 ?c17 ?k17 ?a18 ?l18 ?c18 ?k18 ?a19 ?l19 ?c19 ?k19 ?a20 ?l20 ?c20 ?k20 ?a21 ?l21 ?c21 ?k21 ?a22 ?l22 ?c22 ?k22 ?y0 ?tl0 ?tl0_1 ?tl0_0 ?z0 ?z1 ?z2 ?z3 ?z4 ?z5 ?z6 ?z7 ?z8 ?z9 ?z10 ?z11 ?z12 ?z13 ?z14 ?z15 ?z16 ?z17
    (case a0 => k_is)
    (case l0 => k_is)
    (case c0 => k_is)
    (case k0 => k_is)
    (case a1 => k_is)
    (case l1 => k_is)
    (case c1 => k_is)
    (case k1 => k_is)
    (case a2 => k_is)
    (case l2 => k_is)
    (case c2 => k_is)
    (case k2 => k_is)
    (case a3 => k_is)
    (case l3 => k_is)
    (case c3 => k_is)
    (case k3 => k_is)
    (case a4 => k_is)
    (case l4 => k_is)
    (case c4 => k_is)
    (case k4 => k_is)
    (case a5 => k_is)
    (case l5 => k_is)
    (case c5 => k_is)
    (case k5 => k_is)
    (case a6 => k_is)
    (case l6 => k_is)
    (case c6 => k_is)
    (case k6 => k_is)
    (case a7 => k_is)
    (case l7 => k_is)
    (case c7 => k_is)
    (case k7 => k_is)
    (case a8 => k_is)
    (case l8 => k_is)
    (case c8 => k_is)
    (case k8 => k_is)
    (case a9 => k_is)
    (case l9 => k_is)
    (case c9 => k_is)
    (case k9 => k_is)
    (case a10 => k_is)
    (case l10 => k_is)
    (case c10 => k_is)
    (case k10 => k_is)
    (case a11 => k_is)
    (case l11 => k_is)
    (case c11 => k_is)
    (case k11 => k_is)
    (case a12 => k_is)
    (case l12 => k_is)
    (case c12 => k_is)
    (case k12 => k_is)
    (case a13 => k_is)
    (case l13 => k_is)
    (case c13 => k_is)
    (case k13 => k_is)
    (case a14 => k_is)
    (case l14 => k_is)
    (case c14 => k_is)
    (case k14 => k_is)
    (case a15 => k_is)
    (case l15 => k_is)
    (case c15 => k_is)
    (case k15 => k_is)
    (case a16 => k_is)
    (case l16 => k_is)
    (case c16 => k_is)
    (case k16 => k_is)
    (case a17 => k_is)
    (case l17 => k_is)
    (case c17 => k_is)
    (case k17 => k_is)
    (case a18 => k_is)
    (case l18 => k_is)
    (case c18 => k_is)
    (case k18 => k_is)
    (case a19 => k_is)
    (case l19 => k_is)
    (case c19 => k_is)
    (case k19 => k_is)
    (case a20 => k_is)
    (case l20 => k_is)
    (case c20 => k_is)
    (case k20 => k_is)
    (case a21 => k_is)
    (case l21 => k_is)
    (case c21 => k_is)
    (case k21 => k_is)
    (case a22 => k_is)
    (case l22 => k_is)
    (case c22 => k_is)
    (case k22 => k_is)
    (case y0 => k_is)
    (case tl0 => k_is)
    (case tl0_1 => k_is)
    (case tl0_0 => k_is)
    (case z0 => k_is)
    (case z1 => k_is)
    (case z2 => k_is)
    (case z3 => k_is)
    (case z4 => k_is)
    (case z5 => k_is)
    (case z6 => k_is)
    (case z7 => k_is)
    (case z8 => k_is)
    (case z9 => k_is)
    (case z10 => k_is)
    (case z11 => k_is)
    (case z12 => k_is)
    (case z13 => k_is)
    (case z14 => k_is)
    (case z15 => k_is)
    (case z16 => k_is)
    (case z17 => k_is)

