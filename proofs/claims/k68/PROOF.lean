import PyProof.Rows.All
import Wide.All
import OpenK.AllK
import Wide.FinOn
import HandS.ForMost
import HandS.Style
import HandS.IsInst
import HandS.Wide
import HandS.Conv
import HandS.Zip
import KE.KTupSum
import KE.GoesEnum
import KE.GoesMore
import HandS.TupAny
import HandS.TupMul
import HandS.Flow
import HandS.Rev
import HandS.Words
import PySem.Challenge.RW_liarschange_k68_sums_of_octets_by_closed
set_option Elab.async false
set_option linter.all false
set_option maxRecDepth 100000
set_option maxHeartbeats 4000000
namespace Pv
open PySem PySem.Spec PyProof.Rows L2

/-! ## data -/
inductive D where
  | non | bl (b : Bool) | int (i : Int) | str (s : Str) | tup (xs : List D) | lst (xs : List D) | scr (xs : List Int) | hd (n : Nat)
  deriving Inhabited

def Ex (H H' : Hp) : Prop := ∀ a o, H a = some o → H' a = some o
theorem Ex.refl (H : Hp) : Ex H H := fun _ _ h => h
theorem Ex.trans {H H1 H2 : Hp} (a : Ex H H1) (b : Ex H1 H2) : Ex H H2 := fun x o h => b x o (a x o h)
theorem Ex.new {H : Hp} {p : Addr} {o : HO} (h : H p = none) : Ex H (upd H p o) := fun a u e => by
  rw [upd_ne (ne_of_none e h)]
  exact e
theorem Ex.mut {H H' : Hp} {p : Addr} {o : HO} (e : Ex H H') (h : H p = none) : Ex H (upd H' p o) := fun a u ha => by
  rw [upd_ne (ne_of_none ha h)]
  exact e a u ha
theorem Ex.back {H H' : Hp} {p : Addr} (e : Ex H H') (h : H' p = none) : H p = none := by
  cases h1 : H p with
  | none => rfl
  | some o => rw [e p o h1] at h; cases h
theorem Ex.upd2 {H H' : Hp} {p : Addr} {o : HO} (e : Ex H H') : Ex (upd H p o) (upd H' p o) := fun a u ha => by
  unfold upd at ha ⊢
  split
  · rename_i q; rw [if_pos q] at ha; exact ha
  · rename_i q; rw [if_neg q] at ha; exact e a u ha
theorem ex_rd {H H' : Hp} {a : Addr} {u : HO} (e : Ex H H') (h : Rd H a u) : Rd H' a u := by
  rcases h with h | ⟨o, h⟩
  · exact .inl (e a _ h)
  · exact .inr ⟨o, e a _ h⟩
theorem ex_l {K : PySem.W.Frag} {H H' : Hp} {a : Addr} {xs : List V} (e : Ex H H') (h : SqL K H a xs) : SqL K H' a xs := by
  rcases h with h | h
  · exact .inl (ex_rd e h)
  · exact .inr h
theorem ex_t {K : PySem.W.Frag} {H H' : Hp} {a : Addr} {xs : List V} (e : Ex H H') (h : SqT K H a xs) : SqT K H' a xs := by
  rcases h with h | h
  · exact .inl (ex_rd e h)
  · exact .inr h

/-- the handles' addresses are continued -/
def Px (A A' : List Addr) : Prop := ∀ (n : Nat) a, A[n]? = some a → A'[n]? = some a
theorem Px.refl (A : List Addr) : Px A A := fun _ _ h => h
theorem Px.trans {A B C : List Addr} (a : Px A B) (b : Px B C) : Px A C := fun n x h => b n x (a n x h)
theorem Px.app {A C : List Addr} : Px A (A ++ C) := fun n a h => by
  have hn := (List.getElem?_eq_some_iff.mp h).1
  rw [List.getElem?_append_left hn]; exact h
theorem Px.len {A B : List Addr} (a : Px A B) : A.length ≤ B.length := by
  cases h : A.length with
  | zero => exact Nat.zero_le _
  | succ n =>
    have hn : n < A.length := by omega
    have e := a n A[n] (List.getElem?_eq_getElem hn)
    have := (List.getElem?_eq_some_iff.mp e).1
    omega

mutual
inductive Ho (K : PySem.W.Frag) (A : List Addr) (B : Hp) : V → D → Prop
  | non : Ho K A B .non .non
  | bl (b : Bool) : Ho K A B (.bl b) (.bl b)
  | int (i : Int) : Ho K A B (.int i) (.int i)
  | str (s : Str) : Ho K A B (.str s) (.str s)
  | tup {a : Addr} {vs : List V} {ds : List D} : SqT K B a vs → HoL K A B vs ds → Ho K A B (.ref a) (.tup ds)
  | lst {a : Addr} {vs : List V} {ds : List D} : B a = some (.lst vs) → HoL K A B vs ds → Ho K A B (.ref a) (.lst ds)
  | scr {a : Addr} {ns : List Int} : SqL K B a (ns.map V.int) → Ho K A B (.ref a) (.scr ns)
  | hd {a : Addr} {n : Nat} : A[n]? = some a → Ho K A B (.ref a) (.hd n)
inductive HoL (K : PySem.W.Frag) (A : List Addr) (B : Hp) : List V → List D → Prop
  | nil : HoL K A B [] []
  | cons {v : V} {vs : List V} {d : D} {ds : List D} : Ho K A B v d → HoL K A B vs ds → HoL K A B (v :: vs) (d :: ds)
end
section
variable {K : PySem.W.Frag} {A A' : List Addr} {B B' : Hp}
mutual
theorem Ho.mono (hA : Px A A') (hB : Ex B B') : ∀ (d : D) {v : V}, Ho K A B v d → Ho K A' B' v d
  | .non, _, h => by cases h; exact .non
  | .bl _, _, h => by cases h; exact .bl _
  | .int _, _, h => by cases h; exact .int _
  | .str _, _, h => by cases h; exact .str _
  | .tup ds, _, h => by cases h with | tup h1 h2 => exact .tup (ex_t hB h1) (HoL.mono hA hB ds h2)
  | .lst ds, _, h => by cases h with | lst h1 h2 => exact .lst (hB _ _ h1) (HoL.mono hA hB ds h2)
  | .scr _, _, h => by cases h with | scr h1 => exact .scr (ex_l hB h1)
  | .hd _, _, h => by cases h with | hd h1 => exact .hd (hA _ _ h1)
theorem HoL.mono (hA : Px A A') (hB : Ex B B') : ∀ (ds : List D) {vs : List V}, HoL K A B vs ds → HoL K A' B' vs ds
  | [], _, h => by cases h; exact .nil
  | d :: ds, _, h => by cases h with | cons h1 h2 => exact .cons (Ho.mono hA hB d h1) (HoL.mono hA hB ds h2)
end
theorem HoL.length {vs : List V} {ds : List D} (h : HoL K A B vs ds) : vs.length = ds.length := by
  induction ds generalizing vs with
  | nil => cases h; rfl
  | cons d ds ih => cases h with | cons _ h2 => simp [ih h2]
theorem HoL.get {vs : List V} {ds : List D} (h : HoL K A B vs ds) {i : Nat} {d : D} (e : ds[i]? = some d) : ∃ v, vs[i]? = some v ∧ Ho K A B v d := by
  induction ds generalizing vs i with
  | nil => simp at e
  | cons x ds ih =>
    cases h with
    | cons h1 h2 =>
      cases i with
      | zero => simp at e; subst e; exact ⟨_, rfl, h1⟩
      | succ i => simpa using ih h2 (by simpa using e)
theorem HoL.getV {vs : List V} {ds : List D} (h : HoL K A B vs ds) {i : Nat} {v : V} (e : vs[i]? = some v) : ∃ d, ds[i]? = some d ∧ Ho K A B v d := by
  have hi := (List.getElem?_eq_some_iff.mp e).1
  rw [h.length] at hi
  obtain ⟨v', e', r⟩ := h.get (List.getElem?_eq_getElem hi)
  rw [e] at e'; cases e'
  exact ⟨_, List.getElem?_eq_getElem hi, r⟩
theorem HoL.append {vs ws : List V} {ds es : List D} (h : HoL K A B vs ds) (h' : HoL K A B ws es) : HoL K A B (vs ++ ws) (ds ++ es) := by
  induction ds generalizing vs with
  | nil => cases h; exact h'
  | cons d ds ih => cases h with | cons h1 h2 => exact .cons h1 (ih h2)
theorem HoL.take {vs : List V} {ds : List D} (h : HoL K A B vs ds) (n : Nat) : HoL K A B (vs.take n) (ds.take n) := by
  induction ds generalizing vs n with
  | nil => cases h; simp; exact .nil
  | cons d ds ih => cases h with | cons h1 h2 => cases n with
    | zero => exact .nil
    | succ n => exact .cons h1 (ih h2 n)
theorem HoL.drop {vs : List V} {ds : List D} (h : HoL K A B vs ds) (n : Nat) : HoL K A B (vs.drop n) (ds.drop n) := by
  induction ds generalizing vs n with
  | nil => cases h; simp; exact .nil
  | cons d ds ih => cases h with | cons h1 h2 => cases n with
    | zero => exact .cons h1 h2
    | succ n => exact ih h2 n
theorem HoL.reverse {vs : List V} {ds : List D} (h : HoL K A B vs ds) : HoL K A B vs.reverse ds.reverse := by
  induction ds generalizing vs with
  | nil => cases h; exact .nil
  | cons d ds ih => cases h with | cons h1 h2 =>
    rw [List.reverse_cons, List.reverse_cons]; exact (ih h2).append (.cons h1 .nil)
theorem HoL.set {vs : List V} {ds : List D} (h : HoL K A B vs ds) {v : V} {d : D} (r : Ho K A B v d) (n : Nat) : HoL K A B (vs.set n v) (ds.set n d) := by
  induction ds generalizing vs n with
  | nil => cases h; simp; exact .nil
  | cons d ds ih => cases h with | cons h1 h2 => cases n with
    | zero => exact .cons r h2
    | succ n => exact .cons h1 (ih h2 n)
theorem HoL.eraseIdx {vs : List V} {ds : List D} (h : HoL K A B vs ds) (n : Nat) : HoL K A B (vs.eraseIdx n) (ds.eraseIdx n) := by
  induction ds generalizing vs n with
  | nil => cases h; simp; exact .nil
  | cons d ds ih => cases h with | cons h1 h2 => cases n with
    | zero => exact h2
    | succ n => exact .cons h1 (ih h2 n)
theorem HoL.dropLast {vs : List V} {ds : List D} (h : HoL K A B vs ds) : HoL K A B vs.dropLast ds.dropLast := by
  rw [List.dropLast_eq_take, List.dropLast_eq_take, h.length]; exact h.take _
theorem HoL.replicate {vs : List V} {ds : List D} (h : HoL K A B vs ds) (n : Nat) : HoL K A B (List.replicate n vs).flatten (List.replicate n ds).flatten := by
  induction n with
  | zero => exact .nil
  | succ n ih => rw [List.replicate_succ, List.replicate_succ, List.flatten_cons, List.flatten_cons]; exact h.append ih
theorem HoL.ints {ns : List Int} : ∀ {vs : List V}, HoL K A B vs (ns.map D.int) → vs = ns.map V.int := by
  induction ns with
  | nil => intro vs h; cases h; rfl
  | cons n ns ih => intro vs h; cases h with | cons h1 h2 => cases h1; rw [ih h2]; rfl
theorem HoL.of_ints {ns : List Int} : HoL K A B (ns.map V.int) (ns.map D.int) := by
  induction ns with
  | nil => exact .nil
  | cons n ns ih => exact .cons (.int n) ih
end

/-! ## the frame, the store, what is owned -/
inductive Sl where
  | no | val (d : D) | own (xs : List D)
  deriving Inhabited
abbrev Env := List Sl
abbrev Sto := List (List D)
inductive Role where
  | s (i : Nat) | t (k : Nat) | h (n : Nat)
  deriving DecidableEq
def cont (ρ : Env) (T : List (Addr × List D)) (st : Sto) : Role → Option (List D)
  | .s i => match ρ[i]? with | some (.own xs) => some xs | _ => none
  | .t k => (T[k]?).map (·.2)
  | .h n => st[n]?
def adr (A : List Addr) (σ : L2.St) (T : List (Addr × List D)) : Role → Option Addr
  | .s i => match σ[i]? with | some (some (.ref a)) => some a | _ => none
  | .t k => (T[k]?).map (·.1)
  | .h n => A[n]?
def Own (K : PySem.W.Frag) (A : List Addr) (B H : Hp) (a : Addr) (xs : List D) : Prop := B a = none ∧ ∃ vs, H a = some (.lst vs) ∧ HoL K A B vs xs

/-- where the frame began -/
structure Org where
  A : List Addr
  B : Hp
  H : Hp
/-- what has become of (A, B, H) -/
structure Fwd (O : Org) (A : List Addr) (B H : Hp) : Prop where
  px : Px O.A A
  ex : Ex O.B B
  nb : ∀ a, O.B a = none → B a ≠ none → O.H a = none
  na : ∀ n a, A[n]? = some a → O.A.length ≤ n → O.H a = none
  kp : ∀ a o, O.H a = some o → a ∉ O.A → H a = some o
  kh : ∀ a, O.H a ≠ none → H a ≠ none
structure Rel (K : PySem.W.Frag) (O : Org) (A : List Addr) (B : Hp) (σ : L2.St) (H : Hp) (ρ : Env) (st : Sto) (T : List (Addr × List D)) : Prop where
  fw : Fwd O A B H
  ex : Ex B H
  len : σ.length = ρ.length
  al : A.length = st.length
  val : ∀ (i : Nat) (d : D), ρ[i]? = some (.val d) → ∃ v, σ[i]? = some (some v) ∧ Ho K A B v d
  own : ∀ r xs, cont ρ T st r = some xs → ∃ a, adr A σ T r = some a ∧ Own K A B H a xs
  dist : ∀ r r' xs xs' a, cont ρ T st r = some xs → cont ρ T st r' = some xs' → adr A σ T r = some a → adr A σ T r' = some a → r = r'
  fresh : ∀ r xs a, cont ρ T st r = some xs → adr A σ T r = some a → (∀ n, r = .h n → O.A.length ≤ n) → O.H a = none

section
variable {K : PySem.W.Frag} {O : Org} {A A' : List Addr} {B B' H H' : Hp} {σ : L2.St} {ρ : Env} {st : Sto} {T : List (Addr × List D)}
theorem Own.mono {a : Addr} {xs : List D} (hA : Px A A') (hB : Ex B B') (hb : B' a = none) (hh : ∀ o, H a = some o → H' a = some o) (h : Own K A B H a xs) : Own K A' B' H' a xs := by
  obtain ⟨_, vs, h2, h3⟩ := h
  exact ⟨hb, vs, hh _ h2, h3.mono hA hB⟩
theorem Rel.hfresh (R : Rel K O A B σ H ρ st T) {p : Addr} (h : H p = none) : O.H p = none := by
  cases q : O.H p with
  | none => rfl
  | some o => exact absurd h (R.fw.kh p (by rw [q]; simp))
theorem Rel.bfresh (R : Rel K O A B σ H ρ st T) {p : Addr} (h : H p = none) : B p = none := R.ex.back h
theorem Rel.adr_ne (R : Rel K O A B σ H ρ st T) {r : Role} {xs : List D} {a p : Addr} (c : cont ρ T st r = some xs) (e : adr A σ T r = some a) (h : H p = none) : a ≠ p := by
  obtain ⟨a', e', _, vs, h2, _⟩ := R.own r xs c
  rw [e] at e'; cases e'
  exact ne_of_none h2 h
/-- the heap grows, what is frozen grows by new things alone -/
theorem Rel.grow (R : Rel K O A B σ H ρ st T) (hB : Ex B B') (hH : Ex H H') (hBH : Ex B' H') (hn : ∀ a, B a = none → B' a ≠ none → H a = none) : Rel K O A B' σ H' ρ st T where
  fw := ⟨R.fw.px, R.fw.ex.trans hB, fun a h1 h2 => by
      by_cases q : B a = none
      · exact R.hfresh (hn a q h2)
      · exact R.fw.nb a h1 q, R.fw.na, fun a o h1 h2 => hH a o (R.fw.kp a o h1 h2), fun a h1 h2 => R.fw.kh a h1 (hH.back h2)⟩
  ex := hBH
  len := R.len
  al := R.al
  val := fun i d e => by
    obtain ⟨v, e1, e2⟩ := R.val i d e
    exact ⟨v, e1, e2.mono (Px.refl _) hB⟩
  own := fun r xs c => by
    obtain ⟨a, e, o⟩ := R.own r xs c
    refine ⟨a, e, o.mono (Px.refl _) hB ?_ (fun o q => hH a o q)⟩
    obtain ⟨b0, vs, h2, _⟩ := o
    cases q : B' a with
    | none => rfl
    | some u =>
      have := hn a b0 (by rw [q]; simp)
      rw [h2] at this; cases this
  dist := R.dist
  fresh := R.fresh
/-- a new tuple (or any thing), frozen -/
theorem Rel.new (R : Rel K O A B σ H ρ st T) {p : Addr} {o : HO} (h : H p = none) : Rel K O A (upd B p o) σ (upd H p o) ρ st T :=
  R.grow (Ex.new (R.bfresh h)) (Ex.new h) R.ex.upd2 (fun a h1 h2 => by
    by_cases q : a = p
    · rw [q]; exact h
    · rw [upd_ne q] at h2; exact absurd h1 h2)
/-- a thing that nobody holds -/
theorem Rel.waste (R : Rel K O A B σ H ρ st T) {p : Addr} {o : HO} (h : H p = none) : Rel K O A B σ (upd H p o) ρ st T :=
  R.grow (Ex.refl _) (Ex.new h) (R.ex.trans (Ex.new h)) (fun a h1 h2 => absurd h1 h2)
theorem cont_t0 {a : Addr} {xs : List D} : cont ρ ((a, xs) :: T) st (.t 0) = some xs := rfl
theorem cont_ts {p : Addr × List D} {k : Nat} : cont ρ (p :: T) st (.t (k + 1)) = cont ρ T st (.t k) := by simp [cont]
theorem adr_ts {p : Addr × List D} {k : Nat} : adr A σ (p :: T) (.t (k + 1)) = adr A σ T (.t k) := by simp [adr]
/-- a role ahead of a push of a temp -/
def Role.up : Role → Role
  | .t k => .t (k + 1)
  | r => r
theorem cont_up (p : Addr × List D) (r : Role) : cont ρ (p :: T) st r.up = cont ρ T st r := by
  cases r <;> simp [Role.up, cont]
theorem adr_up (p : Addr × List D) (r : Role) : adr A σ (p :: T) r.up = adr A σ T r := by
  cases r <;> simp [Role.up, adr]
theorem Role.up_cases (r : Role) : r = .t 0 ∨ ∃ r' : Role, r = r'.up := by
  cases r with
  | s i => exact .inr ⟨.s i, rfl⟩
  | h n => exact .inr ⟨.h n, rfl⟩
  | t k => cases k with
    | zero => exact .inl rfl
    | succ k => exact .inr ⟨.t k, rfl⟩
theorem Role.up_inj {r r' : Role} (h : r.up = r'.up) : r = r' := by
  cases r <;> cases r' <;> simp_all [Role.up]
theorem Role.up_h {r : Role} {n : Nat} (h : r.up = .h n) : r = .h n := by
  cases r <;> simp_all [Role.up]
/-- a new list, a temp -/
theorem Rel.push (R : Rel K O A B σ H ρ st T) {p : Addr} {vs : List V} {xs : List D} (h : H p = none) (hv : HoL K A B vs xs) : Rel K O A B σ (upd H p (.lst vs)) ρ st ((p, xs) :: T) := by
  have R' := R.waste (o := .lst vs) h
  refine ⟨R'.fw, R'.ex, R.len, R.al, R'.val, fun r ys c => ?_, fun r r' ys ys' a c c' e e' => ?_, fun r ys a c e hn => ?_⟩
  · rcases r.up_cases with rfl | ⟨q, rfl⟩
    · cases c
      exact ⟨p, rfl, R.bfresh h, vs, upd_same, hv⟩
    · rw [cont_up] at c; rw [adr_up]
      exact R'.own q ys c
  · rcases r.up_cases with rfl | ⟨q, rfl⟩
    · cases e
      rcases r'.up_cases with rfl | ⟨q', rfl⟩
      · rfl
      · rw [cont_up] at c'; rw [adr_up] at e'
        exact absurd rfl (R.adr_ne c' e' h)
    · rw [cont_up] at c; rw [adr_up] at e
      rcases r'.up_cases with rfl | ⟨q', rfl⟩
      · cases e'
        exact absurd rfl (R.adr_ne c e h)
      · rw [cont_up] at c'; rw [adr_up] at e'
        rw [R.dist q q' ys ys' a c c' e e']
  · rcases r.up_cases with rfl | ⟨q, rfl⟩
    · cases e; exact R.hfresh h
    · rw [cont_up] at c; rw [adr_up] at e
      exact R.fresh q ys a c e (fun n hq => hn n (by rw [hq]; rfl))
/-- the newest temp is dropped -/
theorem Rel.pop {p : Addr × List D} (R : Rel K O A B σ H ρ st (p :: T)) : Rel K O A B σ H ρ st T := by
  refine ⟨R.fw, R.ex, R.len, R.al, R.val, fun r ys c => ?_, fun r r' ys ys' a c c' e e' => ?_, fun r ys a c e hn => ?_⟩
  · have := R.own r.up ys (by rw [cont_up]; exact c)
    rw [adr_up] at this; exact this
  · exact Role.up_inj (R.dist r.up r'.up ys ys' a (by rw [cont_up]; exact c) (by rw [cont_up]; exact c') (by rw [adr_up]; exact e) (by rw [adr_up]; exact e'))
  · exact R.fresh r.up ys a (by rw [cont_up]; exact c) (by rw [adr_up]; exact e) (fun n hq => hn n (Role.up_h hq))
/-- what is at the newest temp -/
theorem Rel.top {a : Addr} {xs : List D} (R : Rel K O A B σ H ρ st ((a, xs) :: T)) : Own K A B H a xs := by
  obtain ⟨a', e, o⟩ := R.own (.t 0) xs rfl
  cases e; exact o
/-- an owned thing that no role holds any more is frozen -/
theorem Rel.frz {a : Addr} {vs : List V} (R : Rel K O A B σ H ρ st T) (hb : B a = none) (hh : H a = some (.lst vs)) (ho : O.H a = none) (hno : ∀ r ys, cont ρ T st r = some ys → adr A σ T r ≠ some a) :
    Rel K O A (upd B a (.lst vs)) σ H ρ st T := by
  have hB : Ex B (upd B a (.lst vs)) := Ex.new hb
  refine ⟨⟨R.fw.px, R.fw.ex.trans hB, fun c h1 h2 => ?_, R.fw.na, R.fw.kp, R.fw.kh⟩, fun c o e => ?_, R.len, R.al, fun i d e => ?_, fun r xs c => ?_, R.dist, R.fresh⟩
  · by_cases q : c = a
    · rw [q]; exact ho
    · rw [upd_ne q] at h2; exact R.fw.nb c h1 h2
  · by_cases q : c = a
    · subst q; rw [upd_same] at e; cases e; exact hh
    · rw [upd_ne q] at e; exact R.ex c o e
  · obtain ⟨v, e1, e2⟩ := R.val i d e
    exact ⟨v, e1, e2.mono (Px.refl _) hB⟩
  · obtain ⟨c', e, o⟩ := R.own r xs c
    refine ⟨c', e, o.mono (Px.refl _) hB ?_ (fun o q => q)⟩
    have hne : c' ≠ a := fun z => hno r xs c (by rw [e, z])
    rw [upd_ne hne]; exact o.1
theorem Rel.freeze {a : Addr} {xs : List D} (R : Rel K O A B σ H ρ st ((a, xs) :: T)) : ∃ vs, Rel K O A (upd B a (.lst vs)) σ H ρ st T ∧ Ho K A (upd B a (.lst vs)) (.ref a) (.lst xs) ∧ Ex B (upd B a (.lst vs)) := by
  obtain ⟨hb, vs, hh, hv⟩ := R.top
  refine ⟨vs, R.pop.frz hb hh (R.fresh (.t 0) xs a rfl rfl (fun n z => by cases z)) (fun r ys c e => ?_), .lst upd_same (hv.mono (Px.refl _) (Ex.new hb)), Ex.new hb⟩
  have := R.dist (.t 0) r.up xs ys a rfl (by rw [cont_up]; exact c) rfl (by rw [adr_up]; exact e)
  cases r <;> simp [Role.up] at this
end
end Pv

namespace Pv
open PySem PySem.Spec PyProof.Rows L2
section
variable {K : PySem.W.Frag} {O : Org} {A A' : List Addr} {B B' H H' : Hp} {σ σ' : L2.St} {ρ ρ' : Env} {st st' : Sto} {T T' : List (Addr × List D)}
theorem cont_set_ne {i : Nat} {x : Sl} {r : Role} (h : r ≠ .s i) : cont (ρ.set i x) T st r = cont ρ T st r := by
  cases r with
  | s j =>
    have hj : i ≠ j := fun e => h (by rw [e])
    simp only [cont, List.getElem?_set_ne hj]
  | t k => rfl
  | h n => rfl
theorem adr_set_ne {i : Nat} {x : Option V} {r : Role} (h : r ≠ .s i) : adr A (σ.set i x) T r = adr A σ T r := by
  cases r with
  | s j =>
    have hj : i ≠ j := fun e => h (by rw [e])
    simp only [adr, List.getElem?_set_ne hj]
  | t k => rfl
  | h n => rfl
theorem cont_set_no {i : Nat} {x : Sl} (hx : ∀ xs, x ≠ .own xs) {r : Role} {xs : List D} (c : cont (ρ.set i x) T st r = some xs) : r ≠ .s i ∧ cont ρ T st r = some xs := by
  have hr : r ≠ .s i := by
    intro e
    subst e
    by_cases hi : i < ρ.length
    · simp only [cont, List.getElem?_set_self hi] at c
      cases x with
      | own ys => exact hx ys rfl
      | no => cases c
      | val d => cases c
    · have : (ρ.set i x)[i]? = none := List.getElem?_eq_none (by rw [List.length_set]; omega)
      simp only [cont, this] at c
      cases c
  exact ⟨hr, by rw [← cont_set_ne hr]; exact c⟩
/-- a slot that holds nothing that is owned -/
theorem Rel.setv {i : Nat} {x : Sl} {y : Option V} (R : Rel K O A B σ H ρ st T) (hx : ∀ xs, x ≠ .own xs) (hv : ∀ d, x = .val d → ∃ v, y = some v ∧ Ho K A B v d) : Rel K O A B (σ.set i y) H (ρ.set i x) st T := by
  refine ⟨R.fw, R.ex, by rw [List.length_set, List.length_set]; exact R.len, R.al, fun j d e => ?_, fun r xs c => ?_, fun r r' xs xs' a c c' e e' => ?_, fun r xs a c e hn => ?_⟩
  · by_cases hj : i = j
    · subst hj
      by_cases hi : i < ρ.length
      · rw [List.getElem?_set_self hi] at e
        cases e
        obtain ⟨v, rfl, h⟩ := hv d rfl
        exact ⟨v, List.getElem?_set_self (by rw [R.len]; exact hi), h⟩
      · rw [List.getElem?_eq_none (by rw [List.length_set]; omega)] at e
        cases e
    · rw [List.getElem?_set_ne hj] at e
      obtain ⟨v, e1, e2⟩ := R.val j d e
      exact ⟨v, by rw [List.getElem?_set_ne hj]; exact e1, e2⟩
  · obtain ⟨h1, h2⟩ := cont_set_no hx c
    obtain ⟨a, e, o⟩ := R.own r xs h2
    exact ⟨a, by rw [adr_set_ne h1]; exact e, o⟩
  · obtain ⟨h1, h2⟩ := cont_set_no hx c
    obtain ⟨h1', h2'⟩ := cont_set_no hx c'
    rw [adr_set_ne h1] at e
    rw [adr_set_ne h1'] at e'
    exact R.dist r r' xs xs' a h2 h2' e e'
  · obtain ⟨h1, h2⟩ := cont_set_no hx c
    rw [adr_set_ne h1] at e
    exact R.fresh r xs a h2 e hn
theorem Rel.setVal {i : Nat} {v : V} {d : D} (R : Rel K O A B σ H ρ st T) (h : Ho K A B v d) : Rel K O A B (σ.set i (some v)) H (ρ.set i (.val d)) st T :=
  R.setv (fun _ z => by cases z) fun d' z => by cases z; exact ⟨v, rfl, h⟩
theorem Rel.setNo {i : Nat} {y : Option V} (R : Rel K O A B σ H ρ st T) : Rel K O A B (σ.set i y) H (ρ.set i .no) st T :=
  R.setv (fun _ z => by cases z) fun d' z => by cases z
/-- another frame of the same values -/
theorem Rel.resig (R : Rel K O A B σ H ρ st T) (hl : σ'.length = σ.length) (h : ∀ (j : Nat), ρ[j]? ≠ some Sl.no → σ'[j]? = σ[j]?) : Rel K O A B σ' H ρ st T := by
  have ad : ∀ r xs, cont ρ T st r = some xs → adr A σ' T r = adr A σ T r := fun r xs c => by
    cases r with
    | s j =>
      have : σ'[j]? = σ[j]? := h j fun z => by simp [cont, z] at c
      simp only [adr, this]
    | t k => rfl
    | h n => rfl
  refine ⟨R.fw, R.ex, by rw [hl]; exact R.len, R.al, fun j d e => ?_, fun r xs c => ?_, fun r r' xs xs' a c c' e e' => ?_, fun r xs a c e hn => ?_⟩
  · rw [h j (by rw [e]; simp)]; exact R.val j d e
  · rw [ad r xs c]; exact R.own r xs c
  · rw [ad r xs c] at e; rw [ad r' xs' c'] at e'
    exact R.dist r r' xs xs' a c c' e e'
  · rw [ad r xs c] at e; exact R.fresh r xs a c e hn
/-- the newest temp comes to a slot -/
theorem Rel.setOwn {i : Nat} {a : Addr} {xs : List D} (R : Rel K O A B σ H ρ st ((a, xs) :: T)) (hi : i < ρ.length) : Rel K O A B (σ.set i (some (.ref a))) H (ρ.set i (.own xs)) st T := by
  have R0 : Rel K O A B (σ.set i (some (.ref a))) H (ρ.set i .no) st ((a, xs) :: T) := R.setNo
  have hs : i < σ.length := by rw [R.len]; exact hi
  -- a role of the new frame is a role of R0
  have back : ∀ r ys, cont (ρ.set i (.own xs)) T st r = some ys → (r = .s i ∧ ys = xs) ∨ (r ≠ .s i ∧ cont ρ T st r = some ys) := fun r ys c => by
    by_cases hr : r = .s i
    · subst hr
      simp only [cont, List.getElem?_set_self hi] at c
      exact .inl ⟨rfl, (Option.some.inj c).symm⟩
    · exact .inr ⟨hr, by rw [← cont_set_ne hr]; exact c⟩
  have adi : adr A (σ.set i (some (.ref a))) T (.s i) = some a := by simp only [adr, List.getElem?_set_self hs]
  have nota : ∀ r ys, cont ρ T st r = some ys → adr A σ T r = some a → False := fun r ys c e => by
    have := R.dist (.t 0) r.up xs ys a rfl (by rw [cont_up]; exact c) rfl (by rw [adr_up]; exact e)
    cases r <;> simp [Role.up] at this
  refine ⟨R.fw, R.ex, by rw [List.length_set, List.length_set]; exact R.len, R.al, fun j d e => ?_, fun r ys c => ?_, fun r r' ys ys' b c c' e e' => ?_, fun r ys b c e hn => ?_⟩
  · by_cases hj : i = j
    · subst hj
      rw [List.getElem?_set_self hi] at e; cases e
    · rw [List.getElem?_set_ne hj] at e
      obtain ⟨v, e1, e2⟩ := R.val j d e
      exact ⟨v, by rw [List.getElem?_set_ne hj]; exact e1, e2⟩
  · rcases back r ys c with ⟨rfl, rfl⟩ | ⟨h1, h2⟩
    · exact ⟨a, adi, R.top⟩
    · obtain ⟨b, e, o⟩ := R.pop.own r ys h2
      exact ⟨b, by rw [adr_set_ne h1]; exact e, o⟩
  · rcases back r ys c with ⟨rfl, rfl⟩ | ⟨h1, h2⟩
    · rw [adi] at e; cases e
      rcases back r' ys' c' with ⟨rfl, rfl⟩ | ⟨h1', h2'⟩
      · rfl
      · rw [adr_set_ne h1'] at e'
        exact (nota r' ys' h2' e').elim
    · rw [adr_set_ne h1] at e
      rcases back r' ys' c' with ⟨rfl, rfl⟩ | ⟨h1', h2'⟩
      · rw [adi] at e'; cases e'
        exact (nota r ys h2 e).elim
      · rw [adr_set_ne h1'] at e'
        exact R.pop.dist r r' ys ys' b h2 h2' e e'
  · rcases back r ys c with ⟨rfl, rfl⟩ | ⟨h1, h2⟩
    · rw [adi] at e; cases e
      exact R.fresh (.t 0) ys a rfl rfl (fun n z => by cases z)
    · rw [adr_set_ne h1] at e
      exact R.pop.fresh r ys b h2 e hn
/-- a slot's own list becomes a temp -/
theorem Rel.take {i : Nat} {xs : List D} (R : Rel K O A B σ H ρ st T) (h : ρ[i]? = some (.own xs)) : ∃ a, σ[i]? = some (some (.ref a)) ∧ Rel K O A B σ H (ρ.set i .no) st ((a, xs) :: T) := by
  have ci : cont ρ T st (.s i) = some xs := by simp only [cont, h]
  obtain ⟨a, e, o⟩ := R.own (.s i) xs ci
  have es : σ[i]? = some (some (.ref a)) := by
    simp only [adr] at e
    split at e <;> simp_all
  have hsi : σ.set i (some (.ref a)) = σ := by
    apply List.ext_getElem?
    intro j
    by_cases hj : i = j
    · subst hj
      rw [List.getElem?_set_self (List.getElem?_eq_some_iff.mp es).1, es]
    · rw [List.getElem?_set_ne hj]
  have R0 : Rel K O A B (σ.set i (some (.ref a))) H (ρ.set i .no) st T := R.setNo
  rw [hsi] at R0
  refine ⟨a, es, R0.fw, R0.ex, R0.len, R0.al, R0.val, fun r ys c => ?_, fun r r' ys ys' b c c' e1 e2 => ?_, fun r ys b c e1 hn => ?_⟩
  · rcases r.up_cases with rfl | ⟨q, rfl⟩
    · cases c; exact ⟨a, rfl, o⟩
    · rw [cont_up] at c; rw [adr_up]; exact R0.own q ys c
  · have key : ∀ q zs, cont (ρ.set i .no) T st q = some zs → adr A σ T q = some a → False := fun q zs c e3 => by
      obtain ⟨h1, h2⟩ := cont_set_no (fun _ z => by cases z) c
      exact h1 (R.dist q (.s i) zs xs a h2 ci e3 e)
    rcases r.up_cases with rfl | ⟨q, rfl⟩
    · cases e1
      rcases r'.up_cases with rfl | ⟨q', rfl⟩
      · rfl
      · rw [cont_up] at c'; rw [adr_up] at e2
        exact (key q' ys' c' e2).elim
    · rw [cont_up] at c; rw [adr_up] at e1
      rcases r'.up_cases with rfl | ⟨q', rfl⟩
      · cases e2
        exact (key q ys c e1).elim
      · rw [cont_up] at c'; rw [adr_up] at e2
        rw [R0.dist q q' ys ys' b c c' e1 e2]
  · rcases r.up_cases with rfl | ⟨q, rfl⟩
    · cases e1
      exact R.fresh (.s i) xs a ci e (fun n z => by cases z)
    · rw [cont_up] at c; rw [adr_up] at e1
      exact R0.fresh q ys b c e1 (fun n hq => hn n (by rw [hq]; rfl))
/-- a slot's own list is frozen -/
theorem Rel.freezeSlot {i : Nat} {xs : List D} (R : Rel K O A B σ H ρ st T) (h : ρ[i]? = some (.own xs)) : ∃ a B', σ[i]? = some (some (.ref a)) ∧ Rel K O A B' σ H (ρ.set i (.val (.lst xs))) st T ∧ Ho K A B' (.ref a) (.lst xs) ∧ Ex B B' := by
  obtain ⟨a, es, R1⟩ := R.take h
  obtain ⟨vs, R2, h2, h3⟩ := R1.freeze
  have R3 := R2.setVal (i := i) h2
  have hsi : σ.set i (some (.ref a)) = σ := by
    apply List.ext_getElem?
    intro j
    by_cases hj : i = j
    · subst hj
      rw [List.getElem?_set_self (List.getElem?_eq_some_iff.mp es).1, es]
    · rw [List.getElem?_set_ne hj]
  rw [hsi, List.set_set] at R3
  exact ⟨a, _, es, R3, h2, h3⟩
/-- the list of a role changes -/
theorem Rel.updr {r : Role} {a : Addr} {xs ys : List D} {vs : List V} (R : Rel K O A B σ H ρ st T) (c : cont ρ T st r = some xs) (e : adr A σ T r = some a) (hv : HoL K A B vs ys) (cr : cont ρ' T' st' r = some ys)
    (co : ∀ q, q ≠ r → cont ρ' T' st' q = cont ρ T st q) (ad : ∀ q, adr A σ T' q = adr A σ T q) (l1 : ρ'.length = ρ.length) (l2 : st'.length = st.length) (va : ∀ (i : Nat) (d : D), ρ'[i]? = some (.val d) → ρ[i]? = some (.val d)) :
    Rel K O A B σ (upd H a (.lst vs)) ρ' st' T' := by
  obtain ⟨a', e', hb, ws, hw, _⟩ := R.own r xs c
  rw [e] at e'; cases e'
  have ne : ∀ b o, O.H b = some o → b ∉ O.A → b ≠ a := fun b o hb' hA z => by
    subst z
    by_cases hr : ∀ n, r = .h n → O.A.length ≤ n
    · rw [R.fresh r xs b c e hr] at hb'; cases hb'
    · simp only [Classical.not_forall] at hr
      obtain ⟨n, rfl, hn⟩ := hr
      have hn' : n < O.A.length := by omega
      have e1 : O.A[n]? = some O.A[n] := List.getElem?_eq_getElem hn'
      have e2 := R.fw.px n _ e1
      simp only [adr] at e
      rw [e] at e2; cases e2
      exact hA (List.getElem_mem hn')
  refine ⟨⟨R.fw.px, R.fw.ex, R.fw.nb, R.fw.na, fun b o h1 h2 => by rw [upd_ne (ne b o h1 h2)]; exact R.fw.kp b o h1 h2, fun b h1 => ?_⟩, R.ex.mut hb, by rw [R.len, l1], by rw [R.al, l2], fun i d h => R.val i d (va i d h), fun q zs cq => ?_,
    fun q q' zs zs' b cq cq' eq eq' => ?_, fun q zs b cq eq hn => ?_⟩
  · by_cases q : b = a
    · subst q; rw [upd_same]; simp
    · rw [upd_ne q]; exact R.fw.kh b h1
  · by_cases hq : q = r
    · subst hq
      rw [cr] at cq; cases cq
      exact ⟨a, by rw [ad]; exact e, hb, vs, upd_same, hv⟩
    · rw [co q hq] at cq
      obtain ⟨b, e1, b0, us, hu, hl⟩ := R.own q zs cq
      refine ⟨b, by rw [ad]; exact e1, b0, us, ?_, hl⟩
      have : b ≠ a := fun z => by
        subst z
        exact hq (R.dist q r zs xs b cq c e1 e)
      rw [upd_ne this]; exact hu
  · rw [ad] at eq eq'
    have has : ∀ q zs, cont ρ' T' st' q = some zs → ∃ zs', cont ρ T st q = some zs' := fun q zs h => by
      by_cases hq : q = r
      · subst hq; exact ⟨xs, c⟩
      · rw [co q hq] at h; exact ⟨zs, h⟩
    obtain ⟨_, k1⟩ := has q zs cq
    obtain ⟨_, k2⟩ := has q' zs' cq'
    exact R.dist q q' _ _ b k1 k2 eq eq'
  · rw [ad] at eq
    by_cases hq : q = r
    · subst hq; exact R.fresh q xs b c eq hn
    · rw [co q hq] at cq
      exact R.fresh q zs b cq eq hn
/-- a slot's own list changes -/
theorem Rel.updSlot {i : Nat} {xs : List D} (R : Rel K O A B σ H ρ st T) (h : ρ[i]? = some (.own xs)) : ∃ a vs, σ[i]? = some (some (.ref a)) ∧ H a = some (.lst vs) ∧ HoL K A B vs xs ∧
    ∀ ws ys, HoL K A B ws ys → Rel K O A B σ (upd H a (.lst ws)) (ρ.set i (.own ys)) st T := by
  have ci : cont ρ T st (.s i) = some xs := by simp only [cont, h]
  obtain ⟨a, e, hb, vs, hv, hl⟩ := R.own (.s i) xs ci
  have es : σ[i]? = some (some (.ref a)) := by
    simp only [adr] at e
    split at e <;> simp_all
  have hi := (List.getElem?_eq_some_iff.mp h).1
  refine ⟨a, vs, es, hv, hl, fun ws ys hw => R.updr ci e hw (by simp only [cont, List.getElem?_set_self hi]) (fun q hq => cont_set_ne hq) (fun _ => rfl) (by rw [List.length_set]) rfl fun j d z => ?_⟩
  by_cases hj : i = j
  · subst hj; rw [List.getElem?_set_self hi] at z; cases z
  · rw [List.getElem?_set_ne hj] at z; exact z
/-- a handle's list changes -/
theorem Rel.updH {n : Nat} {xs : List D} (R : Rel K O A B σ H ρ st T) (h : st[n]? = some xs) : ∃ a vs, A[n]? = some a ∧ H a = some (.lst vs) ∧ HoL K A B vs xs ∧
    ∀ ws ys, HoL K A B ws ys → Rel K O A B σ (upd H a (.lst ws)) ρ (st.set n ys) T := by
  have ci : cont ρ T st (.h n) = some xs := h
  obtain ⟨a, e, hb, vs, hv, hl⟩ := R.own (.h n) xs ci
  have hi := (List.getElem?_eq_some_iff.mp h).1
  refine ⟨a, vs, e, hv, hl, fun ws ys hw => R.updr ci e hw (by simp only [cont]; exact List.getElem?_set_self hi) (fun q hq => ?_) (fun _ => rfl) rfl (by rw [List.length_set]) fun j d z => z⟩
  cases q with
  | s i => rfl
  | t k => rfl
  | h m =>
    have hm : n ≠ m := fun z => hq (by rw [z])
    simp only [cont, List.getElem?_set_ne hm]
/-- the newest temp changes -/
theorem Rel.updT {a : Addr} {xs : List D} (R : Rel K O A B σ H ρ st ((a, xs) :: T)) {ws : List V} {ys : List D} (hw : HoL K A B ws ys) : Rel K O A B σ (upd H a (.lst ws)) ρ st ((a, ys) :: T) := by
  refine R.updr (r := .t 0) rfl rfl hw rfl (fun q hq => ?_) (fun q => ?_) rfl rfl fun j d z => z
  · rcases q.up_cases with rfl | ⟨q', rfl⟩
    · exact absurd rfl hq
    · rw [cont_up, cont_up]
  · rcases q.up_cases with rfl | ⟨q', rfl⟩
    · rfl
    · rw [adr_up, adr_up]
/-- the newest temp becomes a handle -/
theorem Rel.share {a : Addr} {xs : List D} (R : Rel K O A B σ H ρ st ((a, xs) :: T)) : Rel K O (A ++ [a]) B σ H ρ (st ++ [xs]) T ∧ Ho K (A ++ [a]) B (.ref a) (.hd st.length) := by
  have al := R.al
  have hA : Px A (A ++ [a]) := Px.app
  have an : (A ++ [a])[st.length]? = some a := by rw [← al]; simp
  -- roles of the new store
  have back : ∀ r ys, cont ρ T (st ++ [xs]) r = some ys → (r = .h st.length ∧ ys = xs) ∨ (cont ρ T st r = some ys ∧ adr (A ++ [a]) σ T r = adr A σ T r) := fun r ys c => by
    cases r with
    | s i => exact .inr ⟨c, rfl⟩
    | t k => exact .inr ⟨c, rfl⟩
    | h n =>
      simp only [cont] at c
      by_cases hn : n < st.length
      · rw [List.getElem?_append_left hn] at c
        refine .inr ⟨c, ?_⟩
        simp only [adr]
        rw [List.getElem?_append_left (by omega)]
      · have hlt := (List.getElem?_eq_some_iff.mp c).1
        have : n = st.length := by simp at hlt; omega
        subst this
        simp at c
        exact .inl ⟨rfl, c.symm⟩
  have nota : ∀ r ys, cont ρ T st r = some ys → adr A σ T r = some a → False := fun r ys c e => by
    have := R.dist (.t 0) r.up xs ys a rfl (by rw [cont_up]; exact c) rfl (by rw [adr_up]; exact e)
    cases r <;> simp [Role.up] at this
  have fa : O.H a = none := R.fresh (.t 0) xs a rfl rfl (fun n z => by cases z)
  refine ⟨⟨⟨R.fw.px.trans hA, R.fw.ex, R.fw.nb, fun n b e hn => ?_, R.fw.kp, R.fw.kh⟩, R.ex, R.len, by simp [al], fun i d e => ?_, fun r ys c => ?_, fun r r' ys ys' b c c' e e' => ?_, fun r ys b c e hn => ?_⟩, .hd an⟩
  · by_cases h : n < A.length
    · rw [List.getElem?_append_left h] at e
      exact R.fw.na n b e hn
    · have hlt := (List.getElem?_eq_some_iff.mp e).1
      have : n = A.length := by simp at hlt; omega
      subst this
      simp at e
      rw [← e]; exact fa
  · obtain ⟨v, e1, e2⟩ := R.val i d e
    exact ⟨v, e1, e2.mono hA (Ex.refl _)⟩
  · rcases back r ys c with ⟨rfl, rfl⟩ | ⟨h1, h2⟩
    · exact ⟨a, an, R.top.mono hA (Ex.refl _) R.top.1 (fun _ h => h)⟩
    · obtain ⟨b, e, o⟩ := R.pop.own r ys h1
      exact ⟨b, by rw [h2]; exact e, o.mono hA (Ex.refl _) o.1 (fun _ h => h)⟩
  · rcases back r ys c with ⟨rfl, rfl⟩ | ⟨h1, h2⟩
    · simp only [adr] at e
      rw [an] at e; cases e
      rcases back r' ys' c' with ⟨rfl, rfl⟩ | ⟨h1', h2'⟩
      · rfl
      · rw [h2'] at e'
        exact (nota r' ys' h1' e').elim
    · rw [h2] at e
      rcases back r' ys' c' with ⟨rfl, rfl⟩ | ⟨h1', h2'⟩
      · simp only [adr] at e'
        rw [an] at e'; cases e'
        exact (nota r ys h1 e).elim
      · rw [h2'] at e'
        exact R.pop.dist r r' ys ys' b h1 h1' e e'
  · rcases back r ys c with ⟨rfl, rfl⟩ | ⟨h1, h2⟩
    · simp only [adr] at e
      rw [an] at e; cases e
      exact fa
    · rw [h2] at e
      exact R.pop.fresh r ys b h1 e hn

/-! ### calls -/
structure SRel (K : PySem.W.Frag) (A : List Addr) (B H : Hp) (st : Sto) : Prop where
  ex : Ex B H
  al : A.length = st.length
  own : ∀ (n : Nat) (a : Addr) (xs : List D), A[n]? = some a → st[n]? = some xs → Own K A B H a xs
  dist : ∀ (n m : Nat) (a : Addr), A[n]? = some a → A[m]? = some a → n = m
theorem Rel.srel (R : Rel K O A B σ H ρ st T) : SRel K A B H st := by
  refine ⟨R.ex, R.al, fun n a xs e1 e2 => ?_, fun n m a e1 e2 => ?_⟩
  · obtain ⟨a', e, o⟩ := R.own (.h n) xs e2
    simp only [adr] at e
    rw [e1] at e; cases e; exact o
  · have hn := (List.getElem?_eq_some_iff.mp e1).1
    have hm := (List.getElem?_eq_some_iff.mp e2).1
    rw [R.al] at hn hm
    have := R.dist (.h n) (.h m) _ _ a (List.getElem?_eq_getElem hn) (List.getElem?_eq_getElem hm) e1 e2
    cases this; rfl
theorem Fwd.refl (O : Org) : Fwd O O.A O.B O.H := ⟨Px.refl _, Ex.refl _, fun a h1 h2 => absurd h1 h2, fun n a e h => by have := (List.getElem?_eq_some_iff.mp e).1; omega, fun _ _ h _ => h, fun _ h => h⟩
theorem Fwd.trans (f : Fwd O A B H) (g : Fwd ⟨A, B, H⟩ A' B' H') : Fwd O A' B' H' := by
  have back : ∀ a, H a = none → O.H a = none := fun a h => by
    cases q : O.H a with
    | none => rfl
    | some o => exact absurd h (f.kh a (by rw [q]; simp))
  refine ⟨f.px.trans g.px, f.ex.trans g.ex, fun a h1 h2 => ?_, fun n a e hn => ?_, fun a o h1 h2 => ?_, fun a h => g.kh a (f.kh a h)⟩
  · by_cases q : B a = none
    · exact back a (g.nb a q h2)
    · exact f.nb a h1 q
  · by_cases h : n < A.length
    · have e1 : A[n]? = some A[n] := List.getElem?_eq_getElem h
      have e2 := g.px n _ e1
      rw [e] at e2; cases e2
      exact f.na n _ e1 hn
    · exact back a (g.na n a e (by show A.length ≤ n; omega))
  · refine g.kp a o (f.kp a o h1 h2) fun hA => ?_
    have hA : a ∈ A := hA
    obtain ⟨n, hn, e⟩ := List.getElem_of_mem hA
    have e1 : A[n]? = some a := by rw [List.getElem?_eq_getElem hn, e]
    by_cases h : O.A.length ≤ n
    · rw [f.na n a e1 h] at h1; cases h1
    · have h' : n < O.A.length := by omega
      have e2 := f.px n _ (List.getElem?_eq_getElem h')
      rw [e1] at e2
      have e3 : a = O.A[n] := Option.some.inj e2
      exact h2 (by rw [e3]; exact List.getElem_mem h')
theorem Rel.call (R : Rel K O A B σ H ρ st T) (g : Fwd ⟨A, B, H⟩ A' B' H') (S : SRel K A' B' H' st') : Rel K O A' B' σ H' ρ st' T := by
  -- slots and temps stay
  have stay : ∀ r xs a, cont ρ T st r = some xs → adr A σ T r = some a → (∀ n, r ≠ .h n) → H' a = H a ∧ B' a = none ∧ a ∉ A ∧ H a ≠ none := fun r xs a c e hr => by
    obtain ⟨a', e', b0, vs, hv, hl⟩ := R.own r xs c
    rw [e] at e'; cases e'
    have hA : a ∉ A := fun hA => by
      obtain ⟨n, hn, e1⟩ := List.getElem_of_mem hA
      have hn' : n < st.length := by rw [← R.al]; exact hn
      have := R.dist r (.h n) xs st[n] a c (List.getElem?_eq_getElem hn') e (by simp only [adr]; rw [List.getElem?_eq_getElem hn, e1])
      exact hr n this
    refine ⟨by rw [hv]; exact g.kp a _ hv hA, ?_, hA, by rw [hv]; simp⟩
    cases q : B' a with
    | none => rfl
    | some u =>
      have this : H a = none := g.nb a b0 (by rw [q]; simp)
      rw [hv] at this; cases this
  have sw : ∀ r, (∀ n, r ≠ .h n) → cont ρ T st' r = cont ρ T st r ∧ adr A' σ T r = adr A σ T r := fun r hr => by
    cases r with
    | s i => exact ⟨rfl, rfl⟩
    | t k => exact ⟨rfl, rfl⟩
    | h n => exact absurd rfl (hr n)
  refine ⟨R.fw.trans g, S.ex, R.len, S.al, fun i d e => ?_, fun r xs c => ?_, fun r r' xs xs' a c c' e e' => ?_, fun r xs a c e hn => ?_⟩
  · obtain ⟨v, e1, e2⟩ := R.val i d e
    exact ⟨v, e1, e2.mono g.px g.ex⟩
  · by_cases hr : ∀ n, r ≠ .h n
    · obtain ⟨s1, s2⟩ := sw r hr
      rw [s1] at c
      obtain ⟨a, e, o⟩ := R.own r xs c
      obtain ⟨k1, k2, _, _⟩ := stay r xs a c e hr
      exact ⟨a, by rw [s2]; exact e, o.mono g.px g.ex k2 (fun o' h => by rw [k1]; exact h)⟩
    · simp only [Classical.not_forall, Classical.not_not] at hr
      obtain ⟨n, rfl⟩ := hr
      simp only [cont] at c
      have hn := (List.getElem?_eq_some_iff.mp c).1
      rw [← S.al] at hn
      exact ⟨A'[n], List.getElem?_eq_getElem hn, S.own n _ xs (List.getElem?_eq_getElem hn) c⟩
  · -- a slot or temp is no handle
    have apart : ∀ r xs a n, (∀ n, r ≠ .h n) → cont ρ T st r = some xs → adr A σ T r = some a → A'[n]? = some a → False := fun r xs a n hr c e q => by
      obtain ⟨_, _, hA, hH⟩ := stay r xs a c e hr
      by_cases h : n < A.length
      · have e1 : A[n]? = some A[n] := List.getElem?_eq_getElem h
        have e2 := g.px n _ e1
        rw [q] at e2
        have e3 : a = A[n] := Option.some.inj e2
        exact hA (by rw [e3]; exact List.getElem_mem h)
      · exact hH (g.na n a q (by show A.length ≤ n; omega))
    by_cases hr : ∀ n, r ≠ .h n
    · obtain ⟨s1, s2⟩ := sw r hr
      rw [s1] at c; rw [s2] at e
      by_cases hr' : ∀ n, r' ≠ .h n
      · obtain ⟨s1', s2'⟩ := sw r' hr'
        rw [s1'] at c'; rw [s2'] at e'
        exact R.dist r r' xs xs' a c c' e e'
      · simp only [Classical.not_forall, Classical.not_not] at hr'
        obtain ⟨n, rfl⟩ := hr'
        exact (apart r xs a n hr c e e').elim
    · simp only [Classical.not_forall, Classical.not_not] at hr
      obtain ⟨n, rfl⟩ := hr
      by_cases hr' : ∀ n, r' ≠ .h n
      · obtain ⟨s1', s2'⟩ := sw r' hr'
        rw [s1'] at c'; rw [s2'] at e'
        exact (apart r' xs' a n hr' c' e' e).elim
      · simp only [Classical.not_forall, Classical.not_not] at hr'
        obtain ⟨m, rfl⟩ := hr'
        rw [S.dist n m a e e']
  · by_cases hr : ∀ n, r ≠ .h n
    · obtain ⟨s1, s2⟩ := sw r hr
      rw [s1] at c; rw [s2] at e
      exact R.fresh r xs a c e hn
    · simp only [Classical.not_forall, Classical.not_not] at hr
      obtain ⟨n, rfl⟩ := hr
      exact (R.fw.trans g).na n a e (hn n rfl)
/-- behind a call that hands back a new list -/
theorem Rel.pushNew {a : Addr} {xs : List D} (R : Rel K O A B σ H ρ st T) (o : Own K A B H a xs) (hno : ∀ r ys, cont ρ T st r = some ys → adr A σ T r ≠ some a) (ho : O.H a = none) : Rel K O A B σ H ρ st ((a, xs) :: T) := by
  refine ⟨R.fw, R.ex, R.len, R.al, R.val, fun r ys c => ?_, fun r r' ys ys' b c c' e e' => ?_, fun r ys b c e hn => ?_⟩
  · rcases r.up_cases with rfl | ⟨q, rfl⟩
    · cases c; exact ⟨a, rfl, o⟩
    · rw [cont_up] at c; rw [adr_up]; exact R.own q ys c
  · rcases r.up_cases with rfl | ⟨q, rfl⟩
    · cases e
      rcases r'.up_cases with rfl | ⟨q', rfl⟩
      · rfl
      · rw [cont_up] at c'; rw [adr_up] at e'
        exact (hno q' ys' c' e').elim
    · rw [cont_up] at c; rw [adr_up] at e
      rcases r'.up_cases with rfl | ⟨q', rfl⟩
      · cases e'
        exact (hno q ys c e).elim
      · rw [cont_up] at c'; rw [adr_up] at e'
        rw [R.dist q q' ys ys' b c c' e e']
  · rcases r.up_cases with rfl | ⟨q, rfl⟩
    · cases e; exact ho
    · rw [cont_up] at c; rw [adr_up] at e
      exact R.fresh q ys b c e (fun n hq => hn n (by rw [hq]; rfl))
/-- a call's end: the values behind it, a new list or not -/
def Back (K : PySem.W.Frag) (A : List Addr) (B H : Hp) (A' : List Addr) (B' H' : Hp) (st' : Sto) (fr : Bool) (d : D) (v : V) : Prop :=
  Fwd ⟨A, B, H⟩ A' B' H' ∧ SRel K A' B' H' st' ∧
    if fr = true then ∃ a xs, v = .ref a ∧ d = .lst xs ∧ Own K A' B' H' a xs ∧ H a = none ∧ a ∉ A' else Ho K A' B' v d
theorem Rel.start {vs : List V} {ds : List D} {n : Nat} (S : SRel K A B H st) (h : HoL K A B vs ds) : Rel K ⟨A, B, H⟩ A B (vs.map some ++ List.replicate n none) H (ds.map Sl.val ++ List.replicate n .no) st [] := by
  have nos : ∀ (i : Nat) (xs : List D), (ds.map Sl.val ++ List.replicate n Sl.no)[i]? ≠ some (.own xs) := fun i xs e => by
    by_cases hi : i < ds.length
    · rw [List.getElem?_append_left (by simpa using hi)] at e
      simp at e
    · rw [List.getElem?_append_right (by simpa using hi)] at e
      have := List.mem_of_getElem? e
      simp [List.mem_replicate] at this
  have hc : ∀ r xs, cont (ds.map Sl.val ++ List.replicate n Sl.no) [] st r = some xs → ∃ m, r = .h m ∧ st[m]? = some xs := fun r xs c => by
    cases r with
    | s i =>
      simp only [cont] at c
      split at c
      · rename_i ys e; exact absurd e (nos i ys)
      · cases c
    | t k => simp [cont] at c
    | h m => exact ⟨m, rfl, c⟩
  refine ⟨Fwd.refl _, S.ex, by simp [h.length], S.al, fun i d e => ?_, fun r xs c => ?_, fun r r' xs xs' a c c' e e' => ?_, fun r xs a c e hn => ?_⟩
  · by_cases hi : i < ds.length
    · rw [List.getElem?_append_left (by simpa using hi)] at e
      have ed : ds[i]? = some d := by
        rw [List.getElem?_map] at e
        cases q : ds[i]? with
        | none => rw [q] at e; cases e
        | some d' => rw [q] at e; cases e; rfl
      obtain ⟨v, e1, e2⟩ := h.get ed
      refine ⟨v, ?_, e2⟩
      rw [List.getElem?_append_left (by rw [List.length_map, h.length]; exact hi), List.getElem?_map, e1]
      rfl
    · rw [List.getElem?_append_right (by simpa using hi)] at e
      have := List.mem_of_getElem? e
      simp [List.mem_replicate] at this
  · obtain ⟨m, rfl, e⟩ := hc r xs c
    have hm := (List.getElem?_eq_some_iff.mp e).1
    rw [← S.al] at hm
    exact ⟨A[m], List.getElem?_eq_getElem hm, S.own m _ xs (List.getElem?_eq_getElem hm) e⟩
  · obtain ⟨m, rfl, e1⟩ := hc r xs c
    obtain ⟨m', rfl, e1'⟩ := hc r' xs' c'
    rw [S.dist m m' a e e']
  · obtain ⟨m, rfl, e1⟩ := hc r xs c
    have h1 := hn m rfl
    have h2 := (List.getElem?_eq_some_iff.mp e).1
    exact absurd h2 (by show ¬ m < A.length; exact Nat.not_lt.mpr h1)
end
end Pv

namespace Pv
open PySem PySem.Spec PyProof.Rows L2
/-! ## tuples: sum, enumerate, turned about -/
section
variable {X : Cx}
theorem isTuple_of {h : Heap} {a : Addr} {its : Array Value} (x : IsTup h a its) : h.IsTuple a its := x
theorem cr_sumT (hc : X.calm = true) : CallR X (.builtin "sum") (fun vs H Q => ∃ (a : Addr) (ns : List Int), vs = [V.ref a] ∧ SqT X.K H a (ns.map V.int) ∧ Q (.int ns.sum) H) := by
  intro pins s σ H vs us Q I r h
  obtain ⟨a, ns, rfl, hs, q⟩ := h
  obtain ⟨its, rv, hl, _⟩ := I.tuple hs
  rw [Vals.ref1 r]
  have hi := rv.ints
  obtain ⟨xs, hx⟩ := hi.allInts.items
  have hn : numsOf its.toArray.toList = ns := by rw [show its.toArray.toList = its from rfl, hi.numsOf]
  have ht : s.heap.IsTuple a its.toArray := isTuple_of hl
  rw [hx] at ht hn
  rw [nums_intItems] at hn
  refine PySem.W.ktm_sumG (I.ok.hd hc) ht fun h' tk t' hk => ?_
  rw [preSum_eq, List.take_of_length_le (by simp), hn]
  exact ⟨.int _, H, I.kept hk, ⟨_, rfl⟩, q⟩
end
/-! ### enumerate -/
theorem meets_enum1 {v : Value} {o : Obj} {G : Heap → Prop} (B : Begins v o G) :
    Meets (Builtin.«enumerate.__new__» ⟨[.type "enumerate", v], []⟩) (fun _ R s => G s.heap ∧
      R (.ok (.ret (.ref (s.heap.push o).objs.size))) { s with heap := (s.heap.push o).push { cls := .type "enumerate", data := .fields #[.none, .bool false, .ref s.heap.objs.size, rawInt 0, .none, .none] } }) :=
  .of_wp fun prog w A R s h => by
    obtain ⟨hp, g, d, tk, os⟩ := s; obtain ⟨h1, h⟩ := h
    have hsub := sub_enumerate
    have q1 : ∀ {A' : Around} {E : Value → Shared → Prop} {Q : Value → Shared → Prop}, Q (.ref hp.objs.size) ⟨hp.push o, g, d, tk, os⟩ → wpAny (model prog w) A' (pyIter v) Q E ⟨hp, g, d, tk, os⟩ :=
      fun q => B.iter prog w _ _ ⟨hp, g, d, tk, os⟩ _ h1 q
    wp_walk using q1
    refine wpAny_stack_any fun st => wpAny_pure ?_
    split
    · rename_i c _ _ _ _ _
      cases (c == Value.type "enumerate") <;> (wp_walk using q1; exact ⟨_, rfl, h⟩)
    · wp_walk using q1
      exact ⟨_, rfl, h⟩
section
variable {prog : Program} {w : World} {A : Around} {E : Value → Shared → Prop} {s : Shared}
theorem enum_call1 {v : Value} {o : Obj} {G : Heap → Prop} {Q : Value → Shared → Prop} (B : Begins v o G) (h1 : G s.heap)
    (h : ∀ h', IsEnum h' (s.heap.objs.size + 1) s.heap.objs.size 0 .none → h'.get? s.heap.objs.size = some o → (∀ b o, s.heap.get? b = some o → h'.get? b = some o) → Q (.ref (s.heap.objs.size + 1)) { s with heap := h' }) :
    wpAny (model prog w) A (call (.type "enumerate") [v]) Q E s := by
  refine callType_new F.called_enumerate (by decide) (F.typeCall_enumerate_1 _) (F.newCall_enumerate_1 _) (fun obj => F.args_object_init_2 obj _) F.entry_enumerate_new (meets_enum1 B) ⟨h1, ?_⟩
  have hz : (s.heap.push o).objs.size = s.heap.objs.size + 1 := Heap.size_push ..
  show _ ∧ _
  rw [hz]
  have he : IsEnum ((s.heap.push o).push { cls := .type "enumerate", data := .fields #[.none, .bool false, .ref s.heap.objs.size, rawInt 0, .none, .none] }) (s.heap.objs.size + 1) s.heap.objs.size 0 .none := by
    have := Heap.get?_push_size (s.heap.push o) (o := { cls := .type "enumerate", data := .fields #[.none, .bool false, .ref s.heap.objs.size, rawInt 0, .none, .none] }) rfl
    rw [hz] at this; exact this
  exact ⟨⟨_, he, rfl⟩, h _ he (Heap.get?_push_of_some _ (Heap.get?_push_size _ B.free)) fun b o x => Heap.get?_push_of_some _ (Heap.get?_push_of_some _ x)⟩
end
/-- the tuple at a, each item in a new pair -/
def IteT (K : PySem.W.Frag) (a : Addr) : It :=
  ⟨fun i H => ∃ (xs : List V) (x : V), SqT K H a xs ∧ xs[i]? = some x, fun i H v H' => ∃ T x, v = .ref T ∧ H T = none ∧ H' = upd H T (.tup [.int (i : Nat), x]) ∧ ∀ xs, SqT K H a xs → xs[i]? = some x, fun i H => ∃ xs : List V, SqT K H a xs ∧ xs.length ≤ i⟩
theorem enum_apart {h : Heap} {e it a : Addr} {c : Int} {old : Value} {i : Nat} {its : Array Value} (he : IsEnum h e it c old) (hit : h.IsTupleIter it a i) (ht : h.IsTuple a its) : e ≠ a ∧ a ≠ it := by
  obtain ⟨o, ho, hc, n, hd⟩ := ht
  refine ⟨fun z => ?_, fun z => ?_⟩
  · subst z
    rw [show h.get? e = some _ from he] at ho
    cases ho
    cases hd
  · subst z
    obtain ⟨o2, ho2, hc2, hd2⟩ := hit
    rw [ho2] at ho
    cases ho
    rw [hd2] at hd
    cases hd
theorem draws_end {prog : Program} {w : World} {A : Around} (hh : A.handled = none) (it t : Addr) (hne : t ≠ it) (items : Array Value) (n : Nat) (hn : items[n]? = none) :
    Draws prog w A it [it, t] n (fun _ _ => True) (fun i h => i = n ∧ h.IsTupleIter it t n ∧ h.IsTuple t items) where
  live := fun _ _ st => let ⟨o, ho, _⟩ := st.2.1; ⟨o, ho⟩
  frame := fun _ _ _ st hk => ⟨st.1, st.2.1.at fun o e => hk it (by simp) o e, st.2.2.at fun o e => hk t (by simp) o e⟩
  item := fun i s Q E hi st hQ => absurd st.1 (Nat.ne_of_lt hi)
  done := fun s Q E st hE => wpAny_nextOf_tuple_end hh st.2.1 st.2.2 hn hE
theorem turn_enumT {P : Program} {w : World} {K : PySem.W.Frag} {elts : List Expr} {kk : Nat} {tpos : Pos} (a e it : Addr) :
    Turn P w K (.Tuple elts kk tpos) (IteT K a) [e, it] e (fun i h => (∃ old, IsEnum h e it ((i : Nat) : Int) old) ∧ h.IsTupleIter it a i ∧ e ≠ it) where
  mem := by simp
  obj := fun i h st b hb => by
    obtain ⟨⟨old, he⟩, ⟨o, ho, hc, hd⟩, _⟩ := st
    have e' : b = e ∨ b = it := by simpa using hb
    rcases e' with z | z
    · rw [z]; exact ⟨_, he, fun v q => nomatch q⟩
    · rw [z]; exact ⟨o, ho, fun v q => by rw [hd] at q; cases q⟩
  keep := fun i h h' st k => let ⟨⟨old, he⟩, hi, hne⟩ := st; ⟨⟨old, k e (by simp) _ he⟩, hi.at fun o q => k it (by simp) o q, hne⟩
  item := by
    intro X hP hw hK hc i pins s σ H E I hf st hg
    subst hP hw hK
    obtain ⟨⟨old, he⟩, hit, hne⟩ := st
    obtain ⟨xs, x, hq, hx⟩ := hg
    obtain ⟨its, rv, p, hz⟩ := I.tuple hq
    obtain ⟨u, hu, ru⟩ := rv.get hx
    have ht := isTuple_of p
    obtain ⟨ap1, ap2⟩ := enum_apart he hit ht
    have hel : e < s.heap.objs.size := Heap.lt_size he
    have hil : it < s.heap.objs.size := by obtain ⟨_, q, _⟩ := hit; exact Heap.lt_size q
    have hlt : i < its.toArray.size := by
      rw [List.size_toArray]
      exact (List.getElem?_eq_some_iff.mp hu).1
    have D := Draws.tuple (prog := X.prog) (w := X.w) (A := X.A.in1) (I.ok.hd hc) it a ap2 its.toArray
    refine wpAny_pyNext_enum_itemC D he ⟨hit, ht⟩ hlt hne (by simp only [List.mem_cons, List.not_mem_nil, or_false, not_or]; exact ⟨hne, ap1⟩) fun x1 h' tk hp ho hst' hT hsz hk => ?_
    have hx1 : x1 = u := by
      have h2 : its.toArray[i]? = some u := by simpa using hu
      exact Option.some.inj (hp.symm.trans h2)
    subst hx1
    refine ⟨_, rfl, wpAny_letOwnedTupleGo_enum (s := { s with heap := h', toks := tk + 1 }) ho fun h'' he' sb => ?_⟩
    have hT2 : h''.get? s.heap.objs.size = some { cls := .type "tuple", data := .seq #[.int i tk, x1] } := (sb.2 _ (Nat.ne_of_gt hel)).trans hT
    have new : ObjOk X.prog X.w (upd H s.heap.objs.size (.tup [.int (i : Nat), x])) h'' s.heap.objs.size (.tup [.int (i : Nat), x]) :=
      ⟨by show 2 ≤ sizeLine; decide, [.int i tk, x1], .cons ⟨_, rfl⟩ (.cons ru .nil), ⟨_, hT2, rfl, _, rfl⟩⟩
    have I1 : Inv X pins σ (upd H s.heap.objs.size (.tup [.int (i : Nat), x])) { s with heap := h'', toks := tk + 1 } :=
      I.turnedNew (ch := [e, it]) (fun b ob hb q => (sb.2 b (fun z => hb (by simp [z]))).trans (hk b ob (fun z => hb (by simp [z])) (fun z => hb (by simp [z])) q)) hf (Nat.le_refl _) new
    refine ⟨.ref s.heap.objs.size, _, I1, rfl, ⟨_, x, rfl, I.hok.fresh (Nat.le_refl _), rfl, fun ys hy => by rw [I.tuple_inj hy hq]; exact hx⟩, ⟨⟨x1, ?_⟩, hst'.1.at fun o q => (sb.2 it (Ne.symm hne)).trans q, hne⟩, fun b hb => ?_⟩
    · have e1 : ((i + 1 : Nat) : Int) = (i : Int) + 1 := by omega
      rw [e1]; exact he'
    · have hb' : b < s.heap.objs.size := by
        have e' : b = e ∨ b = it := by simpa using hb
        rcases e' with z | z
        · rw [z]; exact hel
        · rw [z]; exact hil
      rw [upd_ne (Nat.ne_of_lt hb')]
      exact (hf b hb).1
  done := by
    intro X hP hw hK hc i pins s σ H E I hf st hg
    subst hP hw hK
    obtain ⟨⟨old, he⟩, hit, hne⟩ := st
    obtain ⟨xs, hq, hx⟩ := hg
    obtain ⟨its, rv, p, hz⟩ := I.tuple hq
    have ht := isTuple_of p
    obtain ⟨ap1, ap2⟩ := enum_apart he hit ht
    obtain ⟨f0, f1, f2, f3, f4, f5⟩ := hf it (by simp)
    have hl := rv.length
    have hn : its.toArray[i]? = none := by simp; omega
    exact wpAny_pyNext_enum_endD (draws_end (A := X.A.in1) (I.ok.hd hc) it a ap2 its.toArray i hn) he ⟨rfl, hit, ht⟩ fun h' eb => ⟨rfl, I.turned (t' := s.toks) (fun b o hb q => eb b o hb q) f0 f1 f3 f4 f5⟩
  self := fun A i s Q E st h => let ⟨⟨_, he⟩, _⟩ := st; wpAny_pyIter_enum he h
section
variable {X : Cx} {pos p tpos : Pos}
def iEnumA (K : PySem.W.Frag) (ta : TA) : TI := fun σ H R => ta σ H fun vs H1 => ∃ a xs, vs = [.ref a] ∧ ((SqL K H1 a xs ∧ R (Ite K a) H1) ∨ (SqT K H1 a xs ∧ R (IteT K a) H1))
theorem pi_enumA {e : Expr} {ta : TA} {elts : List Expr} {kk : Nat} (hg : Gl X "enumerate") (hm : X.mg "enumerate" = none) (ha : PA X [e] ta) (hs : starEach [e] X.env = [(false, eval e X.env)]) :
    PI X (.Tuple elts kk tpos) (.Call (.Name "enumerate" p) [e] [] pos) (iEnumA X.K ta) := by
  refine ⟨fun pins s σ H R I h => ?_⟩
  refine Call_ (ld_blt I hg hm boot_enumerate (PyProof.Rows.callWith_type1 (thn (ha.run pos pins s σ H _ I h) fun us s1 ⟨vs, H1, I1, r1, q1⟩ => ?_) hs rfl))
  obtain ⟨a, xs, ex, q⟩ := q1
  subst ex
  cases r1 with
  | cons r rr =>
    cases rr
    cases r
    have fp : ∀ b ∈ [s1.heap.objs.size + 1, s1.heap.objs.size], FpOk X pins H1 b := fun b hb => by
      have e' : b = s1.heap.objs.size + 1 ∨ b = s1.heap.objs.size := by simpa using hb
      have hle : s1.heap.objs.size ≤ b := by
        rcases e' with z | z
        · rw [z]; exact Nat.le_add_right _ _
        · rw [z]; exact Nat.le_refl _
      exact I1.fpOk hle (I1.hok.fresh hle)
    rcases q with ⟨hq, q⟩ | ⟨hq, q⟩
    · obtain ⟨its, rv, p', hz⟩ := I1.list hq
      refine call_enumerate_list p'.isList fun h' he hit hsz hk => wpAny_pyIter_enum he ?_
      have I2 : Inv X pins σ H1 { s1 with heap := h' } := I1.kept (t' := s1.toks) hk
      exact ⟨s1.heap.objs.size + 1, [s1.heap.objs.size + 1, s1.heap.objs.size], _, _, H1, rfl, I2, turn_enum a (s1.heap.objs.size + 1) s1.heap.objs.size, ⟨⟨.none, he⟩, hit, Nat.succ_ne_self _⟩, fp, q⟩
    · obtain ⟨its, rv, p', hz⟩ := I1.tuple hq
      refine enum_call1 (begins_tuple a its.toArray) (isTuple_of p') fun h' he hit hk => wpAny_pyIter_enum he ?_
      have I2 : Inv X pins σ H1 { s1 with heap := h' } := I1.kept (t' := s1.toks) hk
      exact ⟨s1.heap.objs.size + 1, [s1.heap.objs.size + 1, s1.heap.objs.size], _, _, H1, rfl, I2, turn_enumT a (s1.heap.objs.size + 1) s1.heap.objs.size, ⟨⟨.none, he⟩, ⟨_, hit, rfl, rfl⟩, Nat.succ_ne_self _⟩, fp, q⟩
end
/-! ### turned about -/
section
variable {prog : Program} {w : World} {A : Around} {E : Value → Shared → Prop} {s : Shared}
theorem places_neg (n : Nat) : Builtin.Slice.slicePlaces ((n : Int) - 1) (-1) (-1) = n := by
  unfold Builtin.Slice.slicePlaces
  have h1 : ¬ ((-1 : Int) > 0) := by omega
  simp only [h1, if_false]
  rw [show -(-1 : Int) = 1 by omega, Int.ediv_one]
  split <;> omega
theorem applied_neg {sl : Addr} {vl vu vs : Value} {n : Nat} {Q : Int × Int × Nat → Shared → Prop} (hs : s.heap.IsSliceOf sl vl vu vs) (pl : IsPart vl none) (pu : IsPart vu none) (ps : IsPart vs (some (-1)))
    (h : Q ((n : Int) - 1, -1, n) s) : wpAny (model prog w) A (Builtin.Slice.sliceApplied (.ref sl) (pure (n : Int))) Q E s := by
  obtain ⟨os, hos, hcs, hds⟩ := id hs
  unfold Builtin.Slice.sliceApplied Builtin.Slice.sliceFields
  refine wpAny_bind (wpAny_bind (wpAny_field hos hds (x := vl) rfl (wpAny_bind (wpAny_field hos hds (x := vu) rfl (wpAny_bind (wpAny_field hos hds (x := vs) rfl (wpAny_pure ?_)))))))
  refine wpAny_bind (HT.slicePart_ ps ?_)
  show wpAny _ _ (if ((-1 : Int) == 0) = true then _ else _) _ _ s
  rw [if_neg (by decide)]
  refine wpAny_bind (HT.slicePart_ pl (wpAny_bind (HT.slicePart_ pu (wpAny_bind (wpAny_pure ?_)))))
  show wpAny _ _ (pure ((n : Int) - 1, (-1 : Int), Builtin.Slice.slicePlaces ((n : Int) - 1) (-1) (-1))) _ _ s
  rw [places_neg]
  exact wpAny_pure h
theorem pick_neg (xs : Array Value) : ((List.range xs.size).filterMap fun (m : Nat) => xs[((xs.size : Int) - 1 + (m : Int) * (-1)).toNat]?).toArray = xs.toList.reverse.toArray := by
  have e : (fun (m : Nat) => xs[((xs.size : Int) - 1 + (m : Int) * (-1)).toNat]?) = (fun (j : Nat) => xs[j]?) ∘ fun (m : Nat) => xs.size - 1 - m := by
    funext m
    have : ((xs.size : Int) - 1 + (m : Int) * (-1)).toNat = xs.size - 1 - m := by omega
    show xs[((xs.size : Int) - 1 + (m : Int) * (-1)).toNat]? = xs[xs.size - 1 - m]?
    rw [this]
  rw [e, ← List.filterMap_map, PySem.W.krv_range, List.filterMap_reverse, PySem.W.krv_all]
theorem getItem_tuple_rev {t sl : Addr} {items : Array Value} {vl vu vs : Value} {Q : Value → Shared → Prop} (ht : IsTup s.heap t items) (hs : s.heap.IsSliceOf sl vl vu vs) (pl : IsPart vl none) (pu : IsPart vu none) (ps : IsPart vs (some (-1)))
    (h : Q (.ref s.heap.objs.size) { s with heap := s.heap.push { cls := .type "tuple", data := .seq items.toList.reverse.toArray } }) (hsz : items.size ≤ sizeLine) : wpAny (model prog w) A (getItem (.ref t) (.ref sl)) Q E s := by
  have hnew : sizeOk (.seq items.toList.reverse.toArray) := by
    show items.toList.reverse.toArray.size ≤ sizeLine
    rw [List.size_toArray, List.length_reverse, Array.length_toList]
    exact hsz
  obtain ⟨os, hos, hcs, hds⟩ := id hs
  have hTs : s.TypeIs (.ref sl) "slice" := ⟨os, hos, hcs⟩
  unfold getItem
  try with_reducible refine wpAny_holding ?_
  first | refine wpAny_bind (wpAny_pure ?_) | skip
  refine wpAny_bind (wpAny_sequenceKey ht.typeIs (by decide) ?_)
  refine wpAny_bind (wpAny_callSpecial?_slot (name := Str.ofString "__getitem__") ht.typeIs PyProof.Rows.slot_tuple_getitem
    (wpAny_call_entry PyProof.Rows.slot_tuple_getitem ht.typeIs entry_tuple_getitem ?_ (args_tuple_getitem _ _)))
  show wpAny _ _ (Builtin.Tuple.tupleItemsOf (.ref t) >>= _) _ _ s
  refine wpAny_bind (tupleItemsOf_ ht ?_)
  refine wpAny_bind (wpAny_typeOf hTs ?_)
  rw [if_pos (by decide)]
  refine wpAny_bind (applied_neg hs pl pu ps ?_)
  have hno : ¬ ((((items.size : Int) - 1) == 0 && (-1 : Int) == 1 && items.size == items.size) = true) := by
    intro q
    rw [Bool.and_eq_true, Bool.and_eq_true] at q
    exact absurd q.1.2 (by decide)
  show wpAny _ _ (if (((items.size : Int) - 1) == 0 && (-1 : Int) == 1 && items.size == items.size) = true then _ else _) _ _ s
  rw [if_neg hno, pick_neg]
  first
    | exact wpAny_bind (m := Builtin.Tuple.tupleExact _) (wpAny_newObj_type (wpAny_pure ⟨_, rfl, wpAny_pure h⟩) hnew)
    | exact wpAny_bind (m := Builtin.Tuple.tupleExact _) (wpAny_newObj_type (wpAny_bind (wpAny_pure (wpAny_pure ⟨_, rfl, wpAny_pure h⟩))) hnew)
    | exact wpAny_bind (wpAny_bind (m := Builtin.Tuple.tupleExact _) (wpAny_newObj_type (wpAny_pure (wpAny_pure ⟨_, rfl, wpAny_pure h⟩)) hnew))
    | exact wpAny_bind (wpAny_bind (m := Builtin.Tuple.tupleExact _) (wpAny_newObj_type (wpAny_pure ⟨_, rfl, wpAny_pure h⟩) hnew))
end
section
variable {X : Cx}
def tRevA (K : PySem.W.Frag) (te : TE) : TE := fun σ H Q => te σ H fun x H1 => ∃ a xs, x = .ref a ∧ ((SqL K H1 a xs ∧ ∀ p, H1 p = none → Q (.ref p) (upd H1 p (.lst xs.reverse))) ∨ (SqT K H1 a xs ∧ ∀ p, H1 p = none → Q (.ref p) (upd H1 p (.tup xs.reverse))))
theorem pe_revA {e : Expr} {te : TE} {k : Nat} {p1 p2 p3 pos : Pos} (he : PE X e te) : PE X (.Subscript e (.Slice none none (some (.UnaryOp .USub (.Constant (.int 1) k p1) p2)) p3) pos) (tRevA X.K te) := by
  refine ⟨fun pins s σ H Q I h => ?_⟩
  refine Subscript_ (thn (he.run pins s σ H _ I h) fun v s1 ⟨x, H1, I1, r1, q1⟩ => ?_)
  obtain ⟨a, xs, ex, q⟩ := q1
  subst ex
  cases r1
  have hst : PO X (some (.UnaryOp .USub (.Constant (.int 1) k p1) p2)) (tPart (tUn (rU fun i => .int (-i)) (tC (.int 1)))) := po_some (pe_un un_neg pe_int)
  refine wpAny_Slice (thn (po_none.run pins s1 σ H1 (fun o H2 => o = none ∧ H2 = H1) I1 ⟨rfl, rfl⟩) fun vl s2 ⟨l, H2, I2, pl, el, e2⟩ => ?_)
  subst el e2
  refine thn (po_none.run pins s2 σ H2 (fun o H3 => o = none ∧ H3 = H2) I2 ⟨rfl, rfl⟩) fun vu s3 ⟨u, H3, I3, pu, eu, e3⟩ => ?_
  subst eu e3
  refine thn (hst.run pins s3 σ H3 (fun o H4 => o = some (-1) ∧ H4 = H3) I3 ⟨1, rfl, -1, rfl, rfl, rfl⟩) fun vs s4 ⟨o, H4, I4, ps, eo, e4⟩ => ?_
  subst eo e4
  have I5 : Inv X pins σ H4 { s4 with heap := s4.heap.push { cls := .type "slice", data := .fields #[vl, vu, vs] } } := I4.kept (t' := s4.toks) fun b ob q => Heap.get?_push_of_some _ q
  show wpAny (model X.prog X.w) X.A (subscriptTail e (.Slice none none (some (.UnaryOp .USub (.Constant (.int 1) k p1) p2)) p3) (.ref a) (.ref s4.heap.objs.size)) (EP X pins σ Q) X.xe { s4 with heap := s4.heap.push { cls := .type "slice", data := .fields #[vl, vu, vs] } }
  rcases q with ⟨hx, q⟩ | ⟨hx, q⟩
  · obtain ⟨its, r, ht, hz⟩ := I5.list hx
    have hlen := r.length
    refine tail_any (ops := [.ref a, .ref s4.heap.objs.size]) ht.isList.typeIs (PySem.slot_list_getitem.lookup) ?_ (by with_unfolding_all rfl)
    refine wpAny_getItem_list_slice ht.isList (Heap.IsSliceOf.new _ vl vu vs) pl pu ps (by decide) ?_ (by rw [List.size_toArray]; omega)
    rw [PySem.W.krv_pick]
    exact ⟨.ref _, _, I5.laid (t' := s4.toks) (o := .lst xs.reverse) (fun b ob q => Heap.get?_push_of_some _ q) (Nat.le_refl _) ⟨by rw [List.length_reverse]; exact hz, _, 0, r.reverse, Heap.get?_push_size _ rfl⟩, rfl, q _ (I5.hok.fresh (Nat.le_refl _))⟩
  · obtain ⟨its, r, ht, hz⟩ := I5.tuple hx
    have hlen := r.length
    refine tail_any (ops := [.ref a, .ref s4.heap.objs.size]) ht.typeIs (PyProof.Rows.slot_tuple_getitem.lookup) ?_ (by with_unfolding_all rfl)
    refine getItem_tuple_rev ht (Heap.IsSliceOf.new _ vl vu vs) pl pu ps ?_ (by rw [List.size_toArray]; omega)
    exact ⟨.ref _, _, I5.laid (t' := s4.toks) (o := .tup xs.reverse) (fun b ob q => Heap.get?_push_of_some _ q) (Nat.le_refl _) ⟨by rw [List.length_reverse]; exact hz, _, r.reverse, ⟨_, Heap.get?_push_size _ rfl, rfl, 0, rfl⟩⟩, rfl, q _ (I5.hok.fresh (Nat.le_refl _))⟩
end
end Pv

namespace Pv
open PySem PySem.Spec PyProof.Rows L2

/-! ## the operations on data -/
def lim : Nat := 16000000
/-- ints that may be multiplied -/
def Big (a : Int) : Prop := a.natAbs.log2 < 400000
instance : DecidablePred Big := fun a => by unfold Big; infer_instance
mutual
def eqv : D → D → Bool
  | .non, .non => true
  | .bl a, .bl b => a == b
  | .bl a, .int j => (if a then 1 else 0) == j
  | .int i, .bl b => i == (if b then 1 else 0)
  | .int i, .int j => i == j
  | .str x, .str y => x == y
  | .lst xs, .lst ys => eqvL xs ys
  | .tup xs, .tup ys => eqvL xs ys
  | _, _ => false
def eqvL : List D → List D → Bool
  | [], [] => true
  | x :: xs, y :: ys => eqv x y && eqvL xs ys
  | _, _ => false
end
/-- plain data, at most so deep -/
def sh : Nat → D → Bool
  | _, .non => true
  | _, .bl _ => true
  | _, .int _ => true
  | _, .str s => PyData.canLay0 (.str s)
  | n + 1, .tup xs => xs.all (sh n)
  | n + 1, .lst xs => xs.all (sh n)
  | _, _ => false
def flat : D → Bool
  | .non => true
  | .bl _ => true
  | .int _ => true
  | .str _ => true
  | _ => false
def ty : D → String
  | .non => "NoneType"
  | .bl _ => "bool"
  | .int _ => "int"
  | .str _ => "str"
  | .tup _ => "tuple"
  | _ => "list"
abbrev R1 := Option (Bool × D)
def one (d : D) : R1 := some (false, d)
def addD : D → D → R1
  | .int a, .int b => one (.int (a + b))
  | .lst a, .lst b => if a.length + b.length ≤ lim then some (true, .lst (a ++ b)) else none
  | .tup a, .tup b => if a.length + b.length ≤ lim then one (.tup (a ++ b)) else none
  | .str a, .str b => if a.length + b.length ≤ lim then one (.str (a ++ b)) else none
  | _, _ => none
def mulD : D → D → R1
  | .int a, .int b => if Big a ∧ Big b then one (.int (a * b)) else none
  | .lst a, .int k => if -1000000000 ≤ k ∧ k ≤ 1000000000 ∧ a.length * k.toNat ≤ lim then some (true, .lst (List.replicate k.toNat a).flatten) else none
  | .tup a, .int k => if -1000000000 ≤ k ∧ k ≤ 1000000000 ∧ a.length * k.toNat ≤ lim then one (.tup (List.replicate k.toNat a).flatten) else none
  | _, _ => none
def opD : Operator → D → D → R1
  | .Add, x, y => addD x y
  | .Sub, .int a, .int b => one (.int (a - b))
  | .Mult, x, y => mulD x y
  | .FloorDiv, .int a, .int b => if 0 < b ∧ b.natAbs.log2 < 9000 then one (.int (a / b)) else none
  | .Mod, .int a, .int b => if 0 < b then one (.int (a % b)) else none
  | .Pow, .int a, .int b => if 0 ≤ b ∧ b ≤ 1000000 ∧ a.natAbs < 18446744073709551616 then one (.int (a ^ b.toNat)) else none
  | _, _, _ => none
def inD (x : D) (xs : List D) : Option Bool := if flat x && xs.all flat then some (xs.any fun y => eqv y x) else none
def seqOf : D → Option (List D)
  | .lst xs => some xs
  | .tup xs => some xs
  | _ => none
def cmpD : CmpOp → D → D → Option Bool
  | .Lt, .int a, .int b => some (decide (a < b))
  | .LtE, .int a, .int b => some (decide (a ≤ b))
  | .Gt, .int a, .int b => some (decide (b < a))
  | .GtE, .int a, .int b => some (decide (b ≤ a))
  | .Eq, x, y => if sh 60 x && sh 60 y then some (eqv x y) else none
  | .NotEq, x, y => if sh 60 x && sh 60 y then some (!eqv x y) else none
  | .Is, x, .non => some (match x with | .non => true | _ => false)
  | .IsNot, x, .non => some (match x with | .non => false | _ => true)
  | .Is, x, .bl b => some (match x with | .bl a => a == b | _ => false)
  | .IsNot, x, .bl b => some (match x with | .bl a => !(a == b) | _ => true)
  | .In, x, y => (seqOf y).bind (inD x)
  | .NotIn, x, y => ((seqOf y).bind (inD x)).map (!·)
  | _, _, _ => none
def ixL (xs : List D) (i : D) : Option D := match i with
  | .int k => atI xs k
  | _ => none
def ixD (st : Sto) (x i : D) : Option D := match x, i with
  | .lst xs, .int k => atI xs k
  | .tup xs, .int k => atI xs k
  | .str s, .int k => if s.length ≤ lim then (atI s.cps.toList k).map fun c => .str ⟨#[c]⟩ else none
  | .hd n, .int k => (st[n]?).bind fun xs => atI xs k
  | _, _ => none
def cutD (xs : List D) (lo hi : Option Int) : List D := (xs.drop (HT.sIx xs.length 0 lo)).take (HT.sIx xs.length xs.length hi - HT.sIx xs.length 0 lo)
def cutI (xs : List Int) (lo hi : Option Int) : List Int := (xs.drop (HT.sIx xs.length 0 lo)).take (HT.sIx xs.length xs.length hi - HT.sIx xs.length 0 lo)
def slD (x : D) (lo hi : Option Int) : R1 := match x with
  | .lst xs => some (true, .lst (cutD xs lo hi))
  | .tup xs => one (.tup (cutD xs lo hi))
  | .scr ns => some (true, .lst ((cutI ns lo hi).map .int))
  | _ => none
def revD (x : D) : R1 := match x with
  | .lst xs => some (true, .lst xs.reverse)
  | .tup xs => one (.tup xs.reverse)
  | _ => none
def lenD (st : Sto) : D → Option Nat
  | .lst xs => some xs.length
  | .tup xs => some xs.length
  | .str s => if s.length ≤ lim then some s.length else none
  | .hd n => (st[n]?).map (·.length)
  | _ => none
def intsOf : List D → Option (List Int)
  | [] => some []
  | .int i :: ds => (intsOf ds).map (i :: ·)
  | _ :: _ => none
/-- built-in functions -/
inductive Bi where
  | abs | int | len | sum | min2 | max2 | tuple | list | sorted | min1 | max1
  deriving DecidableEq
def biD (st : Sto) : Bi → List D → R1
  | .abs, [.int i] => one (.int (if i < 0 then -i else i))
  | .int, [.int i] => one (.int i)
  | .int, [.bl b] => one (.int (if b then 1 else 0))
  | .len, [x] => (lenD st x).map fun n => (false, .int n)
  | .sum, [x] => ((seqOf x).bind intsOf).map fun ns => (false, .int ns.sum)
  | .min2, [.int i, .int j] => one (.int (if j < i then j else i))
  | .max2, [.int i, .int j] => one (.int (if j > i then j else i))
  | .tuple, [.lst xs] => one (.tup xs)
  | .tuple, [.tup xs] => one (.tup xs)
  | .list, [.lst xs] => some (true, .lst xs)
  | .list, [.tup xs] => some (true, .lst xs)
  | _, _ => none
def isiD (ts : List String) (d : D) : Bool := ts.any fun t => ty d == t || (ty d == "bool" && t == "int")
def rngN (a b c : Int) : Nat := (Builtin.Range.rangeSize a b c).toNat
def rngL (a b c : Int) : List D := (List.range (rngN a b c)).map fun (i : Nat) => .int (a + (i : Int) * c)
def rngOk (a b c : Int) : Bool := decide (-1000000000 ≤ a ∧ a ≤ 1000000000 ∧ -1000000000 ≤ b ∧ b ≤ 1000000000 ∧ c ≠ 0 ∧ -1000000 ≤ c ∧ c ≤ 1000000) && Builtin.Range.small a b c
def rngD : List D → Option (List D)
  | [.int n] => if rngOk 0 n 1 then some (rngL 0 n 1) else none
  | [.int a, .int b] => if rngOk a b 1 then some (rngL a b 1) else none
  | [.int a, .int b, .int c] => if rngOk a b c then some (rngL a b c) else none
  | _ => none
/-- methods of lists -/
inductive Mt where
  | append | pop | popAt | extend
  deriving DecidableEq
/-- what a list's method gives, and the list behind it -/
def mtD : Mt → List D → List D → Option (D × List D)
  | .append, xs, [d] => if xs.length < lim then some (.non, xs ++ [d]) else none
  | .pop, xs, [] => (xs[xs.length - 1]?).map fun d => (d, xs.dropLast)
  | .popAt, xs, [.int i] => (ixN xs.length i).bind fun k => (xs[k]?).map fun d => (d, xs.eraseIdx k)
  | .extend, xs, [.lst ys] => if xs.length + ys.length ≤ lim then some (.non, xs ++ ys) else none
  | _, _, _ => none
def truD : D → Option Bool
  | .non => some false
  | .bl b => some b
  | .int i => some (i != 0)
  | .str s => if s.length ≤ lim then some (s.length != 0) else none
  | .lst xs => some (!xs.isEmpty)
  | .tup xs => some (!xs.isEmpty)
  | _ => none

/-! ## the language -/
mutual
inductive E where
  | v (i : Nat) | k (d : D) | g (x : Str)
  | op (o : Operator) (a b : E) | cmp (o : CmpOp) (a b : E) | cmpv (o : CmpOp) (a : E) (i : Nat) | chain (o o' : CmpOp) (a b c : E)
  | neg (a : E) | nt (a : E) | an (a b : E) | or (a b : E) | ite (c : Cn) (a b : E)
  | tup (es : Es) | lst (es : Es) | share (e : E)
  | bi (b : Bi) (es : Es) | lenv (i : Nat) | isi (a : E) (ts : List String) (many : Bool)
  | ix (a b : E) | ixv (i : Nat) (b : E) | sl (a : E) (lo hi : Eo) | slr (a : E)
  | call (f : Str) (es : Es) | callk (f : Str) (es : Es) (ks : List Str) (kes : Es) (perm : List Nat)
  | mth (m : Mt) (i : Nat) (es : Es) | mthH (m : Mt) (a : E) (es : Es)
  | lc (e : E) (t : Tg) (it : I) (c : Co) (own : List (Str × Nat)) | lc2 (e : E) (t : Tg) (it : I) (c : Co) (t1 : Tg) (it1 : I) (c1 : Co) (own : List (Str × Nat)) (own1 : List Nat)
  | lrng (es : Es) | trng (es : Es)
inductive Es where
  | nil | cons (e : E) (es : Es)
inductive Eo where
  | no | so (e : E)
inductive Cn where
  | e (a : E) | nt (c : Cn) | an (a b : Cn) | or (a b : Cn)
inductive Co where
  | no | so (c : Cn)
inductive I where
  | val (e : E) | rng (es : Es) | enum (e : E) | zip (a b : E) | rev (e : E)
inductive Tg where
  | n (i : Nat) | sub (i : Nat) (e : E) | tup (ts : Tgs)
inductive Tgs where
  | nil | cons (t : Tg) (ts : Tgs)
end
mutual
inductive S where
  | asg (i : Nat) (e : E) | asgT (t : Tg) (e : E) | par2 (i j : Nat) (a b : E) | par3 (i j l : Nat) (a b c : E) | aug (i : Nat) (o : Operator) (e : E)
  | ex (e : E) | ret (e : E) | retN | pass | brk | cnt
  | ite (c : Cn) (a b : Ss) | whl (c : Cn) (b : Ss) | for_ (t : Tg) (it : I) (b : Ss)
inductive Ss where
  | nil | cons (s : S) (ss : Ss)
end
inductive Fl where
  | nx | rt (fr : Bool) (d : D) | bk | ct

/-! ## what it does -/
/-- the table of functions; the globals -/
structure Tb where
  F : Str → List D → Sto → Option (Bool × D × Sto)
  G : Str → Option D
abbrev RE := Option (Bool × D × Env × Sto)
abbrev RS := Option (Fl × Env × Sto)
/-- a value, a new list frozen -/
def vv (r : RE) : Option (D × Env × Sto) := r.map fun r => r.2
def up (ρ : Env) (st : Sto) (r : R1) : RE := match r with
  | some (fr, d) => some (fr, d, ρ, st)
  | none => none
/-- a slot's sequence as it stands -/
def slotSeq (st : Sto) : Sl → Option (List D)
  | .own xs => some xs
  | .val (.lst xs) => some xs
  | .val (.tup xs) => some xs
  | .val (.hd n) => st[n]?
  | _ => none
def slotLst (st : Sto) : Sl → Option (List D)
  | .own xs => some xs
  | .val (.hd n) => st[n]?
  | _ => none
def wipeE (ρ : Env) : List Nat → Env
  | [] => ρ
  | v :: vs => (wipeE ρ vs).set v .no
def asgN (i : Nat) (fr : Bool) (d : D) (ρ : Env) : Option Env := if i < ρ.length then match fr, d with
    | true, .lst xs => some (ρ.set i (.own xs))
    | true, _ => none
    | false, d => some (ρ.set i (.val d))
  else none
def setIx (xs : List D) (k : D) (d : D) : Option (List D) := match k with
  | .int i => (ixN xs.length i).map fun j => xs.set j d
  | _ => none
def asgSub (i : Nat) (k d : D) (ρ : Env) (st : Sto) : Option (Env × Sto) := match ρ[i]? with
  | some (.own xs) => (setIx xs k d).map fun ys => (ρ.set i (.own ys), st)
  | some (.val (.hd n)) => (st[n]?).bind fun xs => (setIx xs k d).map fun ys => (ρ, st.set n ys)
  | _ => none
def mthR (m : Mt) (i : Nat) (args : List D) (ρ : Env) (st : Sto) : Option (D × Env × Sto) := match ρ[i]? with
  | some (.own xs) => (mtD m xs args).map fun p => (p.1, ρ.set i (.own p.2), st)
  | some (.val (.hd n)) => (st[n]?).bind fun xs => (mtD m xs args).map fun p => (p.1, ρ, st.set n p.2)
  | _ => none
def mthHR (m : Mt) (o : D) (args : List D) (st : Sto) : Option (D × Sto) := match o with
  | .hd n => (st[n]?).bind fun xs => (mtD m xs args).map fun p => (p.1, st.set n p.2)
  | _ => none
def zipL : List D → List D → List D
  | x :: xs, y :: ys => .tup [x, y] :: zipL xs ys
  | _, _ => []
def enumL (n : Nat) : List D → List D
  | [] => []
  | x :: xs => .tup [.int n, x] :: enumL (n + 1) xs
def unpack (d : D) (n : Nat) : Option (List D) := match d with
  | .tup xs => if xs.length = n then some xs else none
  | _ => none
def Tgs.len : Tgs → Nat
  | .nil => 0
  | .cons _ ts => ts.len + 1
def lcL (asg : D → Env → Sto → Option (Env × Sto)) (c : Env → Sto → Option (Bool × Env × Sto)) (e : Env → Sto → Option (D × Env × Sto)) (vs : List Nat) : List D → List D → Env → Sto → Option (List D × Env × Sto)
  | [], acc, ρ, st => some (acc, ρ, st)
  | d :: ds, acc, ρ, st => do
    let (ρ1, st1) ← asg d ρ st
    let (b, ρ2, st2) ← c ρ1 st1
    if b then do
      let (x, ρ3, st3) ← e ρ2 st2
      if acc.length < lim then lcL asg c e vs ds (acc ++ [x]) (wipeE ρ3 vs) st3 else none
    else lcL asg c e vs ds acc (wipeE ρ2 vs) st2
def lcL2 (asg : D → Env → Sto → Option (Env × Sto)) (c : Env → Sto → Option (Bool × Env × Sto)) (it : Env → Sto → Option (List D × Env × Sto)) (inner : List D → List D → Env → Sto → Option (List D × Env × Sto)) (vs : List Nat) (vs1 : List Nat) : List D → List D → Env → Sto → Option (List D × Env × Sto)
  | [], acc, ρ, st => some (acc, ρ, st)
  | d :: ds, acc, ρ, st => do
    let (ρ1, st1) ← asg d ρ st
    let (b, ρ2, st2) ← c ρ1 st1
    if b then do
      let (xs, ρ3, st3) ← it ρ2 st2
      let (acc', ρ4, st4) ← inner xs acc (wipeE ρ3 vs1) st3
      lcL2 asg c it inner vs vs1 ds acc' (wipeE ρ4 vs) st4
    else lcL2 asg c it inner vs vs1 ds acc (wipeE ρ2 vs) st2
def forL (asg : D → Env → Sto → Option (Env × Sto)) (b : Env → Sto → RS) : List D → Env → Sto → RS
  | [], ρ, st => some (.nx, ρ, st)
  | d :: ds, ρ, st => do
    let (ρ1, st1) ← asg d ρ st
    let (f, ρ2, st2) ← b ρ1 st1
    match f with
    | .nx => forL asg b ds ρ2 st2
    | .ct => forL asg b ds ρ2 st2
    | .bk => some (.nx, ρ2, st2)
    | .rt fr d => some (.rt fr d, ρ2, st2)
def whlL (c : Env → Sto → Option (Bool × Env × Sto)) (b : Env → Sto → RS) : Nat → Env → Sto → RS
  | 0, _, _ => none
  | n + 1, ρ, st => do
    let (t, ρ1, st1) ← c ρ st
    if t then do
      let (f, ρ2, st2) ← b ρ1 st1
      match f with
      | .nx => whlL c b n ρ2 st2
      | .ct => whlL c b n ρ2 st2
      | .bk => some (.nx, ρ2, st2)
      | .rt fr d => some (.rt fr d, ρ2, st2)
    else some (.nx, ρ1, st1)
def fuel : Nat := 1000000

mutual
def evE (P : Tb) : E → Env → Sto → RE
  | .v i => fun ρ st => match ρ[i]? with
    | some (.val d) => some (false, d, ρ, st)
    | some (.own xs) => some (false, .lst xs, ρ.set i (.val (.lst xs)), st)
    | _ => none
  | .k d => fun ρ st => some (false, d, ρ, st)
  | .g x => fun ρ st => (P.G x).map fun d => (false, d, ρ, st)
  | .op o a b => fun ρ st => do
    let (x, ρ1, st1) ← vv (evE P a ρ st)
    let (y, ρ2, st2) ← vv (evE P b ρ1 st1)
    up ρ2 st2 (opD o x y)
  | .cmp o a b => fun ρ st => do
    let (x, ρ1, st1) ← vv (evE P a ρ st)
    let (y, ρ2, st2) ← vv (evE P b ρ1 st1)
    (cmpD o x y).map fun t => (false, .bl t, ρ2, st2)
  | .cmpv o a i => fun ρ st => do
    let (x, ρ1, st1) ← vv (evE P a ρ st)
    let sl ← ρ1[i]?
    let ys ← slotSeq st1 sl
    match o with
    | .In => (inD x ys).map fun t => (false, .bl t, ρ1, st1)
    | .NotIn => (inD x ys).map fun t => (false, .bl (!t), ρ1, st1)
    | _ => none
  | .chain o o' a b c => fun ρ st => do
    let (x, ρ1, st1) ← vv (evE P a ρ st)
    let (y, ρ2, st2) ← vv (evE P b ρ1 st1)
    let t ← cmpD o x y
    if t then do
      let (z, ρ3, st3) ← vv (evE P c ρ2 st2)
      (cmpD o' y z).map fun t => (false, .bl t, ρ3, st3)
    else some (false, .bl false, ρ2, st2)
  | .neg a => fun ρ st => do
    let (x, ρ1, st1) ← vv (evE P a ρ st)
    match x with
    | .int i => some (false, .int (-i), ρ1, st1)
    | _ => none
  | .nt a => fun ρ st => do
    let (x, ρ1, st1) ← vv (evE P a ρ st)
    let t ← truD x
    some (false, .bl (!t), ρ1, st1)
  | .an a b => fun ρ st => do
    let (x, ρ1, st1) ← vv (evE P a ρ st)
    match x with
    | .bl true => (vv (evE P b ρ1 st1)).map fun r => (false, r)
    | .bl false => some (false, .bl false, ρ1, st1)
    | _ => none
  | .or a b => fun ρ st => do
    let (x, ρ1, st1) ← vv (evE P a ρ st)
    match x with
    | .bl true => some (false, .bl true, ρ1, st1)
    | .bl false => (vv (evE P b ρ1 st1)).map fun r => (false, r)
    | _ => none
  | .ite c a b => fun ρ st => do
    let (t, ρ1, st1) ← evT P c ρ st
    if t then evE P a ρ1 st1 else evE P b ρ1 st1
  | .tup es => fun ρ st => do
    let (ds, ρ1, st1) ← evEs P es ρ st
    if ds.length ≤ lim then some (false, .tup ds, ρ1, st1) else none
  | .lst es => fun ρ st => do
    let (ds, ρ1, st1) ← evEs P es ρ st
    if ds.length ≤ lim then some (true, .lst ds, ρ1, st1) else none
  | .share e => fun ρ st => do
    let (fr, d, ρ1, st1) ← evE P e ρ st
    match fr, d with
    | true, .lst xs => some (false, .hd st1.length, ρ1, st1 ++ [xs])
    | _, _ => none
  | .bi b es => fun ρ st => do
    let (ds, ρ1, st1) ← evEs P es ρ st
    up ρ1 st1 (biD st1 b ds)
  | .lenv i => fun ρ st => do
    let sl ← ρ[i]?
    let ys ← slotSeq st sl
    some (false, .int ys.length, ρ, st)
  | .isi a ts _ => fun ρ st => do
    let (x, ρ1, st1) ← vv (evE P a ρ st)
    match x with
    | .scr _ => none
    | _ => some (false, .bl (isiD ts x), ρ1, st1)
  | .ix a b => fun ρ st => do
    let (x, ρ1, st1) ← vv (evE P a ρ st)
    let (y, ρ2, st2) ← vv (evE P b ρ1 st1)
    (ixD st2 x y).map fun d => (false, d, ρ2, st2)
  | .ixv i b => fun ρ st => do
    let sl0 ← ρ[i]?
    let _ ← slotSeq st sl0
    let (y, ρ1, st1) ← vv (evE P b ρ st)
    let sl ← ρ1[i]?
    let ys ← slotSeq st1 sl
    (ixL ys y).map fun d => (false, d, ρ1, st1)
  | .sl a lo hi => fun ρ st => do
    let (x, ρ1, st1) ← vv (evE P a ρ st)
    let (l, ρ2, st2) ← evO P lo ρ1 st1
    let (h, ρ3, st3) ← evO P hi ρ2 st2
    up ρ3 st3 (slD x l h)
  | .slr a => fun ρ st => do
    let (x, ρ1, st1) ← vv (evE P a ρ st)
    up ρ1 st1 (revD x)
  | .call f es => fun ρ st => do
    let (ds, ρ1, st1) ← evEs P es ρ st
    (P.F f ds st1).map fun r => (r.1, r.2.1, ρ1, r.2.2)
  | .callk f es _ kes perm => fun ρ st => do
    let (ds, ρ1, st1) ← evEs P es ρ st
    let (ks, ρ2, st2) ← evEs P kes ρ1 st1
    (P.F f (perm.filterMap fun j => (ds ++ ks)[j]?) st2).map fun r => (r.1, r.2.1, ρ2, r.2.2)
  | .mth m i es => fun ρ st => do
    let sl0 ← ρ[i]?
    let _ ← slotLst st sl0
    let (ds, ρ1, st1) ← evEs P es ρ st
    (mthR m i ds ρ1 st1).map fun r => (false, r)
  | .mthH m a es => fun ρ st => do
    let (x, ρ1, st1) ← vv (evE P a ρ st)
    let (ds, ρ2, st2) ← evEs P es ρ1 st1
    (mthHR m x ds st2).map fun r => (false, r.1, ρ2, r.2)
  | .lc e t it c own => fun ρ st => do
    let (xs, ρ1, st1) ← evI P it ρ st
    let (acc, ρ2, st2) ← lcL (evTg P t) (evC P c) (fun ρ st => vv (evE P e ρ st)) (own.map (·.2)) xs [] (wipeE ρ1 (own.map (·.2))) st1
    some (true, .lst acc, ρ2, st2)
  | .lc2 e t it c t1 it1 c1 own own1 => fun ρ st => do
    let (xs, ρ1, st1) ← evI P it ρ st
    let (acc, ρ2, st2) ← lcL2 (evTg P t) (evC P c) (evI P it1) (lcL (evTg P t1) (evC P c1) (fun ρ st => vv (evE P e ρ st)) own1) (own.map (·.2)) own1 xs [] (wipeE ρ1 (own.map (·.2))) st1
    some (true, .lst acc, ρ2, st2)
  | .lrng es => fun ρ st => do
    let (ds, ρ1, st1) ← evEs P es ρ st
    let xs ← rngD ds
    if xs.length ≤ lim ∧ ds.length ≤ 2 then some (true, .lst xs, ρ1, st1) else none
  | .trng es => fun ρ st => do
    let (ds, ρ1, st1) ← evEs P es ρ st
    let xs ← rngD ds
    if xs.length ≤ lim ∧ ds.length ≤ 2 then some (false, .tup xs, ρ1, st1) else none
/-- the truth -/
def evT (P : Tb) : Cn → Env → Sto → Option (Bool × Env × Sto)
  | .nt a => fun ρ st => do
    let (t, ρ1, st1) ← evT P a ρ st
    some (!t, ρ1, st1)
  | .an a b => fun ρ st => do
    let (t, ρ1, st1) ← evT P a ρ st
    if t then evT P b ρ1 st1 else some (false, ρ1, st1)
  | .or a b => fun ρ st => do
    let (t, ρ1, st1) ← evT P a ρ st
    if t then some (true, ρ1, st1) else evT P b ρ1 st1
  | .e a => fun ρ st => do
    let (x, ρ1, st1) ← vv (evE P a ρ st)
    let t ← truD x
    some (t, ρ1, st1)
def evEs (P : Tb) : Es → Env → Sto → Option (List D × Env × Sto)
  | .nil => fun ρ st => some ([], ρ, st)
  | .cons e es => fun ρ st => do
    let (x, ρ1, st1) ← vv (evE P e ρ st)
    let (xs, ρ2, st2) ← evEs P es ρ1 st1
    some (x :: xs, ρ2, st2)
/-- a part of a slice -/
def evO (P : Tb) : Eo → Env → Sto → Option (Option Int × Env × Sto)
  | .no => fun ρ st => some (none, ρ, st)
  | .so e => fun ρ st => do
    let (x, ρ1, st1) ← vv (evE P e ρ st)
    match x with
    | .int i => some (some i, ρ1, st1)
    | _ => none
/-- a clause's test -/
def evC (P : Tb) : Co → Env → Sto → Option (Bool × Env × Sto)
  | .no => fun ρ st => some (true, ρ, st)
  | .so e => evT P e
/-- what is walked -/
def evI (P : Tb) : I → Env → Sto → Option (List D × Env × Sto)
  | .val e => fun ρ st => do
    let (x, ρ1, st1) ← vv (evE P e ρ st)
    let xs ← seqOf x
    some (xs, ρ1, st1)
  | .rng es => fun ρ st => do
    let (ds, ρ1, st1) ← evEs P es ρ st
    let xs ← rngD ds
    some (xs, ρ1, st1)
  | .enum e => fun ρ st => do
    let (x, ρ1, st1) ← vv (evE P e ρ st)
    let xs ← seqOf x
    some (enumL 0 xs, ρ1, st1)
  | .zip a b => fun ρ st => do
    let (x, ρ1, st1) ← vv (evE P a ρ st)
    let (y, ρ2, st2) ← vv (evE P b ρ1 st1)
    match x, y with
    | .lst xs, .lst ys => some (zipL xs ys, ρ2, st2)
    | .tup xs, .tup ys => some (zipL xs ys, ρ2, st2)
    | _, _ => none
  | .rev e => fun ρ st => do
    let (x, ρ1, st1) ← vv (evE P e ρ st)
    let xs ← seqOf x
    some (xs.reverse, ρ1, st1)
/-- a target takes a value that is not new -/
def evTg (P : Tb) : Tg → D → Env → Sto → Option (Env × Sto)
  | .n i => fun d ρ st => (asgN i false d ρ).map fun ρ1 => (ρ1, st)
  | .sub i e => fun d ρ st => do
    let sl0 ← ρ[i]?
    let _ ← slotLst st sl0
    let (y, ρ1, st1) ← vv (evE P e ρ st)
    asgSub i y d ρ1 st1
  | .tup ts => fun d ρ st => do
    let ds ← unpack d ts.len
    evTgs P ts ds ρ st
def evTgs (P : Tb) : Tgs → List D → Env → Sto → Option (Env × Sto)
  | .nil => fun _ ρ st => some (ρ, st)
  | .cons t ts => fun ds ρ st => match ds with
    | d :: ds => do
      let (ρ1, st1) ← evTg P t d ρ st
      evTgs P ts ds ρ1 st1
    | [] => none
end
/-! ## statements -/
def augD : Operator → D → D → Option D
  | .Add, .int a, .int b => some (.int (a + b))
  | .Sub, .int a, .int b => some (.int (a - b))
  | .Mult, .int a, .int b => if Big a ∧ Big b then some (.int (a * b)) else none
  | _, _, _ => none
def retE (P : Tb) (e : E) (ρ : Env) (st : Sto) : RE := match e with
  | .v i => match ρ[i]? with
    | some (.own xs) => some (true, .lst xs, ρ.set i .no, st)
    | _ => evE P (.v i) ρ st
  | e => evE P e ρ st
mutual
def exS (P : Tb) : S → Env → Sto → RS
  | .asg i e => fun ρ st => do
    let (fr, d, ρ1, st1) ← evE P e ρ st
    let ρ2 ← asgN i fr d ρ1
    some (.nx, ρ2, st1)
  | .asgT t e => fun ρ st => do
    let (d, ρ1, st1) ← vv (evE P e ρ st)
    let (ρ2, st2) ← evTg P t d ρ1 st1
    some (.nx, ρ2, st2)
  | .par2 i j a b => fun ρ st => do
    let (fr, d, ρ1, st1) ← evE P a ρ st
    let (fr', d', ρ2, st2) ← evE P b ρ1 st1
    let ρ3 ← asgN j fr' d' ρ2
    let ρ4 ← asgN i fr d ρ3
    if i = j then none else some (.nx, ρ4, st2)
  | .par3 i j l a b c => fun ρ st => do
    let (fr, d, ρ1, st1) ← evE P a ρ st
    let (fr', d', ρ2, st2) ← evE P b ρ1 st1
    let (fr'', d'', ρ3, st3) ← evE P c ρ2 st2
    let ρ4 ← asgN l fr'' d'' ρ3
    let ρ5 ← asgN j fr' d' ρ4
    let ρ6 ← asgN i fr d ρ5
    if i = j ∨ i = l ∨ j = l then none else some (.nx, ρ6, st3)
  | .aug i o e => fun ρ st => match ρ[i]? with
    | some (.val x) => do
      let (y, ρ1, st1) ← vv (evE P e ρ st)
      let z ← augD o x y
      let ρ2 ← asgN i false z ρ1
      some (.nx, ρ2, st1)
    | _ => none
  | .ex e => fun ρ st => do
    let (_, _, ρ1, st1) ← evE P e ρ st
    some (.nx, ρ1, st1)
  | .ret e => fun ρ st => do
    let (fr, d, ρ1, st1) ← retE P e ρ st
    some (.rt fr d, ρ1, st1)
  | .retN => fun ρ st => some (.rt false .non, ρ, st)
  | .pass => fun ρ st => some (.nx, ρ, st)
  | .brk => fun ρ st => some (.bk, ρ, st)
  | .cnt => fun ρ st => some (.ct, ρ, st)
  | .ite c a b => fun ρ st => do
    let (t, ρ1, st1) ← evT P c ρ st
    if t then exSs P a ρ1 st1 else exSs P b ρ1 st1
  | .whl c b => fun ρ st => whlL (evT P c) (exSs P b) fuel ρ st
  | .for_ t it b => fun ρ st => do
    let (xs, ρ1, st1) ← evI P it ρ st
    forL (evTg P t) (exSs P b) xs ρ1 st1
def exSs (P : Tb) : Ss → Env → Sto → RS
  | .nil => fun ρ st => some (.nx, ρ, st)
  | .cons s ss => fun ρ st => do
    let (f, ρ1, st1) ← exS P s ρ st
    match f with
    | .nx => exSs P ss ρ1 st1
    | f => some (f, ρ1, st1)
end
structure Fn where
  ps : List Str
  nl : Nat
  body : Ss
def runF (P : Tb) (f : Fn) (args : List D) (st : Sto) : Option (Bool × D × Sto) :=
  if args.length = f.ps.length then match exSs P f.body (args.map Sl.val ++ List.replicate (f.nl - f.ps.length) .no) st with
    | some (.rt fr d, _, st') => some (fr, d, st')
    | some (.nx, _, st') => some (false, .non, st')
    | _ => none
  else none
/-- the functions to a depth of calls -/
def callN (prog : Str → Option Fn) (G : Str → Option D) : Nat → Str → List D → Sto → Option (Bool × D × Sto)
  | 0 => fun _ _ _ => none
  | k + 1 => fun x args st => match prog x with
    | some f => runF ⟨callN prog G k, G⟩ f args st
    | none => none
end Pv

namespace Pv
open PySem PySem.Spec PyProof.Rows L2

/-! ## which text is which term -/
structure SC where
  N : List Str
  sc : Scope
  tg : Str → Bool
  gl : Str → Bool
  fp : Str → Bool
  kw : Str → Nat → List Str → List Nat → Bool
def visB (sc : Scope) (x : Str) : Bool := match sc.names.lookup x with
  | some .local => true
  | some .cell => true
  | some .free => true
  | _ => false
def locB (sc : Scope) (x : Str) : Bool := match sc.names.lookup x with
  | some .local => true
  | some .cell => true
  | _ => false
def glB (sc : Scope) (x : Str) : Bool := match sc.names.lookup x with
  | some .globalImplicit => true
  | _ => false
def plainName (x : Str) : Bool := !(x == ("__debug__" : Str)) && !(x == ("__classdict__" : Str)) && !(x == ("__name__" : Str))
def SC.var (C : SC) (i : Nat) (x : Str) : Bool := decide (C.N[i]? = some x) && visB C.sc x && plainName x
def SC.store (C : SC) (i : Nat) (x : Str) : Bool := decide (C.N[i]? = some x) && locB C.sc x && C.tg x && plainName x
def SC.blk (C : SC) (scope : Scope) : SC := { C with sc := relS scope C.sc, tg := fun x => match scope.names.lookup x with
  | some .cell => true
  | some .local => true
  | _ => false }
def starB : Expr → Bool
  | .Starred .. => false
  | _ => true
def sliceB : Expr → Bool
  | .Slice .. => false
  | _ => true
def compB : Expr → Bool
  | .ListComp .. => true
  | .SetComp .. => true
  | .DictComp .. => true
  | _ => false
def setB : Expr → Bool
  | .Set .. => true
  | _ => false
/-- a test that is a value's truth -/
def truB : Expr → Bool
  | .UnaryOp .Not _ _ => false
  | .BoolOp .. => false
  | .IfExp .. => false
  | .Compare .. => false
  | _ => true
def biName : Bi → Str
  | .abs => "abs" | .int => "int" | .len => "len" | .sum => "sum" | .min2 => "min" | .max2 => "max" | .tuple => "tuple" | .list => "list" | .sorted => "sorted" | .min1 => "min" | .max1 => "max"
def mtName : Mt → Str
  | .append => "append" | .pop => "pop" | .popAt => "pop" | .extend => "extend"
def kB : D → Const → Bool
  | .non, .none => true
  | .bl b, .bool c => b == c
  | .int i, .int j => i == j
  | .str s, .str t => s == t
  | _, _ => false
def isCall0 : Expr → Bool
  | .Call _ [] [] _ => true
  | _ => false
/-- the built-in names that are used -/
def blts : List Str := ["abs", "int", "len", "sum", "min", "max", "tuple", "list", "sorted", "range", "enumerate", "zip", "reversed", "isinstance", "str", "bool", "dict"]
def tyNames : List Expr → List String → Bool
  | [], [] => true
  | .Name x _ :: es, t :: ts => x == (t : Str) && (["int", "str", "bool", "tuple", "list", "dict"].contains t) && tyNames es ts
  | _, _ => false
def tyGl (sc : Scope) : List String → Bool
  | [] => true
  | t :: ts => glB sc (t : Str) && tyGl sc ts
def kwB : List Keyword → List Str → Bool
  | [], [] => true
  | k :: ks, n :: ns => decide (k.arg = some n) && kwB ks ns
  | _, _ => false
def cmpE : E → Bool
  | .cmp .. => true
  | .cmpv .. => true
  | .chain .. => true
  | _ => false
mutual
def chE (C : SC) : E → Expr → Bool
  | .v i => fun e => match e with
    | .Name x _ => C.var i x
    | _ => false
  | .k d => fun e => match e with
    | .Constant c _ _ => kB d c
    | _ => false
  | .g x => fun e => match e with
    | .Name y _ => x == y && glB C.sc x && C.gl x && plainName x
    | _ => false
  | .op o a b => fun e => match e with
    | .BinOp l o' r _ => decide (o = o') && chE C a l && chE C b r
    | _ => false
  | .cmp o a b => fun e => match e with
    | .Compare l [o'] [r] _ => decide (o = o') && chE C a l && chE C b r && !setB r
    | _ => false
  | .cmpv o a i => fun e => match e with
    | .Compare l [o'] [.Name x _] _ => decide (o = o') && chE C a l && C.var i x
    | _ => false
  | .chain o o' a b c => fun e => match e with
    | .Compare l [o1, o2] [m, r] _ => decide (o = o1) && decide (o' = o2) && chE C a l && chE C b m && chE C c r && !setB m && !setB r
    | _ => false
  | .neg a => fun e => match e with
    | .UnaryOp .USub x _ => chE C a x
    | _ => false
  | .nt a => fun e => match e with
    | .UnaryOp .Not x _ => chE C a x && truB x
    | _ => false
  | .an a b => fun e => match e with
    | .BoolOp .And (x :: y :: rest) p => chE C a x && (if rest.isEmpty then chE C b y else chE C b (.BoolOp .And (y :: rest) p))
    | _ => false
  | .or a b => fun e => match e with
    | .BoolOp .Or (x :: y :: rest) p => chE C a x && (if rest.isEmpty then chE C b y else chE C b (.BoolOp .Or (y :: rest) p))
    | _ => false
  | .ite c a b => fun e => match e with
    | .IfExp t x y _ => chC C c t && chE C a x && chE C b y
    | _ => false
  | .tup es => fun e => match e with
    | .Tuple xs _ _ => chEs C es xs
    | _ => false
  | .lst es => fun e => match e with
    | .List xs _ => chEs C es xs
    | _ => false
  | .share a => fun e => chE C a e
  | .bi b es => fun e => match e with
    | .Call (.Name x _) (y :: ys) [] _ => x == biName b && glB C.sc x && chEs C es (y :: ys)
    | _ => false
  | .lenv i => fun e => match e with
    | .Call (.Name x _) [.Name y _] [] _ => x == ("len" : Str) && glB C.sc x && C.var i y
    | _ => false
  | .isi a ts many => fun e => match e with
    | .Call (.Name x _) [y, t] [] _ => x == ("isinstance" : Str) && glB C.sc x && chE C a y && starB y && tyGl C.sc ts && (match many, t with
      | true, .Tuple es _ _ => tyNames es ts && decide (es.length < 10)
      | false, e => tyNames [e] ts
      | _, _ => false)
    | _ => false
  | .ix a b => fun e => match e with
    | .Subscript x y _ => chE C a x && chE C b y && sliceB y
    | _ => false
  | .ixv i b => fun e => match e with
    | .Subscript (.Name x _) y _ => C.var i x && chE C b y && sliceB y
    | _ => false
  | .sl a lo hi => fun e => match e with
    | .Subscript x (.Slice l h none _) _ => chE C a x && chO C lo l && chO C hi h
    | _ => false
  | .slr a => fun e => match e with
    | .Subscript x (.Slice none none (some (.UnaryOp .USub (.Constant (.int 1) _ _) _)) _) _ => chE C a x
    | _ => false
  | .call f es => fun e => match e with
    | .Call (.Name x _) ys [] _ => x == f && glB C.sc x && plainName x && C.fp x && chEs C es ys
    | _ => false
  | .callk f es ks kes perm => fun e => match e with
    | .Call (.Name x _) ys (k :: kws) _ => x == f && glB C.sc x && plainName x && chEs C es ys && kwB (k :: kws) ks && chEs C kes ((k :: kws).map (·.value)) && C.kw x ys.length ks perm
    | _ => false
  | .mth m i es => fun e => match e with
    | .Call (.Attribute (.Name x _) n p) ys [] q => n == mtName m && C.var i x && chEs C es ys && p.endLine == q.line && decide (ys.length < 20)
    | _ => false
  | .mthH m a es => fun e => match e with
    | .Call (.Attribute x n p) ys [] q => n == mtName m && chE C a x && !isCall0 x && chEs C es ys && p.endLine == q.line && decide (ys.length < 20)
    | _ => false
  | .lc a t it c own => fun e => match e with
    | .ListComp x [⟨tg, iter, ifs, 0⟩] scope _ => blkC C.N C.sc scope own && chI C it tg iter && chTg (C.blk scope) t tg && chCo (C.blk scope) c ifs && chE (C.blk scope) a x && (Tg.slots t).all (fun j => (own.map (·.2)).contains j)
    | _ => false
  | .lc2 a t it c t1 it1 c1 own own1 => fun e => match e with
    | .ListComp x [⟨tg, iter, ifs, 0⟩, ⟨tg1, iter1, ifs1, 0⟩] scope _ => blkC C.N C.sc scope own && chI C it tg iter && chTg (C.blk scope) t tg && chCo (C.blk scope) c ifs && chI (C.blk scope) it1 tg1 iter1 && chTg (C.blk scope) t1 tg1 && chCo (C.blk scope) c1 ifs1 && chE (C.blk scope) a x &&
      (Tg.slots t).all (fun j => (own.map (·.2)).contains j) && (Tg.slots t1).all (fun j => own1.contains j) && own1.all (fun j => (own.map (·.2)).contains j)
    | _ => false
  | .lrng es => fun e => match e with
    | .Call (.Name x _) [.Call (.Name y _) zs [] _] [] _ => x == ("list" : Str) && glB C.sc x && y == ("range" : Str) && glB C.sc y && chEs C es zs && (zs.length == 1 || zs.length == 2)
    | _ => false
  | .trng es => fun e => match e with
    | .Call (.Name x _) [.Call (.Name y _) zs [] _] [] _ => x == ("tuple" : Str) && glB C.sc x && y == ("range" : Str) && glB C.sc y && chEs C es zs && (zs.length == 1 || zs.length == 2)
    | _ => false
def chEs (C : SC) : Es → List Expr → Bool
  | .nil => fun l => match l with
    | [] => true
    | _ => false
  | .cons e es => fun l => match l with
    | x :: xs => starB x && chE C e x && chEs C es xs
    | _ => false
def chO (C : SC) : Eo → Option Expr → Bool
  | .no => fun o => match o with
    | none => true
    | _ => false
  | .so e => fun o => match o with
    | some x => chE C e x
    | _ => false
def chC (C : SC) : Cn → Expr → Bool
  | .e a => fun x => chE C a x && (truB x || cmpE a)
  | .nt c => fun x => match x with
    | .UnaryOp .Not y _ => chC C c y
    | _ => false
  | .an a b => fun e => match e with
    | .BoolOp .And (x :: y :: rest) p => chC C a x && (if rest.isEmpty then chC C b y else chC C b (.BoolOp .And (y :: rest) p))
    | _ => false
  | .or a b => fun e => match e with
    | .BoolOp .Or (x :: y :: rest) p => chC C a x && (if rest.isEmpty then chC C b y else chC C b (.BoolOp .Or (y :: rest) p))
    | _ => false
def chCo (C : SC) : Co → List Expr → Bool
  | .no => fun l => match l with
    | [] => true
    | _ => false
  | .so c => fun l => match l with
    | [x] => chC C c x
    | _ => false
def chI (C : SC) : I → Expr → Expr → Bool
  | .val e => fun _ x => chE C e x && !setB x
  | .rng es => fun _ x => match x with
    | .Call (.Name y _) zs [] _ => y == ("range" : Str) && glB C.sc y && chEs C es zs && (zs.length == 1 || zs.length == 2 || zs.length == 3)
    | _ => false
  | .enum e => fun t x => match t, x with
    | .Tuple _ _ _, .Call (.Name y _) [z] [] _ => y == ("enumerate" : Str) && glB C.sc y && chE C e z && starB z
    | _, _ => false
  | .zip a b => fun t x => match t, x with
    | .Tuple _ _ _, .Call (.Name y _) [z, z'] [] _ => y == ("zip" : Str) && glB C.sc y && chE C a z && chE C b z' && starB z && starB z'
    | _, _ => false
  | .rev e => fun _ x => match x with
    | .Call (.Name y _) [z] [] _ => y == ("reversed" : Str) && glB C.sc y && chE C e z && starB z
    | _ => false
def chTg (C : SC) : Tg → Expr → Bool
  | .n i => fun e => match e with
    | .Name x _ => C.store i x
    | _ => false
  | .sub i a => fun e => match e with
    | .Subscript (.Name x _) y _ => C.var i x && chE C a y && sliceB y
    | _ => false
  | .tup ts => fun e => match e with
    | .Tuple es _ _ => chTgs C ts es
    | _ => false
def chTgs (C : SC) : Tgs → List Expr → Bool
  | .nil => fun l => match l with
    | [] => true
    | _ => false
  | .cons t ts => fun l => match l with
    | x :: xs => starB x && chTg C t x && chTgs C ts xs
    | _ => false
def Tg.slots : Tg → List Nat
  | .n i => [i]
  | .sub _ _ => []
  | .tup ts => Tgs.slots ts
def Tgs.slots : Tgs → List Nat
  | .nil => []
  | .cons t ts => Tg.slots t ++ Tgs.slots ts
end
end Pv

namespace Pv
open PySem PySem.Spec PyProof.Rows L2

/-! ## what is shown -/
/-- a function's promise -/
def spOf (K : PySem.W.Frag) (np : Nat) (f : List D → Sto → Option (Bool × D × Sto)) : Sp := fun vs H Q _ =>
  vs.length = np ∧ ∃ A B st ds fr d st', SRel K A B H st ∧ HoL K A B vs ds ∧ f ds st = some (fr, d, st') ∧ ∀ v A' B' H', Back K A B H A' B' H' st' fr d v → Q v H'
/-- the table and the module -/
structure GOk (P : Program) (w : World) (K : PySem.W.Frag) (mg : Str → Option Value) (base : Heap) (k : Nat) (F : Tb) (gl : Str → Bool) (fp : Str → Bool) (kw : Str → Nat → List Str → List Nat → Bool) : Prop where
  blt : ∀ x, x ∈ blts → mg x = none
  glob : ∀ x d, gl x = true → F.G x = some d → ∃ u v, mg x = some u ∧ RelV v u ∧ ∀ A B, Ho K A B v d
  fns : ∀ x, fp x = true → ∃ f fd ps, mg x = some (.ref f) ∧ PySem.W.keepIn K (.ref f) = true ∧ Binds K fd ps [] ∧ FnOk P w K mg base CX0 k f fd ps (spOf K ps.length (F.F x)) ∧ ∀ ds st r, F.F x ds st = some r → ds.length = ps.length
  kws : ∀ x np ks perm, kw x np ks perm = true → ∃ f fd ps, mg x = some (.ref f) ∧ PySem.W.keepIn K (.ref f) = true ∧ FnOk P w K mg base CX0 k f fd ps (spOf K ps.length (F.F x)) ∧
    0 < ps.length ∧ (∀ (s : Shared) (us ws : List Value), us.length = np → ws.length = ks.length → BindsTo s fd ⟨us, ks.zip ws⟩ (ps.zip (perm.filterMap fun j => (us ++ ws)[j]?)) ∧ (perm.filterMap fun j => (us ++ ws)[j]?).length = ps.length) ∧ ∀ ds st r, F.F x ds st = some r → ds.length = ps.length
/-- a def's body, or a comprehension's in it -/
structure COk (P : Program) (w : World) (K : PySem.W.Frag) (mg : Str → Option Value) (base : Heap) (k : Nat) (C : SC) (X : Cx) : Prop where
  prog : X.prog = P
  w : X.w = w
  K : X.K = K
  mg : X.mg = mg
  base : X.base = base
  N : X.N = C.N
  nd : C.N.Nodup
  sc : X.env.scope = C.sc
  room : Room k X.A
  calm : X.calm = true
  tg : ∀ x, C.tg x = true → X.fn x = true ∨ X.env.scope.names.lookup x = some .local
  kind : C.sc.kind = .function
  xe : X.xe = fun _ _ => False

section
variable (K : PySem.W.Frag) (F : Tb)
/-- behind an expression -/
def EPost (O : Org) (σ : L2.St) (T : List (Addr × List D)) (ρ' : Env) (st' : Sto) (fr : Bool) (d : D) (v : V) (A' : List Addr) (B' H' : Hp) : Prop :=
  if fr = true then ∃ a xs, v = .ref a ∧ d = .lst xs ∧ Rel K O A' B' σ H' ρ' st' ((a, xs) :: T) else Rel K O A' B' σ H' ρ' st' T ∧ Ho K A' B' v d
def tE (p : E) : TE := fun σ H Q => ∃ O A B ρ st T fr d ρ' st', Rel K O A B σ H ρ st T ∧ evE F p ρ st = some (fr, d, ρ', st') ∧ ∀ v A' B' H', Px A A' → Ex B B' → EPost K O σ T ρ' st' fr d v A' B' H' → Q v H'
def tCn (p : Cn) : TT := fun σ H Q => ∃ O A B ρ st T b ρ' st', Rel K O A B σ H ρ st T ∧ evT F p ρ st = some (b, ρ', st') ∧ ∀ A' B' H', Px A A' → Ex B B' → Rel K O A' B' σ H' ρ' st' T → Q b H'
def tCo (p : Co) : TT := fun σ H Q => ∃ O A B ρ st T b ρ' st', Rel K O A B σ H ρ st T ∧ evC F p ρ st = some (b, ρ', st') ∧ ∀ A' B' H', Px A A' → Ex B B' → Rel K O A' B' σ H' ρ' st' T → Q b H'
def tEs (p : Es) : TA := fun σ H Q => ∃ O A B ρ st T ds ρ' st', Rel K O A B σ H ρ st T ∧ evEs F p ρ st = some (ds, ρ', st') ∧ ∀ vs A' B' H', Px A A' → Ex B B' → Rel K O A' B' σ H' ρ' st' T → HoL K A' B' vs ds → Q vs H'
def tEo (p : Eo) : TO := fun σ H Q => ∃ O A B ρ st T d ρ' st', Rel K O A B σ H ρ st T ∧ evO F p ρ st = some (d, ρ', st') ∧ ∀ A' B' H', Px A A' → Ex B B' → Rel K O A' B' σ H' ρ' st' T → Q d H'
/-- what J walks: from (A, B) on -/
def Walks (J : It) (A : List Addr) (B : Hp) (xs : List D) : Prop := ∀ (i : Nat) (A1 : List Addr) (B1 H : Hp), Px A A1 → Ex B B1 → Ex B1 H →
  (∀ d, xs[i]? = some d → J.go i H ∧ ∀ x H', J.yld i H x H' → ∃ B2, Ex B1 B2 ∧ Ex H H' ∧ Ex B2 H' ∧ (∀ a, B1 a = none → B2 a ≠ none → H a = none) ∧ Ho K A1 B2 x d) ∧ (xs.length ≤ i → J.stop i H)
def tI (p : I) : TI := fun σ H R => ∃ O A B ρ st T xs ρ' st', Rel K O A B σ H ρ st T ∧ evI F p ρ st = some (xs, ρ', st') ∧ ∀ J A' B' H', Px A A' → Ex B B' → Rel K O A' B' σ H' ρ' st' T → Walks K J A' B' xs → R J H'
def off (sl : List Nat) (σ σ' : L2.St) : Prop := σ'.length = σ.length ∧ ∀ (j : Nat), j ∉ sl → σ'[j]? = σ[j]?
def tG (t : Tg) : TG := fun v σ H Q => ∃ O A B ρ st T d ρ' st', Rel K O A B σ H ρ st T ∧ Ho K A B v d ∧ evTg F t d ρ st = some (ρ', st') ∧ ∀ σ' A' B' H', Px A A' → Ex B B' → off t.slots σ σ' → Rel K O A' B' σ' H' ρ' st' T → Q σ' H'
def tGs (t : Tgs) : TGs := fun vs σ H Q => ∃ O A B ρ st T ds ρ' st', Rel K O A B σ H ρ st T ∧ HoL K A B vs ds ∧ evTgs F t ds ρ st = some (ρ', st') ∧ ∀ σ' A' B' H', Px A A' → Ex B B' → off t.slots σ σ' → Rel K O A' B' σ' H' ρ' st' T → Q σ' H'
def SPost (O : Org) (T : List (Addr × List D)) (A : List Addr) (B : Hp) (D : Ends) (ρ' : Env) (st' : Sto) : Fl → Prop
  | .nx => ∀ σ' A' B' H', Px A A' → Ex B B' → Rel K O A' B' σ' H' ρ' st' T → D.nx σ' H'
  | .bk => ∀ σ' A' B' H', Px A A' → Ex B B' → Rel K O A' B' σ' H' ρ' st' T → D.bk σ' H'
  | .ct => ∀ σ' A' B' H', Px A A' → Ex B B' → Rel K O A' B' σ' H' ρ' st' T → D.ct σ' H'
  | .rt fr d => ∀ v σ' A' B' H', Px A A' → Ex B B' → EPost K O σ' T ρ' st' fr d v A' B' H' → D.rt v H'
def tS (s : S) : TS := fun D σ H => ∃ O A B ρ st T f ρ' st', Rel K O A B σ H ρ st T ∧ exS F s ρ st = some (f, ρ', st') ∧ SPost K O T A B D ρ' st' f
def tSs (s : Ss) : TS := fun D σ H => ∃ O A B ρ st T f ρ' st', Rel K O A B σ H ρ st T ∧ exSs F s ρ st = some (f, ρ', st') ∧ SPost K O T A B D ρ' st' f
end

/-! ### weaker readings -/
section
variable {X : Cx}
theorem _root_.L2.PE.imp {e : Expr} {t t' : TE} (h : PE X e t) (i : ∀ σ H Q, t' σ H Q → t σ H Q) : PE X e t' := ⟨fun pins s σ H Q I hw => h.run pins s σ H Q I (i σ H Q hw)⟩
theorem _root_.L2.PT.imp {e : Expr} {t t' : TT} (h : PT X e t) (i : ∀ σ H Q, t' σ H Q → t σ H Q) : PT X e t' := ⟨fun pins s σ H Q I hw => h.run pins s σ H Q I (i σ H Q hw)⟩
theorem _root_.L2.PW.imp {e : Expr} {t t' : TT} (h : PW X e t) (i : ∀ σ H Q, t' σ H Q → t σ H Q) : PW X e t' := ⟨fun wh pins s σ H Q I hw => h.run wh pins s σ H Q I (i σ H Q hw)⟩
theorem _root_.L2.PA.imp {e : List Expr} {t t' : TA} (h : PA X e t) (i : ∀ σ H Q, t' σ H Q → t σ H Q) : PA X e t' := ⟨fun pos pins s σ H Q I hw => h.run pos pins s σ H Q I (i σ H Q hw)⟩
theorem _root_.L2.PO.imp {e : Option Expr} {t t' : TO} (h : PO X e t) (i : ∀ σ H Q, t' σ H Q → t σ H Q) : PO X e t' := ⟨fun pins s σ H Q I hw => h.run pins s σ H Q I (i σ H Q hw)⟩
theorem _root_.L2.PI.imp {tg e : Expr} {t t' : TI} (h : PI X tg e t) (i : ∀ σ H Q, t' σ H Q → t σ H Q) : PI X tg e t' := ⟨fun pins s σ H Q I hw => h.run pins s σ H Q I (i σ H Q hw)⟩
theorem _root_.L2.PTs.imp {e : List Expr} {t t' : TT} (h : PTs X e t) (i : ∀ σ H Q, t' σ H Q → t σ H Q) : PTs X e t' := ⟨fun pins s σ H Q I hw => h.run pins s σ H Q I (i σ H Q hw)⟩
theorem _root_.L2.PS.imp {e : Stmt} {t t' : TS} (h : PS X e t) (i : ∀ D σ H, t' D σ H → t D σ H) : PS X e t' := ⟨fun pins s σ H D I hw => h.run pins s σ H D I (i D σ H hw)⟩
theorem _root_.L2.PSs.imp {e : List Stmt} {t t' : TS} (h : PSs X e t) (i : ∀ D σ H, t' D σ H → t D σ H) : PSs X e t' := ⟨fun pins s σ H D I hw => h.run pins s σ H D I (i D σ H hw)⟩
theorem _root_.L2.PG.imp {e : Expr} {t t' : TG} (h : PG X e t) (i : ∀ v σ H Q, t' v σ H Q → t v σ H Q) : PG X e t' := ⟨fun pins s σ H v u Q I r hw => h.run pins s σ H v u Q I r (i v σ H Q hw)⟩
theorem _root_.L2.PGs.imp {e : List Expr} {t t' : TGs} (h : PGs X e t) (i : ∀ v σ H Q, t' v σ H Q → t v σ H Q) : PGs X e t' := ⟨fun pins s σ H v u Q I r hw => h.run pins s σ H v u Q I r (i v σ H Q hw)⟩
end
end Pv

namespace Pv
open PySem PySem.Spec PyProof.Rows L2

theorem lim_le {n : Nat} (h : n ≤ lim) : n ≤ sizeLine := by
  rw [sizeLine_eq]; unfold lim at h; omega
theorem lim_lt {n : Nat} (h : n < lim) : n < sizeLine := by
  rw [sizeLine_eq]; unfold lim at h; omega
section
variable {K : PySem.W.Frag} {A : List Addr} {B H : Hp}
theorem Ho.lstH {a : Addr} {xs : List D} (e : Ex B H) (h : Ho K A B (.ref a) (.lst xs)) : ∃ vs, B a = some (.lst vs) ∧ H a = some (.lst vs) ∧ HoL K A B vs xs := by
  cases h with | lst h1 h2 => exact ⟨_, h1, e _ _ h1, h2⟩
theorem Ho.tupH {a : Addr} {xs : List D} (e : Ex B H) (h : Ho K A B (.ref a) (.tup xs)) : ∃ vs, SqT K H a vs ∧ HoL K A B vs xs := by
  cases h with | tup h1 h2 => exact ⟨_, ex_t e h1, h2⟩
theorem Ho.isLst {v : V} {xs : List D} (h : Ho K A B v (.lst xs)) : ∃ a, v = .ref a := by cases h; exact ⟨_, rfl⟩
theorem Ho.isTup {v : V} {xs : List D} (h : Ho K A B v (.tup xs)) : ∃ a, v = .ref a := by cases h; exact ⟨_, rfl⟩
theorem HoL.nil_iff {vs : List V} {ds : List D} (h : HoL K A B vs ds) : vs = [] ↔ ds = [] := by
  have := h.length
  constructor <;> intro z <;> subst z <;> simp at this
  · exact List.length_eq_zero_iff.mp this.symm
  · exact this
/-! ### data that is compared -/
mutual
def py : D → PyData
  | .non => .none
  | .bl b => .bool b
  | .int i => .int i
  | .str s => .str s
  | .tup xs => .tuple (pyL xs)
  | .lst xs => .list (pyL xs)
  | .scr _ => .none
  | .hd _ => .none
def pyL : List D → List PyData
  | [] => []
  | x :: xs => py x :: pyL xs
end
theorem all_cons_iff {α : Type} {p : α → Bool} {x : α} {xs : List α} : (x :: xs).all p = true ↔ p x = true ∧ xs.all p = true := by
  rw [List.all_cons, Bool.and_eq_true]
mutual
theorem Ho.dp (e : Ex B H) : ∀ (d : D) (n : Nat) {v : V}, Ho K A B v d → sh n d = true → Dp K H v (py d)
  | .non, _, _, h, _ => by cases h; exact .non
  | .bl b, _, _, h, _ => by cases h; exact .bl b
  | .int i, _, _, h, _ => by cases h; exact .int i
  | .str s, _, _, h, _ => by cases h; exact .str s
  | .tup xs, n, _, h, s => by
    cases n with
    | zero => simp [sh] at s
    | succ n => cases h with | tup h1 h2 => exact .tup (ex_t e h1) (HoL.dp e xs n h2 (by simpa [sh] using s))
  | .lst xs, n, _, h, s => by
    cases n with
    | zero => simp [sh] at s
    | succ n => cases h with | lst h1 h2 => exact .lst (SqL.of (e _ _ h1)) (HoL.dp e xs n h2 (by simpa [sh] using s))
  | .scr _, _, _, _, s => by simp [sh] at s
  | .hd _, _, _, _, s => by simp [sh] at s
theorem HoL.dp (e : Ex B H) : ∀ (ds : List D) (n : Nat) {vs : List V}, HoL K A B vs ds → (∀ d ∈ ds, sh n d = true) → DpAll K H vs (pyL ds)
  | [], _, _, h, _ => by cases h; exact .nil
  | d :: ds, n, _, h, s => by
    cases h with | cons h1 h2 => exact .cons (Ho.dp e d n h1 (s d List.mem_cons_self)) (HoL.dp e ds n h2 fun x hx => s x (List.mem_cons_of_mem _ hx))
end
mutual
theorem py_lay : ∀ (d : D) (n : Nat), sh n d = true → (py d).canLay0 = true ∧ (py d).depth ≤ n
  | .non, n, _ => ⟨rfl, Nat.zero_le _⟩
  | .bl _, n, _ => ⟨rfl, Nat.zero_le _⟩
  | .int _, n, _ => ⟨rfl, Nat.zero_le _⟩
  | .str s, n, h => ⟨by show (PyData.str s).canLay0 = true; simpa [sh] using h, Nat.zero_le _⟩
  | .tup xs, 0, h => by simp [sh] at h
  | .tup xs, n + 1, h => by
    have := pyL_lay xs n (by simpa [sh] using h)
    exact ⟨this.1, Nat.succ_le_succ this.2⟩
  | .lst xs, 0, h => by simp [sh] at h
  | .lst xs, n + 1, h => by
    have := pyL_lay xs n (by simpa [sh] using h)
    exact ⟨this.1, Nat.succ_le_succ this.2⟩
  | .scr _, _, h => by simp [sh] at h
  | .hd _, _, h => by simp [sh] at h
theorem pyL_lay : ∀ (ds : List D) (n : Nat), (∀ d ∈ ds, sh n d = true) → PyData.canLayAll0 (pyL ds) = true ∧ PyData.depthAll (pyL ds) ≤ n
  | [], n, _ => ⟨rfl, Nat.zero_le _⟩
  | d :: ds, n, h => by
    have h1 := py_lay d n (h d List.mem_cons_self)
    have h2 := pyL_lay ds n fun x hx => h x (List.mem_cons_of_mem _ hx)
    refine ⟨?_, Nat.max_le.mpr ⟨h1.2, h2.2⟩⟩
    show (PyData.canLay0 (py d) && PyData.canLayAll0 (pyL ds)) = true
    rw [h1.1, h2.1]; rfl
end
theorem py_shaped {d : D} {n : Nat} (h : sh n d = true) (hn : n ≤ 64) : SeqAt.shaped (py d) = true := by
  obtain ⟨h1, h2⟩ := py_lay d n h
  unfold SeqAt.shaped
  rw [h1, decide_eq_true (Nat.le_trans h2 hn)]; rfl
mutual
theorem py_eqv : ∀ (d e : D) (n m : Nat), sh n d = true → sh m e = true → PyData.eqv (py d) (py e) = eqv d e
  | .non, e, n, m, h1, h2 => by cases e <;> first | rfl | simp [sh] at h2
  | .bl _, e, n, m, h1, h2 => by cases e <;> first | rfl | simp [sh] at h2
  | .int _, e, n, m, h1, h2 => by cases e <;> first | rfl | simp [sh] at h2
  | .str _, e, n, m, h1, h2 => by cases e <;> first | rfl | simp [sh] at h2
  | .tup xs, e, n, m, h1, h2 => by
    cases n with
    | zero => simp [sh] at h1
    | succ n =>
      cases e with
      | tup ys =>
        cases m with
        | zero => simp [sh] at h2
        | succ m => exact pyL_eqv xs ys n m (by simpa [sh] using h1) (by simpa [sh] using h2)
      | _ => first | rfl | simp [sh] at h2
  | .lst xs, e, n, m, h1, h2 => by
    cases n with
    | zero => simp [sh] at h1
    | succ n =>
      cases e with
      | lst ys =>
        cases m with
        | zero => simp [sh] at h2
        | succ m => exact pyL_eqv xs ys n m (by simpa [sh] using h1) (by simpa [sh] using h2)
      | _ => first | rfl | simp [sh] at h2
  | .scr _, _, _, _, h1, _ => by simp [sh] at h1
  | .hd _, _, _, _, h1, _ => by simp [sh] at h1
theorem pyL_eqv : ∀ (ds es : List D) (n m : Nat), (∀ d ∈ ds, sh n d = true) → (∀ d ∈ es, sh m d = true) → PyData.eqvAll (pyL ds) (pyL es) = eqvL ds es
  | [], [], _, _, _, _ => rfl
  | [], _ :: _, _, _, _, _ => rfl
  | _ :: _, [], _, _, _, _ => rfl
  | d :: ds, e :: es, n, m, h1, h2 => by
    show (PyData.eqv (py d) (py e) && PyData.eqvAll (pyL ds) (pyL es)) = (eqv d e && eqvL ds es)
    rw [py_eqv d e n m (h1 d List.mem_cons_self) (h2 e List.mem_cons_self), pyL_eqv ds es n m (fun x hx => h1 x (List.mem_cons_of_mem _ hx)) fun x hx => h2 x (List.mem_cons_of_mem _ hx)]
end
theorem Ho.flatV {v : V} {d : D} (h : Ho K A B v d) (f : flat d = true) : L2.flatV v = true := by
  cases d <;> first | (cases h; rfl) | (simp [Pv.flat] at f)
theorem HoL.flatV {vs : List V} {ds : List D} (h : HoL K A B vs ds) (f : ds.all flat = true) : vs.all L2.flatV = true := by
  induction ds generalizing vs with
  | nil => cases h; rfl
  | cons d ds ih =>
    cases h with | cons h1 h2 =>
    rw [List.all_cons, Bool.and_eq_true] at f
    rw [List.all_cons, h1.flatV f.1, ih h2 f.2]; rfl
theorem Ho.eqV {v w : V} {d e : D} (h : Ho K A B v d) (h' : Ho K A B w e) (f : flat d = true) (f' : flat e = true) : L2.eqV v w = eqv d e := by
  cases d <;> first | (cases e <;> first | (cases h; cases h'; rfl) | (simp [Pv.flat] at f'; done)) | (simp [Pv.flat] at f; done)
end
end Pv

namespace Pv
open PySem PySem.Spec PyProof.Rows L2

section
variable {K : PySem.W.Frag} {O : Org} {A A' : List Addr} {B B' H H' : Hp} {σ : L2.St} {ρ : Env} {st : Sto} {T : List (Addr × List D)} {d : D} {v : V} {fr : Bool}
theorem EPost.val (R : Rel K O A B σ H ρ st T) (h : Ho K A B v d) : EPost K O σ T ρ st false d v A B H := by
  unfold EPost; rw [if_neg Bool.false_ne_true]; exact ⟨R, h⟩
theorem EPost.new {p : Addr} {vs : List V} {xs : List D} (R : Rel K O A B σ H ρ st T) (h : H p = none) (hv : HoL K A B vs xs) : EPost K O σ T ρ st true (.lst xs) (.ref p) A B (upd H p (.lst vs)) := by
  unfold EPost; rw [if_pos rfl]; exact ⟨p, xs, rfl, rfl, R.push h hv⟩
theorem EPost.tup {p : Addr} {vs : List V} {xs : List D} (R : Rel K O A B σ H ρ st T) (h : H p = none) (hv : HoL K A B vs xs) : EPost K O σ T ρ st false (.tup xs) (.ref p) A (upd B p (.tup vs)) (upd H p (.tup vs)) := by
  unfold EPost; rw [if_neg Bool.false_ne_true]
  exact ⟨R.new h, .tup (SqT.of upd_same) (hv.mono (Px.refl _) (Ex.new (R.bfresh h)))⟩
/-- a new list is frozen where none is wanted -/
theorem EPost.freeze (P : EPost K O σ T ρ st fr d v A B H) : ∃ B', Ex B B' ∧ Rel K O A B' σ H ρ st T ∧ Ho K A B' v d := by
  unfold EPost at P
  cases fr with
  | false =>
    rw [if_neg Bool.false_ne_true] at P
    exact ⟨B, Ex.refl _, P.1, P.2⟩
  | true =>
    rw [if_pos rfl] at P
    obtain ⟨a, xs, rfl, rfl, R⟩ := P
    obtain ⟨vs, R', h1, h2⟩ := R.freeze
    exact ⟨_, h2, R', h1⟩
end

/-! ## binary operators -/
def rD (K : PySem.W.Frag) (f : D → D → R1) : R2 := fun x y H Q => ∃ O A B σ ρ st T a b fr d, Rel K O A B σ H ρ st T ∧ Ho K A B x a ∧ Ho K A B y b ∧ f a b = some (fr, d) ∧
  ∀ v A' B' H', Px A A' → Ex B B' → EPost K O σ T ρ st fr d v A' B' H' → Q v H'
def rCm (K : PySem.W.Frag) (f : D → D → Option Bool) : R2 := fun x y H Q => ∃ A B a b t, Ex B H ∧ Ho K A B x a ∧ Ho K A B y b ∧ f a b = some t ∧ Q (.bl t) H
section
variable {X : Cx}
theorem CMulW_of {a b : Int} (ha : Big a) (hb : Big b) : CMulW a b := by
  unfold CMulW; unfold Big at ha hb; omega
theorem opR_add : OpR X (binaryOp .Add) (rD X.K addD) := by
  intro pins s σ H x y v u Q I rx ry h
  obtain ⟨O, A, B, σ', ρ, st, T, a, b, fr, d, R, hx, hy, e, q⟩ := h
  cases a with
  | int i =>
    cases b with
    | int j =>
      cases hx; cases hy; cases e
      exact op_add pins s σ H _ _ v u Q I rx ry ⟨i, j, rfl, rfl, q _ _ _ _ (Px.refl _) (Ex.refl _) (.val R (.int _))⟩
    | _ => cases e
  | str i =>
    cases b with
    | str j =>
      cases hx; cases hy
      simp only [addD] at e
      split at e
      · rename_i hl
        cases e
        exact op_add_str pins s σ H _ _ v u Q I rx ry ⟨i, j, rfl, rfl, lim_le hl, q _ _ _ _ (Px.refl _) (Ex.refl _) (.val R (.str _))⟩
      · cases e
    | _ => cases e
  | lst xs =>
    cases b with
    | lst ys =>
      simp only [addD] at e
      split at e
      · rename_i hl
        cases e
        obtain ⟨a1, rfl⟩ := hx.isLst
        obtain ⟨b1, rfl⟩ := hy.isLst
        obtain ⟨vs, _, h1, h2⟩ := hx.lstH R.ex
        obtain ⟨ws, _, h3, h4⟩ := hy.lstH R.ex
        refine op_cat pins s σ H _ _ v u Q I rx ry ⟨a1, b1, vs, ws, rfl, rfl, h1, h3, by rw [h2.length, h4.length]; exact lim_le hl, fun p hp => q _ _ _ _ (Px.refl _) (Ex.refl _) (.new R hp (h2.append h4))⟩
      · cases e
    | _ => cases e
  | tup xs =>
    cases b with
    | tup ys =>
      simp only [addD] at e
      split at e
      · rename_i hl
        cases e
        obtain ⟨a1, rfl⟩ := hx.isTup
        obtain ⟨b1, rfl⟩ := hy.isTup
        obtain ⟨vs, h1, h2⟩ := hx.tupH R.ex
        obtain ⟨ws, h3, h4⟩ := hy.tupH R.ex
        refine op_catA pins s σ H _ _ v u Q I rx ry ⟨a1, b1, vs, ws, rfl, rfl, h1, h3, by rw [h2.length, h4.length]; exact lim_le hl, fun z => ?_, fun _ z => ?_, fun _ _ p hp => q _ _ _ _ (Px.refl _) (Ex.new (R.bfresh hp)) (.tup R hp (h2.append h4))⟩
        · have z' := h2.nil_iff.mp z
          subst z'
          exact q _ _ _ _ (Px.refl _) (Ex.refl _) (.val R hy)
        · have z' := h4.nil_iff.mp z
          subst z'
          exact q _ _ _ _ (Px.refl _) (Ex.refl _) (.val R (by rw [List.append_nil]; exact hx))
      · cases e
    | _ => cases e
  | _ => cases b <;> cases e

/-! ### tuple * int -/
theorem mul_same (l : Addr) (items : Array Value) (n : Nat) (dd : Option Addr) (sl : Array (Option Value)) (x : Int) (u : Tok) (g0 : (decide (x < -(2 ^ 63)) || decide (x ≥ 2 ^ 63)) = false) (g1 : (items.isEmpty || x == 1) = true) :
    Meets (Builtin.«tuple.__mul__» ⟨[.ref l, .int x u], []⟩) (fun _ R s => s.heap.get? l = some { cls := .type "tuple", dict := dd, data := .seq items n, slots := sl } ∧ R (.ok (.ret (Value.ref l))) s) :=
  .of_wp fun prog w A R s h => by
    obtain ⟨hp, g, d, tk, os⟩ := s
    obtain ⟨hl, h⟩ := h
    have f1 := AutoSeq1.idx_int
    wp_walk using wpAny_loadPart' hl
    refine wpAny_ite_false (decide_eq_false (by rw [g0]; exact Bool.false_ne_true)) ?_
    wp_walk using wpAny_loadPart' hl
    exact ⟨_, rfl, h⟩
theorem mul_nothing (l : Addr) (items : Array Value) (n : Nat) (dd : Option Addr) (sl : Array (Option Value)) (x : Int) (u : Tok) (g0 : (decide (x < -(2 ^ 63)) || decide (x ≥ 2 ^ 63)) = false) (g1 : (items.isEmpty || x == 1) = false) (g2 : (decide (x ≤ 0) || items.isEmpty) = true) :
    Meets (Builtin.«tuple.__mul__» ⟨[.ref l, .int x u], []⟩) (fun _ R s => s.heap.get? l = some { cls := .type "tuple", dict := dd, data := .seq items n, slots := sl } ∧
      R (.ok (.ret (Value.ref s.heap.objs.size))) { s with heap := s.heap.push { cls := Value.type "tuple", data := Data.seq #[] }, toks := s.toks }) :=
  .of_wp fun prog w A R s h => by
    obtain ⟨hp, g, d, tk, os⟩ := s
    obtain ⟨hl, h⟩ := h
    have f1 := AutoSeq1.idx_int
    wp_walk using wpAny_loadPart' hl
    refine wpAny_ite_false (decide_eq_false (by simp only [g0]; decide)) ?_
    wp_walk using wpAny_loadPart' hl
    exact ⟨_, rfl, h⟩
theorem flat_size (its : List Value) (m : Nat) : (List.replicate m its).flatten.length = m * its.length := by
  induction m with
  | zero => simp
  | succ m ih => rw [List.replicate_succ, List.flatten_cons, List.length_append, ih, Nat.succ_mul, Nat.add_comm]
theorem opR_mul : OpR X (binaryOp .Mult) (rD X.K mulD) := by
  intro pins s σ H x y v u Q I rx ry h
  obtain ⟨O, A, B, σ', ρ, st, T, a, b, fr, d, R, hx, hy, e, q⟩ := h
  cases a with
  | int i =>
    cases b with
    | int j =>
      cases hx; cases hy
      simp only [mulD] at e
      split at e
      · rename_i hl
        cases e
        exact op_mulW pins s σ H _ _ v u Q I rx ry ⟨i, j, rfl, rfl, CMulW_of hl.1 hl.2, q _ _ _ _ (Px.refl _) (Ex.refl _) (.val R (.int _))⟩
      · cases e
    | _ => cases e
  | lst xs =>
    cases b with
    | int k =>
      simp only [mulD] at e
      split at e
      · rename_i hl
        obtain ⟨h1, h2, h3⟩ := hl
        cases e
        obtain ⟨a1, rfl⟩ := hx.isLst
        cases hy
        obtain ⟨vs, _, g1, g2⟩ := hx.lstH R.ex
        exact op_rep pins s σ H _ _ v u Q I rx ry ⟨a1, k, vs, rfl, rfl, g1, by omega, by omega, by rw [g2.length]; exact lim_le h3, fun p hp => q _ _ _ _ (Px.refl _) (Ex.refl _) (.new R hp (g2.replicate _))⟩
      · cases e
    | _ => cases e
  | tup xs =>
    cases b with
    | int k =>
      simp only [mulD] at e
      split at e
      · rename_i hl
        obtain ⟨b1, b2, b3⟩ := hl
        cases e
        obtain ⟨a1, rfl⟩ := hx.isTup
        cases hy
        obtain ⟨vs, g1, g2⟩ := hx.tupH R.ex
        cases rx
        obtain ⟨t, rfl⟩ := ry
        obtain ⟨its, r, ⟨⟨cls, dd, data, sl⟩, ho, hc, n, hd⟩, hs⟩ := I.tuple g1
        simp only at hc hd
        subst hc hd
        have hle : its.length = xs.length := by rw [← g2.length]; exact r.length.symm
        have c0 : (decide (k < -(2 ^ 63)) || decide (k ≥ 2 ^ 63)) = false := by
          rw [Bool.or_eq_false_iff]; exact ⟨decide_eq_false (by omega), decide_eq_false (by omega)⟩
        -- the road to the method
        refine wpAny_binaryOp_repeat_ref (T := "tuple") (U := "int") (by decide) ⟨_, ho, rfl⟩ (fun s' => typeIs_int s' k t) noFill_tuple_mul F.fills_int_mul F.slot_int_rmul repeat_tuple F.slot_int_index.lookup
          (call_meets F.slot_int_rmul (typeIs_int s k t) F.entry_int_rmul (F.args_int_rmul_2 _ _) (int_rmul_tuple k t a1 its.toArray n dd sl) ⟨ho, rfl, ⟨_, ho, rfl⟩, ?_⟩)
        by_cases c1 : (its.toArray.isEmpty || k == 1) = true
        · refine call_meets F.slot_tuple_mul ⟨_, ho, rfl⟩ F.entry_tuple_mul (F.args_tuple_mul_2 _ _) (mul_same a1 its.toArray n dd sl k t c0 c1) ⟨ho, ?_⟩
          refine ⟨.ref a1, H, I, rfl, q _ _ _ _ (Px.refl _) (Ex.refl _) (.val R ?_)⟩
          rw [Bool.or_eq_true] at c1
          rcases c1 with c1 | c1
          · have : its = [] := by simpa using c1
            rw [this] at hle
            have : xs = [] := List.length_eq_zero_iff.mp hle.symm
            subst this
            simpa using hx
          · have : k = 1 := by simpa using c1
            subst this
            simpa using hx
        · have c1 : (its.toArray.isEmpty || k == 1) = false := by simpa using c1
          by_cases c2 : (decide (k ≤ 0) || its.toArray.isEmpty) = true
          · refine call_meets F.slot_tuple_mul ⟨_, ho, rfl⟩ F.entry_tuple_mul (F.args_tuple_mul_2 _ _) (mul_nothing a1 its.toArray n dd sl k t c0 c1 c2) ⟨ho, ?_⟩
            have k0 : k ≤ 0 := by
              rw [Bool.or_eq_true] at c2
              rw [Bool.or_eq_false_iff] at c1
              rcases c2 with c2 | c2
              · exact of_decide_eq_true c2
              · rw [c1.1] at c2; cases c2
            have e0 : (List.replicate k.toNat xs).flatten = [] := by
              rw [show k.toNat = 0 by omega]; rfl
            have hn : H s.heap.objs.size = none := I.hok.fresh (Nat.le_refl _)
            refine ⟨.ref s.heap.objs.size, _, I.laid (t' := s.toks) (o := .tup []) (fun b ob q => Heap.get?_push_of_some _ q) (Nat.le_refl _) ?_, rfl, q _ A _ _ (Px.refl _) (Ex.new (R.bfresh hn)) (by rw [e0]; exact .tup R hn .nil)⟩
            exact ⟨Nat.zero_le _, [], .nil, IsTup.new _ _⟩
          · have c2 : (decide (k ≤ 0) || its.toArray.isEmpty) = false := by simpa using c2
            have k1 : 0 < k := by
              rw [Bool.or_eq_false_iff] at c2
              have := of_decide_eq_false c2.1
              omega
            have hsz0 : its.toArray.size = xs.length := by rw [List.size_toArray, hle]
            have hmul : ((its.toArray.size : Nat) : Int) * k ≤ 16000000 := by
              have b3' : xs.length * k.toNat ≤ 16000000 := b3
              have ek : k = ((k.toNat : Nat) : Int) := by omega
              rw [hsz0, ek, ← Int.natCast_mul]
              exact Int.ofNat_le.mpr b3'
            have flen : (List.replicate k.toNat its).flatten.length ≤ sizeLine := by
              rw [flat_size, hle, Nat.mul_comm]; exact lim_le b3
            have c4 : Builtin.Tuple.tupleTooMany (((its.toArray.size : Nat) : Int) * k) = false := by
              unfold Builtin.Tuple.tupleTooMany
              rw [sizeLine_eq]
              exact decide_eq_false (by omega)
            refine call_meets F.slot_tuple_mul ⟨_, ho, rfl⟩ F.entry_tuple_mul (F.args_tuple_mul_2 _ _) (tuple_mulW a1 its.toArray n dd sl k t c0 c1 c2 (by omega) c4 (by rw [size_rep, List.size_toArray]; exact flen)) ⟨ho, ?_⟩
            rw [size_rep]
            have hn : H s.heap.objs.size = none := I.hok.fresh (Nat.le_refl _)
            refine ⟨.ref s.heap.objs.size, _, I.laid (t' := s.toks) (o := .tup (List.replicate k.toNat vs).flatten) (fun b ob q => Heap.get?_push_of_some _ q) (Nat.le_refl _) ?_, rfl, q _ A _ _ (Px.refl _) (Ex.new (R.bfresh hn)) (.tup R hn (g2.replicate _))⟩
            exact ⟨by rw [(r.rep k.toNat).length]; exact flen, _, r.rep k.toNat, IsTup.new _ _⟩
      · cases e
    | _ => cases e
  | _ => cases b <;> cases e
theorem opR_all (o : Operator) : OpR X (binaryOp o) (rD X.K (opD o)) := by
  cases o with
  | Add => exact opR_add
  | Mult => exact opR_mul
  | Sub =>
    intro pins s σ H x y v u Q I rx ry h
    obtain ⟨O, A, B, σ', ρ, st, T, a, b, fr, d, R, hx, hy, e, q⟩ := h
    cases a with
    | int i =>
      cases b with
      | int j =>
        cases hx; cases hy; cases e
        exact op_sub pins s σ H _ _ v u Q I rx ry ⟨i, j, rfl, rfl, q _ _ _ _ (Px.refl _) (Ex.refl _) (.val R (.int _))⟩
      | _ => cases e
    | _ => cases b <;> cases e
  | FloorDiv =>
    intro pins s σ H x y v u Q I rx ry h
    obtain ⟨O, A, B, σ', ρ, st, T, a, b, fr, d, R, hx, hy, e, q⟩ := h
    cases a with
    | int i =>
      cases b with
      | int j =>
        cases hx; cases hy
        simp only [opD] at e
        split at e
        · rename_i hl
          cases e
          exact op_fdivW pins s σ H _ _ v u Q I rx ry ⟨i, j, rfl, rfl, hl, q _ _ _ _ (Px.refl _) (Ex.refl _) (.val R (.int _))⟩
        · cases e
      | _ => cases e
    | _ => cases b <;> cases e
  | Mod =>
    intro pins s σ H x y v u Q I rx ry h
    obtain ⟨O, A, B, σ', ρ, st, T, a, b, fr, d, R, hx, hy, e, q⟩ := h
    cases a with
    | int i =>
      cases b with
      | int j =>
        cases hx; cases hy
        simp only [opD] at e
        split at e
        · rename_i hl
          cases e
          exact op_mod pins s σ H _ _ v u Q I rx ry ⟨i, j, rfl, rfl, hl, q _ _ _ _ (Px.refl _) (Ex.refl _) (.val R (.int _))⟩
        · cases e
      | _ => cases e
    | _ => cases b <;> cases e
  | Pow =>
    intro pins s σ H x y v u Q I rx ry h
    obtain ⟨O, A, B, σ', ρ, st, T, a, b, fr, d, R, hx, hy, e, q⟩ := h
    cases a with
    | int i =>
      cases b with
      | int j =>
        cases hx; cases hy
        simp only [opD] at e
        split at e
        · rename_i hl
          cases e
          refine op_pow pins s σ H _ _ v u Q I rx ry ⟨i, j, rfl, rfl, ⟨hl.1, hl.2.1, by have := hl.2.2; omega⟩, q _ _ _ _ (Px.refl _) (Ex.refl _) (.val R (.int _))⟩
        · cases e
      | _ => cases e
    | _ => cases b <;> cases e
  | _ =>
    intro pins s σ H x y v u Q I rx ry h
    obtain ⟨O, A, B, σ', ρ, st, T, a, b, fr, d, R, hx, hy, e, q⟩ := h
    cases a <;> cases b <;> cases e
end
end Pv

namespace Pv
open PySem PySem.Spec PyProof.Rows L2

/-! ## comparisons -/
section
variable {X : Cx}
theorem ho_non {K : PySem.W.Frag} {A : List Addr} {B : Hp} {x : V} {a : D} (h : Ho K A B x a) : decide (x = V.non) = (match a with | .non => true | _ => false) := by
  cases h <;> simp
theorem is_bl_other {x : V} {v : Value} {b : Bool} (r : RelV x v) (hx : ∀ c, x ≠ .bl c) (hf : ∀ f, x ≠ .flt f) : plainIs v (.bool b) = true ∧ v ≠ .bool b := by
  cases x with
  | bl c => exact absurd rfl (hx c)
  | non => cases r; exact ⟨rfl, by simp⟩
  | int i => obtain ⟨t, rfl⟩ := r; exact ⟨rfl, by simp⟩
  | str i => obtain ⟨t, rfl⟩ := r; exact ⟨rfl, by simp⟩
  | byt i => obtain ⟨t, rfl⟩ := r; exact ⟨rfl, by simp⟩
  | flt i => obtain ⟨t, rfl⟩ := r; exact ⟨rfl, by simp⟩
  | ref i => cases r; exact ⟨rfl, by simp⟩
  | ty i => cases r; exact ⟨rfl, by simp⟩
theorem ho_notbl {K : PySem.W.Frag} {A : List Addr} {B : Hp} {x : V} {a : D} (h : Ho K A B x a) (ha : ∀ c, a ≠ .bl c) : ∀ c, x ≠ .bl c := by
  intro c e; subst e; cases h; exact ha _ rfl
theorem ho_notflt {K : PySem.W.Frag} {A : List Addr} {B : Hp} {x : V} {a : D} (h : Ho K A B x a) : ∀ c, x ≠ .flt c := by
  intro c e; subst e; cases h
theorem inV_of {K : PySem.W.Frag} {A : List Addr} {B : Hp} {x : V} {a : D} {vs : List V} {ds : List D} (h : Ho K A B x a) (fa : flat a = true) (hl : HoL K A B vs ds) (fl : ds.all flat = true) : inV x vs = ds.any fun y => eqv y a := by
  unfold inV
  induction ds generalizing vs with
  | nil => cases hl; rfl
  | cons d ds ih =>
    cases hl with | cons h1 h2 =>
    rw [all_cons_iff] at fl
    rw [List.any_cons, List.any_cons, ih h2 fl.2, h1.eqV h fl.1 fa]
theorem opR_cmp (o : CmpOp) (hu : X.A.units + 64 < cLine) : OpR X (compareOp o) (rCm X.K (cmpD o)) := by
  intro pins s σ H x y v u Q I rx ry h
  obtain ⟨A, B, a, b, t, ex, hx, hy, e, q⟩ := h
  have isq : ∀ neg : Bool, ((seqOf b).bind (inD a)) = some (if neg then !t else t) → rIn X.K neg x y H Q := fun neg e => by
    cases b with
    | lst ys =>
      obtain ⟨p, rfl⟩ := hy.isLst
      obtain ⟨vs, _, h1, h2⟩ := hy.lstH ex
      simp only [seqOf, Option.bind_some, inD] at e
      split at e
      · rename_i f
        rw [Bool.and_eq_true] at f
        refine ⟨p, vs, rfl, .inl (SqL.of h1), hx.flatV f.1, h2.flatV f.2, ?_⟩
        rw [inV_of hx f.1 h2 f.2, Option.some.inj e]
        cases neg <;> simpa using q
      · cases e
    | tup ys =>
      obtain ⟨p, rfl⟩ := hy.isTup
      obtain ⟨vs, h1, h2⟩ := hy.tupH ex
      simp only [seqOf, Option.bind_some, inD] at e
      split at e
      · rename_i f
        rw [Bool.and_eq_true] at f
        refine ⟨p, vs, rfl, .inr h1, hx.flatV f.1, h2.flatV f.2, ?_⟩
        rw [inV_of hx f.1 h2 f.2, Option.some.inj e]
        cases neg <;> simpa using q
      · cases e
    | _ => cases e
  cases o with
  | Lt =>
    cases a <;> cases b <;> first
      | (cases hx; cases hy; cases e; exact op_lt pins s σ H _ _ v u Q I rx ry ⟨_, _, rfl, rfl, q⟩)
      | cases e
  | LtE =>
    cases a <;> cases b <;> first
      | (cases hx; cases hy; cases e; exact op_le pins s σ H _ _ v u Q I rx ry ⟨_, _, rfl, rfl, q⟩)
      | cases e
  | Gt =>
    cases a <;> cases b <;> first
      | (cases hx; cases hy; cases e; exact op_gt pins s σ H _ _ v u Q I rx ry ⟨_, _, rfl, rfl, q⟩)
      | cases e
  | GtE =>
    cases a <;> cases b <;> first
      | (cases hx; cases hy; cases e; exact op_ge pins s σ H _ _ v u Q I rx ry ⟨_, _, rfl, rfl, q⟩)
      | cases e
  | Eq =>
    simp only [cmpD] at e
    split at e
    · rename_i f
      rw [Bool.and_eq_true] at f
      cases e
      exact op_eqD hu pins s σ H x y v u Q I rx ry ⟨_, _, hx.dp ex _ _ f.1, hy.dp ex _ _ f.2, py_shaped f.1 (by decide), py_shaped f.2 (by decide), by rw [py_eqv _ _ _ _ f.1 f.2]; exact q⟩
    · cases e
  | NotEq =>
    simp only [cmpD] at e
    split at e
    · rename_i f
      rw [Bool.and_eq_true] at f
      cases e
      exact op_neD hu pins s σ H x y v u Q I rx ry ⟨_, _, hx.dp ex _ _ f.1, hy.dp ex _ _ f.2, py_shaped f.1 (by decide), py_shaped f.2 (by decide), by rw [py_eqv _ _ _ _ f.1 f.2]; exact q⟩
    · cases e
  | Is =>
    cases b with
    | non =>
      cases hy
      have e' : t = decide (x = V.non) := by rw [ho_non hx]; cases a <;> (cases e; rfl)
      exact op_isN pins s σ H x _ v u Q I rx ry ⟨rfl, by rw [← e']; exact q⟩
    | bl c =>
      cases hy
      cases ry
      cases a with
      | bl d =>
        cases hx
        refine op_isBl pins s σ H (.bl d) (.bl c) v _ Q I rx rfl ⟨d, c, rfl, rfl, ?_⟩
        have e' : t = decide (d = c) := by cases e; cases d <;> cases c <;> rfl
        rw [← e']; exact q
      | _ =>
        obtain ⟨p1, p2⟩ := is_bl_other (b := c) rx (ho_notbl hx (by intro _ z; cases z)) (ho_notflt hx)
        cases e
        exact wpAny_is_other p1 p2 ⟨.bl false, H, I, rfl, q⟩
    | _ => cases e
  | IsNot =>
    cases b with
    | non =>
      cases hy
      have e' : t = !decide (x = V.non) := by rw [ho_non hx]; cases a <;> (cases e; rfl)
      exact op_notN pins s σ H x _ v u Q I rx ry ⟨rfl, by rw [← e']; exact q⟩
    | bl c =>
      cases hy
      cases ry
      cases a with
      | bl d =>
        cases hx
        refine op_notBl pins s σ H (.bl d) (.bl c) v _ Q I rx rfl ⟨d, c, rfl, rfl, ?_⟩
        have e' : t = !decide (d = c) := by cases e; cases d <;> cases c <;> rfl
        rw [← e']; exact q
      | _ =>
        obtain ⟨p1, p2⟩ := is_bl_other (b := c) rx (ho_notbl hx (by intro _ z; cases z)) (ho_notflt hx)
        cases e
        exact wpAny_isNot_other p1 p2 ⟨.bl true, H, I, rfl, q⟩
    | _ => cases e
  | In => exact op_in_seq pins s σ H x y v u Q I rx ry (isq false (by simpa [cmpD] using e))
  | NotIn =>
    refine op_notIn_seq pins s σ H x y v u Q I rx ry (isq true ?_)
    simp only [cmpD] at e
    cases z : (seqOf b).bind (inD a) with
    | none => rw [z] at e; cases e
    | some t' => rw [z] at e; cases e; simp

/-! ## items, slices -/
theorem atI_ho {K : PySem.W.Frag} {A : List Addr} {B : Hp} {vs : List V} {ds : List D} {i : Int} {d : D} (h : HoL K A B vs ds) (e : atI ds i = some d) : ∃ v, atI vs i = some v ∧ Ho K A B v d := by
  unfold atI at e ⊢
  rw [h.length]
  cases z : ixN ds.length i with
  | none => rw [z] at e; cases e
  | some j =>
    rw [z] at e
    obtain ⟨v, h1, h2⟩ := h.get e
    exact ⟨v, h1, h2⟩
/-- an item of what stands at x: from a frozen thing, or what a role holds -/
def rItem (K : PySem.W.Frag) : R2 := fun x y H Q => ∃ A B i, y = .int i ∧
  ((∃ p vs ds d, x = .ref p ∧ (SqL K H p vs ∨ SqT K H p vs) ∧ HoL K A B vs ds ∧ atI ds i = some d ∧ ∀ v, Ho K A B v d → Q v H) ∨
   (∃ s c, x = .str s ∧ s.length ≤ lim ∧ atI s.cps.toList i = some c ∧ Q (.str ⟨#[c]⟩) H))
theorem ixR_item : IxR X (rItem X.K) := by
  intro value slice pins s σ H x y v u Q I rx ry h hs
  obtain ⟨A, B, i, rfl, h⟩ := h
  rcases h with ⟨p, vs, ds, d, rfl, hq, hl, e, q⟩ | ⟨z, c, rfl, hz, e, q⟩
  · obtain ⟨w, e1, e2⟩ := atI_ho hl e
    rcases hq with hq | hq
    · exact ix_list value slice pins s σ H _ _ v u Q I rx ry ⟨p, vs, i, w, rfl, rfl, hq, e1, q w e2⟩ hs
    · exact ix_tup value slice pins s σ H _ _ v u Q I rx ry ⟨p, vs, i, w, rfl, rfl, hq, e1, q w e2⟩ hs
  · exact ix_str value slice pins s σ H _ _ v u Q I rx ry ⟨z, i, c, rfl, rfl, lim_le hz, e, q⟩ hs
theorem cut_ho {K : PySem.W.Frag} {A : List Addr} {B : Hp} {vs : List V} {ds : List D} (h : HoL K A B vs ds) (lo hi : Option Int) : HoL K A B (cutV vs lo hi) (cutD ds lo hi) := by
  unfold cutV cutD
  rw [h.length]
  exact (h.drop _).take _
theorem cut_ints {K : PySem.W.Frag} {A : List Addr} {B : Hp} (ns : List Int) (lo hi : Option Int) : HoL K A B (cutV (ns.map V.int) lo hi) ((cutI ns lo hi).map D.int) := by
  unfold cutV cutI
  rw [List.length_map, ← List.map_drop, ← List.map_take]
  exact HoL.of_ints
def rSl (K : PySem.W.Frag) : V → Option Int → Option Int → Hp → VK → Prop := fun x lo hi H Q => ∃ O A B σ ρ st T a fr d, Rel K O A B σ H ρ st T ∧ Ho K A B x a ∧ slD a lo hi = some (fr, d) ∧
  ∀ v A' B' H', Px A A' → Ex B B' → EPost K O σ T ρ st fr d v A' B' H' → Q v H'
theorem slR_all : SlR X (rSl X.K) := by
  intro pins s σ H x v vl vu lo hi sl Q I rx hs pl pu h
  obtain ⟨O, A, B, σ', ρ, st, T, a, fr, d, R, hx, e, q⟩ := h
  cases a with
  | lst xs =>
    cases e
    obtain ⟨p, rfl⟩ := hx.isLst
    obtain ⟨vs, _, h1, h2⟩ := hx.lstH R.ex
    exact sl_list pins s σ H _ v vl vu lo hi sl Q I rx hs pl pu ⟨p, vs, rfl, SqL.of h1, fun c hc => q _ _ _ _ (Px.refl _) (Ex.refl _) (.new R hc (cut_ho h2 lo hi))⟩
  | tup xs =>
    cases e
    obtain ⟨p, rfl⟩ := hx.isTup
    obtain ⟨vs, h1, h2⟩ := hx.tupH R.ex
    refine sl_tupA pins s σ H _ v vl vu lo hi sl Q I rx hs pl pu ⟨p, vs, rfl, h1, fun hw => q _ _ _ _ (Px.refl _) (Ex.refl _) (.val R ?_), fun _ c hc => q _ _ _ _ (Px.refl _) (Ex.new (R.bfresh hc)) (.tup R hc (cut_ho h2 lo hi))⟩
    rw [h2.length] at hw
    have e : cutD xs lo hi = xs := by
      unfold cutD
      rw [hw.1, hw.2]; simp
    rw [e]; exact hx
  | scr ns =>
    cases e
    cases hx with | scr h1 =>
    exact sl_list pins s σ H _ v vl vu lo hi sl Q I rx hs pl pu ⟨_, _, rfl, ex_l R.ex h1, fun c hc => q _ _ _ _ (Px.refl _) (Ex.refl _) (.new R hc (cut_ints ns lo hi))⟩
  | _ => cases e

/-! ## methods -/
def mtId : Mt → String
  | .append => "list.append" | .pop => "list.pop" | .popAt => "list.pop" | .extend => "list.extend"
def rMt (K : PySem.W.Frag) (m : Mt) : V → List V → Hp → VK → Prop := fun x xs H Q => ∃ A B a vs ys ds d ys', x = .ref a ∧ Ex B H ∧ B a = none ∧ H a = some (.lst vs) ∧ HoL K A B vs ys ∧ HoL K A B xs ds ∧ mtD m ys ds = some (d, ys') ∧
  ∀ v ws, Ho K A B v d → HoL K A B ws ys' → Q v (upd H a (.lst ws))
theorem mtR_all (m : Mt) : MtR X (mtId m) (rMt X.K m) := by
  intro pins s σ H x xs v us Q I rx rs h
  obtain ⟨A, B, a, vs, ys, ds, d, ys', rfl, ex, hb, ha, hv, hx, e, q⟩ := h
  have hsz : vs.length ≤ sizeLine := (I.lstM ha).1
  cases m with
  | append =>
    cases hx with
    | nil => cases e
    | cons h1 h2 =>
      cases h2 with
      | cons _ _ => cases e
      | nil =>
        simp only [mtD] at e
        split at e
        · rename_i hl
          cases e
          exact mt_append pins s σ H _ _ v us Q I rx rs ⟨a, vs, _, rfl, rfl, ha, by rw [hv.length]; exact lim_lt hl, q _ _ .non (hv.append (.cons h1 .nil))⟩
        · cases e
  | pop =>
    cases hx with
    | cons _ _ => cases e
    | nil =>
      simp only [mtD] at e
      cases z : ys[ys.length - 1]? with
      | none => rw [z] at e; cases e
      | some d' =>
        rw [z] at e; cases e
        obtain ⟨w, h1, h2⟩ := hv.get z
        exact mt_pop pins s σ H _ _ v us Q I rx rs ⟨a, vs, w, rfl, rfl, ha, by rw [hv.length]; exact h1, q _ _ h2 hv.dropLast⟩
  | popAt =>
    cases hx with
    | nil => cases e
    | cons h1 h2 =>
      cases h2 with
      | cons _ _ => cases h1 <;> cases e
      | nil =>
        cases h1 with
        | int i =>
          simp only [mtD] at e
          cases z : ixN ys.length i with
          | none => rw [z] at e; cases e
          | some k =>
            rw [z] at e
            simp only [Option.bind_some] at e
            cases z2 : ys[k]? with
            | none => rw [z2] at e; cases e
            | some d' =>
              rw [z2] at e; cases e
              obtain ⟨w, h3, h4⟩ := hv.get z2
              obtain ⟨k1, k2, k3, k4⟩ := ixN_seq z
              rw [sizeLine_eq] at hsz
              rw [← hv.length] at k1 k2 k3 k4
              exact mt_popAt pins s σ H _ _ v us Q I rx rs ⟨a, vs, i, k, w, rfl, rfl, ha, by omega, by omega, k1, h3, q _ _ h4 (hv.eraseIdx k)⟩
        | _ => cases e
  | extend =>
    cases hx with
    | nil => cases e
    | cons h1 h2 =>
      cases h2 with
      | cons _ _ => cases h1 <;> cases e
      | nil =>
        cases h1 with
        | lst hB hL =>
          simp only [mtD] at e
          split at e
          · rename_i hl
            cases e
            exact mt_extend pins s σ H _ _ v us Q I rx rs ⟨a, _, vs, _, rfl, rfl, ha, ex _ _ hB, by rw [hv.length, hL.length]; exact lim_le hl, q _ _ .non (hv.append hL)⟩
          · cases e
        | _ => cases e
/-! ## truth -/
theorem tru_ho {K : PySem.W.Frag} {A : List Addr} {B H : Hp} {x : V} {a : D} {t : Bool} (ex : Ex B H) (h : Ho K A B x a) (e : truD a = some t) : TruV K x H t := by
  cases a with
  | non => cases h; cases e; rfl
  | bl b => cases h; cases e; rfl
  | int i => cases h; cases e; rfl
  | str s =>
    cases h
    simp only [truD] at e
    split at e
    · rename_i hl
      cases e
      refine ⟨lim_le hl, ?_⟩
      cases s.length with
      | zero => rfl
      | succ n => 
        have h1 : (n + 1 != 0) = true := by simp
        have h2 : (((n + 1 : Nat) : Int) != 0) = true := by simp; omega
        rw [h1, h2]
    · cases e
  | lst xs =>
    obtain ⟨p, rfl⟩ := h.isLst
    obtain ⟨vs, _, h1, h2⟩ := h.lstH ex
    cases e
    refine .inl ⟨vs, SqL.of h1, ?_⟩
    cases h2 <;> rfl
  | tup xs =>
    obtain ⟨p, rfl⟩ := h.isTup
    obtain ⟨vs, h1, h2⟩ := h.tupH ex
    cases e
    refine .inr (.inl ⟨vs, h1, ?_⟩)
    cases h2 <;> rfl
  | _ => cases e
end
end Pv

namespace Pv
open PySem PySem.Spec PyProof.Rows L2
section
variable {X : Cx}
/-! ## built-in functions -/
def rBi (K : PySem.W.Frag) (b : Bi) : List V → Hp → VK → Prop := fun xs H Q => ∃ O A B σ ρ st T ds fr d, Rel K O A B σ H ρ st T ∧ HoL K A B xs ds ∧ biD st b ds = some (fr, d) ∧
  ∀ v A' B' H', Px A A' → Ex B B' → EPost K O σ T ρ st fr d v A' B' H' → Q v H'
theorem HoL.one {K : PySem.W.Frag} {A : List Addr} {B : Hp} {vs : List V} {d : D} (h : HoL K A B vs [d]) : ∃ v, vs = [v] ∧ Ho K A B v d := by
  cases h with | cons h1 h2 => cases h2; exact ⟨_, rfl, h1⟩
theorem HoL.two {K : PySem.W.Frag} {A : List Addr} {B : Hp} {vs : List V} {d e : D} (h : HoL K A B vs [d, e]) : ∃ v w, vs = [v, w] ∧ Ho K A B v d ∧ Ho K A B w e := by
  cases h with | cons h1 h2 => obtain ⟨w, rfl, h3⟩ := h2.one; exact ⟨_, w, rfl, h1, h3⟩
theorem intsOf_map : ∀ {ds : List D} {ns : List Int}, intsOf ds = some ns → ds = ns.map D.int
  | [], ns, h => by cases h; rfl
  | .int i :: ds, ns, h => by
    simp only [intsOf] at h
    cases z : intsOf ds with
    | none => rw [z] at h; cases h
    | some ms => rw [z] at h; cases h; rw [intsOf_map z]; rfl
  | .non :: _, _, h => by cases h
  | .bl _ :: _, _, h => by cases h
  | .str _ :: _, _, h => by cases h
  | .tup _ :: _, _, h => by cases h
  | .lst _ :: _, _, h => by cases h
  | .scr _ :: _, _, h => by cases h
  | .hd _ :: _, _, h => by cases h
theorem len_ho {K : PySem.W.Frag} {O : Org} {A : List Addr} {B H : Hp} {σ : L2.St} {ρ : Env} {st : Sto} {T : List (Addr × List D)} {x : V} {a : D} {n : Nat} (R : Rel K O A B σ H ρ st T) (h : Ho K A B x a) (e : lenD st a = some n) : LenV K x H n := by
  cases a with
  | str s =>
    cases h
    simp only [lenD] at e
    split at e
    · rename_i hl
      cases e; exact ⟨lim_le hl, rfl⟩
    · cases e
  | lst xs =>
    obtain ⟨p, rfl⟩ := h.isLst
    obtain ⟨vs, _, h1, h2⟩ := h.lstH R.ex
    cases e
    exact .inl ⟨vs, SqL.of h1, h2.length.symm⟩
  | tup xs =>
    obtain ⟨p, rfl⟩ := h.isTup
    obtain ⟨vs, h1, h2⟩ := h.tupH R.ex
    cases e
    exact .inr ⟨vs, h1, h2.length.symm⟩
  | hd m =>
    cases h with | hd ha =>
    simp only [lenD] at e
    cases z : st[m]? with
    | none => rw [z] at e; cases e
    | some ys =>
      rw [z] at e; cases e
      obtain ⟨a', e', _, vs, h1, h2⟩ := R.own (.h m) ys z
      simp only [adr] at e'
      rw [ha] at e'; cases e'
      exact .inl ⟨vs, SqL.of h1, h2.length.symm⟩
  | _ => cases e
def biVal : Bi → Value
  | .abs => .builtin "abs" | .int => .type "int" | .len => .builtin "len" | .sum => .builtin "sum" | .min2 => .builtin "min" | .max2 => .builtin "max" | .tuple => .type "tuple" | .list => .type "list" | .sorted => .builtin "sorted" | .min1 => .builtin "min" | .max1 => .builtin "max"
theorem callR_all (hc : X.calm = true) (b : Bi) : CallR X (biVal b) (rBi X.K b) := by
  intro pins s σ H xs us Q I r h
  obtain ⟨O, A, B, σ', ρ, st, T, ds, fr, d, R, hx, e, q⟩ := h
  have q0 := fun v h => q v A B H (Px.refl _) (Ex.refl _) h
  cases b with
  | abs =>
    match ds, hx, e with
    | [.int i], hx, e =>
      obtain ⟨v, rfl, h⟩ := hx.one
      cases h; cases e
      exact call_abs pins s σ H _ us Q I r ⟨i, rfl, q0 _ (.val R (.int _))⟩
  | int =>
    match ds, hx, e with
    | [.int i], hx, e =>
      obtain ⟨v, rfl, h⟩ := hx.one
      cases h; cases e
      exact call_int1 pins s σ H _ us Q I r (.inl ⟨i, rfl, q0 _ (.val R (.int _))⟩)
    | [.bl k], hx, e =>
      obtain ⟨v, rfl, h⟩ := hx.one
      cases h; cases e
      exact call_int1 pins s σ H _ us Q I r (.inr ⟨k, rfl, q0 _ (.val R (.int _))⟩)
  | len =>
    match ds, hx, e with
    | [x], hx, e =>
      obtain ⟨v, rfl, h⟩ := hx.one
      simp only [biD] at e
      cases z : lenD st x with
      | none => rw [z] at e; cases e
      | some n =>
        rw [z] at e; cases e
        exact call_len pins s σ H _ us Q I r ⟨v, n, rfl, len_ho R h z, q0 _ (.val R (.int _))⟩
  | sum =>
    match ds, hx, e with
    | [x], hx, e =>
      obtain ⟨v, rfl, h⟩ := hx.one
      cases x with
      | lst ys =>
        simp only [biD, seqOf, Option.bind_some] at e
        cases z : intsOf ys with
        | none => rw [z] at e; cases e
        | some ns =>
          rw [z] at e; cases e
          have z' := intsOf_map z
          subst z'
          obtain ⟨p, rfl⟩ := h.isLst
          obtain ⟨vs, _, h1, h2⟩ := h.lstH R.ex
          have := h2.ints
          subst this
          exact cr_sum hc pins s σ H _ us Q I r ⟨p, ns, rfl, SqL.of h1, q0 _ (.val R (.int _))⟩
      | tup ys =>
        simp only [biD, seqOf, Option.bind_some] at e
        cases z : intsOf ys with
        | none => rw [z] at e; cases e
        | some ns =>
          rw [z] at e; cases e
          have z' := intsOf_map z
          subst z'
          obtain ⟨p, rfl⟩ := h.isTup
          obtain ⟨vs, h1, h2⟩ := h.tupH R.ex
          have := h2.ints
          subst this
          exact cr_sumT hc pins s σ H _ us Q I r ⟨p, ns, rfl, h1, q0 _ (.val R (.int _))⟩
      | _ => cases e
  | min2 =>
    match ds, hx, e with
    | [.int i, .int j], hx, e =>
      obtain ⟨v, w, rfl, h, h'⟩ := hx.two
      cases h; cases h'; cases e
      exact call_min2 hc pins s σ H _ us Q I r ⟨i, j, rfl, q0 _ (.val R (.int _))⟩
  | max2 =>
    match ds, hx, e with
    | [.int i, .int j], hx, e =>
      obtain ⟨v, w, rfl, h, h'⟩ := hx.two
      cases h; cases h'; cases e
      exact call_max2 hc pins s σ H _ us Q I r ⟨i, j, rfl, q0 _ (.val R (.int _))⟩
  | tuple =>
    match ds, hx, e with
    | [.lst ys], hx, e =>
      obtain ⟨v, rfl, h⟩ := hx.one
      cases e
      obtain ⟨p, rfl⟩ := h.isLst
      obtain ⟨vs, _, h1, h2⟩ := h.lstH R.ex
      exact call_tuple_of pins s σ H _ us Q I r ⟨p, vs, rfl, .inl ⟨SqL.of h1, fun l hl => q _ _ _ _ (Px.refl _) (Ex.new (R.bfresh hl)) (.tup R hl h2)⟩⟩
    | [.tup ys], hx, e =>
      obtain ⟨v, rfl, h⟩ := hx.one
      cases e
      obtain ⟨p, rfl⟩ := h.isTup
      obtain ⟨vs, h1, h2⟩ := h.tupH R.ex
      exact call_tuple_of pins s σ H _ us Q I r ⟨p, vs, rfl, .inr ⟨h1, q0 _ (.val R h)⟩⟩
  | list =>
    match ds, hx, e with
    | [.lst ys], hx, e =>
      obtain ⟨v, rfl, h⟩ := hx.one
      cases e
      obtain ⟨p, rfl⟩ := h.isLst
      obtain ⟨vs, _, h1, h2⟩ := h.lstH R.ex
      exact call_list_of pins s σ H _ us Q I r ⟨p, vs, rfl, .inl (SqL.of h1), fun l hl => q _ _ _ _ (Px.refl _) (Ex.refl _) (.new R hl h2)⟩
    | [.tup ys], hx, e =>
      obtain ⟨v, rfl, h⟩ := hx.one
      cases e
      obtain ⟨p, rfl⟩ := h.isTup
      obtain ⟨vs, h1, h2⟩ := h.tupH R.ex
      exact call_list_of pins s σ H _ us Q I r ⟨p, vs, rfl, .inr h1, fun l hl => q _ _ _ _ (Px.refl _) (Ex.refl _) (.new R hl h2)⟩
  | sorted => cases e
  | min1 => cases e
  | max1 => cases e
end
end Pv

namespace Pv
open PySem PySem.Spec PyProof.Rows L2

theorem bindS {α β : Type} {o : Option α} {f : α → Option β} {r : β} (h : (o >>= f) = some r) : ∃ x, o = some x ∧ f x = some r := Option.bind_eq_some_iff.mp h
theorem mapS {α β : Type} {o : Option α} {f : α → β} {r : β} (h : o.map f = some r) : ∃ x, o = some x ∧ f x = r := Option.map_eq_some_iff.mp h
theorem upS {ρ ρ' : Env} {st st' : Sto} {r : R1} {fr : Bool} {d : D} (h : up ρ st r = some (fr, d, ρ', st')) : r = some (fr, d) ∧ ρ' = ρ ∧ st' = st := by
  cases r with
  | none => cases h
  | some p => obtain ⟨a, b⟩ := p; cases h; exact ⟨rfl, rfl, rfl⟩

section
variable {P : Program} {w : World} {K : PySem.W.Frag} {mg : Str → Option Value} {base : Heap} {k : Nat} {F : Tb} {C : SC} {X : Cx}
theorem vis_of {sc : Scope} {x : Str} (h : visB sc x = true) : Vis sc x := by
  unfold visB at h
  split at h
  · rename_i e; exact .inl e
  · rename_i e; exact .inr (.inl e)
  · rename_i e; exact .inr (.inr e)
  · cases h
theorem loc_of {sc : Scope} {x : Str} (h : locB sc x = true) : Loc sc x := by
  unfold locB at h
  split at h
  · rename_i e; exact .inl e
  · rename_i e; exact .inr e
  · cases h
theorem gl_of {sc : Scope} {x : Str} (h : glB sc x = true) : sc.names.lookup x = some .globalImplicit := by
  unfold glB at h
  split at h
  · rename_i e; exact e
  · cases h
theorem COk.gl (ok : COk P w K mg base k C X) {x : Str} (h : glB C.sc x = true) : Gl X x := by
  show X.env.scope.names.lookup x = some .globalImplicit
  rw [ok.sc]; exact gl_of h
theorem plain_of {x : Str} (h : plainName x = true) : (x == ("__debug__" : Str)) = false ∧ (x == ("__classdict__" : Str)) = false ∧ x ≠ "__name__" := by
  unfold plainName at h
  simp only [Bool.and_eq_true, Bool.not_eq_true'] at h
  refine ⟨h.1.1, h.1.2, fun e => ?_⟩
  rw [e] at h
  have := h.2
  simp at this
theorem COk.var (ok : COk P w K mg base k C X) {i : Nat} {x : Str} {pos : Pos} (h : C.var i x = true) : PE X (.Name x pos) (tVar i) := by
  unfold SC.var at h
  simp only [Bool.and_eq_true, decide_eq_true_eq] at h
  obtain ⟨h1, h2, _⟩ := plain_of h.2
  exact pe_var (by rw [ok.N]; exact h.1.1) (by rw [ok.sc]; exact vis_of h.1.2) h1 h2
/-! ### what a reading gives, new lists frozen -/
theorem tE_V {p : E} {σ : L2.St} {H : Hp} {Q : VK} {O : Org} {A : List Addr} {B : Hp} {ρ : Env} {st : Sto} {T : List (Addr × List D)} {d : D} {ρ' : Env} {st' : Sto} (R : Rel K O A B σ H ρ st T) (e : vv (evE F p ρ st) = some (d, ρ', st'))
    (q : ∀ v A' B' H', Px A A' → Ex B B' → Rel K O A' B' σ H' ρ' st' T → Ho K A' B' v d → Q v H') : tE K F p σ H Q := by
  obtain ⟨⟨fr, r⟩, e1, e2⟩ := mapS e
  cases e2
  refine ⟨O, A, B, ρ, st, T, fr, d, ρ', st', R, e1, fun v A' B' H' hA hB hp => ?_⟩
  obtain ⟨B'', h1, h2, h3⟩ := hp.freeze
  exact q v A' B'' H' hA (hB.trans h1) h2 h3
theorem Rel.sigma {O : Org} {A : List Addr} {B H : Hp} {σ : L2.St} {ρ : Env} {st : Sto} {T : List (Addr × List D)} (R : Rel K O A B σ H ρ st T) {i : Nat} {s : Sl} {ys : List D} (e : ρ[i]? = some s) (h : slotSeq st s = some ys) :
    ∃ a vs, σ[i]? = some (some (.ref a)) ∧ (SqL K H a vs ∨ SqT K H a vs) ∧ HoL K A B vs ys := by
  cases s with
  | no => cases h
  | own xs =>
    cases h
    obtain ⟨a, vs, h1, h2, h3, _⟩ := R.updSlot e
    exact ⟨a, vs, h1, .inl (SqL.of h2), h3⟩
  | val d =>
    obtain ⟨v, h1, h2⟩ := R.val i d e
    cases d with
    | lst xs =>
      cases h
      obtain ⟨a, rfl⟩ := h2.isLst
      obtain ⟨vs, _, h3, h4⟩ := h2.lstH R.ex
      exact ⟨a, vs, h1, .inl (SqL.of h3), h4⟩
    | tup xs =>
      cases h
      obtain ⟨a, rfl⟩ := h2.isTup
      obtain ⟨vs, h3, h4⟩ := h2.tupH R.ex
      exact ⟨a, vs, h1, .inr h3, h4⟩
    | hd n =>
      cases h2 with | hd ha =>
      obtain ⟨a', vs, e1, e2, e3, _⟩ := R.updH (n := n) (xs := ys) h
      rw [ha] at e1; cases e1
      exact ⟨_, vs, h1, .inl (SqL.of e2), e3⟩
    | _ => cases h

/-! ### the leaves -/
theorem sd_v (ok : COk P w K mg base k C X) {i : Nat} {x : Str} {pos : Pos} (h : C.var i x = true) : PE X (.Name x pos) (tE K F (.v i)) := by
  refine (ok.var h).imp fun σ H Q hq => ?_
  obtain ⟨O, A, B, ρ, st, T, fr, d, ρ', st', R, e, q⟩ := hq
  simp only [evE] at e
  cases z : ρ[i]? with
  | none => rw [z] at e; cases e
  | some s =>
    rw [z] at e
    cases s with
    | no => cases e
    | val d' =>
      cases e
      obtain ⟨v, h1, h2⟩ := R.val i _ z
      exact ⟨v, h1, q v A B H (Px.refl _) (Ex.refl _) (.val R h2)⟩
    | own xs =>
      cases e
      obtain ⟨a, B', h1, h2, h3, h4⟩ := R.freezeSlot z
      exact ⟨_, h1, q _ A B' H (Px.refl _) h4 (.val h2 h3)⟩
theorem sd_k {d : D} {c : Const} {j : Nat} {pos : Pos} (h : kB d c = true) : PE X (.Constant c j pos) (tE K F (.k d)) := by
  have key : ∀ v, PE X (.Constant c j pos) (L2.tC v) → (∀ A B, Ho K A B v d) → PE X (.Constant c j pos) (tE K F (.k d)) := fun v hp hv => hp.imp fun σ H Q hq => by
    obtain ⟨O, A, B, ρ, st, T, fr, d', ρ', st', R, e, q⟩ := hq
    simp only [evE] at e
    cases e
    exact q v A B H (Px.refl _) (Ex.refl _) (.val R (hv _ _))
  cases d with
  | non => cases c <;> first | exact key _ pe_non (fun _ _ => .non) | (cases h)
  | bl b => cases c <;> first | (cases h; done) | (simp only [kB, beq_iff_eq] at h; subst h; exact key _ pe_bl (fun _ _ => .bl _))
  | int b => cases c <;> first | (cases h; done) | (simp only [kB, beq_iff_eq] at h; subst h; exact key _ pe_int (fun _ _ => .int _))
  | str b => cases c <;> first | (cases h; done) | (simp only [kB, beq_iff_eq] at h; subst h; exact key _ pe_str (fun _ _ => .str _))
  | _ => cases c <;> cases h
theorem sd_g {gl : Str → Bool} {fp : Str → Bool} {kw : Str → Nat → List Str → List Nat → Bool} (G : GOk P w K mg base k F gl fp kw) (ok : COk P w K mg base k C X) {x : Str} {pos : Pos} (h1 : glB C.sc x = true) (h2 : gl x = true) (h3 : plainName x = true) : PE X (.Name x pos) (tE K F (.g x)) := by
  refine ⟨fun pins s σ H Q I hq => ?_⟩
  obtain ⟨O, A, B, ρ, st, T, fr, d, ρ', st', R, e, q⟩ := hq
  simp only [evE] at e
  obtain ⟨d', e1, e2⟩ := mapS e
  cases e2
  obtain ⟨u, v, m, r, hv⟩ := G.glob x _ h2 e1
  exact (pe_glob (pos := pos) (ok.gl h1) (by rw [ok.mg]; exact m) r (plain_of h3).1).run pins s σ H Q I (q v A B H (Px.refl _) (Ex.refl _) (.val R (hv _ _)))

/-! ### operators -/
theorem sd_op (ok : COk P w K mg base k C X) {o : Operator} {a b : Expr} {pa pb : E} {pos : Pos} (ha : PE X a (tE K F pa)) (hb : PE X b (tE K F pb)) : PE X (.BinOp a o b pos) (tE K F (.op o pa pb)) := by
  obtain rfl := ok.K
  refine (pe_op (opR_all o) ha hb).imp fun σ H Q hq => ?_
  obtain ⟨O, A, B, ρ, st, T, fr, d, ρ', st', R, e, q⟩ := hq
  simp only [evE] at e
  obtain ⟨⟨x, ρ1, st1⟩, e1, e⟩ := bindS e
  obtain ⟨⟨y, ρ2, st2⟩, e2, e⟩ := bindS e
  obtain ⟨e, rfl, rfl⟩ := upS e
  refine tE_V R e1 fun v A1 B1 H1 hA1 hB1 R1 h1 => ?_
  refine tE_V R1 e2 fun u A2 B2 H2 hA2 hB2 R2 h2 => ?_
  exact ⟨O, A2, B2, σ, _, _, T, x, y, fr, d, R2, h1.mono hA2 hB2, h2, e, fun v' A' B' H' hA hB hp => q v' A' B' H' ((hA1.trans hA2).trans hA) ((hB1.trans hB2).trans hB) hp⟩
theorem setB_in {o : CmpOp} {e : Expr} (h : setB e = false) : behindInMarks o e = false := by
  cases e <;> first | rfl | (simp [setB] at h)
theorem cmp_pre (ok : COk P w K mg base k C X) {o : CmpOp} {pa pb : E} {σ : L2.St} {H : Hp} {Q : VK} {O : Org} {A : List Addr} {B : Hp} {ρ : Env} {st : Sto} {T : List (Addr × List D)} {d : D} {ρ' : Env} {st' : Sto} (R : Rel K O A B σ H ρ st T)
    (e : vv (evE F (.cmp o pa pb) ρ st) = some (d, ρ', st')) (q : ∀ A' B' H', Px A A' → Ex B B' → Rel K O A' B' σ H' ρ' st' T → ∀ t, d = .bl t → Q (.bl t) H') : tOp (rCm K (cmpD o)) (tE K F pa) (tE K F pb) σ H Q := by
  obtain ⟨⟨fr, r⟩, e0, e2⟩ := mapS e
  cases e2
  simp only [evE] at e0
  obtain ⟨⟨x, ρ1, st1⟩, e1, e⟩ := bindS e0
  obtain ⟨⟨y, ρ2, st2⟩, e2, e⟩ := bindS e
  obtain ⟨t, e3, e4⟩ := mapS e
  cases e4
  refine tE_V R e1 fun v A1 B1 H1 hA1 hB1 R1 h1 => ?_
  refine tE_V R1 e2 fun u A2 B2 H2 hA2 hB2 R2 h2 => ?_
  exact ⟨A2, B2, x, y, t, R2.ex, h1.mono hA2 hB2, h2, e3, q A2 B2 H2 (hA1.trans hA2) (hB1.trans hB2) R2 t rfl⟩
theorem COk.units (ok : COk P w K mg base k C X) : X.A.units + 64 < cLine := ok.room.units
theorem vv_of {p : E} {ρ : Env} {st : Sto} {fr : Bool} {d : D} {ρ' : Env} {st' : Sto} (e : evE F p ρ st = some (fr, d, ρ', st')) : vv (evE F p ρ st) = some (d, ρ', st') := by rw [e]; rfl
theorem cmp_fr {o : CmpOp} {pa pb : E} {ρ : Env} {st : Sto} {fr : Bool} {d : D} {ρ' : Env} {st' : Sto} (e : evE F (.cmp o pa pb) ρ st = some (fr, d, ρ', st')) : fr = false ∧ ∃ t, d = .bl t := by
  simp only [evE] at e
  obtain ⟨⟨x, ρ1, st1⟩, e1, e⟩ := bindS e
  obtain ⟨⟨y, ρ2, st2⟩, e2, e⟩ := bindS e
  obtain ⟨t, e3, e4⟩ := mapS e
  cases e4
  exact ⟨rfl, t, rfl⟩
theorem sd_cmp (ok : COk P w K mg base k C X) {o : CmpOp} {a b : Expr} {pa pb : E} {pos : Pos} (ha : PE X a (tE K F pa)) (hb : PE X b (tE K F pb)) (hs : setB b = false) : PE X (.Compare a [o] [b] pos) (tE K F (.cmp o pa pb)) := by
  have hK := ok.K
  subst hK
  refine (pe_cmpR (opR_cmp o ok.units) ha hb (setB_in hs)).imp fun σ H Q hq => ?_
  obtain ⟨O, A, B, ρ, st, T, fr, d, ρ', st', R, e, q⟩ := hq
  obtain ⟨rfl, t, rfl⟩ := cmp_fr e
  refine cmp_pre ok R (vv_of e) fun A' B' H' hA hB R' t' ht => ?_
  cases ht
  exact q _ A' B' H' hA hB (.val R' (.bl _))
theorem sd_cmpT (ok : COk P w K mg base k C X) {o : CmpOp} {a b : Expr} {pa pb : E} {pos : Pos} (ha : PE X a (tE K F pa)) (hb : PE X b (tE K F pb)) (hs : setB b = false) : PT X (.Compare a [o] [b] pos) (tCn K F (.e (.cmp o pa pb))) := by
  have hK := ok.K
  subst hK
  refine (pt_cmpR (opR_cmp o ok.units) ha hb (setB_in hs)).imp fun σ H Q hq => ?_
  obtain ⟨O, A, B, ρ, st, T, b, ρ', st', R, e, q⟩ := hq
  simp only [evT] at e
  obtain ⟨⟨x, ρ1, st1⟩, e1, e⟩ := bindS e
  obtain ⟨t, e2, e⟩ := bindS e
  cases e
  refine cmp_pre ok R e1 fun A' B' H' hA hB R' t' ht => ?_
  subst ht
  cases e2
  exact ⟨_, rfl, q A' B' H' hA hB R'⟩
end
end Pv

namespace Pv
open PySem PySem.Spec PyProof.Rows L2

/-! ### argument lists as texts -/
theorem star_cons {e : Expr} {es : List Expr} {env : PySem.Env} (h : starB e = true) : starEach (e :: es) env = (false, eval e env) :: starEach es env := by
  cases e <;> first | rfl | (simp [starB] at h)
theorem star_all {env : PySem.Env} : ∀ {es : List Expr}, es.all starB = true → (starEach es env).all (fun x => !x.1) = true
  | [], _ => rfl
  | e :: es, h => by
    rw [all_cons_iff] at h
    rw [star_cons h.1, List.all_cons, star_all h.2]; rfl
theorem back_any {pos : Pos} {env : PySem.Env} {es : List Expr} (h : es.all starB = true) : (backTo pos (starEach es env)).any (·.1) = false := by
  have := star_all (env := env) h
  unfold backTo
  rw [List.any_map, List.any_eq_false]
  intro x hx
  have := List.all_eq_true.mp this x hx
  obtain ⟨a, b⟩ := x
  cases a <;> simp_all
theorem back_all {pos : Pos} {env : PySem.Env} {es : List Expr} (h : es.all starB = true) : (backTo pos (starEach es env)).all (fun x => !x.1) = true := by
  have := back_any (pos := pos) (env := env) h
  rw [List.any_eq_false] at this
  rw [List.all_eq_true]
  intro x hx
  simpa using this x hx
theorem few_ok {pos : Pos} {env : PySem.Env} {e : Expr} {es : List Expr} (h : (e :: es).all starB = true) (hl : (e :: es).length < 20) :
    ((backTo pos (starEach (e :: es) env)).all (fun x => !x.1) && (backToKw pos (keywordEach [] env)).all (fun x => x.1.isSome)
      && decide ((e :: es).length + ([] : List Keyword).length + (if ([] : List Keyword).isEmpty then 0 else 1) < 30)) = true := by
  rw [back_all h]
  simp only [keywordEach, backToKw, List.map_nil, List.all_nil, Bool.and_self, Bool.true_and, List.length_nil, List.isEmpty_nil, if_true, decide_eq_true_eq]
  omega
theorem attr_base {o : Expr} {n : Str} {env : PySem.Env} {t : Sem Value} (h : isCall0 o = false) : attributeBase o n env t = t := by
  cases o with
  | Call f args kws pos =>
    cases args with
    | cons a as => cases f <;> rfl
    | nil =>
      cases kws with
      | cons a as => cases f <;> rfl
      | nil => simp [isCall0] at h
  | _ => rfl
theorem sub_plain {e : Expr} (h : sliceB e = true) : PlainIx e := by
  intro o i
  cases e <;> first | rfl | (simp [sliceB] at h)
theorem tru_plain {e : Expr} {env : PySem.Env} (h : truB e = true) : ∀ t, isTrue e env t = (do let v ← t; standAt e.pos; holding [v] (truthy v)) := by
  intro t
  cases e with
  | UnaryOp o a p => cases o <;> first | rfl | (simp [truB] at h)
  | BoolOp _ _ _ => simp [truB] at h
  | IfExp _ _ _ _ => simp [truB] at h
  | Compare _ _ _ _ => simp [truB] at h
  | _ => rfl
theorem boot_bi (b : Bi) : bootBuiltins (biName b) = some (biVal b) := by cases b <;> decide +kernel
theorem bi_blts (b : Bi) : biName b ∈ blts := by cases b <;> decide +kernel
theorem bi_name (b : Bi) : biName b ≠ "__name__" ∧ (biName b == ("__debug__" : Str)) = false := by cases b <;> decide +kernel

section
variable {P : Program} {w : World} {K : PySem.W.Frag} {mg : Str → Option Value} {base : Heap} {k : Nat} {F : Tb} {C : SC} {X : Cx} {gl : Str → Bool} {fp : Str → Bool} {kw : Str → Nat → List Str → List Nat → Bool}
theorem COk.blt (G : GOk P w K mg base k F gl fp kw) (ok : COk P w K mg base k C X) {x : Str} (h : x ∈ blts) : X.mg x = none := by
  rw [ok.mg]; exact G.blt x h
/-! ### argument lists -/
theorem sd_nil : PA X [] (tEs K F .nil) := pa_nil.imp fun σ H Q hq => by
  obtain ⟨O, A, B, ρ, st, T, ds, ρ', st', R, e, q⟩ := hq
  simp only [evEs] at e
  cases e
  exact q [] A B H (Px.refl _) (Ex.refl _) R .nil
theorem sd_cons {e : Expr} {es : List Expr} {p : E} {ps : Es} (hs : starB e = true) (he : PE X e (tE K F p)) (hes : PA X es (tEs K F ps)) : PA X (e :: es) (tEs K F (.cons p ps)) :=
  (pa_cons he hes (star_cons hs)).imp fun σ H Q hq => by
    obtain ⟨O, A, B, ρ, st, T, ds, ρ', st', R, e, q⟩ := hq
    simp only [evEs] at e
    obtain ⟨⟨x, ρ1, st1⟩, e1, e⟩ := bindS e
    obtain ⟨⟨xs, ρ2, st2⟩, e2, e⟩ := bindS e
    cases e
    refine tE_V R e1 fun v A1 B1 H1 hA1 hB1 R1 h1 => ?_
    exact ⟨O, A1, B1, ρ1, st1, T, xs, _, _, R1, e2, fun vs A2 B2 H2 hA2 hB2 R2 h2 => q _ A2 B2 H2 (hA1.trans hA2) (hB1.trans hB2) R2 (.cons (h1.mono hA2 hB2) h2)⟩
theorem tEs_of {p : Es} {σ : L2.St} {H : Hp} {Q : List V → Hp → Prop} {O : Org} {A : List Addr} {B : Hp} {ρ : Env} {st : Sto} {T : List (Addr × List D)} {ds : List D} {ρ' : Env} {st' : Sto} (R : Rel K O A B σ H ρ st T) (e : evEs F p ρ st = some (ds, ρ', st'))
    (q : ∀ vs A' B' H', Px A A' → Ex B B' → Rel K O A' B' σ H' ρ' st' T → HoL K A' B' vs ds → Q vs H') : tEs K F p σ H Q := ⟨O, A, B, ρ, st, T, ds, ρ', st', R, e, q⟩
theorem sd_tup {es : List Expr} {ps : Es} {j : Nat} {pos : Pos} (h : PA X es (tEs K F ps)) : PE X (.Tuple es j pos) (tE K F (.tup ps)) := (pe_tup h).imp fun σ H Q hq => by
  obtain ⟨O, A, B, ρ, st, T, fr, d, ρ', st', R, e, q⟩ := hq
  simp only [evE] at e
  obtain ⟨⟨xs, ρ1, st1⟩, e1, e⟩ := bindS e
  simp only at e
  split at e
  · rename_i hl
    cases e
    refine tEs_of R e1 fun vs A1 B1 H1 hA1 hB1 R1 h1 => ⟨by rw [h1.length]; exact lim_le hl, fun p hp => q _ _ _ _ hA1 (hB1.trans (Ex.new (R1.bfresh hp))) (.tup R1 hp h1)⟩
  · cases e
theorem sd_lst {es : List Expr} {ps : Es} {pos : Pos} (h : PA X es (tEs K F ps)) : PE X (.List es pos) (tE K F (.lst ps)) := (pe_lst h).imp fun σ H Q hq => by
  obtain ⟨O, A, B, ρ, st, T, fr, d, ρ', st', R, e, q⟩ := hq
  simp only [evE] at e
  obtain ⟨⟨xs, ρ1, st1⟩, e1, e⟩ := bindS e
  simp only at e
  split at e
  · rename_i hl
    cases e
    refine tEs_of R e1 fun vs A1 B1 H1 hA1 hB1 R1 h1 => ⟨by rw [h1.length]; exact lim_le hl, fun p hp => q _ _ _ _ hA1 hB1 (.new R1 hp h1)⟩
  · cases e
theorem sd_share {x : Expr} {p : E} (h : PE X x (tE K F p)) : PE X x (tE K F (.share p)) := h.imp fun σ H Q hq => by
  obtain ⟨O, A, B, ρ, st, T, fr, d, ρ', st', R, e, q⟩ := hq
  simp only [evE] at e
  obtain ⟨⟨fr1, d1, ρ1, st1⟩, e1, e⟩ := bindS e
  simp only at e
  split at e
  · rename_i xs
    cases e
    refine ⟨O, A, B, ρ, st, T, true, .lst xs, _, _, R, e1, fun v A' B' H' hA hB hp => ?_⟩
    unfold EPost at hp
    rw [if_pos rfl] at hp
    obtain ⟨a, ys, rfl, hy, R'⟩ := hp
    cases hy
    obtain ⟨R2, h2⟩ := R'.share
    exact q _ _ _ _ (hA.trans Px.app) hB (.val R2 h2)
  · cases e
/-! ### tests, connectives -/
theorem sd_tru (ok : COk P w K mg base k C X) {x : Expr} {p : E} (hx : truB x = true) (h : PE X x (tE K F p)) : PT X x (tCn K F (.e p)) := by
  obtain rfl := ok.K
  refine (pt_truth h (tru_plain hx)).imp fun σ H Q hq => ?_
  obtain ⟨O, A, B, ρ, st, T, b, ρ', st', R, e, q⟩ := hq
  simp only [evT] at e
  obtain ⟨⟨d, ρ1, st1⟩, e1, e⟩ := bindS e
  obtain ⟨t, e2, e⟩ := bindS e
  cases e
  refine tE_V R e1 fun v A1 B1 H1 hA1 hB1 R1 h1 => ?_
  exact ⟨b, tru_ho R1.ex h1 e2, q A1 B1 H1 hA1 hB1 R1⟩
theorem sd_ntC {x : Expr} {c : Cn} {pos : Pos} (h : PT X x (tCn K F c)) : PT X (.UnaryOp .Not x pos) (tCn K F (.nt c)) := (pt_not h).imp fun σ H Q hq => by
  obtain ⟨O, A, B, ρ, st, T, b, ρ', st', R, e, q⟩ := hq
  simp only [evT] at e
  obtain ⟨⟨t, ρ1, st1⟩, e1, e⟩ := bindS e
  cases e
  exact ⟨O, A, B, ρ, st, T, t, _, _, R, e1, q⟩
theorem sd_anC {x y : Expr} {rest : List Expr} {c d : Cn} {pos : Pos} (h : PT X x (tCn K F c)) (h' : PW X (.BoolOp .And (y :: rest) pos) (tCn K F d)) : PW X (.BoolOp .And (x :: y :: rest) pos) (tCn K F (.an c d)) := (pw_and h h').imp fun σ H Q hq => by
  obtain ⟨O, A, B, ρ, st, T, b, ρ', st', R, e, q⟩ := hq
  simp only [evT] at e
  obtain ⟨⟨t, ρ1, st1⟩, e1, e⟩ := bindS e
  refine ⟨O, A, B, ρ, st, T, t, ρ1, st1, R, e1, fun A1 B1 H1 hA1 hB1 R1 => ?_⟩
  cases t with
  | true =>
    rw [if_pos rfl]
    exact ⟨O, A1, B1, ρ1, st1, T, b, ρ', st', R1, e, fun A2 B2 H2 hA2 hB2 R2 => q A2 B2 H2 (hA1.trans hA2) (hB1.trans hB2) R2⟩
  | false =>
    cases e
    rw [if_neg Bool.false_ne_true]
    exact q A1 B1 H1 hA1 hB1 R1
theorem sd_orC {x y : Expr} {rest : List Expr} {c d : Cn} {pos : Pos} (h : PT X x (tCn K F c)) (h' : PW X (.BoolOp .Or (y :: rest) pos) (tCn K F d)) : PW X (.BoolOp .Or (x :: y :: rest) pos) (tCn K F (.or c d)) := (pw_or h h').imp fun σ H Q hq => by
  obtain ⟨O, A, B, ρ, st, T, b, ρ', st', R, e, q⟩ := hq
  simp only [evT] at e
  obtain ⟨⟨t, ρ1, st1⟩, e1, e⟩ := bindS e
  refine ⟨O, A, B, ρ, st, T, t, ρ1, st1, R, e1, fun A1 B1 H1 hA1 hB1 R1 => ?_⟩
  cases t with
  | false =>
    rw [if_neg Bool.false_ne_true]
    exact ⟨O, A1, B1, ρ1, st1, T, b, ρ', st', R1, e, fun A2 B2 H2 hA2 hB2 R2 => q A2 B2 H2 (hA1.trans hA2) (hB1.trans hB2) R2⟩
  | true =>
    cases e
    rw [if_pos rfl]
    exact q A1 B1 H1 hA1 hB1 R1
theorem sd_nt (ok : COk P w K mg base k C X) {x : Expr} {p : E} {pos : Pos} (h : PE X x (tE K F p)) (hx : truB x = true) : PE X (.UnaryOp .Not x pos) (tE K F (.nt p)) := by
  obtain rfl := ok.K
  refine (pe_notT h).imp fun σ H Q hq => ?_
  obtain ⟨O, A, B, ρ, st, T, fr, d, ρ', st', R, e, q⟩ := hq
  simp only [evE] at e
  obtain ⟨⟨d1, ρ1, st1⟩, e1, e⟩ := bindS e
  obtain ⟨t, e2, e⟩ := bindS e
  cases e
  refine tE_V R e1 fun v A1 B1 H1 hA1 hB1 R1 h1 => ?_
  exact ⟨t, tru_ho R1.ex h1 e2, q _ A1 B1 H1 hA1 hB1 (.val R1 (.bl _))⟩
theorem sd_an {x y : Expr} {rest : List Expr} {p p' : E} {pos : Pos} (h : PE X x (tE K F p)) (h' : PE X (.BoolOp .And (y :: rest) pos) (tE K F p')) : PE X (.BoolOp .And (x :: y :: rest) pos) (tE K F (.an p p')) := (pe_and h h').imp fun σ H Q hq => by
  obtain ⟨O, A, B, ρ, st, T, fr, d, ρ', st', R, e, q⟩ := hq
  simp only [evE] at e
  obtain ⟨⟨x1, ρ1, st1⟩, e1, e⟩ := bindS e
  refine tE_V R e1 fun v A1 B1 H1 hA1 hB1 R1 h1 => ?_
  simp only at e
  split at e
  · cases h1
    refine ⟨true, rfl, ?_⟩
    rw [if_pos rfl]
    obtain ⟨⟨d2, ρ2, st2⟩, e2, e3⟩ := mapS e
    cases e3
    exact tE_V R1 e2 fun v A2 B2 H2 hA2 hB2 R2 h2 => q _ _ _ _ (hA1.trans hA2) (hB1.trans hB2) (.val R2 h2)
  · cases h1
    refine ⟨false, rfl, ?_⟩
    rw [if_neg Bool.false_ne_true]
    cases e
    exact q _ _ _ _ hA1 hB1 (.val R1 (.bl _))
  · cases e
theorem sd_or {x y : Expr} {rest : List Expr} {p p' : E} {pos : Pos} (h : PE X x (tE K F p)) (h' : PE X (.BoolOp .Or (y :: rest) pos) (tE K F p')) : PE X (.BoolOp .Or (x :: y :: rest) pos) (tE K F (.or p p')) := (pe_or h h').imp fun σ H Q hq => by
  obtain ⟨O, A, B, ρ, st, T, fr, d, ρ', st', R, e, q⟩ := hq
  simp only [evE] at e
  obtain ⟨⟨x1, ρ1, st1⟩, e1, e⟩ := bindS e
  refine tE_V R e1 fun v A1 B1 H1 hA1 hB1 R1 h1 => ?_
  simp only at e
  split at e
  · cases h1
    refine ⟨true, rfl, ?_⟩
    rw [if_pos rfl]
    cases e
    exact q _ _ _ _ hA1 hB1 (.val R1 (.bl _))
  · cases h1
    refine ⟨false, rfl, ?_⟩
    rw [if_neg Bool.false_ne_true]
    obtain ⟨⟨d2, ρ2, st2⟩, e2, e3⟩ := mapS e
    cases e3
    exact tE_V R1 e2 fun v A2 B2 H2 hA2 hB2 R2 h2 => q _ _ _ _ (hA1.trans hA2) (hB1.trans hB2) (.val R2 h2)
  · cases e
theorem sd_ite {c x y : Expr} {pc : Cn} {p p' : E} {pos : Pos} (hc : PT X c (tCn K F pc)) (h : PE X x (tE K F p)) (h' : PE X y (tE K F p')) : PE X (.IfExp c x y pos) (tE K F (.ite pc p p')) := (pe_ifExp hc h h').imp fun σ H Q hq => by
  obtain ⟨O, A, B, ρ, st, T, fr, d, ρ', st', R, e, q⟩ := hq
  simp only [evE] at e
  obtain ⟨⟨t, ρ1, st1⟩, e1, e⟩ := bindS e
  refine ⟨O, A, B, ρ, st, T, t, ρ1, st1, R, e1, fun A1 B1 H1 hA1 hB1 R1 => ?_⟩
  cases t with
  | true =>
    rw [if_pos rfl]
    exact ⟨O, A1, B1, ρ1, st1, T, fr, d, ρ', st', R1, e, fun v A2 B2 H2 hA2 hB2 R2 => q v A2 B2 H2 (hA1.trans hA2) (hB1.trans hB2) R2⟩
  | false =>
    rw [if_neg Bool.false_ne_true]
    exact ⟨O, A1, B1, ρ1, st1, T, fr, d, ρ', st', R1, e, fun v A2 B2 H2 hA2 hB2 R2 => q v A2 B2 H2 (hA1.trans hA2) (hB1.trans hB2) R2⟩
theorem sd_neg {x : Expr} {p : E} {pos : Pos} (h : PE X x (tE K F p)) : PE X (.UnaryOp .USub x pos) (tE K F (.neg p)) := (pe_un un_neg h).imp fun σ H Q hq => by
  obtain ⟨O, A, B, ρ, st, T, fr, d, ρ', st', R, e, q⟩ := hq
  simp only [evE] at e
  obtain ⟨⟨x1, ρ1, st1⟩, e1, e⟩ := bindS e
  refine tE_V R e1 fun v A1 B1 H1 hA1 hB1 R1 h1 => ?_
  simp only at e
  split at e
  · cases h1
    cases e
    exact ⟨_, rfl, q _ _ _ _ hA1 hB1 (.val R1 (.int _))⟩
  · cases e
/-! ### built-in functions -/
theorem sd_bi (G : GOk P w K mg base k F gl fp kw) (ok : COk P w K mg base k C X) {b : Bi} {y : Expr} {ys : List Expr} {ps : Es} {q pos : Pos} (hg : glB C.sc (biName b) = true) (hs : (y :: ys).all starB = true) (h : PA X (y :: ys) (tEs K F ps)) :
    PE X (.Call (.Name (biName b) q) (y :: ys) [] pos) (tE K F (.bi b ps)) := by
  have hK := ok.K
  subst hK
  have hs' := all_cons_iff.mp hs
  have main : PE X (.Call (.Name (biName b) q) (y :: ys) [] pos) (tCB (rBi X.K b) (tEs X.K F ps)) := by
    have h1 := ok.gl hg
    have h2 := ok.blt G (bi_blts b)
    have h3 := boot_bi b
    have h4 := bi_name b
    have h5 := callR_all ok.calm b
    cases hv : biVal b with
    | builtin id =>
      rw [hv] at h3 h5
      exact pe_callB h5 h1 h2 h3 h h4.1 h4.2 (star_cons hs'.1) (back_any hs'.2)
    | type T =>
      rw [hv] at h3 h5
      exact pe_callTy h5 h1 h2 h3 h h4.1 h4.2 (star_cons hs'.1) (back_any hs'.2)
    | _ => cases b <;> cases hv
  refine main.imp fun σ H Q hq => ?_
  obtain ⟨O, A, B, ρ, st, T, fr, d, ρ', st', R, e, q⟩ := hq
  simp only [evE] at e
  obtain ⟨⟨ds, ρ1, st1⟩, e1, e⟩ := bindS e
  obtain ⟨e, rfl, rfl⟩ := upS e
  refine tEs_of R e1 fun vs A1 B1 H1 hA1 hB1 R1 h1 => ?_
  exact ⟨O, A1, B1, σ, _, _, T, ds, fr, d, R1, h1, e, fun v A' B' H' hA hB hp => q v A' B' H' (hA1.trans hA) (hB1.trans hB) hp⟩
theorem sd_lenv (G : GOk P w K mg base k F gl fp kw) (ok : COk P w K mg base k C X) {i : Nat} {x : Str} {q p pos : Pos} (hg : glB C.sc "len" = true) (hv : C.var i x = true) : PE X (.Call (.Name "len" q) [.Name x p] [] pos) (tE K F (.lenv i)) := by
  have hK := ok.K
  subst hK
  have main : PE X (.Call (.Name "len" q) [.Name x p] [] pos) (tCB (fun xs H Q => ∃ x n, xs = [x] ∧ LenV X.K x H n ∧ Q (.int n) H) (tCons (tVar i) tNil)) :=
    pe_callB call_len (ok.gl hg) (ok.blt G (bi_blts .len)) (boot_bi .len) (pa_cons (ok.var hv) pa_nil (star_cons rfl)) (bi_name .len).1 (bi_name .len).2 (star_cons rfl) rfl
  refine main.imp fun σ H Q hq => ?_
  obtain ⟨O, A, B, ρ, st, T, fr, d, ρ', st', R, e, q⟩ := hq
  simp only [evE] at e
  obtain ⟨sl, e1, e⟩ := bindS e
  obtain ⟨ys, e2, e⟩ := bindS e
  cases e
  obtain ⟨a, vs, h1, h2, h3⟩ := R.sigma e1 e2
  refine ⟨_, h1, _, ys.length, rfl, ?_, q _ _ _ _ (Px.refl _) (Ex.refl _) (.val R (.int _))⟩
  rcases h2 with h2 | h2
  · exact .inl ⟨vs, h2, h3.length.symm⟩
  · exact .inr ⟨vs, h2, h3.length.symm⟩
/-! ### items -/
theorem sd_ix (ok : COk P w K mg base k C X) {a b : Expr} {pa pb : E} {pos : Pos} (ha : PE X a (tE K F pa)) (hb : PE X b (tE K F pb)) (hs : sliceB b = true) : PE X (.Subscript a b pos) (tE K F (.ix pa pb)) := by
  obtain rfl := ok.K
  refine (pe_ix ixR_item ha hb (sub_plain hs)).imp fun σ H Q hq => ?_
  obtain ⟨O, A, B, ρ, st, T, fr, d, ρ', st', R, e, q⟩ := hq
  simp only [evE] at e
  obtain ⟨⟨x, ρ1, st1⟩, e1, e⟩ := bindS e
  obtain ⟨⟨y, ρ2, st2⟩, e2, e⟩ := bindS e
  obtain ⟨d', e3, e4⟩ := mapS e
  cases e4
  refine tE_V R e1 fun v A1 B1 H1 hA1 hB1 R1 h1 => ?_
  refine tE_V R1 e2 fun u A2 B2 H2 hA2 hB2 R2 h2 => ?_
  have h1 := h1.mono hA2 hB2
  have q := fun v h => q v A2 B2 H2 (hA1.trans hA2) (hB1.trans hB2) h
  cases y with
  | int i =>
    cases h2
    refine ⟨A2, B2, i, rfl, ?_⟩
    cases x with
    | lst xs =>
      obtain ⟨p, rfl⟩ := h1.isLst
      obtain ⟨vs, _, g1, g2⟩ := h1.lstH R2.ex
      exact .inl ⟨p, vs, xs, d, rfl, .inl (SqL.of g1), g2, e3, fun v hv => q v (.val R2 hv)⟩
    | tup xs =>
      obtain ⟨p, rfl⟩ := h1.isTup
      obtain ⟨vs, g1, g2⟩ := h1.tupH R2.ex
      exact .inl ⟨p, vs, xs, d, rfl, .inr g1, g2, e3, fun v hv => q v (.val R2 hv)⟩
    | str s =>
      cases h1
      simp only [ixD] at e3
      split at e3
      · rename_i hl
        obtain ⟨c, e4, e5⟩ := mapS e3
        cases e5
        exact .inr ⟨s, c, rfl, hl, e4, q _ (.val R2 (.str _))⟩
      · cases e3
    | hd n =>
      cases h1 with | hd ha =>
      simp only [ixD] at e3
      cases z : st2[n]? with
      | none => rw [z] at e3; cases e3
      | some xs =>
        rw [z] at e3
        obtain ⟨a', vs, f1, f2, f3, _⟩ := R2.updH z
        rw [ha] at f1; cases f1
        exact .inl ⟨_, vs, xs, d, rfl, .inl (SqL.of f2), f3, e3, fun v hv => q v (.val R2 hv)⟩
    | _ => cases e3
  | _ => cases x <;> cases e3
theorem sd_ixv (ok : COk P w K mg base k C X) {i : Nat} {x : Str} {b : Expr} {pb : E} {p pos : Pos} (hv : C.var i x = true) (hb : PE X b (tE K F pb)) (hs : sliceB b = true) : PE X (.Subscript (.Name x p) b pos) (tE K F (.ixv i pb)) := by
  have hK := ok.K
  subst hK
  refine (pe_ix ixR_item (ok.var hv) hb (sub_plain hs)).imp fun σ H Q hq => ?_
  obtain ⟨O, A, B, ρ, st, T, fr, d, ρ', st', R, e, q⟩ := hq
  simp only [evE] at e
  obtain ⟨sl0, e1, e⟩ := bindS e
  obtain ⟨ys0, e2, e⟩ := bindS e
  obtain ⟨⟨y, ρ1, st1⟩, e3, e⟩ := bindS e
  obtain ⟨sl, e4, e⟩ := bindS e
  obtain ⟨ys, e5, e⟩ := bindS e
  obtain ⟨d', e6, e7⟩ := mapS e
  cases e7
  obtain ⟨a, vs, h1, _, _⟩ := R.sigma e1 e2
  refine ⟨_, h1, tE_V R e3 fun u A2 B2 H2 hA2 hB2 R2 h2 => ?_⟩
  obtain ⟨a2, vs2, g1, g2, g3⟩ := R2.sigma e4 e5
  rw [h1] at g1; cases g1
  cases y with
  | int j =>
    cases h2
    exact ⟨A2, B2, j, rfl, .inl ⟨a, vs2, ys, d, rfl, g2, g3, e6, fun v hv => q v _ _ _ hA2 hB2 (.val R2 hv)⟩⟩
  | _ => cases e6
/-! ### slices -/
theorem sd_no : PO X none (tEo K F .no) := po_none.imp fun σ H Q hq => by
  obtain ⟨O, A, B, ρ, st, T, d, ρ', st', R, e, q⟩ := hq
  simp only [evO] at e
  cases e
  exact q A B H (Px.refl _) (Ex.refl _) R
theorem sd_so {x : Expr} {p : E} (h : PE X x (tE K F p)) : PO X (some x) (tEo K F (.so p)) := (po_some h).imp fun σ H Q hq => by
  obtain ⟨O, A, B, ρ, st, T, d, ρ', st', R, e, q⟩ := hq
  simp only [evO] at e
  obtain ⟨⟨x, ρ1, st1⟩, e1, e⟩ := bindS e
  refine tE_V R e1 fun v A1 B1 H1 hA1 hB1 R1 h1 => ?_
  simp only at e
  split at e
  · cases h1
    cases e
    exact ⟨_, rfl, q A1 B1 H1 hA1 hB1 R1⟩
  · cases e
theorem sd_sl (ok : COk P w K mg base k C X) {a : Expr} {lo hi : Option Expr} {pa : E} {pl ph : Eo} {p2 pos : Pos} (ha : PE X a (tE K F pa)) (hl : PO X lo (tEo K F pl)) (hh : PO X hi (tEo K F ph)) : PE X (.Subscript a (.Slice lo hi none p2) pos) (tE K F (.sl pa pl ph)) := by
  obtain rfl := ok.K
  refine (pe_slice slR_all ha hl hh).imp fun σ H Q hq => ?_
  obtain ⟨O, A, B, ρ, st, T, fr, d, ρ', st', R, e, q⟩ := hq
  simp only [evE] at e
  obtain ⟨⟨x, ρ1, st1⟩, e1, e⟩ := bindS e
  obtain ⟨⟨l, ρ2, st2⟩, e2, e⟩ := bindS e
  obtain ⟨⟨u, ρ3, st3⟩, e3, e⟩ := bindS e
  obtain ⟨e, rfl, rfl⟩ := upS e
  refine tE_V R e1 fun v A1 B1 H1 hA1 hB1 R1 h1 => ?_
  refine ⟨O, A1, B1, _, _, T, l, _, _, R1, e2, fun A2 B2 H2 hA2 hB2 R2 => ?_⟩
  refine ⟨O, A2, B2, _, _, T, u, _, _, R2, e3, fun A3 B3 H3 hA3 hB3 R3 => ?_⟩
  exact ⟨O, A3, B3, σ, _, _, T, x, fr, d, R3, h1.mono (hA2.trans hA3) (hB2.trans hB3), e, fun v' A' B' H' hA hB hp => q v' A' B' H' (((hA1.trans hA2).trans hA3).trans hA) (((hB1.trans hB2).trans hB3).trans hB) hp⟩
end
end Pv

namespace Pv
open PySem PySem.Spec PyProof.Rows L2
open RZ (ItzT pi_zipA)
open RT (ItvT pi_revA)

/-! ## what is walked -/
section
variable {K : PySem.W.Frag} {A : List Addr} {B : Hp}
theorem len_none {xs : List D} {i : Nat} (h : xs.length ≤ i) : xs[i]? = none := List.getElem?_eq_none h
theorem walks_list {a : Addr} {xs : List D} (h : Ho K A B (.ref a) (.lst xs)) : Walks K (Itl K a) A B xs := fun i A1 B1 H hA hB hH => by
  have h1 := h.mono hA hB
  obtain ⟨vs, _, g1, g2⟩ := h1.lstH hH
  refine ⟨fun d e => ?_, fun hi => ⟨vs, SqL.of g1, by rw [g2.length]; exact hi⟩⟩
  obtain ⟨v, e1, e2⟩ := g2.get e
  refine ⟨⟨vs, v, SqL.of g1, e1⟩, fun x H' hy => ?_⟩
  obtain ⟨rfl, hy⟩ := hy
  have := (hy vs (SqL.of g1)).symm.trans e1
  cases this
  exact ⟨B1, Ex.refl _, Ex.refl _, hH, fun a h1 h2 => absurd h1 h2, e2⟩
theorem walks_tup {a : Addr} {xs : List D} (h : Ho K A B (.ref a) (.tup xs)) : Walks K (Itt K a) A B xs := fun i A1 B1 H hA hB hH => by
  have h1 := h.mono hA hB
  obtain ⟨vs, g1, g2⟩ := h1.tupH hH
  refine ⟨fun d e => ?_, fun hi => ⟨vs, g1, by rw [g2.length]; exact hi⟩⟩
  obtain ⟨v, e1, e2⟩ := g2.get e
  refine ⟨⟨vs, v, g1, e1⟩, fun x H' hy => ?_⟩
  obtain ⟨rfl, hy⟩ := hy
  have := (hy vs g1).symm.trans e1
  cases this
  exact ⟨B1, Ex.refl _, Ex.refl _, hH, fun a h1 h2 => absurd h1 h2, e2⟩
theorem walks_rev {a : Addr} {xs : List D} (h : Ho K A B (.ref a) (.lst xs)) : Walks K (Itv K a xs.length) A B xs.reverse := fun i A1 B1 H hA hB hH => by
  have h1 := h.mono hA hB
  obtain ⟨vs, _, g1, g2⟩ := h1.lstH hH
  refine ⟨fun d e => ?_, fun hi => by rw [List.length_reverse] at hi; exact hi⟩
  have hi : i < xs.length := by have := (List.getElem?_eq_some_iff.mp e).1; rwa [List.length_reverse] at this
  rw [List.getElem?_reverse hi] at e
  obtain ⟨v, e1, e2⟩ := g2.get e
  refine ⟨⟨hi, vs, v, SqL.of g1, e1⟩, fun x H' hy => ?_⟩
  obtain ⟨rfl, hy⟩ := hy
  have := (hy vs (SqL.of g1)).symm.trans e1
  cases this
  exact ⟨B1, Ex.refl _, Ex.refl _, hH, fun a h1 h2 => absurd h1 h2, e2⟩
theorem walks_revT {a : Addr} {xs : List D} (h : Ho K A B (.ref a) (.tup xs)) : Walks K (ItvT K a xs.length) A B xs.reverse := fun i A1 B1 H hA hB hH => by
  have h1 := h.mono hA hB
  obtain ⟨vs, g1, g2⟩ := h1.tupH hH
  refine ⟨fun d e => ?_, fun hi => by rw [List.length_reverse] at hi; exact hi⟩
  have hi : i < xs.length := by have := (List.getElem?_eq_some_iff.mp e).1; rwa [List.length_reverse] at this
  rw [List.getElem?_reverse hi] at e
  obtain ⟨v, e1, e2⟩ := g2.get e
  refine ⟨⟨hi, vs, v, g1, e1⟩, fun x H' hy => ?_⟩
  obtain ⟨rfl, hy⟩ := hy
  have := (hy vs g1).symm.trans e1
  cases this
  exact ⟨B1, Ex.refl _, Ex.refl _, hH, fun a h1 h2 => absurd h1 h2, e2⟩
theorem rng_get {n : Nat} {f : Nat → D} {i : Nat} {d : D} (e : ((List.range n).map f)[i]? = some d) : i < n ∧ d = f i := by
  rw [List.getElem?_map] at e
  by_cases h : i < n
  · rw [List.getElem?_range h] at e; cases e; exact ⟨h, rfl⟩
  · rw [List.getElem?_eq_none (by simpa using h)] at e; cases e
theorem walks_rng1 {lo hi : Int} : Walks K (Itr lo (hi - lo).toNat) A B (rngL lo hi 1) := fun i A1 B1 H hA hB hH => by
  have hn : rngN lo hi 1 = (hi - lo).toNat := by unfold rngN; rw [PyProof.Rows.rangeSize_nat]; exact Int.toNat_natCast _
  refine ⟨fun d e => ?_, fun h => by unfold rngL at h; rw [List.length_map, List.length_range, hn] at h; exact h⟩
  unfold rngL at e
  obtain ⟨h1, rfl⟩ := rng_get e
  rw [hn] at h1
  refine ⟨h1, fun x H' hy => ?_⟩
  obtain ⟨rfl, rfl⟩ := hy
  exact ⟨B1, Ex.refl _, Ex.refl _, hH, fun a h1 h2 => absurd h1 h2, by rw [Int.mul_one]; exact .int _⟩
theorem walks_rng {lo hi c : Int} : Walks K (Itc lo c (rngN lo hi c)) A B (rngL lo hi c) := fun i A1 B1 H hA hB hH => by
  refine ⟨fun d e => ?_, fun h => by unfold rngL at h; rw [List.length_map, List.length_range] at h; exact h⟩
  unfold rngL at e
  obtain ⟨h1, rfl⟩ := rng_get e
  refine ⟨h1, fun x H' hy => ?_⟩
  obtain ⟨rfl, rfl⟩ := hy
  exact ⟨B1, Ex.refl _, Ex.refl _, hH, fun a h1 h2 => absurd h1 h2, .int _⟩
theorem enum_get : ∀ {xs : List D} {n i : Nat} {d : D}, (enumL n xs)[i]? = some d → ∃ x, xs[i]? = some x ∧ d = .tup [.int ((n + i : Nat) : Int), x]
  | [], _, _, _, e => by simp [enumL] at e
  | x :: xs, n, 0, d, e => by
    simp [enumL] at e
    exact ⟨x, rfl, by rw [← e]; simp⟩
  | x :: xs, n, i + 1, d, e => by
    simp only [enumL, List.getElem?_cons_succ] at e
    obtain ⟨y, h1, h2⟩ := enum_get e
    exact ⟨y, by simpa using h1, by rw [h2, Nat.add_assoc, Nat.add_comm 1 i]⟩
theorem enum_len : ∀ (xs : List D) (n : Nat), (enumL n xs).length = xs.length
  | [], _ => rfl
  | x :: xs, n => by simp [enumL, enum_len xs]
theorem pair_new {B1 H : Hp} {A1 : List Addr} {T : Addr} {v u : V} {d e : D} (hH : Ex B1 H) (hT : H T = none) (h1 : Ho K A1 B1 v d) (h2 : Ho K A1 B1 u e) :
    ∃ B2, Ex B1 B2 ∧ Ex H (upd H T (.tup [v, u])) ∧ Ex B2 (upd H T (.tup [v, u])) ∧ (∀ a, B1 a = none → B2 a ≠ none → H a = none) ∧ Ho K A1 B2 (.ref T) (.tup [d, e]) := by
  have hB : B1 T = none := hH.back hT
  refine ⟨upd B1 T (.tup [v, u]), Ex.new hB, Ex.new hT, hH.upd2, fun a h3 h4 => ?_, .tup (SqT.of upd_same) (.cons (h1.mono (Px.refl _) (Ex.new hB)) (.cons (h2.mono (Px.refl _) (Ex.new hB)) .nil))⟩
  by_cases q : a = T
  · rw [q]; exact hT
  · rw [upd_ne q] at h4; exact absurd h3 h4
theorem walks_enum {a : Addr} {xs : List D} (h : Ho K A B (.ref a) (.lst xs)) : Walks K (Ite K a) A B (enumL 0 xs) := fun i A1 B1 H hA hB hH => by
  have h1 := h.mono hA hB
  obtain ⟨vs, _, g1, g2⟩ := h1.lstH hH
  refine ⟨fun d e => ?_, fun hi => ⟨vs, SqL.of g1, by rw [g2.length]; rwa [enum_len] at hi⟩⟩
  obtain ⟨x, ex, rfl⟩ := enum_get e
  obtain ⟨v, e1, e2⟩ := g2.get ex
  refine ⟨⟨vs, v, SqL.of g1, e1⟩, fun z H' hy => ?_⟩
  obtain ⟨T, u, rfl, hT, rfl, hy⟩ := hy
  have := (hy vs (SqL.of g1)).symm.trans e1
  cases this
  rw [Nat.zero_add]
  exact pair_new hH hT (.int _) e2
theorem walks_enumT {a : Addr} {xs : List D} (h : Ho K A B (.ref a) (.tup xs)) : Walks K (IteT K a) A B (enumL 0 xs) := fun i A1 B1 H hA hB hH => by
  have h1 := h.mono hA hB
  obtain ⟨vs, g1, g2⟩ := h1.tupH hH
  refine ⟨fun d e => ?_, fun hi => ⟨vs, g1, by rw [g2.length]; rwa [enum_len] at hi⟩⟩
  obtain ⟨x, ex, rfl⟩ := enum_get e
  obtain ⟨v, e1, e2⟩ := g2.get ex
  refine ⟨⟨vs, v, g1, e1⟩, fun z H' hy => ?_⟩
  obtain ⟨T, u, rfl, hT, rfl, hy⟩ := hy
  have := (hy vs g1).symm.trans e1
  cases this
  rw [Nat.zero_add]
  exact pair_new hH hT (.int _) e2
theorem zip_get : ∀ {xs ys : List D} {i : Nat} {d : D}, (zipL xs ys)[i]? = some d → ∃ x y, xs[i]? = some x ∧ ys[i]? = some y ∧ d = .tup [x, y]
  | [], _, _, _, e => by simp [zipL] at e
  | _ :: _, [], _, _, e => by simp [zipL] at e
  | x :: xs, y :: ys, 0, d, e => by
    simp [zipL] at e
    exact ⟨x, y, rfl, rfl, e.symm⟩
  | x :: xs, y :: ys, i + 1, d, e => by
    simp only [zipL, List.getElem?_cons_succ] at e
    obtain ⟨u, v, h1, h2, h3⟩ := zip_get e
    exact ⟨u, v, by simpa using h1, by simpa using h2, h3⟩
theorem zip_len : ∀ (xs ys : List D), (zipL xs ys).length = min xs.length ys.length
  | [], _ => by simp [zipL]
  | _ :: _, [] => by simp [zipL]
  | x :: xs, y :: ys => by simp [zipL, zip_len xs ys, Nat.succ_min_succ]
theorem walks_zip {a b : Addr} {xs ys : List D} (h : Ho K A B (.ref a) (.lst xs)) (h' : Ho K A B (.ref b) (.lst ys)) : Walks K (Itz K a b) A B (zipL xs ys) := fun i A1 B1 H hA hB hH => by
  have h1 := h.mono hA hB
  have h2 := h'.mono hA hB
  obtain ⟨vs, _, g1, g2⟩ := h1.lstH hH
  obtain ⟨ws, _, g3, g4⟩ := h2.lstH hH
  refine ⟨fun d e => ?_, fun hi => ⟨vs, ws, SqL.of g1, SqL.of g3, by rw [g2.length, g4.length]; rw [zip_len] at hi; omega⟩⟩
  obtain ⟨x, y, ex, ey, rfl⟩ := zip_get e
  obtain ⟨v, e1, e2⟩ := g2.get ex
  obtain ⟨u, e3, e4⟩ := g4.get ey
  refine ⟨⟨vs, ws, v, u, SqL.of g1, SqL.of g3, e1, e3⟩, fun z H' hy => ?_⟩
  obtain ⟨T, v', u', rfl, hT, rfl, hy, hy'⟩ := hy
  have := (hy vs (SqL.of g1)).symm.trans e1
  cases this
  have := (hy' ws (SqL.of g3)).symm.trans e3
  cases this
  exact pair_new hH hT e2 e4
theorem walks_zipT {a b : Addr} {xs ys : List D} (h : Ho K A B (.ref a) (.tup xs)) (h' : Ho K A B (.ref b) (.tup ys)) : Walks K (ItzT K a b) A B (zipL xs ys) := fun i A1 B1 H hA hB hH => by
  have h1 := h.mono hA hB
  have h2 := h'.mono hA hB
  obtain ⟨vs, g1, g2⟩ := h1.tupH hH
  obtain ⟨ws, g3, g4⟩ := h2.tupH hH
  refine ⟨fun d e => ?_, fun hi => ⟨vs, ws, g1, g3, by rw [g2.length, g4.length]; rw [zip_len] at hi; omega⟩⟩
  obtain ⟨x, y, ex, ey, rfl⟩ := zip_get e
  obtain ⟨v, e1, e2⟩ := g2.get ex
  obtain ⟨u, e3, e4⟩ := g4.get ey
  refine ⟨⟨vs, ws, v, u, g1, g3, e1, e3⟩, fun z H' hy => ?_⟩
  obtain ⟨T, v', u', rfl, hT, rfl, hy, hy'⟩ := hy
  have := (hy vs g1).symm.trans e1
  cases this
  have := (hy' ws g3).symm.trans e3
  cases this
  exact pair_new hH hT e2 e4
end

section
variable {P : Program} {w : World} {K : PySem.W.Frag} {mg : Str → Option Value} {base : Heap} {k : Nat} {F : Tb} {C : SC} {X : Cx} {gl : Str → Bool} {fp : Str → Bool} {kw : Str → Nat → List Str → List Nat → Bool}
theorem PI.or {X : Cx} {tg e : Expr} {t t' : TI} (h : PI X tg e t) (h' : PI X tg e t') : PI X tg e (fun σ H R => t σ H R ∨ t' σ H R) :=
  ⟨fun pins s σ H R I hw => hw.elim (fun q => h.run pins s σ H R I q) fun q => h'.run pins s σ H R I q⟩
theorem sd_val (ok : COk P w K mg base k C X) {tg x : Expr} {p : E} (h : PE X x (tE K F p)) : PI X tg x (tI K F (.val p)) := by
  obtain rfl := ok.K
  refine (PI.or (pi_list h) (pi_tup h)).imp fun σ H R hq => ?_
  obtain ⟨O, A, B, ρ, st, T, xs, ρ', st', R0, e, q⟩ := hq
  simp only [evI] at e
  obtain ⟨⟨d, ρ1, st1⟩, e1, e⟩ := bindS e
  obtain ⟨ys, e2, e⟩ := bindS e
  cases e
  cases d with
  | lst zs =>
    cases e2
    refine .inl (tE_V R0 e1 fun v A1 B1 H1 hA1 hB1 R1 h1 => ?_)
    obtain ⟨a, rfl⟩ := h1.isLst
    obtain ⟨vs, _, g1, _⟩ := h1.lstH R1.ex
    exact ⟨a, rfl, ⟨vs, SqL.of g1⟩, q _ A1 B1 H1 hA1 hB1 R1 (walks_list h1)⟩
  | tup zs =>
    cases e2
    refine .inr (tE_V R0 e1 fun v A1 B1 H1 hA1 hB1 R1 h1 => ?_)
    obtain ⟨a, rfl⟩ := h1.isTup
    obtain ⟨vs, g1, _⟩ := h1.tupH R1.ex
    exact ⟨a, rfl, ⟨vs, g1⟩, q _ A1 B1 H1 hA1 hB1 R1 (walks_tup h1)⟩
  | _ => cases e2
theorem tEs_one {p : Es} {σ : L2.St} {H : Hp} {Q : List V → Hp → Prop} {O : Org} {A : List Addr} {B : Hp} {ρ : Env} {st : Sto} {T : List (Addr × List D)} {d : D} {ρ' : Env} {st' : Sto} (R : Rel K O A B σ H ρ st T) (e : evEs F p ρ st = some ([d], ρ', st'))
    (q : ∀ v A' B' H', Px A A' → Ex B B' → Rel K O A' B' σ H' ρ' st' T → Ho K A' B' v d → Q [v] H') : tEs K F p σ H Q := tEs_of R e fun vs A' B' H' hA hB R' h => by
  obtain ⟨v, rfl, h1⟩ := h.one
  exact q v A' B' H' hA hB R' h1
theorem chEs_len : ∀ {ps : Es} {es : List Expr} {ρ : Env} {st : Sto} {ds : List D} {ρ' : Env} {st' : Sto}, chEs C ps es = true → evEs F ps ρ st = some (ds, ρ', st') → ds.length = es.length
  | .nil, [], _, _, _, _, _, _, e => by simp only [evEs] at e; cases e; rfl
  | .nil, _ :: _, _, _, _, _, _, h, _ => by simp [chEs] at h
  | .cons p ps, [], _, _, _, _, _, h, _ => by simp [chEs] at h
  | .cons p ps, x :: xs, _, _, _, _, _, h, e => by
    simp only [evEs] at e
    obtain ⟨⟨d, ρ1, st1⟩, e1, e⟩ := bindS e
    obtain ⟨⟨ds', ρ2, st2⟩, e2, e⟩ := bindS e
    cases e
    simp only [chEs, Bool.and_eq_true] at h
    simp [chEs_len h.2 e2]
theorem chEs_star : ∀ {ps : Es} {es : List Expr}, chEs C ps es = true → es.all starB = true
  | .nil, [], _ => rfl
  | .nil, _ :: _, h => by simp [chEs] at h
  | .cons p ps, [], h => by simp [chEs] at h
  | .cons p ps, x :: xs, h => by
    simp only [chEs, Bool.and_eq_true] at h
    rw [all_cons_iff]
    exact ⟨h.1.1, chEs_star h.2⟩
theorem star_list {es : List Expr} {env : PySem.Env} (h : es.all starB = true) : starEach es env = es.map fun e => (false, eval e env) := by
  induction es with
  | nil => rfl
  | cons e es ih =>
    rw [all_cons_iff] at h
    rw [star_cons h.1, ih h.2]; rfl
theorem sd_rng (G : GOk P w K mg base k F gl fp kw) (ok : COk P w K mg base k C X) {tg : Expr} {zs : List Expr} {ps : Es} {q0 pos : Pos} (hg : glB C.sc "range" = true) (hc : chEs C ps zs = true) (hl : zs.length = 1 ∨ zs.length = 2 ∨ zs.length = 3) (h : PA X zs (tEs K F ps)) :
    PI X tg (.Call (.Name "range" q0) zs [] pos) (tI K F (.rng ps)) := by
  have hm : X.mg "range" = none := ok.blt G (by decide +kernel)
  have hst := chEs_star hc
  match zs, hl, h, hc, hst with
  | [a], _, h, hc, hst =>
    refine (pi_range1 (ok.gl hg) hm h (star_list hst)).imp fun σ H R hq => ?_
    obtain ⟨O, A, B, ρ, st, T, xs, ρ', st', R0, e, q⟩ := hq
    simp only [evI] at e
    obtain ⟨⟨ds, ρ1, st1⟩, e1, e⟩ := bindS e
    obtain ⟨ys, e2, e⟩ := bindS e
    cases e
    have hlen := chEs_len hc e1
    match ds, hlen, e1, e2 with
    | [d], _, e1, e2 =>
      refine tEs_one R0 e1 fun v A1 B1 H1 hA1 hB1 R1 h1 => ?_
      cases d with
      | int n =>
        cases h1
        simp only [rngD] at e2
        split at e2
        · rename_i ho
          cases e2
          unfold rngOk at ho
          simp only [Bool.and_eq_true, decide_eq_true_eq] at ho
          have w0 : Walks K (Itr 0 n.toNat) A1 B1 (rngL 0 n 1) := by have := walks_rng1 (K := K) (A := A1) (B := B1) (lo := 0) (hi := n); rwa [Int.sub_zero] at this
          exact ⟨n, rfl, by omega, by omega, q _ A1 B1 H1 hA1 hB1 R1 w0⟩
        · cases e2
      | _ => cases e2
  | [a, b], _, h, hc, hst =>
    refine (pi_range2 (ok.gl hg) hm h (star_list hst) (star_list (all_cons_iff.mp hst).2)).imp fun σ H R hq => ?_
    obtain ⟨O, A, B, ρ, st, T, xs, ρ', st', R0, e, q⟩ := hq
    simp only [evI] at e
    obtain ⟨⟨ds, ρ1, st1⟩, e1, e⟩ := bindS e
    obtain ⟨ys, e2, e⟩ := bindS e
    cases e
    have hlen := chEs_len hc e1
    match ds, hlen, e1, e2 with
    | [d, d'], _, e1, e2 =>
      refine tEs_of R0 e1 fun vs A1 B1 H1 hA1 hB1 R1 hl => ?_
      obtain ⟨v, u, rfl, k1, k2⟩ := hl.two
      cases d with
      | int n =>
        cases d' with
        | int m =>
          cases k1; cases k2
          simp only [rngD] at e2
          split at e2
          · rename_i ho
            cases e2
            unfold rngOk at ho
            simp only [Bool.and_eq_true, decide_eq_true_eq] at ho
            exact ⟨n, m, rfl, by omega, q _ A1 B1 H1 hA1 hB1 R1 walks_rng1⟩
          · cases e2
        | _ => cases e2
      | _ => cases e2
  | [a, b, c], _, h, hc, hst =>
    refine (pi_range3 (ok.gl hg) hm h (star_cons (all_cons_iff.mp hst).1) (back_any (all_cons_iff.mp hst).2)).imp fun σ H R hq => ?_
    obtain ⟨O, A, B, ρ, st, T, xs, ρ', st', R0, e, q⟩ := hq
    simp only [evI] at e
    obtain ⟨⟨ds, ρ1, st1⟩, e1, e⟩ := bindS e
    obtain ⟨ys, e2, e⟩ := bindS e
    cases e
    have hlen := chEs_len hc e1
    match ds, hlen, e1, e2 with
    | [d, d', d''], _, e1, e2 =>
      refine tEs_of R0 e1 fun vs A1 B1 H1 hA1 hB1 R1 h1 => ?_
      cases h1 with | cons h1 h0 =>
      obtain ⟨u, z, rfl, h2, h3⟩ := h0.two
      cases d with
      | int n =>
        cases d' with
        | int m =>
          cases d'' with
          | int c =>
            cases h1; cases h2; cases h3
            simp only [rngD] at e2
            split at e2
            · rename_i ho
              cases e2
              unfold rngOk at ho
              simp only [Bool.and_eq_true, decide_eq_true_eq] at ho
              have hN : Builtin.Range.rangeSize n m c = (rngN n m c : Int) := by
                unfold rngN
                have : 0 ≤ Builtin.Range.rangeSize n m c := by
                  unfold Builtin.Range.rangeSize
                  split
                  · split
                    · have := Int.ediv_nonneg (a := m - n - 1) (b := c) (by omega) (by omega); omega
                    · exact Int.le_refl _
                  · split
                    · have := Int.ediv_nonneg (a := n - m - 1) (b := -c) (by omega) (by omega); omega
                    · exact Int.le_refl _
                omega
              exact ⟨n, m, c, rngN n m c, rfl, ⟨by omega, by omega, ho.2, hN⟩, q _ A1 B1 H1 hA1 hB1 R1 walks_rng⟩
            · cases e2
          | _ => cases e2
        | _ => cases d'' <;> cases e2
      | _ => cases d' <;> cases d'' <;> cases e2
theorem sd_enum (G : GOk P w K mg base k F gl fp kw) (ok : COk P w K mg base k C X) {es : List Expr} {kk : Nat} {tp : Pos} {z : Expr} {p : E} {q0 pos : Pos} (hg : glB C.sc "enumerate" = true) (hs : starB z = true) (h : PE X z (tE K F p)) :
    PI X (.Tuple es kk tp) (.Call (.Name "enumerate" q0) [z] [] pos) (tI K F (.enum p)) := by
  have hK := ok.K
  subst hK
  have hm : X.mg "enumerate" = none := ok.blt G (by decide +kernel)
  refine (pi_enumA (ok.gl hg) hm (sd_cons hs h sd_nil) (star_cons hs)).imp fun σ H R hq => ?_
  obtain ⟨O, A, B, ρ, st, T, xs, ρ', st', R0, e, q⟩ := hq
  simp only [evI] at e
  obtain ⟨⟨d, ρ1, st1⟩, e1, e⟩ := bindS e
  obtain ⟨ys, e2, e⟩ := bindS e
  cases e
  have e3 : evEs F (.cons p .nil) ρ st = some ([d], ρ1, st1) := by simp only [evEs, e1]; rfl
  refine tEs_one R0 e3 fun v A1 B1 H1 hA1 hB1 R1 h1 => ?_
  cases d with
  | lst zs =>
    cases e2
    obtain ⟨a, rfl⟩ := h1.isLst
    obtain ⟨vs, _, g1, _⟩ := h1.lstH R1.ex
    exact ⟨a, vs, rfl, .inl ⟨SqL.of g1, q _ A1 B1 H1 hA1 hB1 R1 (walks_enum h1)⟩⟩
  | tup zs =>
    cases e2
    obtain ⟨a, rfl⟩ := h1.isTup
    obtain ⟨vs, g1, g2⟩ := h1.tupH R1.ex
    exact ⟨a, vs, rfl, .inr ⟨g1, q _ A1 B1 H1 hA1 hB1 R1 (walks_enumT h1)⟩⟩
  | _ => cases e2
theorem sd_zip (G : GOk P w K mg base k F gl fp kw) (ok : COk P w K mg base k C X) {es : List Expr} {kk : Nat} {tp : Pos} {z z' : Expr} {p p' : E} {q0 pos : Pos} (hg : glB C.sc "zip" = true) (hs : starB z = true) (hs' : starB z' = true) (h : PE X z (tE K F p)) (h' : PE X z' (tE K F p')) :
    PI X (.Tuple es kk tp) (.Call (.Name "zip" q0) [z, z'] [] pos) (tI K F (.zip p p')) := by
  have hK := ok.K
  subst hK
  have hm : X.mg "zip" = none := ok.blt G (by decide +kernel)
  refine (pi_zipA (ok.gl hg) hm (sd_cons hs h (sd_cons hs' h' sd_nil)) (star_cons hs) (by rw [star_cons hs']; rfl)).imp fun σ H R hq => ?_
  obtain ⟨O, A, B, ρ, st, T, xs, ρ', st', R0, e, q⟩ := hq
  simp only [evI] at e
  obtain ⟨⟨d, ρ1, st1⟩, e1, e⟩ := bindS e
  obtain ⟨⟨d', ρ2, st2⟩, e2, e⟩ := bindS e
  have e3 : evEs F (.cons p (.cons p' .nil)) ρ st = some ([d, d'], ρ2, st2) := by simp [evEs, e1, e2]
  simp only at e
  refine tEs_of R0 e3 fun vs A1 B1 H1 hA1 hB1 R1 hl => ?_
  obtain ⟨v, u, rfl, k1, k2⟩ := hl.two
  split at e
  · cases e
    obtain ⟨a, rfl⟩ := k1.isLst
    obtain ⟨b, rfl⟩ := k2.isLst
    obtain ⟨vs, _, g1, _⟩ := k1.lstH R1.ex
    obtain ⟨ws, _, g2, _⟩ := k2.lstH R1.ex
    exact ⟨a, b, vs, ws, rfl, .inl ⟨SqL.of g1, SqL.of g2, q _ A1 B1 H1 hA1 hB1 R1 (walks_zip k1 k2)⟩⟩
  · cases e
    obtain ⟨a, rfl⟩ := k1.isTup
    obtain ⟨b, rfl⟩ := k2.isTup
    obtain ⟨vs, g1, _⟩ := k1.tupH R1.ex
    obtain ⟨ws, g2, _⟩ := k2.tupH R1.ex
    exact ⟨a, b, vs, ws, rfl, .inr ⟨g1, g2, q _ A1 B1 H1 hA1 hB1 R1 (walks_zipT k1 k2)⟩⟩
  · cases e
theorem sd_rev (G : GOk P w K mg base k F gl fp kw) (ok : COk P w K mg base k C X) {tg : Expr} {z : Expr} {p : E} {q0 pos : Pos} (hg : glB C.sc "reversed" = true) (hs : starB z = true) (h : PE X z (tE K F p)) :
    PI X tg (.Call (.Name "reversed" q0) [z] [] pos) (tI K F (.rev p)) := by
  have hK := ok.K
  subst hK
  have hm : X.mg "reversed" = none := ok.blt G (by decide +kernel)
  refine (pi_revA (ok.gl hg) hm h (star_cons hs)).imp fun σ H R hq => ?_
  obtain ⟨O, A, B, ρ, st, T, xs, ρ', st', R0, e, q⟩ := hq
  simp only [evI] at e
  obtain ⟨⟨d, ρ1, st1⟩, e1, e⟩ := bindS e
  obtain ⟨ys, e2, e⟩ := bindS e
  cases e
  refine tE_V R0 e1 fun v A1 B1 H1 hA1 hB1 R1 h1 => ?_
  cases d with
  | lst zs =>
    cases e2
    obtain ⟨a, rfl⟩ := h1.isLst
    obtain ⟨vs, _, g1, g2⟩ := h1.lstH R1.ex
    refine ⟨a, vs, rfl, .inl ⟨SqL.of g1, ?_⟩⟩
    rw [g2.length]
    exact q _ A1 B1 H1 hA1 hB1 R1 (walks_rev h1)
  | tup zs =>
    cases e2
    obtain ⟨a, rfl⟩ := h1.isTup
    obtain ⟨vs, g1, g2⟩ := h1.tupH R1.ex
    refine ⟨a, vs, rfl, .inr ⟨g1, ?_⟩⟩
    rw [g2.length]
    exact q _ A1 B1 H1 hA1 hB1 R1 (walks_revT h1)
  | _ => cases e2
end
end Pv

namespace Pv
open PySem PySem.Spec PyProof.Rows L2

section
variable {P : Program} {w : World} {K : PySem.W.Frag} {mg : Str → Option Value} {base : Heap} {k : Nat} {F : Tb} {C : SC} {X : Cx} {gl : Str → Bool} {fp : Str → Bool} {kw : Str → Nat → List Str → List Nat → Bool}
/-! ### targets -/
theorem off_refl (sl : List Nat) (σ : L2.St) : off sl σ σ := ⟨rfl, fun _ _ => rfl⟩
theorem off_set (i : Nat) (σ : L2.St) (y : Option V) : off [i] σ (σ.set i y) := ⟨List.length_set, fun j hj => List.getElem?_set_ne (fun e => hj (by simp [e]))⟩
theorem off.trans {a b : List Nat} {σ σ1 σ2 : L2.St} (h : off a σ σ1) (h' : off b σ1 σ2) : off (a ++ b) σ σ2 :=
  ⟨h'.1.trans h.1, fun j hj => by
    rw [List.mem_append] at hj
    rw [h'.2 j (fun q => hj (.inr q)), h.2 j (fun q => hj (.inl q))]⟩
theorem tG_of {t : Tg} {v : V} {σ : L2.St} {H : Hp} {Q : L2.St → Hp → Prop} {O : Org} {A : List Addr} {B : Hp} {ρ : Env} {st : Sto} {T : List (Addr × List D)} {d : D} {ρ' : Env} {st' : Sto} (R : Rel K O A B σ H ρ st T) (h : Ho K A B v d) (e : evTg F t d ρ st = some (ρ', st'))
    (q : ∀ σ' A' B' H', Px A A' → Ex B B' → off t.slots σ σ' → Rel K O A' B' σ' H' ρ' st' T → Q σ' H') : tG K F t v σ H Q := ⟨O, A, B, ρ, st, T, d, ρ', st', R, h, e, q⟩
theorem asgN_val {i : Nat} {d : D} {ρ ρ' : Env} (h : asgN i false d ρ = some ρ') : i < ρ.length ∧ ρ' = ρ.set i (.val d) := by
  unfold asgN at h
  split at h
  · rename_i hi; cases h; exact ⟨hi, rfl⟩
  · cases h
theorem sd_n (ok : COk P w K mg base k C X) {i : Nat} {x : Str} {pos : Pos} (h : C.store i x = true) : PG X (.Name x pos) (tG K F (.n i)) := by
  unfold SC.store at h
  simp only [Bool.and_eq_true, decide_eq_true_eq] at h
  refine (pg_name (by rw [ok.N]; exact ok.nd) (by rw [ok.N]; exact h.1.1.1) (by rw [ok.sc]; exact loc_of h.1.1.2) (ok.tg x h.1.2)).imp fun v σ H Q hq => ?_
  obtain ⟨O, A, B, ρ, st, T, d, ρ', st', R, hv, e, q⟩ := hq
  simp only [evTg] at e
  obtain ⟨ρ1, e1, e2⟩ := mapS e
  cases e2
  obtain ⟨hi, rfl⟩ := asgN_val e1
  exact q _ A B H (Px.refl _) (Ex.refl _) (off_set i σ _) (R.setVal hv)
theorem Rel.slotL {O : Org} {A : List Addr} {B H : Hp} {σ : L2.St} {ρ : Env} {st : Sto} {T : List (Addr × List D)} (R : Rel K O A B σ H ρ st T) {i : Nat} {s : Sl} {ys : List D} (e : ρ[i]? = some s) (h : slotLst st s = some ys) :
    ∃ a vs, σ[i]? = some (some (.ref a)) ∧ H a = some (.lst vs) ∧ B a = none ∧ HoL K A B vs ys := by
  cases s with
  | no => cases h
  | own xs =>
    cases h
    obtain ⟨a, vs, h1, h2, h3, _⟩ := R.updSlot e
    have ci : cont ρ T st (.s i) = some ys := by simp only [cont, e]
    obtain ⟨a', e', o⟩ := R.own (.s i) ys ci
    simp only [adr, h1] at e'
    cases e'
    exact ⟨a, vs, h1, h2, o.1, h3⟩
  | val d =>
    cases d with
    | hd n =>
      obtain ⟨v, h1, h2⟩ := R.val i _ e
      cases h2 with | hd ha =>
      obtain ⟨a', vs, e1, e2, e3, _⟩ := R.updH (n := n) (xs := ys) h
      rw [ha] at e1; cases e1
      obtain ⟨a', e', o⟩ := R.own (.h n) ys h
      simp only [adr, ha] at e'
      cases e'
      exact ⟨_, vs, h1, e2, o.1, e3⟩
    | _ => cases h
theorem setIx_of {xs : List D} {kx d : D} {ys : List D} (h : setIx xs kx d = some ys) : ∃ i j, kx = .int i ∧ ixN xs.length i = some j ∧ ys = xs.set j d := by
  unfold setIx at h
  cases kx with
  | int i =>
    obtain ⟨j, h1, h2⟩ := mapS h
    exact ⟨i, j, rfl, h1, h2.symm⟩
  | _ => cases h
theorem sd_sub (ok : COk P w K mg base k C X) {i : Nat} {x : Str} {b : Expr} {pb : E} {p pos : Pos} (hv : C.var i x = true) (hb : PE X b (tE K F pb)) (hs : sliceB b = true) : PG X (.Subscript (.Name x p) b pos) (tG K F (.sub i pb)) := by
  refine (pg_sub (ok.var hv) hb set_list (fun v => by rw [assign_Subscript]; cases b <;> first | rfl | (simp [sliceB] at hs))).imp fun v σ H Q hq => ?_
  obtain ⟨O, A, B, ρ, st, T, d, ρ', st', R, hd, e, q⟩ := hq
  simp only [evTg] at e
  obtain ⟨sl0, e1, e⟩ := bindS e
  obtain ⟨ys0, e2, e⟩ := bindS e
  obtain ⟨⟨y, ρ1, st1⟩, e3, e⟩ := bindS e
  obtain ⟨a, vs, h1, _, _, _⟩ := R.slotL e1 e2
  refine ⟨_, h1, tE_V R e3 fun u A2 B2 H2 hA2 hB2 R2 h2 => ?_⟩
  have hd2 := hd.mono hA2 hB2
  unfold asgSub at e
  split at e
  · rename_i xs hz
    obtain ⟨ys, e4, e5⟩ := mapS e
    cases e5
    obtain ⟨j, n, rfl, hj, rfl⟩ := setIx_of e4
    cases h2
    obtain ⟨a2, ws, g1, g2, g3, g4⟩ := R2.updSlot hz
    rw [h1] at g1; cases g1
    exact ⟨a, ws, j, n, rfl, rfl, g2, by rw [g3.length]; exact hj, q σ A2 B2 _ hA2 hB2 (off_refl _ _) (g4 _ _ (g3.set hd2 n))⟩
  · rename_i n hs
    obtain ⟨xs, e4, e5⟩ := bindS e
    obtain ⟨ys, e6, e7⟩ := mapS e5
    cases e7
    obtain ⟨j, m, rfl, hj, rfl⟩ := setIx_of e6
    cases h2
    obtain ⟨v2, g5, g6⟩ := R2.val i _ hs
    rw [h1] at g5; cases g5
    cases g6 with | hd ha =>
    obtain ⟨a2, ws, g1, g2, g3, g4⟩ := R2.updH e4
    rw [ha] at g1; cases g1
    exact ⟨_, ws, j, m, rfl, rfl, g2, by rw [g3.length]; exact hj, q σ A2 B2 _ hA2 hB2 (off_refl _ _) (g4 _ _ (g3.set hd2 m))⟩
  · cases e
theorem asg_list {es : List Expr} {env : PySem.Env} (h : es.all starB = true) : assignEach es env = es.map fun e => (false, assign e env) := by
  induction es with
  | nil => rfl
  | cons e es ih =>
    rw [all_cons_iff] at h
    have : assignEach (e :: es) env = (false, assign e env) :: assignEach es env := by
      have h1 := h.1
      cases e <;> first | rfl | (simp [starB] at h1)
    rw [this, ih h.2]; rfl
theorem chTgs_star : ∀ {ts : Tgs} {es : List Expr}, chTgs C ts es = true → es.all starB = true ∧ es.length = ts.len
  | .nil, [], _ => ⟨rfl, rfl⟩
  | .nil, _ :: _, h => by simp [chTgs] at h
  | .cons t ts, [], h => by simp [chTgs] at h
  | .cons t ts, x :: xs, h => by
    simp only [chTgs, Bool.and_eq_true] at h
    have := chTgs_star h.2
    exact ⟨all_cons_iff.mpr ⟨h.1.1, this.1⟩, by simp [Tgs.len, this.2]⟩
theorem sd_tnil : PGs X [] (tGs K F .nil) := ⟨fun pins s σ H vs us Q I r hq => by
  obtain ⟨O, A, B, ρ, st, T, ds, ρ', st', R, hd, e, q⟩ := hq
  simp only [evTgs] at e
  cases e
  exact PyProof.Rows.assignInOrder_nil ⟨σ, H, I, q σ A B H (Px.refl _) (Ex.refl _) (off_refl _ _) R⟩⟩
theorem sd_tcons {e : Expr} {es : List Expr} {t : Tg} {ts : Tgs} (hs : (e :: es).all starB = true) (h1 : PG X e (tG K F t)) (h2 : PGs X es (tGs K F ts)) : PGs X (e :: es) (tGs K F (.cons t ts)) := by
  refine (pgs_cons h1 h2 (by rw [asg_list hs, asg_list (all_cons_iff.mp hs).2]; rfl)).imp fun vs σ H Q hq => ?_
  obtain ⟨O, A, B, ρ, st, T, ds, ρ', st', R, hd, e, q⟩ := hq
  simp only [evTgs] at e
  cases hd with
  | nil => cases e
  | cons k1 k2 =>
    obtain ⟨⟨ρ1, st1⟩, e1, e⟩ := bindS e
    refine ⟨_, _, rfl, tG_of R k1 e1 fun σ1 A1 B1 H1 hA1 hB1 o1 R1 => ?_⟩
    exact ⟨O, A1, B1, ρ1, st1, T, _, _, _, R1, k2.mono hA1 hB1, e, fun σ2 A2 B2 H2 hA2 hB2 o2 R2 => q σ2 A2 B2 H2 (hA1.trans hA2) (hB1.trans hB2) (o1.trans o2) R2⟩
theorem sd_tupT (ok : COk P w K mg base k C X) {es : List Expr} {j : Nat} {ts : Tgs} {pos : Pos} (hs : es.all starB = true) (hl : es.length = ts.len) (h : PGs X es (tGs K F ts)) : PG X (.Tuple es j pos) (tG K F (.tup ts)) := by
  obtain rfl := ok.K
  refine (pg_tup (n := ts.len) ok.calm h (by rw [asg_list hs, List.length_map, hl]) (by rw [asg_list hs, List.findIdx?_map]; simp [Function.comp_def])).imp fun v σ H Q hq => ?_
  obtain ⟨O, A, B, ρ, st, T, d, ρ', st', R, hd, e, q⟩ := hq
  simp only [evTg] at e
  obtain ⟨ds, e1, e0⟩ := bindS e
  unfold unpack at e1
  split at e1
  · rename_i xs
    split at e1
    · rename_i hl2
      cases e1
      obtain ⟨a, rfl⟩ := hd.isTup
      obtain ⟨vs, g1, g2⟩ := hd.tupH R.ex
      exact ⟨a, vs, rfl, g1, by rw [g2.length]; exact hl2, O, A, B, ρ, st, T, _, _, _, R, g2, e0, q⟩
    · cases e1
  · cases e1

/-! ### calls -/
theorem Rel.back {O : Org} {A A' : List Addr} {B B' H H' : Hp} {σ : L2.St} {ρ : Env} {st st' : Sto} {T : List (Addr × List D)} {fr : Bool} {d : D} {v : V} (R : Rel K O A B σ H ρ st T) (b : Back K A B H A' B' H' st' fr d v) :
    EPost K O σ T ρ st' fr d v A' B' H' ∧ Px A A' ∧ Ex B B' := by
  obtain ⟨fw, S, h⟩ := b
  have R' := R.call fw S
  refine ⟨?_, fw.px, fw.ex⟩
  unfold EPost
  cases fr with
  | false =>
    rw [if_neg Bool.false_ne_true] at h ⊢
    exact ⟨R', h⟩
  | true =>
    rw [if_pos rfl] at h ⊢
    obtain ⟨a, xs, rfl, rfl, o, hn, ha⟩ := h
    refine ⟨a, xs, rfl, rfl, R'.pushNew o (fun r ys c e => ?_) (R.hfresh hn)⟩
    -- a handle is in A'; a slot or a temp was there before
    cases r with
    | h n =>
      simp only [adr] at e
      exact ha (List.mem_of_getElem? e)
    | s i =>
      obtain ⟨a', e', _, vs, h2, _⟩ := R.own (.s i) ys c
      have e2 : adr A σ T (.s i) = some a := e
      rw [e2] at e'; cases e'
      rw [hn] at h2; cases h2
    | t i =>
      obtain ⟨a', e', _, vs, h2, _⟩ := R.own (.t i) ys c
      have e2 : adr A σ T (.t i) = some a := e
      rw [e2] at e'; cases e'
      rw [hn] at h2; cases h2
theorem sd_call (G : GOk P w K mg base k F gl fp kw) (ok : COk P w K mg base k C X) {f : Str} {ys : List Expr} {ps : Es} {q0 pos : Pos} (hg : glB C.sc f = true) (hn : plainName f = true) (hf : fp f = true) (hs : ys.all starB = true) (hps : ys = [] → ps = .nil) (h : PA X ys (tEs K F ps)) :
    PE X (.Call (.Name f q0) ys [] pos) (tE K F (.call f ps)) := by
  obtain ⟨fa, fd, pn, m1, m2, m3, m4, m5⟩ := G.fns f hf
  have hP := ok.prog
  have hw := ok.w
  have hK := ok.K
  have hm := ok.mg
  have hb := ok.base
  subst hP hw hK hm hb
  have main : PE X (.Call (.Name f q0) ys [] pos) (tCall (spOf X.K pn.length (F.F f)) [] E0 (tEs X.K F ps)) := by
    cases ys with
    | nil =>
      have hps := hps rfl
      subst hps
      refine (pe_call0 m4 ok.room (ok.gl hg) m1 m2 m3 .nil pass0 (plain_of hn).1).imp fun σ H Q hq => ?_
      obtain ⟨O, A, B, ρ, st, T, ds, ρ', st', R, e, q⟩ := hq
      simp only [evEs] at e
      cases e
      exact q [] A B H (Px.refl _) (Ex.refl _) R .nil
    | cons y ys =>
      have hs' := all_cons_iff.mp hs
      exact pe_call m4 ok.room (ok.gl hg) m1 m2 m3 .nil pass0 h (plain_of hn).1 (star_cons hs'.1) (back_any hs'.2)
  refine main.imp fun σ H Q hq => ?_
  obtain ⟨O, A, B, ρ, st, T, fr, d, ρ', st', R, e, q⟩ := hq
  simp only [evE] at e
  obtain ⟨⟨ds, ρ1, st1⟩, e1, e⟩ := bindS e
  obtain ⟨⟨fr', d', st2⟩, e2, e3⟩ := mapS e
  cases e3
  refine tEs_of R e1 fun vs A1 B1 H1 hA1 hB1 R1 h1 => ?_
  refine ⟨by rw [List.append_nil, h1.length]; exact m5 _ _ _ e2, A1, B1, st1, ds, fr', d', st2, R1.srel, by rw [List.append_nil]; exact h1, e2, fun v A' B' H' hb => ?_⟩
  obtain ⟨p1, p2, p3⟩ := R1.back hb
  exact q v A' B' H' (hA1.trans p2) (hB1.trans p3) p1
end
end Pv

namespace Pv
open PySem PySem.Spec PyProof.Rows L2

inductive PEs (X : Cx) (K : PySem.W.Frag) (F : Tb) : List Expr → Es → Prop
  | nil : PEs X K F [] .nil
  | cons {e : Expr} {es : List Expr} {p : E} {ps : Es} : starB e = true → PE X e (tE K F p) → PEs X K F es ps → PEs X K F (e :: es) (.cons p ps)
section
variable {P : Program} {w : World} {K : PySem.W.Frag} {mg : Str → Option Value} {base : Heap} {k : Nat} {F : Tb} {C : SC} {X : Cx} {gl : Str → Bool} {fp : Str → Bool} {kw : Str → Nat → List Str → List Nat → Bool}
theorem PEs.pa {es : List Expr} {ps : Es} (h : PEs X K F es ps) : PA X es (tEs K F ps) := by
  induction h with
  | nil => exact sd_nil
  | cons hs he _ ih => exact sd_cons hs he ih
theorem PEs.star {es : List Expr} {ps : Es} (h : PEs X K F es ps) : es.all starB = true := by
  induction h with
  | nil => rfl
  | cons hs he _ ih => exact all_cons_iff.mpr ⟨hs, ih⟩
theorem PEs.nilE {ps : Es} (h : PEs X K F [] ps) : ps = .nil := by cases h; rfl
theorem pk_of : ∀ {kws : List Keyword} {ps : Es}, PEs X K F (kws.map (·.value)) ps → PK X kws (tEs K F ps)
  | [], ps, h => by
    cases h
    exact ⟨fun pos pins s σ H Q I hq => pk_nil.run pos pins s σ H Q I (by
      obtain ⟨O, A, B, ρ, st, T, ds, ρ', st', R, e, q⟩ := hq
      simp only [evEs] at e
      cases e
      exact q [] A B H (Px.refl _) (Ex.refl _) R .nil)⟩
  | ⟨n, v, p⟩ :: kws, ps, h => by
    cases h with | cons hs he ht =>
    exact ⟨fun pos pins s σ H Q I hq => (pk_cons he (pk_of ht)).run pos pins s σ H Q I (by
      obtain ⟨O, A, B, ρ, st, T, ds, ρ', st', R, e, q⟩ := hq
      simp only [evEs] at e
      obtain ⟨⟨x, ρ1, st1⟩, e1, e⟩ := bindS e
      obtain ⟨⟨xs, ρ2, st2⟩, e2, e⟩ := bindS e
      cases e
      refine tE_V R e1 fun v A1 B1 H1 hA1 hB1 R1 h1 => ?_
      exact ⟨O, A1, B1, ρ1, st1, T, xs, _, _, R1, e2, fun vs A2 B2 H2 hA2 hB2 R2 h2 => q _ A2 B2 H2 (hA1.trans hA2) (hB1.trans hB2) R2 (.cons (h1.mono hA2 hB2) h2)⟩)⟩
theorem kw_names {env : PySem.Env} {pos : Pos} : ∀ {kws : List Keyword} {ks : List Str}, kwB kws ks = true → (backToKw pos (keywordEach kws env)).all (·.1.isSome) = true ∧ (backToKw pos (keywordEach kws env)).filterMap (·.1) = ks ∧ kws.length = ks.length ∧ (backToKw pos (keywordEach kws env)).any (·.1.isNone) = false
  | [], [], _ => ⟨rfl, rfl, rfl, rfl⟩
  | [], _ :: _, h => by simp [kwB] at h
  | _ :: _, [], h => by simp [kwB] at h
  | ⟨a, v, p⟩ :: kws, n :: ks, h => by
    simp only [kwB, Bool.and_eq_true, decide_eq_true_eq] at h
    obtain ⟨h1, h2⟩ := h
    subst h1
    obtain ⟨i1, i2, i3, i4⟩ := kw_names (env := env) (pos := pos) h2
    refine ⟨?_, ?_, by simp [i3], ?_⟩
    · show (_ && _) = true
      exact Bool.and_eq_true_iff.mpr ⟨rfl, i1⟩
    · show n :: _ = n :: ks
      exact congrArg (n :: ·) i2
    · show (_ || _) = false
      exact Bool.or_eq_false_iff.mpr ⟨rfl, i4⟩
theorem vals_pick {vs : List V} {us : List Value} (h : Vals vs us) : ∀ perm : List Nat, Vals (perm.filterMap fun j => vs[j]?) (perm.filterMap fun j => us[j]?)
  | [] => .nil
  | j :: perm => by
    rw [List.filterMap_cons, List.filterMap_cons]
    cases e : vs[j]? with
    | none => rw [Vals.none_of h e]; exact vals_pick h perm
    | some v =>
      obtain ⟨u, e2, r⟩ := Vals.get h e
      rw [e2]
      exact .cons r (vals_pick h perm)
theorem hol_pick {A : List Addr} {B : Hp} {vs : List V} {ds : List D} (h : HoL K A B vs ds) : ∀ perm : List Nat, HoL K A B (perm.filterMap fun j => vs[j]?) (perm.filterMap fun j => ds[j]?)
  | [] => .nil
  | j :: perm => by
    rw [List.filterMap_cons, List.filterMap_cons]
    cases e : vs[j]? with
    | none =>
      have : ds[j]? = none := by
        rw [List.getElem?_eq_none_iff] at e ⊢
        rw [← h.length]; exact e
      rw [this]; exact hol_pick h perm
    | some v =>
      obtain ⟨d, e2, r⟩ := h.getV e
      rw [e2]
      exact .cons r (hol_pick h perm)
def pickV (np nk : Nat) (perm : List Nat) (vs zs : List V) : List V := if vs.length = np ∧ zs.length = nk then perm.filterMap fun j => (vs ++ zs)[j]? else []
def pickU (np nk : Nat) (perm : List Nat) (vs zs : List Value) : List Value := if vs.length = np ∧ zs.length = nk then perm.filterMap fun j => (vs ++ zs)[j]? else []
theorem kbinds_of {fd : FuncData} {ps ks : List Str} {np : Nat} {perm : List Nat} (h0 : 0 < ps.length) (h : ∀ (s : Shared) (us ws : List Value), us.length = np → ws.length = ks.length → BindsTo s fd ⟨us, ks.zip ws⟩ (ps.zip (perm.filterMap fun j => (us ++ ws)[j]?)) ∧ (perm.filterMap fun j => (us ++ ws)[j]?).length = ps.length) :
    KBinds K fd ps ks (pickU np ks.length perm) (pickV np ks.length perm) := by
  refine ⟨fun s us ws _ hl => ?_, fun {vs us zs ws} hv hz => ?_⟩
  · unfold pickU at hl ⊢
    split at hl
    · rename_i hc
      rw [if_pos hc]
      exact (h s us ws hc.1 hc.2).1
    · simp at hl; omega
  · unfold pickU pickV
    rw [hv.length, hz.length]
    split
    · exact vals_pick (hv.append hz) perm
    · exact .nil
/-- f(k = v, ..), no positional argument -/
theorem pe_callK0 {CX : CXT} {kk : Nat} {f : Addr} {fd : FuncData} {ps ks : List Str} {sp : Sp} {E : XK} {x : Str} {p pos : Pos} {kws : List Keyword} {tk : TA} {g : List Value → List Value → List Value} {gV : List V → List V → List V}
    (Fo : FnOk X.prog X.w X.K X.mg X.base CX kk f fd ps sp) (hr : Room kk X.A) (hg : Gl X x) (hm : X.mg x = some (.ref f)) (hk : PySem.W.keepIn X.K (.ref f) = true) (hb : KBinds X.K fd ps ks g gV) (hx : Passes CX X E)
    (hkw : PK X kws tk) (hall : (backToKw pos (keywordEach kws X.env)).all (·.1.isSome) = true) (hks : (backToKw pos (keywordEach kws X.env)).filterMap (·.1) = ks)
    (hdb : (x == ("__debug__" : Str)) = false) (hpl : (backToKw pos (keywordEach kws X.env)).any (·.1.isNone) = false) :
    PE X (.Call (.Name x p) [] kws pos) (tCallK sp gV E tNil tk) := by
  refine ⟨fun pins s σ H Q I h => ?_⟩
  refine wpAny_Call_Name_kw (ld_glob I hg hm ?_ hdb)
  refine PySem.W.callWith_KW0 (h₀ := X.base) I.ok.mod.kin hk hall (thn (hkw.run pos pins s σ H _ I h) fun ws s2 ⟨zs, H2, I2, rz, q2⟩ => ⟨I2.kIn, ?_⟩) (by show (false || _) = false; rw [hpl]; rfl)
  rw [hks]
  exact run_fnk Fo hr hb hx I2 .nil rz q2
theorem sd_callk (G : GOk P w K mg base k F gl fp kw) (ok : COk P w K mg base k C X) {f : Str} {ys : List Expr} {kws : List Keyword} {ps kps : Es} {ks : List Str} {perm : List Nat} {q0 pos : Pos} (hg : glB C.sc f = true) (hn : plainName f = true) (hf : kw f ys.length ks perm = true) (hk : kwB kws ks = true)
    (h : PEs X K F ys ps) (h' : PEs X K F (kws.map (·.value)) kps) (hl : ∀ ρ st ds ρ' st', evEs F ps ρ st = some (ds, ρ', st') → ds.length = ys.length) (hl' : ∀ ρ st ds ρ' st', evEs F kps ρ st = some (ds, ρ', st') → ds.length = kws.length) :
    PE X (.Call (.Name f q0) ys kws pos) (tE K F (.callk f ps ks kps perm)) := by
  obtain ⟨fa, fd, pn, m1, m2, m4, m5⟩ := G.kws f _ ks perm hf
  have hP := ok.prog
  have hw := ok.w
  have hK := ok.K
  have hm := ok.mg
  have hb := ok.base
  subst hP hw hK hm hb
  obtain ⟨n1, n2, n3, n4⟩ := kw_names (env := X.env) (pos := pos) hk
  have kb := kbinds_of (K := X.K) m5.1 m5.2.1
  have main : PE X (.Call (.Name f q0) ys kws pos) (tCallK (spOf X.K pn.length (F.F f)) (pickV ys.length ks.length perm) E0 (tEs X.K F ps) (tEs X.K F kps)) := by
    cases ys with
    | nil =>
      have hps := h.nilE
      subst hps
      refine (pe_callK0 m4 ok.room (ok.gl hg) m1 m2 kb pass0 (pk_of h') n1 n2 (plain_of hn).1 n4).imp fun σ H Q hq => ?_
      obtain ⟨O, A, B, ρ, st, T, ds, ρ', st', R, e, q⟩ := hq
      simp only [evEs] at e
      cases e
      exact q [] A B H (Px.refl _) (Ex.refl _) R .nil
    | cons y ys =>
      have hs' := all_cons_iff.mp h.star
      exact pe_callK m4 ok.room (ok.gl hg) m1 m2 kb pass0 h.pa (pk_of h') n1 n2 (plain_of hn).1 (star_cons hs'.1) (by rw [back_any h.star, n4]; rfl)
  refine main.imp fun σ H Q hq => ?_
  obtain ⟨O, A, B, ρ, st, T, fr, d, ρ', st', R, e, q⟩ := hq
  simp only [evE] at e
  obtain ⟨⟨ds, ρ1, st1⟩, e1, e⟩ := bindS e
  obtain ⟨⟨es, ρ2, st2⟩, e2, e⟩ := bindS e
  obtain ⟨⟨fr', d', st3⟩, e3, e4⟩ := mapS e
  cases e4
  refine tEs_of R e1 fun vs A1 B1 H1 hA1 hB1 R1 h1 => ?_
  refine tEs_of R1 e2 fun zs A2 B2 H2 hA2 hB2 R2 h2 => ?_
  have l1 : vs.length = ys.length := by rw [h1.length]; exact hl _ _ _ _ _ e1
  have l2 : zs.length = ks.length := by rw [h2.length, ← n3]; exact hl' _ _ _ _ _ e2
  have pick : HoL X.K A2 B2 (pickV ys.length ks.length perm vs zs) (perm.filterMap fun j => (ds ++ es)[j]?) := by
    unfold pickV
    rw [if_pos ⟨l1, l2⟩]
    exact hol_pick ((h1.mono hA2 hB2).append h2) perm
  refine ⟨?_, A2, B2, st2, _, fr', d', st3, R2.srel, pick, e3, fun v A' B' H' hb => ?_⟩
  · rw [pick.length]; exact m5.2.2 _ _ _ e3
  · obtain ⟨p1, p2, p3⟩ := R2.back hb
    exact q v A' B' H' ((hA1.trans hA2).trans p2) ((hB1.trans hB2).trans p3) p1
/-! ### methods of lists -/
theorem mt_plain (m : Mt) : Slot "list" (mtName m) (mtId m) ∧ typeOf (.builtin (mtId m)) = pure (.type "method_descriptor") := by
  cases m with
  | append => exact ⟨PySem.F.slot_list_append, PySem.F.type_list_append⟩
  | pop => exact ⟨PySem.F.slot_list_pop, PySem.F.type_list_pop⟩
  | popAt => exact ⟨PySem.F.slot_list_pop, PySem.F.type_list_pop⟩
  | extend => exact ⟨PySem.F.slot_list_extend, PySem.F.type_list_extend⟩
/-- the reading of a method's call, its receiver first -/
def tMt (K : PySem.W.Frag) (m : Mt) (to : TE) (t : TA) : TE := fun σ H Q => to σ H fun x H1 => tyV K "list" x H1 ∧ t σ H1 fun xs H2 => rMt K m x xs H2 Q
theorem pe_mt {m : Mt} {o : Expr} {to : TE} {ys : List Expr} {ps : Es} {p q0 : Pos} (ho : PE X o to) (h : PEs X X.K F ys ps) (hc : isCall0 o = false) (hl : (p.endLine == q0.line) = true) (hf : ys.length < 20) (mono : ∀ σ H (Q Q' : VK), (∀ v H, Q v H → Q' v H) → to σ H Q → to σ H Q') : PE X (.Call (.Attribute o (mtName m) p) ys [] q0) (tMt X.K m to (tEs X.K F ps)) := by
  cases ys with
  | nil =>
    have hps := h.nilE
    subst hps
    refine (pe_bm0 PySem.F.plainAttrs_list (mt_plain m).1 (mt_plain m).2 (mtR_all m) ho (attr_base hc) hl).imp fun σ H Q hq => mono σ H _ _ (fun x H1 ht => ?_) hq
    obtain ⟨ht, O, A, B, ρ, st, T, ds, ρ', st', R, e, q⟩ := ht
    simp only [evEs] at e
    cases e
    exact ⟨ht, q [] A B H1 (Px.refl _) (Ex.refl _) R .nil⟩
  | cons y ys =>
    have hs' := all_cons_iff.mp h.star
    exact pe_bm PySem.F.plainAttrs_list (mt_plain m).1 (mt_plain m).2 (mtR_all m) ho h.pa (attr_base hc) (few_ok h.star hf) hl (star_cons hs'.1) (back_any hs'.2)
theorem mthR_of {m : Mt} {i : Nat} {ds : List D} {ρ ρ' : Env} {st st' : Sto} {d : D} (h : mthR m i ds ρ st = some (d, ρ', st')) :
    (∃ xs ys, ρ[i]? = some (.own xs) ∧ mtD m xs ds = some (d, ys) ∧ ρ' = ρ.set i (.own ys) ∧ st' = st) ∨ (∃ n xs ys, ρ[i]? = some (.val (.hd n)) ∧ st[n]? = some xs ∧ mtD m xs ds = some (d, ys) ∧ ρ' = ρ ∧ st' = st.set n ys) := by
  unfold mthR at h
  split at h
  · rename_i xs hx
    obtain ⟨⟨d', ys⟩, e1, e2⟩ := mapS h
    cases e2
    exact .inl ⟨xs, ys, hx, e1, rfl, rfl⟩
  · rename_i n hx
    obtain ⟨xs, e0, h⟩ := bindS h
    obtain ⟨⟨d', ys⟩, e1, e2⟩ := mapS h
    cases e2
    exact .inr ⟨n, xs, ys, hx, e0, e1, rfl, rfl⟩
  · cases h
theorem sd_mth (ok : COk P w K mg base k C X) {m : Mt} {i : Nat} {x : Str} {ys : List Expr} {ps : Es} {p0 p q0 : Pos} (hv : C.var i x = true) (h : PEs X K F ys ps) (hl : (p.endLine == q0.line) = true) (hf : ys.length < 20) :
    PE X (.Call (.Attribute (.Name x p0) (mtName m) p) ys [] q0) (tE K F (.mth m i ps)) := by
  have hK := ok.K
  subst hK
  refine (pe_mt (m := m) (ok.var hv) h rfl hl hf (fun σ H Q Q' hQ hq => by obtain ⟨v, e, q⟩ := hq; exact ⟨v, e, hQ _ _ q⟩)).imp fun σ H Q hq => ?_
  obtain ⟨O, A, B, ρ, st, T, fr, d, ρ', st', R, e, q⟩ := hq
  simp only [evE] at e
  obtain ⟨sl0, e1, e⟩ := bindS e
  obtain ⟨ys0, e2, e⟩ := bindS e
  obtain ⟨⟨ds, ρ1, st1⟩, e3, e⟩ := bindS e
  obtain ⟨⟨d', ρ2, st2⟩, e4, e5⟩ := mapS e
  cases e5
  obtain ⟨a, vs, h1, h2, _, _⟩ := R.slotL e1 e2
  refine ⟨_, h1, .inl ⟨rfl, vs, SqL.of h2⟩, tEs_of R e3 fun us A1 B1 H1 hA1 hB1 R1 hu => ?_⟩
  rcases mthR_of e4 with ⟨xs, zs, g1, g2, rfl, rfl⟩ | ⟨n, xs, zs, g1, g0, g2, rfl, rfl⟩
  · obtain ⟨a2, ws, f1, f2, f3, f4⟩ := R1.updSlot g1
    obtain ⟨a3, _, k1, k2, k3, _⟩ := R1.slotL (ys := xs) g1 rfl
    rw [h1] at f1 k1; cases f1; cases k1
    exact ⟨A1, B1, a, ws, xs, ds, d, zs, rfl, R1.ex, k3, f2, f3, hu, g2, fun v us hv hl => q v _ _ _ hA1 hB1 (.val (f4 _ _ hl) hv)⟩
  · obtain ⟨v2, g5, g6⟩ := R1.val i _ g1
    rw [h1] at g5; cases g5
    cases g6 with | hd ha =>
    obtain ⟨a2, ws, f1, f2, f3, f4⟩ := R1.updH g0
    rw [ha] at f1; cases f1
    obtain ⟨a3, _, k1, k2, k3, _⟩ := R1.slotL (ys := xs) g1 g0
    rw [h1] at k1; cases k1
    exact ⟨A1, B1, _, ws, xs, ds, d, zs, rfl, R1.ex, k3, f2, f3, hu, g2, fun v us hv hl => q v _ _ _ hA1 hB1 (.val (f4 _ _ hl) hv)⟩
theorem sd_mthH (ok : COk P w K mg base k C X) {m : Mt} {o : Expr} {po : E} {ys : List Expr} {ps : Es} {p q0 : Pos} (ho : PE X o (tE K F po)) (hc : isCall0 o = false) (h : PEs X K F ys ps) (hl : (p.endLine == q0.line) = true) (hf : ys.length < 20) :
    PE X (.Call (.Attribute o (mtName m) p) ys [] q0) (tE K F (.mthH m po ps)) := by
  have hK := ok.K
  subst hK
  refine (pe_mt (m := m) ho h hc hl hf (fun σ H Q Q' hQ hq => by
    obtain ⟨O, A, B, ρ, st, T, fr, d, ρ', st', R, e, q⟩ := hq
    exact ⟨O, A, B, ρ, st, T, fr, d, ρ', st', R, e, fun v A' B' H' a b c => hQ _ _ (q v A' B' H' a b c)⟩)).imp fun σ H Q hq => ?_
  obtain ⟨O, A, B, ρ, st, T, fr, d, ρ', st', R, e, q⟩ := hq
  simp only [evE] at e
  obtain ⟨⟨x, ρ1, st1⟩, e1, e⟩ := bindS e
  obtain ⟨⟨ds, ρ2, st2⟩, e2, e⟩ := bindS e
  obtain ⟨⟨d', st3⟩, e3, e4⟩ := mapS e
  cases e4
  cases x with
  | hd n =>
    simp only [mthHR] at e3
    obtain ⟨xs, g0, e3⟩ := bindS e3
    obtain ⟨⟨d2, zs⟩, g2, e4⟩ := mapS e3
    cases e4
    refine tE_V R e1 fun v A1 B1 H1 hA1 hB1 R1 h1 => ?_
    cases h1 with | hd ha =>
    have hn : n < st1.length := by rw [← R1.al]; exact (List.getElem?_eq_some_iff.mp ha).1
    obtain ⟨a0, ws0, f0, f00, _, _⟩ := R1.updH (List.getElem?_eq_getElem hn)
    rw [ha] at f0; cases f0
    refine ⟨.inl ⟨rfl, _, SqL.of f00⟩, tEs_of R1 e2 fun us A2 B2 H2 hA2 hB2 R2 hu => ?_⟩
    have ha2 := hA2 _ _ ha
    obtain ⟨a2, ws, f1, f2, f3, f4⟩ := R2.updH g0
    rw [ha2] at f1; cases f1
    obtain ⟨a3, k1, k2⟩ := R2.own (.h n) xs g0
    simp only [adr, ha2] at k1; cases k1
    exact ⟨A2, B2, _, ws, xs, ds, _, zs, rfl, R2.ex, k2.1, f2, f3, hu, g2, fun v us hv hl => q v _ _ _ (hA1.trans hA2) (hB1.trans hB2) (.val (f4 _ _ hl) hv)⟩
  | _ => cases e3
/-! ### the rest of the expressions -/
theorem in_pre {ok : COk P w X.K mg base k C X} {pa : E} {i : Nat} (neg : Bool) (σ : L2.St) (H : Hp) (Q : VK) (hq : ∃ O A B ρ st T d ρ' st', Rel X.K O A B σ H ρ st T ∧ (∃ x ρ1 st1 sl ys t, vv (evE F pa ρ st) = some (x, ρ1, st1) ∧ ρ1[i]? = some sl ∧ slotSeq st1 sl = some ys ∧ inD x ys = some t ∧ d = D.bl (if neg then !t else t) ∧ ρ' = ρ1 ∧ st' = st1) ∧
      ∀ v A' B' H', Px A A' → Ex B B' → EPost X.K O σ T ρ' st' false d v A' B' H' → Q v H') : tOp (rIn X.K neg) (tE X.K F pa) (tVar i) σ H Q := by
  obtain ⟨O, A, B, ρ, st, T, d, ρ', st', R, ⟨x, ρ1, st1, sl, ys, t, e1, e2, e3, e4, rfl, rfl, rfl⟩, q⟩ := hq
  refine tE_V R e1 fun v A1 B1 H1 hA1 hB1 R1 h1 => ?_
  obtain ⟨b, vs, g1, g2, g3⟩ := R1.sigma e2 e3
  refine ⟨_, g1, b, vs, rfl, g2, ?_⟩
  unfold inD at e4
  split at e4
  · rename_i f
    rw [Bool.and_eq_true] at f
    refine ⟨h1.flatV f.1, g3.flatV f.2, ?_⟩
    rw [inV_of h1 f.1 g3 f.2, Option.some.inj e4]
    have := q (.bl (if neg then !t else t)) _ _ _ hA1 hB1 (.val R1 (.bl _))
    cases neg <;> exact this
  · cases e4
theorem imp_in (ok : COk P w X.K mg base k C X) {pa : E} {i : Nat} {x : Str} (hv : C.var i x = true) (σ : L2.St) (H : Hp) (Q : VK) (hq : tE X.K F (.cmpv .In pa i) σ H Q) : tOp (rIn X.K false) (tE X.K F pa) (tVar i) σ H Q := by
  refine in_pre (ok := ok) false σ H Q ?_
  obtain ⟨O, A, B, ρ, st, T, fr, d, ρ', st', R, e, q⟩ := hq
  simp only [evE] at e
  obtain ⟨⟨x, ρ1, st1⟩, e1, e⟩ := bindS e
  obtain ⟨sl, e2, e⟩ := bindS e
  obtain ⟨ys, e3, e⟩ := bindS e
  obtain ⟨t, e4, e5⟩ := mapS e
  cases e5
  exact ⟨O, A, B, ρ, st, T, _, _, _, R, ⟨x, _, _, sl, ys, t, e1, e2, e3, e4, rfl, rfl, rfl⟩, q⟩
theorem imp_notin (ok : COk P w X.K mg base k C X) {pa : E} {i : Nat} {x : Str} (hv : C.var i x = true) (σ : L2.St) (H : Hp) (Q : VK) (hq : tE X.K F (.cmpv .NotIn pa i) σ H Q) : tOp (rIn X.K true) (tE X.K F pa) (tVar i) σ H Q := by
  refine in_pre (ok := ok) true σ H Q ?_
  obtain ⟨O, A, B, ρ, st, T, fr, d, ρ', st', R, e, q⟩ := hq
  simp only [evE] at e
  obtain ⟨⟨x, ρ1, st1⟩, e1, e⟩ := bindS e
  obtain ⟨sl, e2, e⟩ := bindS e
  obtain ⟨ys, e3, e⟩ := bindS e
  obtain ⟨t, e4, e5⟩ := mapS e
  cases e5
  exact ⟨O, A, B, ρ, st, T, _, _, _, R, ⟨x, _, _, sl, ys, t, e1, e2, e3, e4, rfl, rfl, rfl⟩, q⟩
theorem sd_cmpv (ok : COk P w K mg base k C X) {o : CmpOp} {a : Expr} {pa : E} {i : Nat} {x : Str} {p pos : Pos} (ha : PE X a (tE K F pa)) (hv : C.var i x = true) : PE X (.Compare a [o] [.Name x p] pos) (tE K F (.cmpv o pa i)) := by
  have hK := ok.K
  subst hK
  cases o with
  | In => exact (pe_cmpR op_in_seq ha (ok.var hv) rfl).imp (imp_in ok hv)
  | NotIn => exact (pe_cmpR op_notIn_seq ha (ok.var hv) rfl).imp (imp_notin ok hv)
  | _ =>
    refine ⟨fun pins s σ H Q I hq => ?_⟩
    obtain ⟨O, A, B, ρ, st, T, fr, d, ρ', st', R, e, q⟩ := hq
    simp only [evE] at e
    obtain ⟨⟨x, ρ1, st1⟩, e1, e⟩ := bindS e
    obtain ⟨sl, e2, e⟩ := bindS e
    obtain ⟨ys, e3, e⟩ := bindS e
    cases e
end
end Pv

namespace Pv
open PySem PySem.Spec PyProof.Rows L2

section
variable {P : Program} {w : World} {K : PySem.W.Frag} {mg : Str → Option Value} {base : Heap} {k : Nat} {F : Tb} {C : SC} {X : Cx} {gl : Str → Bool} {fp : Str → Bool} {kw : Str → Nat → List Str → List Nat → Bool}
variable {O : Org} {A : List Addr} {B H : Hp} {σ σ' : L2.St} {ρ : Env} {st : Sto} {T : List (Addr × List D)}
/-! ### wiped slots -/
theorem wipe_get : ∀ (vs : List Nat) (j : Nat), (wipe σ vs)[j]? = if j ∈ vs then (if j < σ.length then some none else none) else σ[j]?
  | [], j => by simp [wipe]
  | v :: vs, j => by
    unfold wipe
    by_cases h : v = j
    · subst h
      rw [if_pos List.mem_cons_self]
      by_cases hl : v < σ.length
      · rw [List.getElem?_set_self (by rw [wipe_length]; exact hl), if_pos hl]
      · rw [if_neg hl, List.getElem?_eq_none (by rw [List.length_set, wipe_length]; omega)]
    · rw [List.getElem?_set_ne h, wipe_get vs j]
      have : (j ∈ v :: vs) ↔ j ∈ vs := by simp [Ne.symm h]
      by_cases hm : j ∈ vs
      · rw [if_pos hm, if_pos (this.mpr hm)]
      · rw [if_neg hm, if_neg (fun z => hm (this.mp z))]
theorem wipeE_get : ∀ (vs : List Nat) (j : Nat), (wipeE ρ vs)[j]? = if j ∈ vs then (if j < ρ.length then some .no else none) else ρ[j]?
  | [], j => by simp [wipeE]
  | v :: vs, j => by
    have hlen : ∀ vs : List Nat, (wipeE ρ vs).length = ρ.length := fun vs => by
      induction vs with
      | nil => rfl
      | cons v vs ih => unfold wipeE; rw [List.length_set, ih]
    unfold wipeE
    by_cases h : v = j
    · subst h
      rw [if_pos List.mem_cons_self]
      by_cases hl : v < ρ.length
      · rw [List.getElem?_set_self (by rw [hlen]; exact hl), if_pos hl]
      · rw [if_neg hl, List.getElem?_eq_none (by rw [List.length_set, hlen]; omega)]
    · rw [List.getElem?_set_ne h, wipeE_get vs j]
      have : (j ∈ v :: vs) ↔ j ∈ vs := by simp [Ne.symm h]
      by_cases hm : j ∈ vs
      · rw [if_pos hm, if_pos (this.mpr hm)]
      · rw [if_neg hm, if_neg (fun z => hm (this.mp z))]
theorem wipe_eq {vs : List Nat} (h : off vs σ σ') : wipe σ' vs = wipe σ vs := by
  apply List.ext_getElem?
  intro j
  rw [wipe_get, wipe_get, h.1]
  by_cases hm : j ∈ vs
  · rw [if_pos hm, if_pos hm]
  · rw [if_neg hm, if_neg hm, h.2 j hm]
theorem off_wipe (σ : L2.St) (vs : List Nat) : off vs σ (wipe σ vs) := ⟨wipe_length σ vs, fun j hj => by rw [wipe_get, if_neg hj]⟩
theorem off.mono {a b : List Nat} (h : off a σ σ') (hs : ∀ j, j ∈ a → j ∈ b) : off b σ σ' := ⟨h.1, fun j hj => h.2 j fun z => hj (hs j z)⟩
theorem Rel.wipe (R : Rel K O A B σ H ρ st T) : ∀ vs : List Nat, Rel K O A B (L2.wipe σ vs) H (wipeE ρ vs) st T
  | [] => R
  | v :: vs => (R.wipe vs).setNo
theorem Rel.unwipe {vs : List Nat} (R : Rel K O A B (L2.wipe σ vs) H (wipeE ρ vs) st T) : Rel K O A B σ H (wipeE ρ vs) st T := by
  refine R.resig (wipe_length σ vs).symm fun j hj => ?_
  rw [wipe_get]
  by_cases hm : j ∈ vs
  · rw [if_pos hm]
    have hl : (wipeE ρ vs).length = σ.length := by rw [← R.len, wipe_length]
    by_cases hj2 : j < σ.length
    · refine absurd ?_ hj
      rw [wipeE_get, if_pos hm, if_pos]
      have hlen : (wipeE ρ vs).length = ρ.length := by
        clear R hj hl hm
        induction vs with
        | nil => rfl
        | cons v vs ih => unfold wipeE; rw [List.length_set, ih]
      omega
    · rw [if_neg hj2, List.getElem?_eq_none (by omega)]
  · rw [if_neg hm]
theorem COk.blk (ok : COk P w K mg base k C X) (scope : Scope) (s : Shared) (H : Hp) (Cc : Addr) (cl : List (Str × Addr)) (fpp : List Addr) (hk : scope.kind = .function) : COk P w K mg base k (C.blk scope) (X.blk s H scope (compEnvC scope cl Cc X.env) fpp) := by
  refine ⟨ok.prog, ok.w, ok.K, ok.mg, ok.base, ok.N, ok.nd, ?_, ok.room, ok.calm, fun x hx => ?_, hk, rfl⟩
  · show relS scope X.env.scope = relS scope C.sc
    rw [ok.sc]
  · have hx : (match scope.names.lookup x with | some .cell => true | some .local => true | _ => false) = true := hx
    split at hx
    · rename_i e
      refine .inl ?_
      show (scope.names.lookup x == some .cell) = true
      rw [e]; rfl
    · rename_i e
      refine .inr ?_
      show (relS scope X.env.scope).names.lookup x = some .local
      exact lookup_relS_keep (by decide) e
    · cases hx
theorem tCo_of {c : Co} {Q : Bool → Hp → Prop} {b : Bool} {ρ' : Env} {st' : Sto} (R : Rel K O A B σ H ρ st T) (e : evC F c ρ st = some (b, ρ', st'))
    (q : ∀ A' B' H', Px A A' → Ex B B' → Rel K O A' B' σ H' ρ' st' T → Q b H') : tCo K F c σ H Q := ⟨O, A, B, ρ, st, T, b, ρ', st', R, e, q⟩
theorem sd_cno : PTs X [] (tCo K F .no) := pts_nil.imp fun σ H Q hq => by
  obtain ⟨O, A, B, ρ, st, T, b, ρ', st', R, e, q⟩ := hq
  simp only [evC] at e
  cases e
  exact q A B H (Px.refl _) (Ex.refl _) R
theorem sd_cso {x : Expr} {c : Cn} (h : PT X x (tCn K F c)) : PTs X [x] (tCo K F (.so c)) := (pts_one h).imp fun σ H Q hq => by
  obtain ⟨O, A, B, ρ, st, T, b, ρ', st', R, e, q⟩ := hq
  simp only [evC] at e
  exact ⟨O, A, B, ρ, st, T, b, ρ', st', R, e, q⟩
/-! ### a list comprehension -/
theorem sd_lc {e tg iter : Expr} {ifs : List Expr} {scope : Scope} {own : List (Str × Nat)} {pe : E} {pt : Tg} {pi : I} {pc : Co} {pos : Pos} (ok : COk P w K mg base k C X) (hb : blkC C.N C.sc scope own = true) (hi : PI X tg iter (tI K F pi))
    (hg : ∀ (s : Shared) (H : Hp) (Cc : Addr) (cl : List (Str × Addr)) (fpp : List Addr), PG (X.blk s H scope (compEnvC scope cl Cc X.env) fpp) tg (tG K F pt))
    (ht : ∀ (s : Shared) (H : Hp) (Cc : Addr) (cl : List (Str × Addr)) (fpp : List Addr), PTs (X.blk s H scope (compEnvC scope cl Cc X.env) fpp) ifs (tCo K F pc))
    (he : ∀ (s : Shared) (H : Hp) (Cc : Addr) (cl : List (Str × Addr)) (fpp : List Addr), PE (X.blk s H scope (compEnvC scope cl Cc X.env) fpp) e (tE K F pe))
    (hs : ∀ x, foldedSetIterable iter X.env x = pure x) (hsl : ∀ j ∈ pt.slots, j ∈ own.map (·.2)) :
    ∀ σ H Q, tE K F (.lc pe pt pi pc own) σ H Q → tLc (tI K F pi) (tG K F pt) (tCo K F pc) (tE K F pe) (own.map (·.2)) σ H Q := by
  intro σ H Q hq
  obtain ⟨O, A, B, ρ, st, T, fr, d, ρ', st', R, ev, q⟩ := hq
  simp only [evE] at ev
  obtain ⟨⟨xs, ρ1, st1⟩, e1, ev⟩ := bindS ev
  obtain ⟨⟨acc, ρ2, st2⟩, e2, ev⟩ := bindS ev
  cases ev
  generalize hvs : own.map (·.2) = vs at *
  refine ⟨O, A, B, ρ, st, T, xs, ρ1, st1, R, e1, fun J A1 B1 H1 hA1 hB1 R1 W1 Dl hD => ?_⟩
  -- the state at turn i, so many turns left
  refine ⟨fun i m H' => ∃ A2 B2 ρa st2' ac, Px A1 A2 ∧ Ex B1 B2 ∧ Rel K O A2 B2 (L2.wipe σ vs) H' (wipeE ρa vs) st2' ((Dl, ac) :: T) ∧ m = xs.length - i ∧ i ≤ xs.length ∧
      lcL (evTg F pt) (evC F pc) (fun ρ st => vv (evE F pe ρ st)) vs (xs.drop i) ac (wipeE ρa vs) st2' = some (acc, ρ2, st2), ⟨xs.length, A1, B1, ρ1, st1, [], Px.refl _, Ex.refl _, ?_, rfl, Nat.zero_le _, e2⟩, ?_⟩
  · exact (R1.wipe vs).push hD .nil
  · rintro i m H' ⟨A2, B2, ρa, st2', ac, hA2, hB2, R2, rfl, hi2, e3⟩
    have wk := W1 i A2 B2 H' hA2 hB2 R2.ex
    by_cases hlt : i < xs.length
    · refine .inr ?_
      have ed : xs[i]? = some xs[i] := List.getElem?_eq_getElem hlt
      obtain ⟨go, turn⟩ := wk.1 _ ed
      rw [List.drop_eq_getElem_cons hlt] at e3
      simp only [lcL] at e3
      obtain ⟨⟨ρ3, st3⟩, e4, e3⟩ := bindS e3
      obtain ⟨⟨b, ρ4, st4⟩, e5, e3⟩ := bindS e3
      refine ⟨go, fun H3 => ∃ A3 B3 ρb st3' ac', Px A1 A3 ∧ Ex B1 B3 ∧ Rel K O A3 B3 (L2.wipe σ vs) H3 (wipeE ρb vs) st3' ((Dl, ac') :: T) ∧
          lcL (evTg F pt) (evC F pc) (fun ρ st => vv (evE F pe ρ st)) vs (xs.drop (i + 1)) ac' (wipeE ρb vs) st3' = some (acc, ρ2, st2), fun H3 hN => ?_, fun x H3 hy => ?_⟩
      · obtain ⟨A3, B3, ρb, st3', ac', h1, h2, h3, h4⟩ := hN
        exact ⟨xs.length - (i + 1), by omega, A3, B3, ρb, st3', ac', h1, h2, h3, rfl, hlt, h4⟩
      · obtain ⟨B3, b1, b2, b3, b4, hx⟩ := turn x H3 hy
        have R3 := R2.grow b1 b2 b3 b4
        refine tG_of R3 hx e4 fun σ4 A4 B4 H4 hA4 hB4 o4 R4 => ?_
        have w4 : L2.wipe σ4 vs = L2.wipe σ vs := by
          rw [wipe_eq (o4.mono hsl)]
          exact wipe_eq (off_wipe σ vs)
        refine ⟨w4, tCo_of R4 e5 fun A5 B5 H5 hA5 hB5 R5 => ?_⟩
        cases b with
        | false =>
          rw [if_neg Bool.false_ne_true]
          have e3 : lcL (evTg F pt) (evC F pc) (fun ρ st => vv (evE F pe ρ st)) vs (xs.drop (i + 1)) ac (wipeE ρ4 vs) st4 = some (acc, ρ2, st2) := e3
          have R6 := R5.wipe vs
          rw [w4] at R6
          exact ⟨A5, B5, ρ4, st4, ac, hA2.trans (hA4.trans hA5), (hB2.trans b1).trans (hB4.trans hB5), R6, e3⟩
        | true =>
          rw [if_pos rfl]
          simp only [if_true] at e3
          obtain ⟨⟨y, ρ5, st5⟩, e6, e3⟩ := bindS e3
          simp only at e3
          split at e3
          · rename_i hl
            refine tE_V R5 e6 fun v A6 B6 H6 hA6 hB6 R6 h6 => ?_
            obtain ⟨_, ws, hw, hwl⟩ := R6.top
            refine ⟨ws, hw, by rw [hwl.length]; exact lim_lt hl, ?_⟩
            have R7 := (R6.updT (hwl.append (.cons h6 .nil))).wipe vs
            rw [w4] at R7
            exact ⟨A6, B6, ρ5, st5, _, hA2.trans ((hA4.trans hA5).trans hA6), (hB2.trans b1).trans ((hB4.trans hB5).trans hB6), R7, e3⟩
          · cases e3
    · have hil : i = xs.length := by omega
      subst hil
      refine .inl ⟨wk.2 (Nat.le_refl _), ?_⟩
      rw [List.drop_length] at e3
      simp only [lcL] at e3
      cases e3
      refine q _ A2 B2 H' (hA1.trans hA2) (hB1.trans hB2) ?_
      unfold EPost
      rw [if_pos rfl]
      exact ⟨Dl, _, rfl, rfl, R2.unwipe⟩
end
end Pv

namespace Pv
open PySem PySem.Spec PyProof.Rows L2

section
variable {P : Program} {w : World} {K : PySem.W.Frag} {mg : Str → Option Value} {base : Heap} {k : Nat} {F : Tb} {C : SC} {X : Cx} {gl : Str → Bool} {fp : Str → Bool} {kw : Str → Nat → List Str → List Nat → Bool}
/-! ### a comprehension of two clauses -/
theorem sd_lc2 {pe : E} {pt pt1 : Tg} {pi pi1 : I} {pc pc1 : Co} {own : List (Str × Nat)} {own1 : List Nat} (hsl : ∀ j ∈ pt.slots, j ∈ own.map (·.2)) (hsl1 : ∀ j ∈ pt1.slots, j ∈ own1) (hs1 : ∀ j ∈ own1, j ∈ own.map (·.2)) :
    ∀ σ H Q, tE K F (.lc2 pe pt pi pc pt1 pi1 pc1 own own1) σ H Q → tLc2 (tI K F pi) (tG K F pt) (tCo K F pc) (tI K F pi1) (tG K F pt1) (tCo K F pc1) (tE K F pe) (own.map (·.2)) own1 σ H Q := by
  intro σ H Q hq
  obtain ⟨O, A, B, ρ, st, T, fr, d, ρ', st', R, ev, q⟩ := hq
  simp only [evE] at ev
  obtain ⟨⟨xs, ρ1, st1⟩, e1, ev⟩ := bindS ev
  obtain ⟨⟨acc, ρ2, st2⟩, e2, ev⟩ := bindS ev
  cases ev
  generalize hvs : own.map (·.2) = vs at *
  refine ⟨O, A, B, ρ, st, T, xs, ρ1, st1, R, e1, fun J A1 B1 H1 hA1 hB1 R1 W1 Dl hD => ?_⟩
  refine ⟨fun i m H' => ∃ A2 B2 ρa st2' ac, Px A1 A2 ∧ Ex B1 B2 ∧ Rel K O A2 B2 (L2.wipe σ vs) H' (wipeE ρa vs) st2' ((Dl, ac) :: T) ∧ m = xs.length - i ∧ i ≤ xs.length ∧
      lcL2 (evTg F pt) (evC F pc) (evI F pi1) (lcL (evTg F pt1) (evC F pc1) (fun ρ st => vv (evE F pe ρ st)) own1) vs own1 (xs.drop i) ac (wipeE ρa vs) st2' = some (acc, ρ2, st2), ⟨xs.length, A1, B1, ρ1, st1, [], Px.refl _, Ex.refl _, ?_, rfl, Nat.zero_le _, e2⟩, ?_⟩
  · exact (R1.wipe vs).push hD .nil
  · rintro i m H' ⟨A2, B2, ρa, st2', ac, hA2, hB2, R2, rfl, hi2, e3⟩
    have wk := W1 i A2 B2 H' hA2 hB2 R2.ex
    by_cases hlt : i < xs.length
    · refine .inr ?_
      have ed : xs[i]? = some xs[i] := List.getElem?_eq_getElem hlt
      obtain ⟨go, turn⟩ := wk.1 _ ed
      rw [List.drop_eq_getElem_cons hlt] at e3
      simp only [lcL2] at e3
      obtain ⟨⟨ρ3, st3⟩, e4, e3⟩ := bindS e3
      obtain ⟨⟨b, ρ4, st4⟩, e5, e3⟩ := bindS e3
      refine ⟨go, fun H3 => ∃ A3 B3 ρb st3' ac', Px A1 A3 ∧ Ex B1 B3 ∧ Rel K O A3 B3 (L2.wipe σ vs) H3 (wipeE ρb vs) st3' ((Dl, ac') :: T) ∧
          lcL2 (evTg F pt) (evC F pc) (evI F pi1) (lcL (evTg F pt1) (evC F pc1) (fun ρ st => vv (evE F pe ρ st)) own1) vs own1 (xs.drop (i + 1)) ac' (wipeE ρb vs) st3' = some (acc, ρ2, st2), fun H3 hN => ?_, fun x H3 hy => ?_⟩
      · obtain ⟨A3, B3, ρb, st3', ac', h1, h2, h3, h4⟩ := hN
        exact ⟨xs.length - (i + 1), by omega, A3, B3, ρb, st3', ac', h1, h2, h3, rfl, hlt, h4⟩
      · obtain ⟨B3, b1, b2, b3, b4, hx⟩ := turn x H3 hy
        have R3 := R2.grow b1 b2 b3 b4
        refine tG_of R3 hx e4 fun σ4 A4 B4 H4 hA4 hB4 o4 R4 => ?_
        have w4 : L2.wipe σ4 vs = L2.wipe σ vs := by
          rw [wipe_eq (o4.mono hsl)]
          exact wipe_eq (off_wipe σ vs)
        refine ⟨w4, tCo_of R4 e5 fun A5 B5 H5 hA5 hB5 R5 => ?_⟩
        cases b with
        | false =>
          rw [if_neg Bool.false_ne_true]
          have R6 := R5.wipe vs
          rw [w4] at R6
          exact ⟨A5, B5, ρ4, st4, ac, hA2.trans (hA4.trans hA5), (hB2.trans b1).trans (hB4.trans hB5), R6, e3⟩
        | true =>
          rw [if_pos rfl]
          simp only [if_true] at e3
          obtain ⟨⟨ys, ρ5, st5⟩, e6, e3⟩ := bindS e3
          obtain ⟨⟨ac2, ρ6, st6⟩, e7, e3⟩ := bindS e3
          refine ⟨O, A5, B5, ρ4, st4, _, ys, ρ5, st5, R5, e6, fun J1 A6 B6 H6 hA6 hB6 R6 W6 => ?_⟩
          have pA6 : Px A1 A6 := hA2.trans ((hA4.trans hA5).trans hA6)
          have pB6 : Ex B1 B6 := (hB2.trans b1).trans ((hB4.trans hB5).trans hB6)
          refine ⟨fun j n H' => ∃ A7 B7 ρb st7 acb, Px A6 A7 ∧ Ex B6 B7 ∧ Rel K O A7 B7 (L2.wipe σ4 own1) H' (wipeE ρb own1) st7 ((Dl, acb) :: T) ∧ n = ys.length - j ∧ j ≤ ys.length ∧
              lcL (evTg F pt1) (evC F pc1) (fun ρ st => vv (evE F pe ρ st)) own1 (ys.drop j) acb (wipeE ρb own1) st7 = some (ac2, ρ6, st6), ⟨ys.length, A6, B6, ρ5, st5, ac, Px.refl _, Ex.refl _, R6.wipe own1, rfl, Nat.zero_le _, e7⟩, ?_⟩
          rintro j n H7 ⟨A7, B7, ρb, st7, acb, hA7, hB7, R7, rfl, hj7, e8⟩
          have wk1 := W6 j A7 B7 H7 hA7 hB7 R7.ex
          by_cases hjl : j < ys.length
          · refine .inr ?_
            have ed1 : ys[j]? = some ys[j] := List.getElem?_eq_getElem hjl
            obtain ⟨go1, turn1⟩ := wk1.1 _ ed1
            rw [List.drop_eq_getElem_cons hjl] at e8
            simp only [lcL] at e8
            obtain ⟨⟨ρ8, st8⟩, f4, e8⟩ := bindS e8
            obtain ⟨⟨b8, ρ9, st9⟩, f5, e8⟩ := bindS e8
            refine ⟨go1, fun H3 => ∃ A3 B3 ρc st3' ac', Px A6 A3 ∧ Ex B6 B3 ∧ Rel K O A3 B3 (L2.wipe σ4 own1) H3 (wipeE ρc own1) st3' ((Dl, ac') :: T) ∧
                lcL (evTg F pt1) (evC F pc1) (fun ρ st => vv (evE F pe ρ st)) own1 (ys.drop (j + 1)) ac' (wipeE ρc own1) st3' = some (ac2, ρ6, st6), fun H3 hN => ?_, fun x1 H8 hy1 => ?_⟩
            · obtain ⟨A3, B3, ρc, st3', ac', h1, h2, h3, h4⟩ := hN
              exact ⟨ys.length - (j + 1), by omega, A3, B3, ρc, st3', ac', h1, h2, h3, rfl, hjl, h4⟩
            · obtain ⟨B8, c1, c2, c3, c4, hx1⟩ := turn1 x1 H8 hy1
              have R8 := R7.grow c1 c2 c3 c4
              refine tG_of R8 hx1 f4 fun σ9 A9 B9 H9 hA9 hB9 o9 R9 => ?_
              have w9 : L2.wipe σ9 own1 = L2.wipe σ4 own1 := by
                rw [wipe_eq (o9.mono hsl1)]
                exact wipe_eq (off_wipe σ4 own1)
              refine ⟨w9, tCo_of R9 f5 fun A10 B10 H10 hA10 hB10 R10 => ?_⟩
              cases b8 with
              | false =>
                rw [if_neg Bool.false_ne_true]
                have R11 := R10.wipe own1
                rw [w9] at R11
                exact ⟨A10, B10, ρ9, st9, acb, hA7.trans (hA9.trans hA10), (hB7.trans c1).trans (hB9.trans hB10), R11, e8⟩
              | true =>
                rw [if_pos rfl]
                simp only [if_true] at e8
                obtain ⟨⟨y, ρ10, st10⟩, f6, e8⟩ := bindS e8
                simp only at e8
                split at e8
                · rename_i hl
                  refine tE_V R10 f6 fun v A11 B11 H11 hA11 hB11 R11 h11 => ?_
                  obtain ⟨_, ws, hw, hwl⟩ := R11.top
                  refine ⟨ws, hw, by rw [hwl.length]; exact lim_lt hl, ?_⟩
                  have R12 := (R11.updT (hwl.append (.cons h11 .nil))).wipe own1
                  rw [w9] at R12
                  exact ⟨A11, B11, ρ10, st10, _, hA7.trans ((hA9.trans hA10).trans hA11), (hB7.trans c1).trans ((hB9.trans hB10).trans hB11), R12, e8⟩
                · cases e8
          · have hjl : j = ys.length := by omega
            subst hjl
            refine .inl ⟨wk1.2 (Nat.le_refl _), ?_⟩
            rw [List.drop_length] at e8
            simp only [lcL] at e8
            cases e8
            have R8 := R7.wipe vs
            have w8 : L2.wipe (L2.wipe σ4 own1) vs = L2.wipe σ vs := by
              rw [wipe_eq ((off_wipe σ4 own1).mono hs1)]
              exact w4
            rw [w8] at R8
            exact ⟨A7, B7, _, _, _, pA6.trans hA7, pB6.trans hB7, R8, e3⟩
    · have hil : i = xs.length := by omega
      subst hil
      refine .inl ⟨wk.2 (Nat.le_refl _), ?_⟩
      rw [List.drop_length] at e3
      simp only [lcL2] at e3
      cases e3
      refine q _ A2 B2 H' (hA1.trans hA2) (hB1.trans hB2) ?_
      unfold EPost
      rw [if_pos rfl]
      exact ⟨Dl, _, rfl, rfl, R2.unwipe⟩
/-! ### isinstance, ranges as lists, a list turned about, chains -/
theorem isi_kit : ∀ a ∈ ["NoneType", "bool", "int", "str", "tuple", "list"], ∀ t ∈ ["int", "str", "bool", "tuple", "list", "dict"], kitB a t = some (a == t || (a == "bool" && t == "int")) := by decide +kernel
theorem isi_boot : ∀ t ∈ ["int", "str", "bool", "tuple", "list", "dict"], bootBuiltins (Str.ofString t) = some (.type t) ∧ Str.ofString t ∈ blts ∧ Str.ofString t ≠ "__name__" ∧ (Str.ofString t == ("__debug__" : Str)) = false := by decide +kernel
theorem ty_mem (d : D) : ty d ∈ ["NoneType", "bool", "int", "str", "tuple", "list"] := by cases d <;> simp [ty]
theorem ty_ho {O : Org} {A : List Addr} {B H : Hp} {σ : L2.St} {ρ : Env} {st : Sto} {T : List (Addr × List D)} {v : V} {d : D} (R : Rel K O A B σ H ρ st T) (h : Ho K A B v d) (hs : ∀ ns, d ≠ .scr ns) : TyX K H v (.type (ty d)) := by
  cases d with
  | non => cases h; exact .base .non
  | bl b => cases h; exact .base (.bl b)
  | int b => cases h; exact .base (.int b)
  | str b => cases h; exact .base (.str b)
  | lst xs =>
    obtain ⟨a, rfl⟩ := h.isLst
    obtain ⟨vs, _, h1, _⟩ := h.lstH R.ex
    exact .base (.lst h1)
  | tup xs =>
    obtain ⟨a, rfl⟩ := h.isTup
    obtain ⟨vs, h1, _⟩ := h.tupH R.ex
    rcases h1 with h1 | ⟨o, its, n, h1, h2, _⟩
    · rcases h1 with h1 | ⟨o, h1⟩
      · exact .base (.tup h1)
      · exact .fTuple h1
    · exact .kTuple h1 h2
  | hd n =>
    cases h with | hd ha =>
    have hn : n < st.length := by rw [← R.al]; exact (List.getElem?_eq_some_iff.mp ha).1
    obtain ⟨a0, ws, f0, f1, _, _⟩ := R.updH (List.getElem?_eq_getElem hn)
    rw [ha] at f0; cases f0
    exact .base (.lst f1)
  | scr ns => exact absurd rfl (hs ns)
theorem ty_name (G : GOk P w K mg base k F gl fp kw) (ok : COk P w K mg base k C X) {t : String} {p : Pos} (ht : t ∈ ["int", "str", "bool", "tuple", "list", "dict"]) (hg : glB C.sc (t : Str) = true) : PE X (.Name (t : Str) p) (L2.tC (.ty t)) := by
  obtain ⟨h1, h2, h3, h4⟩ := isi_boot t ht
  exact pe_bltn (ok.gl hg) (ok.blt G h2) h1 rfl h3 h4
theorem isi_names : ∀ {es : List Expr} {ts : List String}, tyNames es ts = true → (∃ ps : List Pos, es = (ts.zip ps).map fun q => Expr.Name (q.1 : Str) q.2) ∧ (∀ t ∈ ts, t ∈ ["int", "str", "bool", "tuple", "list", "dict"]) ∧ es.all starB = true ∧ es.length = ts.length
  | [], [], _ => ⟨⟨[], rfl⟩, fun _ h => by simp at h, rfl, rfl⟩
  | [], _ :: _, h => by simp [tyNames] at h
  | e :: es, [], h => by cases e <;> simp [tyNames] at h
  | e :: es, t :: ts, h => by
    cases e with
    | Name x p =>
      simp only [tyNames, Bool.and_eq_true, beq_iff_eq] at h
      obtain ⟨⟨rfl, h2⟩, h3⟩ := h
      obtain ⟨⟨ps, rfl⟩, i2, i3, i4⟩ := isi_names h3
      refine ⟨⟨p :: ps, rfl⟩, fun u hu => ?_, all_cons_iff.mpr ⟨rfl, i3⟩, by simp [i4]⟩
      rcases List.mem_cons.mp hu with rfl | hu
      · exact List.contains_iff_mem.mp h2
      · exact i2 u hu
    | _ => simp [tyNames] at h
end
end Pv

namespace Pv
open PySem PySem.Spec PyProof.Rows L2

section
variable {P : Program} {w : World} {K : PySem.W.Frag} {mg : Str → Option Value} {base : Heap} {k : Nat} {F : Tb} {C : SC} {X : Cx} {gl : Str → Bool} {fp : Str → Bool} {kw : Str → Nat → List Str → List Nat → Bool}
def tTys (ts : List String) : TA := fun _ H Q => Q (ts.map V.ty) H
theorem tyGl_of {sc : Scope} : ∀ {ts : List String}, tyGl sc ts = true → ∀ t ∈ ts, glB sc (t : Str) = true
  | [], _, t, h => by simp at h
  | u :: ts, h, t, ht => by
    simp only [tyGl, Bool.and_eq_true] at h
    rcases List.mem_cons.mp ht with rfl | ht
    · exact h.1
    · exact tyGl_of h.2 t ht
theorem pa_tys (G : GOk P w K mg base k F gl fp kw) (ok : COk P w K mg base k C X) : ∀ {es : List Expr} {ts : List String}, tyNames es ts = true → tyGl C.sc ts = true → PA X es (tTys ts)
  | [], [], _, _ => pa_nil
  | [], _ :: _, h, _ => by simp [tyNames] at h
  | e :: es, [], h, _ => by cases e <;> simp [tyNames] at h
  | e :: es, t :: ts, h, hg => by
    cases e with
    | Name x p =>
      simp only [tyNames, Bool.and_eq_true, beq_iff_eq] at h
      obtain ⟨⟨rfl, h2⟩, h3⟩ := h
      simp only [tyGl, Bool.and_eq_true] at hg
      exact pa_cons (ty_name G ok (List.contains_iff_mem.mp h2) hg.1) (pa_tys G ok h3 hg.2) (star_cons rfl)
    | _ => simp [tyNames] at h
theorem kit_any {K : PySem.W.Frag} (d : D) : ∀ {ts : List String}, (∀ t ∈ ts, t ∈ ["int", "str", "bool", "tuple", "list", "dict"]) → PySem.W.kitAny K (.type (ty d)) (ts.map Value.type) = some (isiD ts d)
  | [], _ => kitAny_nil
  | t :: ts, h => by
    have h1 := isi_kit (ty d) (ty_mem d) t (h t List.mem_cons_self)
    have ih := kit_any (K := K) d (ts := ts) fun u hu => h u (List.mem_cons_of_mem _ hu)
    refine kitAny_cons (kit_ty h1) (fun hb => ?_) fun hb => ?_
    · rw [ih]; unfold isiD; rw [List.any_cons, hb]; rfl
    · unfold isiD; rw [List.any_cons, hb]; rfl
theorem paired_tys : ∀ ts : List String, Paired ClsV (ts.map V.ty) (ts.map Value.type)
  | [] => .nil
  | t :: ts => .cons (.ty t) (paired_tys ts)
theorem boot_isi : bootBuiltins "isinstance" = some (.builtin "isinstance") ∧ (("isinstance" : Str) ∈ blts) ∧ ("isinstance" : Str) ≠ "__name__" ∧ (("isinstance" : Str) == ("__debug__" : Str)) = false := by decide +kernel
theorem isi_ev {p : E} {ts : List String} {m : Bool} {ρ : Env} {st : Sto} {fr : Bool} {d : D} {ρ' : Env} {st' : Sto} (e : evE F (.isi p ts m) ρ st = some (fr, d, ρ', st')) : ∃ x, vv (evE F p ρ st) = some (x, ρ', st') ∧ (∀ ns, x ≠ .scr ns) ∧ fr = false ∧ d = .bl (isiD ts x) := by
  simp only [evE] at e
  obtain ⟨⟨x, ρ1, st1⟩, e1, e⟩ := bindS e
  cases x <;> first | (cases e; done) | (cases e; exact ⟨_, e1, fun _ z => (by cases z), rfl, rfl⟩)
theorem sd_isiT (G : GOk P w K mg base k F gl fp kw) (ok : COk P w K mg base k C X) {y : Expr} {es : List Expr} {p : E} {ts : List String} {q0 pos tp : Pos} {j : Nat} (hg : glB C.sc "isinstance" = true) (hs : starB y = true) (h : PE X y (tE K F p)) (h1 : tyNames es ts = true) (h2 : tyGl C.sc ts = true) (hlen : es.length < 10) :
    PE X (.Call (.Name "isinstance" q0) [y, .Tuple es j tp] [] pos) (tE K F (.isi p ts true)) := by
  have hK := ok.K
  subst hK
  obtain ⟨b1, b2, b3, b4⟩ := boot_isi
  obtain ⟨_, i2, i3, i4⟩ := isi_names h1
  refine (pe_callB call_isiT (ok.gl hg) (ok.blt G b2) b1 (pa_cons h (pa_cons (pe_tup (pa_tys G ok h1 h2)) pa_nil (star_cons rfl)) (star_cons hs)) b3 b4 (star_cons hs) (back_any (es := [_]) rfl)).imp fun σ H Q hq => ?_
  obtain ⟨O, A, B, ρ, st, T, fr, d, ρ', st', R, e, q⟩ := hq
  obtain ⟨x, e1, e2, rfl, rfl⟩ := isi_ev e
  refine tE_V R e1 fun v A1 B1 H1 hA1 hB1 R1 hv => ?_
  refine ⟨?_, fun t ht => ?_⟩
  · rw [List.length_map, sizeLine_eq]
    omega
  · have R2 := R1.waste (o := .tup (ts.map V.ty)) ht
    exact ⟨v, t, ts.map V.ty, _, ts.map Value.type, isiD ts x, rfl, upd_same, paired_tys ts, ty_ho R2 hv e2, kit_any x i2, q _ _ _ _ hA1 hB1 (.val R2 (.bl _))⟩
theorem sd_isi1 (G : GOk P w K mg base k F gl fp kw) (ok : COk P w K mg base k C X) {y t0 : Expr} {p : E} {ts : List String} {q0 pos : Pos} (hg : glB C.sc "isinstance" = true) (hs : starB y = true) (h : PE X y (tE K F p)) (h1 : tyNames [t0] ts = true) (h2 : tyGl C.sc ts = true) :
    PE X (.Call (.Name "isinstance" q0) [y, t0] [] pos) (tE K F (.isi p ts false)) := by
  have hK := ok.K
  subst hK
  obtain ⟨b1, b2, b3, b4⟩ := boot_isi
  obtain ⟨_, i2, i3, i4⟩ := isi_names h1
  refine (pe_callB call_isi (ok.gl hg) (ok.blt G b2) b1 (pa_cons h (pa_tys G ok h1 h2) (star_cons hs)) b3 b4 (star_cons hs) (back_any i3)).imp fun σ H Q hq => ?_
  obtain ⟨O, A, B, ρ, st, T, fr, d, ρ', st', R, e, q⟩ := hq
  obtain ⟨x, e1, e2, rfl, rfl⟩ := isi_ev e
  refine tE_V R e1 fun v A1 B1 H1 hA1 hB1 R1 hv => ?_
  match ts, i4 with
  | [t], _ =>
    have hk : kitB (ty x) t = some (isiD [t] x) := by
      rw [isi_kit (ty x) (ty_mem x) t (i2 t List.mem_cons_self)]
      unfold isiD; simp
    exact ⟨v, .ty t, _, _, isiD [t] x, rfl, .ty t, ty_ho R1 hv e2, kit_ty hk, q _ _ _ _ hA1 hB1 (.val R1 (.bl _))⟩
/-! ### ranges as lists and tuples -/
theorem rgV_ho {K : PySem.W.Frag} {A : List Addr} {B : Hp} {a b : Int} : HoL K A B (rgV a b) (rngL a b 1) := by
  unfold rgV rngL
  have hn : rngN a b 1 = (b - a).toNat := by unfold rngN; rw [PyProof.Rows.rangeSize_nat]; exact Int.toNat_natCast _
  rw [hn]
  generalize (b - a).toNat = n
  have : ∀ l : List Nat, HoL K A B (l.map fun i => V.int (a + (i : Nat))) (l.map fun (i : Nat) => D.int (a + (i : Int) * 1)) := fun l => by
    induction l with
    | nil => exact .nil
    | cons x l ih => rw [List.map_cons, List.map_cons, Int.mul_one]; exact .cons (.int _) ih
  exact this _
theorem prg_of (G : GOk P w K mg base k F gl fp kw) (ok : COk P w K mg base k C X) {zs : List Expr} {ps : Es} {q0 pos : Pos} (hg : glB C.sc "range" = true) (hc : chEs C ps zs = true) (hl : zs.length = 1 ∨ zs.length = 2) (h : PEs X K F zs ps) :
    ∃ t, PRg X (.Call (.Name "range" q0) zs [] pos) t ∧ ∀ σ H O A B ρ st T ds ρ' st' xs (Q : Int → Int → Hp → Prop), Rel K O A B σ H ρ st T → evEs F ps ρ st = some (ds, ρ', st') → rngD ds = some xs →
      (∀ a b A' B' H', Px A A' → Ex B B' → Rel K O A' B' σ H' ρ' st' T → xs = rngL a b 1 → rngOk a b 1 = true → Q a b H') → t σ H Q := by
  have hm : X.mg "range" = none := ok.blt G (by decide +kernel)
  match zs, hl, h, hc with
  | [a], _, h, hc =>
    cases h with | cons s1 p1 t1 =>
    cases t1
    refine ⟨_, prg_1 (ok.gl hg) hm p1 (star_cons s1), fun σ H O A B ρ st T ds ρ' st' xs Q R e1 e2 q => ?_⟩
    simp only [evEs] at e1
    obtain ⟨⟨x, ρ1, st1⟩, f1, e1⟩ := bindS e1
    obtain ⟨⟨xs', ρ2, st2⟩, f2, e1⟩ := bindS e1
    cases f2
    cases e1
    refine tE_V R f1 fun v A1 B1 H1 hA1 hB1 R1 hv => ?_
    cases x with
    | int n =>
      cases hv
      simp only [rngD] at e2
      split at e2
      · rename_i ho
        cases e2
        exact ⟨n, rfl, q 0 n A1 B1 H1 hA1 hB1 R1 rfl ho⟩
      · cases e2
    | _ => cases e2
  | [a, b], _, h, hc =>
    cases h with | cons s1 p1 t1 =>
    cases t1 with | cons s2 p2 t2 =>
    cases t2
    refine ⟨_, prg_2 (ok.gl hg) hm p1 p2 (star_cons s1) (star_cons s2) (back_any (all_cons_iff.mpr ⟨s2, rfl⟩)), fun σ H O A B ρ st T ds ρ' st' xs Q R e1 e2 q => ?_⟩
    simp only [evEs] at e1
    obtain ⟨⟨x, ρ1, st1⟩, f1, e1⟩ := bindS e1
    obtain ⟨⟨xs', ρ2, st2⟩, f2, e1⟩ := bindS e1
    cases e1
    obtain ⟨⟨y, ρ3, st3⟩, f3, f2⟩ := bindS f2
    obtain ⟨⟨ys', ρ4, st4⟩, f4, f2⟩ := bindS f2
    cases f4
    cases f2
    refine tE_V R f1 fun v A1 B1 H1 hA1 hB1 R1 hv => ?_
    refine tE_V R1 f3 fun u A2 B2 H2 hA2 hB2 R2 hu => ?_
    cases x with
    | int n =>
      cases y with
      | int m =>
        cases hv; cases hu
        simp only [rngD] at e2
        split at e2
        · rename_i ho
          cases e2
          exact ⟨n, m, rfl, rfl, q n m A2 B2 H2 (hA1.trans hA2) (hB1.trans hB2) R2 rfl ho⟩
        · cases e2
      | _ => cases e2
    | _ => cases y <;> cases e2
theorem rgOk_of {a b : Int} (h : rngOk a b 1 = true) (hl : (rngL a b 1).length ≤ lim) : RgOk a b := by
  unfold rngOk at h
  simp only [Bool.and_eq_true, decide_eq_true_eq] at h
  unfold rngL at hl
  rw [List.length_map, List.length_range] at hl
  have hn : rngN a b 1 = (b - a).toNat := by unfold rngN; rw [PyProof.Rows.rangeSize_nat]; exact Int.toNat_natCast _
  rw [hn] at hl
  unfold lim at hl
  unfold RgOk
  omega
theorem sd_lrng (G : GOk P w K mg base k F gl fp kw) (ok : COk P w K mg base k C X) {zs : List Expr} {ps : Es} {q0 q1 p1 pos : Pos} (hg0 : glB C.sc "list" = true) (hg : glB C.sc "range" = true) (hc : chEs C ps zs = true) (hl : zs.length = 1 ∨ zs.length = 2) (h : PEs X K F zs ps) :
    PE X (.Call (.Name "list" q1) [.Call (.Name "range" q0) zs [] p1] [] pos) (tE K F (.lrng ps)) := by
  obtain ⟨t, ht, tw⟩ := prg_of (q0 := q0) (pos := p1) G ok hg hc hl h
  refine (pe_listRg ok.calm (ok.gl hg0) (ok.blt G (by decide +kernel)) ht (star_cons rfl)).imp fun σ H Q hq => ?_
  obtain ⟨O, A, B, ρ, st, T, fr, d, ρ', st', R, e, q⟩ := hq
  simp only [evE] at e
  obtain ⟨⟨ds, ρ1, st1⟩, e1, e⟩ := bindS e
  obtain ⟨xs, e2, e⟩ := bindS e
  split at e
  · rename_i hl
    cases e
    refine tw σ H O A B ρ st T ds _ _ _ _ R e1 e2 fun a b A' B' H' hA hB R' hx ho => ?_
    subst hx
    exact ⟨rgOk_of ho hl.1, fun p hp => q _ _ _ _ hA hB (.new R' hp rgV_ho)⟩
  · cases e
theorem sd_trng (G : GOk P w K mg base k F gl fp kw) (ok : COk P w K mg base k C X) {zs : List Expr} {ps : Es} {q0 q1 p1 pos : Pos} (hg0 : glB C.sc "tuple" = true) (hg : glB C.sc "range" = true) (hc : chEs C ps zs = true) (hl : zs.length = 1 ∨ zs.length = 2) (h : PEs X K F zs ps) :
    PE X (.Call (.Name "tuple" q1) [.Call (.Name "range" q0) zs [] p1] [] pos) (tE K F (.trng ps)) := by
  obtain ⟨t, ht, tw⟩ := prg_of (q0 := q0) (pos := p1) G ok hg hc hl h
  refine (pe_tupRg ok.calm (ok.gl hg0) (ok.blt G (by decide +kernel)) ht (star_cons rfl)).imp fun σ H Q hq => ?_
  obtain ⟨O, A, B, ρ, st, T, fr, d, ρ', st', R, e, q⟩ := hq
  simp only [evE] at e
  obtain ⟨⟨ds, ρ1, st1⟩, e1, e⟩ := bindS e
  obtain ⟨xs, e2, e⟩ := bindS e
  split at e
  · rename_i hl
    cases e
    refine tw σ H O A B ρ st T ds _ _ _ _ R e1 e2 fun a b A' B' H' hA hB R' hx ho => ?_
    subst hx
    exact ⟨rgOk_of ho hl.1, fun p hp => q _ _ _ _ hA (hB.trans (Ex.new (R'.bfresh hp))) (.tup R' hp rgV_ho)⟩
  · cases e
/-! ### a list turned about -/
theorem sd_slr (ok : COk P w K mg base k C X) {x : Expr} {p : E} {j : Nat} {p1 p2 p3 pos : Pos} (h : PE X x (tE K F p)) : PE X (.Subscript x (.Slice none none (some (.UnaryOp .USub (.Constant (.int 1) j p1) p2)) p3) pos) (tE K F (.slr p)) := by
  have hK := ok.K
  subst hK
  refine (pe_revA h).imp fun σ H Q hq => ?_
  obtain ⟨O, A, B, ρ, st, T, fr, d, ρ', st', R, e, q⟩ := hq
  simp only [evE] at e
  obtain ⟨⟨y, ρ1, st1⟩, e1, e⟩ := bindS e
  obtain ⟨e, rfl, rfl⟩ := upS e
  refine tE_V R e1 fun v A1 B1 H1 hA1 hB1 R1 hv => ?_
  cases y with
  | lst xs =>
    cases e
    obtain ⟨a, rfl⟩ := hv.isLst
    obtain ⟨vs, _, g1, g2⟩ := hv.lstH R1.ex
    exact ⟨a, vs, rfl, .inl ⟨SqL.of g1, fun p hp => q _ _ _ _ hA1 hB1 (.new R1 hp g2.reverse)⟩⟩
  | tup xs =>
    cases e
    obtain ⟨a, rfl⟩ := hv.isTup
    obtain ⟨vs, g1, g2⟩ := hv.tupH R1.ex
    exact ⟨a, vs, rfl, .inr ⟨g1, fun p hp => q _ _ _ _ hA1 (hB1.trans (Ex.new (R1.bfresh hp))) (.tup R1 hp g2.reverse)⟩⟩
  | _ => cases e
end
end Pv

namespace Pv
open PySem PySem.Spec PyProof.Rows L2

section
variable {P : Program} {w : World} {K : PySem.W.Frag} {mg : Str → Option Value} {base : Heap} {k : Nat} {F : Tb} {gl : Str → Bool} {fp : Str → Bool} {kw : Str → Nat → List Str → List Nat → Bool}
theorem imp_chain {o o' : CmpOp} {pa pb pc : E} (σ : L2.St) (H : Hp) (Q : VK) (hq : tE K F (.chain o o' pa pb pc) σ H Q) : tChain (rCm K (cmpD o)) (rCm K (cmpD o')) (tE K F pa) (tE K F pb) (tE K F pc) σ H Q := by
  obtain ⟨O, A, B, ρ, st, T, fr, d, ρ', st', R, e, q⟩ := hq
  simp only [evE] at e
  obtain ⟨⟨x, ρ1, st1⟩, e1, e⟩ := bindS e
  obtain ⟨⟨y, ρ2, st2⟩, e2, e⟩ := bindS e
  obtain ⟨t, e3, e⟩ := bindS e
  refine tE_V R e1 fun v A1 B1 H1 hA1 hB1 R1 h1 => ?_
  refine tE_V R1 e2 fun u A2 B2 H2 hA2 hB2 R2 h2 => ?_
  refine ⟨A2, B2, x, y, t, R2.ex, h1.mono hA2 hB2, h2, e3, t, rfl, ?_⟩
  cases t with
  | false =>
    rw [if_neg Bool.false_ne_true] at e ⊢
    cases e
    exact q _ _ _ _ (hA1.trans hA2) (hB1.trans hB2) (.val R2 (.bl _))
  | true =>
    rw [if_pos rfl] at e ⊢
    obtain ⟨⟨z, ρ3, st3⟩, e4, e⟩ := bindS e
    obtain ⟨t', e5, e6⟩ := mapS e
    cases e6
    refine tE_V R2 e4 fun z' A3 B3 H3 hA3 hB3 R3 h3 => ?_
    exact ⟨A3, B3, y, z, t', R3.ex, h2.mono hA3 hB3, h3, e5, q _ _ _ _ ((hA1.trans hA2).trans hA3) ((hB1.trans hB2).trans hB3) (.val R3 (.bl _))⟩
theorem sd_chain {C : SC} {X : Cx} (ok : COk P w K mg base k C X) {o o' : CmpOp} {a b c : Expr} {pa pb pc : E} {pos : Pos} (ha : PE X a (tE K F pa)) (hb : PE X b (tE K F pb)) (hc : PE X c (tE K F pc)) (hs : setB c = false) : PE X (.Compare a [o, o'] [b, c] pos) (tE K F (.chain o o' pa pb pc)) := by
  have hK := ok.K
  subst hK
  exact (pe_chain (opR_cmp o ok.units) (opR_cmp o' ok.units) ha hb hc (setB_in hs)).imp imp_chain
/-- a test whose value is a truth value -/
theorem imp_test {p : E} (hp : ∀ ρ st fr d ρ' st', evE F p ρ st = some (fr, d, ρ', st') → fr = false ∧ ∃ t, d = .bl t) (σ : L2.St) (H : Hp) (Q : Bool → Hp → Prop) (hq : tCn K F (.e p) σ H Q) : tE K F p σ H (fun x H' => ∃ k, x = .bl k ∧ Q k H') := by
  obtain ⟨O, A, B, ρ, st, T, b, ρ', st', R, e, q⟩ := hq
  simp only [evT] at e
  obtain ⟨⟨x, ρ1, st1⟩, e1, e⟩ := bindS e
  obtain ⟨t, e2, e⟩ := bindS e
  cases e
  obtain ⟨⟨fr, r⟩, e3, e4⟩ := mapS e1
  cases e4
  obtain ⟨rfl, t', rfl⟩ := hp _ _ _ _ _ _ e3
  cases e2
  refine tE_V R e1 fun v A' B' H' hA hB R' hv => ?_
  cases hv
  exact ⟨b, rfl, q A' B' H' hA hB R'⟩
theorem chain_fr {o o' : CmpOp} {pa pb pc : E} : ∀ ρ st fr d ρ' st', evE F (.chain o o' pa pb pc) ρ st = some (fr, d, ρ', st') → fr = false ∧ ∃ t, d = .bl t := by
  intro ρ st fr d ρ' st' e
  simp only [evE] at e
  obtain ⟨⟨x, ρ1, st1⟩, e1, e⟩ := bindS e
  obtain ⟨⟨y, ρ2, st2⟩, e2, e⟩ := bindS e
  obtain ⟨t, e3, e⟩ := bindS e
  cases t with
  | false => cases e; exact ⟨rfl, _, rfl⟩
  | true =>
    rw [if_pos rfl] at e
    obtain ⟨⟨z, ρ3, st3⟩, e4, e⟩ := bindS e
    obtain ⟨t', e5, e6⟩ := mapS e
    cases e6
    exact ⟨rfl, _, rfl⟩
theorem cmpv_fr {o : CmpOp} {pa : E} {i : Nat} : ∀ ρ st fr d ρ' st', evE F (.cmpv o pa i) ρ st = some (fr, d, ρ', st') → fr = false ∧ ∃ t, d = .bl t := by
  intro ρ st fr d ρ' st' e
  simp only [evE] at e
  obtain ⟨⟨x, ρ1, st1⟩, e1, e⟩ := bindS e
  obtain ⟨sl, e2, e⟩ := bindS e
  obtain ⟨ys, e3, e⟩ := bindS e
  cases o <;> first | (cases e; done) | (obtain ⟨t, e4, e5⟩ := mapS e; cases e5; exact ⟨rfl, _, rfl⟩)
theorem sd_chainT {C : SC} {X : Cx} (ok : COk P w K mg base k C X) {o o' : CmpOp} {a b c : Expr} {pa pb pc : E} {pos : Pos} (ha : PE X a (tE K F pa)) (hb : PE X b (tE K F pb)) (hc : PE X c (tE K F pc)) (hs : setB c = false) : PT X (.Compare a [o, o'] [b, c] pos) (tCn K F (.e (.chain o o' pa pb pc))) := by
  have hK := ok.K
  subst hK
  exact (pt_chain (opR_cmp o ok.units) (opR_cmp o' ok.units) ha hb hc (setB_in hs)).imp fun σ H Q hq => imp_chain σ H _ (imp_test chain_fr σ H Q hq)
theorem sd_cmpvT {C : SC} {X : Cx} (ok : COk P w K mg base k C X) {o : CmpOp} {a : Expr} {pa : E} {i : Nat} {x : Str} {p pos : Pos} (ha : PE X a (tE K F pa)) (hv : C.var i x = true) : PT X (.Compare a [o] [.Name x p] pos) (tCn K F (.e (.cmpv o pa i))) := by
  have hK := ok.K
  subst hK
  cases o with
  | In => exact (pt_cmpR op_in_seq ha (ok.var hv) rfl).imp fun σ H Q hq => imp_in ok hv σ H _ (imp_test cmpv_fr σ H Q hq)
  | NotIn => exact (pt_cmpR op_notIn_seq ha (ok.var hv) rfl).imp fun σ H Q hq => imp_notin ok hv σ H _ (imp_test cmpv_fr σ H Q hq)
  | _ =>
    refine ⟨fun pins s σ H Q I hq => ?_⟩
    obtain ⟨O, A, B, ρ, st, T, b, ρ', st', R, e, q⟩ := hq
    simp only [evT, evE] at e
    obtain ⟨⟨x, ρ1, st1⟩, e1, e⟩ := bindS e
    obtain ⟨⟨fr, r⟩, e3, e4⟩ := mapS e1
    obtain ⟨⟨x, ρ1, st1⟩, e1, e⟩ := bindS e3
    obtain ⟨sl, e2, e⟩ := bindS e
    obtain ⟨ys, e3, e⟩ := bindS e
    cases e
theorem and1 {a b : Bool} (h : (a && b) = true) : a = true ∧ b = true := Bool.and_eq_true_iff.mp h
theorem setB_of {e : Expr} (h : (!setB e) = true) : setB e = false := by simpa using h
theorem fold_ok {e : Expr} (h : setB e = false) (env : PySem.Env) : ∀ x, foldedSetIterable e env x = pure x := by
  intro x
  cases e <;> first | rfl | (simp [setB] at h)
theorem blk_kind {N : List Str} {sc scope : Scope} {own : List (Str × Nat)} (h : blkC N sc scope own = true) : scope.kind = .function := (blkOk_by h).kind
theorem chI_set {C : SC} {p : I} {tg x : Expr} (h : chI C p tg x = true) : setB x = false := by
  cases p with
  | val e => simp only [chI, Bool.and_eq_true] at h; exact setB_of h.2
  | rng es => cases x <;> first | rfl | (simp [chI] at h)
  | enum e => cases tg <;> cases x <;> first | rfl | (simp [chI] at h)
  | zip a b => cases tg <;> cases x <;> first | rfl | (simp [chI] at h)
  | rev e => cases x <;> first | rfl | (simp [chI] at h)
theorem all_contains {xs ys : List Nat} (h : (xs.all fun j => ys.contains j) = true) : ∀ j ∈ xs, j ∈ ys := fun j hj => List.contains_iff_mem.mp (List.all_eq_true.mp h j hj)

abbrev Tied (gl : Str → Bool) (fp : Str → Bool) (kw : Str → Nat → List Str → List Nat → Bool) (C : SC) : Prop := C.gl = gl ∧ C.fp = fp ∧ C.kw = kw
mutual
theorem sdE (G : GOk P w K mg base k F gl fp kw) : ∀ (p : E) (C : SC) (X : Cx) (e : Expr), COk P w K mg base k C X → Tied gl fp kw C → chE C p e = true → PE X e (tE K F p)
  | .v i, C, X, e, ok, tie, h => by
    cases e <;> first | (simp [chE] at h; done) | skip
    exact sd_v ok h
  | .k d, C, X, e, ok, tie, h => by
    cases e <;> first | (simp [chE] at h; done) | skip
    exact sd_k h
  | .g x, C, X, e, ok, tie, h => by
    cases e <;> first | (simp [chE] at h; done) | skip
    simp only [chE, Bool.and_eq_true, beq_iff_eq] at h
    obtain ⟨⟨⟨rfl, h2⟩, h3⟩, h4⟩ := h
    exact sd_g G ok h2 (by rw [← tie.1]; exact h3) h4
  | .op o a b, C, X, e, ok, tie, h => by
    cases e <;> first | (simp [chE] at h; done) | skip
    simp only [chE, Bool.and_eq_true, decide_eq_true_eq] at h
    obtain ⟨⟨rfl, h2⟩, h3⟩ := h
    exact sd_op ok (sdE G a C X _ ok tie h2) (sdE G b C X _ ok tie h3)
  | .cmp o a b, C, X, e, ok, tie, h => by
    simp only [chE] at h
    split at h
    · simp only [Bool.and_eq_true, decide_eq_true_eq] at h
      obtain ⟨⟨⟨rfl, h2⟩, h3⟩, h4⟩ := h
      exact sd_cmp ok (sdE G a C X _ ok tie h2) (sdE G b C X _ ok tie h3) (setB_of h4)
    · cases h
  | .cmpv o a i, C, X, e, ok, tie, h => by
    simp only [chE] at h
    split at h
    · simp only [Bool.and_eq_true, decide_eq_true_eq] at h
      obtain ⟨⟨rfl, h2⟩, h3⟩ := h
      exact sd_cmpv ok (sdE G a C X _ ok tie h2) h3
    · cases h
  | .chain o o' a b c, C, X, e, ok, tie, h => by
    simp only [chE] at h
    split at h
    · simp only [Bool.and_eq_true, decide_eq_true_eq] at h
      obtain ⟨⟨⟨⟨⟨⟨rfl, rfl⟩, h2⟩, h3⟩, h4⟩, h5⟩, h6⟩ := h
      exact sd_chain ok (sdE G a C X _ ok tie h2) (sdE G b C X _ ok tie h3) (sdE G c C X _ ok tie h4) (setB_of h6)
    · cases h
  | .neg a, C, X, e, ok, tie, h => by
    simp only [chE] at h
    split at h
    · exact sd_neg (sdE G a C X _ ok tie h)
    · cases h
  | .nt a, C, X, e, ok, tie, h => by
    simp only [chE] at h
    split at h
    · simp only [Bool.and_eq_true] at h
      exact sd_nt ok (sdE G a C X _ ok tie h.1) h.2
    · cases h
  | .an a b, C, X, e, ok, tie, h => by
    simp only [chE] at h
    split at h
    · rename_i x y rest p
      simp only [Bool.and_eq_true] at h
      obtain ⟨h1, h2⟩ := h
      refine sd_an (sdE G a C X _ ok tie h1) ?_
      cases rest with
      | nil => exact pe_one (sdE G b C X _ ok tie h2)
      | cons z zs => exact sdE G b C X _ ok tie h2
    · cases h
  | .or a b, C, X, e, ok, tie, h => by
    simp only [chE] at h
    split at h
    · rename_i x y rest p
      simp only [Bool.and_eq_true] at h
      obtain ⟨h1, h2⟩ := h
      refine sd_or (sdE G a C X _ ok tie h1) ?_
      cases rest with
      | nil => exact pe_one (sdE G b C X _ ok tie h2)
      | cons z zs => exact sdE G b C X _ ok tie h2
    · cases h
  | .ite c a b, C, X, e, ok, tie, h => by
    simp only [chE] at h
    split at h
    · simp only [Bool.and_eq_true] at h
      exact sd_ite (sdC G c C X _ ok tie h.1.1).1 (sdE G a C X _ ok tie h.1.2) (sdE G b C X _ ok tie h.2)
    · cases h
  | .tup es, C, X, e, ok, tie, h => by
    simp only [chE] at h
    split at h
    · exact sd_tup (sdEs G es C X _ ok tie h).pa
    · cases h
  | .lst es, C, X, e, ok, tie, h => by
    simp only [chE] at h
    split at h
    · exact sd_lst (sdEs G es C X _ ok tie h).pa
    · cases h
  | .share a, C, X, e, ok, tie, h => sd_share (sdE G a C X e ok tie (by simpa [chE] using h))
  | .bi b es, C, X, e, ok, tie, h => by
    simp only [chE] at h
    split at h
    · simp only [Bool.and_eq_true, beq_iff_eq] at h
      obtain ⟨⟨rfl, h2⟩, h3⟩ := h
      exact sd_bi G ok h2 (chEs_star h3) (sdEs G es C X _ ok tie h3).pa
    · cases h
  | .lenv i, C, X, e, ok, tie, h => by
    simp only [chE] at h
    split at h
    · simp only [Bool.and_eq_true, beq_iff_eq] at h
      obtain ⟨⟨rfl, h2⟩, h3⟩ := h
      exact sd_lenv G ok h2 h3
    · cases h
  | .isi a ts many, C, X, e, ok, tie, h => by
    simp only [chE] at h
    split at h
    · rename_i x q y t p
      simp only [Bool.and_eq_true, beq_iff_eq] at h
      obtain ⟨⟨⟨⟨⟨rfl, h2⟩, h3⟩, h4⟩, h5⟩, h6⟩ := h
      cases many with
      | true =>
        cases t <;> first | (simp at h6; done) | skip
        simp only [Bool.and_eq_true, decide_eq_true_eq] at h6
        exact sd_isiT G ok h2 h4 (sdE G a C X _ ok tie h3) h6.1 h5 h6.2
      | false => exact sd_isi1 G ok h2 h4 (sdE G a C X _ ok tie h3) (by cases t <;> exact h6) h5
    · cases h
  | .ix a b, C, X, e, ok, tie, h => by
    cases e <;> first | (simp [chE] at h; done) | skip
    simp only [chE, Bool.and_eq_true] at h
    exact sd_ix ok (sdE G a C X _ ok tie h.1.1) (sdE G b C X _ ok tie h.1.2) h.2
  | .ixv i b, C, X, e, ok, tie, h => by
    simp only [chE] at h
    split at h
    · simp only [Bool.and_eq_true] at h
      exact sd_ixv ok h.1.1 (sdE G b C X _ ok tie h.1.2) h.2
    · cases h
  | .sl a lo hi, C, X, e, ok, tie, h => by
    simp only [chE] at h
    split at h
    · simp only [Bool.and_eq_true] at h
      exact sd_sl ok (sdE G a C X _ ok tie h.1.1) (sdO G lo C X _ ok tie h.1.2) (sdO G hi C X _ ok tie h.2)
    · cases h
  | .slr a, C, X, e, ok, tie, h => by
    simp only [chE] at h
    split at h
    · exact sd_slr ok (sdE G a C X _ ok tie h)
    · cases h
  | .call f es, C, X, e, ok, tie, h => by
    simp only [chE] at h
    split at h
    · simp only [Bool.and_eq_true, beq_iff_eq] at h
      obtain ⟨⟨⟨⟨rfl, h2⟩, h3⟩, h4⟩, h5⟩ := h
      have hp := sdEs G es C X _ ok tie h5
      exact sd_call G ok h2 h3 (by rw [← tie.2.1]; exact h4) (chEs_star h5) (fun z => by subst z; exact hp.nilE) hp.pa
    · cases h
  | .callk f es ks kes perm, C, X, e, ok, tie, h => by
    simp only [chE] at h
    split at h
    · simp only [Bool.and_eq_true, beq_iff_eq] at h
      obtain ⟨⟨⟨⟨⟨⟨rfl, h2⟩, h3⟩, h4⟩, h5⟩, h6⟩, h7⟩ := h
      exact sd_callk G ok h2 h3 (by rw [← tie.2.2]; exact h7) h5 (sdEs G es C X _ ok tie h4) (sdEs G kes C X _ ok tie h6) (fun _ _ _ _ _ he => chEs_len h4 he) (fun _ _ _ _ _ he => by have := chEs_len h6 he; rwa [List.length_map] at this)
    · cases h
  | .mth m i es, C, X, e, ok, tie, h => by
    simp only [chE] at h
    split at h
    · simp only [Bool.and_eq_true, beq_iff_eq, decide_eq_true_eq] at h
      obtain ⟨⟨⟨⟨rfl, h2⟩, h3⟩, h4⟩, h5⟩ := h
      exact sd_mth ok h2 (sdEs G es C X _ ok tie h3) (beq_iff_eq.mpr h4) h5
    · cases h
  | .mthH m a es, C, X, e, ok, tie, h => by
    simp only [chE] at h
    split at h
    · simp only [Bool.and_eq_true, beq_iff_eq, decide_eq_true_eq] at h
      obtain ⟨⟨⟨⟨⟨rfl, h2⟩, h6⟩, h3⟩, h4⟩, h5⟩ := h
      exact sd_mthH ok (sdE G a C X _ ok tie h2) (by simpa using h6) (sdEs G es C X _ ok tie h3) (beq_iff_eq.mpr h4) h5
    · cases h
  | .lc a t it c own, C, X, e, ok, tie, h => by
    simp only [chE] at h
    split at h
    · rename_i x tg iter ifs scope pos
      simp only [Bool.and_eq_true] at h
      obtain ⟨⟨⟨⟨⟨h1, h2⟩, h3⟩, h4⟩, h5⟩, h6⟩ := h
      have hk := blk_kind h1
      have hi := sdI G it C X tg iter ok tie h2
      have hs := fold_ok (chI_set h2) X.env
      have hg := fun s H Cc cl fpp => sdT G t (C.blk scope) (X.blk s H scope (compEnvC scope cl Cc X.env) fpp) tg (ok.blk scope s H Cc cl fpp hk) tie h3
      have ht := fun s H Cc cl fpp => sdCo G c (C.blk scope) (X.blk s H scope (compEnvC scope cl Cc X.env) fpp) ifs (ok.blk scope s H Cc cl fpp hk) tie h4
      have he := fun s H Cc cl fpp => sdE G a (C.blk scope) (X.blk s H scope (compEnvC scope cl Cc X.env) fpp) x (ok.blk scope s H Cc cl fpp hk) tie h5
      refine (pe_lc ok.calm (by rw [ok.N]; exact ok.nd) hi (by rw [ok.N, ok.sc]; exact blkOk_by h1) hg ht he hs).imp ?_
      exact sd_lc (pos := pos) ok h1 hi hg ht he hs (all_contains h6)
    · cases h
  | .lc2 a t it c t1 it1 c1 own own1, C, X, e, ok, tie, h => by
    simp only [chE] at h
    split at h
    · rename_i x tg iter ifs tg1 iter1 ifs1 scope pos
      simp only [Bool.and_eq_true] at h
      obtain ⟨⟨⟨⟨⟨⟨⟨⟨⟨⟨h1, h2⟩, h3⟩, h4⟩, h7⟩, h8⟩, h9⟩, h5⟩, h6⟩, h10⟩, h11⟩ := h
      have hk := blk_kind h1
      have hi := sdI G it C X tg iter ok tie h2
      have hs := fold_ok (chI_set h2) X.env
      have hs1 := fun env => fold_ok (chI_set h7) env
      have hg := fun s H Cc cl fpp => sdT G t (C.blk scope) (X.blk s H scope (compEnvC scope cl Cc X.env) fpp) tg (ok.blk scope s H Cc cl fpp hk) tie h3
      have ht := fun s H Cc cl fpp => sdCo G c (C.blk scope) (X.blk s H scope (compEnvC scope cl Cc X.env) fpp) ifs (ok.blk scope s H Cc cl fpp hk) tie h4
      have hi1 := fun s H Cc cl fpp => sdI G it1 (C.blk scope) (X.blk s H scope (compEnvC scope cl Cc X.env) fpp) tg1 iter1 (ok.blk scope s H Cc cl fpp hk) tie h7
      have hg1 := fun s H Cc cl fpp => sdT G t1 (C.blk scope) (X.blk s H scope (compEnvC scope cl Cc X.env) fpp) tg1 (ok.blk scope s H Cc cl fpp hk) tie h8
      have ht1 := fun s H Cc cl fpp => sdCo G c1 (C.blk scope) (X.blk s H scope (compEnvC scope cl Cc X.env) fpp) ifs1 (ok.blk scope s H Cc cl fpp hk) tie h9
      have he := fun s H Cc cl fpp => sdE G a (C.blk scope) (X.blk s H scope (compEnvC scope cl Cc X.env) fpp) x (ok.blk scope s H Cc cl fpp hk) tie h5
      refine (pe_lc2 ok.calm (by rw [ok.N]; exact ok.nd) hi (by rw [ok.N, ok.sc]; exact blkOk_by h1) (all_contains h11) hg ht hi1 hg1 ht1 he hs hs1).imp ?_
      exact sd_lc2 (all_contains h6) (all_contains h10) (all_contains h11)
    · cases h
  | .lrng es, C, X, e, ok, tie, h => by
    simp only [chE] at h
    split at h
    · simp only [Bool.and_eq_true, beq_iff_eq, Bool.or_eq_true] at h
      obtain ⟨⟨⟨⟨⟨rfl, h2⟩, rfl⟩, h4⟩, h5⟩, h6⟩ := h
      exact sd_lrng G ok h2 h4 h5 h6 (sdEs G es C X _ ok tie h5)
    · cases h
  | .trng es, C, X, e, ok, tie, h => by
    simp only [chE] at h
    split at h
    · simp only [Bool.and_eq_true, beq_iff_eq, Bool.or_eq_true] at h
      obtain ⟨⟨⟨⟨⟨rfl, h2⟩, rfl⟩, h4⟩, h5⟩, h6⟩ := h
      exact sd_trng G ok h2 h4 h5 h6 (sdEs G es C X _ ok tie h5)
    · cases h
theorem sdEs (G : GOk P w K mg base k F gl fp kw) : ∀ (p : Es) (C : SC) (X : Cx) (es : List Expr), COk P w K mg base k C X → Tied gl fp kw C → chEs C p es = true → PEs X K F es p
  | .nil, C, X, es, ok, tie, h => by
    cases es with
    | nil => exact .nil
    | cons _ _ => simp [chEs] at h
  | .cons p ps, C, X, es, ok, tie, h => by
    cases es with
    | nil => simp [chEs] at h
    | cons e es =>
      simp only [chEs, Bool.and_eq_true] at h
      exact .cons h.1.1 (sdE G p C X e ok tie h.1.2) (sdEs G ps C X es ok tie h.2)
theorem sdO (G : GOk P w K mg base k F gl fp kw) : ∀ (p : Eo) (C : SC) (X : Cx) (o : Option Expr), COk P w K mg base k C X → Tied gl fp kw C → chO C p o = true → PO X o (tEo K F p)
  | .no, C, X, o, ok, tie, h => by
    cases o with
    | none => exact sd_no
    | some _ => simp [chO] at h
  | .so p, C, X, o, ok, tie, h => by
    cases o with
    | none => simp [chO] at h
    | some x => exact sd_so (sdE G p C X x ok tie (by simpa [chO] using h))
theorem sdC (G : GOk P w K mg base k F gl fp kw) : ∀ (p : Cn) (C : SC) (X : Cx) (x : Expr), COk P w K mg base k C X → Tied gl fp kw C → chC C p x = true → PT X x (tCn K F p) ∧ ∀ op vs q, x = .BoolOp op vs q → PW X x (tCn K F p)
  | .e a, C, X, x, ok, tie, h => by
    simp only [chC, Bool.and_eq_true] at h
    obtain ⟨h1, h2⟩ := h
    refine ⟨?_, fun op vs q e => by subst e; cases a <;> simp [truB, cmpE, chE] at h1 h2⟩
    by_cases ht : truB x = true
    · exact sd_tru ok ht (sdE G a C X x ok tie h1)
    · have h2 := (Bool.or_eq_true _ _ ▸ h2).resolve_left ht
      cases a with
      | cmp o pa pb =>
        simp only [chE] at h1
        split at h1
        · simp only [Bool.and_eq_true, decide_eq_true_eq] at h1
          obtain ⟨⟨⟨rfl, h3⟩, h4⟩, h5⟩ := h1
          exact sd_cmpT ok (sdE G pa C X _ ok tie h3) (sdE G pb C X _ ok tie h4) (setB_of h5)
        · cases h1
      | cmpv o pa i =>
        simp only [chE] at h1
        split at h1
        · simp only [Bool.and_eq_true, decide_eq_true_eq] at h1
          obtain ⟨⟨rfl, h3⟩, h4⟩ := h1
          exact sd_cmpvT ok (sdE G pa C X _ ok tie h3) h4
        · cases h1
      | chain o o' pa pb pc =>
        simp only [chE] at h1
        split at h1
        · simp only [Bool.and_eq_true, decide_eq_true_eq] at h1
          obtain ⟨⟨⟨⟨⟨⟨rfl, rfl⟩, h3⟩, h4⟩, h5⟩, h6⟩, h7⟩ := h1
          exact sd_chainT ok (sdE G pa C X _ ok tie h3) (sdE G pb C X _ ok tie h4) (sdE G pc C X _ ok tie h5) (setB_of h7)
        · cases h1
      | _ => simp [cmpE] at h2
  | .nt c, C, X, x, ok, tie, h => by
    simp only [chC] at h
    split at h
    · exact ⟨sd_ntC (sdC G c C X _ ok tie h).1, fun op vs q e => by cases e⟩
    · cases h
  | .an a b, C, X, e, ok, tie, h => by
    simp only [chC] at h
    split at h
    · rename_i x y rest p
      simp only [Bool.and_eq_true] at h
      obtain ⟨h1, h2⟩ := h
      have key : PW X (.BoolOp .And (x :: y :: rest) p) (tCn K F (.an a b)) := by
        refine sd_anC (sdC G a C X _ ok tie h1).1 ?_
        cases rest with
        | nil => exact pw_and1 (sdC G b C X _ ok tie h2).1
        | cons z zs => exact (sdC G b C X _ ok tie h2).2 _ _ _ rfl
      exact ⟨key.pt, fun op vs q e => key⟩
    · cases h
  | .or a b, C, X, e, ok, tie, h => by
    simp only [chC] at h
    split at h
    · rename_i x y rest p
      simp only [Bool.and_eq_true] at h
      obtain ⟨h1, h2⟩ := h
      have key : PW X (.BoolOp .Or (x :: y :: rest) p) (tCn K F (.or a b)) := by
        refine sd_orC (sdC G a C X _ ok tie h1).1 ?_
        cases rest with
        | nil => exact pw_or1 (sdC G b C X _ ok tie h2).1
        | cons z zs => exact (sdC G b C X _ ok tie h2).2 _ _ _ rfl
      exact ⟨key.pt, fun op vs q e => key⟩
    · cases h
theorem sdCo (G : GOk P w K mg base k F gl fp kw) : ∀ (p : Co) (C : SC) (X : Cx) (l : List Expr), COk P w K mg base k C X → Tied gl fp kw C → chCo C p l = true → PTs X l (tCo K F p)
  | .no, C, X, l, ok, tie, h => by
    cases l with
    | nil => exact sd_cno
    | cons _ _ => simp [chCo] at h
  | .so c, C, X, l, ok, tie, h => by
    simp only [chCo] at h
    split at h
    · exact sd_cso (sdC G c C X _ ok tie h).1
    · cases h
theorem sdI (G : GOk P w K mg base k F gl fp kw) : ∀ (p : I) (C : SC) (X : Cx) (tg x : Expr), COk P w K mg base k C X → Tied gl fp kw C → chI C p tg x = true → PI X tg x (tI K F p)
  | .val e, C, X, tg, x, ok, tie, h => by
    simp only [chI, Bool.and_eq_true] at h
    exact sd_val ok (sdE G e C X x ok tie h.1)
  | .rng es, C, X, tg, x, ok, tie, h => by
    simp only [chI] at h
    split at h
    · simp only [Bool.and_eq_true, beq_iff_eq, Bool.or_eq_true] at h
      obtain ⟨⟨⟨rfl, h2⟩, h3⟩, h4⟩ := h
      exact sd_rng G ok h2 h3 (by rcases h4 with (h4 | h4) | h4 <;> simp [h4]) (sdEs G es C X _ ok tie h3).pa
    · cases h
  | .enum e, C, X, tg, x, ok, tie, h => by
    simp only [chI] at h
    split at h
    · simp only [Bool.and_eq_true, beq_iff_eq] at h
      obtain ⟨⟨⟨rfl, h2⟩, h3⟩, h4⟩ := h
      exact sd_enum G ok h2 h4 (sdE G e C X _ ok tie h3)
    · cases h
  | .zip a b, C, X, tg, x, ok, tie, h => by
    simp only [chI] at h
    split at h
    · simp only [Bool.and_eq_true, beq_iff_eq] at h
      obtain ⟨⟨⟨⟨⟨rfl, h2⟩, h3⟩, h4⟩, h5⟩, h6⟩ := h
      exact sd_zip G ok h2 h5 h6 (sdE G a C X _ ok tie h3) (sdE G b C X _ ok tie h4)
    · cases h
  | .rev e, C, X, tg, x, ok, tie, h => by
    simp only [chI] at h
    split at h
    · simp only [Bool.and_eq_true, beq_iff_eq] at h
      obtain ⟨⟨⟨rfl, h2⟩, h3⟩, h4⟩ := h
      exact sd_rev G ok h2 h4 (sdE G e C X _ ok tie h3)
    · cases h
theorem sdT (G : GOk P w K mg base k F gl fp kw) : ∀ (p : Tg) (C : SC) (X : Cx) (x : Expr), COk P w K mg base k C X → Tied gl fp kw C → chTg C p x = true → PG X x (tG K F p)
  | .n i, C, X, x, ok, tie, h => by
    cases x <;> first | (simp [chTg] at h; done) | skip
    exact sd_n ok h
  | .sub i a, C, X, x, ok, tie, h => by
    simp only [chTg] at h
    split at h
    · simp only [Bool.and_eq_true] at h
      exact sd_sub ok h.1.1 (sdE G a C X _ ok tie h.1.2) h.2
    · cases h
  | .tup ts, C, X, x, ok, tie, h => by
    simp only [chTg] at h
    split at h
    · have := chTgs_star h
      exact sd_tupT ok this.1 this.2 (sdTs G ts C X _ ok tie h)
    · cases h
theorem sdTs (G : GOk P w K mg base k F gl fp kw) : ∀ (p : Tgs) (C : SC) (X : Cx) (l : List Expr), COk P w K mg base k C X → Tied gl fp kw C → chTgs C p l = true → PGs X l (tGs K F p)
  | .nil, C, X, l, ok, tie, h => by
    cases l with
    | nil => exact sd_tnil
    | cons _ _ => simp [chTgs] at h
  | .cons t ts, C, X, l, ok, tie, h => by
    cases l with
    | nil => simp [chTgs] at h
    | cons x xs =>
      have hh := chTgs_star h
      simp only [chTgs, Bool.and_eq_true] at h
      exact sd_tcons hh.1 (sdT G t C X x ok tie h.1.2) (sdTs G ts C X xs ok tie h.2)
end
end
end Pv

namespace Pv
open PySem PySem.Spec PyProof.Rows L2

/-! ## statements as texts -/
/-- does the store of a pair go the exchanged way: names, no; none: not told -/
def isLoc (sc : Scope) (x : Str) : Bool := match sc.names.lookup x with
  | some .local => true
  | _ => false
def swapM (kd : Str → Option NameKind) (ts vs : List Expr) : Option (Option (List Str)) :=
  if !(ts.length == 2 || ts.length == 3) || vs.length != ts.length then some none
  else if vs.any (fun | .Starred .. => true | _ => false) then some none
  else
    let line := (ts.head?.map (·.pos.line)).getD 0
    let names := ts.filterMap fun
      | .Name id pos => if kd id == some .local && pos.line == line then some id else none
      | _ => none
    if names.length != ts.length || names.eraseDups.length != names.length then some none
    else if vs.all (foldedForSure 8) then some none
    else if vs.all (constantsAlone 8) then none
    else some (some names)
theorem swapM_ok {env : PySem.Env} {ts vs : List Expr} {k k2 : Nat} {p p2 : Pos} (hk : env.scope.kind = .function) {r : Option (List Str)} (h : swapM env.kindOf ts vs = some r) : swappedStores [.Tuple ts k p] (.Tuple vs k2 p2) env = pure r := by
  have hb : env.blockKind = .function := by unfold Env.blockKind; rw [hk]; rfl
  unfold swapM at h
  unfold swappedStores
  simp only [hb, bne_self_eq_false, Bool.or_false]
  split at h
  · rename_i h1
    cases h
    exact if_pos h1
  · rename_i h1
    refine (if_neg h1).trans ?_
    split at h
    · rename_i h2
      cases h
      exact if_pos h2
    · rename_i h2
      refine (if_neg h2).trans ?_
      simp only at h
      split at h
      · rename_i h3
        cases h
        exact if_pos h3
      · rename_i h3
        refine (if_neg h3).trans ?_
        split at h
        · rename_i h4
          cases h
          exact if_pos h4
        · rename_i h4
          refine (if_neg h4).trans ?_
          split at h
          · cases h
          · rename_i h5
            cases h
            exact if_neg h5
theorem swap_none {env : PySem.Env} {t v : Expr} (h : (match t, v with | .Tuple .., .Tuple .. => false | .List .., .Tuple .. => false | _, _ => true) = true) : swappedStores [t] v env = pure none := by
  unfold swappedStores
  cases t <;> cases v <;> first | rfl | (simp at h)
theorem swaps_no {v : Expr} {t : Option Expr} {l : Nat} {env : PySem.Env} (h : compB v = false) : swapsWith v t l env = pure false := by
  cases v <;> first | rfl | (simp [compB] at h)
theorem swaps_sub {v t : Expr} {l : Nat} {env : PySem.Env} (h : (match t with | .Name .. => false | _ => true) = true) : swapsWith v (some t) l env = pure false := by
  unfold swapsWith
  cases v <;> first | rfl | (cases t <;> first | rfl | (simp at h))
/-- whether a comprehension's store goes the exchanged way -/
def compSwap (sc : Scope) (x : Str) (p vp : Pos) (scope : Scope) : Bool := isLoc sc x && p.line == vp.line && !(scope.names.any fun (n, k) => n == x && (k == .local || k == .cell))
theorem swaps_comp {elt : Expr} {gs : List Comprehension} {scope : Scope} {p vp : Pos} {x : Str} {l : Nat} {env : PySem.Env} (hk : env.scope.kind = .function) : swapsWith (.ListComp elt gs scope vp) (some (.Name x p)) l env = pure (compSwap env.scope x p vp scope) := by
  have hb : env.blockKind = .function := by unfold Env.blockKind; rw [hk]; rfl
  unfold swapsWith compSwap isLoc
  simp only [hb, Env.kindOf, Expr.pos, beq_self_eq_true, Bool.true_and]
  cases env.scope.names.lookup x with
  | none => rfl
  | some z => cases z <;> rfl
def isLc : E → Bool
  | .lc .. => true
  | .lc2 .. => true
  | _ => false
def parB (sc : Scope) (ns : List Str) (r : Option (Option (List Str))) : Bool := match r with
  | some none => true
  | some (some m) => decide (m = ns) && ns.all (isLoc sc)
  | none => false
def lcompB : Expr → Bool
  | .ListComp .. => true
  | _ => false
def asgTB (kd : Str → Option NameKind) (tg v : Expr) : Bool := match tg, v with
  | .Tuple ts _ _, .Tuple vs _ _ => (match swapM kd ts vs with | some none => true | _ => false)
  | .List _ _, .Tuple _ _ _ => false
  | .List _ _, _ => false
  | _, _ => true
def nameB : Expr → Bool
  | .Name .. => true
  | _ => false
def tupB : Expr → Bool
  | .Tuple .. => true
  | .List .. => true
  | _ => false
mutual
def chS (C : SC) : S → Stmt → Bool
  | .asg i e => fun s => match s with
    | .Assign [.Name x _] v _ => C.store i x && chE C e v && (!compB v || (isLc e && lcompB v))
    | _ => false
  | .asgT t e => fun s => match s with
    | .Assign [tg] v _ => !nameB tg && chTg C t tg && chE C e v && starB tg && asgTB (fun x => C.sc.names.lookup x) tg v
    | _ => false
  | .par2 i j a b => fun s => match s with
    | .Assign [.Tuple [.Name x px, .Name y py] _ _] (.Tuple [u, v] _ _) _ => C.store i x && C.store j y && chE C a u && chE C b v && starB u && starB v && decide (i ≠ j) && parB C.sc [x, y] (swapM (fun x => C.sc.names.lookup x) [.Name x px, .Name y py] [u, v])
    | _ => false
  | .par3 i j l a b c => fun s => match s with
    | .Assign [.Tuple [.Name x px, .Name y py, .Name z pz] _ _] (.Tuple [u, v, t] _ _) _ => C.store i x && C.store j y && C.store l z && chE C a u && chE C b v && chE C c t && starB u && starB v && starB t && decide (i ≠ j) && decide (i ≠ l) && decide (j ≠ l) && parB C.sc [x, y, z] (swapM (fun x => C.sc.names.lookup x) [.Name x px, .Name y py, .Name z pz] [u, v, t])
    | _ => false
  | .aug i o e => fun s => match s with
    | .AugAssign (.Name x _) o' v _ => decide (o = o') && C.store i x && chE C e v
    | _ => false
  | .ex e => fun s => match s with
    | .Expr v _ => chE C e v && !compB v
    | _ => false
  | .ret e => fun s => match s with
    | .Return (some v) _ => chE C e v
    | _ => false
  | .retN => fun s => match s with
    | .Return none _ => true
    | _ => false
  | .pass => fun s => match s with
    | .Pass _ => true
    | _ => false
  | .brk => fun s => match s with
    | .Break _ => true
    | _ => false
  | .cnt => fun s => match s with
    | .Continue _ => true
    | _ => false
  | .ite c a b => fun s => match s with
    | .If t x y _ => chC C c t && chSs C a x && chSs C b y
    | _ => false
  | .whl c b => fun s => match s with
    | .While t x [] _ => chC C c t && chSs C b x
    | _ => false
  | .for_ t it b => fun s => match s with
    | .For tg iter x [] _ => chTg C t tg && chI C it tg iter && chSs C b x
    | _ => false
def chSs (C : SC) : Ss → List Stmt → Bool
  | .nil => fun l => match l with
    | [] => true
    | _ => false
  | .cons s ss => fun l => match l with
    | x :: xs => chS C s x && chSs C ss xs
    | _ => false
end

section
variable {P : Program} {w : World} {K : PySem.W.Frag} {mg : Str → Option Value} {base : Heap} {k : Nat} {F : Tb} {C : SC} {X : Cx} {gl : Str → Bool} {fp : Str → Bool} {kw : Str → Nat → List Str → List Nat → Bool}
theorem EPost.asg {O : Org} {A : List Addr} {B H : Hp} {σ : L2.St} {ρ ρ' : Env} {st : Sto} {T : List (Addr × List D)} {fr : Bool} {d : D} {v : V} {i : Nat} (h : EPost K O σ T ρ st fr d v A B H) (e : asgN i fr d ρ = some ρ') : Rel K O A B (σ.set i (some v)) H ρ' st T := by
  unfold EPost at h
  unfold asgN at e
  split at e
  · rename_i hi
    cases fr with
    | false =>
      cases e
      rw [if_neg Bool.false_ne_true] at h
      exact h.1.setVal h.2
    | true =>
      rw [if_pos rfl] at h
      obtain ⟨a, xs, rfl, rfl, R⟩ := h
      cases e
      exact R.setOwn hi
  · cases e
theorem SPost.mono {O : Org} {T : List (Addr × List D)} {A A1 : List Addr} {B B1 : Hp} {D : Ends} {ρ' : Env} {st' : Sto} {f : Fl} (hA : Px A A1) (hB : Ex B B1) (h : SPost K O T A B D ρ' st' f) : SPost K O T A1 B1 D ρ' st' f := by
  cases f with
  | nx => exact fun σ' A' B' H' a b => h σ' A' B' H' (hA.trans a) (hB.trans b)
  | bk => exact fun σ' A' B' H' a b => h σ' A' B' H' (hA.trans a) (hB.trans b)
  | ct => exact fun σ' A' B' H' a b => h σ' A' B' H' (hA.trans a) (hB.trans b)
  | rt fr d => exact fun v σ' A' B' H' a b => h v σ' A' B' H' (hA.trans a) (hB.trans b)
/-- name = value -/
theorem imp_asg {i : Nat} {p : E} {te : TE} (hte : ∀ σ H Q, tE K F p σ H Q → te σ H Q) (D : Ends) (σ : L2.St) (H : Hp) (hq : tS K F (.asg i p) D σ H) : tAsg te (gName i) D σ H := by
  obtain ⟨O, A, B, ρ, st, T, f, ρ', st', R, e, q⟩ := hq
  simp only [exS] at e
  obtain ⟨⟨fr, d, ρ1, st1⟩, e1, e⟩ := bindS e
  obtain ⟨ρ2, e2, e⟩ := bindS e
  cases e
  exact hte _ _ _ ⟨O, A, B, ρ, st, T, fr, d, ρ1, _, R, e1, fun v A1 B1 H1 hA1 hB1 hp => q _ A1 B1 H1 hA1 hB1 (hp.asg e2)⟩
theorem COk.storeP (ok : COk P w K mg base k C X) {i : Nat} {x : Str} (h : C.store i x = true) : X.N.Nodup ∧ X.N[i]? = some x ∧ Loc X.env.scope x ∧ (X.fn x = true ∨ X.env.scope.names.lookup x = some .local) := by
  unfold SC.store at h
  simp only [Bool.and_eq_true, decide_eq_true_eq] at h
  exact ⟨by rw [ok.N]; exact ok.nd, by rw [ok.N]; exact h.1.1.1, by rw [ok.sc]; exact loc_of h.1.1.2, ok.tg x h.1.2⟩
theorem loc_lookup {sc : Scope} {x : Str} (h : isLoc sc x = true) : sc.names.lookup x = some .local := by
  unfold isLoc at h
  split at h
  · assumption
  · cases h
theorem ss_asg (G : GOk P w K mg base k F gl fp kw) (ok : COk P w K mg base k C X) (tie : Tied gl fp kw C) {i : Nat} {p : E} {x : Str} {v : Expr} {px pos : Pos} (h1 : C.store i x = true) (h2 : chE C p v = true) (h3 : (!compB v || (isLc p && lcompB v)) = true) : PS X (.Assign [.Name x px] v pos) (tS K F (.asg i p)) := by
  obtain ⟨n1, n2, n3, n4⟩ := ok.storeP h1
  have he := sdE G p C X v ok tie h2
  by_cases hc : compB v = false
  · exact (ps_set n1 n2 n3 he (swaps_no hc) n4).imp (imp_asg fun _ _ _ h => h)
  · have hc : compB v = true := by simpa using hc
    rw [hc] at h3
    simp only [Bool.not_true, Bool.false_or, Bool.and_eq_true] at h3
    obtain ⟨h3, h4⟩ := h3
    cases v <;> first | (simp [lcompB] at h4; done) | skip
    rename_i elt gs scope vp _
    by_cases hw : compSwap X.env.scope x px vp scope = true
    · have hsw : swapsWith (.ListComp elt gs scope vp) (some (.Name x px)) pos.line X.env = pure true := by
        rw [swaps_comp (by rw [ok.sc]; exact ok.kind), hw]
      have hl : X.env.scope.names.lookup x = some .local := by
        unfold compSwap at hw
        simp only [Bool.and_eq_true] at hw
        exact loc_lookup hw.1.1
      cases p <;> first | (simp [isLc] at h3; done) | skip
      · rename_i a t it c own
        simp only [chE] at h2
        split at h2
        · rename_i x' tg iter ifs scope' pos' heq
          cases heq
          simp only [Bool.and_eq_true] at h2
          obtain ⟨⟨⟨⟨⟨h1, h2⟩, h3⟩, h4⟩, h5⟩, h6⟩ := h2
          have hk := blk_kind h1
          have hi := sdI G it C X tg iter ok tie h2
          have hs := fold_ok (chI_set h2) X.env
          have hg := fun s H Cc cl fpp => sdT G t (C.blk scope) (X.blk s H scope (compEnvC scope cl Cc X.env) fpp) tg (ok.blk scope s H Cc cl fpp hk) tie h3
          have ht := fun s H Cc cl fpp => sdCo G c (C.blk scope) (X.blk s H scope (compEnvC scope cl Cc X.env) fpp) ifs (ok.blk scope s H Cc cl fpp hk) tie h4
          have he := fun s H Cc cl fpp => sdE G a (C.blk scope) (X.blk s H scope (compEnvC scope cl Cc X.env) fpp) elt (ok.blk scope s H Cc cl fpp hk) tie h5
          refine (ps_setLc ok.calm n1 n2 hl hsw hi (by rw [ok.N, ok.sc]; exact blkOk_by h1) hg ht he hs).imp (imp_asg ?_)
          exact sd_lc (pos := vp) ok h1 hi hg ht he hs (all_contains h6)
        · cases h2
      · rename_i a t it c t1 it1 c1 own own1
        simp only [chE] at h2
        split at h2
        · rename_i x' tg iter ifs tg1 iter1 ifs1 scope' pos' heq
          cases heq
          simp only [Bool.and_eq_true] at h2
          obtain ⟨⟨⟨⟨⟨⟨⟨⟨⟨⟨h1, h2⟩, h3⟩, h4⟩, h7⟩, h8⟩, h9⟩, h5⟩, h6⟩, h10⟩, h11⟩ := h2
          have hk := blk_kind h1
          have hi := sdI G it C X tg iter ok tie h2
          have hs := fold_ok (chI_set h2) X.env
          have hs1 := fun env => fold_ok (chI_set h7) env
          have hg := fun s H Cc cl fpp => sdT G t (C.blk scope) (X.blk s H scope (compEnvC scope cl Cc X.env) fpp) tg (ok.blk scope s H Cc cl fpp hk) tie h3
          have ht := fun s H Cc cl fpp => sdCo G c (C.blk scope) (X.blk s H scope (compEnvC scope cl Cc X.env) fpp) ifs (ok.blk scope s H Cc cl fpp hk) tie h4
          have hi1 := fun s H Cc cl fpp => sdI G it1 (C.blk scope) (X.blk s H scope (compEnvC scope cl Cc X.env) fpp) tg1 iter1 (ok.blk scope s H Cc cl fpp hk) tie h7
          have hg1 := fun s H Cc cl fpp => sdT G t1 (C.blk scope) (X.blk s H scope (compEnvC scope cl Cc X.env) fpp) tg1 (ok.blk scope s H Cc cl fpp hk) tie h8
          have ht1 := fun s H Cc cl fpp => sdCo G c1 (C.blk scope) (X.blk s H scope (compEnvC scope cl Cc X.env) fpp) ifs1 (ok.blk scope s H Cc cl fpp hk) tie h9
          have he := fun s H Cc cl fpp => sdE G a (C.blk scope) (X.blk s H scope (compEnvC scope cl Cc X.env) fpp) elt (ok.blk scope s H Cc cl fpp hk) tie h5
          refine (ps_setLc2 ok.calm n1 n2 hl hsw hi (by rw [ok.N, ok.sc]; exact blkOk_by h1) (all_contains h11) hg ht hi1 hg1 ht1 he hs hs1).imp (imp_asg ?_)
          exact sd_lc2 (all_contains h6) (all_contains h10) (all_contains h11)
        · cases h2
    · have hw : compSwap X.env.scope x px vp scope = false := by simpa using hw
      exact (ps_set n1 n2 n3 he (by rw [swaps_comp (by rw [ok.sc]; exact ok.kind), hw]) n4).imp (imp_asg fun _ _ _ h => h)
end
end Pv

namespace Pv
open PySem PySem.Spec PyProof.Rows L2

section
variable {P : Program} {w : World} {K : PySem.W.Frag} {mg : Str → Option Value} {base : Heap} {k : Nat} {F : Tb} {C : SC} {X : Cx} {gl : Str → Bool} {fp : Str → Bool} {kw : Str → Nat → List Str → List Nat → Bool}
/-- target = value -/
theorem imp_asgT {t : Tg} {p : E} (D : Ends) (σ : L2.St) (H : Hp) (hq : tS K F (.asgT t p) D σ H) : tAsg (tE K F p) (tG K F t) D σ H := by
  obtain ⟨O, A, B, ρ, st, T, f, ρ', st', R, e, q⟩ := hq
  simp only [exS] at e
  obtain ⟨⟨d, ρ1, st1⟩, e1, e⟩ := bindS e
  obtain ⟨⟨ρ2, st2⟩, e2, e⟩ := bindS e
  cases e
  exact tE_V R e1 fun v A1 B1 H1 hA1 hB1 R1 h1 => tG_of R1 h1 e2 fun σ' A2 B2 H2 hA2 hB2 _ R2 => q σ' A2 B2 H2 (hA1.trans hA2) (hB1.trans hB2) R2
theorem asg_one {t : Expr} {env : PySem.Env} (h : starB t = true) : (assignEach [t] env).map (·.2) = [assign t env] := by
  rw [asg_list (all_cons_iff.mpr ⟨h, rfl⟩)]; rfl
theorem sole {t v : Expr} {l : Nat} {env : PySem.Env} : swapsWithSole [t] v l env = swapsWith v (some t) l env := rfl
theorem COk.scKind (ok : COk P w K mg base k C X) : X.env.scope.kind = .function := by rw [ok.sc]; exact ok.kind
theorem COk.kd (ok : COk P w K mg base k C X) : X.env.kindOf = fun x => C.sc.names.lookup x := by
  funext x
  show X.env.scope.names.lookup x = C.sc.names.lookup x
  rw [ok.sc]
/-- a value that is held on while something else goes on -/
theorem EPost.hold {O : Org} {A : List Addr} {B H : Hp} {σ : L2.St} {ρ : Env} {st : Sto} {T : List (Addr × List D)} {fr : Bool} {d : D} {v : V} (h : EPost K O σ T ρ st fr d v A B H) :
    ∃ T1, Rel K O A B σ H ρ st T1 ∧ ∀ σ' A' B' H' ρ' st', Px A A' → Ex B B' → Rel K O A' B' σ' H' ρ' st' T1 → EPost K O σ' T ρ' st' fr d v A' B' H' := by
  unfold EPost at h ⊢
  cases fr with
  | false =>
    rw [if_neg Bool.false_ne_true] at h
    exact ⟨T, h.1, fun σ' A' B' H' ρ' st' hA hB R => by rw [if_neg Bool.false_ne_true]; exact ⟨R, h.2.mono hA hB⟩⟩
  | true =>
    rw [if_pos rfl] at h
    obtain ⟨a, xs, rfl, rfl, R⟩ := h
    exact ⟨_, R, fun σ' A' B' H' ρ' st' hA hB R' => by rw [if_pos rfl]; exact ⟨a, xs, rfl, rfl, R'⟩⟩
theorem ss_par2 (G : GOk P w K mg base k F gl fp kw) (ok : COk P w K mg base k C X) (tie : Tied gl fp kw C) {i j : Nat} {a b : E} {x y : Str} {u v : Expr} {px py tp vp pos : Pos} {k1 k2 : Nat} (h1 : C.store i x = true) (h2 : C.store j y = true) (h3 : chE C a u = true) (h4 : chE C b v = true) (su : starB u = true) (sv : starB v = true) (hij : i ≠ j)
    (h5 : parB C.sc [x, y] (swapM (fun x => C.sc.names.lookup x) [.Name x px, .Name y py] [u, v]) = true) : PS X (.Assign [.Tuple [.Name x px, .Name y py] k1 tp] (.Tuple [u, v] k2 vp) pos) (tS K F (.par2 i j a b)) := by
  have hK := ok.K
  subst hK
  obtain ⟨n1, n2, n3, n4⟩ := ok.storeP h1
  obtain ⟨m1, m2, m3, m4⟩ := ok.storeP h2
  have ha := sdE G a C X u ok tie h3
  have hb := sdE G b C X v ok tie h4
  have pa : PA X [u, v] (tCons (tE X.K F a) (tCons (tE X.K F b) tNil)) := pa_cons ha (pa_cons hb pa_nil (star_cons sv)) (star_cons su)
  -- the values, then the stores
  have core : ∀ (D0 : Ends) (σ : L2.St) (H : Hp), tS X.K F (.par2 i j a b) D0 σ H → tE X.K F a σ H fun v1 H1 => tE X.K F b σ H1 fun v2 H2 => ∀ H3, (H3 = H2 ∨ ∃ p o, H2 p = none ∧ H3 = upd H2 p o) → D0.nx ((σ.set i (some v1)).set j (some v2)) H3 := fun D0 σ H hq => by
    obtain ⟨O, A, B, ρ, st, T, f, ρ', st', R, e, q⟩ := hq
    simp only [exS] at e
    obtain ⟨⟨fr, d, ρ1, st1⟩, e1, e⟩ := bindS e
    obtain ⟨⟨fr', d', ρ2, st2⟩, e2, e⟩ := bindS e
    obtain ⟨ρ3, e3, e⟩ := bindS e
    obtain ⟨ρ4, e4, e⟩ := bindS e
    simp only [if_neg hij] at e
    cases e
    refine ⟨O, A, B, ρ, st, T, fr, d, ρ1, st1, R, e1, fun v1 A1 B1 H1 hA1 hB1 p1 => ?_⟩
    obtain ⟨T1, R1, back1⟩ := p1.hold
    refine ⟨O, A1, B1, ρ1, st1, T1, fr', d', ρ2, _, R1, e2, fun v2 A2 B2 H2 hA2 hB2 p2 H3 h3 => ?_⟩
    have p3 : EPost X.K O σ T1 ρ2 st' fr' d' v2 A2 B2 H3 := by
      rcases h3 with rfl | ⟨p, o, hp, rfl⟩
      · exact p2
      · obtain ⟨T2, R2, back2⟩ := p2.hold
        exact back2 _ _ _ _ _ _ (Px.refl _) (Ex.refl _) (R2.waste hp)
    have r3 := p3.asg e3
    have r4 := (back1 _ _ _ _ _ _ hA2 hB2 r3).asg e4
    rw [List.set_comm _ _ (Ne.symm hij)] at r4
    exact q _ A2 B2 H3 (hA1.trans hA2) (hB1.trans hB2) r4
  have hs : swapsWithSole [.Tuple [.Name x px, .Name y py] k1 tp] (.Tuple [u, v] k2 vp) pos.line X.env = pure false := by rw [sole]; exact swaps_no rfl
  unfold parB at h5
  split at h5
  · rename_i hw
    have sw := swapM_ok (k := k1) (k2 := k2) (p := tp) (p2 := vp) ok.scKind (r := none) (by rw [ok.kd]; exact hw)
    have st2 : [Expr.Name x px, Expr.Name y py].all starB = true := rfl
    refine (ps_asg (pe_tup pa) (pg_tup (n := 2) ok.calm (pgs_cons (pg_name n1 n2 n3 n4) (pgs_cons (pg_name m1 m2 m3 m4) pgs_nil (by rw [asg_list rfl]; rfl)) (by rw [asg_list st2]; rfl)) (by rw [asg_list st2]; rfl) (by rw [asg_list st2]; rfl)) hs sw (asg_one rfl)).imp fun D0 σ H hq => ?_
    refine core D0 σ H hq |> fun z => ?_
    obtain ⟨O, A, B, ρ, st, T, fr, d, ρ', st', R, e, q⟩ := z
    refine ⟨O, A, B, ρ, st, T, fr, d, ρ', st', R, e, fun v1 A1 B1 H1 hA1 hB1 p1 => ?_⟩
    obtain ⟨O', A', B', ρ2, st2, T', fr', d', ρ3, st3, R', e', q'⟩ := q v1 A1 B1 H1 hA1 hB1 p1
    refine ⟨O', A', B', ρ2, st2, T', fr', d', ρ3, st3, R', e', fun v2 A2 B2 H2 hA2 hB2 p2 => ?_⟩
    have z := q' v2 A2 B2 H2 hA2 hB2 p2
    refine ⟨by show 2 ≤ sizeLine; decide, fun p hp => ?_⟩
    exact ⟨p, [v1, v2], rfl, SqT.of upd_same, rfl, v1, [v2], rfl, v2, [], rfl, rfl, z _ (.inr ⟨p, _, hp, rfl⟩)⟩
  · rename_i ns hw
    simp only [Bool.and_eq_true, decide_eq_true_eq, List.all_cons, List.all_nil, Bool.and_true] at h5
    obtain ⟨rfl, l1, l2⟩ := h5
    have sw := swapM_ok (k := k1) (k2 := k2) (p := tp) (p2 := vp) ok.scKind (r := some [x, y]) (by rw [ok.kd]; exact hw)
    refine (ps_par ok.calm n1 n2 m2 hij (by rw [ok.sc]; exact loc_lookup l1) (by rw [ok.sc]; exact loc_lookup l2) pa sw hs).imp fun D0 σ H hq => ?_
    refine core D0 σ H hq |> fun z => ?_
    obtain ⟨O, A, B, ρ, st, T, fr, d, ρ', st', R, e, q⟩ := z
    refine ⟨O, A, B, ρ, st, T, fr, d, ρ', st', R, e, fun v1 A1 B1 H1 hA1 hB1 p1 => ?_⟩
    obtain ⟨O', A', B', ρ2, st2, T', fr', d', ρ3, st3, R', e', q'⟩ := q v1 A1 B1 H1 hA1 hB1 p1
    exact ⟨O', A', B', ρ2, st2, T', fr', d', ρ3, st3, R', e', fun v2 A2 B2 H2 hA2 hB2 p2 => ⟨v1, v2, rfl, q' v2 A2 B2 H2 hA2 hB2 p2 _ (.inl rfl)⟩⟩
  · cases h5
theorem ss_par3 (G : GOk P w K mg base k F gl fp kw) (ok : COk P w K mg base k C X) (tie : Tied gl fp kw C) {i j l : Nat} {a b c : E} {x y z : Str} {u v t : Expr} {px py pz tp vp pos : Pos} {k1 k2 : Nat} (h1 : C.store i x = true) (h2 : C.store j y = true) (h0 : C.store l z = true) (h3 : chE C a u = true) (h4 : chE C b v = true) (h6 : chE C c t = true) (su : starB u = true) (sv : starB v = true) (st : starB t = true)
    (hij : i ≠ j) (hil : i ≠ l) (hjl : j ≠ l)
    (h5 : parB C.sc [x, y, z] (swapM (fun x => C.sc.names.lookup x) [.Name x px, .Name y py, .Name z pz] [u, v, t]) = true) : PS X (.Assign [.Tuple [.Name x px, .Name y py, .Name z pz] k1 tp] (.Tuple [u, v, t] k2 vp) pos) (tS K F (.par3 i j l a b c)) := by
  have hK := ok.K
  subst hK
  obtain ⟨n1, n2, n3, n4⟩ := ok.storeP h1
  obtain ⟨m1, m2, m3, m4⟩ := ok.storeP h2
  obtain ⟨o1, o2, o3, o4⟩ := ok.storeP h0
  have ha := sdE G a C X u ok tie h3
  have hb := sdE G b C X v ok tie h4
  have hc := sdE G c C X t ok tie h6
  have pa : PA X [u, v, t] (tCons (tE X.K F a) (tCons (tE X.K F b) (tCons (tE X.K F c) tNil))) := pa_cons ha (pa_cons hb (pa_cons hc pa_nil (star_cons st)) (star_cons sv)) (star_cons su)
  have core : ∀ (D0 : Ends) (σ : L2.St) (H : Hp), tS X.K F (.par3 i j l a b c) D0 σ H → tE X.K F a σ H fun v1 H1 => tE X.K F b σ H1 fun v2 H2 => tE X.K F c σ H2 fun v3 H3 => ∀ H4, (H4 = H3 ∨ ∃ p o, H3 p = none ∧ H4 = upd H3 p o) → D0.nx (((σ.set i (some v1)).set j (some v2)).set l (some v3)) H4 := fun D0 σ H hq => by
    obtain ⟨O, A, B, ρ, st, T, f, ρ', st', R, e, q⟩ := hq
    simp only [exS] at e
    obtain ⟨⟨fr, d, ρ1, st1⟩, e1, e⟩ := bindS e
    obtain ⟨⟨fr', d', ρ2, st2⟩, e2, e⟩ := bindS e
    obtain ⟨⟨fr'', d'', ρ3, st3⟩, e3, e⟩ := bindS e
    obtain ⟨ρ4, e4, e⟩ := bindS e
    obtain ⟨ρ5, e5, e⟩ := bindS e
    obtain ⟨ρ6, e6, e⟩ := bindS e
    have hn : ¬ (i = j ∨ i = l ∨ j = l) := fun z => z.elim hij fun z => z.elim hil hjl
    simp only [if_neg hn] at e
    cases e
    refine ⟨O, A, B, ρ, st, T, fr, d, ρ1, st1, R, e1, fun v1 A1 B1 H1 hA1 hB1 p1 => ?_⟩
    obtain ⟨T1, R1, back1⟩ := p1.hold
    refine ⟨O, A1, B1, ρ1, st1, T1, fr', d', ρ2, _, R1, e2, fun v2 A2 B2 H2 hA2 hB2 p2 => ?_⟩
    obtain ⟨T2, R2, back2⟩ := p2.hold
    refine ⟨O, A2, B2, ρ2, st2, T2, fr'', d'', ρ3, _, R2, e3, fun v3 A3 B3 H3 hA3 hB3 p3 H4 h4 => ?_⟩
    have p4 : EPost X.K O σ T2 ρ3 st' fr'' d'' v3 A3 B3 H4 := by
      rcases h4 with rfl | ⟨p, o, hp, rfl⟩
      · exact p3
      · obtain ⟨T3, R3, back3⟩ := p3.hold
        exact back3 _ _ _ _ _ _ (Px.refl _) (Ex.refl _) (R3.waste hp)
    have r4 := p4.asg e4
    have r5 := (back2 _ _ _ _ _ _ hA3 hB3 r4).asg e5
    have r6 := (back1 _ _ _ _ _ _ (hA2.trans hA3) (hB2.trans hB3) r5).asg e6
    rw [List.set_comm _ _ (Ne.symm hjl), List.set_comm _ _ (Ne.symm hil), List.set_comm _ _ (Ne.symm hij)] at r6
    exact q _ A3 B3 H4 ((hA1.trans hA2).trans hA3) ((hB1.trans hB2).trans hB3) r6
  have hs : swapsWithSole [.Tuple [.Name x px, .Name y py, .Name z pz] k1 tp] (.Tuple [u, v, t] k2 vp) pos.line X.env = pure false := by rw [sole]; exact swaps_no rfl
  unfold parB at h5
  split at h5
  · rename_i hw
    have sw := swapM_ok (k := k1) (k2 := k2) (p := tp) (p2 := vp) ok.scKind (r := none) (by rw [ok.kd]; exact hw)
    have st2 : [Expr.Name x px, Expr.Name y py, Expr.Name z pz].all starB = true := rfl
    refine (ps_asg (pe_tup pa) (pg_tup (n := 3) ok.calm (pgs_cons (pg_name n1 n2 n3 n4) (pgs_cons (pg_name m1 m2 m3 m4) (pgs_cons (pg_name o1 o2 o3 o4) pgs_nil (by rw [asg_list rfl]; rfl)) (by rw [asg_list rfl]; rfl)) (by rw [asg_list st2]; rfl)) (by rw [asg_list st2]; rfl) (by rw [asg_list st2]; rfl)) hs sw (asg_one rfl)).imp fun D0 σ H hq => ?_
    refine core D0 σ H hq |> fun z => ?_
    obtain ⟨O, A, B, ρ, st, T, fr, d, ρ', st', R, e, q⟩ := z
    refine ⟨O, A, B, ρ, st, T, fr, d, ρ', st', R, e, fun v1 A1 B1 H1 hA1 hB1 p1 => ?_⟩
    obtain ⟨O', A', B', ρ2, st2, T', fr', d', ρ3, st3, R', e', q'⟩ := q v1 A1 B1 H1 hA1 hB1 p1
    refine ⟨O', A', B', ρ2, st2, T', fr', d', ρ3, st3, R', e', fun v2 A2 B2 H2 hA2 hB2 p2 => ?_⟩
    obtain ⟨O'', A'', B'', ρ4, st4, T'', fr'', d'', ρ5, st5, R'', e'', q''⟩ := q' v2 A2 B2 H2 hA2 hB2 p2
    refine ⟨O'', A'', B'', ρ4, st4, T'', fr'', d'', ρ5, st5, R'', e'', fun v3 A3 B3 H3 hA3 hB3 p3 => ?_⟩
    have z := q'' v3 A3 B3 H3 hA3 hB3 p3
    refine ⟨by show 3 ≤ sizeLine; decide, fun p hp => ?_⟩
    exact ⟨p, [v1, v2, v3], rfl, SqT.of upd_same, rfl, v1, [v2, v3], rfl, v2, [v3], rfl, v3, [], rfl, rfl, z _ (.inr ⟨p, _, hp, rfl⟩)⟩
  · rename_i ns hw
    simp only [Bool.and_eq_true, decide_eq_true_eq, List.all_cons, List.all_nil, Bool.and_true] at h5
    obtain ⟨rfl, l1, l2, l3⟩ := h5
    have sw := swapM_ok (k := k1) (k2 := k2) (p := tp) (p2 := vp) ok.scKind (r := some [x, y, z]) (by rw [ok.kd]; exact hw)
    refine (ps_par3 ok.calm n1 n2 m2 o2 hij hil hjl (by rw [ok.sc]; exact loc_lookup l1) (by rw [ok.sc]; exact loc_lookup l2) (by rw [ok.sc]; exact loc_lookup l3) pa sw hs).imp fun D0 σ H hq => ?_
    refine core D0 σ H hq |> fun z => ?_
    obtain ⟨O, A, B, ρ, st, T, fr, d, ρ', st', R, e, q⟩ := z
    refine ⟨O, A, B, ρ, st, T, fr, d, ρ', st', R, e, fun v1 A1 B1 H1 hA1 hB1 p1 => ?_⟩
    obtain ⟨O', A', B', ρ2, st2, T', fr', d', ρ3, st3, R', e', q'⟩ := q v1 A1 B1 H1 hA1 hB1 p1
    refine ⟨O', A', B', ρ2, st2, T', fr', d', ρ3, st3, R', e', fun v2 A2 B2 H2 hA2 hB2 p2 => ?_⟩
    obtain ⟨O'', A'', B'', ρ4, st4, T'', fr'', d'', ρ5, st5, R'', e'', q''⟩ := q' v2 A2 B2 H2 hA2 hB2 p2
    exact ⟨O'', A'', B'', ρ4, st4, T'', fr'', d'', ρ5, st5, R'', e'', fun v3 A3 B3 H3 hA3 hB3 p3 => ⟨v1, v2, v3, rfl, q'' v3 A3 B3 H3 hA3 hB3 p3 _ (.inl rfl)⟩⟩
  · cases h5
/-! ### the simple statements -/
theorem imp_ret {p : E} (hp : ∀ i, p ≠ .v i) (D : Ends) (σ : L2.St) (H : Hp) (hq : tS K F (.ret p) D σ H) : tRet (tE K F p) D σ H := by
  obtain ⟨O, A, B, ρ, st, T, f, ρ', st', R, e, q⟩ := hq
  simp only [exS] at e
  obtain ⟨⟨fr, d, ρ1, st1⟩, e1, e⟩ := bindS e
  cases e
  have e2 : evE F p ρ st = some (fr, d, ρ1, st1) := by
    unfold retE at e1
    split at e1
    · rename_i i; exact absurd rfl (hp i)
    · exact e1
  exact ⟨O, A, B, ρ, st, T, fr, d, ρ1, st1, R, e2, fun v A1 B1 H1 hA1 hB1 hp => q v σ A1 B1 H1 hA1 hB1 hp⟩
theorem imp_retv {i : Nat} (D : Ends) (σ : L2.St) (H : Hp) (hq : tS K F (.ret (.v i)) D σ H) : tRet (tVar i) D σ H := by
  obtain ⟨O, A, B, ρ, st, T, f, ρ', st', R, e, q⟩ := hq
  simp only [exS] at e
  obtain ⟨⟨fr, d, ρ1, st1⟩, e1, e⟩ := bindS e
  cases e
  simp only [retE] at e1
  cases z : ρ[i]? with
  | none => rw [z] at e1; simp only [evE, z] at e1; cases e1
  | some s =>
    rw [z] at e1
    cases s with
    | no => simp only [evE, z] at e1; cases e1
    | val d' =>
      simp only [evE, z] at e1
      cases e1
      obtain ⟨v, h1, h2⟩ := R.val i _ z
      exact ⟨v, h1, q v σ A B H (Px.refl _) (Ex.refl _) (.val R h2)⟩
    | own xs =>
      cases e1
      obtain ⟨a, h1, R1⟩ := R.take z
      refine ⟨_, h1, q (.ref a) σ A B H (Px.refl _) (Ex.refl _) ?_⟩
      unfold EPost
      rw [if_pos rfl]
      exact ⟨a, xs, rfl, rfl, R1⟩
theorem imp_ex {p : E} (D : Ends) (σ : L2.St) (H : Hp) (hq : tS K F (.ex p) D σ H) : tDrop (tE K F p) D σ H := by
  obtain ⟨O, A, B, ρ, st, T, f, ρ', st', R, e, q⟩ := hq
  simp only [exS] at e
  obtain ⟨⟨fr, d, ρ1, st1⟩, e1, e⟩ := bindS e
  cases e
  refine ⟨O, A, B, ρ, st, T, fr, d, _, _, R, e1, fun v A1 B1 H1 hA1 hB1 hp => ?_⟩
  obtain ⟨B2, h1, h2, h3⟩ := hp.freeze
  exact q σ A1 B2 H1 hA1 (hB1.trans h1) h2
def ipD (K : PySem.W.Frag) (o : Operator) : TIp := fun x y H Q => ∃ A B a b d, Ho K A B x a ∧ Ho K A B y b ∧ augD o a b = some d ∧ ∀ v, (∀ A B, Ho K A B v d) → Q v H
theorem iop_mulW : OpR X (inplaceOp .Mult) (rI CMulW fun i j => .int (i * j)) := opI fun _ _ _ _ _ _ _ hc q => imul_int q hc.ok
theorem pip_all (o : Operator) : PIp X o (ipD X.K o) := by
  intro pins s σ H x y v u Q I rx ry h
  obtain ⟨A, B, a, b, d, hx, hy, e, q⟩ := h
  cases o with
  | Add =>
    cases a <;> cases b <;> first
      | (cases e; done)
      | (cases hx; cases hy; cases e; exact iop_add pins s σ H _ _ v u Q I rx ry ⟨_, _, rfl, rfl, q _ fun _ _ => .int _⟩)
  | Sub =>
    cases a <;> cases b <;> first
      | (cases e; done)
      | (cases hx; cases hy; cases e; exact iop_sub pins s σ H _ _ v u Q I rx ry ⟨_, _, rfl, rfl, q _ fun _ _ => .int _⟩)
  | Mult =>
    cases a <;> cases b <;> first
      | (cases e; done)
      | (cases hx; cases hy
         simp only [augD] at e
         split at e
         · rename_i hl
           cases e
           exact iop_mulW pins s σ H _ _ v u Q I rx ry ⟨_, _, rfl, rfl, CMulW_of hl.1 hl.2, q _ fun _ _ => .int _⟩
         · cases e)
  | _ => cases a <;> cases b <;> cases e
theorem imp_aug {i : Nat} {o : Operator} {p : E} (D : Ends) (σ : L2.St) (H : Hp) (hq : tS K F (.aug i o p) D σ H) : tAug i (tE K F p) (ipD K o) D σ H := by
  obtain ⟨O, A, B, ρ, st, T, f, ρ', st', R, e, q⟩ := hq
  simp only [exS] at e
  split at e
  · rename_i x hx
    obtain ⟨⟨y, ρ1, st1⟩, e1, e⟩ := bindS e
    obtain ⟨z, e2, e⟩ := bindS e
    obtain ⟨ρ2, e3, e⟩ := bindS e
    cases e
    obtain ⟨v, h1, h2⟩ := R.val i _ hx
    refine ⟨v, h1, tE_V R e1 fun u A1 B1 H1 hA1 hB1 R1 hu => ⟨A1, B1, x, y, z, h2.mono hA1 hB1, hu, e2, fun r hr => ?_⟩⟩
    obtain ⟨hi, rfl⟩ := asgN_val e3
    exact q _ A1 B1 H1 hA1 hB1 (R1.setVal (hr A1 B1))
  · cases e
end
end Pv

namespace Pv
open PySem PySem.Spec PyProof.Rows L2

section
variable {P : Program} {w : World} {K : PySem.W.Frag} {mg : Str → Option Value} {base : Heap} {k : Nat} {F : Tb} {C : SC} {X : Cx} {gl : Str → Bool} {fp : Str → Bool} {kw : Str → Nat → List Str → List Nat → Bool}
theorem imp_retN (D : Ends) (σ : L2.St) (H : Hp) (hq : tS K F .retN D σ H) : tRetN D σ H := by
  obtain ⟨O, A, B, ρ, st, T, f, ρ', st', R, e, q⟩ := hq
  simp only [exS] at e
  cases e
  exact q .non σ A B H (Px.refl _) (Ex.refl _) (.val R .non)
theorem imp_pass (D : Ends) (σ : L2.St) (H : Hp) (hq : tS K F .pass D σ H) : tNext D σ H := by
  obtain ⟨O, A, B, ρ, st, T, f, ρ', st', R, e, q⟩ := hq
  simp only [exS] at e
  cases e
  exact q σ A B H (Px.refl _) (Ex.refl _) R
theorem imp_brk (D : Ends) (σ : L2.St) (H : Hp) (hq : tS K F .brk D σ H) : tBreak D σ H := by
  obtain ⟨O, A, B, ρ, st, T, f, ρ', st', R, e, q⟩ := hq
  simp only [exS] at e
  cases e
  exact q σ A B H (Px.refl _) (Ex.refl _) R
theorem imp_cnt (D : Ends) (σ : L2.St) (H : Hp) (hq : tS K F .cnt D σ H) : tCont D σ H := by
  obtain ⟨O, A, B, ρ, st, T, f, ρ', st', R, e, q⟩ := hq
  simp only [exS] at e
  cases e
  exact q σ A B H (Px.refl _) (Ex.refl _) R
theorem imp_ite {c : Cn} {a b : Ss} (D : Ends) (σ : L2.St) (H : Hp) (hq : tS K F (.ite c a b) D σ H) : tIfS (tCn K F c) (tSs K F a) (tSs K F b) D σ H := by
  obtain ⟨O, A, B, ρ, st, T, f, ρ', st', R, e, q⟩ := hq
  simp only [exS] at e
  obtain ⟨⟨t, ρ1, st1⟩, e1, e⟩ := bindS e
  refine ⟨O, A, B, ρ, st, T, t, ρ1, st1, R, e1, fun A1 B1 H1 hA hB R1 => ?_⟩
  cases t with
  | true =>
    rw [if_pos rfl] at e ⊢
    exact ⟨O, A1, B1, ρ1, st1, T, f, ρ', st', R1, e, q.mono hA hB⟩
  | false =>
    rw [if_neg Bool.false_ne_true] at e ⊢
    exact ⟨O, A1, B1, ρ1, st1, T, f, ρ', st', R1, e, q.mono hA hB⟩
theorem imp_nil (D : Ends) (σ : L2.St) (H : Hp) (hq : tSs K F .nil D σ H) : tNext D σ H := by
  obtain ⟨O, A, B, ρ, st, T, f, ρ', st', R, e, q⟩ := hq
  simp only [exSs] at e
  cases e
  exact q σ A B H (Px.refl _) (Ex.refl _) R
theorem imp_cons {s : S} {ss : Ss} (D : Ends) (σ : L2.St) (H : Hp) (hq : tSs K F (.cons s ss) D σ H) : tSeq (tS K F s) (tSs K F ss) D σ H := by
  obtain ⟨O, A, B, ρ, st, T, f, ρ', st', R, e, q⟩ := hq
  simp only [exSs] at e
  obtain ⟨⟨g, ρ1, st1⟩, e1, e⟩ := bindS e
  refine ⟨O, A, B, ρ, st, T, g, ρ1, st1, R, e1, ?_⟩
  cases g with
  | nx => exact fun σ1 A1 B1 H1 hA hB R1 => ⟨O, A1, B1, ρ1, st1, T, f, ρ', st', R1, e, q.mono hA hB⟩
  | bk => cases e; exact q
  | ct => cases e; exact q
  | rt fr d => cases e; exact q
theorem imp_whl {c : Cn} {b : Ss} (D : Ends) (σ : L2.St) (H : Hp) (hq : tS K F (.whl c b) D σ H) : tWhile (tCn K F c) (tSs K F b) D σ H := by
  obtain ⟨O, A, B, ρ, st, T, f, ρ', st', R, e, q⟩ := hq
  rw [show exS F (.whl c b) ρ st = whlL (evT F c) (exSs F b) fuel ρ st by simp only [exS]] at e
  generalize fuel = n at e
  refine ⟨fun m σ H => ∃ A2 B2 ρ2 st2, Px A A2 ∧ Ex B B2 ∧ Rel K O A2 B2 σ H ρ2 st2 T ∧ whlL (evT F c) (exSs F b) m ρ2 st2 = some (f, ρ', st'), ⟨n, A, B, ρ, st, Px.refl _, Ex.refl _, R, e⟩, ?_⟩
  rintro m σ H ⟨A2, B2, ρ2, st2, hA2, hB2, R2, e2⟩
  cases m with
  | zero => simp only [whlL] at e2; cases e2
  | succ m =>
    simp only [whlL] at e2
    obtain ⟨⟨t, ρ3, st3⟩, e3, e2⟩ := bindS e2
    refine ⟨O, A2, B2, ρ2, st2, T, t, ρ3, st3, R2, e3, fun A3 B3 H3 hA3 hB3 R3 => ?_⟩
    cases t with
    | false =>
      simp only [Bool.false_eq_true, if_false] at e2 ⊢
      cases e2
      exact q σ A3 B3 H3 (hA2.trans hA3) (hB2.trans hB3) R3
    | true =>
      simp only [if_true] at e2 ⊢
      obtain ⟨⟨g, ρ4, st4⟩, e4, e2⟩ := bindS e2
      refine ⟨fun σ' H' => ∃ A5 B5, Px A A5 ∧ Ex B B5 ∧ Rel K O A5 B5 σ' H' ρ4 st4 T ∧ whlL (evT F c) (exSs F b) m ρ4 st4 = some (f, ρ', st'), fun σ' H' ⟨A5, B5, hA5, hB5, R5, e5⟩ => ⟨m, Nat.lt_succ_self m, A5, B5, ρ4, st4, hA5, hB5, R5, e5⟩, O, A3, B3, ρ3, st3, T, g, ρ4, st4, R3, e4, ?_⟩
      cases g with
      | nx => exact fun σ' A5 B5 H5 hA5 hB5 R5 => ⟨A5, B5, (hA2.trans hA3).trans hA5, (hB2.trans hB3).trans hB5, R5, e2⟩
      | ct => exact fun σ' A5 B5 H5 hA5 hB5 R5 => ⟨A5, B5, (hA2.trans hA3).trans hA5, (hB2.trans hB3).trans hB5, R5, e2⟩
      | bk => cases e2; exact fun σ' A5 B5 H5 hA5 hB5 R5 => q σ' A5 B5 H5 ((hA2.trans hA3).trans hA5) ((hB2.trans hB3).trans hB5) R5
      | rt fr d => cases e2; exact fun v σ' A5 B5 H5 hA5 hB5 R5 => q v σ' A5 B5 H5 ((hA2.trans hA3).trans hA5) ((hB2.trans hB3).trans hB5) R5
theorem drop_at {xs : List D} {i : Nat} {d : D} (h : xs[i]? = some d) : xs.drop i = d :: xs.drop (i + 1) := by
  obtain ⟨hi, e⟩ := List.getElem?_eq_some_iff.mp h
  rw [List.drop_eq_getElem_cons hi, e]
theorem imp_for {t : Tg} {it : I} {b : Ss} (D : Ends) (σ : L2.St) (H : Hp) (hq : tS K F (.for_ t it b) D σ H) : tFor (tI K F it) (tG K F t) (tSs K F b) D σ H := by
  obtain ⟨O, A, B, ρ, st, T, f, ρ', st', R, e, q⟩ := hq
  simp only [exS] at e
  obtain ⟨⟨xs, ρ1, st1⟩, e1, e⟩ := bindS e
  refine ⟨O, A, B, ρ, st, T, xs, ρ1, st1, R, e1, fun J A1 B1 H1 hA1 hB1 R1 wk => ?_⟩
  refine ⟨fun i m σ H => ∃ A2 B2 ρ2 st2, m = xs.length - i ∧ Px A1 A2 ∧ Ex B1 B2 ∧ Rel K O A2 B2 σ H ρ2 st2 T ∧ forL (evTg F t) (exSs F b) (xs.drop i) ρ2 st2 = some (f, ρ', st'), ⟨_, A1, B1, ρ1, st1, rfl, Px.refl _, Ex.refl _, R1, e⟩, ?_⟩
  rintro i m σ H ⟨A2, B2, ρ2, st2, rfl, hA2, hB2, R2, e2⟩
  cases hx : xs[i]? with
  | none =>
    have hl : xs.length ≤ i := List.getElem?_eq_none_iff.mp hx
    refine .inl ⟨(wk i A2 B2 H hA2 hB2 R2.ex).2 hl, ?_⟩
    rw [List.drop_eq_nil_of_le hl] at e2
    simp only [forL] at e2
    cases e2
    exact q σ A2 B2 H (hA1.trans hA2) (hB1.trans hB2) R2
  | some d =>
    obtain ⟨go, yld⟩ := (wk i A2 B2 H hA2 hB2 R2.ex).1 d hx
    have hi : i < xs.length := (List.getElem?_eq_some_iff.mp hx).1
    rw [drop_at hx] at e2
    simp only [forL] at e2
    obtain ⟨⟨ρ3, st3⟩, e3, e2⟩ := bindS e2
    obtain ⟨⟨g, ρ4, st4⟩, e4, e2⟩ := bindS e2
    refine .inr ⟨go, fun σ' H' => ∃ A5 B5, Px A1 A5 ∧ Ex B1 B5 ∧ Rel K O A5 B5 σ' H' ρ4 st4 T ∧ forL (evTg F t) (exSs F b) (xs.drop (i + 1)) ρ4 st4 = some (f, ρ', st'),
      fun σ' H' ⟨A5, B5, hA5, hB5, R5, e5⟩ => ⟨xs.length - (i + 1), by omega, A5, B5, ρ4, st4, rfl, hA5, hB5, R5, e5⟩, fun x H' y => ?_⟩
    obtain ⟨B3, hb, hh, hbh, hn, ho⟩ := yld x H' y
    have R3 := R2.grow hb hh hbh hn
    refine ⟨O, A2, B3, ρ2, st2, T, d, ρ3, st3, R3, ho, e3, fun σ4 A4 B4 H4 hA4 hB4 _ R4 => ?_⟩
    refine ⟨O, A4, B4, ρ3, st3, T, g, ρ4, st4, R4, e4, ?_⟩
    have hA : ∀ {A5}, Px A4 A5 → Px A1 A5 := fun z => (hA2.trans hA4).trans z
    have hB : ∀ {B5}, Ex B4 B5 → Ex B1 B5 := fun z => ((hB2.trans hb).trans hB4).trans z
    cases g with
    | nx => exact fun σ' A5 B5 H5 hA5 hB5 R5 => ⟨A5, B5, hA hA5, hB hB5, R5, e2⟩
    | ct => exact fun σ' A5 B5 H5 hA5 hB5 R5 => ⟨A5, B5, hA hA5, hB hB5, R5, e2⟩
    | bk => cases e2; exact fun σ' A5 B5 H5 hA5 hB5 R5 => q σ' A5 B5 H5 (hA1.trans (hA hA5)) (hB1.trans (hB hB5)) R5
    | rt fr d => cases e2; exact fun v σ' A5 B5 H5 hA5 hB5 R5 => q v σ' A5 B5 H5 (hA1.trans (hA hA5)) (hB1.trans (hB hB5)) R5
theorem COk.pass (ok : COk P w K mg base k C X) : PassesOwn (model X.prog X.w) X.A X.env X.xe := by
  rw [ok.xe]; exact PassesOwn.never
theorem swaps_one {t v : Expr} {l : Nat} {env : PySem.Env} (h : nameB t = false) : swapsWithSole [t] v l env = pure false := by
  rw [sole]
  exact swaps_sub (by cases t <;> first | rfl | (simp [nameB] at h))
theorem ss_asgT (G : GOk P w K mg base k F gl fp kw) (ok : COk P w K mg base k C X) (tie : Tied gl fp kw C) {t : Tg} {p : E} {tg v : Expr} {pos : Pos} (h1 : nameB tg = false) (h2 : chTg C t tg = true) (h3 : chE C p v = true) (h4 : starB tg = true)
    (h5 : asgTB (fun x => C.sc.names.lookup x) tg v = true) : PS X (.Assign [tg] v pos) (tS K F (.asgT t p)) := by
  have hK := ok.K
  subst hK
  have hw : swappedStores [tg] v X.env = pure none := by
    cases tg <;> first | (exact swap_none rfl) | (simp [asgTB] at h5; done) | (cases v <;> first | (exact swap_none rfl) | (simp [asgTB] at h5; done) | skip)
    simp only [asgTB] at h5
    split at h5
    · rename_i heq
      exact swapM_ok ok.scKind (by rw [ok.kd]; exact heq)
    · cases h5
  exact (ps_asg (sdE G p C X v ok tie h3) (sdT G t C X tg ok tie h2) (swaps_one h1) hw (asg_one h4)).imp imp_asgT
mutual
theorem ssS (G : GOk P w K mg base k F gl fp kw) : ∀ (p : S) (C : SC) (X : Cx) (s : Stmt), COk P w K mg base k C X → Tied gl fp kw C → chS C p s = true → PS X s (tS K F p)
  | .asg i e, C, X, s, ok, tie, h => by
    simp only [chS] at h
    split at h
    · simp only [Bool.and_eq_true] at h
      exact ss_asg G ok tie h.1.1 h.1.2 h.2
    · cases h
  | .asgT t e, C, X, s, ok, tie, h => by
    simp only [chS] at h
    split at h
    · simp only [Bool.and_eq_true, Bool.not_eq_true'] at h
      exact ss_asgT G ok tie h.1.1.1.1 h.1.1.1.2 h.1.1.2 h.1.2 h.2
    · cases h
  | .par2 i j a b, C, X, s, ok, tie, h => by
    simp only [chS] at h
    split at h
    · simp only [Bool.and_eq_true, decide_eq_true_eq] at h
      obtain ⟨⟨⟨⟨⟨⟨⟨h1, h2⟩, h3⟩, h4⟩, h5⟩, h6⟩, h7⟩, h8⟩ := h
      exact ss_par2 G ok tie h1 h2 h3 h4 h5 h6 h7 h8
    · cases h
  | .par3 i j l a b c, C, X, s, ok, tie, h => by
    simp only [chS] at h
    split at h
    · simp only [Bool.and_eq_true, decide_eq_true_eq] at h
      obtain ⟨⟨⟨⟨⟨⟨⟨⟨⟨⟨⟨⟨h1, h2⟩, h3⟩, h4⟩, h5⟩, h6⟩, h7⟩, h8⟩, h9⟩, h10⟩, h11⟩, h12⟩, h13⟩ := h
      exact ss_par3 G ok tie h1 h2 h3 h4 h5 h6 h7 h8 h9 h10 h11 h12 h13
    · cases h
  | .aug i o e, C, X, s, ok, tie, h => by
    simp only [chS] at h
    split at h
    · simp only [Bool.and_eq_true, decide_eq_true_eq] at h
      obtain ⟨⟨rfl, h2⟩, h3⟩ := h
      obtain ⟨n1, n2, n3, n4⟩ := ok.storeP h2
      have hK := ok.K
      subst hK
      exact (ps_aug n1 n2 n3 (sdE G e C X _ ok tie h3) (pip_all o) n4).imp imp_aug
    · cases h
  | .ex e, C, X, s, ok, tie, h => by
    simp only [chS] at h
    split at h
    · simp only [Bool.and_eq_true, Bool.not_eq_true'] at h
      exact (ps_expr (sdE G e C X _ ok tie h.1) (swaps_no h.2)).imp imp_ex
    · cases h
  | .ret e, C, X, s, ok, tie, h => by
    simp only [chS] at h
    split at h
    · rename_i v pos
      by_cases hv : ∃ i, e = .v i
      · obtain ⟨i, rfl⟩ := hv
        cases v <;> first | (simp [chE] at h; done) | skip
        simp only [chE] at h
        exact (ps_ret (ok.var h)).imp imp_retv
      · exact (ps_ret (sdE G e C X _ ok tie h)).imp (imp_ret fun i z => hv ⟨i, z⟩)
    · cases h
  | .retN, C, X, s, ok, tie, h => by
    simp only [chS] at h
    split at h
    · exact ps_retN.imp imp_retN
    · cases h
  | .pass, C, X, s, ok, tie, h => by
    simp only [chS] at h
    split at h
    · exact ps_pass.imp imp_pass
    · cases h
  | .brk, C, X, s, ok, tie, h => by
    simp only [chS] at h
    split at h
    · exact ps_break.imp imp_brk
    · cases h
  | .cnt, C, X, s, ok, tie, h => by
    simp only [chS] at h
    split at h
    · exact ps_continue.imp imp_cnt
    · cases h
  | .ite c a b, C, X, s, ok, tie, h => by
    simp only [chS] at h
    split at h
    · simp only [Bool.and_eq_true] at h
      exact (ps_if (sdC G c C X _ ok tie h.1.1).1 (ssSs G a C X _ ok tie h.1.2) (ssSs G b C X _ ok tie h.2)).imp imp_ite
    · cases h
  | .whl c b, C, X, s, ok, tie, h => by
    simp only [chS] at h
    split at h
    · simp only [Bool.and_eq_true] at h
      exact (ps_while ok.pass (sdC G c C X _ ok tie h.1).1 (ssSs G b C X _ ok tie h.2)).imp imp_whl
    · cases h
  | .for_ t it b, C, X, s, ok, tie, h => by
    simp only [chS] at h
    split at h
    · simp only [Bool.and_eq_true] at h
      exact (ps_for ok.pass ok.calm (sdI G it C X _ _ ok tie h.1.2) (sdT G t C X _ ok tie h.1.1) (ssSs G b C X _ ok tie h.2) (fold_ok (chI_set h.1.2) X.env)).imp imp_for
    · cases h
theorem ssSs (G : GOk P w K mg base k F gl fp kw) : ∀ (p : Ss) (C : SC) (X : Cx) (ss : List Stmt), COk P w K mg base k C X → Tied gl fp kw C → chSs C p ss = true → PSs X ss (tSs K F p)
  | .nil, C, X, ss, ok, tie, h => by
    cases ss with
    | nil => exact pss_nil.imp imp_nil
    | cons _ _ => simp [chSs] at h
  | .cons p ps, C, X, ss, ok, tie, h => by
    cases ss with
    | nil => simp [chSs] at h
    | cons s ss =>
      simp only [chSs, Bool.and_eq_true] at h
      exact (pss_cons (ssS G p C X s ok tie h.1) (ssSs G ps C X ss ok tie h.2)).imp imp_cons
end
end
end Pv

namespace Pv
open PySem PySem.Spec PyProof.Rows L2

/-! ## the table of a text -/
structure DefT where
  nm : Str
  st : Stmt
  ps : List Str
  N : List Str
  body : Ss
def progOf (ds : List DefT) (x : Str) : Option Fn := (ds.find? fun d => d.nm == x).map fun d => ⟨d.ps, d.N.length, d.body⟩
def fpOf (ds : List DefT) (x : Str) : Bool := ds.any fun d => d.nm == x
def glOf (cs : List (Str × D)) (x : Str) : Bool := cs.any fun c => c.1 == x
def gOf (cs : List (Str × D)) (x : Str) : Option D := (cs.find? fun c => c.1 == x).map (·.2)
abbrev KW := Str × Nat × List Str × List Nat
def kwOf (ks : List KW) (x : Str) (np : Nat) (ns : List Str) (perm : List Nat) : Bool := ks.any fun u => u.1 == x && u.2.1 == np && u.2.2.1 == ns && u.2.2.2 == perm
def scOf (ds : List DefT) (cs : List (Str × D)) (ks : List KW) (d : DefT) : SC := ⟨d.N, defScope d.st, fun _ => true, glOf cs, fpOf ds, kwOf ks⟩
def scB (N P : List Str) (sc : Scope) : Bool :=
  decide (sc.kind = .function) && !sc.isCoroutine && !sc.isGenerator && decide N.Nodup && decide (N.take P.length = P) && P.all (fun x => locB sc x) && sc.names.all (fun y => !decide (y.2 = .free))
theorem scB_ok {N P : List Str} {sc : Scope} (h : scB N P sc = true) : FnScope N P sc := by
  unfold scB at h
  simp only [Bool.and_eq_true, Bool.not_eq_true', decide_eq_true_eq, List.all_eq_true, decide_eq_false_iff_not] at h
  obtain ⟨⟨⟨⟨⟨⟨h1, h2⟩, h3⟩, h4⟩, h5⟩, h6⟩, h7⟩ := h
  refine ⟨h1, h2, h3, h4, h5, fun x hx => ?_, h7⟩
  exact loc_of (h6 x hx)
def chD (ds : List DefT) (cs : List (Str × D)) (ks : List KW) (d : DefT) : Bool := scB d.N d.ps (defScope d.st) && chSs (scOf ds cs ks d) d.body (defBody d.st) && decide (d.ps.length ≤ d.N.length)
/-- a def of the text as it stands -/
structure FF (K : PySem.W.Frag) (mg : Str → Option Value) (d : DefT) : Prop where
  ex : ∃ f fd, Fun K d.nm d.nm d.st f fd ∧ mg d.nm = some (.ref f) ∧ Binds K fd d.ps []
theorem ff_mk {K : PySem.W.Frag} {h : Heap} {mg : Str → Option Value} (X : K.In h) (G : h.Ns mainGlobals mg) {x : Str} {st : Stmt} {ps N : List Str} {b : Ss} {f : Addr} {od an : Option Addr} {sl : Array (Option Value)} {oc kV dc pm cd ct : Value}
    (hb : ∀ (kV doc pm : Value) (an : Option Addr) (cdv ct : Value) (us : List Value), us.length = ps.length → bindArgs (PySem.W.fnOf x x (defArgs st) (defBody st) (defScope st) .none kV doc pm an cdv ct) ⟨us, []⟩ = pure (ps.zip us))
    (a : PySem.W.nsIn K mainGlobals x = some (some (.ref f))) (l : K.lookup f = some ⟨oc, od, .func (PySem.W.fnOf x x (defArgs st) (defBody st) (defScope st) .none kV dc pm an cd ct), sl⟩) (c : PySem.W.codeIn K cd x = true) (k : PySem.W.keepIn K (.ref f) = true) :
    FF K mg ⟨x, st, ps, N, b⟩ := ⟨_, _, fun_mk l c k, PySem.W.mg_of X G a, (fun_mk (st := st) l c k).binds hb⟩
/-- the written part -/
structure Facts (K : PySem.W.Frag) (mg : Str → Option Value) (ds : List DefT) (cs : List (Str × D)) (ks : List KW) : Prop where
  ff : ∀ d ∈ ds, FF K mg d
  nd : (ds.map (·.nm)).Nodup
  ch : ∀ d ∈ ds, chD ds cs ks d = true
  blt : ∀ x, x ∈ blts → mg x = none
  glob : ∀ c ∈ cs, ∃ u v, mg c.1 = some u ∧ RelV v u ∧ ∀ A B, Ho K A B v c.2
  kws : ∀ u ∈ ks, ∃ d ∈ ds, d.nm = u.1 ∧ 0 < d.ps.length ∧ ∀ f fd, Fun K d.nm d.nm d.st f fd → ∀ (s : Shared) (us ws : List Value), us.length = u.2.1 → ws.length = u.2.2.1.length → BindsTo s fd ⟨us, u.2.2.1.zip ws⟩ (d.ps.zip (u.2.2.2.filterMap fun j => (us ++ ws)[j]?)) ∧ (u.2.2.2.filterMap fun j => (us ++ ws)[j]?).length = d.ps.length
theorem find_def : ∀ {ds : List DefT} {d : DefT}, (ds.map (·.nm)).Nodup → d ∈ ds → ds.find? (fun e => e.nm == d.nm) = some d
  | [], _, _, h => by cases h
  | e :: ds, d, nd, h => by
    rw [List.map_cons, List.nodup_cons] at nd
    rcases List.mem_cons.mp h with rfl | h
    · rw [List.find?_cons_of_pos (by simp)]
    · have : e.nm ≠ d.nm := fun z => nd.1 (by rw [z]; exact List.mem_map_of_mem h)
      rw [List.find?_cons_of_neg (by simpa using this)]
      exact find_def nd.2 h
theorem callN_len {prog : Str → Option Fn} {G : Str → Option D} {k : Nat} {x : Str} {f : Fn} (h : prog x = some f) {ds : List D} {st : Sto} {r : Bool × D × Sto} (e : callN prog G k x ds st = some r) : ds.length = f.ps.length := by
  cases k with
  | zero => simp only [callN] at e; cases e
  | succ k =>
    simp only [callN, h, runF] at e
    split at e
    · assumption
    · cases e
theorem list_start {N ps : List Str} {vs : List V} (h : vs.length = ps.length) : L2.start N vs = vs.map some ++ List.replicate (N.length - ps.length) none := by
  unfold L2.start; rw [h]
theorem ends_rt {K : PySem.W.Frag} {A A' : List Addr} {B B' H H' : Hp} {σ : L2.St} {ρ : Env} {st : Sto} {T : List (Addr × List D)} {fr : Bool} {d : D} {v : V} (h : EPost K ⟨A, B, H⟩ σ T ρ st fr d v A' B' H') : Back K A B H A' B' H' st fr d v := by
  unfold EPost at h
  cases fr with
  | false =>
    rw [if_neg Bool.false_ne_true] at h
    exact ⟨h.1.fw, h.1.srel, by rw [if_neg Bool.false_ne_true]; exact h.2⟩
  | true =>
    rw [if_pos rfl] at h
    obtain ⟨a, xs, rfl, rfl, R⟩ := h
    refine ⟨R.fw, R.srel, ?_⟩
    rw [if_pos rfl]
    refine ⟨a, xs, rfl, rfl, R.top, R.fresh (.t 0) xs a rfl rfl (fun n z => by cases z), fun hm => ?_⟩
    obtain ⟨n, hn⟩ := List.getElem?_of_mem hm
    have hl := (List.getElem?_eq_some_iff.mp hn).1
    rw [R.al] at hl
    have := R.dist (.t 0) (.h n) xs _ a rfl (List.getElem?_eq_getElem hl) rfl hn
    cases this
theorem tab_ok {P : Program} {w : World} {K : PySem.W.Frag} {mg : Str → Option Value} {base : Heap} {ds : List DefT} {cs : List (Str × D)} {ks : List KW} (Fa : Facts K mg ds cs ks) : ∀ (k : Nat) (d : DefT), d ∈ ds → ∀ (f : Addr) (fd : FuncData), Fun K d.nm d.nm d.st f fd → FnOk P w K mg base CX0 k f fd d.ps (spOf K d.ps.length (callN (progOf ds) (gOf cs) k d.nm))
  | 0, d, hd, f, fd, _ => ⟨fun vs H Q E h => h.1, fun A outer s H args us vs Q E _ _ _ _ h => by
      obtain ⟨_, _, _, _, _, _, _, _, _, _, e, _⟩ := h
      simp only [callN] at e
      cases e⟩
  | k + 1, d, hd, f, fd, F => by
    have hc := Fa.ch d hd
    unfold chD at hc
    simp only [Bool.and_eq_true, decide_eq_true_eq] at hc
    obtain ⟨⟨hs, hb⟩, hl⟩ := hc
    have S := scB_ok hs
    have pd : progOf ds d.nm = some ⟨d.ps, d.N.length, d.body⟩ := by unfold progOf; rw [find_def Fa.nd hd]; rfl
    have G : GOk P w K mg base k ⟨callN (progOf ds) (gOf cs) k, gOf cs⟩ (glOf cs) (fpOf ds) (kwOf ks) := by
      refine ⟨Fa.blt, fun x dd h1 h2 => ?_, fun x hx => ?_, fun x np ns perm hx => ?_⟩
      · have h2 : gOf cs x = some dd := h2
        unfold gOf at h2
        cases hf : cs.find? (fun c => c.1 == x) with
        | none => rw [hf] at h2; cases h2
        | some c =>
          rw [hf] at h2
          cases h2
          have e : c.1 = x := by simpa using List.find?_some hf
          have := Fa.glob c (List.mem_of_find?_eq_some hf)
          rw [e] at this
          exact this
      · unfold fpOf at hx
        obtain ⟨e, he, hn⟩ := List.any_eq_true.mp hx
        have hn : e.nm = x := by simpa using hn
        subst hn
        obtain ⟨g, gd, Fg, mgx, bg⟩ := (Fa.ff e he).ex
        refine ⟨g, gd, e.ps, mgx, Fg.kp, bg, tab_ok Fa k e he g gd Fg, fun ds' st r h => ?_⟩
        exact callN_len (f := ⟨e.ps, e.N.length, e.body⟩) (by unfold progOf; rw [find_def Fa.nd he]; rfl) h
      · unfold kwOf at hx
        obtain ⟨u, hu, hx⟩ := List.any_eq_true.mp hx
        simp only [Bool.and_eq_true, beq_iff_eq] at hx
        obtain ⟨⟨⟨rfl, rfl⟩, rfl⟩, rfl⟩ := hx
        obtain ⟨e, he, hn, h0, hbd⟩ := Fa.kws u hu
        obtain ⟨g, gd, Fg, mgx, bg⟩ := (Fa.ff e he).ex
        rw [← hn]
        refine ⟨g, gd, e.ps, mgx, Fg.kp, tab_ok Fa k e he g gd Fg, h0, hbd g gd Fg, fun ds' st r h => ?_⟩
        exact callN_len (f := ⟨e.ps, e.N.length, e.body⟩) (by unfold progOf; rw [find_def Fa.nd he]; rfl) h
    refine F.ok S (fun vs H Q E h => h.1) (fun cdv A outer s H vs Q E hr h => ?_)
    obtain ⟨hv, A0, B0, st, xs, fr, dd, st', SR, hx, e, q⟩ := h
    refine ⟨_, ssSs G d.body (scOf ds cs ks d) _ _ ⟨rfl, rfl, rfl, rfl, rfl, rfl, S.nd, rfl, hr, rfl, fun _ _ => .inl rfl, S.kind, rfl⟩ ⟨rfl, rfl, rfl⟩ hb, ?_⟩
    simp only [callN, pd, runF] at e
    split at e
    · rename_i hxl
      rw [list_start hv]
      have R := Rel.start (n := d.N.length - d.ps.length) SR hx
      split at e
      · rename_i fr' d' ρ' st2 ex
        cases e
        exact ⟨_, A0, B0, _, st, [], _, ρ', _, R, ex, fun v σ' A' B' H' _ _ hp => q v A' B' H' (ends_rt hp)⟩
      · rename_i ρ' st2 ex
        cases e
        exact ⟨_, A0, B0, _, st, [], _, ρ', _, R, ex, fun σ' A' B' H' _ _ R' => q .non A' B' H' (ends_rt (.val R' .non))⟩
      · cases e
    · cases e
/-- the law's end -/
def spLaw (K : PySem.W.Frag) (f : List D → Sto → Option (Bool × D × Sto)) : Sp := spOf K 1 f
theorem law_end {K : PySem.W.Frag} {f : List D → Sto → Option (Bool × D × Sto)} {H : Hp} {a : Addr} {ns : List Int} {st' : Sto} (hS : SqL K H a (ns.map V.int)) (e : f [.scr ns] [] = some (false, .bl true, st')) :
    spLaw K f [.ref a] H (fun v _ => v = .bl true) fun _ _ _ => False := by
  refine ⟨rfl, [], H, [], [.scr ns], false, .bl true, st', ⟨Ex.refl _, rfl, fun n a xs h => by simp at h, fun n m a h => by simp at h⟩, .cons (.scr hS) .nil, e, fun v A' B' H' b => ?_⟩
  obtain ⟨_, _, h⟩ := b
  rw [if_neg Bool.false_ne_true] at h
  cases h
  rfl
end Pv

namespace Pv
open PySem PySem.Spec PyProof.Rows L2

/-! ## the law's helpers -/
def law_deal_e0 : E := (.v 5)
def law_deal_c1 : Cn := (.e (.cmp .GtE (.v 5) (.op .Pow (.k (.int 10)) (.k (.int 18)))))
def law_deal_b2 : Ss := (.cons
  (.asg 4 (.op .Mod (.bi .int (.cons (.op .Add (.op .Add (.op .Mult (.v 4) (.k (.int 69621))) (.op .Mod (.bi .int (.cons (.v 5) .nil)) (.k (.int 2147483563)))) (.k (.int 23))) .nil)) (.k (.int 2147483647)))) .nil)
def law_deal_e3 : E := (.op .Mod (.bi .int (.cons (.bi .abs (.cons (.bi .int (.cons (.v 5) .nil)) .nil)) .nil)) (.v 2))
def h_deal : Ss := (.cons
  (.asg 2 (.op .Mult (.op .Mult (.op .Mult (.op .Mult (.op .Mult (.op .Pow (.k (.int 10)) (.k (.int 64))) (.op .Pow (.k (.int 10)) (.k (.int 64)))) (.op .Pow (.k (.int 10)) (.k (.int 64)))) (.op .Pow (.k (.int 10)) (.k (.int 64)))) (.op .Pow (.k (.int 10)) (.k (.int 64)))) (.op .Pow (.k (.int 10)) (.k (.int 64))))) (.cons
  (.asg 3 (.lc law_deal_e3 (.n 5) (.val (.sl (.v 0) .no (.so (.k (.int 63))))) .no [("cell", 5)])) (.cons
  (.asg 4 (.op .Add (.k (.int 70001)) (.op .Mult (.k (.int 7919)) (.v 1)))) (.cons
  (.for_ (.n 5) (.val (.v 3)) law_deal_b2) (.cons
  (.ret (.share (.lst (.cons (.share (.slr (.lc law_deal_e0 (.n 5) (.val (.v 3)) (.so law_deal_c1) [("cell", 5)]))) (.cons (.v 4) .nil))))) .nil)))))
def law_any_c0 : Cn := (.an (.e (.cmp .Gt (.bi .len (.cons (.ixv 0 (.k (.int 0))) .nil)) (.k (.int 0)))) (.e (.cmp .Eq (.ix (.ixv 0 (.k (.int 0))) (.neg (.k (.int 1)))) (.k (.int 0)))))
def law_any_b1 : Ss := (.cons
  (.ex (.mthH .pop (.ixv 0 (.k (.int 0))) .nil)) .nil)
def h_any : Ss := (.cons
  (.whl law_any_c0 law_any_b1) (.cons
  (.ite (.e (.cmp .Gt (.bi .len (.cons (.ixv 0 (.k (.int 0))) .nil)) (.k (.int 0)))) (.cons
  (.asg 2 (.bi .int (.cons (.mthH .pop (.ixv 0 (.k (.int 0))) .nil) .nil))) (.cons
  (.ex (.mthH .append (.ixv 0 (.k (.int 0))) (.cons (.op .FloorDiv (.v 2) (.v 1)) .nil))) (.cons
  (.ret (.op .Mod (.v 2) (.v 1))) .nil))) .nil) (.cons
  (.asgT (.sub 0 (.k (.int 1))) (.op .Mod (.bi .int (.cons (.op .Add (.op .Mult (.ixv 0 (.k (.int 1))) (.k (.int 48271))) (.k (.int 31))) .nil)) (.k (.int 2147483647)))) (.cons
  (.ret (.op .Mod (.bi .int (.cons (.op .FloorDiv (.ixv 0 (.k (.int 1))) (.k (.int 64))) .nil)) (.v 1))) .nil))))
def h_of : Ss := (.cons
  (.ret (.ixv 1 (.call "_law_any" (.cons (.v 0) (.cons (.lenv 1) .nil))))) .nil)
def h_is_kind : Ss := (.cons
  (.ite (.e (.cmp .Is (.v 1) (.k .non))) (.cons
  (.ret (.cmp .Is (.v 0) (.k .non))) .nil) .nil) (.cons
  (.ite (.or (.e (.cmp .Is (.v 1) (.k (.bl true)))) (.e (.cmp .Is (.v 1) (.k (.bl false))))) (.cons
  (.ret (.ite (.e (.v 1)) (.cmp .Is (.v 0) (.k (.bl true))) (.cmp .Is (.v 0) (.k (.bl false))))) .nil) .nil) (.cons
  (.ite (.e (.isi (.v 1) ["str"] false)) (.cons
  (.ret (.an (.isi (.v 0) ["str"] false) (.cmp .Eq (.v 0) (.v 1)))) .nil) .nil) (.cons
  (.ret (.an (.isi (.v 0) ["int"] false) (.an (.nt (.isi (.v 0) ["bool"] false)) (.cmp .Eq (.v 0) (.v 1))))) .nil))))
def law_same_c0 : Cn := (.e (.cmp .Gt (.lenv 2) (.k (.int 0))))
def law_same_b1 : Ss := (.cons
  (.ex (.mth .append 2 (.cons (.tup (.cons (.ixv 3 (.v 5)) (.cons (.ixv 4 (.v 5)) .nil))) .nil))) .nil)
def law_same_b2 : Ss := (.cons
  (.asgT (.tup (.cons (.n 3) (.cons (.n 4) .nil))) (.mth .pop 2 .nil)) (.cons
  (.ite (.e (.isi (.v 4) ["tuple"] false)) (.cons
  (.ite (.or (.nt (.e (.isi (.v 3) ["tuple"] false))) (.e (.cmp .NotEq (.lenv 3) (.lenv 4)))) (.cons
  (.ret (.k (.bl false))) .nil) .nil) (.cons
  (.for_ (.n 5) (.rng (.cons (.lenv 4) .nil)) law_same_b1) .nil)) (.cons
  (.ite (.or (.e (.isi (.v 3) ["tuple", "list", "dict"] true)) (.nt (.e (.call "_law_is_kind" (.cons (.v 3) (.cons (.v 4) .nil)))))) (.cons
  (.ret (.k (.bl false))) .nil) .nil) .nil)) .nil))
def h_same : Ss := (.cons
  (.asg 2 (.lst (.cons (.tup (.cons (.v 0) (.cons (.v 1) .nil))) .nil))) (.cons
  (.whl law_same_c0 law_same_b2) (.cons
  (.ret (.k (.bl true))) .nil)))
def law_all_e0 : E := (.v 1)
def law_all_c1 : Cn := (.nt (.e (.call "_law_same" (.cons (.v 1) (.cons (.v 2) .nil)))))
def h_all : Ss := (.cons
  (.ret (.cmp .Eq (.bi .len (.cons (.lc law_all_e0 (.tup (.cons (.n 1) (.cons (.n 2) .nil))) (.val (.v 0)) (.so law_all_c1) [("told", 1), ("due", 2)]) .nil)) (.k (.int 0)))) .nil)
theorem eqv_int {i j : Int} : eqv (.int i) (.int j) = (i == j) := by simp only [eqv]
section
variable {P : Tb} {ρ ρ1 : Env} {st st1 : Sto}
theorem sq {s : S} {ss : Ss} (h : exS P s ρ st = some (.nx, ρ1, st1)) : exSs P (.cons s ss) ρ st = exSs P ss ρ1 st1 := by
  simp only [exSs, h, Option.bind_eq_bind, Option.bind_some]
theorem sq1 {s : S} (h : exS P s ρ st = some (.nx, ρ1, st1)) : exSs P (.cons s .nil) ρ st = some (.nx, ρ1, st1) := by
  simp only [exSs, h, Option.bind_eq_bind, Option.bind_some]
theorem sqr {s : S} {ss : Ss} {fr : Bool} {d : D} (h : exS P s ρ st = some (.rt fr d, ρ1, st1)) : exSs P (.cons s ss) ρ st = some (.rt fr d, ρ1, st1) := by
  simp only [exSs, h, Option.bind_eq_bind, Option.bind_some]
theorem run_rt {ps : List Str} {nl n : Nat} {b : Ss} {args : List D} {fr : Bool} {d : D} (hp : args.length = ps.length) (hn : nl - ps.length = n) (h : exSs P b (args.map Sl.val ++ List.replicate n .no) st = some (.rt fr d, ρ1, st1)) : runF P ⟨ps, nl, b⟩ args st = some (fr, d, st1) := by
  simp only [runF, hp, hn, h, if_true]
theorem ex_whl {c : Cn} {b : Ss} {r : Fl × Env × Sto} (h : whlL (evT P c) (exSs P b) fuel ρ st = some r) : exS P (.whl c b) ρ st = some r := by simp only [exS, h]
theorem ex_for {t : Tg} {it : I} {b : Ss} {xs : List D} {r : Fl × Env × Sto} (h1 : evI P it ρ st = some (xs, ρ1, st1)) (h2 : forL (evTg P t) (exSs P b) xs ρ1 st1 = some r) : exS P (.for_ t it b) ρ st = some r := by
  simp only [exS, h1, Option.bind_eq_bind, Option.bind_some, h2]
theorem ex_it {c : Cn} {a b : Ss} {t : Bool} {r : RS} (h : evT P c ρ st = some (t, ρ1, st1)) (h2 : (if t then exSs P a ρ1 st1 else exSs P b ρ1 st1) = r) : exS P (.ite c a b) ρ st = r := by
  simp only [exS, h, Option.bind_eq_bind, Option.bind_some, h2]
theorem ev_lc {e : E} {t : Tg} {it : I} {c : Co} {own : List (Str × Nat)} {xs acc : List D} {ρ2 : Env} {st2 : Sto} (h1 : evI P it ρ st = some (xs, ρ1, st1))
    (h2 : lcL (evTg P t) (evC P c) (fun ρ st => vv (evE P e ρ st)) (own.map (·.2)) xs [] (wipeE ρ1 (own.map (·.2))) st1 = some (acc, ρ2, st2)) : evE P (.lc e t it c own) ρ st = some (true, .lst acc, ρ2, st2) := by
  simp only [evE, h1, Option.bind_eq_bind, Option.bind_some, h2]
theorem for_all {asg : D → Env → Sto → Option (Env × Sto)} {b : Env → Sto → RS} (J : Nat → Env → Sto → Prop) : ∀ (xs : List D) (i : Nat) (ρ : Env) (st : Sto),
    (∀ k d ρ st, xs[k]? = some d → J (i + k) ρ st → ∃ ρ1 st1, asg d ρ st = some (ρ1, st1) ∧ ∃ ρ2 st2, b ρ1 st1 = some (.nx, ρ2, st2) ∧ J (i + k + 1) ρ2 st2) → J i ρ st → ∃ ρ' st', forL asg b xs ρ st = some (.nx, ρ', st') ∧ J (i + xs.length) ρ' st'
  | [], i, ρ, st, _, h => ⟨ρ, st, rfl, h⟩
  | x :: xs, i, ρ, st, hs, h => by
    obtain ⟨ρ1, st1, e1, ρ2, st2, e2, h2⟩ := hs 0 x ρ st rfl h
    obtain ⟨ρ3, st3, e3, h3⟩ := for_all J xs (i + 1) ρ2 st2 (fun k d ρ st hk hj => by
      obtain ⟨a1, a2, a3, a4, a5, a6, a7⟩ := hs (k + 1) d ρ st hk (by rw [show i + (k + 1) = i + 1 + k by omega]; exact hj)
      exact ⟨a1, a2, a3, a4, a5, a6, by rw [show i + 1 + k + 1 = i + (k + 1) + 1 by omega]; exact a7⟩) h2
    refine ⟨ρ3, st3, ?_, by rw [List.length_cons, show i + (xs.length + 1) = i + 1 + xs.length by omega]; exact h3⟩
    simp only [forL, e1, e2, Option.bind_eq_bind, Option.bind_some, e3]
/-- a comprehension without a test -/
theorem lc_all {asg : D → Env → Sto → Option (Env × Sto)} {c : Env → Sto → Option (Bool × Env × Sto)} {e : Env → Sto → Option (D × Env × Sto)} {vs : List Nat} (hc : ∀ ρ st, c ρ st = some (true, ρ, st)) (J : Nat → List D → Env → Sto → Prop) : ∀ (xs : List D) (i : Nat) (acc : List D) (ρ : Env) (st : Sto), acc.length + xs.length ≤ lim →
    (∀ k d acc ρ st, xs[k]? = some d → J (i + k) acc ρ st → ∃ ρ1 st1, asg d ρ st = some (ρ1, st1) ∧ ∃ x ρ2 st2, e ρ1 st1 = some (x, ρ2, st2) ∧ J (i + k + 1) (acc ++ [x]) (wipeE ρ2 vs) st2) → J i acc ρ st → ∃ acc' ρ' st', lcL asg c e vs xs acc ρ st = some (acc', ρ', st') ∧ J (i + xs.length) acc' ρ' st'
  | [], i, acc, ρ, st, _, _, h => ⟨acc, ρ, st, rfl, h⟩
  | x :: xs, i, acc, ρ, st, hl, hs, h => by
    obtain ⟨ρ1, st1, e1, y, ρ2, st2, e2, h2⟩ := hs 0 x acc ρ st rfl h
    rw [List.length_cons] at hl
    obtain ⟨acc3, ρ3, st3, e3, h3⟩ := lc_all hc J xs (i + 1) (acc ++ [y]) (wipeE ρ2 vs) st2 (by rw [List.length_append, List.length_singleton]; omega) (fun k d acc ρ st hk hj => by
      obtain ⟨a1, a2, a3, a4, a5, a6, a7, a8⟩ := hs (k + 1) d acc ρ st hk (by rw [show i + (k + 1) = i + 1 + k by omega]; exact hj)
      exact ⟨a1, a2, a3, a4, a5, a6, a7, by rw [show i + 1 + k + 1 = i + (k + 1) + 1 by omega]; exact a8⟩) h2
    refine ⟨acc3, ρ3, st3, ?_, by rw [List.length_cons, show i + (xs.length + 1) = i + 1 + xs.length by omega]; exact h3⟩
    have hlt : acc.length < lim := by omega
    simp only [lcL, e1, e2, hc, Option.bind_eq_bind, Option.bind_some, if_true, hlt, e3]
end
/-- a deal: the cells that are left, the mix -/
def Deal (st : Sto) : Prop := ∃ (cs : List Int) (mix : Int), st = [cs.map D.int, [.hd 0, .int mix]] ∧ cs.length ≤ 63 ∧ (∀ c ∈ cs, 0 ≤ c) ∧ 0 ≤ mix ∧ mix < 2147483647
theorem atI_lastD (xs : List D) (v : D) : atI (xs ++ [v]) (-1) = some v := atI_last xs v
theorem list_last {α : Type} : ∀ (xs : List α), xs = [] ∨ ∃ ys y, xs = ys ++ [y]
  | [] => .inl rfl
  | x :: xs => by
    rcases list_last xs with rfl | ⟨ys, y, rfl⟩
    · exact .inr ⟨[], x, rfl⟩
    · exact .inr ⟨x :: ys, y, rfl⟩
theorem at0 {α : Type} (x : α) (xs : List α) : atI (x :: xs) 0 = some x := by unfold atI ixN; simp
theorem at1 {α : Type} (x y : α) (xs : List α) : atI (x :: y :: xs) 1 = some y := by
  unfold atI ixN
  rw [if_pos (by decide), if_pos (by simp; omega)]
  rfl
theorem big_of {a : Int} {n : Nat} (hn : n ≤ 399999) (h : a.natAbs < 2 ^ n) : Big a := by
  unfold Big
  by_cases h0 : a.natAbs = 0
  · rw [h0]; decide
  · have := (Nat.log2_lt h0 (k := n)).mpr h
    omega
theorem big_small {a : Int} (h : a.natAbs < 2 ^ 200) : Big a := big_of (n := 200) (by decide) h
theorem log_small {a : Int} (h0 : 0 < a) (h : a < 2 ^ 62) : a.natAbs.log2 < 9000 := by
  have := (Nat.log2_lt (n := a.natAbs) (k := 62) (by omega)).mpr (by omega)
  omega
theorem any_loop (P : Tb) (b : Int) (mix : Int) : ∀ (n : Nat) (cs : List Int), cs.length < n → ∃ cs' : List Int, whlL (evT P law_any_c0) (exSs P law_any_b1) n [.val (.hd 1), .val (.int b), .no] [cs.map D.int, [.hd 0, .int mix]] = some (.nx, [.val (.hd 1), .val (.int b), .no], [cs'.map D.int, [.hd 0, .int mix]]) ∧ cs'.length ≤ cs.length ∧ (∀ c ∈ cs', c ∈ cs)
  | 0, cs, h => by omega
  | n + 1, cs, h => by
    rcases list_last cs with rfl | ⟨ds, d, rfl⟩
    · refine ⟨[], ?_, Nat.le_refl _, fun _ h => h⟩
      simp only [whlL, law_any_c0, at0, exSs, exS, evE, evEs, evT, Pv.evI, evC, evTg, evTgs, evO, vv, up, one, retE, Option.bind_eq_bind, Option.bind_some, Option.map_some, Option.pure_def, List.getElem?_cons_zero, List.getElem?_cons_succ, List.set_cons_zero, List.set_cons_succ, asgN, asgSub, setIx, opD, addD, mulD, biD, cmpD, ixD, ixL, lenD, slotSeq, slotLst, truD, List.length_cons, List.length_nil, if_true, if_false, Bool.false_eq_true, reduceIte, mthHR, mthR, mtD, slD, seqOf, wipeE, Tgs.len, Pv.unpack, Option.map_none, Option.bind_none, augD, revD, List.map_cons, List.map_nil, isiD, ty, List.any_cons, List.any_nil]
      rfl
    · by_cases hd : d = 0
      · subst hd
        obtain ⟨cs', h1, h2, h3⟩ := any_loop P b mix n ds (by simp at h; omega)
        refine ⟨cs', ?_, by simp; omega, fun c hc => List.mem_append_left _ (h3 c hc)⟩
        rw [← h1]
        simp only [whlL, law_any_c0, law_any_b1, at0, exSs, exS, evE, evEs, evT, Pv.evI, evC, evTg, evTgs, evO, vv, up, one, retE, Option.bind_eq_bind, Option.bind_some, Option.map_some, Option.pure_def, List.getElem?_cons_zero, List.getElem?_cons_succ, List.set_cons_zero, List.set_cons_succ, asgN, asgSub, setIx, opD, addD, mulD, biD, cmpD, ixD, ixL, lenD, slotSeq, slotLst, truD, List.length_cons, List.length_nil, if_true, if_false, Bool.false_eq_true, reduceIte, mthHR, mthR, mtD, slD, seqOf, wipeE, Tgs.len, Pv.unpack, Option.map_none, Option.bind_none, augD, revD, List.map_cons, List.map_nil, isiD, ty, List.any_cons, List.any_nil]
        simp [atI_lastD, exSs, exS, evE, evEs, evT, Pv.evI, evC, evTg, evTgs, evO, vv, up, one, retE, Option.bind_eq_bind, Option.bind_some, Option.map_some, Option.pure_def, List.getElem?_cons_zero, List.getElem?_cons_succ, List.set_cons_zero, List.set_cons_succ, asgN, asgSub, setIx, opD, addD, mulD, biD, cmpD, ixD, ixL, lenD, slotSeq, slotLst, truD, List.length_cons, List.length_nil, if_true, if_false, Bool.false_eq_true, reduceIte, mthHR, mthR, mtD, slD, seqOf, wipeE, Tgs.len, Pv.unpack, Option.map_none, Option.bind_none, augD, revD, List.map_cons, List.map_nil, isiD, ty, List.any_cons, List.any_nil, sh, eqv_int, at0]
      · refine ⟨ds ++ [d], ?_, Nat.le_refl _, fun _ h => h⟩
        simp only [whlL, law_any_c0, law_any_b1, at0, exSs, exS, evE, evEs, evT, Pv.evI, evC, evTg, evTgs, evO, vv, up, one, retE, Option.bind_eq_bind, Option.bind_some, Option.map_some, Option.pure_def, List.getElem?_cons_zero, List.getElem?_cons_succ, List.set_cons_zero, List.set_cons_succ, asgN, asgSub, setIx, opD, addD, mulD, biD, cmpD, ixD, ixL, lenD, slotSeq, slotLst, truD, List.length_cons, List.length_nil, if_true, if_false, Bool.false_eq_true, reduceIte, mthHR, mthR, mtD, slD, seqOf, wipeE, Tgs.len, Pv.unpack, Option.map_none, Option.bind_none, augD, revD, List.map_cons, List.map_nil, isiD, ty, List.any_cons, List.any_nil]
        simp [atI_lastD, exSs, exS, evE, evEs, evT, Pv.evI, evC, evTg, evTgs, evO, vv, up, one, retE, Option.bind_eq_bind, Option.bind_some, Option.map_some, Option.pure_def, List.getElem?_cons_zero, List.getElem?_cons_succ, List.set_cons_zero, List.set_cons_succ, asgN, asgSub, setIx, opD, addD, mulD, biD, cmpD, ixD, ixL, lenD, slotSeq, slotLst, truD, List.length_cons, List.length_nil, if_true, if_false, Bool.false_eq_true, reduceIte, mthHR, mthR, mtD, slD, seqOf, wipeE, Tgs.len, Pv.unpack, Option.map_none, Option.bind_none, augD, revD, List.map_cons, List.map_nil, isiD, ty, List.any_cons, List.any_nil, sh, eqv_int, at0, hd]
theorem any_ok (P : Tb) (ps : List Str) (hp : ps.length = 2) {st : Sto} (hst : Deal st) {b : Int} (h0 : 0 < b) (hb : b < 2 ^ 60) : ∃ r st', runF P ⟨ps, 3, h_any⟩ [.hd 1, .int b] st = some (false, .int r, st') ∧ 0 ≤ r ∧ r < b ∧ Deal st' := by
  obtain ⟨cs, mix, rfl, hl, hc, m0, m1⟩ := hst
  obtain ⟨cs', e, l', c'⟩ := any_loop P b mix fuel cs (by unfold fuel; omega)
  have hlog := log_small h0 (by omega)
  rcases list_last cs' with rfl | ⟨ds, d, rfl⟩
  · have q0 : 0 ≤ (mix * 48271 + 31) % 2147483647 := Int.emod_nonneg _ (by decide)
    have q1 : (mix * 48271 + 31) % 2147483647 < 2147483647 := Int.emod_lt_of_pos _ (by decide)
    refine ⟨((mix * 48271 + 31) % 2147483647 / 64) % b, [[], [.hd 0, .int ((mix * 48271 + 31) % 2147483647)]], ?_, Int.emod_nonneg _ (by omega), Int.emod_lt_of_pos _ h0, [], _, rfl, by simp, by simp, q0, q1⟩
    have hbm : Big mix := big_small (by omega)
    have hbk : Big 48271 := by decide
    have l64 : Nat.log2 64 < 9000 := by decide
    refine run_rt (ρ1 := [.val (.hd 1), .val (.int b), .no]) (n := 1) (by simp [hp]) (by simp [hp]) ?_
    refine (sq (ex_whl e)).trans ?_
    refine (sq (ex_it (t := false) (by simp [at0, exSs, exS, evE, evEs, evT, Pv.evI, evC, evTg, evTgs, evO, vv, up, one, retE, Option.bind_eq_bind, Option.bind_some, Option.map_some, Option.pure_def, List.getElem?_cons_zero, List.getElem?_cons_succ, List.set_cons_zero, List.set_cons_succ, asgN, asgSub, setIx, opD, addD, mulD, biD, cmpD, ixD, ixL, lenD, slotSeq, slotLst, truD, List.length_cons, List.length_nil, if_true, if_false, Bool.false_eq_true, reduceIte, mthHR, mthR, mtD, slD, seqOf, wipeE, Tgs.len, Pv.unpack, Option.map_none, Option.bind_none, augD, revD, List.map_cons, List.map_nil, isiD, ty, List.any_cons, List.any_nil]; exact ⟨rfl, rfl⟩) rfl)).trans ?_
    refine (sq (ρ1 := [.val (.hd 1), .val (.int b), .no]) (st1 := [[], [.hd 0, .int ((mix * 48271 + 31) % 2147483647)]]) (by simp [at0, at1, exSs, exS, evE, evEs, evT, Pv.evI, evC, evTg, evTgs, evO, vv, up, one, retE, Option.bind_eq_bind, Option.bind_some, Option.map_some, Option.pure_def, List.getElem?_cons_zero, List.getElem?_cons_succ, List.set_cons_zero, List.set_cons_succ, asgN, asgSub, setIx, opD, addD, mulD, biD, cmpD, ixD, ixL, lenD, slotSeq, slotLst, truD, List.length_cons, List.length_nil, if_true, if_false, Bool.false_eq_true, reduceIte, mthHR, mthR, mtD, slD, seqOf, wipeE, Tgs.len, Pv.unpack, Option.map_none, Option.bind_none, augD, revD, List.map_cons, List.map_nil, isiD, ty, List.any_cons, List.any_nil, hbm, hbk, ixN])).trans ?_
    exact sqr (by simp [at0, at1, exSs, exS, evE, evEs, evT, Pv.evI, evC, evTg, evTgs, evO, vv, up, one, retE, Option.bind_eq_bind, Option.bind_some, Option.map_some, Option.pure_def, List.getElem?_cons_zero, List.getElem?_cons_succ, List.set_cons_zero, List.set_cons_succ, asgN, asgSub, setIx, opD, addD, mulD, biD, cmpD, ixD, ixL, lenD, slotSeq, slotLst, truD, List.length_cons, List.length_nil, if_true, if_false, Bool.false_eq_true, reduceIte, mthHR, mthR, mtD, slD, seqOf, wipeE, Tgs.len, Pv.unpack, Option.map_none, Option.bind_none, augD, revD, List.map_cons, List.map_nil, isiD, ty, List.any_cons, List.any_nil, hbm, hbk, h0, ixN, l64])
  · have d0 : 0 ≤ d := hc d (c' d (by simp))
    have q0 : 0 ≤ d / b := Int.ediv_nonneg d0 (by omega)
    refine ⟨d % b, [(ds ++ [d / b]).map D.int, [.hd 0, .int mix]], ?_, Int.emod_nonneg _ (by omega), Int.emod_lt_of_pos _ h0, ds ++ [d / b], mix, rfl, by simp at l' ⊢; omega, fun c hc1 => ?_, m0, m1⟩
    · refine run_rt (ρ1 := [.val (.hd 1), .val (.int b), .val (.int d)]) (n := 1) (by simp [hp]) (by simp [hp]) ?_
      refine (sq (ex_whl e)).trans ?_
      have hlim : ds.length < lim := by simp at l'; unfold lim; omega
      refine sqr (ex_it (t := true) (ρ1 := [.val (.hd 1), .val (.int b), .no]) (st1 := [(ds ++ [d]).map D.int, [.hd 0, .int mix]]) (by simp [at0, exSs, exS, evE, evEs, evT, Pv.evI, evC, evTg, evTgs, evO, vv, up, one, retE, Option.bind_eq_bind, Option.bind_some, Option.map_some, Option.pure_def, List.getElem?_cons_zero, List.getElem?_cons_succ, List.set_cons_zero, List.set_cons_succ, asgN, asgSub, setIx, opD, addD, mulD, biD, cmpD, ixD, ixL, lenD, slotSeq, slotLst, truD, List.length_cons, List.length_nil, if_true, if_false, Bool.false_eq_true, reduceIte, mthHR, mthR, mtD, slD, seqOf, wipeE, Tgs.len, Pv.unpack, Option.map_none, Option.bind_none, augD, revD, List.map_cons, List.map_nil, isiD, ty, List.any_cons, List.any_nil]) ?_)
      simp only [if_true]
      refine (sq (ρ1 := [.val (.hd 1), .val (.int b), .val (.int d)]) (st1 := [ds.map D.int, [.hd 0, .int mix]]) (by simp [at0, exSs, exS, evE, evEs, evT, Pv.evI, evC, evTg, evTgs, evO, vv, up, one, retE, Option.bind_eq_bind, Option.bind_some, Option.map_some, Option.pure_def, List.getElem?_cons_zero, List.getElem?_cons_succ, List.set_cons_zero, List.set_cons_succ, asgN, asgSub, setIx, opD, addD, mulD, biD, cmpD, ixD, ixL, lenD, slotSeq, slotLst, truD, List.length_cons, List.length_nil, if_true, if_false, Bool.false_eq_true, reduceIte, mthHR, mthR, mtD, slD, seqOf, wipeE, Tgs.len, Pv.unpack, Option.map_none, Option.bind_none, augD, revD, List.map_cons, List.map_nil, isiD, ty, List.any_cons, List.any_nil])).trans ?_
      refine (sq (ρ1 := [.val (.hd 1), .val (.int b), .val (.int d)]) (st1 := [(ds ++ [d / b]).map D.int, [.hd 0, .int mix]]) (by simp [at0, exSs, exS, evE, evEs, evT, Pv.evI, evC, evTg, evTgs, evO, vv, up, one, retE, Option.bind_eq_bind, Option.bind_some, Option.map_some, Option.pure_def, List.getElem?_cons_zero, List.getElem?_cons_succ, List.set_cons_zero, List.set_cons_succ, asgN, asgSub, setIx, opD, addD, mulD, biD, cmpD, ixD, ixL, lenD, slotSeq, slotLst, truD, List.length_cons, List.length_nil, if_true, if_false, Bool.false_eq_true, reduceIte, mthHR, mthR, mtD, slD, seqOf, wipeE, Tgs.len, Pv.unpack, Option.map_none, Option.bind_none, augD, revD, List.map_cons, List.map_nil, isiD, ty, List.any_cons, List.any_nil, h0, hlog, hlim])).trans ?_
      exact sqr (by simp [at0, exSs, exS, evE, evEs, evT, Pv.evI, evC, evTg, evTgs, evO, vv, up, one, retE, Option.bind_eq_bind, Option.bind_some, Option.map_some, Option.pure_def, List.getElem?_cons_zero, List.getElem?_cons_succ, List.set_cons_zero, List.set_cons_succ, asgN, asgSub, setIx, opD, addD, mulD, biD, cmpD, ixD, ixL, lenD, slotSeq, slotLst, truD, List.length_cons, List.length_nil, if_true, if_false, Bool.false_eq_true, reduceIte, mthHR, mthR, mtD, slD, seqOf, wipeE, Tgs.len, Pv.unpack, Option.map_none, Option.bind_none, augD, revD, List.map_cons, List.map_nil, isiD, ty, List.any_cons, List.any_nil, h0])
    · rcases List.mem_append.mp hc1 with h | h
      · exact hc c (c' c (List.mem_append_left _ h))
      · rw [List.mem_singleton.mp h]; exact q0
/-! ### ranges -/
theorem rng_len {a b : Int} : (rngL a b 1).length = (b - a).toNat := by
  unfold rngL rngN Builtin.Range.rangeSize
  rw [List.length_map, List.length_range, if_pos (by decide)]
  split
  · rw [Int.ediv_one]; omega
  · show (0 : Int).toNat = _; simp; omega
theorem rng_at {a b c : Int} {k : Nat} {d : D} (h : (rngL a b c)[k]? = some d) : d = .int (a + (k : Int) * c) := (rng_get h).2
theorem rng_lt {a b c : Int} {k : Nat} {d : D} (h : (rngL a b c)[k]? = some d) : k < (rngL a b c).length := (List.getElem?_eq_some_iff.mp h).1
theorem rngD1 {n : Int} (h0 : 0 ≤ n) (h : n ≤ 1000000) : rngD [.int n] = some (rngL 0 n 1) := by
  have : rngOk 0 n 1 = true := by
    unfold rngOk Builtin.Range.small Builtin.Range.rangeSize Builtin.Range.rangeFitsLong
    simp
    split <;> omega
  simp only [rngD, this, if_true]
theorem rngD2 {a b : Int} (h0 : 0 ≤ a) (h1 : a ≤ 1000000) (h2 : 0 ≤ b) (h : b ≤ 1000000) : rngD [.int a, .int b] = some (rngL a b 1) := by
  have : rngOk a b 1 = true := by
    unfold rngOk Builtin.Range.small Builtin.Range.rangeSize Builtin.Range.rangeFitsLong
    simp
    split <;> omega
  simp only [rngD, this, if_true]
/-! ### one of some -/
def AnyOk (P : Tb) : Prop := ∀ (b : Int) (st : Sto), 0 < b → b < 2 ^ 60 → Deal st → ∃ r st', P.F "_law_any" [.hd 1, .int b] st = some (false, .int r, st') ∧ 0 ≤ r ∧ r < b ∧ Deal st'
theorem of_ok {P : Tb} (ha : AnyOk P) (ps : List Str) (hp : ps.length = 2) {st : Sto} (hst : Deal st) {xs : List D} (h0 : xs ≠ []) (hl : xs.length < 1000000) : ∃ x st', runF P ⟨ps, 2, h_of⟩ [.hd 1, .lst xs] st = some (false, x, st') ∧ x ∈ xs ∧ Deal st' := by
  have hpos : 0 < xs.length := List.length_pos_iff.mpr h0
  obtain ⟨r, st', e, r0, r1, hd⟩ := ha xs.length st (by omega) (by omega) hst
  obtain ⟨j, rfl⟩ := Int.eq_ofNat_of_zero_le r0
  have hj : j < xs.length := by omega
  refine ⟨xs[j], st', ?_, List.getElem_mem hj, hd⟩
  have hat : atI xs (j : Int) = some xs[j] := atI_nat (List.getElem?_eq_getElem hj)
  refine run_rt (ρ1 := [.val (.hd 1), .val (.lst xs)]) (n := 0) (by simp [hp]) (by simp [hp]) ?_
  exact sqr (by simp [exSs, exS, evE, evEs, evT, Pv.evI, evC, evTg, evTgs, evO, vv, up, one, retE, Option.bind_eq_bind, Option.bind_some, Option.map_some, Option.pure_def, List.getElem?_cons_zero, List.getElem?_cons_succ, List.set_cons_zero, List.set_cons_succ, asgN, asgSub, setIx, opD, addD, mulD, biD, cmpD, ixD, ixL, lenD, slotSeq, slotLst, truD, List.length_cons, List.length_nil, if_true, if_false, Bool.false_eq_true, reduceIte, mthHR, mthR, mtD, slD, seqOf, wipeE, Tgs.len, Pv.unpack, Option.map_none, Option.bind_none, augD, revD, List.map_cons, List.map_nil, isiD, ty, List.any_cons, List.any_nil, e, hat])
/-! ### the same -/
inductive Pl : D → Prop
  | non : Pl .non
  | int (i : Int) : Pl (.int i)
  | tup {xs : List D} : (∀ x ∈ xs, Pl x) → Pl (.tup xs)
mutual
def wt : D → Nat
  | .tup xs => 1 + wtL xs
  | _ => 1
def wtL : List D → Nat
  | [] => 0
  | x :: xs => wt x + wtL xs
end
theorem wtL_app : ∀ (xs ys : List D), wtL (xs ++ ys) = wtL xs + wtL ys
  | [], ys => by simp [wtL]
  | x :: xs, ys => by simp [wtL, wtL_app xs ys]; omega
theorem wt_pos (d : D) : 1 ≤ wt d := by cases d <;> simp [wt]
theorem wtL_len : ∀ xs : List D, xs.length ≤ wtL xs
  | [] => Nat.le_refl _
  | x :: xs => by have := wt_pos x; have := wtL_len xs; simp [wtL]; omega
theorem wtL_mem {x : D} : ∀ {xs : List D}, x ∈ xs → wt x ≤ wtL xs
  | y :: ys, h => by
    rcases List.mem_cons.mp h with rfl | h
    · simp [wtL]
    · have := wtL_mem h; simp [wtL]; omega
def pr (d : D) : D := .tup [d, d]
theorem kind_ok (P : Tb) (ps : List Str) (hp : ps.length = 2) (st : Sto) {d : D} (h : Pl d) (ht : ∀ xs, d ≠ .tup xs) : runF P ⟨ps, 2, h_is_kind⟩ [d, d] st = some (false, .bl true, st) := by
  cases h with
  | non =>
    refine run_rt (ρ1 := [.val .non, .val .non]) (n := 0) (by simp [hp]) (by simp [hp]) ?_
    exact sqr (ex_it (t := true) (by simp [exSs, exS, evE, evEs, evT, Pv.evI, evC, evTg, evTgs, evO, vv, up, one, retE, Option.bind_eq_bind, Option.bind_some, Option.map_some, Option.pure_def, List.getElem?_cons_zero, List.getElem?_cons_succ, List.set_cons_zero, List.set_cons_succ, asgN, asgSub, setIx, opD, addD, mulD, biD, cmpD, ixD, ixL, lenD, slotSeq, slotLst, truD, List.length_cons, List.length_nil, if_true, if_false, Bool.false_eq_true, reduceIte, mthHR, mthR, mtD, slD, seqOf, wipeE, Tgs.len, Pv.unpack, Option.map_none, Option.bind_none, augD, revD, List.map_cons, List.map_nil, isiD, ty, List.any_cons, List.any_nil]; exact ⟨rfl, rfl⟩) (by simp [exSs, exS, evE, evEs, evT, Pv.evI, evC, evTg, evTgs, evO, vv, up, one, retE, Option.bind_eq_bind, Option.bind_some, Option.map_some, Option.pure_def, List.getElem?_cons_zero, List.getElem?_cons_succ, List.set_cons_zero, List.set_cons_succ, asgN, asgSub, setIx, opD, addD, mulD, biD, cmpD, ixD, ixL, lenD, slotSeq, slotLst, truD, List.length_cons, List.length_nil, if_true, if_false, Bool.false_eq_true, reduceIte, mthHR, mthR, mtD, slD, seqOf, wipeE, Tgs.len, Pv.unpack, Option.map_none, Option.bind_none, augD, revD, List.map_cons, List.map_nil, isiD, ty, List.any_cons, List.any_nil]))
  | int i =>
    refine run_rt (ρ1 := [.val (.int i), .val (.int i)]) (n := 0) (by simp [hp]) (by simp [hp]) ?_
    refine (sq (ex_it (t := false) (by simp [exSs, exS, evE, evEs, evT, Pv.evI, evC, evTg, evTgs, evO, vv, up, one, retE, Option.bind_eq_bind, Option.bind_some, Option.map_some, Option.pure_def, List.getElem?_cons_zero, List.getElem?_cons_succ, List.set_cons_zero, List.set_cons_succ, asgN, asgSub, setIx, opD, addD, mulD, biD, cmpD, ixD, ixL, lenD, slotSeq, slotLst, truD, List.length_cons, List.length_nil, if_true, if_false, Bool.false_eq_true, reduceIte, mthHR, mthR, mtD, slD, seqOf, wipeE, Tgs.len, Pv.unpack, Option.map_none, Option.bind_none, augD, revD, List.map_cons, List.map_nil, isiD, ty, List.any_cons, List.any_nil]; exact ⟨rfl, rfl⟩) rfl)).trans ?_
    refine (sq (ex_it (t := false) (by simp [exSs, exS, evE, evEs, evT, Pv.evI, evC, evTg, evTgs, evO, vv, up, one, retE, Option.bind_eq_bind, Option.bind_some, Option.map_some, Option.pure_def, List.getElem?_cons_zero, List.getElem?_cons_succ, List.set_cons_zero, List.set_cons_succ, asgN, asgSub, setIx, opD, addD, mulD, biD, cmpD, ixD, ixL, lenD, slotSeq, slotLst, truD, List.length_cons, List.length_nil, if_true, if_false, Bool.false_eq_true, reduceIte, mthHR, mthR, mtD, slD, seqOf, wipeE, Tgs.len, Pv.unpack, Option.map_none, Option.bind_none, augD, revD, List.map_cons, List.map_nil, isiD, ty, List.any_cons, List.any_nil]; exact ⟨rfl, rfl⟩) rfl)).trans ?_
    refine (sq (ex_it (t := false) (by simp [exSs, exS, evE, evEs, evT, Pv.evI, evC, evTg, evTgs, evO, vv, up, one, retE, Option.bind_eq_bind, Option.bind_some, Option.map_some, Option.pure_def, List.getElem?_cons_zero, List.getElem?_cons_succ, List.set_cons_zero, List.set_cons_succ, asgN, asgSub, setIx, opD, addD, mulD, biD, cmpD, ixD, ixL, lenD, slotSeq, slotLst, truD, List.length_cons, List.length_nil, if_true, if_false, Bool.false_eq_true, reduceIte, mthHR, mthR, mtD, slD, seqOf, wipeE, Tgs.len, Pv.unpack, Option.map_none, Option.bind_none, augD, revD, List.map_cons, List.map_nil, isiD, ty, List.any_cons, List.any_nil]; exact ⟨rfl, rfl⟩) rfl)).trans ?_
    exact sqr (by simp [exSs, exS, evE, evEs, evT, Pv.evI, evC, evTg, evTgs, evO, vv, up, one, retE, Option.bind_eq_bind, Option.bind_some, Option.map_some, Option.pure_def, List.getElem?_cons_zero, List.getElem?_cons_succ, List.set_cons_zero, List.set_cons_succ, asgN, asgSub, setIx, opD, addD, mulD, biD, cmpD, ixD, ixL, lenD, slotSeq, slotLst, truD, List.length_cons, List.length_nil, if_true, if_false, Bool.false_eq_true, reduceIte, mthHR, mthR, mtD, slD, seqOf, wipeE, Tgs.len, Pv.unpack, Option.map_none, Option.bind_none, augD, revD, List.map_cons, List.map_nil, isiD, ty, List.any_cons, List.any_nil, sh, eqv_int])
  | tup h => exact absurd rfl (ht _)
def KindOk (P : Tb) : Prop := ∀ (st : Sto) (d : D), Pl d → (∀ xs, d ≠ .tup xs) → P.F "_law_is_kind" [d, d] st = some (false, .bl true, st)
theorem take_pr {xs : List D} {k : Nat} {d : D} (h : xs[k]? = some d) : (xs.take (k + 1)).map pr = (xs.take k).map pr ++ [.tup [d, d]] := by
  rw [List.take_add_one, h, List.map_append]; rfl
theorem same_loop {P : Tb} (hk : KindOk P) (st : Sto) (a b : D) : ∀ (n : Nat) (todo : List D) (s3 s4 s5 : Sl), wtL todo < n → wtL todo < 100000 → (∀ d ∈ todo, Pl d) → ∃ ρ', whlL (evT P law_same_c0) (exSs P law_same_b2) n [.val a, .val b, .own (todo.map pr), s3, s4, s5] st = some (.nx, ρ', st)
  | 0, _, _, _, _, h, _, _ => by omega
  | n + 1, todo, s3, s4, s5, h, hb, hp => by
    rcases list_last todo with rfl | ⟨init, d, rfl⟩
    · exact ⟨_, by simp only [whlL, law_same_c0, exSs, exS, evE, evEs, evT, Pv.evI, evC, evTg, evTgs, evO, vv, up, one, retE, Option.bind_eq_bind, Option.bind_some, Option.map_some, Option.pure_def, List.getElem?_cons_zero, List.getElem?_cons_succ, List.set_cons_zero, List.set_cons_succ, asgN, asgSub, setIx, opD, addD, mulD, biD, cmpD, ixD, ixL, lenD, slotSeq, slotLst, truD, List.length_cons, List.length_nil, if_true, if_false, Bool.false_eq_true, reduceIte, mthHR, mthR, mtD, slD, seqOf, wipeE, Tgs.len, Pv.unpack, Option.map_none, Option.bind_none, augD, revD, List.map_cons, List.map_nil, isiD, ty, List.any_cons, List.any_nil]; simp [exSs, exS, evE, evEs, evT, Pv.evI, evC, evTg, evTgs, evO, vv, up, one, retE, Option.bind_eq_bind, Option.bind_some, Option.map_some, Option.pure_def, List.getElem?_cons_zero, List.getElem?_cons_succ, List.set_cons_zero, List.set_cons_succ, asgN, asgSub, setIx, opD, addD, mulD, biD, cmpD, ixD, ixL, lenD, slotSeq, slotLst, truD, List.length_cons, List.length_nil, if_true, if_false, Bool.false_eq_true, reduceIte, mthHR, mthR, mtD, slD, seqOf, wipeE, Tgs.len, Pv.unpack, Option.map_none, Option.bind_none, augD, revD, List.map_cons, List.map_nil, isiD, ty, List.any_cons, List.any_nil]; rfl⟩
    · have hd : Pl d := hp d (by simp)
      have hi : ∀ x ∈ init, Pl x := fun x hx => hp x (by simp [hx])
      rw [wtL_app] at h hb
      have cT : evT P law_same_c0 [.val a, .val b, .own ((init ++ [d]).map pr), s3, s4, s5] st = some (true, [.val a, .val b, .own ((init ++ [d]).map pr), s3, s4, s5], st) := by
        simp only [law_same_c0, exSs, exS, evE, evEs, evT, Pv.evI, evC, evTg, evTgs, evO, vv, up, one, retE, Option.bind_eq_bind, Option.bind_some, Option.map_some, Option.pure_def, List.getElem?_cons_zero, List.getElem?_cons_succ, List.set_cons_zero, List.set_cons_succ, asgN, asgSub, setIx, opD, addD, mulD, biD, cmpD, ixD, ixL, lenD, slotSeq, slotLst, truD, List.length_cons, List.length_nil, if_true, if_false, Bool.false_eq_true, reduceIte, mthHR, mthR, mtD, slD, seqOf, wipeE, Tgs.len, Pv.unpack, Option.map_none, Option.bind_none, augD, revD, List.map_cons, List.map_nil, isiD, ty, List.any_cons, List.any_nil]
        simp [exSs, exS, evE, evEs, evT, Pv.evI, evC, evTg, evTgs, evO, vv, up, one, retE, Option.bind_eq_bind, Option.bind_some, Option.map_some, Option.pure_def, List.getElem?_cons_zero, List.getElem?_cons_succ, List.set_cons_zero, List.set_cons_succ, asgN, asgSub, setIx, opD, addD, mulD, biD, cmpD, ixD, ixL, lenD, slotSeq, slotLst, truD, List.length_cons, List.length_nil, if_true, if_false, Bool.false_eq_true, reduceIte, mthHR, mthR, mtD, slD, seqOf, wipeE, Tgs.len, Pv.unpack, Option.map_none, Option.bind_none, augD, revD, List.map_cons, List.map_nil, isiD, ty, List.any_cons, List.any_nil]
      have pop : exS P (.asgT (.tup (.cons (.n 3) (.cons (.n 4) .nil))) (.mth .pop 2 .nil)) [.val a, .val b, .own ((init ++ [d]).map pr), s3, s4, s5] st = some (.nx, [.val a, .val b, .own (init.map pr), .val d, .val d, s5], st) := by
        simp only [exSs, exS, evE, evEs, evT, Pv.evI, evC, evTg, evTgs, evO, vv, up, one, retE, Option.bind_eq_bind, Option.bind_some, Option.map_some, Option.pure_def, List.getElem?_cons_zero, List.getElem?_cons_succ, List.set_cons_zero, List.set_cons_succ, asgN, asgSub, setIx, opD, addD, mulD, biD, cmpD, ixD, ixL, lenD, slotSeq, slotLst, truD, List.length_cons, List.length_nil, if_true, if_false, Bool.false_eq_true, reduceIte, mthHR, mthR, mtD, slD, seqOf, wipeE, Tgs.len, Pv.unpack, Option.map_none, Option.bind_none, augD, revD, List.map_cons, List.map_nil, isiD, ty, List.any_cons, List.any_nil, evTgs]
        simp [exSs, exS, evE, evEs, evT, Pv.evI, evC, evTg, evTgs, evO, vv, up, one, retE, Option.bind_eq_bind, Option.bind_some, Option.map_some, Option.pure_def, List.getElem?_cons_zero, List.getElem?_cons_succ, List.set_cons_zero, List.set_cons_succ, asgN, asgSub, setIx, opD, addD, mulD, biD, cmpD, ixD, ixL, lenD, slotSeq, slotLst, truD, List.length_cons, List.length_nil, if_true, if_false, Bool.false_eq_true, reduceIte, mthHR, mthR, mtD, slD, seqOf, wipeE, Tgs.len, Pv.unpack, Option.map_none, Option.bind_none, augD, revD, List.map_cons, List.map_nil, isiD, ty, List.any_cons, List.any_nil, pr, evTgs]
      by_cases ht : ∃ xs, d = .tup xs
      · obtain ⟨xs, rfl⟩ := ht
        have hxs : ∀ x ∈ xs, Pl x := by cases hd with | tup h => exact h
        have hw : wtL [D.tup xs] = 1 + wtL xs := by simp [wtL, wt]
        have hl := wtL_len xs
        have hl2 := wtL_len init
        obtain ⟨ρ1, st1, e1, ⟨s, rfl, rfl⟩⟩ := for_all (asg := evTg P (.n 5)) (b := exSs P law_same_b1) (fun k ρ st' => ∃ s, ρ = [.val a, .val b, .own (init.map pr ++ (xs.take k).map pr), .val (.tup xs), .val (.tup xs), s] ∧ st' = st) (rngL 0 xs.length 1) 0 [.val a, .val b, .own (init.map pr), .val (.tup xs), .val (.tup xs), s5] st
          (fun k d ρ st' hk hj => by
            obtain ⟨s, rfl, rfl⟩ := hj
            have hkl := rng_lt hk
            rw [rng_len] at hkl
            have hkx : k < xs.length := by omega
            have hd := rng_at hk
            rw [Int.zero_add, Int.mul_one] at hd
            subst hd
            refine ⟨[.val a, .val b, .own (init.map pr ++ (xs.take (0 + k)).map pr), .val (.tup xs), .val (.tup xs), .val (.int k)], st', by simp [exSs, exS, evE, evEs, evT, Pv.evI, evC, evTg, evTgs, evO, vv, up, one, retE, Option.bind_eq_bind, Option.bind_some, Option.map_some, Option.pure_def, List.getElem?_cons_zero, List.getElem?_cons_succ, List.set_cons_zero, List.set_cons_succ, asgN, asgSub, setIx, opD, addD, mulD, biD, cmpD, ixD, ixL, lenD, slotSeq, slotLst, truD, List.length_cons, List.length_nil, if_true, if_false, Bool.false_eq_true, reduceIte, mthHR, mthR, mtD, slD, seqOf, wipeE, Tgs.len, Pv.unpack, Option.map_none, Option.bind_none, augD, revD, List.map_cons, List.map_nil, isiD, ty, List.any_cons, List.any_nil], ?_⟩
            have hat : atI xs (k : Int) = some xs[k] := atI_nat (List.getElem?_eq_getElem hkx)
            have hlim : init.length + min k xs.length < lim := by unfold lim; omega
            refine ⟨[.val a, .val b, .own (init.map pr ++ (xs.take (k + 1)).map pr), .val (.tup xs), .val (.tup xs), .val (.int k)], st', ?_, ⟨_, by rw [Nat.zero_add], rfl⟩⟩
            rw [take_pr (List.getElem?_eq_getElem hkx), ← List.append_assoc, Nat.zero_add]
            refine sq1 (ρ1 := [.val a, .val b, .own (init.map pr ++ (xs.take k).map pr ++ [.tup [xs[k], xs[k]]]), .val (.tup xs), .val (.tup xs), .val (.int k)]) (st1 := st') ?_
            simp [exSs, exS, evE, evEs, evT, Pv.evI, evC, evTg, evTgs, evO, vv, up, one, retE, Option.bind_eq_bind, Option.bind_some, Option.map_some, Option.pure_def, List.getElem?_cons_zero, List.getElem?_cons_succ, List.set_cons_zero, List.set_cons_succ, asgN, asgSub, setIx, opD, addD, mulD, biD, cmpD, ixD, ixL, lenD, slotSeq, slotLst, truD, List.length_cons, List.length_nil, if_true, if_false, Bool.false_eq_true, reduceIte, mthHR, mthR, mtD, slD, seqOf, wipeE, Tgs.len, Pv.unpack, Option.map_none, Option.bind_none, augD, revD, List.map_cons, List.map_nil, isiD, ty, List.any_cons, List.any_nil, hat, hlim, show (2 : Nat) ≤ lim by decide])
          ⟨s5, by simp, rfl⟩
        rw [rng_len] at e1
        have tk : (xs.take (0 + (rngL 0 xs.length 1).length)) = xs := by rw [rng_len]; simp
        obtain ⟨ρ', e'⟩ := same_loop hk st1 a b n (init ++ xs) (.val (.tup xs)) (.val (.tup xs)) s (by rw [wtL_app]; omega) (by rw [wtL_app]; omega) (fun x hx => (List.mem_append.mp hx).elim (hi x) (hxs x))
        refine ⟨ρ', ?_⟩
        rw [← e', List.map_append (l₁ := init) (l₂ := xs)]
        rw [show 0 + ((xs.length : Int) - 0).toNat = xs.length by omega, List.take_length] at e1
        have body : exSs P law_same_b2 [.val a, .val b, .own ((init ++ [D.tup xs]).map pr), s3, s4, s5] st1 = some (.nx, [.val a, .val b, .own (init.map pr ++ xs.map pr), .val (.tup xs), .val (.tup xs), s], st1) := by
          refine (sq pop).trans ?_
          refine sq1 (ex_it (t := true) (by simp [exSs, exS, evE, evEs, evT, Pv.evI, evC, evTg, evTgs, evO, vv, up, one, retE, Option.bind_eq_bind, Option.bind_some, Option.map_some, Option.pure_def, List.getElem?_cons_zero, List.getElem?_cons_succ, List.set_cons_zero, List.set_cons_succ, asgN, asgSub, setIx, opD, addD, mulD, biD, cmpD, ixD, ixL, lenD, slotSeq, slotLst, truD, List.length_cons, List.length_nil, if_true, if_false, Bool.false_eq_true, reduceIte, mthHR, mthR, mtD, slD, seqOf, wipeE, Tgs.len, Pv.unpack, Option.map_none, Option.bind_none, augD, revD, List.map_cons, List.map_nil, isiD, ty, List.any_cons, List.any_nil]; exact ⟨rfl, rfl⟩) ?_)
          simp only [if_true]
          refine (sq (ex_it (t := false) (by simp [exSs, exS, evE, evEs, evT, Pv.evI, evC, evTg, evTgs, evO, vv, up, one, retE, Option.bind_eq_bind, Option.bind_some, Option.map_some, Option.pure_def, List.getElem?_cons_zero, List.getElem?_cons_succ, List.set_cons_zero, List.set_cons_succ, asgN, asgSub, setIx, opD, addD, mulD, biD, cmpD, ixD, ixL, lenD, slotSeq, slotLst, truD, List.length_cons, List.length_nil, if_true, if_false, Bool.false_eq_true, reduceIte, mthHR, mthR, mtD, slD, seqOf, wipeE, Tgs.len, Pv.unpack, Option.map_none, Option.bind_none, augD, revD, List.map_cons, List.map_nil, isiD, ty, List.any_cons, List.any_nil, sh, eqv_int]; exact ⟨rfl, rfl⟩) rfl)).trans ?_
          have hr : evI P (.rng (.cons (.lenv 4) .nil)) [.val a, .val b, .own (init.map pr), .val (.tup xs), .val (.tup xs), s5] st1 = some (rngL 0 xs.length 1, [.val a, .val b, .own (init.map pr), .val (.tup xs), .val (.tup xs), s5], st1) := by
            simp [exSs, exS, evE, evEs, evT, Pv.evI, evC, evTg, evTgs, evO, vv, up, one, retE, Option.bind_eq_bind, Option.bind_some, Option.map_some, Option.pure_def, List.getElem?_cons_zero, List.getElem?_cons_succ, List.set_cons_zero, List.set_cons_succ, asgN, asgSub, setIx, opD, addD, mulD, biD, cmpD, ixD, ixL, lenD, slotSeq, slotLst, truD, List.length_cons, List.length_nil, if_true, if_false, Bool.false_eq_true, reduceIte, mthHR, mthR, mtD, slD, seqOf, wipeE, Tgs.len, Pv.unpack, Option.map_none, Option.bind_none, augD, revD, List.map_cons, List.map_nil, isiD, ty, List.any_cons, List.any_nil, rngD1 (n := xs.length) (by omega) (by omega)]
          exact sq1 (ex_for hr e1)
        simp only [whlL, cT, body, Option.bind_eq_bind, Option.bind_some, if_true]
      · have hn : ∀ xs, d ≠ .tup xs := fun xs z => ht ⟨xs, z⟩
        have kd := hk st d hd hn
        have fl : (ty d == "tuple") = false ∧ (ty d == "list") = false ∧ (ty d == "dict") = false ∧ ∀ ns, d ≠ .scr ns := by
          cases hd with
          | non => exact ⟨rfl, rfl, rfl, fun _ z => by cases z⟩
          | int i => exact ⟨rfl, rfl, rfl, fun _ z => by cases z⟩
          | tup h => exact absurd rfl (hn _)
        have hw : 1 ≤ wtL [d] := by have := wt_pos d; simp [wtL]; omega
        obtain ⟨ρ', e'⟩ := same_loop hk st a b n init (.val d) (.val d) s5 (by omega) (by omega) hi
        refine ⟨ρ', ?_⟩
        rw [← e']
        have body : exSs P law_same_b2 [.val a, .val b, .own ((init ++ [d]).map pr), s3, s4, s5] st = some (.nx, [.val a, .val b, .own (init.map pr), .val d, .val d, s5], st) := by
          refine (sq pop).trans ?_
          have t1 : evT P (.e (.isi (.v 4) ["tuple"] false)) [.val a, .val b, .own (init.map pr), .val d, .val d, s5] st = some (false, [.val a, .val b, .own (init.map pr), .val d, .val d, s5], st) := by
            cases hd with
            | non => simp [exSs, exS, evE, evEs, evT, Pv.evI, evC, evTg, evTgs, evO, vv, up, one, retE, Option.bind_eq_bind, Option.bind_some, Option.map_some, Option.pure_def, List.getElem?_cons_zero, List.getElem?_cons_succ, List.set_cons_zero, List.set_cons_succ, asgN, asgSub, setIx, opD, addD, mulD, biD, cmpD, ixD, ixL, lenD, slotSeq, slotLst, truD, List.length_cons, List.length_nil, if_true, if_false, Bool.false_eq_true, reduceIte, mthHR, mthR, mtD, slD, seqOf, wipeE, Tgs.len, Pv.unpack, Option.map_none, Option.bind_none, augD, revD, List.map_cons, List.map_nil, isiD, ty, List.any_cons, List.any_nil]
            | int i => simp [exSs, exS, evE, evEs, evT, Pv.evI, evC, evTg, evTgs, evO, vv, up, one, retE, Option.bind_eq_bind, Option.bind_some, Option.map_some, Option.pure_def, List.getElem?_cons_zero, List.getElem?_cons_succ, List.set_cons_zero, List.set_cons_succ, asgN, asgSub, setIx, opD, addD, mulD, biD, cmpD, ixD, ixL, lenD, slotSeq, slotLst, truD, List.length_cons, List.length_nil, if_true, if_false, Bool.false_eq_true, reduceIte, mthHR, mthR, mtD, slD, seqOf, wipeE, Tgs.len, Pv.unpack, Option.map_none, Option.bind_none, augD, revD, List.map_cons, List.map_nil, isiD, ty, List.any_cons, List.any_nil]
            | tup h => exact absurd rfl (hn _)
          have t2 : evT P (.or (.e (.isi (.v 3) ["tuple", "list", "dict"] true)) (.nt (.e (.call "_law_is_kind" (.cons (.v 3) (.cons (.v 4) .nil)))))) [.val a, .val b, .own (init.map pr), .val d, .val d, s5] st = some (false, [.val a, .val b, .own (init.map pr), .val d, .val d, s5], st) := by
            cases hd with
            | non => simp [exSs, exS, evE, evEs, evT, Pv.evI, evC, evTg, evTgs, evO, vv, up, one, retE, Option.bind_eq_bind, Option.bind_some, Option.map_some, Option.pure_def, List.getElem?_cons_zero, List.getElem?_cons_succ, List.set_cons_zero, List.set_cons_succ, asgN, asgSub, setIx, opD, addD, mulD, biD, cmpD, ixD, ixL, lenD, slotSeq, slotLst, truD, List.length_cons, List.length_nil, if_true, if_false, Bool.false_eq_true, reduceIte, mthHR, mthR, mtD, slD, seqOf, wipeE, Tgs.len, Pv.unpack, Option.map_none, Option.bind_none, augD, revD, List.map_cons, List.map_nil, isiD, ty, List.any_cons, List.any_nil, kd]
            | int i => simp [exSs, exS, evE, evEs, evT, Pv.evI, evC, evTg, evTgs, evO, vv, up, one, retE, Option.bind_eq_bind, Option.bind_some, Option.map_some, Option.pure_def, List.getElem?_cons_zero, List.getElem?_cons_succ, List.set_cons_zero, List.set_cons_succ, asgN, asgSub, setIx, opD, addD, mulD, biD, cmpD, ixD, ixL, lenD, slotSeq, slotLst, truD, List.length_cons, List.length_nil, if_true, if_false, Bool.false_eq_true, reduceIte, mthHR, mthR, mtD, slD, seqOf, wipeE, Tgs.len, Pv.unpack, Option.map_none, Option.bind_none, augD, revD, List.map_cons, List.map_nil, isiD, ty, List.any_cons, List.any_nil, kd]
            | tup h => exact absurd rfl (hn _)
          refine sq1 (ex_it t1 ?_)
          simp only [Bool.false_eq_true, if_false]
          exact sq1 (ex_it t2 (by simp only [Bool.false_eq_true, if_false, exSs]))
        simp only [whlL, cT, body, Option.bind_eq_bind, Option.bind_some, if_true]
theorem same_ok {P : Tb} (hk : KindOk P) (ps : List Str) (hp : ps.length = 2) (st : Sto) {d : D} (h : Pl d) (hw : wt d < 99999) : runF P ⟨ps, 6, h_same⟩ [d, d] st = some (false, .bl true, st) := by
  obtain ⟨ρ', e⟩ := same_loop hk st d d fuel [d] .no .no .no (by simp [wtL]; unfold fuel; omega) (by simp [wtL]; omega) (fun x hx => by rw [List.mem_singleton.mp hx]; exact h)
  refine run_rt (ρ1 := ρ') (n := 4) (by simp [hp]) (by simp [hp]) ?_
  refine (sq (ρ1 := [.val d, .val d, .own [pr d], .no, .no, .no]) (st1 := st) (by simp [exSs, exS, evE, evEs, evT, Pv.evI, evC, evTg, evTgs, evO, vv, up, one, retE, Option.bind_eq_bind, Option.bind_some, Option.map_some, Option.pure_def, List.getElem?_cons_zero, List.getElem?_cons_succ, List.set_cons_zero, List.set_cons_succ, asgN, asgSub, setIx, opD, addD, mulD, biD, cmpD, ixD, ixL, lenD, slotSeq, slotLst, truD, List.length_cons, List.length_nil, if_true, if_false, Bool.false_eq_true, reduceIte, mthHR, mthR, mtD, slD, seqOf, wipeE, Tgs.len, Pv.unpack, Option.map_none, Option.bind_none, augD, revD, List.map_cons, List.map_nil, isiD, ty, List.any_cons, List.any_nil, pr, show (2 : Nat) ≤ lim by decide, show (1 : Nat) ≤ lim by decide])).trans ?_
  refine (sq (ex_whl e)).trans ?_
  exact sqr (by simp [exSs, exS, evE, evEs, evT, Pv.evI, evC, evTg, evTgs, evO, vv, up, one, retE, Option.bind_eq_bind, Option.bind_some, Option.map_some, Option.pure_def, List.getElem?_cons_zero, List.getElem?_cons_succ, List.set_cons_zero, List.set_cons_succ, asgN, asgSub, setIx, opD, addD, mulD, biD, cmpD, ixD, ixL, lenD, slotSeq, slotLst, truD, List.length_cons, List.length_nil, if_true, if_false, Bool.false_eq_true, reduceIte, mthHR, mthR, mtD, slD, seqOf, wipeE, Tgs.len, Pv.unpack, Option.map_none, Option.bind_none, augD, revD, List.map_cons, List.map_nil, isiD, ty, List.any_cons, List.any_nil])
/-! ### all -/
def SameOk (P : Tb) : Prop := ∀ (st : Sto) (d : D), Pl d → wt d < 99999 → P.F "_law_same" [d, d] st = some (false, .bl true, st)
def Prs (xs : List D) : Prop := ∀ x ∈ xs, ∃ d, x = pr d ∧ Pl d ∧ wt d < 99999
theorem all_loop {P : Tb} (hs : SameOk P) (a : Sl) (st : Sto) : ∀ (xs : List D), Prs xs → lcL (evTg P (.tup (.cons (.n 1) (.cons (.n 2) .nil)))) (evC P (.so law_all_c1)) (fun ρ st => vv (evE P law_all_e0 ρ st)) [1, 2] xs [] [a, .no, .no] st = some ([], [a, .no, .no], st)
  | [], _ => rfl
  | x :: xs, h => by
    obtain ⟨d, rfl, hd, hw⟩ := h x List.mem_cons_self
    have ih := all_loop hs a st xs fun y hy => h y (List.mem_cons_of_mem _ hy)
    have e1 : evTg P (.tup (.cons (.n 1) (.cons (.n 2) .nil))) (pr d) [a, .no, .no] st = some ([a, .val d, .val d], st) := by
      simp [exSs, exS, evE, evEs, evT, Pv.evI, evC, evTg, evTgs, evO, vv, up, one, retE, Option.bind_eq_bind, Option.bind_some, Option.map_some, Option.pure_def, List.getElem?_cons_zero, List.getElem?_cons_succ, List.set_cons_zero, List.set_cons_succ, asgN, asgSub, setIx, opD, addD, mulD, biD, cmpD, ixD, ixL, lenD, slotSeq, slotLst, truD, List.length_cons, List.length_nil, if_true, if_false, Bool.false_eq_true, reduceIte, mthHR, mthR, mtD, slD, seqOf, wipeE, Tgs.len, Pv.unpack, Option.map_none, Option.bind_none, augD, revD, List.map_cons, List.map_nil, isiD, ty, List.any_cons, List.any_nil, evTgs, pr]
    have e2 : evC P (.so law_all_c1) [a, .val d, .val d] st = some (false, [a, .val d, .val d], st) := by
      simp [law_all_c1, exSs, exS, evE, evEs, evT, Pv.evI, evC, evTg, evTgs, evO, vv, up, one, retE, Option.bind_eq_bind, Option.bind_some, Option.map_some, Option.pure_def, List.getElem?_cons_zero, List.getElem?_cons_succ, List.set_cons_zero, List.set_cons_succ, asgN, asgSub, setIx, opD, addD, mulD, biD, cmpD, ixD, ixL, lenD, slotSeq, slotLst, truD, List.length_cons, List.length_nil, if_true, if_false, Bool.false_eq_true, reduceIte, mthHR, mthR, mtD, slD, seqOf, wipeE, Tgs.len, Pv.unpack, Option.map_none, Option.bind_none, augD, revD, List.map_cons, List.map_nil, isiD, ty, List.any_cons, List.any_nil, hs st d hd hw]
    simp only [lcL, e1, e2, Option.bind_eq_bind, Option.bind_some, Bool.false_eq_true, if_false, wipeE, List.set_cons_zero, List.set_cons_succ]
    exact ih
theorem all_ok {P : Tb} (hs : SameOk P) (ps : List Str) (hp : ps.length = 1) (st : Sto) {xs : List D} (h : Prs xs) : runF P ⟨ps, 3, h_all⟩ [.lst xs] st = some (false, .bl true, st) := by
  refine run_rt (ρ1 := [.val (.lst xs), .no, .no]) (n := 2) (by simp [hp]) (by simp [hp]) ?_
  have e : evE P (.lc law_all_e0 (.tup (.cons (.n 1) (.cons (.n 2) .nil))) (.val (.v 0)) (.so law_all_c1) [("told", 1), ("due", 2)]) [.val (.lst xs), .no, .no] st = some (true, .lst [], [.val (.lst xs), .no, .no], st) :=
    ev_lc (xs := xs) (ρ1 := [.val (.lst xs), .no, .no]) (st1 := st) (by simp [exSs, exS, evE, evEs, evT, Pv.evI, evC, evTg, evTgs, evO, vv, up, one, retE, Option.bind_eq_bind, Option.bind_some, Option.map_some, Option.pure_def, List.getElem?_cons_zero, List.getElem?_cons_succ, List.set_cons_zero, List.set_cons_succ, asgN, asgSub, setIx, opD, addD, mulD, biD, cmpD, ixD, ixL, lenD, slotSeq, slotLst, truD, List.length_cons, List.length_nil, if_true, if_false, Bool.false_eq_true, reduceIte, mthHR, mthR, mtD, slD, seqOf, wipeE, Tgs.len, Pv.unpack, Option.map_none, Option.bind_none, augD, revD, List.map_cons, List.map_nil, isiD, ty, List.any_cons, List.any_nil]) (all_loop hs _ st xs h)
  unfold h_all
  generalize E.lc law_all_e0 _ _ _ _ = LC at e ⊢
  exact sqr (by simp [e, exSs, exS, evE, evEs, evT, Pv.evI, evC, evTg, evTgs, evO, vv, up, one, retE, Option.bind_eq_bind, Option.bind_some, Option.map_some, Option.pure_def, List.getElem?_cons_zero, List.getElem?_cons_succ, List.set_cons_zero, List.set_cons_succ, asgN, asgSub, setIx, opD, addD, mulD, biD, cmpD, ixD, ixL, lenD, slotSeq, slotLst, truD, List.length_cons, List.length_nil, if_true, if_false, Bool.false_eq_true, reduceIte, mthHR, mthR, mtD, slD, seqOf, wipeE, Tgs.len, Pv.unpack, Option.map_none, Option.bind_none, augD, revD, List.map_cons, List.map_nil, isiD, ty, List.any_cons, List.any_nil, sh, eqv_int])
/-! ### the deal -/
def allI (xs : List D) : Prop := ∀ x ∈ xs, ∃ i : Int, x = .int i
def nats (xs : List D) : Prop := ∀ x ∈ xs, ∃ i : Int, x = .int i ∧ 0 ≤ i
theorem nats_map {xs : List D} (h : nats xs) : ∃ cs : List Int, xs = cs.map D.int ∧ ∀ c ∈ cs, 0 ≤ c := by
  induction xs with
  | nil => exact ⟨[], rfl, fun _ h => by cases h⟩
  | cons x xs ih =>
    obtain ⟨cs, e, hc⟩ := ih fun y hy => h y (List.mem_cons_of_mem _ hy)
    obtain ⟨i, rfl, h0⟩ := h x List.mem_cons_self
    exact ⟨i :: cs, by rw [e]; rfl, fun c hc' => (List.mem_cons.mp hc').elim (fun z => by rw [z]; exact h0) (hc c)⟩
def mostV : Int := 10 ^ 384
theorem deal_cells {P : Tb} (a b : Sl) (st : Sto) : ∀ (xs acc : List D), allI xs → nats acc → acc.length + xs.length ≤ 63 → ∃ acc', lcL (evTg P (.n 5)) (evC P .no) (fun ρ st => vv (evE P law_deal_e3 ρ st)) [5] xs acc [a, b, .val (.int mostV), .no, .no, .no] st = some (acc', [a, b, .val (.int mostV), .no, .no, .no], st) ∧ nats acc' ∧ acc'.length ≤ 63
  | [], acc, _, h, hl => ⟨acc, rfl, h, hl⟩
  | x :: xs, acc, hx, h, hl => by
    obtain ⟨i, rfl⟩ := hx x List.mem_cons_self
    rw [List.length_cons] at hl
    have hm : 0 < mostV := by unfold mostV; decide
    obtain ⟨acc', e, h1, h2⟩ := deal_cells (P := P) a b st xs (acc ++ [.int ((if i < 0 then -i else i) % mostV)]) (fun y hy => hx y (List.mem_cons_of_mem _ hy)) (fun y hy => (List.mem_append.mp hy).elim (h y) fun z => ⟨_, List.mem_singleton.mp z, Int.emod_nonneg _ (by omega)⟩) (by simp; omega)
    refine ⟨acc', ?_, h1, h2⟩
    rw [← e]
    have hlt : acc.length < lim := by unfold lim; omega
    have e1 : evTg P (.n 5) (.int i) [a, b, .val (.int mostV), .no, .no, .no] st = some ([a, b, .val (.int mostV), .no, .no, .val (.int i)], st) := by simp [exSs, exS, evE, evEs, evT, Pv.evI, evC, evTg, evTgs, evO, vv, up, one, retE, Option.bind_eq_bind, Option.bind_some, Option.map_some, Option.pure_def, List.getElem?_cons_zero, List.getElem?_cons_succ, List.set_cons_zero, List.set_cons_succ, asgN, asgSub, setIx, opD, addD, mulD, biD, cmpD, ixD, ixL, lenD, slotSeq, slotLst, truD, List.length_cons, List.length_nil, if_true, if_false, Bool.false_eq_true, reduceIte, mthHR, mthR, mtD, slD, seqOf, wipeE, Tgs.len, Pv.unpack, Option.map_none, Option.bind_none, augD, revD, List.map_cons, List.map_nil, isiD, ty, List.any_cons, List.any_nil]
    have e2 : vv (evE P law_deal_e3 [a, b, .val (.int mostV), .no, .no, .val (.int i)] st) = some (.int ((if i < 0 then -i else i) % mostV), [a, b, .val (.int mostV), .no, .no, .val (.int i)], st) := by
      simp [law_deal_e3, exSs, exS, evE, evEs, evT, Pv.evI, evC, evTg, evTgs, evO, vv, up, one, retE, Option.bind_eq_bind, Option.bind_some, Option.map_some, Option.pure_def, List.getElem?_cons_zero, List.getElem?_cons_succ, List.set_cons_zero, List.set_cons_succ, asgN, asgSub, setIx, opD, addD, mulD, biD, cmpD, ixD, ixL, lenD, slotSeq, slotLst, truD, List.length_cons, List.length_nil, if_true, if_false, Bool.false_eq_true, reduceIte, mthHR, mthR, mtD, slD, seqOf, wipeE, Tgs.len, Pv.unpack, Option.map_none, Option.bind_none, augD, revD, List.map_cons, List.map_nil, isiD, ty, List.any_cons, List.any_nil, hm]
    simp only [lcL, e1, e2, evC, Option.bind_eq_bind, Option.bind_some, if_true, hlt, wipeE, List.set_cons_zero, List.set_cons_succ]
theorem deal_mix {P : Tb} (a b c d : Sl) (st : Sto) : ∀ (xs : List D) (mix : Int) (s : Sl), nats xs → 0 ≤ mix → mix < 2147483647 → ∃ mix' s', forL (evTg P (.n 5)) (exSs P law_deal_b2) xs [a, b, c, d, .val (.int mix), s] st = some (.nx, [a, b, c, d, .val (.int mix'), s'], st) ∧ 0 ≤ mix' ∧ mix' < 2147483647
  | [], mix, s, _, h0, h1 => ⟨mix, s, rfl, h0, h1⟩
  | x :: xs, mix, s, hx, h0, h1 => by
    obtain ⟨i, rfl, hi⟩ := hx x List.mem_cons_self
    have q0 : 0 ≤ (mix * 69621 + i % 2147483563 + 23) % 2147483647 := Int.emod_nonneg _ (by decide)
    have q1 : (mix * 69621 + i % 2147483563 + 23) % 2147483647 < 2147483647 := Int.emod_lt_of_pos _ (by decide)
    obtain ⟨mix', s', e, h2, h3⟩ := deal_mix (P := P) a b c d st xs ((mix * 69621 + i % 2147483563 + 23) % 2147483647) (.val (.int i)) (fun y hy => hx y (List.mem_cons_of_mem _ hy)) q0 q1
    refine ⟨mix', s', ?_, h2, h3⟩
    rw [← e]
    have hbm : Big mix := big_small (by omega)
    have hbk : Big 69621 := by decide
    have e1 : evTg P (.n 5) (.int i) [a, b, c, d, .val (.int mix), s] st = some ([a, b, c, d, .val (.int mix), .val (.int i)], st) := by simp [exSs, exS, evE, evEs, evT, Pv.evI, evC, evTg, evTgs, evO, vv, up, one, retE, Option.bind_eq_bind, Option.bind_some, Option.map_some, Option.pure_def, List.getElem?_cons_zero, List.getElem?_cons_succ, List.set_cons_zero, List.set_cons_succ, asgN, asgSub, setIx, opD, addD, mulD, biD, cmpD, ixD, ixL, lenD, slotSeq, slotLst, truD, List.length_cons, List.length_nil, if_true, if_false, Bool.false_eq_true, reduceIte, mthHR, mthR, mtD, slD, seqOf, wipeE, Tgs.len, Pv.unpack, Option.map_none, Option.bind_none, augD, revD, List.map_cons, List.map_nil, isiD, ty, List.any_cons, List.any_nil]
    have e2 : exSs P law_deal_b2 [a, b, c, d, .val (.int mix), .val (.int i)] st = some (.nx, [a, b, c, d, .val (.int ((mix * 69621 + i % 2147483563 + 23) % 2147483647)), .val (.int i)], st) := by
      unfold law_deal_b2
      exact sq1 (by simp [exSs, exS, evE, evEs, evT, Pv.evI, evC, evTg, evTgs, evO, vv, up, one, retE, Option.bind_eq_bind, Option.bind_some, Option.map_some, Option.pure_def, List.getElem?_cons_zero, List.getElem?_cons_succ, List.set_cons_zero, List.set_cons_succ, asgN, asgSub, setIx, opD, addD, mulD, biD, cmpD, ixD, ixL, lenD, slotSeq, slotLst, truD, List.length_cons, List.length_nil, if_true, if_false, Bool.false_eq_true, reduceIte, mthHR, mthR, mtD, slD, seqOf, wipeE, Tgs.len, Pv.unpack, Option.map_none, Option.bind_none, augD, revD, List.map_cons, List.map_nil, isiD, ty, List.any_cons, List.any_nil, hbm, hbk])
    simp only [forL, e1, e2, Option.bind_eq_bind, Option.bind_some]
theorem deal_big {P : Tb} (a b c d m : Sl) (st : Sto) : ∀ (xs acc : List D), nats xs → nats acc → acc.length + xs.length ≤ 63 → ∃ acc', lcL (evTg P (.n 5)) (evC P (.so law_deal_c1)) (fun ρ st => vv (evE P law_deal_e0 ρ st)) [5] xs acc [a, b, c, d, m, .no] st = some (acc', [a, b, c, d, m, .no], st) ∧ nats acc' ∧ acc'.length ≤ 63
  | [], acc, _, h, hl => ⟨acc, rfl, h, hl⟩
  | x :: xs, acc, hx, h, hl => by
    obtain ⟨i, rfl, hi⟩ := hx x List.mem_cons_self
    rw [List.length_cons] at hl
    have hlt : acc.length < lim := by unfold lim; omega
    have e1 : evTg P (.n 5) (.int i) [a, b, c, d, m, .no] st = some ([a, b, c, d, m, .val (.int i)], st) := by simp [exSs, exS, evE, evEs, evT, Pv.evI, evC, evTg, evTgs, evO, vv, up, one, retE, Option.bind_eq_bind, Option.bind_some, Option.map_some, Option.pure_def, List.getElem?_cons_zero, List.getElem?_cons_succ, List.set_cons_zero, List.set_cons_succ, asgN, asgSub, setIx, opD, addD, mulD, biD, cmpD, ixD, ixL, lenD, slotSeq, slotLst, truD, List.length_cons, List.length_nil, if_true, if_false, Bool.false_eq_true, reduceIte, mthHR, mthR, mtD, slD, seqOf, wipeE, Tgs.len, Pv.unpack, Option.map_none, Option.bind_none, augD, revD, List.map_cons, List.map_nil, isiD, ty, List.any_cons, List.any_nil]
    have e2 : evC P (.so law_deal_c1) [a, b, c, d, m, .val (.int i)] st = some (decide ((1000000000000000000 : Int) ≤ i), [a, b, c, d, m, .val (.int i)], st) := by
      simp [law_deal_c1, exSs, exS, evE, evEs, evT, Pv.evI, evC, evTg, evTgs, evO, vv, up, one, retE, Option.bind_eq_bind, Option.bind_some, Option.map_some, Option.pure_def, List.getElem?_cons_zero, List.getElem?_cons_succ, List.set_cons_zero, List.set_cons_succ, asgN, asgSub, setIx, opD, addD, mulD, biD, cmpD, ixD, ixL, lenD, slotSeq, slotLst, truD, List.length_cons, List.length_nil, if_true, if_false, Bool.false_eq_true, reduceIte, mthHR, mthR, mtD, slD, seqOf, wipeE, Tgs.len, Pv.unpack, Option.map_none, Option.bind_none, augD, revD, List.map_cons, List.map_nil, isiD, ty, List.any_cons, List.any_nil]
    have e3 : vv (evE P law_deal_e0 [a, b, c, d, m, .val (.int i)] st) = some (.int i, [a, b, c, d, m, .val (.int i)], st) := by
      simp [law_deal_e0, exSs, exS, evE, evEs, evT, Pv.evI, evC, evTg, evTgs, evO, vv, up, one, retE, Option.bind_eq_bind, Option.bind_some, Option.map_some, Option.pure_def, List.getElem?_cons_zero, List.getElem?_cons_succ, List.set_cons_zero, List.set_cons_succ, asgN, asgSub, setIx, opD, addD, mulD, biD, cmpD, ixD, ixL, lenD, slotSeq, slotLst, truD, List.length_cons, List.length_nil, if_true, if_false, Bool.false_eq_true, reduceIte, mthHR, mthR, mtD, slD, seqOf, wipeE, Tgs.len, Pv.unpack, Option.map_none, Option.bind_none, augD, revD, List.map_cons, List.map_nil, isiD, ty, List.any_cons, List.any_nil]
    by_cases hc : (1000000000000000000 : Int) ≤ i
    · obtain ⟨acc', e, h1, h2⟩ := deal_big (P := P) a b c d m st xs (acc ++ [.int i]) (fun y hy => hx y (List.mem_cons_of_mem _ hy)) (fun y hy => (List.mem_append.mp hy).elim (h y) fun z => ⟨_, List.mem_singleton.mp z, hi⟩) (by simp; omega)
      refine ⟨acc', ?_, h1, h2⟩
      rw [← e]
      simp only [lcL, e1, e2, e3, decide_eq_true hc, Option.bind_eq_bind, Option.bind_some, if_true, hlt, wipeE, List.set_cons_zero, List.set_cons_succ]
    · obtain ⟨acc', e, h1, h2⟩ := deal_big (P := P) a b c d m st xs acc (fun y hy => hx y (List.mem_cons_of_mem _ hy)) h (by omega)
      refine ⟨acc', ?_, h1, h2⟩
      rw [← e]
      simp only [lcL, e1, e2, decide_eq_false hc, Option.bind_eq_bind, Option.bind_some, Bool.false_eq_true, if_false, wipeE, List.set_cons_zero, List.set_cons_succ]
theorem cut_len (ns : List Int) (h : ns.length ≤ 63) : cutI ns none (some 63) = ns := by
  unfold cutI
  rw [HT.sIx_none, show HT.sIx ns.length ns.length (some 63) = min 63 ns.length from HT.sIx_nat _ _ 63, List.drop_zero, Nat.sub_zero, List.take_of_length_le (by omega)]
theorem deal_ok {P : Tb} (ps : List Str) (hp : ps.length = 2) (ns : List Int) (hl : ns.length ≤ 63) {salt : Int} (h0 : 0 ≤ salt) (h1 : salt < 100000) : ∃ st, runF P ⟨ps, 6, h_deal⟩ [.scr ns, .int salt] [] = some (false, .hd 1, st) ∧ Deal st := by
  obtain ⟨cs, e3, hn, hcl⟩ := deal_cells (P := P) (.val (.scr ns)) (.val (.int salt)) [] (ns.map D.int) [] (fun x hx => by
    obtain ⟨i, _, rfl⟩ := List.mem_map.mp hx; exact ⟨i, rfl⟩) (fun _ h => by cases h) (by simpa using hl)
  obtain ⟨mix, s, e5, m0, m1⟩ := deal_mix (P := P) (.val (.scr ns)) (.val (.int salt)) (.val (.int mostV)) (.val (.lst cs)) [] cs (70001 + 7919 * salt) .no hn (by omega) (by omega)
  obtain ⟨bs, e6, hb, hbl⟩ := deal_big (P := P) (.val (.scr ns)) (.val (.int salt)) (.val (.int mostV)) (.val (.lst cs)) (.val (.int mix)) [] cs [] hn (fun _ h => by cases h) (by simpa using hcl)
  obtain ⟨is, rfl, hi⟩ := nats_map hb
  refine ⟨[is.reverse.map D.int, [.hd 0, .int mix]], ?_, is.reverse, mix, rfl, by simpa using hbl, fun c hc => hi c (by simpa using hc), m0, m1⟩
  have hbs : Big salt := big_small (by omega)
  have hb7 : Big 7919 := by decide
  refine run_rt (ρ1 := [.val (.scr ns), .val (.int salt), .val (.int mostV), .val (.lst cs), .val (.int mix), .no]) (n := 4) (by simp [hp]) (by simp [hp]) ?_
  unfold h_deal
  refine (sq (ρ1 := [.val (.scr ns), .val (.int salt), .val (.int mostV), .no, .no, .no]) (st1 := []) rfl).trans ?_
  have l1 : evE P (.lc law_deal_e3 (.n 5) (.val (.sl (.v 0) .no (.so (.k (.int 63))))) .no [("cell", 5)]) [.val (.scr ns), .val (.int salt), .val (.int mostV), .no, .no, .no] [] = some (true, .lst cs, [.val (.scr ns), .val (.int salt), .val (.int mostV), .no, .no, .no], []) :=
    ev_lc (xs := ns.map D.int) (ρ1 := [.val (.scr ns), .val (.int salt), .val (.int mostV), .no, .no, .no]) (st1 := []) (by simp [exSs, exS, evE, evEs, evT, Pv.evI, evC, evTg, evTgs, evO, vv, up, one, retE, Option.bind_eq_bind, Option.bind_some, Option.map_some, Option.pure_def, List.getElem?_cons_zero, List.getElem?_cons_succ, List.set_cons_zero, List.set_cons_succ, asgN, asgSub, setIx, opD, addD, mulD, biD, cmpD, ixD, ixL, lenD, slotSeq, slotLst, truD, List.length_cons, List.length_nil, if_true, if_false, Bool.false_eq_true, reduceIte, mthHR, mthR, mtD, slD, seqOf, wipeE, Tgs.len, Pv.unpack, Option.map_none, Option.bind_none, augD, revD, List.map_cons, List.map_nil, isiD, ty, List.any_cons, List.any_nil, cut_len ns hl]) e3
  generalize E.lc law_deal_e3 _ _ _ _ = LC at l1 ⊢
  refine (sq (ρ1 := [.val (.scr ns), .val (.int salt), .val (.int mostV), .own cs, .no, .no]) (st1 := []) (by simp [exSs, exS, evE, evEs, evT, Pv.evI, evC, evTg, evTgs, evO, vv, up, one, retE, Option.bind_eq_bind, Option.bind_some, Option.map_some, Option.pure_def, List.getElem?_cons_zero, List.getElem?_cons_succ, List.set_cons_zero, List.set_cons_succ, asgN, asgSub, setIx, opD, addD, mulD, biD, cmpD, ixD, ixL, lenD, slotSeq, slotLst, truD, List.length_cons, List.length_nil, if_true, if_false, Bool.false_eq_true, reduceIte, mthHR, mthR, mtD, slD, seqOf, wipeE, Tgs.len, Pv.unpack, Option.map_none, Option.bind_none, augD, revD, List.map_cons, List.map_nil, isiD, ty, List.any_cons, List.any_nil, l1])).trans ?_
  refine (sq (ρ1 := [.val (.scr ns), .val (.int salt), .val (.int mostV), .own cs, .val (.int (70001 + 7919 * salt)), .no]) (st1 := []) (by simp [exSs, exS, evE, evEs, evT, Pv.evI, evC, evTg, evTgs, evO, vv, up, one, retE, Option.bind_eq_bind, Option.bind_some, Option.map_some, Option.pure_def, List.getElem?_cons_zero, List.getElem?_cons_succ, List.set_cons_zero, List.set_cons_succ, asgN, asgSub, setIx, opD, addD, mulD, biD, cmpD, ixD, ixL, lenD, slotSeq, slotLst, truD, List.length_cons, List.length_nil, if_true, if_false, Bool.false_eq_true, reduceIte, mthHR, mthR, mtD, slD, seqOf, wipeE, Tgs.len, Pv.unpack, Option.map_none, Option.bind_none, augD, revD, List.map_cons, List.map_nil, isiD, ty, List.any_cons, List.any_nil, hbs, hb7])).trans ?_
  refine (sq (ex_for (xs := cs) (ρ1 := [.val (.scr ns), .val (.int salt), .val (.int mostV), .val (.lst cs), .val (.int (70001 + 7919 * salt)), .no]) (st1 := []) (by simp [exSs, exS, evE, evEs, evT, Pv.evI, evC, evTg, evTgs, evO, vv, up, one, retE, Option.bind_eq_bind, Option.bind_some, Option.map_some, Option.pure_def, List.getElem?_cons_zero, List.getElem?_cons_succ, List.set_cons_zero, List.set_cons_succ, asgN, asgSub, setIx, opD, addD, mulD, biD, cmpD, ixD, ixL, lenD, slotSeq, slotLst, truD, List.length_cons, List.length_nil, if_true, if_false, Bool.false_eq_true, reduceIte, mthHR, mthR, mtD, slD, seqOf, wipeE, Tgs.len, Pv.unpack, Option.map_none, Option.bind_none, augD, revD, List.map_cons, List.map_nil, isiD, ty, List.any_cons, List.any_nil]) e5)).trans ?_
  have l2 : evE P (.lc law_deal_e0 (.n 5) (.val (.v 3)) (.so law_deal_c1) [("cell", 5)]) [.val (.scr ns), .val (.int salt), .val (.int mostV), .val (.lst cs), .val (.int mix), s] [] = some (true, .lst (is.map D.int), [.val (.scr ns), .val (.int salt), .val (.int mostV), .val (.lst cs), .val (.int mix), .no], []) :=
    ev_lc (xs := cs) (ρ1 := [.val (.scr ns), .val (.int salt), .val (.int mostV), .val (.lst cs), .val (.int mix), s]) (st1 := []) (by simp [exSs, exS, evE, evEs, evT, Pv.evI, evC, evTg, evTgs, evO, vv, up, one, retE, Option.bind_eq_bind, Option.bind_some, Option.map_some, Option.pure_def, List.getElem?_cons_zero, List.getElem?_cons_succ, List.set_cons_zero, List.set_cons_succ, asgN, asgSub, setIx, opD, addD, mulD, biD, cmpD, ixD, ixL, lenD, slotSeq, slotLst, truD, List.length_cons, List.length_nil, if_true, if_false, Bool.false_eq_true, reduceIte, mthHR, mthR, mtD, slD, seqOf, wipeE, Tgs.len, Pv.unpack, Option.map_none, Option.bind_none, augD, revD, List.map_cons, List.map_nil, isiD, ty, List.any_cons, List.any_nil]) e6
  generalize E.lc law_deal_e0 _ _ _ _ = LC2 at l2 ⊢
  exact sqr (by simp [exSs, exS, evE, evEs, evT, Pv.evI, evC, evTg, evTgs, evO, vv, up, one, retE, Option.bind_eq_bind, Option.bind_some, Option.map_some, Option.pure_def, List.getElem?_cons_zero, List.getElem?_cons_succ, List.set_cons_zero, List.set_cons_succ, asgN, asgSub, setIx, opD, addD, mulD, biD, cmpD, ixD, ixL, lenD, slotSeq, slotLst, truD, List.length_cons, List.length_nil, if_true, if_false, Bool.false_eq_true, reduceIte, mthHR, mthR, mtD, slD, seqOf, wipeE, Tgs.len, Pv.unpack, Option.map_none, Option.bind_none, augD, revD, List.map_cons, List.map_nil, isiD, ty, List.any_cons, List.any_nil, l2, show (2 : Nat) ≤ lim by decide])
theorem call_of {ds : List DefT} {cs : List (Str × D)} {k : Nat} {d : DefT} (nd : (ds.map (·.nm)).Nodup) (h : d ∈ ds) : callN (progOf ds) (gOf cs) (k + 1) d.nm = runF ⟨callN (progOf ds) (gOf cs) k, gOf cs⟩ ⟨d.ps, d.N.length, d.body⟩ := by
  have pd : progOf ds d.nm = some ⟨d.ps, d.N.length, d.body⟩ := by unfold progOf; rw [find_def nd h]; rfl
  funext args st
  simp only [callN, pd]
end Pv

namespace Lk68
open PySem PySem.Spec PyProof.Rows L2 Pv
abbrev topS (j : Nat) : Stmt := PySem.Challenge.pw_liarschange_k68_sums_of_octets_by_closed.main.body.getD j (.Pass ⟨0, 0, 0, 0⟩)
def octets_of_number_c0 : Cn := (.e (.cmp .GtE (.v 2) (.g "BASE")))
def octets_of_number_b1 : Ss := (.cons
  (.ex (.mth .append 1 (.cons (.op .Add (.g "BASE") (.op .Mod (.v 2) (.g "BASE"))) .nil))) (.cons
  (.asg 2 (.op .FloorDiv (.v 2) (.g "BASE"))) .nil))
def b_octets_of_number : Ss := (.cons
  (.asg 1 (.lst .nil)) (.cons
  (.asg 2 (.v 0)) (.cons
  (.whl octets_of_number_c0 octets_of_number_b1) (.cons
  (.ex (.mth .append 1 (.cons (.v 2) .nil))) (.cons
  (.ret (.bi .tuple (.cons (.v 1) .nil))) .nil)))))
def d_octets_of_number : DefT := ⟨"octets_of_number", topS 4, ["number"], ["number", "found", "rest"], b_octets_of_number⟩
def b_number_octets : Ss := (.cons
  (.ret (.call "octets_of_number" (.cons (.v 0) .nil))) .nil)
def d_number_octets : DefT := ⟨"number_octets", topS 5, ["number"], ["number"], b_number_octets⟩
def sum_of_octets_b0 : Ss := (.cons
  (.aug 1 .Add (.op .Mult (.op .Add (.v 2) (.k (.int 1))) (.v 3))) .nil)
def b_sum_of_octets : Ss := (.cons
  (.asg 1 (.k (.int 0))) (.cons
  (.for_ (.tup (.cons (.n 2) (.cons (.n 3) .nil))) (.enum (.v 0)) sum_of_octets_b0) (.cons
  (.ret (.op .Mod (.v 1) (.g "PRIME"))) .nil)))
def d_sum_of_octets : DefT := ⟨"sum_of_octets", topS 6, ["octets"], ["octets", "found", "at", "octet"], b_sum_of_octets⟩
def b_sum_pair : Ss := (.cons
  (.asg 1 (.call "sum_of_octets" (.cons (.v 0) .nil))) (.cons
  (.ret (.tup (.cons (.op .Mod (.v 1) (.g "OCTET")) (.cons (.op .FloorDiv (.v 1) (.g "OCTET")) .nil)))) .nil))
def d_sum_pair : DefT := ⟨"sum_pair", topS 7, ["body"], ["body", "found"], b_sum_pair⟩
def b_frame : Ss := (.cons
  (.ret (.op .Add (.op .Add (.call "number_octets" (.cons (.lenv 0) .nil)) (.bi .tuple (.cons (.v 0) .nil))) (.call "sum_pair" (.cons (.v 0) .nil)))) .nil)
def d_frame : DefT := ⟨"frame", topS 8, ["body"], ["body"], b_frame⟩
def law_deal_e0 : E := (.v 5)
def law_deal_c1 : Cn := (.e (.cmp .GtE (.v 5) (.op .Pow (.k (.int 10)) (.k (.int 18)))))
def law_deal_b2 : Ss := (.cons
  (.asg 4 (.op .Mod (.bi .int (.cons (.op .Add (.op .Add (.op .Mult (.v 4) (.k (.int 69621))) (.op .Mod (.bi .int (.cons (.v 5) .nil)) (.k (.int 2147483563)))) (.k (.int 23))) .nil)) (.k (.int 2147483647)))) .nil)
def law_deal_e3 : E := (.op .Mod (.bi .int (.cons (.bi .abs (.cons (.bi .int (.cons (.v 5) .nil)) .nil)) .nil)) (.v 2))
def b_law_deal : Ss := (.cons
  (.asg 2 (.op .Mult (.op .Mult (.op .Mult (.op .Mult (.op .Mult (.op .Pow (.k (.int 10)) (.k (.int 64))) (.op .Pow (.k (.int 10)) (.k (.int 64)))) (.op .Pow (.k (.int 10)) (.k (.int 64)))) (.op .Pow (.k (.int 10)) (.k (.int 64)))) (.op .Pow (.k (.int 10)) (.k (.int 64)))) (.op .Pow (.k (.int 10)) (.k (.int 64))))) (.cons
  (.asg 3 (.lc law_deal_e3 (.n 5) (.val (.sl (.v 0) .no (.so (.k (.int 63))))) .no [("cell", 5)])) (.cons
  (.asg 4 (.op .Add (.k (.int 70001)) (.op .Mult (.k (.int 7919)) (.v 1)))) (.cons
  (.for_ (.n 5) (.val (.v 3)) law_deal_b2) (.cons
  (.ret (.share (.lst (.cons (.share (.slr (.lc law_deal_e0 (.n 5) (.val (.v 3)) (.so law_deal_c1) [("cell", 5)]))) (.cons (.v 4) .nil))))) .nil)))))
def d_law_deal : DefT := ⟨"_law_deal", topS 10, ["script", "salt"], ["script", "salt", "most", "cells", "mix", "cell"], b_law_deal⟩
def law_any_c0 : Cn := (.an (.e (.cmp .Gt (.bi .len (.cons (.ixv 0 (.k (.int 0))) .nil)) (.k (.int 0)))) (.e (.cmp .Eq (.ix (.ixv 0 (.k (.int 0))) (.neg (.k (.int 1)))) (.k (.int 0)))))
def law_any_b1 : Ss := (.cons
  (.ex (.mthH .pop (.ixv 0 (.k (.int 0))) .nil)) .nil)
def b_law_any : Ss := (.cons
  (.whl law_any_c0 law_any_b1) (.cons
  (.ite (.e (.cmp .Gt (.bi .len (.cons (.ixv 0 (.k (.int 0))) .nil)) (.k (.int 0)))) (.cons
  (.asg 2 (.bi .int (.cons (.mthH .pop (.ixv 0 (.k (.int 0))) .nil) .nil))) (.cons
  (.ex (.mthH .append (.ixv 0 (.k (.int 0))) (.cons (.op .FloorDiv (.v 2) (.v 1)) .nil))) (.cons
  (.ret (.op .Mod (.v 2) (.v 1))) .nil))) .nil) (.cons
  (.asgT (.sub 0 (.k (.int 1))) (.op .Mod (.bi .int (.cons (.op .Add (.op .Mult (.ixv 0 (.k (.int 1))) (.k (.int 48271))) (.k (.int 31))) .nil)) (.k (.int 2147483647)))) (.cons
  (.ret (.op .Mod (.bi .int (.cons (.op .FloorDiv (.ixv 0 (.k (.int 1))) (.k (.int 64))) .nil)) (.v 1))) .nil))))
def d_law_any : DefT := ⟨"_law_any", topS 11, ["deal", "bound"], ["deal", "bound", "rest"], b_law_any⟩
def b_law_of : Ss := (.cons
  (.ret (.ixv 1 (.call "_law_any" (.cons (.v 0) (.cons (.lenv 1) .nil))))) .nil)
def d_law_of : DefT := ⟨"_law_of", topS 12, ["deal", "some"], ["deal", "some"], b_law_of⟩
def b_law_is_kind : Ss := (.cons
  (.ite (.e (.cmp .Is (.v 1) (.k .non))) (.cons
  (.ret (.cmp .Is (.v 0) (.k .non))) .nil) .nil) (.cons
  (.ite (.or (.e (.cmp .Is (.v 1) (.k (.bl true)))) (.e (.cmp .Is (.v 1) (.k (.bl false))))) (.cons
  (.ret (.ite (.e (.v 1)) (.cmp .Is (.v 0) (.k (.bl true))) (.cmp .Is (.v 0) (.k (.bl false))))) .nil) .nil) (.cons
  (.ite (.e (.isi (.v 1) ["str"] false)) (.cons
  (.ret (.an (.isi (.v 0) ["str"] false) (.cmp .Eq (.v 0) (.v 1)))) .nil) .nil) (.cons
  (.ret (.an (.isi (.v 0) ["int"] false) (.an (.nt (.isi (.v 0) ["bool"] false)) (.cmp .Eq (.v 0) (.v 1))))) .nil))))
def d_law_is_kind : DefT := ⟨"_law_is_kind", topS 13, ["told", "due"], ["told", "due"], b_law_is_kind⟩
def law_same_c0 : Cn := (.e (.cmp .Gt (.lenv 2) (.k (.int 0))))
def law_same_b1 : Ss := (.cons
  (.ex (.mth .append 2 (.cons (.tup (.cons (.ixv 3 (.v 5)) (.cons (.ixv 4 (.v 5)) .nil))) .nil))) .nil)
def law_same_b2 : Ss := (.cons
  (.asgT (.tup (.cons (.n 3) (.cons (.n 4) .nil))) (.mth .pop 2 .nil)) (.cons
  (.ite (.e (.isi (.v 4) ["tuple"] false)) (.cons
  (.ite (.or (.nt (.e (.isi (.v 3) ["tuple"] false))) (.e (.cmp .NotEq (.lenv 3) (.lenv 4)))) (.cons
  (.ret (.k (.bl false))) .nil) .nil) (.cons
  (.for_ (.n 5) (.rng (.cons (.lenv 4) .nil)) law_same_b1) .nil)) (.cons
  (.ite (.or (.e (.isi (.v 3) ["tuple", "list", "dict"] true)) (.nt (.e (.call "_law_is_kind" (.cons (.v 3) (.cons (.v 4) .nil)))))) (.cons
  (.ret (.k (.bl false))) .nil) .nil) .nil)) .nil))
def b_law_same : Ss := (.cons
  (.asg 2 (.lst (.cons (.tup (.cons (.v 0) (.cons (.v 1) .nil))) .nil))) (.cons
  (.whl law_same_c0 law_same_b2) (.cons
  (.ret (.k (.bl true))) .nil)))
def d_law_same : DefT := ⟨"_law_same", topS 14, ["told", "due"], ["told", "due", "todo", "one", "other", "at"], b_law_same⟩
def law_all_e0 : E := (.v 1)
def law_all_c1 : Cn := (.nt (.e (.call "_law_same" (.cons (.v 1) (.cons (.v 2) .nil)))))
def b_law_all : Ss := (.cons
  (.ret (.cmp .Eq (.bi .len (.cons (.lc law_all_e0 (.tup (.cons (.n 1) (.cons (.n 2) .nil))) (.val (.v 0)) (.so law_all_c1) [("told", 1), ("due", 2)]) .nil)) (.k (.int 0)))) .nil)
def d_law_all : DefT := ⟨"_law_all", topS 15, ["pairs"], ["pairs", "told", "due"], b_law_all⟩
def b_law_number_octets : Ss := (.cons
  (.ite (.e (.cmp .Lt (.v 0) (.k (.int 128)))) (.cons
  (.ret (.tup (.cons (.v 0) .nil))) .nil) .nil) (.cons
  (.ite (.e (.cmp .Lt (.v 0) (.k (.int 16384)))) (.cons
  (.ret (.tup (.cons (.op .Add (.k (.int 128)) (.op .Mod (.bi .int (.cons (.v 0) .nil)) (.k (.int 128)))) (.cons (.op .FloorDiv (.v 0) (.k (.int 128))) .nil)))) .nil) .nil) (.cons
  (.ret (.tup (.cons (.op .Add (.k (.int 128)) (.op .Mod (.bi .int (.cons (.v 0) .nil)) (.k (.int 128)))) (.cons (.op .Add (.k (.int 128)) (.op .Mod (.bi .int (.cons (.op .FloorDiv (.v 0) (.k (.int 128))) .nil)) (.k (.int 128)))) (.cons (.op .FloorDiv (.v 0) (.k (.int 16384))) .nil))))) .nil)))
def d_law_number_octets : DefT := ⟨"_law_number_octets", topS 16, ["number"], ["number"], b_law_number_octets⟩
def law_weigh_e0 : E := (.op .Mult (.op .Add (.v 1) (.k (.int 1))) (.v 2))
def b_law_weigh : Ss := (.cons
  (.ret (.bi .sum (.cons (.lc law_weigh_e0 (.tup (.cons (.n 1) (.cons (.n 2) .nil))) (.enum (.v 0)) .no [("at", 1), ("octet", 2)]) .nil))) .nil)
def d_law_weigh : DefT := ⟨"_law_weigh", topS 17, ["octets"], ["octets", "at", "octet"], b_law_weigh⟩
def b_law_rest : Ss := (.cons
  (.ret (.op .Mod (.bi .int (.cons (.v 0) .nil)) (.k (.int 65521)))) .nil)
def d_law_rest : DefT := ⟨"_law_rest", topS 18, ["number"], ["number"], b_law_rest⟩
def b_law_frame_pairs : Ss := (.cons
  (.par2 2 3 (.call "frame" (.cons (.v 0) .nil)) (.lenv 0)) (.cons
  (.par2 4 5 (.op .Mod (.bi .int (.cons (.call "_law_rest" (.cons (.v 1) .nil)) .nil)) (.k (.int 256))) (.op .FloorDiv (.call "_law_rest" (.cons (.v 1) .nil)) (.k (.int 256)))) (.cons
  (.asg 6 (.call "_law_number_octets" (.cons (.v 3) .nil))) (.cons
  (.ret (.lst (.cons (.tup (.cons (.v 2) (.cons (.op .Add (.op .Add (.v 6) (.bi .tuple (.cons (.v 0) .nil))) (.tup (.cons (.v 4) (.cons (.v 5) .nil)))) .nil))) (.cons (.tup (.cons (.lenv 2) (.cons (.op .Add (.op .Add (.v 3) (.lenv 6)) (.k (.int 2))) .nil))) .nil)))) .nil))))
def d_law_frame_pairs : DefT := ⟨"_law_frame_pairs", topS 19, ["body", "weighed"], ["body", "weighed", "told", "many", "lower", "upper", "head"], b_law_frame_pairs⟩
def law_e0 : E := (.call "_law_any" (.cons (.v 1) (.cons (.k (.int 256)) .nil)))
def law_e1 : E := (.call "_law_any" (.cons (.v 1) (.cons (.k (.int 256)) .nil)))
def law_b2 : Ss := (.cons
  (.asg 12 (.bi .tuple (.cons (.lc law_e1 (.n 19) (.rng (.cons (.op .Add (.k (.int 1)) (.call "_law_any" (.cons (.v 1) (.cons (.k (.int 60)) .nil)))) .nil)) .no [("at", 19)]) .nil))) (.cons
  (.asg 13 (.bi .tuple (.cons (.lc law_e0 (.n 19) (.rng (.cons (.call "_law_any" (.cons (.v 1) (.cons (.k (.int 60)) .nil))) .nil)) .no [("at", 19)]) .nil))) (.cons
  (.asg 14 (.op .Add (.op .Add (.call "_law_weigh" (.cons (.v 12) .nil)) (.call "_law_weigh" (.cons (.v 13) .nil))) (.op .Mult (.lenv 12) (.bi .sum (.cons (.v 13) .nil))))) (.cons
  (.asg 2 (.op .Add (.v 2) (.lst (.cons (.tup (.cons (.call "sum_of_octets" (.cons (.v 12) .nil)) (.cons (.call "_law_rest" (.cons (.call "_law_weigh" (.cons (.v 12) .nil)) .nil)) .nil))) (.cons (.tup (.cons (.call "sum_of_octets" (.cons (.op .Add (.v 12) (.v 13)) .nil)) (.cons (.call "_law_rest" (.cons (.v 14) .nil)) .nil))) .nil))))) (.cons
  (.ex (.mth .append 2 (.cons (.tup (.cons (.call "sum_of_octets" (.cons (.slr (.v 12)) .nil)) (.cons (.call "_law_rest" (.cons (.op .Sub (.op .Mult (.op .Add (.lenv 12) (.k (.int 1))) (.bi .sum (.cons (.v 12) .nil))) (.call "_law_weigh" (.cons (.v 12) .nil))) .nil)) .nil))) .nil))) (.cons
  (.par2 15 16 (.call "_law_any" (.cons (.v 1) (.cons (.lenv 12) .nil))) (.call "_law_any" (.cons (.v 1) (.cons (.lenv 12) .nil)))) (.cons
  (.asg 17 (.bi .list (.cons (.v 12) .nil))) (.cons
  (.asgT (.tup (.cons (.sub 17 (.v 15)) (.cons (.sub 17 (.v 16)) .nil))) (.tup (.cons (.ixv 12 (.v 16)) (.cons (.ixv 12 (.v 15)) .nil)))) (.cons
  (.ex (.mth .append 2 (.cons (.tup (.cons (.call "sum_of_octets" (.cons (.bi .tuple (.cons (.v 17) .nil)) .nil)) (.cons (.call "_law_rest" (.cons (.op .Add (.call "_law_weigh" (.cons (.v 12) .nil)) (.op .Mult (.op .Sub (.v 15) (.v 16)) (.op .Sub (.ixv 12 (.v 16)) (.ixv 12 (.v 15))))) .nil)) .nil))) .nil))) (.cons
  (.asg 2 (.op .Add (.v 2) (.call "_law_frame_pairs" (.cons (.op .Add (.v 12) (.v 13)) (.cons (.v 14) .nil))))) .nil))))))))))
def law_b3 : Ss := (.cons
  (.par2 8 9 (.op .Add (.k (.int 1)) (.call "_law_any" (.cons (.v 1) (.cons (.k (.int 256)) .nil)))) (.op .Add (.k (.int 1)) (.call "_law_any" (.cons (.v 1) (.cons (.k (.int 9)) .nil))))) (.cons
  (.par2 10 11 (.op .FloorDiv (.op .Mult (.op .Mult (.op .Sub (.v 8) (.k (.int 1))) (.v 8)) (.op .Add (.v 8) (.k (.int 1)))) (.k (.int 3))) (.op .FloorDiv (.op .Mult (.v 8) (.op .Sub (.v 8) (.k (.int 1)))) (.k (.int 2)))) (.cons
  (.asg 6 (.op .Add (.op .Mult (.v 9) (.v 10)) (.op .Mult (.op .Mult (.v 8) (.v 11)) (.op .FloorDiv (.op .Mult (.v 9) (.op .Sub (.v 9) (.k (.int 1)))) (.k (.int 2)))))) (.cons
  (.ex (.mth .append 2 (.cons (.tup (.cons (.call "sum_of_octets" (.cons (.trng (.cons (.v 8) .nil)) .nil)) (.cons (.call "_law_rest" (.cons (.v 10) .nil)) .nil))) .nil))) (.cons
  (.ex (.mth .append 2 (.cons (.tup (.cons (.callk "sum_of_octets" .nil ["octets"] (.cons (.op .Mult (.trng (.cons (.v 8) .nil)) (.v 9)) .nil) [0]) (.cons (.call "_law_rest" (.cons (.v 6) .nil)) .nil))) .nil))) (.cons
  (.asg 2 (.op .Add (.v 2) (.call "_law_frame_pairs" (.cons (.op .Mult (.trng (.cons (.v 8) .nil)) (.v 9)) (.cons (.v 6) .nil))))) .nil))))))
def law_b4 : Ss := (.cons
  (.par2 4 5 (.op .Add (.k (.int 1)) (.call "_law_any" (.cons (.v 1) (.cons (.v 3) .nil)))) (.call "_law_of" (.cons (.v 1) (.cons (.lst (.cons (.k (.int 0)) (.cons (.k (.int 1)) (.cons (.k (.int 255)) (.cons (.call "_law_any" (.cons (.v 1) (.cons (.k (.int 256)) .nil))) .nil))))) .nil)))) (.cons
  (.asg 6 (.op .Mult (.v 5) (.op .FloorDiv (.op .Mult (.v 4) (.op .Add (.v 4) (.k (.int 1)))) (.k (.int 2))))) (.cons
  (.ex (.mth .append 2 (.cons (.tup (.cons (.call "sum_of_octets" (.cons (.op .Mult (.tup (.cons (.v 5) .nil)) (.v 4)) .nil)) (.cons (.call "_law_rest" (.cons (.v 6) .nil)) .nil))) .nil))) (.cons
  (.asg 2 (.op .Add (.v 2) (.call "_law_frame_pairs" (.cons (.op .Mult (.tup (.cons (.v 5) .nil)) (.v 4)) (.cons (.v 6) .nil))))) .nil))))
def b_law : Ss := (.cons
  (.par2 1 2 (.call "_law_deal" (.cons (.v 0) (.cons (.k (.int 6868)) .nil))) (.lst .nil)) (.cons
  (.for_ (.n 3) (.val (.lst (.cons (.k (.int 9)) (.cons (.k (.int 130)) (.cons (.k (.int 700)) (.cons (.k (.int 4000)) .nil)))))) law_b4) (.cons
  (.for_ (.n 7) (.rng (.cons (.k (.int 4)) .nil)) law_b3) (.cons
  (.for_ (.n 7) (.rng (.cons (.k (.int 5)) .nil)) law_b2) (.cons
  (.asg 18 (.op .Mult (.tup (.cons (.k (.int 0)) .nil)) (.k (.int 254)))) (.cons
  (.asg 2 (.op .Add (.v 2) (.lst (.cons (.tup (.cons (.call "sum_of_octets" (.cons (.tup .nil) .nil)) (.cons (.k (.int 0)) .nil))) (.cons (.tup (.cons (.call "frame" (.cons (.tup .nil) .nil)) (.cons (.tup (.cons (.k (.int 0)) (.cons (.k (.int 0)) (.cons (.k (.int 0)) .nil)))) .nil))) (.cons (.tup (.cons (.call "sum_of_octets" (.cons (.op .Add (.op .Add (.tup (.cons (.k (.int 241)) .nil)) (.v 18)) (.tup (.cons (.k (.int 255)) .nil))) .nil)) (.cons (.k (.int 0)) .nil))) .nil)))))) (.cons
  (.asg 2 (.op .Add (.v 2) (.lst (.cons (.tup (.cons (.call "sum_of_octets" (.cons (.op .Add (.op .Add (.tup (.cons (.k (.int 240)) .nil)) (.v 18)) (.tup (.cons (.k (.int 255)) .nil))) .nil)) (.cons (.k (.int 65520)) .nil))) (.cons (.tup (.cons (.call "sum_of_octets" (.cons (.op .Add (.op .Add (.tup (.cons (.k (.int 242)) .nil)) (.v 18)) (.tup (.cons (.k (.int 255)) .nil))) .nil)) (.cons (.k (.int 1)) .nil))) .nil))))) (.cons
  (.asg 2 (.op .Add (.v 2) (.lst (.cons (.tup (.cons (.sl (.call "frame" (.cons (.op .Add (.op .Add (.tup (.cons (.k (.int 241)) .nil)) (.v 18)) (.tup (.cons (.k (.int 255)) .nil))) .nil)) .no (.so (.k (.int 2)))) (.cons (.tup (.cons (.k (.int 128)) (.cons (.k (.int 2)) .nil))) .nil))) (.cons (.tup (.cons (.sl (.call "frame" (.cons (.op .Add (.op .Add (.tup (.cons (.k (.int 240)) .nil)) (.v 18)) (.tup (.cons (.k (.int 255)) .nil))) .nil)) (.so (.neg (.k (.int 2)))) .no) (.cons (.tup (.cons (.k (.int 240)) (.cons (.k (.int 255)) .nil))) .nil))) .nil))))) (.cons
  (.ret (.call "_law_all" (.cons (.op .Add (.v 2) (.lst (.cons (.tup (.cons (.call "frame" (.cons (.tup (.cons (.k (.int 5)) (.cons (.k (.int 6)) .nil))) .nil)) (.cons (.tup (.cons (.k (.int 2)) (.cons (.k (.int 5)) (.cons (.k (.int 6)) (.cons (.k (.int 17)) (.cons (.k (.int 0)) .nil)))))) .nil))) (.cons (.tup (.cons (.call "sum_of_octets" (.cons (.tup (.cons (.k (.int 0)) (.cons (.k (.int 0)) (.cons (.k (.int 9)) .nil)))) .nil)) (.cons (.k (.int 27)) .nil))) .nil)))) .nil))) .nil)))))))))
def d_law : DefT := ⟨"law", topS 20, ["script"], ["script", "deal", "pairs", "most", "many", "octet", "weighed", "turn", "wide", "rounds", "once", "total", "one", "other", "both", "low", "high", "late", "gap", "at"], b_law⟩
def ds : List DefT := [d_octets_of_number, d_number_octets, d_sum_of_octets, d_sum_pair, d_frame, d_law_deal, d_law_any, d_law_of, d_law_is_kind, d_law_same, d_law_all, d_law_number_octets, d_law_weigh, d_law_rest, d_law_frame_pairs, d_law]
def cs : List (Str × D) := [("BASE", (.int 128)), ("OCTET", (.int 256)), ("PRIME", (.int 65521))]
def ks : List KW := [("sum_of_octets", 0, ["octets"], [0])]
abbrev Fc (k : Nat) : Str → List D → Sto → Option (Bool × D × Sto) := callN (progOf ds) (gOf cs) k
theorem nd_all : (ds.map (·.nm)).Nodup := by decide +kernel
theorem q_octets_of_number (k : Nat) : Fc (k + 1) "octets_of_number" = runF ⟨Fc k, gOf cs⟩ ⟨["number"], 3, b_octets_of_number⟩ := call_of nd_all (d := d_octets_of_number) (List.mem_of_getElem? (i := 0) rfl)
theorem q_number_octets (k : Nat) : Fc (k + 1) "number_octets" = runF ⟨Fc k, gOf cs⟩ ⟨["number"], 1, b_number_octets⟩ := call_of nd_all (d := d_number_octets) (List.mem_of_getElem? (i := 1) rfl)
theorem q_sum_of_octets (k : Nat) : Fc (k + 1) "sum_of_octets" = runF ⟨Fc k, gOf cs⟩ ⟨["octets"], 4, b_sum_of_octets⟩ := call_of nd_all (d := d_sum_of_octets) (List.mem_of_getElem? (i := 2) rfl)
theorem q_sum_pair (k : Nat) : Fc (k + 1) "sum_pair" = runF ⟨Fc k, gOf cs⟩ ⟨["body"], 2, b_sum_pair⟩ := call_of nd_all (d := d_sum_pair) (List.mem_of_getElem? (i := 3) rfl)
theorem q_frame (k : Nat) : Fc (k + 1) "frame" = runF ⟨Fc k, gOf cs⟩ ⟨["body"], 1, b_frame⟩ := call_of nd_all (d := d_frame) (List.mem_of_getElem? (i := 4) rfl)
theorem q_law_deal (k : Nat) : Fc (k + 1) "_law_deal" = runF ⟨Fc k, gOf cs⟩ ⟨["script", "salt"], 6, b_law_deal⟩ := call_of nd_all (d := d_law_deal) (List.mem_of_getElem? (i := 5) rfl)
theorem q_law_any (k : Nat) : Fc (k + 1) "_law_any" = runF ⟨Fc k, gOf cs⟩ ⟨["deal", "bound"], 3, b_law_any⟩ := call_of nd_all (d := d_law_any) (List.mem_of_getElem? (i := 6) rfl)
theorem q_law_of (k : Nat) : Fc (k + 1) "_law_of" = runF ⟨Fc k, gOf cs⟩ ⟨["deal", "some"], 2, b_law_of⟩ := call_of nd_all (d := d_law_of) (List.mem_of_getElem? (i := 7) rfl)
theorem q_law_is_kind (k : Nat) : Fc (k + 1) "_law_is_kind" = runF ⟨Fc k, gOf cs⟩ ⟨["told", "due"], 2, b_law_is_kind⟩ := call_of nd_all (d := d_law_is_kind) (List.mem_of_getElem? (i := 8) rfl)
theorem q_law_same (k : Nat) : Fc (k + 1) "_law_same" = runF ⟨Fc k, gOf cs⟩ ⟨["told", "due"], 6, b_law_same⟩ := call_of nd_all (d := d_law_same) (List.mem_of_getElem? (i := 9) rfl)
theorem q_law_all (k : Nat) : Fc (k + 1) "_law_all" = runF ⟨Fc k, gOf cs⟩ ⟨["pairs"], 3, b_law_all⟩ := call_of nd_all (d := d_law_all) (List.mem_of_getElem? (i := 10) rfl)
theorem q_law_number_octets (k : Nat) : Fc (k + 1) "_law_number_octets" = runF ⟨Fc k, gOf cs⟩ ⟨["number"], 1, b_law_number_octets⟩ := call_of nd_all (d := d_law_number_octets) (List.mem_of_getElem? (i := 11) rfl)
theorem q_law_weigh (k : Nat) : Fc (k + 1) "_law_weigh" = runF ⟨Fc k, gOf cs⟩ ⟨["octets"], 3, b_law_weigh⟩ := call_of nd_all (d := d_law_weigh) (List.mem_of_getElem? (i := 12) rfl)
theorem q_law_rest (k : Nat) : Fc (k + 1) "_law_rest" = runF ⟨Fc k, gOf cs⟩ ⟨["number"], 1, b_law_rest⟩ := call_of nd_all (d := d_law_rest) (List.mem_of_getElem? (i := 13) rfl)
theorem q_law_frame_pairs (k : Nat) : Fc (k + 1) "_law_frame_pairs" = runF ⟨Fc k, gOf cs⟩ ⟨["body", "weighed"], 7, b_law_frame_pairs⟩ := call_of nd_all (d := d_law_frame_pairs) (List.mem_of_getElem? (i := 14) rfl)
theorem q_law (k : Nat) : Fc (k + 1) "law" = runF ⟨Fc k, gOf cs⟩ ⟨["script"], 20, b_law⟩ := call_of nd_all (d := d_law) (List.mem_of_getElem? (i := 15) rfl)
end Lk68

namespace Lk68
open PySem PySem.Spec PyProof.Rows L2 Pv
abbrev T (k : Nat) : Tb := ⟨Fc k, gOf cs⟩
theorem base_g : gOf cs "BASE" = some (.int 128) := rfl
theorem octet_g : gOf cs "OCTET" = some (.int 256) := rfl
theorem prime_g : gOf cs "PRIME" = some (.int 65521) := rfl
def valI : List Int → Int
  | [] => 0
  | f :: r => f + 128 * valI r
def figs (fs : List Int) : Prop := ∀ f ∈ fs, 0 ≤ f ∧ f < 128
theorem figs.tail {f : Int} {r : List Int} (h : figs (f :: r)) : figs r := fun x hx => h x (List.mem_cons_of_mem _ hx)
theorem figs.head {f : Int} {r : List Int} (h : figs (f :: r)) : 0 ≤ f ∧ f < 128 := h f List.mem_cons_self
theorem valI_nn : ∀ {fs : List Int}, figs fs → 0 ≤ valI fs
  | [], _ => Int.le_refl _
  | f :: r, h => by have := valI_nn h.tail; have := h.head; simp only [valI]; omega
theorem valI_pos {y : Int} (hy : 0 < y) : ∀ {ys : List Int}, figs (ys ++ [y]) → 0 < valI (ys ++ [y])
  | [], _ => by simp only [List.nil_append, valI]; omega
  | f :: r, h => by have := valI_pos hy (ys := r) h.tail; have := h.head; simp only [List.cons_append, valI]; omega
abbrev hi (ys : List Int) : List D := ys.map fun f => .int (128 + f)
abbrev lo (ys : List Int) : List D := ys.map D.int
theorem oct_loop {k : Nat} (x : Sl) (st : Sto) (y : Int) : ∀ (n : Nat) (ys : List Int) (acc : List D), ys.length < n → figs (ys ++ [y]) → (ys = [] ∨ 0 < y) → acc.length + ys.length ≤ 10000 →
    whlL (evT (T k) octets_of_number_c0) (exSs (T k) octets_of_number_b1) n [x, .own acc, .val (.int (valI (ys ++ [y])))] st = some (.nx, [x, .own (acc ++ hi ys), .val (.int y)], st)
  | 0, ys, _, h, _, _, _ => by omega
  | n + 1, [], acc, _, hf, _, _ => by
    have hy := hf.head
    have e : valI ([] ++ [y]) = y := by simp [valI]
    rw [e]
    have c : evT (T k) octets_of_number_c0 [x, .own acc, .val (.int y)] st = some (false, [x, .own acc, .val (.int y)], st) := by
      simp [octets_of_number_c0, exSs, exS, evE, evEs, evT, Pv.evI, evC, evTg, evTgs, evO, vv, up, one, retE, Option.bind_eq_bind, Option.bind_some, Option.map_some, Option.pure_def, List.getElem?_cons_zero, List.getElem?_cons_succ, List.set_cons_zero, List.set_cons_succ, asgN, asgSub, setIx, opD, addD, mulD, biD, cmpD, ixD, ixL, lenD, slotSeq, slotLst, truD, List.length_cons, List.length_nil, if_true, if_false, Bool.false_eq_true, reduceIte, mthHR, mthR, mtD, slD, seqOf, wipeE, Tgs.len, Pv.unpack, Option.map_none, Option.bind_none, augD, revD, List.map_cons, List.map_nil, isiD, ty, List.any_cons, List.any_nil, base_g]
      omega
    simp only [whlL, c, Option.bind_eq_bind, Option.bind_some, Bool.false_eq_true, if_false, hi, List.map_nil, List.append_nil]
  | n + 1, f :: r, acc, hl, hf, hy, ha => by
    have hf0 := hf.head
    have hy0 : 0 < y := hy.elim (fun z => by cases z) id
    have w := valI_pos hy0 (ys := r) hf.tail
    simp only [List.length_cons] at hl ha
    have ih := oct_loop (k := k) x st y n r (acc ++ [.int (128 + f)]) (by omega) hf.tail (.inr hy0) (by simp; omega)
    have e : valI (f :: r ++ [y]) = f + 128 * valI (r ++ [y]) := rfl
    have hm : (f + 128 * valI (r ++ [y])) % 128 = f := by omega
    have hd : (f + 128 * valI (r ++ [y])) / 128 = valI (r ++ [y]) := by omega
    rw [e]
    have c : evT (T k) octets_of_number_c0 [x, .own acc, .val (.int (f + 128 * valI (r ++ [y])))] st = some (true, [x, .own acc, .val (.int (f + 128 * valI (r ++ [y])))], st) := by
      simp [octets_of_number_c0, exSs, exS, evE, evEs, evT, Pv.evI, evC, evTg, evTgs, evO, vv, up, one, retE, Option.bind_eq_bind, Option.bind_some, Option.map_some, Option.pure_def, List.getElem?_cons_zero, List.getElem?_cons_succ, List.set_cons_zero, List.set_cons_succ, asgN, asgSub, setIx, opD, addD, mulD, biD, cmpD, ixD, ixL, lenD, slotSeq, slotLst, truD, List.length_cons, List.length_nil, if_true, if_false, Bool.false_eq_true, reduceIte, mthHR, mthR, mtD, slD, seqOf, wipeE, Tgs.len, Pv.unpack, Option.map_none, Option.bind_none, augD, revD, List.map_cons, List.map_nil, isiD, ty, List.any_cons, List.any_nil, base_g]
      omega
    have hlim : acc.length < lim := by unfold lim; omega
    have b : exSs (T k) octets_of_number_b1 [x, .own acc, .val (.int (f + 128 * valI (r ++ [y])))] st = some (.nx, [x, .own (acc ++ [.int (128 + f)]), .val (.int (valI (r ++ [y])))], st) := by
      unfold octets_of_number_b1
      refine (sq (ρ1 := [x, .own (acc ++ [.int (128 + f)]), .val (.int (f + 128 * valI (r ++ [y])))]) (st1 := st) (by simp [exSs, exS, evE, evEs, evT, Pv.evI, evC, evTg, evTgs, evO, vv, up, one, retE, Option.bind_eq_bind, Option.bind_some, Option.map_some, Option.pure_def, List.getElem?_cons_zero, List.getElem?_cons_succ, List.set_cons_zero, List.set_cons_succ, asgN, asgSub, setIx, opD, addD, mulD, biD, cmpD, ixD, ixL, lenD, slotSeq, slotLst, truD, List.length_cons, List.length_nil, if_true, if_false, Bool.false_eq_true, reduceIte, mthHR, mthR, mtD, slD, seqOf, wipeE, Tgs.len, Pv.unpack, Option.map_none, Option.bind_none, augD, revD, List.map_cons, List.map_nil, isiD, ty, List.any_cons, List.any_nil, base_g, hlim, hm])).trans ?_
      exact sq1 (by simp [exSs, exS, evE, evEs, evT, Pv.evI, evC, evTg, evTgs, evO, vv, up, one, retE, Option.bind_eq_bind, Option.bind_some, Option.map_some, Option.pure_def, List.getElem?_cons_zero, List.getElem?_cons_succ, List.set_cons_zero, List.set_cons_succ, asgN, asgSub, setIx, opD, addD, mulD, biD, cmpD, ixD, ixL, lenD, slotSeq, slotLst, truD, List.length_cons, List.length_nil, if_true, if_false, Bool.false_eq_true, reduceIte, mthHR, mthR, mtD, slD, seqOf, wipeE, Tgs.len, Pv.unpack, Option.map_none, Option.bind_none, augD, revD, List.map_cons, List.map_nil, isiD, ty, List.any_cons, List.any_nil, base_g, hd, show Nat.log2 128 < 9000 by decide])
    simp only [whlL, c, b, Option.bind_eq_bind, Option.bind_some, if_true]
    rw [ih]
    simp [hi]
abbrev shn (ys : List Int) (y : Int) : List D := hi ys ++ [.int y]
theorem oct_ok (k : Nat) (st : Sto) (ys : List Int) (y : Int) (hf : figs (ys ++ [y])) (hy : ys = [] ∨ 0 < y) (hl : ys.length ≤ 5000) : Fc (k + 1) "octets_of_number" [.int (valI (ys ++ [y]))] st = some (false, .tup (shn ys y), st) := by
  rw [q_octets_of_number]
  refine run_rt (ρ1 := [.val (.int (valI (ys ++ [y]))), .val (.lst (shn ys y)), .val (.int y)]) (n := 2) rfl rfl ?_
  unfold b_octets_of_number
  refine (sq (ρ1 := [.val (.int (valI (ys ++ [y]))), .own [], .no]) (st1 := st) (by simp [exSs, exS, evE, evEs, evT, Pv.evI, evC, evTg, evTgs, evO, vv, up, one, retE, Option.bind_eq_bind, Option.bind_some, Option.map_some, Option.pure_def, List.getElem?_cons_zero, List.getElem?_cons_succ, List.set_cons_zero, List.set_cons_succ, asgN, asgSub, setIx, opD, addD, mulD, biD, cmpD, ixD, ixL, lenD, slotSeq, slotLst, truD, List.length_cons, List.length_nil, if_true, if_false, Bool.false_eq_true, reduceIte, mthHR, mthR, mtD, slD, seqOf, wipeE, Tgs.len, Pv.unpack, Option.map_none, Option.bind_none, augD, revD, List.map_cons, List.map_nil, isiD, ty, List.any_cons, List.any_nil])).trans ?_
  refine (sq (ρ1 := [.val (.int (valI (ys ++ [y]))), .own [], .val (.int (valI (ys ++ [y])))]) (st1 := st) (by simp [exSs, exS, evE, evEs, evT, Pv.evI, evC, evTg, evTgs, evO, vv, up, one, retE, Option.bind_eq_bind, Option.bind_some, Option.map_some, Option.pure_def, List.getElem?_cons_zero, List.getElem?_cons_succ, List.set_cons_zero, List.set_cons_succ, asgN, asgSub, setIx, opD, addD, mulD, biD, cmpD, ixD, ixL, lenD, slotSeq, slotLst, truD, List.length_cons, List.length_nil, if_true, if_false, Bool.false_eq_true, reduceIte, mthHR, mthR, mtD, slD, seqOf, wipeE, Tgs.len, Pv.unpack, Option.map_none, Option.bind_none, augD, revD, List.map_cons, List.map_nil, isiD, ty, List.any_cons, List.any_nil])).trans ?_
  refine (sq (ex_whl (oct_loop (k := k) _ st y fuel ys [] (by unfold fuel; omega) hf hy (by simp; omega)))).trans ?_
  have hlim : ys.length < lim := by unfold lim; omega
  refine (sq (ρ1 := [.val (.int (valI (ys ++ [y]))), .own (shn ys y), .val (.int y)]) (st1 := st) (by simp [exSs, exS, evE, evEs, evT, Pv.evI, evC, evTg, evTgs, evO, vv, up, one, retE, Option.bind_eq_bind, Option.bind_some, Option.map_some, Option.pure_def, List.getElem?_cons_zero, List.getElem?_cons_succ, List.set_cons_zero, List.set_cons_succ, asgN, asgSub, setIx, opD, addD, mulD, biD, cmpD, ixD, ixL, lenD, slotSeq, slotLst, truD, List.length_cons, List.length_nil, if_true, if_false, Bool.false_eq_true, reduceIte, mthHR, mthR, mtD, slD, seqOf, wipeE, Tgs.len, Pv.unpack, Option.map_none, Option.bind_none, augD, revD, List.map_cons, List.map_nil, isiD, ty, List.any_cons, List.any_nil, hlim, shn, hi])).trans ?_
  exact sqr (by simp [exSs, exS, evE, evEs, evT, Pv.evI, evC, evTg, evTgs, evO, vv, up, one, retE, Option.bind_eq_bind, Option.bind_some, Option.map_some, Option.pure_def, List.getElem?_cons_zero, List.getElem?_cons_succ, List.set_cons_zero, List.set_cons_succ, asgN, asgSub, setIx, opD, addD, mulD, biD, cmpD, ixD, ixL, lenD, slotSeq, slotLst, truD, List.length_cons, List.length_nil, if_true, if_false, Bool.false_eq_true, reduceIte, mthHR, mthR, mtD, slD, seqOf, wipeE, Tgs.len, Pv.unpack, Option.map_none, Option.bind_none, augD, revD, List.map_cons, List.map_nil, isiD, ty, List.any_cons, List.any_nil])
theorem noct_ok (k : Nat) (st : Sto) (ys : List Int) (y : Int) (hf : figs (ys ++ [y])) (hy : ys = [] ∨ 0 < y) (hl : ys.length ≤ 5000) : Fc (k + 2) "number_octets" [.int (valI (ys ++ [y]))] st = some (false, .tup (shn ys y), st) := by
  rw [q_number_octets]
  refine run_rt (ρ1 := [.val (.int (valI (ys ++ [y])))]) (n := 0) rfl rfl ?_
  exact sqr (by simp [exSs, exS, evE, evEs, evT, Pv.evI, evC, evTg, evTgs, evO, vv, up, one, retE, Option.bind_eq_bind, Option.bind_some, Option.map_some, Option.pure_def, List.getElem?_cons_zero, List.getElem?_cons_succ, List.set_cons_zero, List.set_cons_succ, asgN, asgSub, setIx, opD, addD, mulD, biD, cmpD, ixD, ixL, lenD, slotSeq, slotLst, truD, List.length_cons, List.length_nil, if_true, if_false, Bool.false_eq_true, reduceIte, mthHR, mthR, mtD, slD, seqOf, wipeE, Tgs.len, Pv.unpack, Option.map_none, Option.bind_none, augD, revD, List.map_cons, List.map_nil, isiD, ty, List.any_cons, List.any_nil, oct_ok k st ys y hf hy hl])
/-! ### weighed sums -/
/-- the sum of (k + place) times octet -/
def ws : Int → List Int → Int
  | _, [] => 0
  | k, x :: r => (k + 1) * x + ws (k + 1) r
def octs (xs : List Int) : Prop := ∀ x ∈ xs, 0 ≤ x ∧ x < 256
theorem octs.tail {x : Int} {r : List Int} (h : octs (x :: r)) : octs r := fun y hy => h y (List.mem_cons_of_mem _ hy)
theorem sum_loop {k : Nat} (a : Sl) (st : Sto) : ∀ (xs : List Int) (n : Nat) (acc : Int) (s2 s3 : Sl), octs xs → n + xs.length ≤ 1000000 →
    ∃ s2' s3', forL (evTg (T k) (.tup (.cons (.n 2) (.cons (.n 3) .nil)))) (exSs (T k) sum_of_octets_b0) (enumL n (lo xs)) [a, .val (.int acc), s2, s3] st = some (.nx, [a, .val (.int (acc + ws n xs)), s2', s3'], st)
  | [], n, acc, s2, s3, _, _ => ⟨s2, s3, by simp [forL, enumL, ws]⟩
  | x :: r, n, acc, s2, s3, hx, hl => by
    have h0 := hx x List.mem_cons_self
    simp only [List.length_cons] at hl
    obtain ⟨u2, u3, e⟩ := sum_loop (k := k) a st r (n + 1) (acc + ((n : Int) + 1) * x) (.val (.int (n : Int))) (.val (.int x)) hx.tail (by omega)
    refine ⟨u2, u3, ?_⟩
    have hb1 : Big ((n : Int) + 1) := big_small (by omega)
    have hb2 : Big x := big_small (by omega)
    have t1 : evTg (T k) (.tup (.cons (.n 2) (.cons (.n 3) .nil))) (.tup [.int (n : Int), .int x]) [a, .val (.int acc), s2, s3] st = some ([a, .val (.int acc), .val (.int (n : Int)), .val (.int x)], st) := by simp [exSs, exS, evE, evEs, evT, Pv.evI, evC, evTg, evTgs, evO, vv, up, one, retE, Option.bind_eq_bind, Option.bind_some, Option.map_some, Option.pure_def, List.getElem?_cons_zero, List.getElem?_cons_succ, List.set_cons_zero, List.set_cons_succ, asgN, asgSub, setIx, opD, addD, mulD, biD, cmpD, ixD, ixL, lenD, slotSeq, slotLst, truD, List.length_cons, List.length_nil, if_true, if_false, Bool.false_eq_true, reduceIte, mthHR, mthR, mtD, slD, seqOf, wipeE, Tgs.len, Pv.unpack, Option.map_none, Option.bind_none, augD, revD, List.map_cons, List.map_nil, isiD, ty, List.any_cons, List.any_nil, evTgs]
    have t2 : exSs (T k) sum_of_octets_b0 [a, .val (.int acc), .val (.int (n : Int)), .val (.int x)] st = some (.nx, [a, .val (.int (acc + ((n : Int) + 1) * x)), .val (.int (n : Int)), .val (.int x)], st) := by
      unfold sum_of_octets_b0
      exact sq1 (by simp [exSs, exS, evE, evEs, evT, Pv.evI, evC, evTg, evTgs, evO, vv, up, one, retE, Option.bind_eq_bind, Option.bind_some, Option.map_some, Option.pure_def, List.getElem?_cons_zero, List.getElem?_cons_succ, List.set_cons_zero, List.set_cons_succ, asgN, asgSub, setIx, opD, addD, mulD, biD, cmpD, ixD, ixL, lenD, slotSeq, slotLst, truD, List.length_cons, List.length_nil, if_true, if_false, Bool.false_eq_true, reduceIte, mthHR, mthR, mtD, slD, seqOf, wipeE, Tgs.len, Pv.unpack, Option.map_none, Option.bind_none, augD, revD, List.map_cons, List.map_nil, isiD, ty, List.any_cons, List.any_nil, hb1, hb2])
    show forL _ _ (.tup [.int (n : Int), .int x] :: enumL (n + 1) (lo r)) _ _ = _
    simp only [forL, t1, t2, Option.bind_eq_bind, Option.bind_some]
    rw [e]
    simp only [ws, Int.natCast_add, Int.natCast_one, Int.add_assoc]
theorem sum_ok (k : Nat) (st : Sto) (xs : List Int) (hx : octs xs) (hl : xs.length ≤ 900000) : Fc (k + 1) "sum_of_octets" [.tup (lo xs)] st = some (false, .int (ws 0 xs % 65521), st) := by
  obtain ⟨s2, s3, e⟩ := sum_loop (k := k) (.val (.tup (lo xs))) st xs 0 0 .no .no hx (by omega)
  simp only [Int.natCast_zero, Int.zero_add] at e
  generalize lo xs = os at e ⊢
  rw [q_sum_of_octets]
  refine run_rt (ρ1 := [.val (.tup os), .val (.int (ws 0 xs)), s2, s3]) (n := 3) rfl rfl ?_
  unfold b_sum_of_octets
  refine (sq (ρ1 := [.val (.tup os), .val (.int 0), .no, .no]) (st1 := st) (by simp [exSs, exS, evE, evEs, evT, Pv.evI, evC, evTg, evTgs, evO, vv, up, one, retE, Option.bind_eq_bind, Option.bind_some, Option.map_some, Option.pure_def, List.getElem?_cons_zero, List.getElem?_cons_succ, List.set_cons_zero, List.set_cons_succ, asgN, asgSub, setIx, opD, addD, mulD, biD, cmpD, ixD, ixL, lenD, slotSeq, slotLst, truD, List.length_cons, List.length_nil, if_true, if_false, Bool.false_eq_true, reduceIte, mthHR, mthR, mtD, slD, seqOf, wipeE, Tgs.len, Pv.unpack, Option.map_none, Option.bind_none, augD, revD, List.map_cons, List.map_nil, isiD, ty, List.any_cons, List.any_nil])).trans ?_
  refine (sq (ex_for (xs := enumL 0 os) (ρ1 := [.val (.tup os), .val (.int 0), .no, .no]) (st1 := st) (by simp [exSs, exS, evE, evEs, evT, Pv.evI, evC, evTg, evTgs, evO, vv, up, one, retE, Option.bind_eq_bind, Option.bind_some, Option.map_some, Option.pure_def, List.getElem?_cons_zero, List.getElem?_cons_succ, List.set_cons_zero, List.set_cons_succ, asgN, asgSub, setIx, opD, addD, mulD, biD, cmpD, ixD, ixL, lenD, slotSeq, slotLst, truD, List.length_cons, List.length_nil, if_true, if_false, Bool.false_eq_true, reduceIte, mthHR, mthR, mtD, slD, seqOf, wipeE, Tgs.len, Pv.unpack, Option.map_none, Option.bind_none, augD, revD, List.map_cons, List.map_nil, isiD, ty, List.any_cons, List.any_nil]) e)).trans ?_
  exact sqr (by simp [exSs, exS, evE, evEs, evT, Pv.evI, evC, evTg, evTgs, evO, vv, up, one, retE, Option.bind_eq_bind, Option.bind_some, Option.map_some, Option.pure_def, List.getElem?_cons_zero, List.getElem?_cons_succ, List.set_cons_zero, List.set_cons_succ, asgN, asgSub, setIx, opD, addD, mulD, biD, cmpD, ixD, ixL, lenD, slotSeq, slotLst, truD, List.length_cons, List.length_nil, if_true, if_false, Bool.false_eq_true, reduceIte, mthHR, mthR, mtD, slD, seqOf, wipeE, Tgs.len, Pv.unpack, Option.map_none, Option.bind_none, augD, revD, List.map_cons, List.map_nil, isiD, ty, List.any_cons, List.any_nil, prime_g])
theorem pair_ok (k : Nat) (st : Sto) (xs : List Int) (hx : octs xs) (hl : xs.length ≤ 900000) : Fc (k + 2) "sum_pair" [.tup (lo xs)] st = some (false, .tup [.int (ws 0 xs % 65521 % 256), .int (ws 0 xs % 65521 / 256)], st) := by
  have h := sum_ok k st xs hx hl
  generalize lo xs = os at h ⊢
  generalize ws 0 xs % 65521 = v at h ⊢
  rw [q_sum_pair]
  refine run_rt (ρ1 := [.val (.tup os), .val (.int v)]) (n := 1) rfl rfl ?_
  unfold b_sum_pair
  refine (sq (ρ1 := [.val (.tup os), .val (.int v)]) (st1 := st) (by simp [exSs, exS, evE, evEs, evT, Pv.evI, evC, evTg, evTgs, evO, vv, up, one, retE, Option.bind_eq_bind, Option.bind_some, Option.map_some, Option.pure_def, List.getElem?_cons_zero, List.getElem?_cons_succ, List.set_cons_zero, List.set_cons_succ, asgN, asgSub, setIx, opD, addD, mulD, biD, cmpD, ixD, ixL, lenD, slotSeq, slotLst, truD, List.length_cons, List.length_nil, if_true, if_false, Bool.false_eq_true, reduceIte, mthHR, mthR, mtD, slD, seqOf, wipeE, Tgs.len, Pv.unpack, Option.map_none, Option.bind_none, augD, revD, List.map_cons, List.map_nil, isiD, ty, List.any_cons, List.any_nil, h])).trans ?_
  exact sqr (by simp [exSs, exS, evE, evEs, evT, Pv.evI, evC, evTg, evTgs, evO, vv, up, one, retE, Option.bind_eq_bind, Option.bind_some, Option.map_some, Option.pure_def, List.getElem?_cons_zero, List.getElem?_cons_succ, List.set_cons_zero, List.set_cons_succ, asgN, asgSub, setIx, opD, addD, mulD, biD, cmpD, ixD, ixL, lenD, slotSeq, slotLst, truD, List.length_cons, List.length_nil, if_true, if_false, Bool.false_eq_true, reduceIte, mthHR, mthR, mtD, slD, seqOf, wipeE, Tgs.len, Pv.unpack, Option.map_none, Option.bind_none, augD, revD, List.map_cons, List.map_nil, isiD, ty, List.any_cons, List.any_nil, octet_g, show Nat.log2 256 < 9000 by decide, show (2 : Nat) ≤ lim by decide])
theorem rest_ok (k : Nat) (st : Sto) (n : Int) : Fc (k + 1) "_law_rest" [.int n] st = some (false, .int (n % 65521), st) := by
  rw [q_law_rest]
  refine run_rt (ρ1 := [.val (.int n)]) (n := 0) rfl rfl ?_
  exact sqr (by simp [exSs, exS, evE, evEs, evT, Pv.evI, evC, evTg, evTgs, evO, vv, up, one, retE, Option.bind_eq_bind, Option.bind_some, Option.map_some, Option.pure_def, List.getElem?_cons_zero, List.getElem?_cons_succ, List.set_cons_zero, List.set_cons_succ, asgN, asgSub, setIx, opD, addD, mulD, biD, cmpD, ixD, ixL, lenD, slotSeq, slotLst, truD, List.length_cons, List.length_nil, if_true, if_false, Bool.false_eq_true, reduceIte, mthHR, mthR, mtD, slD, seqOf, wipeE, Tgs.len, Pv.unpack, Option.map_none, Option.bind_none, augD, revD, List.map_cons, List.map_nil, isiD, ty, List.any_cons, List.any_nil])
theorem ws_app : ∀ (xs ys : List Int) (k : Int), ws k (xs ++ ys) = ws k xs + ws (k + xs.length) ys
  | [], ys, k => by simp [ws]
  | x :: r, ys, k => by
    simp only [List.cons_append, ws, ws_app r ys (k + 1), List.length_cons, Int.natCast_add, Int.natCast_one]
    rw [show k + 1 + (r.length : Int) = k + ((r.length : Int) + 1) by omega]
    omega
theorem ws_shift : ∀ (xs : List Int) (k : Int), ws k xs = ws 0 xs + k * xs.sum
  | [], k => by simp [ws]
  | x :: r, k => by
    simp only [ws, List.sum_cons]
    rw [ws_shift r (k + 1), ws_shift r (0 + 1), Int.add_mul, Int.add_mul, Int.add_mul, Int.mul_add]
    omega
end Lk68

namespace Lk68
open PySem PySem.Spec PyProof.Rows L2 Pv
theorem anyF (k : Nat) {b : Int} {st : Sto} (h0 : 0 < b) (hb : b < 2 ^ 60) (hd : Deal st) : ∃ r st', Fc (k + 1) "_law_any" [.hd 1, .int b] st = some (false, .int r, st') ∧ 0 ≤ r ∧ r < b ∧ Deal st' := by
  obtain ⟨r, st', e, h⟩ := any_ok (T k) ["deal", "bound"] rfl hd h0 hb
  exact ⟨r, st', (congrFun (congrFun (q_law_any k) _) _).trans e, h⟩
theorem anyOk (k : Nat) : AnyOk (T (k + 1)) := fun b st h0 hb hd => anyF k h0 hb hd
theorem ofOk (k : Nat) {st : Sto} (hst : Deal st) {xs : List D} (h0 : xs ≠ []) (hl : xs.length < 1000000) : ∃ x st', Fc (k + 2) "_law_of" [.hd 1, .lst xs] st = some (false, x, st') ∧ x ∈ xs ∧ Deal st' := by
  rw [q_law_of]
  exact of_ok (anyOk k) ["deal", "some"] rfl hst h0 hl
theorem kindOk (k : Nat) : KindOk (T (k + 1)) := fun st d h ht => by
  exact (congrFun (congrFun (q_law_is_kind k) _) _).trans (kind_ok (T k) ["told", "due"] rfl st h ht)
theorem sameOk (k : Nat) : SameOk (T (k + 2)) := fun st d h hw => by
  exact (congrFun (congrFun (q_law_same (k + 1)) _) _).trans (same_ok (kindOk k) ["told", "due"] rfl st h hw)
theorem allOk (k : Nat) (st : Sto) {xs : List D} (h : Prs xs) : Fc (k + 3) "_law_all" [.lst xs] st = some (false, .bl true, st) := by
  rw [q_law_all]
  exact all_ok (sameOk k) ["pairs"] rfl st h
theorem dealOk (k : Nat) (ns : List Int) (hl : ns.length ≤ 63) : ∃ st, Fc (k + 1) "_law_deal" [.scr ns, .int 6868] [] = some (false, .hd 1, st) ∧ Deal st := by
  rw [q_law_deal]
  exact deal_ok ["script", "salt"] rfl ns hl (by decide) (by decide)
def Ok (d : D) : Prop := Pl d ∧ wt d < 99999
def Good (ps : List D) (n : Nat) : Prop := Prs ps ∧ ps.length ≤ n
theorem Good.app {ps : List D} {n : Nat} {d : D} (h : Good ps n) (hd : Ok d) : Good (ps ++ [pr d]) (n + 1) :=
  ⟨fun x hx => (List.mem_append.mp hx).elim (h.1 x) fun z => ⟨d, List.mem_singleton.mp z, hd.1, hd.2⟩, by have := h.2; simp; omega⟩
theorem Good.mono {ps : List D} {n m : Nat} (h : Good ps n) (hm : n ≤ m) : Good ps m := ⟨h.1, Nat.le_trans h.2 hm⟩
theorem Good.lt {ps : List D} {n : Nat} (h : Good ps n) (hn : n ≤ 100000) : ps.length < lim := by have := h.2; unfold lim; omega
theorem ok_non : Ok .non := ⟨.non, by simp [wt]⟩
theorem wtL_ints : ∀ xs : List D, (∀ x ∈ xs, ∃ i : Int, x = .int i) → wtL xs = xs.length
  | [], _ => rfl
  | x :: xs, h => by
    obtain ⟨i, rfl⟩ := h x List.mem_cons_self
    simp only [wtL, wt, List.length_cons, wtL_ints xs fun y hy => h y (List.mem_cons_of_mem _ hy)]
    omega
theorem ok_ints {xs : List D} (h : ∀ x ∈ xs, ∃ i : Int, x = .int i) (hl : xs.length ≤ 90000) : Ok (.tup xs) :=
  ⟨.tup fun x hx => by obtain ⟨i, rfl⟩ := h x hx; exact .int i, by simp only [wt, wtL_ints xs h]; omega⟩
theorem ok_two (a b : Int) : Ok (.tup [.int a, .int b]) := ok_ints (by simp) (by simp)
theorem ok_shn (ys : List Int) (y : Int) (hl : ys.length ≤ 80000) : Ok (.tup (shn ys y)) := ok_ints (fun x hx => by
  simp only [shn, hi, List.mem_append, List.mem_map, List.mem_singleton] at hx
  rcases hx with ⟨f, _, rfl⟩ | rfl <;> exact ⟨_, rfl⟩) (by simp [shn, hi]; omega)
theorem shn_len (ys : List Int) (y : Int) : (shn ys y).length = ys.length + 1 := by simp [shn, hi]

theorem nm_ok (k : Nat) (st : Sto) (n : Int) (h0 : 0 ≤ n) (h1 : n < 2097152) : ∃ ys y, n = valI (ys ++ [y]) ∧ figs (ys ++ [y]) ∧ (ys = [] ∨ 0 < y) ∧ ys.length ≤ 2 ∧ Fc (k + 1) "_law_number_octets" [.int n] st = some (false, .tup (shn ys y), st) := by
  have l128 : Nat.log2 128 < 9000 := by decide
  have l16 : Nat.log2 16384 < 9000 := by decide
  have m1 : (1 : Nat) ≤ lim := by decide
  have m2 : (2 : Nat) ≤ lim := by decide
  have m3 : (3 : Nat) ≤ lim := by decide
  by_cases h2 : n < 128
  · refine ⟨[], n, by simp [valI], fun f h => by rw [List.mem_singleton.mp h]; exact ⟨h0, h2⟩, .inl rfl, by simp, ?_⟩
    rw [q_law_number_octets]
    refine run_rt (ρ1 := [.val (.int n)]) (n := 0) rfl rfl ?_
    unfold b_law_number_octets
    exact sqr (ex_it (t := true) (ρ1 := [.val (.int n)]) (st1 := st) (by simp [exSs, exS, evE, evEs, evT, Pv.evI, evC, evTg, evTgs, evO, vv, up, one, retE, Option.bind_eq_bind, Option.bind_some, Option.map_some, Option.pure_def, List.getElem?_cons_zero, List.getElem?_cons_succ, List.set_cons_zero, List.set_cons_succ, asgN, asgSub, setIx, opD, addD, mulD, biD, cmpD, ixD, ixL, lenD, slotSeq, slotLst, truD, List.length_cons, List.length_nil, if_true, if_false, Bool.false_eq_true, reduceIte, mthHR, mthR, mtD, slD, seqOf, wipeE, Tgs.len, Pv.unpack, Option.map_none, Option.bind_none, augD, revD, List.map_cons, List.map_nil, isiD, ty, List.any_cons, List.any_nil, h2]) (by simp [exSs, exS, evE, evEs, evT, Pv.evI, evC, evTg, evTgs, evO, vv, up, one, retE, Option.bind_eq_bind, Option.bind_some, Option.map_some, Option.pure_def, List.getElem?_cons_zero, List.getElem?_cons_succ, List.set_cons_zero, List.set_cons_succ, asgN, asgSub, setIx, opD, addD, mulD, biD, cmpD, ixD, ixL, lenD, slotSeq, slotLst, truD, List.length_cons, List.length_nil, if_true, if_false, Bool.false_eq_true, reduceIte, mthHR, mthR, mtD, slD, seqOf, wipeE, Tgs.len, Pv.unpack, Option.map_none, Option.bind_none, augD, revD, List.map_cons, List.map_nil, isiD, ty, List.any_cons, List.any_nil, m1, shn, hi]))
  · by_cases h3 : n < 16384
    · refine ⟨[n % 128], n / 128, by simp only [List.cons_append, List.nil_append, valI]; omega, fun f h => ?_, .inr (by omega), by simp, ?_⟩
      · simp only [List.cons_append, List.nil_append, List.mem_cons, List.not_mem_nil, or_false] at h
        rcases h with rfl | rfl <;> omega
      · rw [q_law_number_octets]
        refine run_rt (ρ1 := [.val (.int n)]) (n := 0) rfl rfl ?_
        unfold b_law_number_octets
        refine (sq (ex_it (t := false) (ρ1 := [.val (.int n)]) (st1 := st) (by simp [exSs, exS, evE, evEs, evT, Pv.evI, evC, evTg, evTgs, evO, vv, up, one, retE, Option.bind_eq_bind, Option.bind_some, Option.map_some, Option.pure_def, List.getElem?_cons_zero, List.getElem?_cons_succ, List.set_cons_zero, List.set_cons_succ, asgN, asgSub, setIx, opD, addD, mulD, biD, cmpD, ixD, ixL, lenD, slotSeq, slotLst, truD, List.length_cons, List.length_nil, if_true, if_false, Bool.false_eq_true, reduceIte, mthHR, mthR, mtD, slD, seqOf, wipeE, Tgs.len, Pv.unpack, Option.map_none, Option.bind_none, augD, revD, List.map_cons, List.map_nil, isiD, ty, List.any_cons, List.any_nil]; omega) (by simp [exSs, exS, evE, evEs, evT, Pv.evI, evC, evTg, evTgs, evO, vv, up, one, retE, Option.bind_eq_bind, Option.bind_some, Option.map_some, Option.pure_def, List.getElem?_cons_zero, List.getElem?_cons_succ, List.set_cons_zero, List.set_cons_succ, asgN, asgSub, setIx, opD, addD, mulD, biD, cmpD, ixD, ixL, lenD, slotSeq, slotLst, truD, List.length_cons, List.length_nil, if_true, if_false, Bool.false_eq_true, reduceIte, mthHR, mthR, mtD, slD, seqOf, wipeE, Tgs.len, Pv.unpack, Option.map_none, Option.bind_none, augD, revD, List.map_cons, List.map_nil, isiD, ty, List.any_cons, List.any_nil]; exact ⟨rfl, rfl⟩))).trans ?_
        exact sqr (ex_it (t := true) (ρ1 := [.val (.int n)]) (st1 := st) (by simp [exSs, exS, evE, evEs, evT, Pv.evI, evC, evTg, evTgs, evO, vv, up, one, retE, Option.bind_eq_bind, Option.bind_some, Option.map_some, Option.pure_def, List.getElem?_cons_zero, List.getElem?_cons_succ, List.set_cons_zero, List.set_cons_succ, asgN, asgSub, setIx, opD, addD, mulD, biD, cmpD, ixD, ixL, lenD, slotSeq, slotLst, truD, List.length_cons, List.length_nil, if_true, if_false, Bool.false_eq_true, reduceIte, mthHR, mthR, mtD, slD, seqOf, wipeE, Tgs.len, Pv.unpack, Option.map_none, Option.bind_none, augD, revD, List.map_cons, List.map_nil, isiD, ty, List.any_cons, List.any_nil, h3]) (by simp [exSs, exS, evE, evEs, evT, Pv.evI, evC, evTg, evTgs, evO, vv, up, one, retE, Option.bind_eq_bind, Option.bind_some, Option.map_some, Option.pure_def, List.getElem?_cons_zero, List.getElem?_cons_succ, List.set_cons_zero, List.set_cons_succ, asgN, asgSub, setIx, opD, addD, mulD, biD, cmpD, ixD, ixL, lenD, slotSeq, slotLst, truD, List.length_cons, List.length_nil, if_true, if_false, Bool.false_eq_true, reduceIte, mthHR, mthR, mtD, slD, seqOf, wipeE, Tgs.len, Pv.unpack, Option.map_none, Option.bind_none, augD, revD, List.map_cons, List.map_nil, isiD, ty, List.any_cons, List.any_nil, m2, l128, shn, hi]))
    · refine ⟨[n % 128, n / 128 % 128], n / 16384, by simp only [List.cons_append, List.nil_append, valI]; omega, fun f h => ?_, .inr (by omega), by simp, ?_⟩
      · simp only [List.cons_append, List.nil_append, List.mem_cons, List.not_mem_nil, or_false] at h
        rcases h with rfl | rfl | rfl <;> omega
      · rw [q_law_number_octets]
        refine run_rt (ρ1 := [.val (.int n)]) (n := 0) rfl rfl ?_
        unfold b_law_number_octets
        refine (sq (ex_it (t := false) (ρ1 := [.val (.int n)]) (st1 := st) (by simp [exSs, exS, evE, evEs, evT, Pv.evI, evC, evTg, evTgs, evO, vv, up, one, retE, Option.bind_eq_bind, Option.bind_some, Option.map_some, Option.pure_def, List.getElem?_cons_zero, List.getElem?_cons_succ, List.set_cons_zero, List.set_cons_succ, asgN, asgSub, setIx, opD, addD, mulD, biD, cmpD, ixD, ixL, lenD, slotSeq, slotLst, truD, List.length_cons, List.length_nil, if_true, if_false, Bool.false_eq_true, reduceIte, mthHR, mthR, mtD, slD, seqOf, wipeE, Tgs.len, Pv.unpack, Option.map_none, Option.bind_none, augD, revD, List.map_cons, List.map_nil, isiD, ty, List.any_cons, List.any_nil]; omega) (by simp [exSs, exS, evE, evEs, evT, Pv.evI, evC, evTg, evTgs, evO, vv, up, one, retE, Option.bind_eq_bind, Option.bind_some, Option.map_some, Option.pure_def, List.getElem?_cons_zero, List.getElem?_cons_succ, List.set_cons_zero, List.set_cons_succ, asgN, asgSub, setIx, opD, addD, mulD, biD, cmpD, ixD, ixL, lenD, slotSeq, slotLst, truD, List.length_cons, List.length_nil, if_true, if_false, Bool.false_eq_true, reduceIte, mthHR, mthR, mtD, slD, seqOf, wipeE, Tgs.len, Pv.unpack, Option.map_none, Option.bind_none, augD, revD, List.map_cons, List.map_nil, isiD, ty, List.any_cons, List.any_nil]; exact ⟨rfl, rfl⟩))).trans ?_
        refine (sq (ex_it (t := false) (ρ1 := [.val (.int n)]) (st1 := st) (by simp [exSs, exS, evE, evEs, evT, Pv.evI, evC, evTg, evTgs, evO, vv, up, one, retE, Option.bind_eq_bind, Option.bind_some, Option.map_some, Option.pure_def, List.getElem?_cons_zero, List.getElem?_cons_succ, List.set_cons_zero, List.set_cons_succ, asgN, asgSub, setIx, opD, addD, mulD, biD, cmpD, ixD, ixL, lenD, slotSeq, slotLst, truD, List.length_cons, List.length_nil, if_true, if_false, Bool.false_eq_true, reduceIte, mthHR, mthR, mtD, slD, seqOf, wipeE, Tgs.len, Pv.unpack, Option.map_none, Option.bind_none, augD, revD, List.map_cons, List.map_nil, isiD, ty, List.any_cons, List.any_nil]; omega) (by simp [exSs, exS, evE, evEs, evT, Pv.evI, evC, evTg, evTgs, evO, vv, up, one, retE, Option.bind_eq_bind, Option.bind_some, Option.map_some, Option.pure_def, List.getElem?_cons_zero, List.getElem?_cons_succ, List.set_cons_zero, List.set_cons_succ, asgN, asgSub, setIx, opD, addD, mulD, biD, cmpD, ixD, ixL, lenD, slotSeq, slotLst, truD, List.length_cons, List.length_nil, if_true, if_false, Bool.false_eq_true, reduceIte, mthHR, mthR, mtD, slD, seqOf, wipeE, Tgs.len, Pv.unpack, Option.map_none, Option.bind_none, augD, revD, List.map_cons, List.map_nil, isiD, ty, List.any_cons, List.any_nil]; exact ⟨rfl, rfl⟩))).trans ?_
        exact sqr (by simp [exSs, exS, evE, evEs, evT, Pv.evI, evC, evTg, evTgs, evO, vv, up, one, retE, Option.bind_eq_bind, Option.bind_some, Option.map_some, Option.pure_def, List.getElem?_cons_zero, List.getElem?_cons_succ, List.set_cons_zero, List.set_cons_succ, asgN, asgSub, setIx, opD, addD, mulD, biD, cmpD, ixD, ixL, lenD, slotSeq, slotLst, truD, List.length_cons, List.length_nil, if_true, if_false, Bool.false_eq_true, reduceIte, mthHR, mthR, mtD, slD, seqOf, wipeE, Tgs.len, Pv.unpack, Option.map_none, Option.bind_none, augD, revD, List.map_cons, List.map_nil, isiD, ty, List.any_cons, List.any_nil, m3, l128, l16, shn, hi])
theorem frame_ok (k : Nat) (st : Sto) (xs : List Int) (hx : octs xs) (hl : xs.length ≤ 400000) (ys : List Int) (y : Int) (hn : (xs.length : Int) = valI (ys ++ [y])) (hf : figs (ys ++ [y])) (hy : ys = [] ∨ 0 < y) (hyl : ys.length ≤ 2) :
    Fc (k + 3) "frame" [.tup (lo xs)] st = some (false, .tup (shn ys y ++ lo xs ++ [.int (ws 0 xs % 65521 % 256), .int (ws 0 xs % 65521 / 256)]), st) := by
  have no := noct_ok k st ys y hf hy (by omega)
  have sp := pair_ok k st xs hx (by omega)
  have sl := shn_len ys y
  have ll : (lo xs).length = xs.length := by simp [lo]
  rw [← hn, ← ll] at no
  generalize shn ys y = os at no sl ⊢
  generalize lo xs = bs at no sp ll ⊢
  have l1 : os.length + bs.length ≤ lim := by unfold lim; omega
  have l2 : os.length + bs.length + 2 ≤ lim := by unfold lim; omega
  rw [q_frame]
  refine run_rt (ρ1 := [.val (.tup bs)]) (n := 0) rfl rfl ?_
  unfold b_frame
  exact sqr (by simp [exSs, exS, evE, evEs, evT, Pv.evI, evC, evTg, evTgs, evO, vv, up, one, retE, Option.bind_eq_bind, Option.bind_some, Option.map_some, Option.pure_def, List.getElem?_cons_zero, List.getElem?_cons_succ, List.set_cons_zero, List.set_cons_succ, asgN, asgSub, setIx, opD, addD, mulD, biD, cmpD, ixD, ixL, lenD, slotSeq, slotLst, truD, List.length_cons, List.length_nil, if_true, if_false, Bool.false_eq_true, reduceIte, mthHR, mthR, mtD, slD, seqOf, wipeE, Tgs.len, Pv.unpack, Option.map_none, Option.bind_none, augD, revD, List.map_cons, List.map_nil, isiD, ty, List.any_cons, List.any_nil, no, sp, l1, l2])
theorem fpairs_ok (k : Nat) (st : Sto) (xs : List Int) (hx : octs xs) (hl : xs.length ≤ 80000) (w : Int) (hw : w % 65521 = ws 0 xs % 65521) :
    ∃ p, Fc (k + 4) "_law_frame_pairs" [.tup (lo xs), .int w] st = some (true, .lst p, st) ∧ Good p 2 := by
  obtain ⟨ys, y, hn, hf, hy, hyl, e1⟩ := nm_ok (k + 2) st (xs.length : Int) (by omega) (by omega)
  have e2 := frame_ok k st xs hx (by omega) ys y hn hf hy hyl
  have e3 := rest_ok (k + 2) st w
  rw [hw] at e3
  have sl := shn_len ys y
  have ll : (lo xs).length = xs.length := by simp [lo]
  have ok1 : Ok (.tup (shn ys y ++ lo xs ++ [.int (ws 0 xs % 65521 % 256), .int (ws 0 xs % 65521 / 256)])) := ok_ints (fun x hx => by
    simp only [shn, hi, lo, List.mem_append, List.mem_map, List.mem_cons, List.not_mem_nil, or_false] at hx
    rcases hx with ((⟨f, _, rfl⟩ | rfl) | ⟨f, _, rfl⟩) | rfl | rfl <;> exact ⟨_, rfl⟩) (by simp only [List.length_append, List.length_cons, List.length_nil, sl, ll]; omega)
  generalize ws 0 xs % 65521 = v at e2 e3 ok1
  rw [← ll] at e1
  generalize shn ys y = os at e1 e2 sl ok1
  generalize lo xs = bs at e1 e2 ll ok1 ⊢
  have ok2 : Ok (.int ((bs.length : Int) + os.length + 2)) := ⟨.int _, by simp [wt]⟩
  have g0 : Good [] 0 := ⟨(fun _ h => by cases h), Nat.le_refl _⟩
  have g : Good ([] ++ [pr (.tup (os ++ bs ++ [.int (v % 256), .int (v / 256)]))] ++ [pr (.int ((bs.length : Int) + os.length + 2))]) 2 := (g0.app ok1).app ok2
  refine ⟨_, ?_, g⟩
  rw [q_law_frame_pairs]
  have l1 : os.length + bs.length ≤ lim := by unfold lim; omega
  have l2 : os.length + bs.length + 2 ≤ lim := by unfold lim; omega
  have m2 : (2 : Nat) ≤ lim := by decide
  have fl : (os ++ bs ++ [D.int (v % 256), .int (v / 256)]).length = os.length + bs.length + 2 := by simp; omega
  generalize hF : os ++ bs ++ [D.int (v % 256), .int (v / 256)] = FR at e2 fl
  refine run_rt (ρ1 := [.val (.tup bs), .val (.int w), .val (.tup FR), .val (.int bs.length), .val (.int (v % 256)), .val (.int (v / 256)), .val (.tup os)]) (n := 5) rfl rfl ?_
  unfold b_law_frame_pairs
  refine (sq (ρ1 := [.val (.tup bs), .val (.int w), .val (.tup FR), .val (.int bs.length), .no, .no, .no]) (st1 := st) (by simp [exSs, exS, evE, evEs, evT, Pv.evI, evC, evTg, evTgs, evO, vv, up, one, retE, Option.bind_eq_bind, Option.bind_some, Option.map_some, Option.pure_def, List.getElem?_cons_zero, List.getElem?_cons_succ, List.set_cons_zero, List.set_cons_succ, asgN, asgSub, setIx, opD, addD, mulD, biD, cmpD, ixD, ixL, lenD, slotSeq, slotLst, truD, List.length_cons, List.length_nil, if_true, if_false, Bool.false_eq_true, reduceIte, mthHR, mthR, mtD, slD, seqOf, wipeE, Tgs.len, Pv.unpack, Option.map_none, Option.bind_none, augD, revD, List.map_cons, List.map_nil, isiD, ty, List.any_cons, List.any_nil, e2])).trans ?_
  refine (sq (ρ1 := [.val (.tup bs), .val (.int w), .val (.tup FR), .val (.int bs.length), .val (.int (v % 256)), .val (.int (v / 256)), .no]) (st1 := st) (by simp [exSs, exS, evE, evEs, evT, Pv.evI, evC, evTg, evTgs, evO, vv, up, one, retE, Option.bind_eq_bind, Option.bind_some, Option.map_some, Option.pure_def, List.getElem?_cons_zero, List.getElem?_cons_succ, List.set_cons_zero, List.set_cons_succ, asgN, asgSub, setIx, opD, addD, mulD, biD, cmpD, ixD, ixL, lenD, slotSeq, slotLst, truD, List.length_cons, List.length_nil, if_true, if_false, Bool.false_eq_true, reduceIte, mthHR, mthR, mtD, slD, seqOf, wipeE, Tgs.len, Pv.unpack, Option.map_none, Option.bind_none, augD, revD, List.map_cons, List.map_nil, isiD, ty, List.any_cons, List.any_nil, e3, show Nat.log2 256 < 9000 by decide])).trans ?_
  refine (sq (ρ1 := [.val (.tup bs), .val (.int w), .val (.tup FR), .val (.int bs.length), .val (.int (v % 256)), .val (.int (v / 256)), .val (.tup os)]) (st1 := st) (by simp [exSs, exS, evE, evEs, evT, Pv.evI, evC, evTg, evTgs, evO, vv, up, one, retE, Option.bind_eq_bind, Option.bind_some, Option.map_some, Option.pure_def, List.getElem?_cons_zero, List.getElem?_cons_succ, List.set_cons_zero, List.set_cons_succ, asgN, asgSub, setIx, opD, addD, mulD, biD, cmpD, ixD, ixL, lenD, slotSeq, slotLst, truD, List.length_cons, List.length_nil, if_true, if_false, Bool.false_eq_true, reduceIte, mthHR, mthR, mtD, slD, seqOf, wipeE, Tgs.len, Pv.unpack, Option.map_none, Option.bind_none, augD, revD, List.map_cons, List.map_nil, isiD, ty, List.any_cons, List.any_nil, e1])).trans ?_
  have le : (FR.length : Int) = (bs.length : Int) + os.length + 2 := by rw [fl]; omega
  have lst : [] ++ [pr (.tup FR)] ++ [pr (.int ((bs.length : Int) + os.length + 2))] = [D.tup [.tup FR, .tup FR], .tup [.int ((bs.length : Int) + os.length + 2), .int ((bs.length : Int) + os.length + 2)]] := rfl
  rw [lst]
  have t1 : evE (T (k + 3)) (.op .Add (.op .Add (.v 6) (.bi .tuple (.cons (.v 0) .nil))) (.tup (.cons (.v 4) (.cons (.v 5) .nil)))) [.val (.tup bs), .val (.int w), .val (.tup FR), .val (.int bs.length), .val (.int (v % 256)), .val (.int (v / 256)), .val (.tup os)] st = some (false, .tup FR, [.val (.tup bs), .val (.int w), .val (.tup FR), .val (.int bs.length), .val (.int (v % 256)), .val (.int (v / 256)), .val (.tup os)], st) := by
    rw [← hF]
    simp [exSs, exS, evE, evEs, evT, Pv.evI, evC, evTg, evTgs, evO, vv, up, one, retE, Option.bind_eq_bind, Option.bind_some, Option.map_some, Option.pure_def, List.getElem?_cons_zero, List.getElem?_cons_succ, List.set_cons_zero, List.set_cons_succ, asgN, asgSub, setIx, opD, addD, mulD, biD, cmpD, ixD, ixL, lenD, slotSeq, slotLst, truD, List.length_cons, List.length_nil, if_true, if_false, Bool.false_eq_true, reduceIte, mthHR, mthR, mtD, slD, seqOf, wipeE, Tgs.len, Pv.unpack, Option.map_none, Option.bind_none, augD, revD, List.map_cons, List.map_nil, isiD, ty, List.any_cons, List.any_nil, l1, l2, m2]
  generalize E.op .Add (.op .Add (.v 6) (.bi .tuple (.cons (.v 0) .nil))) (.tup (.cons (.v 4) (.cons (.v 5) .nil))) = X1 at t1 ⊢
  exact sqr (by simp [exSs, exS, evE, evEs, evT, Pv.evI, evC, evTg, evTgs, evO, vv, up, one, retE, Option.bind_eq_bind, Option.bind_some, Option.map_some, Option.pure_def, List.getElem?_cons_zero, List.getElem?_cons_succ, List.set_cons_zero, List.set_cons_succ, asgN, asgSub, setIx, opD, addD, mulD, biD, cmpD, ixD, ixL, lenD, slotSeq, slotLst, truD, List.length_cons, List.length_nil, if_true, if_false, Bool.false_eq_true, reduceIte, mthHR, mthR, mtD, slD, seqOf, wipeE, Tgs.len, Pv.unpack, Option.map_none, Option.bind_none, augD, revD, List.map_cons, List.map_nil, isiD, ty, List.any_cons, List.any_nil, t1, le, m2])
def wl : Int → List Int → List Int
  | _, [] => []
  | k, x :: r => (k + 1) * x :: wl (k + 1) r
theorem wl_sum : ∀ (xs : List Int) (k : Int), (wl k xs).sum = ws k xs
  | [], _ => rfl
  | x :: r, k => by simp only [wl, ws, List.sum_cons, wl_sum r (k + 1)]
theorem ints_lo : ∀ zs : List Int, intsOf (lo zs) = some zs
  | [] => rfl
  | z :: r => by
    show intsOf (.int z :: lo r) = _
    simp only [intsOf, ints_lo r, Option.map_some]
theorem weigh_lc {k : Nat} (a : Sl) (st : Sto) : ∀ (xs : List Int) (n : Nat) (acc : List D), octs xs → n + xs.length ≤ 1000000 → acc.length + xs.length ≤ 1000000 →
    lcL (evTg (T k) (.tup (.cons (.n 1) (.cons (.n 2) .nil)))) (evC (T k) .no) (fun ρ st => vv (evE (T k) law_weigh_e0 ρ st)) [1, 2] (enumL n (lo xs)) acc [a, .no, .no] st = some (acc ++ lo (wl n xs), [a, .no, .no], st)
  | [], n, acc, _, _, _ => by simp [lcL, enumL, wl]
  | x :: r, n, acc, hx, hl, ha => by
    have h0 := hx x List.mem_cons_self
    simp only [List.length_cons] at hl ha
    have ih := weigh_lc (k := k) a st r (n + 1) (acc ++ [.int (((n : Int) + 1) * x)]) hx.tail (by omega) (by simp; omega)
    have hb1 : Big ((n : Int) + 1) := big_small (by omega)
    have hb2 : Big x := big_small (by omega)
    have hlt : acc.length < lim := by unfold lim; omega
    have t1 : evTg (T k) (.tup (.cons (.n 1) (.cons (.n 2) .nil))) (.tup [.int (n : Int), .int x]) [a, .no, .no] st = some ([a, .val (.int (n : Int)), .val (.int x)], st) := by simp [exSs, exS, evE, evEs, evT, Pv.evI, evC, evTg, evTgs, evO, vv, up, one, retE, Option.bind_eq_bind, Option.bind_some, Option.map_some, Option.pure_def, List.getElem?_cons_zero, List.getElem?_cons_succ, List.set_cons_zero, List.set_cons_succ, asgN, asgSub, setIx, opD, addD, mulD, biD, cmpD, ixD, ixL, lenD, slotSeq, slotLst, truD, List.length_cons, List.length_nil, if_true, if_false, Bool.false_eq_true, reduceIte, mthHR, mthR, mtD, slD, seqOf, wipeE, Tgs.len, Pv.unpack, Option.map_none, Option.bind_none, augD, revD, List.map_cons, List.map_nil, isiD, ty, List.any_cons, List.any_nil, evTgs]
    have t2 : vv (evE (T k) law_weigh_e0 [a, .val (.int (n : Int)), .val (.int x)] st) = some (.int (((n : Int) + 1) * x), [a, .val (.int (n : Int)), .val (.int x)], st) := by
      simp [law_weigh_e0, exSs, exS, evE, evEs, evT, Pv.evI, evC, evTg, evTgs, evO, vv, up, one, retE, Option.bind_eq_bind, Option.bind_some, Option.map_some, Option.pure_def, List.getElem?_cons_zero, List.getElem?_cons_succ, List.set_cons_zero, List.set_cons_succ, asgN, asgSub, setIx, opD, addD, mulD, biD, cmpD, ixD, ixL, lenD, slotSeq, slotLst, truD, List.length_cons, List.length_nil, if_true, if_false, Bool.false_eq_true, reduceIte, mthHR, mthR, mtD, slD, seqOf, wipeE, Tgs.len, Pv.unpack, Option.map_none, Option.bind_none, augD, revD, List.map_cons, List.map_nil, isiD, ty, List.any_cons, List.any_nil, hb1, hb2]
    show lcL _ _ _ _ (.tup [.int (n : Int), .int x] :: enumL (n + 1) (lo r)) _ _ _ = _
    simp only [lcL, t1, t2, evC, Option.bind_eq_bind, Option.bind_some, if_true, hlt, wipeE, List.set_cons_zero, List.set_cons_succ]
    simp only [evC] at ih
    rw [ih]
    simp only [wl, List.map_cons, List.append_assoc, List.singleton_append, Int.natCast_add, Int.natCast_one]
theorem weigh_ok (k : Nat) (st : Sto) (xs : List Int) (hx : octs xs) (hl : xs.length ≤ 100000) : Fc (k + 1) "_law_weigh" [.tup (lo xs)] st = some (false, .int (ws 0 xs), st) := by
  have e := weigh_lc (k := k) (.val (.tup (lo xs))) st xs 0 [] hx (by omega) (by simp; omega)
  rw [List.nil_append, Int.natCast_zero] at e
  have lc : evE (T k) (.lc law_weigh_e0 (.tup (.cons (.n 1) (.cons (.n 2) .nil))) (.enum (.v 0)) .no [("at", 1), ("octet", 2)]) [.val (.tup (lo xs)), .no, .no] st = some (true, .lst (lo (wl 0 xs)), [.val (.tup (lo xs)), .no, .no], st) :=
    ev_lc (xs := enumL 0 (lo xs)) (ρ1 := [.val (.tup (lo xs)), .no, .no]) (st1 := st) (by simp [exSs, exS, evE, evEs, evT, Pv.evI, evC, evTg, evTgs, evO, vv, up, one, retE, Option.bind_eq_bind, Option.bind_some, Option.map_some, Option.pure_def, List.getElem?_cons_zero, List.getElem?_cons_succ, List.set_cons_zero, List.set_cons_succ, asgN, asgSub, setIx, opD, addD, mulD, biD, cmpD, ixD, ixL, lenD, slotSeq, slotLst, truD, List.length_cons, List.length_nil, if_true, if_false, Bool.false_eq_true, reduceIte, mthHR, mthR, mtD, slD, seqOf, wipeE, Tgs.len, Pv.unpack, Option.map_none, Option.bind_none, augD, revD, List.map_cons, List.map_nil, isiD, ty, List.any_cons, List.any_nil]) e
  have il := ints_lo (wl 0 xs)
  have su := wl_sum xs 0
  rw [q_law_weigh]
  refine run_rt (ρ1 := [.val (.tup (lo xs)), .no, .no]) (n := 2) rfl rfl ?_
  unfold b_law_weigh
  generalize E.lc law_weigh_e0 _ _ _ _ = LC at lc ⊢
  generalize lo (wl 0 xs) = zs at lc il
  exact sqr (by simp [exSs, exS, evE, evEs, evT, Pv.evI, evC, evTg, evTgs, evO, vv, up, one, retE, Option.bind_eq_bind, Option.bind_some, Option.map_some, Option.pure_def, List.getElem?_cons_zero, List.getElem?_cons_succ, List.set_cons_zero, List.set_cons_succ, asgN, asgSub, setIx, opD, addD, mulD, biD, cmpD, ixD, ixL, lenD, slotSeq, slotLst, truD, List.length_cons, List.length_nil, if_true, if_false, Bool.false_eq_true, reduceIte, mthHR, mthR, mtD, slD, seqOf, wipeE, Tgs.len, Pv.unpack, Option.map_none, Option.bind_none, augD, revD, List.map_cons, List.map_nil, isiD, ty, List.any_cons, List.any_nil, lc, il, su])
end Lk68

namespace Lk68
open PySem PySem.Spec PyProof.Rows L2 Pv
theorem ws_rep2 (o : Int) : ∀ (m : Nat) (k : Int), 2 * ws k (List.replicate m o) = o * (2 * k * m + m * (m + 1))
  | 0, k => by simp [ws]
  | m + 1, k => by
    have ih := ws_rep2 o m (k + 1)
    simp only [List.replicate_succ, ws, Int.natCast_add, Int.natCast_one]
    grind
theorem even_prod (m : Nat) : ∃ j : Int, (m : Int) * (m + 1) = 2 * j := by
  induction m with
  | zero => exact ⟨0, by simp⟩
  | succ m ih =>
    obtain ⟨j, hj⟩ := ih
    refine ⟨j + m + 1, ?_⟩
    simp only [Int.natCast_add, Int.natCast_one]
    grind
theorem ws_rep (o : Int) (m : Nat) : ws 0 (List.replicate m o) = o * ((m : Int) * (m + 1) / 2) := by
  obtain ⟨j, hj⟩ := even_prod m
  have h := ws_rep2 o m 0
  rw [hj] at h ⊢
  rw [Int.mul_ediv_cancel_left _ (by decide)]
  grind
def upto (w : Nat) : List Int := (List.range w).map fun (i : Nat) => (i : Int)
theorem upto_succ (w : Nat) : upto (w + 1) = upto w ++ [(w : Int)] := by
  unfold upto
  rw [List.range_succ, List.map_append]; rfl
theorem upto_len (w : Nat) : (upto w).length = w := by simp [upto]
theorem ws_upto3 : ∀ w : Nat, 3 * ws 0 (upto w) = ((w : Int) - 1) * w * (w + 1)
  | 0 => by simp [upto, ws]
  | w + 1 => by
    have ih := ws_upto3 w
    rw [upto_succ, ws_app, upto_len]
    simp only [ws, Int.natCast_add, Int.natCast_one]
    grind
theorem sum_upto2 : ∀ w : Nat, 2 * (upto w).sum = (w : Int) * (w - 1)
  | 0 => by simp [upto]
  | w + 1 => by
    have ih := sum_upto2 w
    rw [upto_succ, List.sum_append]
    simp only [List.sum_cons, List.sum_nil, Int.natCast_add, Int.natCast_one]
    grind
theorem ws_upto (w : Nat) : ((w : Int) - 1) * w * (w + 1) / 3 = ws 0 (upto w) := by
  rw [← ws_upto3, Int.mul_ediv_cancel_left _ (by decide)]
theorem sum_upto (w : Nat) : (w : Int) * (w - 1) / 2 = (upto w).sum := by
  rw [← sum_upto2, Int.mul_ediv_cancel_left _ (by decide)]
def reps (r : Nat) (xs : List Int) : List Int := (List.replicate r xs).flatten
theorem reps_succ (r : Nat) (xs : List Int) : reps (r + 1) xs = reps r xs ++ xs := by
  unfold reps
  rw [List.replicate_succ', List.flatten_append]
  simp
theorem reps_len (xs : List Int) : ∀ r : Nat, (reps r xs).length = r * xs.length
  | 0 => by simp [reps]
  | r + 1 => by rw [reps_succ, List.length_append, reps_len xs r, Nat.succ_mul]
theorem ws_reps2 (xs : List Int) : ∀ r : Nat, 2 * ws 0 (reps r xs) = 2 * (r * ws 0 xs) + xs.length * xs.sum * (r * (r - 1))
  | 0 => by simp [reps, ws]
  | r + 1 => by
    have ih := ws_reps2 xs r
    rw [reps_succ, ws_app, reps_len, ws_shift xs (0 + ((r * xs.length : Nat) : Int))]
    simp only [Int.natCast_add, Int.natCast_one, Int.natCast_mul]
    grind
theorem even_prod2 (m : Nat) : ∃ j : Int, (m : Int) * (m - 1) = 2 * j := by
  induction m with
  | zero => exact ⟨0, by simp⟩
  | succ m ih =>
    obtain ⟨j, hj⟩ := ih
    refine ⟨j + m, ?_⟩
    simp only [Int.natCast_add, Int.natCast_one]
    grind
theorem ws_reps (xs : List Int) (r : Nat) : ws 0 (reps r xs) = r * ws 0 xs + xs.length * xs.sum * ((r : Int) * (r - 1) / 2) := by
  obtain ⟨j, hj⟩ := even_prod2 r
  have h := ws_reps2 xs r
  rw [hj] at h ⊢
  rw [Int.mul_ediv_cancel_left _ (by decide)]
  grind
theorem ws_rev : ∀ xs : List Int, ws 0 xs.reverse = ((xs.length : Int) + 1) * xs.sum - ws 0 xs
  | [] => by simp [ws]
  | x :: r => by
    have ih := ws_rev r
    have sh := ws_shift r 1
    rw [List.reverse_cons, ws_app, ih, List.length_reverse]
    simp only [ws, List.length_cons, List.sum_cons, Int.natCast_add, Int.natCast_one, Int.zero_add]
    rw [sh]
    grind
theorem ws_set : ∀ (xs : List Int) (i : Nat) (v a k : Int), xs[i]? = some a → ws k (xs.set i v) = ws k xs + (k + i + 1) * (v - a)
  | [], _, _, _, _, h => by simp at h
  | x :: r, 0, v, a, k, h => by
    simp only [List.getElem?_cons_zero, Option.some.injEq] at h
    subst h
    simp only [List.set_cons_zero, ws, Int.natCast_zero]
    grind
  | x :: r, i + 1, v, a, k, h => by
    simp only [List.getElem?_cons_succ] at h
    have ih := ws_set r i v a (k + 1) h
    simp only [List.set_cons_succ, ws, ih, Int.natCast_add, Int.natCast_one]
    grind
theorem ws_swap (xs : List Int) (i j : Nat) (a b : Int) (hi : xs[i]? = some a) (hj : xs[j]? = some b) : ws 0 ((xs.set i b).set j a) = ws 0 xs + ((i : Int) - j) * (b - a) := by
  by_cases h : i = j
  · subst h
    have e : a = b := Option.some.inj (hi.symm.trans hj)
    subst e
    have hl := (List.getElem?_eq_some_iff.mp hi).1
    rw [ws_set (xs.set i a) i a a 0 (by rw [List.getElem?_set_self hl]), ws_set xs i a a 0 hi]
    grind
  · rw [ws_set (xs.set i b) j a b 0 (by rw [List.getElem?_set_ne h]; exact hj), ws_set xs i b a 0 hi]
    grind
end Lk68

namespace Lk68
open PySem PySem.Spec PyProof.Rows L2 Pv
theorem Good.cat {ps qs : List D} {n m : Nat} (h : Good ps n) (h' : Good qs m) : Good (ps ++ qs) (n + m) :=
  ⟨fun x hx => (List.mem_append.mp hx).elim (h.1 x) (h'.1 x), by have := h.2; have := h'.2; rw [List.length_append]; omega⟩
theorem ok_int (i : Int) : Ok (.int i) := ⟨.int i, by simp [wt]⟩
/-- not less than nought, below a power of two -/
def Bd (a : Int) (p : Nat) : Prop := 0 ≤ a ∧ a < 2 ^ p
theorem Bd.mul {a b : Int} {p q : Nat} (h : Bd a p) (h' : Bd b q) : Bd (a * b) (p + q) := by
  refine ⟨Int.mul_nonneg h.1 h'.1, ?_⟩
  rw [Int.pow_add]
  have h1 : a * b ≤ a * 2 ^ q := Int.mul_le_mul_of_nonneg_left (Int.le_of_lt h'.2) h.1
  have h2 : a * 2 ^ q < 2 ^ p * 2 ^ q := Int.mul_lt_mul_of_pos_right h.2 (Int.pow_pos (by decide))
  omega
theorem Bd.div {a : Int} {p : Nat} (h : Bd a p) {c : Int} (hc : 0 < c) : Bd (a / c) p :=
  ⟨Int.ediv_nonneg h.1 (by omega), Int.lt_of_le_of_lt (Int.ediv_le_self c h.1) h.2⟩
theorem Bd.big {a : Int} {p : Nat} (h : Bd a p) (hp : p ≤ 300000 := by decide) : Big a := big_of (n := p) (by omega) (by
  have h1 := h.1
  have h2 := h.2
  have e : (2 : Int) ^ p = ((2 ^ p : Nat) : Int) := by simp
  rw [e] at h2
  omega)
theorem bd_small {a : Int} (h0 : 0 ≤ a) (h : a < 1048576) : Bd a 20 := ⟨h0, by rw [show (2 : Int) ^ 20 = 1048576 by decide]; exact h⟩
theorem b4_run {s0 s4 s5 s6 s7 s8 s9 s10 s11 s12 s13 s14 s15 s16 s17 s18 s19 : Sl} {st st1 st2 st3 : Sto} {ps p : List D} {most r1 r2 o v : Int} {m : Nat}
    (e1 : Fc 11 "_law_any" [.hd 1, .int most] st = some (false, .int r1, st1)) (hm : 1 + r1 = (m : Int)) (e2 : Fc 11 "_law_any" [.hd 1, .int 256] st1 = some (false, .int r2, st2)) (e3 : Fc 11 "_law_of" [.hd 1, .lst [.int 0, .int 1, .int 255, .int r2]] st2 = some (false, .int o, st3))
    (b1 : Big (m : Int)) (b2 : Big ((m : Int) + 1)) (b3 : Big o) (b4 : Big ((m : Int) * ((m : Int) + 1) / 2)) (hml : m ≤ 5000)
    (su : Fc 11 "sum_of_octets" [.tup (List.replicate m (.int o))] st3 = some (false, .int v, st3)) (re : Fc 11 "_law_rest" [.int (o * ((m : Int) * ((m : Int) + 1) / 2))] st3 = some (false, .int v, st3))
    (fr : Fc 11 "_law_frame_pairs" [.tup (List.replicate m (.int o)), .int (o * ((m : Int) * ((m : Int) + 1) / 2))] st3 = some (true, .lst p, st3)) (hl : ps.length + 1 + p.length ≤ 10000) :
    exSs (T 11) law_b4 [s0, .val (.hd 1), .own ps, .val (.int most), s4, s5, s6, s7, s8, s9, s10, s11, s12, s13, s14, s15, s16, s17, s18, s19] st = some (.nx, [s0, .val (.hd 1), .own (ps ++ [pr (.int v)] ++ p), .val (.int most), .val (.int m), .val (.int o), .val (.int (o * ((m : Int) * ((m : Int) + 1) / 2))), s7, s8, s9, s10, s11, s12, s13, s14, s15, s16, s17, s18, s19], st3) := by
  have z0 : (-1000000000 : Int) ≤ (m : Int) := by omega
  have z1 : (m : Int) ≤ 1000000000 := by omega
  have z2 : m ≤ lim := by unfold lim; omega
  have m1 : (1 : Nat) ≤ lim := by decide
  have m2 : (2 : Nat) ≤ lim := by decide
  have m4 : (4 : Nat) ≤ lim := by decide
  have l1 : ps.length < lim := by unfold lim; omega
  have l2 : (ps ++ [pr (.int v)]).length + p.length ≤ lim := by rw [List.length_append, List.length_singleton]; unfold lim; omega
  unfold law_b4
  refine (sq (ρ1 := [s0, .val (.hd 1), .own ps, .val (.int most), .val (.int m), .val (.int o), s6, s7, s8, s9, s10, s11, s12, s13, s14, s15, s16, s17, s18, s19]) (st1 := st3) (by simp [exSs, exS, evE, evEs, evT, Pv.evI, evC, evTg, evTgs, evO, vv, up, one, retE, Option.bind_eq_bind, Option.bind_some, Option.map_some, Option.pure_def, List.getElem?_cons_zero, List.getElem?_cons_succ, List.set_cons_zero, List.set_cons_succ, asgN, asgSub, setIx, opD, addD, mulD, biD, cmpD, ixD, ixL, lenD, slotSeq, slotLst, truD, List.length_cons, List.length_nil, if_true, if_false, Bool.false_eq_true, reduceIte, mthHR, mthR, mtD, slD, seqOf, wipeE, Tgs.len, Pv.unpack, Option.map_none, Option.bind_none, augD, revD, List.map_cons, List.map_nil, isiD, ty, List.any_cons, List.any_nil, e1, e2, e3, hm, m4])).trans ?_
  refine (sq (ρ1 := [s0, .val (.hd 1), .own ps, .val (.int most), .val (.int m), .val (.int o), .val (.int (o * ((m : Int) * ((m : Int) + 1) / 2))), s7, s8, s9, s10, s11, s12, s13, s14, s15, s16, s17, s18, s19]) (st1 := st3) (by simp [exSs, exS, evE, evEs, evT, Pv.evI, evC, evTg, evTgs, evO, vv, up, one, retE, Option.bind_eq_bind, Option.bind_some, Option.map_some, Option.pure_def, List.getElem?_cons_zero, List.getElem?_cons_succ, List.set_cons_zero, List.set_cons_succ, asgN, asgSub, setIx, opD, addD, mulD, biD, cmpD, ixD, ixL, lenD, slotSeq, slotLst, truD, List.length_cons, List.length_nil, if_true, if_false, Bool.false_eq_true, reduceIte, mthHR, mthR, mtD, slD, seqOf, wipeE, Tgs.len, Pv.unpack, Option.map_none, Option.bind_none, augD, revD, List.map_cons, List.map_nil, isiD, ty, List.any_cons, List.any_nil, b1, b2, b3, b4, show Nat.log2 2 < 9000 by decide])).trans ?_
  generalize o * ((m : Int) * ((m : Int) + 1) / 2) = w at re fr ⊢
  refine (sq (ρ1 := [s0, .val (.hd 1), .own (ps ++ [pr (.int v)]), .val (.int most), .val (.int m), .val (.int o), .val (.int w), s7, s8, s9, s10, s11, s12, s13, s14, s15, s16, s17, s18, s19]) (st1 := st3) (by simp [exSs, exS, evE, evEs, evT, Pv.evI, evC, evTg, evTgs, evO, vv, up, one, retE, Option.bind_eq_bind, Option.bind_some, Option.map_some, Option.pure_def, List.getElem?_cons_zero, List.getElem?_cons_succ, List.set_cons_zero, List.set_cons_succ, asgN, asgSub, setIx, opD, addD, mulD, biD, cmpD, ixD, ixL, lenD, slotSeq, slotLst, truD, List.length_cons, List.length_nil, if_true, if_false, Bool.false_eq_true, reduceIte, mthHR, mthR, mtD, slD, seqOf, wipeE, Tgs.len, Pv.unpack, Option.map_none, Option.bind_none, augD, revD, List.map_cons, List.map_nil, isiD, ty, List.any_cons, List.any_nil, z0, z1, z2, m1, m2, su, re, l1, pr])).trans ?_
  generalize ps ++ [pr (.int v)] = P at l2 ⊢
  exact sq1 (by simp [exSs, exS, evE, evEs, evT, Pv.evI, evC, evTg, evTgs, evO, vv, up, one, retE, Option.bind_eq_bind, Option.bind_some, Option.map_some, Option.pure_def, List.getElem?_cons_zero, List.getElem?_cons_succ, List.set_cons_zero, List.set_cons_succ, asgN, asgSub, setIx, opD, addD, mulD, biD, cmpD, ixD, ixL, lenD, slotSeq, slotLst, truD, List.length_cons, List.length_nil, if_true, if_false, Bool.false_eq_true, reduceIte, mthHR, mthR, mtD, slD, seqOf, wipeE, Tgs.len, Pv.unpack, Option.map_none, Option.bind_none, augD, revD, List.map_cons, List.map_nil, isiD, ty, List.any_cons, List.any_nil, z0, z1, z2, m1, fr, l2])
theorem lo_rep (m : Nat) (o : Int) : lo (List.replicate m o) = List.replicate m (.int o) := by simp [lo]
theorem b4_ok (s0 s4 s5 s6 s7 s8 s9 s10 s11 s12 s13 s14 s15 s16 s17 s18 s19 : Sl) (st : Sto) (hst : Deal st) (ps : List D) (n : Nat) (hg : Good ps n) (hn : n ≤ 500) (most : Int) (h1 : 1 ≤ most) (h2 : most ≤ 4000) :
    ∃ ps' u4 u5 u6 st', exSs (T 11) law_b4 [s0, .val (.hd 1), .own ps, .val (.int most), s4, s5, s6, s7, s8, s9, s10, s11, s12, s13, s14, s15, s16, s17, s18, s19] st = some (.nx, [s0, .val (.hd 1), .own ps', .val (.int most), u4, u5, u6, s7, s8, s9, s10, s11, s12, s13, s14, s15, s16, s17, s18, s19], st') ∧ Good ps' (n + 3) ∧ Deal st' := by
  obtain ⟨r1, st1, e1, r10, r11, d1⟩ := anyF 10 (b := most) (by omega) (by omega) hst
  obtain ⟨m, hm⟩ := Int.eq_ofNat_of_zero_le (show 0 ≤ 1 + r1 by omega)
  obtain ⟨r2, st2, e2, r20, r21, d2⟩ := anyF 10 (b := 256) (by decide) (by decide) d1
  obtain ⟨x, st3, e3, hx, d3⟩ := ofOk 9 d2 (xs := [.int 0, .int 1, .int 255, .int r2]) (by simp) (by simp)
  have hxi : ∃ o : Int, x = .int o ∧ 0 ≤ o ∧ o < 256 := by
    simp only [List.mem_cons, List.not_mem_nil, or_false] at hx
    rcases hx with rfl | rfl | rfl | rfl
    · exact ⟨_, rfl, by decide, by decide⟩
    · exact ⟨_, rfl, by decide, by decide⟩
    · exact ⟨_, rfl, by decide, by decide⟩
    · exact ⟨_, rfl, r20, r21⟩
  obtain ⟨o, rfl, o0, o1⟩ := hxi
  have hml : m ≤ 5000 := by omega
  have hoc : octs (List.replicate m o) := fun y hy => by rw [(List.mem_replicate.mp hy).2]; exact ⟨o0, o1⟩
  have hrl : (List.replicate m o).length ≤ 80000 := by simp; omega
  have su := sum_ok 10 st3 _ hoc (by omega)
  have re := rest_ok 10 st3 (o * ((m : Int) * ((m : Int) + 1) / 2))
  obtain ⟨p, fr, gp⟩ := fpairs_ok 7 st3 _ hoc hrl (o * ((m : Int) * ((m : Int) + 1) / 2)) (by rw [ws_rep])
  rw [lo_rep, ws_rep] at su
  rw [lo_rep] at fr
  simp only [Nat.reduceAdd] at e1 e2 e3 su re fr
  have c1 : Bd (m : Int) 20 := bd_small (by omega) (by omega)
  have c2 : Bd ((m : Int) + 1) 20 := bd_small (by omega) (by omega)
  have gl := hg.2
  have gpl := gp.2
  have g := (hg.app (ok_int (o * ((m : Int) * ((m : Int) + 1) / 2) % 65521))).cat gp
  exact ⟨_, _, _, _, st3, b4_run e1 hm e2 e3 c1.big c2.big (bd_small o0 (by omega)).big ((c1.mul c2).div (by decide)).big hml su re fr (by omega), g.mono (by omega), d3⟩
end Lk68

namespace Lk68
open PySem PySem.Spec PyProof.Rows L2 Pv
theorem rng_upto (w : Nat) : rngL 0 (w : Int) 1 = lo (upto w) := by
  have h := rng_len (a := 0) (b := (w : Int))
  apply List.ext_getElem?
  intro i
  by_cases hi : i < w
  · have h1 : i < (rngL 0 (w : Int) 1).length := by rw [h]; omega
    have e := rng_at (List.getElem?_eq_getElem h1)
    rw [List.getElem?_eq_getElem h1, e]
    simp [lo, upto, hi]
  · rw [List.getElem?_eq_none (by rw [h]; omega), List.getElem?_eq_none (by simp [lo, upto]; omega)]
theorem upto_octs {w : Nat} (h : w ≤ 256) : octs (upto w) := fun x hx => by
  simp only [upto, List.mem_map, List.mem_range] at hx
  obtain ⟨i, hi, rfl⟩ := hx
  omega
theorem reps_octs {xs : List Int} (h : octs xs) : ∀ r : Nat, octs (reps r xs)
  | 0 => fun x hx => by simp [reps] at hx
  | r + 1 => fun x hx => by
    rw [reps_succ] at hx
    exact (List.mem_append.mp hx).elim (reps_octs h r x) (h x)
theorem lo_reps (xs : List Int) : ∀ r : Nat, (List.replicate r (lo xs)).flatten = lo (reps r xs) := fun r => by
  simp only [lo, reps]
  rw [List.map_flatten, List.map_replicate]
theorem b3_run {s0 s3 s4 s5 s6 s8 s9 s10 s11 s12 s13 s14 s15 s16 s17 s18 s19 tn : Sl} {st st1 st2 : Sto} {ps p rg rp : List D} {r1 r2 v1 v2 on to : Int} {w r : Nat}
    (e1 : Fc 11 "_law_any" [.hd 1, .int 256] st = some (false, .int r1, st1)) (hw : 1 + r1 = (w : Int)) (e2 : Fc 11 "_law_any" [.hd 1, .int 9] st1 = some (false, .int r2, st2)) (hr : 1 + r2 = (r : Int))
    (hwl : w ≤ 256) (hrl : r ≤ 9) (b1 : Big ((w : Int) - 1)) (b2 : Big (w : Int)) (b3 : Big (((w : Int) - 1) * w)) (b4 : Big ((w : Int) + 1)) (b5 : Big (r : Int)) (b6 : Big ((r : Int) - 1)) (b7 : Big on) (b8 : Big to) (b9 : Big ((w : Int) * to)) (b10 : Big ((r : Int) * ((r : Int) - 1) / 2))
    (ho : ((w : Int) - 1) * w * (w + 1) / 3 = on) (ht : (w : Int) * (w - 1) / 2 = to) (hrg : rngL 0 (w : Int) 1 = rg) (hrgl : rg.length = w) (hrp : (List.replicate r rg).flatten = rp)
    (su1 : Fc 11 "sum_of_octets" [.tup rg] st2 = some (false, .int v1, st2)) (re1 : Fc 11 "_law_rest" [.int on] st2 = some (false, .int v1, st2))
    (su2 : Fc 11 "sum_of_octets" [.tup rp] st2 = some (false, .int v2, st2)) (re2 : Fc 11 "_law_rest" [.int ((r : Int) * on + (w : Int) * to * ((r : Int) * ((r : Int) - 1) / 2))] st2 = some (false, .int v2, st2))
    (fr : Fc 11 "_law_frame_pairs" [.tup rp, .int ((r : Int) * on + (w : Int) * to * ((r : Int) * ((r : Int) - 1) / 2))] st2 = some (true, .lst p, st2)) (hl : ps.length + 2 + p.length ≤ 10000) :
    exSs (T 11) law_b3 [s0, .val (.hd 1), .own ps, s3, s4, s5, s6, tn, s8, s9, s10, s11, s12, s13, s14, s15, s16, s17, s18, s19] st = some (.nx, [s0, .val (.hd 1), .own (ps ++ [pr (.int v1)] ++ [pr (.int v2)] ++ p), s3, s4, s5, .val (.int ((r : Int) * on + (w : Int) * to * ((r : Int) * ((r : Int) - 1) / 2))), tn, .val (.int w), .val (.int r), .val (.int on), .val (.int to), s12, s13, s14, s15, s16, s17, s18, s19], st2) := by
  have z0 : (-1000000000 : Int) ≤ (r : Int) := by omega
  have z1 : (r : Int) ≤ 1000000000 := by omega
  have z2 : rg.length * r ≤ lim := by
    rw [hrgl]
    have : w * r ≤ 256 * 9 := Nat.mul_le_mul hwl hrl
    unfold lim; omega
  have wl : w ≤ lim := by unfold lim; omega
  have rgl : rg.length ≤ lim := by omega
  have m2 : (2 : Nat) ≤ lim := by decide
  have l1 : ps.length < lim := by unfold lim; omega
  have l2 : (ps ++ [pr (.int v1)]).length < lim := by rw [List.length_append, List.length_singleton]; unfold lim; omega
  have l3 : (ps ++ [pr (.int v1)] ++ [pr (.int v2)]).length + p.length ≤ lim := by simp only [List.length_append, List.length_singleton]; unfold lim; omega
  have rd := rngD1 (n := (w : Int)) (by omega) (by omega)
  rw [hrg] at rd
  have d2 : Nat.log2 2 < 9000 := by decide
  have d3 : Nat.log2 3 < 9000 := by decide
  unfold law_b3
  refine (sq (ρ1 := [s0, .val (.hd 1), .own ps, s3, s4, s5, s6, tn, .val (.int w), .val (.int r), s10, s11, s12, s13, s14, s15, s16, s17, s18, s19]) (st1 := st2) (by simp [exSs, exS, evE, evEs, evT, Pv.evI, evC, evTg, evTgs, evO, vv, up, one, retE, Option.bind_eq_bind, Option.bind_some, Option.map_some, Option.pure_def, List.getElem?_cons_zero, List.getElem?_cons_succ, List.set_cons_zero, List.set_cons_succ, asgN, asgSub, setIx, opD, addD, mulD, biD, cmpD, ixD, ixL, lenD, slotSeq, slotLst, truD, List.length_cons, List.length_nil, if_true, if_false, Bool.false_eq_true, reduceIte, mthHR, mthR, mtD, slD, seqOf, wipeE, Tgs.len, Pv.unpack, Option.map_none, Option.bind_none, augD, revD, List.map_cons, List.map_nil, isiD, ty, List.any_cons, List.any_nil, e1, e2, hw, hr])).trans ?_
  refine (sq (ρ1 := [s0, .val (.hd 1), .own ps, s3, s4, s5, s6, tn, .val (.int w), .val (.int r), .val (.int on), .val (.int to), s12, s13, s14, s15, s16, s17, s18, s19]) (st1 := st2) (by simp [exSs, exS, evE, evEs, evT, Pv.evI, evC, evTg, evTgs, evO, vv, up, one, retE, Option.bind_eq_bind, Option.bind_some, Option.map_some, Option.pure_def, List.getElem?_cons_zero, List.getElem?_cons_succ, List.set_cons_zero, List.set_cons_succ, asgN, asgSub, setIx, opD, addD, mulD, biD, cmpD, ixD, ixL, lenD, slotSeq, slotLst, truD, List.length_cons, List.length_nil, if_true, if_false, Bool.false_eq_true, reduceIte, mthHR, mthR, mtD, slD, seqOf, wipeE, Tgs.len, Pv.unpack, Option.map_none, Option.bind_none, augD, revD, List.map_cons, List.map_nil, isiD, ty, List.any_cons, List.any_nil, b1, b2, b3, b4, d2, d3, ho, ht])).trans ?_
  refine (sq (ρ1 := [s0, .val (.hd 1), .own ps, s3, s4, s5, .val (.int ((r : Int) * on + (w : Int) * to * ((r : Int) * ((r : Int) - 1) / 2))), tn, .val (.int w), .val (.int r), .val (.int on), .val (.int to), s12, s13, s14, s15, s16, s17, s18, s19]) (st1 := st2) (by simp [exSs, exS, evE, evEs, evT, Pv.evI, evC, evTg, evTgs, evO, vv, up, one, retE, Option.bind_eq_bind, Option.bind_some, Option.map_some, Option.pure_def, List.getElem?_cons_zero, List.getElem?_cons_succ, List.set_cons_zero, List.set_cons_succ, asgN, asgSub, setIx, opD, addD, mulD, biD, cmpD, ixD, ixL, lenD, slotSeq, slotLst, truD, List.length_cons, List.length_nil, if_true, if_false, Bool.false_eq_true, reduceIte, mthHR, mthR, mtD, slD, seqOf, wipeE, Tgs.len, Pv.unpack, Option.map_none, Option.bind_none, augD, revD, List.map_cons, List.map_nil, isiD, ty, List.any_cons, List.any_nil, b2, b5, b6, b7, b8, b9, b10, d2])).trans ?_
  generalize (r : Int) * on + (w : Int) * to * ((r : Int) * ((r : Int) - 1) / 2) = wt' at re2 fr ⊢
  refine (sq (ρ1 := [s0, .val (.hd 1), .own (ps ++ [pr (.int v1)]), s3, s4, s5, .val (.int wt'), tn, .val (.int w), .val (.int r), .val (.int on), .val (.int to), s12, s13, s14, s15, s16, s17, s18, s19]) (st1 := st2) (by simp [exSs, exS, evE, evEs, evT, Pv.evI, evC, evTg, evTgs, evO, vv, up, one, retE, Option.bind_eq_bind, Option.bind_some, Option.map_some, Option.pure_def, List.getElem?_cons_zero, List.getElem?_cons_succ, List.set_cons_zero, List.set_cons_succ, asgN, asgSub, setIx, opD, addD, mulD, biD, cmpD, ixD, ixL, lenD, slotSeq, slotLst, truD, List.length_cons, List.length_nil, if_true, if_false, Bool.false_eq_true, reduceIte, mthHR, mthR, mtD, slD, seqOf, wipeE, Tgs.len, Pv.unpack, Option.map_none, Option.bind_none, augD, revD, List.map_cons, List.map_nil, isiD, ty, List.any_cons, List.any_nil, rd, rgl, su1, re1, l1, m2, pr])).trans ?_
  generalize ps ++ [pr (.int v1)] = P at l2 l3 ⊢
  refine (sq (ρ1 := [s0, .val (.hd 1), .own (P ++ [pr (.int v2)]), s3, s4, s5, .val (.int wt'), tn, .val (.int w), .val (.int r), .val (.int on), .val (.int to), s12, s13, s14, s15, s16, s17, s18, s19]) (st1 := st2) (by simp [exSs, exS, evE, evEs, evT, Pv.evI, evC, evTg, evTgs, evO, vv, up, one, retE, Option.bind_eq_bind, Option.bind_some, Option.map_some, Option.pure_def, List.getElem?_cons_zero, List.getElem?_cons_succ, List.set_cons_zero, List.set_cons_succ, asgN, asgSub, setIx, opD, addD, mulD, biD, cmpD, ixD, ixL, lenD, slotSeq, slotLst, truD, List.length_cons, List.length_nil, if_true, if_false, Bool.false_eq_true, reduceIte, mthHR, mthR, mtD, slD, seqOf, wipeE, Tgs.len, Pv.unpack, Option.map_none, Option.bind_none, augD, revD, List.map_cons, List.map_nil, isiD, ty, List.any_cons, List.any_nil, rd, rgl, z0, z1, z2, hrp, su2, re2, l2, m2, pr])).trans ?_
  generalize P ++ [pr (.int v2)] = P2 at l3 ⊢
  exact sq1 (by simp [exSs, exS, evE, evEs, evT, Pv.evI, evC, evTg, evTgs, evO, vv, up, one, retE, Option.bind_eq_bind, Option.bind_some, Option.map_some, Option.pure_def, List.getElem?_cons_zero, List.getElem?_cons_succ, List.set_cons_zero, List.set_cons_succ, asgN, asgSub, setIx, opD, addD, mulD, biD, cmpD, ixD, ixL, lenD, slotSeq, slotLst, truD, List.length_cons, List.length_nil, if_true, if_false, Bool.false_eq_true, reduceIte, mthHR, mthR, mtD, slD, seqOf, wipeE, Tgs.len, Pv.unpack, Option.map_none, Option.bind_none, augD, revD, List.map_cons, List.map_nil, isiD, ty, List.any_cons, List.any_nil, rd, rgl, z0, z1, z2, hrp, fr, l3])
theorem b3_ok (s0 s3 s4 s5 s6 s8 s9 s10 s11 s12 s13 s14 s15 s16 s17 s18 s19 tn : Sl) (st : Sto) (hst : Deal st) (ps : List D) (n : Nat) (hg : Good ps n) (hn : n ≤ 500) :
    ∃ ps' u6 u8 u9 u10 u11 st', exSs (T 11) law_b3 [s0, .val (.hd 1), .own ps, s3, s4, s5, s6, tn, s8, s9, s10, s11, s12, s13, s14, s15, s16, s17, s18, s19] st = some (.nx, [s0, .val (.hd 1), .own ps', s3, s4, s5, u6, tn, u8, u9, u10, u11, s12, s13, s14, s15, s16, s17, s18, s19], st') ∧ Good ps' (n + 4) ∧ Deal st' := by
  obtain ⟨r1, st1, e1, r10, r11, d1⟩ := anyF 10 (b := 256) (by decide) (by decide) hst
  obtain ⟨w, hw⟩ := Int.eq_ofNat_of_zero_le (show 0 ≤ 1 + r1 by omega)
  obtain ⟨r2, st2, e2, r20, r21, d2⟩ := anyF 10 (b := 9) (by decide) (by decide) d1
  obtain ⟨r, hr⟩ := Int.eq_ofNat_of_zero_le (show 0 ≤ 1 + r2 by omega)
  have hwl : w ≤ 256 := by omega
  have hrl : r ≤ 9 := by omega
  have oc := upto_octs hwl
  have ocr := reps_octs oc r
  have ul := upto_len w
  have rl : (reps r (upto w)).length ≤ 80000 := by
    rw [reps_len, ul]
    have : r * w ≤ 9 * 256 := Nat.mul_le_mul hrl hwl
    omega
  have su1 := sum_ok 10 st2 _ oc (by omega)
  have su2 := sum_ok 10 st2 _ ocr (by omega)
  have re1 := rest_ok 10 st2 (ws 0 (upto w))
  have hwr := ws_reps (upto w) r
  rw [ul] at hwr
  have re2 := rest_ok 10 st2 ((r : Int) * ws 0 (upto w) + (w : Int) * (upto w).sum * ((r : Int) * ((r : Int) - 1) / 2))
  obtain ⟨p, fr, gp⟩ := fpairs_ok 7 st2 _ ocr rl ((r : Int) * ws 0 (upto w) + (w : Int) * (upto w).sum * ((r : Int) * ((r : Int) - 1) / 2)) (by rw [hwr])
  rw [← hwr] at re2
  rw [hwr] at re2
  rw [hwr] at su2
  simp only [Nat.reduceAdd] at e1 e2 su1 su2 re1 re2 fr
  have c1 : Bd ((w : Int) - 1) 20 := bd_small (by omega) (by omega)
  have c2 : Bd (w : Int) 20 := bd_small (by omega) (by omega)
  have c3 : Bd ((w : Int) + 1) 20 := bd_small (by omega) (by omega)
  have c4 : Bd (r : Int) 20 := bd_small (by omega) (by omega)
  have c5 : Bd ((r : Int) - 1) 20 := bd_small (by omega) (by omega)
  have c6 : Bd (ws 0 (upto w)) 60 := by rw [← ws_upto]; exact ((c1.mul c2).mul c3).div (by decide)
  have c7 : Bd (upto w).sum 40 := by rw [← sum_upto]; exact (c2.mul c1).div (by decide)
  have gl := hg.2
  have gpl := gp.2
  have lrl : (lo (upto w)).length = w := by simp [lo, ul]
  have g := ((hg.app (ok_int (ws 0 (upto w) % 65521))).app (ok_int (((r : Int) * ws 0 (upto w) + (w : Int) * (upto w).sum * ((r : Int) * ((r : Int) - 1) / 2)) % 65521))).cat gp
  exact ⟨_, _, _, _, _, _, st2, b3_run e1 hw e2 hr hwl hrl c1.big c2.big (c1.mul c2).big c3.big c4.big c5.big c6.big c7.big (c2.mul c7).big ((c4.mul c5).div (by decide)).big (ws_upto w) (sum_upto w) (rng_upto w) lrl (lo_reps _ r) su1 re1 su2 re2 fr (by omega), g.mono (by omega), d2⟩
end Lk68

namespace Lk68
open PySem PySem.Spec PyProof.Rows L2 Pv
theorem draw_lc (s0 s2 s3 s4 s5 s6 s7 s8 s9 s10 s11 s12 s13 s14 s15 s16 s17 s18 s19 : Sl) (n : Int) (hn : n ≤ 100) (st : Sto) (hst : Deal st) (it : I) (ρ0 : Pv.Env) (st0 : Sto) (hi0 : Pv.evI (T 11) it ρ0 st0 = some (rngL 0 n 1, [s0, .val (.hd 1), s2, s3, s4, s5, s6, s7, s8, s9, s10, s11, s12, s13, s14, s15, s16, s17, s18, s19], st)) :
    ∃ (xs : List Int) (st' : Sto), evE (T 11) (.lc law_e0 (.n 19) it .no [("at", 19)]) ρ0 st0 = some (true, .lst (lo xs), [s0, .val (.hd 1), s2, s3, s4, s5, s6, s7, s8, s9, s10, s11, s12, s13, s14, s15, s16, s17, s18, .no], st') ∧ octs xs ∧ xs.length = n.toNat ∧ Deal st' := by
  obtain ⟨acc, ρ', st', h, hj⟩ := lc_all (asg := evTg (T 11) (.n 19)) (c := evC (T 11) .no) (e := fun ρ st => vv (evE (T 11) law_e0 ρ st)) (vs := [19]) (fun ρ st => by simp only [evC]) (fun i acc ρ st' => (∃ xs : List Int, acc = lo xs ∧ octs xs ∧ xs.length = i) ∧ ρ = [s0, .val (.hd 1), s2, s3, s4, s5, s6, s7, s8, s9, s10, s11, s12, s13, s14, s15, s16, s17, s18, .no] ∧ Deal st') (rngL 0 n 1) 0 [] [s0, .val (.hd 1), s2, s3, s4, s5, s6, s7, s8, s9, s10, s11, s12, s13, s14, s15, s16, s17, s18, .no] st (by rw [rng_len]; unfold lim; simp; omega) (fun i d acc ρ st' hi hj => by
    obtain ⟨⟨fs, rfl, hf, hl⟩, rfl, hd⟩ := hj
    obtain ⟨r, st1, e1, r0, r1, hd1⟩ := anyF 10 (b := 256) (by decide) (by decide) hd
    simp only [Nat.reduceAdd] at e1
    refine ⟨[s0, .val (.hd 1), s2, s3, s4, s5, s6, s7, s8, s9, s10, s11, s12, s13, s14, s15, s16, s17, s18, .val d], st', by simp [exSs, exS, evE, evEs, evT, Pv.evI, evC, evTg, evTgs, evO, vv, up, one, retE, Option.bind_eq_bind, Option.bind_some, Option.map_some, Option.pure_def, List.getElem?_cons_zero, List.getElem?_cons_succ, List.set_cons_zero, List.set_cons_succ, asgN, asgSub, setIx, opD, addD, mulD, biD, cmpD, ixD, ixL, lenD, slotSeq, slotLst, truD, List.length_cons, List.length_nil, if_true, if_false, Bool.false_eq_true, reduceIte, mthHR, mthR, mtD, slD, seqOf, wipeE, Tgs.len, Pv.unpack, Option.map_none, Option.bind_none, augD, revD, List.map_cons, List.map_nil, isiD, ty, List.any_cons, List.any_nil], .int r, [s0, .val (.hd 1), s2, s3, s4, s5, s6, s7, s8, s9, s10, s11, s12, s13, s14, s15, s16, s17, s18, .val d], st1, ?_, ⟨fs ++ [r], by simp [lo], fun f hf1 => (List.mem_append.mp hf1).elim (hf f) fun z => by rw [List.mem_singleton.mp z]; exact ⟨r0, r1⟩, by simp [hl]⟩, by simp [wipeE], hd1⟩
    simp [law_e0, exSs, exS, evE, evEs, evT, Pv.evI, evC, evTg, evTgs, evO, vv, up, one, retE, Option.bind_eq_bind, Option.bind_some, Option.map_some, Option.pure_def, List.getElem?_cons_zero, List.getElem?_cons_succ, List.set_cons_zero, List.set_cons_succ, asgN, asgSub, setIx, opD, addD, mulD, biD, cmpD, ixD, ixL, lenD, slotSeq, slotLst, truD, List.length_cons, List.length_nil, if_true, if_false, Bool.false_eq_true, reduceIte, mthHR, mthR, mtD, slD, seqOf, wipeE, Tgs.len, Pv.unpack, Option.map_none, Option.bind_none, augD, revD, List.map_cons, List.map_nil, isiD, ty, List.any_cons, List.any_nil, e1]) ⟨⟨[], rfl, (fun _ h => by cases h), rfl⟩, rfl, hst⟩
  obtain ⟨⟨fs, rfl, hf, hl⟩, rfl, hd⟩ := hj
  rw [rng_len] at hl
  exact ⟨fs, st', ev_lc hi0 h, hf, by omega, hd⟩
theorem b2_run {s0 s3 s4 s5 s6 s7 s8 s9 s10 s11 s12 s13 s14 s15 s16 s17 s18 s19 : Sl} {st stA stB st1 st2 : Sto} {ps p X Y : List D} {w1 w2 sx sy v1 v2 v3 v4 a b : Int} {sxs sys : List Int} {i j : Nat}
    (eA : evE (T 11) (.lc law_e1 (.n 19) (.rng (.cons (.op .Add (.k (.int 1)) (.call "_law_any" (.cons (.v 1) (.cons (.k (.int 60)) .nil)))) .nil)) .no [("at", 19)]) [s0, .val (.hd 1), .own ps, s3, s4, s5, s6, s7, s8, s9, s10, s11, s12, s13, s14, s15, s16, s17, s18, s19] st = some (true, .lst X, [s0, .val (.hd 1), .own ps, s3, s4, s5, s6, s7, s8, s9, s10, s11, s12, s13, s14, s15, s16, s17, s18, .no], stA))
    (eB : evE (T 11) (.lc law_e0 (.n 19) (.rng (.cons (.call "_law_any" (.cons (.v 1) (.cons (.k (.int 60)) .nil))) .nil)) .no [("at", 19)]) [s0, .val (.hd 1), .own ps, s3, s4, s5, s6, s7, s8, s9, s10, s11, .val (.tup X), s13, s14, s15, s16, s17, s18, .no] stA = some (true, .lst Y, [s0, .val (.hd 1), .own ps, s3, s4, s5, s6, s7, s8, s9, s10, s11, .val (.tup X), s13, s14, s15, s16, s17, s18, .no], stB))
    (wg1 : ∀ st, Fc 11 "_law_weigh" [.tup X] st = some (false, .int w1, st)) (wg2 : ∀ st, Fc 11 "_law_weigh" [.tup Y] st = some (false, .int w2, st)) (ix : intsOf X = some sxs) (iy : intsOf Y = some sys) (hsx : sxs.sum = sx) (hsy : sys.sum = sy)
    (bl : Big (X.length : Int)) (bl1 : Big ((X.length : Int) + 1)) (bsx : Big sx) (bsy : Big sy) (bij : Big ((i : Int) - j)) (bab : Big (b - a)) (hXY : X.length + Y.length ≤ 1000)
    (su1 : ∀ st, Fc 11 "sum_of_octets" [.tup X] st = some (false, .int v1, st)) (re1 : ∀ st, Fc 11 "_law_rest" [.int w1] st = some (false, .int v1, st))
    (su2 : ∀ st, Fc 11 "sum_of_octets" [.tup (X ++ Y)] st = some (false, .int v2, st)) (re2 : ∀ st, Fc 11 "_law_rest" [.int (w1 + w2 + X.length * sy)] st = some (false, .int v2, st))
    (su3 : ∀ st, Fc 11 "sum_of_octets" [.tup X.reverse] st = some (false, .int v3, st)) (re3 : ∀ st, Fc 11 "_law_rest" [.int (((X.length : Int) + 1) * sx - w1)] st = some (false, .int v3, st))
    (e1 : Fc 11 "_law_any" [.hd 1, .int X.length] stB = some (false, .int (i : Int), st1)) (e2 : Fc 11 "_law_any" [.hd 1, .int X.length] st1 = some (false, .int (j : Int), st2))
    (hai : atI X (i : Int) = some (.int a)) (haj : atI X (j : Int) = some (.int b)) (xi : ixN X.length (i : Int) = some i) (xj : ixN X.length (j : Int) = some j)
    (su4 : ∀ st, Fc 11 "sum_of_octets" [.tup ((X.set i (.int b)).set j (.int a))] st = some (false, .int v4, st)) (re4 : ∀ st, Fc 11 "_law_rest" [.int (w1 + ((i : Int) - j) * (b - a))] st = some (false, .int v4, st))
    (fr : Fc 11 "_law_frame_pairs" [.tup (X ++ Y), .int (w1 + w2 + X.length * sy)] st2 = some (true, .lst p, st2)) (hl : ps.length + 4 + p.length ≤ 10000) :
    exSs (T 11) law_b2 [s0, .val (.hd 1), .own ps, s3, s4, s5, s6, s7, s8, s9, s10, s11, s12, s13, s14, s15, s16, s17, s18, s19] st = some (.nx, [s0, .val (.hd 1), .own (ps ++ [pr (.int v1)] ++ [pr (.int v2)] ++ [pr (.int v3)] ++ [pr (.int v4)] ++ p), s3, s4, s5, s6, s7, s8, s9, s10, s11, .val (.tup X), .val (.tup Y), .val (.int (w1 + w2 + X.length * sy)), .val (.int i), .val (.int j), .val (.lst ((X.set i (.int b)).set j (.int a))), s18, .no], st2) := by
  have m2 : (2 : Nat) ≤ lim := by decide
  have lXY : X.length + Y.length ≤ lim := by unfold lim; omega
  have l0 : ps.length + 2 ≤ lim := by unfold lim; omega
  have l1 : (ps ++ [pr (.int v1)] ++ [pr (.int v2)]).length < lim := by simp only [List.length_append, List.length_singleton]; unfold lim; omega
  have l2 : (ps ++ [pr (.int v1)] ++ [pr (.int v2)] ++ [pr (.int v3)]).length < lim := by simp only [List.length_append, List.length_singleton]; unfold lim; omega
  have l3 : (ps ++ [pr (.int v1)] ++ [pr (.int v2)] ++ [pr (.int v3)] ++ [pr (.int v4)]).length + p.length ≤ lim := by simp only [List.length_append, List.length_singleton]; unfold lim; omega
  unfold law_b2
  generalize E.lc law_e1 _ _ _ _ = LA at eA ⊢
  generalize E.lc law_e0 _ _ _ _ = LB at eB ⊢
  refine (sq (ρ1 := [s0, .val (.hd 1), .own ps, s3, s4, s5, s6, s7, s8, s9, s10, s11, .val (.tup X), s13, s14, s15, s16, s17, s18, .no]) (st1 := stA) (by simp [exSs, exS, evE, evEs, evT, Pv.evI, evC, evTg, evTgs, evO, vv, up, one, retE, Option.bind_eq_bind, Option.bind_some, Option.map_some, Option.pure_def, List.getElem?_cons_zero, List.getElem?_cons_succ, List.set_cons_zero, List.set_cons_succ, asgN, asgSub, setIx, opD, addD, mulD, biD, cmpD, ixD, ixL, lenD, slotSeq, slotLst, truD, List.length_cons, List.length_nil, if_true, if_false, Bool.false_eq_true, reduceIte, mthHR, mthR, mtD, slD, seqOf, wipeE, Tgs.len, Pv.unpack, Option.map_none, Option.bind_none, augD, revD, List.map_cons, List.map_nil, isiD, ty, List.any_cons, List.any_nil, eA])).trans ?_
  refine (sq (ρ1 := [s0, .val (.hd 1), .own ps, s3, s4, s5, s6, s7, s8, s9, s10, s11, .val (.tup X), .val (.tup Y), s14, s15, s16, s17, s18, .no]) (st1 := stB) (by simp [exSs, exS, evE, evEs, evT, Pv.evI, evC, evTg, evTgs, evO, vv, up, one, retE, Option.bind_eq_bind, Option.bind_some, Option.map_some, Option.pure_def, List.getElem?_cons_zero, List.getElem?_cons_succ, List.set_cons_zero, List.set_cons_succ, asgN, asgSub, setIx, opD, addD, mulD, biD, cmpD, ixD, ixL, lenD, slotSeq, slotLst, truD, List.length_cons, List.length_nil, if_true, if_false, Bool.false_eq_true, reduceIte, mthHR, mthR, mtD, slD, seqOf, wipeE, Tgs.len, Pv.unpack, Option.map_none, Option.bind_none, augD, revD, List.map_cons, List.map_nil, isiD, ty, List.any_cons, List.any_nil, eB])).trans ?_
  refine (sq (ρ1 := [s0, .val (.hd 1), .own ps, s3, s4, s5, s6, s7, s8, s9, s10, s11, .val (.tup X), .val (.tup Y), .val (.int (w1 + w2 + X.length * sy)), s15, s16, s17, s18, .no]) (st1 := stB) (by simp [exSs, exS, evE, evEs, evT, Pv.evI, evC, evTg, evTgs, evO, vv, up, one, retE, Option.bind_eq_bind, Option.bind_some, Option.map_some, Option.pure_def, List.getElem?_cons_zero, List.getElem?_cons_succ, List.set_cons_zero, List.set_cons_succ, asgN, asgSub, setIx, opD, addD, mulD, biD, cmpD, ixD, ixL, lenD, slotSeq, slotLst, truD, List.length_cons, List.length_nil, if_true, if_false, Bool.false_eq_true, reduceIte, mthHR, mthR, mtD, slD, seqOf, wipeE, Tgs.len, Pv.unpack, Option.map_none, Option.bind_none, augD, revD, List.map_cons, List.map_nil, isiD, ty, List.any_cons, List.any_nil, wg1, wg2, iy, hsy, bl, bsy])).trans ?_
  generalize w1 + w2 + X.length * sy = bo at re2 fr ⊢
  refine (sq (ρ1 := [s0, .val (.hd 1), .own (ps ++ [pr (.int v1)] ++ [pr (.int v2)]), s3, s4, s5, s6, s7, s8, s9, s10, s11, .val (.tup X), .val (.tup Y), .val (.int bo), s15, s16, s17, s18, .no]) (st1 := stB) (by simp [exSs, exS, evE, evEs, evT, Pv.evI, evC, evTg, evTgs, evO, vv, up, one, retE, Option.bind_eq_bind, Option.bind_some, Option.map_some, Option.pure_def, List.getElem?_cons_zero, List.getElem?_cons_succ, List.set_cons_zero, List.set_cons_succ, asgN, asgSub, setIx, opD, addD, mulD, biD, cmpD, ixD, ixL, lenD, slotSeq, slotLst, truD, List.length_cons, List.length_nil, if_true, if_false, Bool.false_eq_true, reduceIte, mthHR, mthR, mtD, slD, seqOf, wipeE, Tgs.len, Pv.unpack, Option.map_none, Option.bind_none, augD, revD, List.map_cons, List.map_nil, isiD, ty, List.any_cons, List.any_nil, wg1, su1, re1, su2, re2, lXY, l0, m2, pr])).trans ?_
  generalize ps ++ [pr (.int v1)] ++ [pr (.int v2)] = P at l1 l2 l3 ⊢
  refine (sq (ρ1 := [s0, .val (.hd 1), .own (P ++ [pr (.int v3)]), s3, s4, s5, s6, s7, s8, s9, s10, s11, .val (.tup X), .val (.tup Y), .val (.int bo), s15, s16, s17, s18, .no]) (st1 := stB) (by simp [exSs, exS, evE, evEs, evT, Pv.evI, evC, evTg, evTgs, evO, vv, up, one, retE, Option.bind_eq_bind, Option.bind_some, Option.map_some, Option.pure_def, List.getElem?_cons_zero, List.getElem?_cons_succ, List.set_cons_zero, List.set_cons_succ, asgN, asgSub, setIx, opD, addD, mulD, biD, cmpD, ixD, ixL, lenD, slotSeq, slotLst, truD, List.length_cons, List.length_nil, if_true, if_false, Bool.false_eq_true, reduceIte, mthHR, mthR, mtD, slD, seqOf, wipeE, Tgs.len, Pv.unpack, Option.map_none, Option.bind_none, augD, revD, List.map_cons, List.map_nil, isiD, ty, List.any_cons, List.any_nil, wg1, su3, re3, ix, hsx, bl1, bsx, l1, m2, pr])).trans ?_
  generalize P ++ [pr (.int v3)] = P2 at l2 l3 ⊢
  refine (sq (ρ1 := [s0, .val (.hd 1), .own P2, s3, s4, s5, s6, s7, s8, s9, s10, s11, .val (.tup X), .val (.tup Y), .val (.int bo), .val (.int i), .val (.int j), s17, s18, .no]) (st1 := st2) (by simp [exSs, exS, evE, evEs, evT, Pv.evI, evC, evTg, evTgs, evO, vv, up, one, retE, Option.bind_eq_bind, Option.bind_some, Option.map_some, Option.pure_def, List.getElem?_cons_zero, List.getElem?_cons_succ, List.set_cons_zero, List.set_cons_succ, asgN, asgSub, setIx, opD, addD, mulD, biD, cmpD, ixD, ixL, lenD, slotSeq, slotLst, truD, List.length_cons, List.length_nil, if_true, if_false, Bool.false_eq_true, reduceIte, mthHR, mthR, mtD, slD, seqOf, wipeE, Tgs.len, Pv.unpack, Option.map_none, Option.bind_none, augD, revD, List.map_cons, List.map_nil, isiD, ty, List.any_cons, List.any_nil, e1, e2])).trans ?_
  refine (sq (ρ1 := [s0, .val (.hd 1), .own P2, s3, s4, s5, s6, s7, s8, s9, s10, s11, .val (.tup X), .val (.tup Y), .val (.int bo), .val (.int i), .val (.int j), .own X, s18, .no]) (st1 := st2) (by simp [exSs, exS, evE, evEs, evT, Pv.evI, evC, evTg, evTgs, evO, vv, up, one, retE, Option.bind_eq_bind, Option.bind_some, Option.map_some, Option.pure_def, List.getElem?_cons_zero, List.getElem?_cons_succ, List.set_cons_zero, List.set_cons_succ, asgN, asgSub, setIx, opD, addD, mulD, biD, cmpD, ixD, ixL, lenD, slotSeq, slotLst, truD, List.length_cons, List.length_nil, if_true, if_false, Bool.false_eq_true, reduceIte, mthHR, mthR, mtD, slD, seqOf, wipeE, Tgs.len, Pv.unpack, Option.map_none, Option.bind_none, augD, revD, List.map_cons, List.map_nil, isiD, ty, List.any_cons, List.any_nil])).trans ?_
  refine (sq (ρ1 := [s0, .val (.hd 1), .own P2, s3, s4, s5, s6, s7, s8, s9, s10, s11, .val (.tup X), .val (.tup Y), .val (.int bo), .val (.int i), .val (.int j), .own ((X.set i (.int b)).set j (.int a)), s18, .no]) (st1 := st2) (by simp [exSs, exS, evE, evEs, evT, Pv.evI, evC, evTg, evTgs, evO, vv, up, one, retE, Option.bind_eq_bind, Option.bind_some, Option.map_some, Option.pure_def, List.getElem?_cons_zero, List.getElem?_cons_succ, List.set_cons_zero, List.set_cons_succ, asgN, asgSub, setIx, opD, addD, mulD, biD, cmpD, ixD, ixL, lenD, slotSeq, slotLst, truD, List.length_cons, List.length_nil, if_true, if_false, Bool.false_eq_true, reduceIte, mthHR, mthR, mtD, slD, seqOf, wipeE, Tgs.len, Pv.unpack, Option.map_none, Option.bind_none, augD, revD, List.map_cons, List.map_nil, isiD, ty, List.any_cons, List.any_nil, evTgs, hai, haj, xi, xj, m2])).trans ?_
  refine (sq (ρ1 := [s0, .val (.hd 1), .own (P2 ++ [pr (.int v4)]), s3, s4, s5, s6, s7, s8, s9, s10, s11, .val (.tup X), .val (.tup Y), .val (.int bo), .val (.int i), .val (.int j), .val (.lst ((X.set i (.int b)).set j (.int a))), s18, .no]) (st1 := st2) (by simp [exSs, exS, evE, evEs, evT, Pv.evI, evC, evTg, evTgs, evO, vv, up, one, retE, Option.bind_eq_bind, Option.bind_some, Option.map_some, Option.pure_def, List.getElem?_cons_zero, List.getElem?_cons_succ, List.set_cons_zero, List.set_cons_succ, asgN, asgSub, setIx, opD, addD, mulD, biD, cmpD, ixD, ixL, lenD, slotSeq, slotLst, truD, List.length_cons, List.length_nil, if_true, if_false, Bool.false_eq_true, reduceIte, mthHR, mthR, mtD, slD, seqOf, wipeE, Tgs.len, Pv.unpack, Option.map_none, Option.bind_none, augD, revD, List.map_cons, List.map_nil, isiD, ty, List.any_cons, List.any_nil, wg1, su4, re4, hai, haj, bij, bab, l2, m2, pr])).trans ?_
  generalize P2 ++ [pr (.int v4)] = P3 at l3 ⊢
  exact sq1 (by simp [exSs, exS, evE, evEs, evT, Pv.evI, evC, evTg, evTgs, evO, vv, up, one, retE, Option.bind_eq_bind, Option.bind_some, Option.map_some, Option.pure_def, List.getElem?_cons_zero, List.getElem?_cons_succ, List.set_cons_zero, List.set_cons_succ, asgN, asgSub, setIx, opD, addD, mulD, biD, cmpD, ixD, ixL, lenD, slotSeq, slotLst, truD, List.length_cons, List.length_nil, if_true, if_false, Bool.false_eq_true, reduceIte, mthHR, mthR, mtD, slD, seqOf, wipeE, Tgs.len, Pv.unpack, Option.map_none, Option.bind_none, augD, revD, List.map_cons, List.map_nil, isiD, ty, List.any_cons, List.any_nil, lXY, fr, l3])
end Lk68

namespace Lk68
open PySem PySem.Spec PyProof.Rows L2 Pv
theorem ixN_of {n j : Nat} (h : j < n) : ixN n (j : Int) = some j := by
  unfold ixN
  rw [if_pos (by omega), if_pos (by omega), Int.toNat_natCast]
theorem sum_bd : ∀ {xs : List Int}, octs xs → 0 ≤ xs.sum ∧ xs.sum ≤ 256 * xs.length
  | [], _ => by simp
  | x :: r, h => by
    have ih := sum_bd h.tail
    have h0 := h x List.mem_cons_self
    simp only [List.sum_cons, List.length_cons, Int.natCast_add, Int.natCast_one]
    omega
theorem octs_app {xs ys : List Int} (h : octs xs) (h' : octs ys) : octs (xs ++ ys) := fun x hx => (List.mem_append.mp hx).elim (h x) (h' x)
theorem octs_set {xs : List Int} (h : octs xs) {i : Nat} {v : Int} (hv : 0 ≤ v ∧ v < 256) : octs (xs.set i v) := fun x hx => (List.mem_or_eq_of_mem_set hx).elim (h x) fun e => by rw [e]; exact hv
theorem b2_ok (s0 s3 s4 s5 s6 s7 s8 s9 s10 s11 s12 s13 s14 s15 s16 s17 s18 s19 : Sl) (st : Sto) (hst : Deal st) (ps : List D) (n : Nat) (hg : Good ps n) (hn : n ≤ 500) :
    ∃ ps' u12 u13 u14 u15 u16 u17 st', exSs (T 11) law_b2 [s0, .val (.hd 1), .own ps, s3, s4, s5, s6, s7, s8, s9, s10, s11, s12, s13, s14, s15, s16, s17, s18, s19] st = some (.nx, [s0, .val (.hd 1), .own ps', s3, s4, s5, s6, s7, s8, s9, s10, s11, u12, u13, u14, u15, u16, u17, s18, .no], st') ∧ Good ps' (n + 6) ∧ Deal st' := by
  obtain ⟨ra, st1, ea, ra0, ra1, d1⟩ := anyF 10 (b := 60) (by decide) (by decide) hst
  simp only [Nat.reduceAdd] at ea
  have rA := rngD1 (n := 1 + ra) (by omega) (by omega)
  obtain ⟨xs, stA, eA, ox, lx, dA⟩ := draw_lc s0 (.own ps) s3 s4 s5 s6 s7 s8 s9 s10 s11 s12 s13 s14 s15 s16 s17 s18 s19 (1 + ra) (by omega) st1 d1 (.rng (.cons (.op .Add (.k (.int 1)) (.call "_law_any" (.cons (.v 1) (.cons (.k (.int 60)) .nil)))) .nil)) [s0, .val (.hd 1), .own ps, s3, s4, s5, s6, s7, s8, s9, s10, s11, s12, s13, s14, s15, s16, s17, s18, s19] st (by simp [exSs, exS, evE, evEs, evT, Pv.evI, evC, evTg, evTgs, evO, vv, up, one, retE, Option.bind_eq_bind, Option.bind_some, Option.map_some, Option.pure_def, List.getElem?_cons_zero, List.getElem?_cons_succ, List.set_cons_zero, List.set_cons_succ, asgN, asgSub, setIx, opD, addD, mulD, biD, cmpD, ixD, ixL, lenD, slotSeq, slotLst, truD, List.length_cons, List.length_nil, if_true, if_false, Bool.false_eq_true, reduceIte, mthHR, mthR, mtD, slD, seqOf, wipeE, Tgs.len, Pv.unpack, Option.map_none, Option.bind_none, augD, revD, List.map_cons, List.map_nil, isiD, ty, List.any_cons, List.any_nil, ea, rA])
  obtain ⟨rb, st2, eb, rb0, rb1, d2⟩ := anyF 10 (b := 60) (by decide) (by decide) dA
  simp only [Nat.reduceAdd] at eb
  have rB := rngD1 (n := rb) (by omega) (by omega)
  obtain ⟨ys, stB, eB, oy, ly, dB⟩ := draw_lc s0 (.own ps) s3 s4 s5 s6 s7 s8 s9 s10 s11 (.val (.tup (lo xs))) s13 s14 s15 s16 s17 s18 .no rb (by omega) st2 d2 (.rng (.cons (.call "_law_any" (.cons (.v 1) (.cons (.k (.int 60)) .nil))) .nil)) [s0, .val (.hd 1), .own ps, s3, s4, s5, s6, s7, s8, s9, s10, s11, .val (.tup (lo xs)), s13, s14, s15, s16, s17, s18, .no] stA (by simp [exSs, exS, evE, evEs, evT, Pv.evI, evC, evTg, evTgs, evO, vv, up, one, retE, Option.bind_eq_bind, Option.bind_some, Option.map_some, Option.pure_def, List.getElem?_cons_zero, List.getElem?_cons_succ, List.set_cons_zero, List.set_cons_succ, asgN, asgSub, setIx, opD, addD, mulD, biD, cmpD, ixD, ixL, lenD, slotSeq, slotLst, truD, List.length_cons, List.length_nil, if_true, if_false, Bool.false_eq_true, reduceIte, mthHR, mthR, mtD, slD, seqOf, wipeE, Tgs.len, Pv.unpack, Option.map_none, Option.bind_none, augD, revD, List.map_cons, List.map_nil, isiD, ty, List.any_cons, List.any_nil, eb, rB])
  have hxl : 1 ≤ xs.length ∧ xs.length ≤ 60 := by omega
  have hyl : ys.length ≤ 60 := by omega
  obtain ⟨i0, st3, e1, i00, i01, d3⟩ := anyF 10 (b := (xs.length : Int)) (by omega) (by omega) dB
  obtain ⟨i, rfl⟩ := Int.eq_ofNat_of_zero_le i00
  obtain ⟨j0, st4, e2, j00, j01, d4⟩ := anyF 10 (b := (xs.length : Int)) (by omega) (by omega) d3
  obtain ⟨j, rfl⟩ := Int.eq_ofNat_of_zero_le j00
  have hi : i < xs.length := by omega
  have hj : j < xs.length := by omega
  have gi : xs[i]? = some xs[i] := List.getElem?_eq_getElem hi
  have gj : xs[j]? = some xs[j] := List.getElem?_eq_getElem hj
  have bi := ox xs[i] (List.getElem_mem hi)
  have bj := ox xs[j] (List.getElem_mem hj)
  have oxy := octs_app ox oy
  have orv : octs xs.reverse := fun x hx => ox x (by simpa using hx)
  have osw : octs ((xs.set i xs[j]).set j xs[i]) := octs_set (octs_set ox bj) bi
  have ll : (lo xs).length = xs.length := by simp [lo]
  have lly : (lo ys).length = ys.length := by simp [lo]
  have wa := ws_app xs ys 0
  rw [Int.zero_add, ws_shift ys (xs.length : Int), ← Int.add_assoc] at wa
  have loxy : lo (xs ++ ys) = lo xs ++ lo ys := by simp [lo]
  have lorv : lo xs.reverse = (lo xs).reverse := by simp [lo]
  have losw : lo ((xs.set i xs[j]).set j xs[i]) = ((lo xs).set i (.int xs[j])).set j (.int xs[i]) := by simp [lo, List.map_set]
  obtain ⟨p, fr, gp⟩ := fpairs_ok 7 st4 (xs ++ ys) oxy (by simp; omega) (ws 0 xs + ws 0 ys + xs.length * ys.sum) (by rw [wa])
  have wg1 := fun st => weigh_ok 10 st xs ox (by omega)
  have wg2 := fun st => weigh_ok 10 st ys oy (by omega)
  have su1 := fun st => sum_ok 10 st xs ox (by omega)
  have su2 := fun st => sum_ok 10 st (xs ++ ys) oxy (by simp; omega)
  have su3 := fun st => sum_ok 10 st xs.reverse orv (by simp; omega)
  have su4 := fun st => sum_ok 10 st _ osw (by simp; omega)
  have re1 := fun st => rest_ok 10 st (ws 0 xs)
  have re2 := fun st => rest_ok 10 st (ws 0 xs + ws 0 ys + xs.length * ys.sum)
  have re3 := fun st => rest_ok 10 st (((xs.length : Int) + 1) * xs.sum - ws 0 xs)
  have re4 := fun st => rest_ok 10 st (ws 0 xs + ((i : Int) - j) * (xs[j] - xs[i]))
  rw [ws_rev, lorv] at su3
  rw [ws_swap xs i j _ _ gi gj, losw] at su4
  rw [wa, loxy] at su2
  rw [loxy] at fr
  simp only [Nat.reduceAdd] at wg1 wg2 su1 su2 su3 su4 re1 re2 re3 re4 fr e1 e2
  have gai : atI (lo xs) (i : Int) = some (.int xs[i]) := atI_nat (by rw [List.getElem?_map, gi]; rfl)
  have gaj : atI (lo xs) (j : Int) = some (.int xs[j]) := atI_nat (by rw [List.getElem?_map, gj]; rfl)
  have xi : ixN (lo xs).length (i : Int) = some i := ixN_of (by rw [ll]; exact hi)
  have xj : ixN (lo xs).length (j : Int) = some j := ixN_of (by rw [ll]; exact hj)
  have sbx := sum_bd ox
  have sby := sum_bd oy
  have ix := ints_lo xs
  have iy := ints_lo ys
  have gl := hg.2
  have gpl := gp.2
  have g := ((((hg.app (ok_int (ws 0 xs % 65521))).app (ok_int ((ws 0 xs + ws 0 ys + xs.length * ys.sum) % 65521))).app (ok_int ((((xs.length : Int) + 1) * xs.sum - ws 0 xs) % 65521))).app (ok_int ((ws 0 xs + ((i : Int) - j) * (xs[j] - xs[i])) % 65521))).cat gp
  have eA' : evE (T 11) (.lc law_e1 (.n 19) (.rng (.cons (.op .Add (.k (.int 1)) (.call "_law_any" (.cons (.v 1) (.cons (.k (.int 60)) .nil)))) .nil)) .no [("at", 19)]) [s0, .val (.hd 1), .own ps, s3, s4, s5, s6, s7, s8, s9, s10, s11, s12, s13, s14, s15, s16, s17, s18, s19] st = some (true, .lst (lo xs), [s0, .val (.hd 1), .own ps, s3, s4, s5, s6, s7, s8, s9, s10, s11, s12, s13, s14, s15, s16, s17, s18, .no], stA) := eA
  have h1 : (xs.length : Int) = ((lo xs).length : Int) := by rw [ll]
  rw [h1] at re2 re3 fr e1 e2 su3
  rw [h1] at su2 g
  refine ⟨_, _, _, _, _, _, _, st4, b2_run eA' eB wg1 wg2 ix iy rfl rfl (big_small (by rw [ll]; omega)) (big_small (by rw [ll]; omega)) (big_small (by omega)) (big_small (by omega)) (big_small (by omega)) (big_small (by omega)) (by rw [ll, lly]; omega) su1 re1 su2 re2 su3 re3 e1 e2 gai gaj xi xj su4 re4 fr (by omega), g.mono (by omega), d4⟩
end Lk68

namespace Lk68
open PySem PySem.Spec PyProof.Rows L2 Pv
/-- one octet, a gap, 255 -/
def gapd (a : Int) : List Int := [a] ++ List.replicate 254 0 ++ [255]
theorem gap_len (a : Int) : (gapd a).length = 256 := by simp [gapd]
theorem gap_octs {a : Int} (h : 0 ≤ a ∧ a < 256) : octs (gapd a) := fun x hx => by
  simp only [gapd, List.mem_append, List.mem_singleton, List.mem_replicate] at hx
  rcases hx with (rfl | ⟨_, rfl⟩) | rfl
  · exact h
  · exact ⟨by decide, by decide⟩
  · exact ⟨by decide, by decide⟩
theorem gap_lo (a : Int) : lo (gapd a) = [D.int a] ++ List.replicate 254 (.int 0) ++ [.int 255] := by simp [lo, gapd]
theorem ws_zero : ∀ (m : Nat) (k : Int), ws k (List.replicate m 0) = 0
  | 0, _ => rfl
  | m + 1, k => by simp only [List.replicate_succ, ws, ws_zero m (k + 1), Int.mul_zero, Int.add_zero]
theorem ws_gap (a : Int) : ws 0 (gapd a) = a + 65280 := by
  unfold gapd
  rw [ws_app, ws_app, ws_zero]
  simp [ws]
theorem cut2 (a b : D) (r : List D) : Pv.cutD (a :: b :: r) none (some 2) = [a, b] := by
  unfold Pv.cutD
  rw [HT.sIx_none, show HT.sIx (a :: b :: r).length (a :: b :: r).length (some 2) = min 2 (a :: b :: r).length from HT.sIx_nat _ _ 2]
  simp
theorem cutE (r : List D) (a b : D) : Pv.cutD (r ++ [a, b]) (some (-2)) none = [a, b] := by
  unfold Pv.cutD HT.sIx
  simp
  rw [show ((-2 : Int) + ((r.length : Int) + 2)).toNat = r.length by omega]
  simp
theorem frame_cut (k : Nat) (st : Sto) (xs : List Int) (hx : octs xs) (hl : xs.length ≤ 400000) (ys : List Int) (y : Int) (hn : (xs.length : Int) = valI (ys ++ [y])) (hf : figs (ys ++ [y])) (hy : ys = [] ∨ 0 < y) (hyl : ys.length ≤ 2) {r : List D}
    (hr : shn ys y ++ lo xs ++ [.int (ws 0 xs % 65521 % 256), .int (ws 0 xs % 65521 / 256)] = r) : Fc (k + 3) "frame" [.tup (lo xs)] st = some (false, .tup r, st) := by
  rw [frame_ok k st xs hx hl ys y hn hf hy hyl, hr]
theorem sums (st : Sto) (xs : List Int) (hx : octs xs) (hl : xs.length ≤ 1000) {os : List D} (ho : lo xs = os) {v : Int} (hv : ws 0 xs % 65521 = v) : Fc 11 "sum_of_octets" [.tup os] st = some (false, .int v, st) := by
  have h := sum_ok 10 st xs hx (by omega)
  rw [ho, hv] at h
  simpa only [Nat.reduceAdd] using h
theorem law_true (ns : List Int) (h : ns.length ≤ 63) : ∃ st, Fc 12 "law" [.scr ns] [] = some (false, .bl true, st) := by
  obtain ⟨st0, e0, d0⟩ := dealOk 10 ns h
  simp only [Nat.reduceAdd] at e0
  obtain ⟨ρ1, st1, e1, ps1, g1, d1, u3, u4, u5, u6, hρ1⟩ := for_all (asg := evTg (T 11) (.n 3)) (b := exSs (T 11) law_b4) (fun i ρ st => ∃ ps, Good ps (3 * i) ∧ Deal st ∧ ∃ u3 u4 u5 u6, ρ = [.val (.scr ns), .val (.hd 1), .own ps, u3, u4, u5, u6, .no, .no, .no, .no, .no, .no, .no, .no, .no, .no, .no, .no, .no]) [.int 9, .int 130, .int 700, .int 4000] 0 [.val (.scr ns), .val (.hd 1), .own [], .no, .no, .no, .no, .no, .no, .no, .no, .no, .no, .no, .no, .no, .no, .no, .no, .no] st0 (fun i d ρ st hi hj => by
    obtain ⟨ps, g, dd, u3, u4, u5, u6, rfl⟩ := hj
    have hm : ∃ most : Int, d = .int most ∧ 1 ≤ most ∧ most ≤ 4000 := by
      have := List.mem_of_getElem? hi
      simp only [List.mem_cons, List.not_mem_nil, or_false] at this
      rcases this with rfl | rfl | rfl | rfl <;> exact ⟨_, rfl, by decide, by decide⟩
    obtain ⟨most, rfl, m1, m2⟩ := hm
    have hi4 : i < 4 := (List.getElem?_eq_some_iff.mp hi).1
    obtain ⟨ps', w4, w5, w6, st', e, g', d'⟩ := b4_ok (.val (.scr ns)) u4 u5 u6 .no .no .no .no .no .no .no .no .no .no .no .no .no st dd ps _ g (by omega) most m1 m2
    exact ⟨_, st, by simp [exSs, exS, evE, evEs, evT, Pv.evI, evC, evTg, evTgs, evO, vv, up, one, retE, Option.bind_eq_bind, Option.bind_some, Option.map_some, Option.pure_def, List.getElem?_cons_zero, List.getElem?_cons_succ, List.set_cons_zero, List.set_cons_succ, asgN, asgSub, setIx, opD, addD, mulD, biD, cmpD, ixD, ixL, lenD, slotSeq, slotLst, truD, List.length_cons, List.length_nil, if_true, if_false, Bool.false_eq_true, reduceIte, mthHR, mthR, mtD, slD, seqOf, wipeE, Tgs.len, Pv.unpack, Option.map_none, Option.bind_none, augD, revD, List.map_cons, List.map_nil, isiD, ty, List.any_cons, List.any_nil], _, st', e, ps', g'.mono (by omega), d', _, w4, w5, w6, rfl⟩) ⟨[], ⟨(fun _ h => by cases h), Nat.zero_le _⟩, d0, .no, .no, .no, .no, rfl⟩
  subst hρ1
  have g1 := g1.mono (show 3 * (0 + 4) ≤ 12 by decide)
  obtain ⟨ρ2, st2, e2, ps2, g2, d2, v6, v7, v8, v9, v10, v11, hρ2⟩ := for_all (asg := evTg (T 11) (.n 7)) (b := exSs (T 11) law_b3) (fun i ρ st => ∃ ps, Good ps (12 + 4 * i) ∧ Deal st ∧ ∃ v6 v7 v8 v9 v10 v11, ρ = [.val (.scr ns), .val (.hd 1), .own ps, u3, u4, u5, v6, v7, v8, v9, v10, v11, .no, .no, .no, .no, .no, .no, .no, .no]) (rngL 0 4 1) 0 [.val (.scr ns), .val (.hd 1), .own ps1, u3, u4, u5, u6, .no, .no, .no, .no, .no, .no, .no, .no, .no, .no, .no, .no, .no] st1 (fun i d ρ st hi hj => by
    obtain ⟨ps, g, dd, v6, v7, v8, v9, v10, v11, rfl⟩ := hj
    have hlt := rng_lt hi
    rw [rng_len] at hlt
    obtain ⟨ps', w6, w8, w9, w10, w11, st', e, g', d'⟩ := b3_ok (.val (.scr ns)) u3 u4 u5 v6 v8 v9 v10 v11 .no .no .no .no .no .no .no .no (.val d) st dd ps _ g (by omega)
    exact ⟨_, st, by simp [exSs, exS, evE, evEs, evT, Pv.evI, evC, evTg, evTgs, evO, vv, up, one, retE, Option.bind_eq_bind, Option.bind_some, Option.map_some, Option.pure_def, List.getElem?_cons_zero, List.getElem?_cons_succ, List.set_cons_zero, List.set_cons_succ, asgN, asgSub, setIx, opD, addD, mulD, biD, cmpD, ixD, ixL, lenD, slotSeq, slotLst, truD, List.length_cons, List.length_nil, if_true, if_false, Bool.false_eq_true, reduceIte, mthHR, mthR, mtD, slD, seqOf, wipeE, Tgs.len, Pv.unpack, Option.map_none, Option.bind_none, augD, revD, List.map_cons, List.map_nil, isiD, ty, List.any_cons, List.any_nil], _, st', e, ps', g'.mono (by omega), d', w6, _, w8, w9, w10, w11, rfl⟩) ⟨ps1, g1, d1, u6, .no, .no, .no, .no, .no, rfl⟩
  subst hρ2
  rw [rng_len] at g2
  have g2 := g2.mono (show 12 + 4 * (0 + ((4 : Int) - 0).toNat) ≤ 28 by decide)
  obtain ⟨ρ3, st3, e3, ps3, g3, d3, x7, x12, x13, x14, x15, x16, x17, x19, hρ3⟩ := for_all (asg := evTg (T 11) (.n 7)) (b := exSs (T 11) law_b2) (fun i ρ st => ∃ ps, Good ps (28 + 6 * i) ∧ Deal st ∧ ∃ x7 x12 x13 x14 x15 x16 x17 x19, ρ = [.val (.scr ns), .val (.hd 1), .own ps, u3, u4, u5, v6, x7, v8, v9, v10, v11, x12, x13, x14, x15, x16, x17, .no, x19]) (rngL 0 5 1) 0 [.val (.scr ns), .val (.hd 1), .own ps2, u3, u4, u5, v6, v7, v8, v9, v10, v11, .no, .no, .no, .no, .no, .no, .no, .no] st2 (fun i d ρ st hi hj => by
    obtain ⟨ps, g, dd, x7, x12, x13, x14, x15, x16, x17, x19, rfl⟩ := hj
    have hlt := rng_lt hi
    rw [rng_len] at hlt
    obtain ⟨ps', w12, w13, w14, w15, w16, w17, st', e, g', d'⟩ := b2_ok (.val (.scr ns)) u3 u4 u5 v6 (.val d) v8 v9 v10 v11 x12 x13 x14 x15 x16 x17 .no x19 st dd ps _ g (by omega)
    exact ⟨_, st, by simp [exSs, exS, evE, evEs, evT, Pv.evI, evC, evTg, evTgs, evO, vv, up, one, retE, Option.bind_eq_bind, Option.bind_some, Option.map_some, Option.pure_def, List.getElem?_cons_zero, List.getElem?_cons_succ, List.set_cons_zero, List.set_cons_succ, asgN, asgSub, setIx, opD, addD, mulD, biD, cmpD, ixD, ixL, lenD, slotSeq, slotLst, truD, List.length_cons, List.length_nil, if_true, if_false, Bool.false_eq_true, reduceIte, mthHR, mthR, mtD, slD, seqOf, wipeE, Tgs.len, Pv.unpack, Option.map_none, Option.bind_none, augD, revD, List.map_cons, List.map_nil, isiD, ty, List.any_cons, List.any_nil], _, st', e, ps', g'.mono (by omega), d', _, w12, w13, w14, w15, w16, w17, .no, rfl⟩) ⟨ps2, g2, d2, v7, .no, .no, .no, .no, .no, .no, .no, rfl⟩
  subst hρ3
  rw [rng_len] at g3
  have g3 := g3.mono (show 28 + 6 * (0 + ((5 : Int) - 0).toNat) ≤ 58 by decide)
  generalize hG : List.replicate 254 (D.int 0) = G
  have gL : G.length = 254 := by rw [← hG, List.length_replicate]
  have lg : ∀ a : Int, lo (gapd a) = D.int a :: (G ++ [D.int 255]) := fun a => by rw [gap_lo, hG]; rfl
  have f0 : Fc 11 "sum_of_octets" [.tup []] st3 = some (false, .int 0, st3) := sums st3 [] (fun _ h => by cases h) (by decide) rfl (by decide)
  have f1 : Fc 11 "sum_of_octets" [.tup (D.int 241 :: (G ++ [D.int 255]))] st3 = some (false, .int 0, st3) := sums st3 (gapd 241) (gap_octs (by decide)) (by rw [gap_len]; decide) (lg 241) (by rw [ws_gap]; decide)
  have f2 : Fc 11 "sum_of_octets" [.tup (D.int 240 :: (G ++ [D.int 255]))] st3 = some (false, .int 65520, st3) := sums st3 (gapd 240) (gap_octs (by decide)) (by rw [gap_len]; decide) (lg 240) (by rw [ws_gap]; decide)
  have f3 : Fc 11 "sum_of_octets" [.tup (D.int 242 :: (G ++ [D.int 255]))] st3 = some (false, .int 1, st3) := sums st3 (gapd 242) (gap_octs (by decide)) (by rw [gap_len]; decide) (lg 242) (by rw [ws_gap]; decide)
  have f4 : Fc 11 "sum_of_octets" [.tup [.int 0, .int 0, .int 9]] st3 = some (false, .int 27, st3) := sums st3 [0, 0, 9] (by unfold octs; decide) (by decide) rfl (by decide)
  have q0 : Fc 11 "frame" [.tup []] st3 = some (false, .tup [.int 0, .int 0, .int 0], st3) := frame_cut 8 st3 [] (fun _ h => by cases h) (by decide) [] 0 (by decide) (by unfold figs; decide) (.inl rfl) (by decide) rfl
  have q5 : Fc 11 "frame" [.tup [.int 5, .int 6]] st3 = some (false, .tup [.int 2, .int 5, .int 6, .int 17, .int 0], st3) := frame_cut 8 st3 [5, 6] (by unfold octs; decide) (by decide) [] 2 (by decide) (by unfold figs; decide) (.inl rfl) (by decide) rfl
  obtain ⟨F1, q1, k1⟩ : ∃ F1, Fc 11 "frame" [.tup (D.int 241 :: (G ++ [D.int 255]))] st3 = some (false, .tup F1, st3) ∧ Pv.cutD F1 none (some 2) = [.int 128, .int 2] := by
    have hf := frame_cut 8 st3 (gapd 241) (gap_octs (by decide)) (by rw [gap_len]; decide) [0] 2 (by rw [gap_len]; decide) (by unfold figs; decide) (.inr (by decide)) (by decide) rfl
    rw [lg 241] at hf
    exact ⟨_, hf, cut2 _ _ _⟩
  obtain ⟨F2, q2, k2⟩ : ∃ F2, Fc 11 "frame" [.tup (D.int 240 :: (G ++ [D.int 255]))] st3 = some (false, .tup F2, st3) ∧ Pv.cutD F2 (some (-2)) none = [.int 240, .int 255] := by
    have hf := frame_cut 8 st3 (gapd 240) (gap_octs (by decide)) (by rw [gap_len]; decide) [0] 2 (by rw [gap_len]; decide) (by unfold figs; decide) (.inr (by decide)) (by decide) rfl
    rw [lg 240, ws_gap] at hf
    exact ⟨_, hf, cutE _ _ _⟩
  have gA := ((g3.app (ok_int 0)).app (ok_ints (xs := [.int 0, .int 0, .int 0]) (by simp) (by simp))).app (ok_int 0)
  have gB := (gA.app (ok_int 65520)).app (ok_int 1)
  have gC := (gB.app (ok_two 128 2)).app (ok_two 240 255)
  have gD := (gC.app (ok_ints (xs := [.int 2, .int 5, .int 6, .int 17, .int 0]) (by simp) (by simp))).app (ok_int 27)
  have al := allOk 8 st3 gD.1
  simp only [Nat.reduceAdd] at al
  have l3 := g3.2
  have lA := gA.2
  have lB := gB.2
  have lC := gC.2
  have lm : ∀ j : Nat, j ≤ 10000 → j ≤ lim := fun j hj => Nat.le_trans hj (by decide)
  refine ⟨st3, ?_⟩
  rw [show Fc 12 "law" = runF ⟨Fc 11, gOf cs⟩ ⟨["script"], 20, b_law⟩ from q_law 11]
  refine run_rt (ρ1 := [.val (.scr ns), .val (.hd 1), .val (.lst (ps3 ++ [pr (.int 0)] ++ [pr (.tup [.int 0, .int 0, .int 0])] ++ [pr (.int 0)] ++ [pr (.int 65520)] ++ [pr (.int 1)] ++ [pr (.tup [.int 128, .int 2])] ++ [pr (.tup [.int 240, .int 255])])), u3, u4, u5, v6, x7, v8, v9, v10, v11, x12, x13, x14, x15, x16, x17, .val (.tup G), x19]) (n := 19) rfl rfl ?_
  unfold b_law
  refine (sq (ρ1 := [.val (.scr ns), .val (.hd 1), .own [], .no, .no, .no, .no, .no, .no, .no, .no, .no, .no, .no, .no, .no, .no, .no, .no, .no]) (st1 := st0) (by simp [exSs, exS, evE, evEs, evT, Pv.evI, evC, evTg, evTgs, evO, vv, up, one, retE, Option.bind_eq_bind, Option.bind_some, Option.map_some, Option.pure_def, List.getElem?_cons_zero, List.getElem?_cons_succ, List.set_cons_zero, List.set_cons_succ, asgN, asgSub, setIx, opD, addD, mulD, biD, cmpD, ixD, ixL, lenD, slotSeq, slotLst, truD, List.length_cons, List.length_nil, if_true, if_false, Bool.false_eq_true, reduceIte, mthHR, mthR, mtD, slD, seqOf, wipeE, Tgs.len, Pv.unpack, Option.map_none, Option.bind_none, augD, revD, List.map_cons, List.map_nil, isiD, ty, List.any_cons, List.any_nil, e0])).trans ?_
  refine (sq (ex_for (xs := [.int 9, .int 130, .int 700, .int 4000]) (ρ1 := [.val (.scr ns), .val (.hd 1), .own [], .no, .no, .no, .no, .no, .no, .no, .no, .no, .no, .no, .no, .no, .no, .no, .no, .no]) (st1 := st0) (by simp [exSs, exS, evE, evEs, evT, Pv.evI, evC, evTg, evTgs, evO, vv, up, one, retE, Option.bind_eq_bind, Option.bind_some, Option.map_some, Option.pure_def, List.getElem?_cons_zero, List.getElem?_cons_succ, List.set_cons_zero, List.set_cons_succ, asgN, asgSub, setIx, opD, addD, mulD, biD, cmpD, ixD, ixL, lenD, slotSeq, slotLst, truD, List.length_cons, List.length_nil, if_true, if_false, Bool.false_eq_true, reduceIte, mthHR, mthR, mtD, slD, seqOf, wipeE, Tgs.len, Pv.unpack, Option.map_none, Option.bind_none, augD, revD, List.map_cons, List.map_nil, isiD, ty, List.any_cons, List.any_nil, lm]) e1)).trans ?_
  refine (sq (ex_for (xs := rngL 0 4 1) (ρ1 := [.val (.scr ns), .val (.hd 1), .own ps1, u3, u4, u5, u6, .no, .no, .no, .no, .no, .no, .no, .no, .no, .no, .no, .no, .no]) (st1 := st1) (by simp [exSs, exS, evE, evEs, evT, Pv.evI, evC, evTg, evTgs, evO, vv, up, one, retE, Option.bind_eq_bind, Option.bind_some, Option.map_some, Option.pure_def, List.getElem?_cons_zero, List.getElem?_cons_succ, List.set_cons_zero, List.set_cons_succ, asgN, asgSub, setIx, opD, addD, mulD, biD, cmpD, ixD, ixL, lenD, slotSeq, slotLst, truD, List.length_cons, List.length_nil, if_true, if_false, Bool.false_eq_true, reduceIte, mthHR, mthR, mtD, slD, seqOf, wipeE, Tgs.len, Pv.unpack, Option.map_none, Option.bind_none, augD, revD, List.map_cons, List.map_nil, isiD, ty, List.any_cons, List.any_nil, rngD1 (n := 4) (by decide) (by decide)]) e2)).trans ?_
  refine (sq (ex_for (xs := rngL 0 5 1) (ρ1 := [.val (.scr ns), .val (.hd 1), .own ps2, u3, u4, u5, v6, v7, v8, v9, v10, v11, .no, .no, .no, .no, .no, .no, .no, .no]) (st1 := st2) (by simp [exSs, exS, evE, evEs, evT, Pv.evI, evC, evTg, evTgs, evO, vv, up, one, retE, Option.bind_eq_bind, Option.bind_some, Option.map_some, Option.pure_def, List.getElem?_cons_zero, List.getElem?_cons_succ, List.set_cons_zero, List.set_cons_succ, asgN, asgSub, setIx, opD, addD, mulD, biD, cmpD, ixD, ixL, lenD, slotSeq, slotLst, truD, List.length_cons, List.length_nil, if_true, if_false, Bool.false_eq_true, reduceIte, mthHR, mthR, mtD, slD, seqOf, wipeE, Tgs.len, Pv.unpack, Option.map_none, Option.bind_none, augD, revD, List.map_cons, List.map_nil, isiD, ty, List.any_cons, List.any_nil, rngD1 (n := 5) (by decide) (by decide)]) e3)).trans ?_
  refine (sq (ρ1 := [.val (.scr ns), .val (.hd 1), .own ps3, u3, u4, u5, v6, x7, v8, v9, v10, v11, x12, x13, x14, x15, x16, x17, .val (.tup G), x19]) (st1 := st3) (by
    rw [← hG]
    simp [exSs, exS, evE, evEs, evT, Pv.evI, evC, evTg, evTgs, evO, vv, up, one, retE, Option.bind_eq_bind, Option.bind_some, Option.map_some, Option.pure_def, List.getElem?_cons_zero, List.getElem?_cons_succ, List.set_cons_zero, List.set_cons_succ, asgN, asgSub, setIx, opD, addD, mulD, biD, cmpD, ixD, ixL, lenD, slotSeq, slotLst, truD, List.length_cons, List.length_nil, if_true, if_false, Bool.false_eq_true, reduceIte, mthHR, mthR, mtD, slD, seqOf, wipeE, Tgs.len, Pv.unpack, Option.map_none, Option.bind_none, augD, revD, List.map_cons, List.map_nil, isiD, ty, List.any_cons, List.any_nil, lm])).trans ?_
  have z1 : ps3.length + 3 ≤ lim := by unfold lim; omega
  refine (sq (ρ1 := [.val (.scr ns), .val (.hd 1), .own (ps3 ++ [pr (.int 0)] ++ [pr (.tup [.int 0, .int 0, .int 0])] ++ [pr (.int 0)]), u3, u4, u5, v6, x7, v8, v9, v10, v11, x12, x13, x14, x15, x16, x17, .val (.tup G), x19]) (st1 := st3) (by simp [exSs, exS, evE, evEs, evT, Pv.evI, evC, evTg, evTgs, evO, vv, up, one, retE, Option.bind_eq_bind, Option.bind_some, Option.map_some, Option.pure_def, List.getElem?_cons_zero, List.getElem?_cons_succ, List.set_cons_zero, List.set_cons_succ, asgN, asgSub, setIx, opD, addD, mulD, biD, cmpD, ixD, ixL, lenD, slotSeq, slotLst, truD, List.length_cons, List.length_nil, if_true, if_false, Bool.false_eq_true, reduceIte, mthHR, mthR, mtD, slD, seqOf, wipeE, Tgs.len, Pv.unpack, Option.map_none, Option.bind_none, augD, revD, List.map_cons, List.map_nil, isiD, ty, List.any_cons, List.any_nil, gL, lm, f0, f1, q0, z1, pr])).trans ?_
  generalize ps3 ++ [pr (.int 0)] ++ [pr (.tup [.int 0, .int 0, .int 0])] ++ [pr (.int 0)] = PA at al lA lB lC ⊢
  have z2 : PA.length + 2 ≤ lim := by unfold lim; omega
  refine (sq (ρ1 := [.val (.scr ns), .val (.hd 1), .own (PA ++ [pr (.int 65520)] ++ [pr (.int 1)]), u3, u4, u5, v6, x7, v8, v9, v10, v11, x12, x13, x14, x15, x16, x17, .val (.tup G), x19]) (st1 := st3) (by simp [exSs, exS, evE, evEs, evT, Pv.evI, evC, evTg, evTgs, evO, vv, up, one, retE, Option.bind_eq_bind, Option.bind_some, Option.map_some, Option.pure_def, List.getElem?_cons_zero, List.getElem?_cons_succ, List.set_cons_zero, List.set_cons_succ, asgN, asgSub, setIx, opD, addD, mulD, biD, cmpD, ixD, ixL, lenD, slotSeq, slotLst, truD, List.length_cons, List.length_nil, if_true, if_false, Bool.false_eq_true, reduceIte, mthHR, mthR, mtD, slD, seqOf, wipeE, Tgs.len, Pv.unpack, Option.map_none, Option.bind_none, augD, revD, List.map_cons, List.map_nil, isiD, ty, List.any_cons, List.any_nil, gL, lm, f2, f3, z2, pr])).trans ?_
  generalize PA ++ [pr (.int 65520)] ++ [pr (.int 1)] = PB at al lB lC ⊢
  have z3 : PB.length + 2 ≤ lim := by unfold lim; omega
  refine (sq (ρ1 := [.val (.scr ns), .val (.hd 1), .own (PB ++ [pr (.tup [.int 128, .int 2])] ++ [pr (.tup [.int 240, .int 255])]), u3, u4, u5, v6, x7, v8, v9, v10, v11, x12, x13, x14, x15, x16, x17, .val (.tup G), x19]) (st1 := st3) (by simp [exSs, exS, evE, evEs, evT, Pv.evI, evC, evTg, evTgs, evO, vv, up, one, retE, Option.bind_eq_bind, Option.bind_some, Option.map_some, Option.pure_def, List.getElem?_cons_zero, List.getElem?_cons_succ, List.set_cons_zero, List.set_cons_succ, asgN, asgSub, setIx, opD, addD, mulD, biD, cmpD, ixD, ixL, lenD, slotSeq, slotLst, truD, List.length_cons, List.length_nil, if_true, if_false, Bool.false_eq_true, reduceIte, mthHR, mthR, mtD, slD, seqOf, wipeE, Tgs.len, Pv.unpack, Option.map_none, Option.bind_none, augD, revD, List.map_cons, List.map_nil, isiD, ty, List.any_cons, List.any_nil, gL, lm, q1, q2, k1, k2, z3, pr])).trans ?_
  generalize PB ++ [pr (.tup [.int 128, .int 2])] ++ [pr (.tup [.int 240, .int 255])] = PC at al lC ⊢
  have z4 : PC.length + 2 ≤ lim := by unfold lim; omega
  simp only [pr, List.append_assoc, List.singleton_append] at al
  exact sqr (by simp [exSs, exS, evE, evEs, evT, Pv.evI, evC, evTg, evTgs, evO, vv, up, one, retE, Option.bind_eq_bind, Option.bind_some, Option.map_some, Option.pure_def, List.getElem?_cons_zero, List.getElem?_cons_succ, List.set_cons_zero, List.set_cons_succ, asgN, asgSub, setIx, opD, addD, mulD, biD, cmpD, ixD, ixL, lenD, slotSeq, slotLst, truD, List.length_cons, List.length_nil, if_true, if_false, Bool.false_eq_true, reduceIte, mthHR, mthR, mtD, slD, seqOf, wipeE, Tgs.len, Pv.unpack, Option.map_none, Option.bind_none, augD, revD, List.map_cons, List.map_nil, isiD, ty, List.any_cons, List.any_nil, lm, q5, f4, z4, al])
end Lk68

namespace Lk68
open PySem PySem.Spec PyProof.Rows L2 Pv
theorem ch_octets_of_number : chD ds cs ks d_octets_of_number = true := by decide +kernel
theorem ch_number_octets : chD ds cs ks d_number_octets = true := by decide +kernel
theorem ch_sum_of_octets : chD ds cs ks d_sum_of_octets = true := by decide +kernel
theorem ch_sum_pair : chD ds cs ks d_sum_pair = true := by decide +kernel
theorem ch_frame : chD ds cs ks d_frame = true := by decide +kernel
theorem ch_law_deal : chD ds cs ks d_law_deal = true := by decide +kernel
theorem ch_law_any : chD ds cs ks d_law_any = true := by decide +kernel
theorem ch_law_of : chD ds cs ks d_law_of = true := by decide +kernel
theorem ch_law_is_kind : chD ds cs ks d_law_is_kind = true := by decide +kernel
theorem ch_law_same : chD ds cs ks d_law_same = true := by decide +kernel
theorem ch_law_all : chD ds cs ks d_law_all = true := by decide +kernel
theorem ch_law_number_octets : chD ds cs ks d_law_number_octets = true := by decide +kernel
theorem ch_law_weigh : chD ds cs ks d_law_weigh = true := by decide +kernel
theorem ch_law_rest : chD ds cs ks d_law_rest = true := by decide +kernel
theorem ch_law_frame_pairs : chD ds cs ks d_law_frame_pairs = true := by decide +kernel
theorem ch_law : chD ds cs ks d_law = true := by decide +kernel
theorem ch_all : ∀ d ∈ ds, chD ds cs ks d = true := List.forall_mem_cons.mpr ⟨ch_octets_of_number, List.forall_mem_cons.mpr ⟨ch_number_octets, List.forall_mem_cons.mpr ⟨ch_sum_of_octets, List.forall_mem_cons.mpr ⟨ch_sum_pair, List.forall_mem_cons.mpr ⟨ch_frame, List.forall_mem_cons.mpr ⟨ch_law_deal, List.forall_mem_cons.mpr ⟨ch_law_any, List.forall_mem_cons.mpr ⟨ch_law_of, List.forall_mem_cons.mpr ⟨ch_law_is_kind, List.forall_mem_cons.mpr ⟨ch_law_same, List.forall_mem_cons.mpr ⟨ch_law_all, List.forall_mem_cons.mpr ⟨ch_law_number_octets, List.forall_mem_cons.mpr ⟨ch_law_weigh, List.forall_mem_cons.mpr ⟨ch_law_rest, List.forall_mem_cons.mpr ⟨ch_law_frame_pairs, List.forall_mem_cons.mpr ⟨ch_law, fun _ h => by cases h⟩⟩⟩⟩⟩⟩⟩⟩⟩⟩⟩⟩⟩⟩⟩⟩
theorem facts {K : PySem.W.Frag} {mg : Str → Option Value} (f0 : FF K mg d_octets_of_number) (f1 : FF K mg d_number_octets) (f2 : FF K mg d_sum_of_octets) (f3 : FF K mg d_sum_pair) (f4 : FF K mg d_frame) (f5 : FF K mg d_law_deal) (f6 : FF K mg d_law_any) (f7 : FF K mg d_law_of) (f8 : FF K mg d_law_is_kind) (f9 : FF K mg d_law_same) (f10 : FF K mg d_law_all) (f11 : FF K mg d_law_number_octets) (f12 : FF K mg d_law_weigh) (f13 : FF K mg d_law_rest) (f14 : FF K mg d_law_frame_pairs) (f15 : FF K mg d_law) (g0 : ∃ u v, mg "BASE" = some u ∧ RelV v u ∧ ∀ A B, Ho K A B v (.int 128)) (g1 : ∃ u v, mg "OCTET" = some u ∧ RelV v u ∧ ∀ A B, Ho K A B v (.int 256)) (g2 : ∃ u v, mg "PRIME" = some u ∧ RelV v u ∧ ∀ A B, Ho K A B v (.int 65521)) (hz : ∀ x, x ∈ blts → mg x = none) : Facts K mg ds cs ks where
  ff := List.forall_mem_cons.mpr ⟨f0, List.forall_mem_cons.mpr ⟨f1, List.forall_mem_cons.mpr ⟨f2, List.forall_mem_cons.mpr ⟨f3, List.forall_mem_cons.mpr ⟨f4, List.forall_mem_cons.mpr ⟨f5, List.forall_mem_cons.mpr ⟨f6, List.forall_mem_cons.mpr ⟨f7, List.forall_mem_cons.mpr ⟨f8, List.forall_mem_cons.mpr ⟨f9, List.forall_mem_cons.mpr ⟨f10, List.forall_mem_cons.mpr ⟨f11, List.forall_mem_cons.mpr ⟨f12, List.forall_mem_cons.mpr ⟨f13, List.forall_mem_cons.mpr ⟨f14, List.forall_mem_cons.mpr ⟨f15, fun _ h => by cases h⟩⟩⟩⟩⟩⟩⟩⟩⟩⟩⟩⟩⟩⟩⟩⟩
  nd := nd_all
  ch := ch_all
  blt := hz
  glob := List.forall_mem_cons.mpr ⟨g0, List.forall_mem_cons.mpr ⟨g1, List.forall_mem_cons.mpr ⟨g2, fun _ h => by cases h⟩⟩⟩
  kws := List.forall_mem_cons.mpr ⟨⟨d_sum_of_octets, List.mem_of_getElem? (i := 2) rfl, rfl, by decide, fun f fd F s us ws h1 h2 => by
    obtain ⟨oc, od, kV, doc, pm, an, cdv, ct, osl, rfl, lk, hcd⟩ := F.ex
    match us, ws, h1, h2 with
    | [], [b0], _, _ => exact ⟨.of_eq rfl, rfl⟩⟩, fun _ h => by cases h⟩
theorem all_mk {l : PySem.W.OpenLaw} {w : World} {K : PySem.W.Frag} {h : Heap} {mg : Str → Option Value} {fa : Addr} (X : K.In h) (G : h.Ns mainGlobals mg) (hfa : mg "law" = some (.ref fa)) {f0 f1 f2 f3 f4 f5 f6 f7 f8 f9 f10 f11 f12 f13 f14 f15 : Addr} {od0 an0 od1 an1 od2 an2 od3 an3 od4 an4 od5 an5 od6 an6 od7 an7 od8 an8 od9 an9 od10 an10 od11 an11 od12 an12 od13 an13 od14 an14 od15 an15 : Option Addr} {sl0 sl1 sl2 sl3 sl4 sl5 sl6 sl7 sl8 sl9 sl10 sl11 sl12 sl13 sl14 sl15 : Array (Option Value)} {oc0 kV0 dc0 pm0 cd0 ct0 oc1 kV1 dc1 pm1 cd1 ct1 oc2 kV2 dc2 pm2 cd2 ct2 oc3 kV3 dc3 pm3 cd3 ct3 oc4 kV4 dc4 pm4 cd4 ct4 oc5 kV5 dc5 pm5 cd5 ct5 oc6 kV6 dc6 pm6 cd6 ct6 oc7 kV7 dc7 pm7 cd7 ct7 oc8 kV8 dc8 pm8 cd8 ct8 oc9 kV9 dc9 pm9 cd9 ct9 oc10 kV10 dc10 pm10 cd10 ct10 oc11 kV11 dc11 pm11 cd11 ct11 oc12 kV12 dc12 pm12 cd12 ct12 oc13 kV13 dc13 pm13 cd13 ct13 oc14 kV14 dc14 pm14 cd14 ct14 oc15 kV15 dc15 pm15 cd15 ct15 : Value} {u0 u1 u2 : Tok}
    (a0 : PySem.W.nsIn K mainGlobals "octets_of_number" = some (some (.ref f0))) (l0 : K.lookup f0 = some ⟨oc0, od0, .func (PySem.W.fnOf "octets_of_number" "octets_of_number" (defArgs (topS 4)) (defBody (topS 4)) (defScope (topS 4)) .none kV0 dc0 pm0 an0 cd0 ct0), sl0⟩) (c0 : PySem.W.codeIn K cd0 "octets_of_number" = true) (k0 : PySem.W.keepIn K (.ref f0) = true)
    (a1 : PySem.W.nsIn K mainGlobals "number_octets" = some (some (.ref f1))) (l1 : K.lookup f1 = some ⟨oc1, od1, .func (PySem.W.fnOf "number_octets" "number_octets" (defArgs (topS 5)) (defBody (topS 5)) (defScope (topS 5)) .none kV1 dc1 pm1 an1 cd1 ct1), sl1⟩) (c1 : PySem.W.codeIn K cd1 "number_octets" = true) (k1 : PySem.W.keepIn K (.ref f1) = true)
    (a2 : PySem.W.nsIn K mainGlobals "sum_of_octets" = some (some (.ref f2))) (l2 : K.lookup f2 = some ⟨oc2, od2, .func (PySem.W.fnOf "sum_of_octets" "sum_of_octets" (defArgs (topS 6)) (defBody (topS 6)) (defScope (topS 6)) .none kV2 dc2 pm2 an2 cd2 ct2), sl2⟩) (c2 : PySem.W.codeIn K cd2 "sum_of_octets" = true) (k2 : PySem.W.keepIn K (.ref f2) = true)
    (a3 : PySem.W.nsIn K mainGlobals "sum_pair" = some (some (.ref f3))) (l3 : K.lookup f3 = some ⟨oc3, od3, .func (PySem.W.fnOf "sum_pair" "sum_pair" (defArgs (topS 7)) (defBody (topS 7)) (defScope (topS 7)) .none kV3 dc3 pm3 an3 cd3 ct3), sl3⟩) (c3 : PySem.W.codeIn K cd3 "sum_pair" = true) (k3 : PySem.W.keepIn K (.ref f3) = true)
    (a4 : PySem.W.nsIn K mainGlobals "frame" = some (some (.ref f4))) (l4 : K.lookup f4 = some ⟨oc4, od4, .func (PySem.W.fnOf "frame" "frame" (defArgs (topS 8)) (defBody (topS 8)) (defScope (topS 8)) .none kV4 dc4 pm4 an4 cd4 ct4), sl4⟩) (c4 : PySem.W.codeIn K cd4 "frame" = true) (k4 : PySem.W.keepIn K (.ref f4) = true)
    (a5 : PySem.W.nsIn K mainGlobals "_law_deal" = some (some (.ref f5))) (l5 : K.lookup f5 = some ⟨oc5, od5, .func (PySem.W.fnOf "_law_deal" "_law_deal" (defArgs (topS 10)) (defBody (topS 10)) (defScope (topS 10)) .none kV5 dc5 pm5 an5 cd5 ct5), sl5⟩) (c5 : PySem.W.codeIn K cd5 "_law_deal" = true) (k5 : PySem.W.keepIn K (.ref f5) = true)
    (a6 : PySem.W.nsIn K mainGlobals "_law_any" = some (some (.ref f6))) (l6 : K.lookup f6 = some ⟨oc6, od6, .func (PySem.W.fnOf "_law_any" "_law_any" (defArgs (topS 11)) (defBody (topS 11)) (defScope (topS 11)) .none kV6 dc6 pm6 an6 cd6 ct6), sl6⟩) (c6 : PySem.W.codeIn K cd6 "_law_any" = true) (k6 : PySem.W.keepIn K (.ref f6) = true)
    (a7 : PySem.W.nsIn K mainGlobals "_law_of" = some (some (.ref f7))) (l7 : K.lookup f7 = some ⟨oc7, od7, .func (PySem.W.fnOf "_law_of" "_law_of" (defArgs (topS 12)) (defBody (topS 12)) (defScope (topS 12)) .none kV7 dc7 pm7 an7 cd7 ct7), sl7⟩) (c7 : PySem.W.codeIn K cd7 "_law_of" = true) (k7 : PySem.W.keepIn K (.ref f7) = true)
    (a8 : PySem.W.nsIn K mainGlobals "_law_is_kind" = some (some (.ref f8))) (l8 : K.lookup f8 = some ⟨oc8, od8, .func (PySem.W.fnOf "_law_is_kind" "_law_is_kind" (defArgs (topS 13)) (defBody (topS 13)) (defScope (topS 13)) .none kV8 dc8 pm8 an8 cd8 ct8), sl8⟩) (c8 : PySem.W.codeIn K cd8 "_law_is_kind" = true) (k8 : PySem.W.keepIn K (.ref f8) = true)
    (a9 : PySem.W.nsIn K mainGlobals "_law_same" = some (some (.ref f9))) (l9 : K.lookup f9 = some ⟨oc9, od9, .func (PySem.W.fnOf "_law_same" "_law_same" (defArgs (topS 14)) (defBody (topS 14)) (defScope (topS 14)) .none kV9 dc9 pm9 an9 cd9 ct9), sl9⟩) (c9 : PySem.W.codeIn K cd9 "_law_same" = true) (k9 : PySem.W.keepIn K (.ref f9) = true)
    (a10 : PySem.W.nsIn K mainGlobals "_law_all" = some (some (.ref f10))) (l10 : K.lookup f10 = some ⟨oc10, od10, .func (PySem.W.fnOf "_law_all" "_law_all" (defArgs (topS 15)) (defBody (topS 15)) (defScope (topS 15)) .none kV10 dc10 pm10 an10 cd10 ct10), sl10⟩) (c10 : PySem.W.codeIn K cd10 "_law_all" = true) (k10 : PySem.W.keepIn K (.ref f10) = true)
    (a11 : PySem.W.nsIn K mainGlobals "_law_number_octets" = some (some (.ref f11))) (l11 : K.lookup f11 = some ⟨oc11, od11, .func (PySem.W.fnOf "_law_number_octets" "_law_number_octets" (defArgs (topS 16)) (defBody (topS 16)) (defScope (topS 16)) .none kV11 dc11 pm11 an11 cd11 ct11), sl11⟩) (c11 : PySem.W.codeIn K cd11 "_law_number_octets" = true) (k11 : PySem.W.keepIn K (.ref f11) = true)
    (a12 : PySem.W.nsIn K mainGlobals "_law_weigh" = some (some (.ref f12))) (l12 : K.lookup f12 = some ⟨oc12, od12, .func (PySem.W.fnOf "_law_weigh" "_law_weigh" (defArgs (topS 17)) (defBody (topS 17)) (defScope (topS 17)) .none kV12 dc12 pm12 an12 cd12 ct12), sl12⟩) (c12 : PySem.W.codeIn K cd12 "_law_weigh" = true) (k12 : PySem.W.keepIn K (.ref f12) = true)
    (a13 : PySem.W.nsIn K mainGlobals "_law_rest" = some (some (.ref f13))) (l13 : K.lookup f13 = some ⟨oc13, od13, .func (PySem.W.fnOf "_law_rest" "_law_rest" (defArgs (topS 18)) (defBody (topS 18)) (defScope (topS 18)) .none kV13 dc13 pm13 an13 cd13 ct13), sl13⟩) (c13 : PySem.W.codeIn K cd13 "_law_rest" = true) (k13 : PySem.W.keepIn K (.ref f13) = true)
    (a14 : PySem.W.nsIn K mainGlobals "_law_frame_pairs" = some (some (.ref f14))) (l14 : K.lookup f14 = some ⟨oc14, od14, .func (PySem.W.fnOf "_law_frame_pairs" "_law_frame_pairs" (defArgs (topS 19)) (defBody (topS 19)) (defScope (topS 19)) .none kV14 dc14 pm14 an14 cd14 ct14), sl14⟩) (c14 : PySem.W.codeIn K cd14 "_law_frame_pairs" = true) (k14 : PySem.W.keepIn K (.ref f14) = true)
    (a15 : PySem.W.nsIn K mainGlobals "law" = some (some (.ref f15))) (l15 : K.lookup f15 = some ⟨oc15, od15, .func (PySem.W.fnOf "law" "law" (defArgs (topS 20)) (defBody (topS 20)) (defScope (topS 20)) .none kV15 dc15 pm15 an15 cd15 ct15), sl15⟩) (c15 : PySem.W.codeIn K cd15 "law" = true) (k15 : PySem.W.keepIn K (.ref f15) = true)
    (y0 : PySem.W.nsIn K mainGlobals "BASE" = some (some (.int 128 u0)))
    (y1 : PySem.W.nsIn K mainGlobals "OCTET" = some (some (.int 256 u1)))
    (y2 : PySem.W.nsIn K mainGlobals "PRIME" = some (some (.int 65521 u2)))
    (z0 : PySem.W.nsIn K mainGlobals "abs" = some none)
    (z1 : PySem.W.nsIn K mainGlobals "int" = some none)
    (z2 : PySem.W.nsIn K mainGlobals "len" = some none)
    (z3 : PySem.W.nsIn K mainGlobals "sum" = some none)
    (z4 : PySem.W.nsIn K mainGlobals "min" = some none)
    (z5 : PySem.W.nsIn K mainGlobals "max" = some none)
    (z6 : PySem.W.nsIn K mainGlobals "tuple" = some none)
    (z7 : PySem.W.nsIn K mainGlobals "list" = some none)
    (z8 : PySem.W.nsIn K mainGlobals "sorted" = some none)
    (z9 : PySem.W.nsIn K mainGlobals "range" = some none)
    (z10 : PySem.W.nsIn K mainGlobals "enumerate" = some none)
    (z11 : PySem.W.nsIn K mainGlobals "zip" = some none)
    (z12 : PySem.W.nsIn K mainGlobals "reversed" = some none)
    (z13 : PySem.W.nsIn K mainGlobals "isinstance" = some none)
    (z14 : PySem.W.nsIn K mainGlobals "str" = some none)
    (z15 : PySem.W.nsIn K mainGlobals "bool" = some none)
    (z16 : PySem.W.nsIn K mainGlobals "dict" = some none)
    : ∃ fd : FuncData, (∀ (s : Shared) (v : Value), BindsTo s fd ⟨[v], []⟩ [("script", v)]) ∧ ∀ base : Heap, K.In base → base.Ns mainGlobals mg → FnOk l.prog w K mg base CX0 12 fa fd ["script"] (Pv.spLaw K (Fc 12 "law")) := by
  have e := hfa.symm.trans (PySem.W.mg_of X G a15)
  cases e
  have Fa : Facts K mg ds cs ks := facts (ff_mk X G (fun _ _ _ _ _ _ us hl => match us, hl with | [_], _ => rfl) a0 l0 c0 k0) (ff_mk X G (fun _ _ _ _ _ _ us hl => match us, hl with | [_], _ => rfl) a1 l1 c1 k1) (ff_mk X G (fun _ _ _ _ _ _ us hl => match us, hl with | [_], _ => rfl) a2 l2 c2 k2) (ff_mk X G (fun _ _ _ _ _ _ us hl => match us, hl with | [_], _ => rfl) a3 l3 c3 k3) (ff_mk X G (fun _ _ _ _ _ _ us hl => match us, hl with | [_], _ => rfl) a4 l4 c4 k4) (ff_mk X G (fun _ _ _ _ _ _ us hl => match us, hl with | [_, _], _ => rfl) a5 l5 c5 k5) (ff_mk X G (fun _ _ _ _ _ _ us hl => match us, hl with | [_, _], _ => rfl) a6 l6 c6 k6) (ff_mk X G (fun _ _ _ _ _ _ us hl => match us, hl with | [_, _], _ => rfl) a7 l7 c7 k7) (ff_mk X G (fun _ _ _ _ _ _ us hl => match us, hl with | [_, _], _ => rfl) a8 l8 c8 k8) (ff_mk X G (fun _ _ _ _ _ _ us hl => match us, hl with | [_, _], _ => rfl) a9 l9 c9 k9) (ff_mk X G (fun _ _ _ _ _ _ us hl => match us, hl with | [_], _ => rfl) a10 l10 c10 k10) (ff_mk X G (fun _ _ _ _ _ _ us hl => match us, hl with | [_], _ => rfl) a11 l11 c11 k11) (ff_mk X G (fun _ _ _ _ _ _ us hl => match us, hl with | [_], _ => rfl) a12 l12 c12 k12) (ff_mk X G (fun _ _ _ _ _ _ us hl => match us, hl with | [_], _ => rfl) a13 l13 c13 k13) (ff_mk X G (fun _ _ _ _ _ _ us hl => match us, hl with | [_, _], _ => rfl) a14 l14 c14 k14) (ff_mk X G (fun _ _ _ _ _ _ us hl => match us, hl with | [_], _ => rfl) a15 l15 c15 k15) ⟨_, .int 128, PySem.W.mg_of X G y0, ⟨_, rfl⟩, fun _ _ => .int _⟩ ⟨_, .int 256, PySem.W.mg_of X G y1, ⟨_, rfl⟩, fun _ _ => .int _⟩ ⟨_, .int 65521, PySem.W.mg_of X G y2, ⟨_, rfl⟩, fun _ _ => .int _⟩ (List.forall_mem_cons.mpr ⟨PySem.W.mg_none_of X G z0, List.forall_mem_cons.mpr ⟨PySem.W.mg_none_of X G z1, List.forall_mem_cons.mpr ⟨PySem.W.mg_none_of X G z2, List.forall_mem_cons.mpr ⟨PySem.W.mg_none_of X G z3, List.forall_mem_cons.mpr ⟨PySem.W.mg_none_of X G z4, List.forall_mem_cons.mpr ⟨PySem.W.mg_none_of X G z5, List.forall_mem_cons.mpr ⟨PySem.W.mg_none_of X G z6, List.forall_mem_cons.mpr ⟨PySem.W.mg_none_of X G z7, List.forall_mem_cons.mpr ⟨PySem.W.mg_none_of X G z8, List.forall_mem_cons.mpr ⟨PySem.W.mg_none_of X G z9, List.forall_mem_cons.mpr ⟨PySem.W.mg_none_of X G z10, List.forall_mem_cons.mpr ⟨PySem.W.mg_none_of X G z11, List.forall_mem_cons.mpr ⟨PySem.W.mg_none_of X G z12, List.forall_mem_cons.mpr ⟨PySem.W.mg_none_of X G z13, List.forall_mem_cons.mpr ⟨PySem.W.mg_none_of X G z14, List.forall_mem_cons.mpr ⟨PySem.W.mg_none_of X G z15, List.forall_mem_cons.mpr ⟨PySem.W.mg_none_of X G z16, fun _ h => by cases h⟩⟩⟩⟩⟩⟩⟩⟩⟩⟩⟩⟩⟩⟩⟩⟩⟩)
  exact ⟨_, fun s v => .of_eq rfl, fun base _ _ => tab_ok Fa 12 d_law (List.mem_of_getElem? (i := 15) rfl) fa _ (fun_mk l15 c15 k15)⟩
end Lk68
open PySem PySem.W PyProof.Rows
set_option maxHeartbeats 0 in
theorem PySem.Challenge.cw_liarschange_k68_sums_of_octets_by_closed_holds : PySem.Challenge.rw_liarschange_k68_sums_of_octets_by_closed.Holds := by
  w_on; o_law; k_head; (case hw => w_witness2)
  k_fill
  refine L2.walk_of (l := PySem.Challenge.rw_liarschange_k68_sums_of_octets_by_closed) (n := 63) (k := 12) (x := "script") (CX := fun _ => L2.CX0) (sp := fun w => Pv.spLaw _ (Lk68.Fc 12 "law")) rfl (by decide) rfl ⟨rfl, by decide, by decide⟩ (fun w h Y => PySem.W.kIn_of Y) ?F (fun _ _ a ns hl _ hS => (Lk68.law_true ns hl).elim fun _ e => Pv.law_end hS e) (fun _ _ _ _ _ h => h)
  case F =>
    intro w mg fa h KX G hmg
    refine' Lk68.all_mk KX G hmg ?a0 ?l0 ?c0 ?k0 ?a1 ?l1 ?c1 ?k1 ?a2 ?l2 ?c2 ?k2 ?a3 ?l3 ?c3 ?k3 ?a4 ?l4 ?c4 ?k4 ?a5 ?l5 ?c5 ?k5 ?a6 ?l6 ?c6 ?k6 ?a7 ?l7 ?c7 ?k7 ?a8 ?l8 ?c8 ?k8 ?a9 ?l9 ?c9 ?k9 ?a10 ?l10 ?c10 ?k10 ?a11 ?l11 ?c11 ?k11 ?a12 ?l12 ?c12 ?k12 ?a13 ?l13 ?c13 ?k13 ?a14 ?l14 ?c14 ?k14 ?a15 ?l15 ?c15 ?k15 ?y0 ?y1 ?y2 ?z0 ?z1 ?z2 ?z3 ?z4 ?z5 ?z6 ?z7 ?z8 ?z9 ?z10 ?z11 ?z12 ?z13 ?z14 ?z15 ?z16
    (case a0 => k_is)
    (case l0 => k_is)
    (case c0 => k_is)
    (case k0 => k_is)
    (case a1 => k_is)
    (case l1 => k_is)
    (case c1 => k_is)
    (case k1 => k_is)
    (case a2 => k_is)
    (case l2 => k_is)
    (case c2 => k_is)
    (case k2 => k_is)
    (case a3 => k_is)
    (case l3 => k_is)
    (case c3 => k_is)
    (case k3 => k_is)
    (case a4 => k_is)
    (case l4 => k_is)
    (case c4 => k_is)
    (case k4 => k_is)
    (case a5 => k_is)
    (case l5 => k_is)
    (case c5 => k_is)
    (case k5 => k_is)
    (case a6 => k_is)
    (case l6 => k_is)
    (case c6 => k_is)
    (case k6 => k_is)
    (case a7 => k_is)
    (case l7 => k_is)
    (case c7 => k_is)
    (case k7 => k_is)
    (case a8 => k_is)
    (case l8 => k_is)
    (case c8 => k_is)
    (case k8 => k_is)
    (case a9 => k_is)
    (case l9 => k_is)
    (case c9 => k_is)
    (case k9 => k_is)
    (case a10 => k_is)
    (case l10 => k_is)
    (case c10 => k_is)
    (case k10 => k_is)
    (case a11 => k_is)
    (case l11 => k_is)
    (case c11 => k_is)
    (case k11 => k_is)
    (case a12 => k_is)
    (case l12 => k_is)
    (case c12 => k_is)
    (case k12 => k_is)
    (case a13 => k_is)
    (case l13 => k_is)
    (case c13 => k_is)
    (case k13 => k_is)
    (case a14 => k_is)
    (case l14 => k_is)
    (case c14 => k_is)
    (case k14 => k_is)
    (case a15 => k_is)
    (case l15 => k_is)
    (case c15 => k_is)
    (case k15 => k_is)
    (case y0 => k_is)
    (case y1 => k_is)
    (case y2 => k_is)
    (case z0 => k_is)
    (case z1 => k_is)
    (case z2 => k_is)
    (case z3 => k_is)
    (case z4 => k_is)
    (case z5 => k_is)
    (case z6 => k_is)
    (case z7 => k_is)
    (case z8 => k_is)
    (case z9 => k_is)
    (case z10 => k_is)
    (case z11 => k_is)
    (case z12 => k_is)
    (case z13 => k_is)
    (case z14 => k_is)
    (case z15 => k_is)
    (case z16 => k_is)

