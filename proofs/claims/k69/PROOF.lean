import PyProof.Rows.All
import Wide.All
import OpenK.AllK
import Wide.FinOn
import HandS.ForMost
import HandS.Style
import HandS.IsInst
import HandS.Wide
import HandS.Conv
import HandS.Zip
import KE.KTupSum
import KE.GoesEnum
import KE.GoesMore
import HandS.TupAny
import HandS.TupMul
import HandS.Flow
import HandS.Rev
import HandS.Words
import PySem.Challenge.RW_liarschange_k69_frames_within_frames
set_option Elab.async false
set_option linter.all false
set_option maxRecDepth 100000
set_option maxHeartbeats 4000000
namespace Pv
open PySem PySem.Spec PyProof.Rows L2

/-! ## data -/
inductive D where
  | non | bl (b : Bool) | int (i : Int) | str (s : Str) | tup (xs : List D) | lst (xs : List D) | scr (xs : List Int) | hd (n : Nat)
  deriving Inhabited

def Ex (H H' : Hp) : Prop := ∀ a o, H a = some o → H' a = some o
theorem Ex.refl (H : Hp) : Ex H H := fun _ _ h => h
theorem Ex.trans {H H1 H2 : Hp} (a : Ex H H1) (b : Ex H1 H2) : Ex H H2 := fun x o h => b x o (a x o h)
theorem Ex.new {H : Hp} {p : Addr} {o : HO} (h : H p = none) : Ex H (upd H p o) := fun a u e => by
  rw [upd_ne (ne_of_none e h)]
  exact e
theorem Ex.mut {H H' : Hp} {p : Addr} {o : HO} (e : Ex H H') (h : H p = none) : Ex H (upd H' p o) := fun a u ha => by
  rw [upd_ne (ne_of_none ha h)]
  exact e a u ha
theorem Ex.back {H H' : Hp} {p : Addr} (e : Ex H H') (h : H' p = none) : H p = none := by
  cases h1 : H p with
  | none => rfl
  | some o => rw [e p o h1] at h; cases h
theorem Ex.upd2 {H H' : Hp} {p : Addr} {o : HO} (e : Ex H H') : Ex (upd H p o) (upd H' p o) := fun a u ha => by
  unfold upd at ha ⊢
  split
  · rename_i q; rw [if_pos q] at ha; exact ha
  · rename_i q; rw [if_neg q] at ha; exact e a u ha
theorem ex_rd {H H' : Hp} {a : Addr} {u : HO} (e : Ex H H') (h : Rd H a u) : Rd H' a u := by
  rcases h with h | ⟨o, h⟩
  · exact .inl (e a _ h)
  · exact .inr ⟨o, e a _ h⟩
theorem ex_l {K : PySem.W.Frag} {H H' : Hp} {a : Addr} {xs : List V} (e : Ex H H') (h : SqL K H a xs) : SqL K H' a xs := by
  rcases h with h | h
  · exact .inl (ex_rd e h)
  · exact .inr h
theorem ex_t {K : PySem.W.Frag} {H H' : Hp} {a : Addr} {xs : List V} (e : Ex H H') (h : SqT K H a xs) : SqT K H' a xs := by
  rcases h with h | h
  · exact .inl (ex_rd e h)
  · exact .inr h

/-- the handles' addresses are continued -/
def Px (A A' : List Addr) : Prop := ∀ (n : Nat) a, A[n]? = some a → A'[n]? = some a
theorem Px.refl (A : List Addr) : Px A A := fun _ _ h => h
theorem Px.trans {A B C : List Addr} (a : Px A B) (b : Px B C) : Px A C := fun n x h => b n x (a n x h)
theorem Px.app {A C : List Addr} : Px A (A ++ C) := fun n a h => by
  have hn := (List.getElem?_eq_some_iff.mp h).1
  rw [List.getElem?_append_left hn]; exact h
theorem Px.len {A B : List Addr} (a : Px A B) : A.length ≤ B.length := by
  cases h : A.length with
  | zero => exact Nat.zero_le _
  | succ n =>
    have hn : n < A.length := by omega
    have e := a n A[n] (List.getElem?_eq_getElem hn)
    have := (List.getElem?_eq_some_iff.mp e).1
    omega

mutual
inductive Ho (K : PySem.W.Frag) (A : List Addr) (B : Hp) : V → D → Prop
  | non : Ho K A B .non .non
  | bl (b : Bool) : Ho K A B (.bl b) (.bl b)
  | int (i : Int) : Ho K A B (.int i) (.int i)
  | str (s : Str) : Ho K A B (.str s) (.str s)
  | tup {a : Addr} {vs : List V} {ds : List D} : SqT K B a vs → HoL K A B vs ds → Ho K A B (.ref a) (.tup ds)
  | lst {a : Addr} {vs : List V} {ds : List D} : B a = some (.lst vs) → HoL K A B vs ds → Ho K A B (.ref a) (.lst ds)
  | scr {a : Addr} {ns : List Int} : SqL K B a (ns.map V.int) → Ho K A B (.ref a) (.scr ns)
  | hd {a : Addr} {n : Nat} : A[n]? = some a → Ho K A B (.ref a) (.hd n)
inductive HoL (K : PySem.W.Frag) (A : List Addr) (B : Hp) : List V → List D → Prop
  | nil : HoL K A B [] []
  | cons {v : V} {vs : List V} {d : D} {ds : List D} : Ho K A B v d → HoL K A B vs ds → HoL K A B (v :: vs) (d :: ds)
end
section
variable {K : PySem.W.Frag} {A A' : List Addr} {B B' : Hp}
mutual
theorem Ho.mono (hA : Px A A') (hB : Ex B B') : ∀ (d : D) {v : V}, Ho K A B v d → Ho K A' B' v d
  | .non, _, h => by cases h; exact .non
  | .bl _, _, h => by cases h; exact .bl _
  | .int _, _, h => by cases h; exact .int _
  | .str _, _, h => by cases h; exact .str _
  | .tup ds, _, h => by cases h with | tup h1 h2 => exact .tup (ex_t hB h1) (HoL.mono hA hB ds h2)
  | .lst ds, _, h => by cases h with | lst h1 h2 => exact .lst (hB _ _ h1) (HoL.mono hA hB ds h2)
  | .scr _, _, h => by cases h with | scr h1 => exact .scr (ex_l hB h1)
  | .hd _, _, h => by cases h with | hd h1 => exact .hd (hA _ _ h1)
theorem HoL.mono (hA : Px A A') (hB : Ex B B') : ∀ (ds : List D) {vs : List V}, HoL K A B vs ds → HoL K A' B' vs ds
  | [], _, h => by cases h; exact .nil
  | d :: ds, _, h => by cases h with | cons h1 h2 => exact .cons (Ho.mono hA hB d h1) (HoL.mono hA hB ds h2)
end
theorem HoL.length {vs : List V} {ds : List D} (h : HoL K A B vs ds) : vs.length = ds.length := by
  induction ds generalizing vs with
  | nil => cases h; rfl
  | cons d ds ih => cases h with | cons _ h2 => simp [ih h2]
theorem HoL.get {vs : List V} {ds : List D} (h : HoL K A B vs ds) {i : Nat} {d : D} (e : ds[i]? = some d) : ∃ v, vs[i]? = some v ∧ Ho K A B v d := by
  induction ds generalizing vs i with
  | nil => simp at e
  | cons x ds ih =>
    cases h with
    | cons h1 h2 =>
      cases i with
      | zero => simp at e; subst e; exact ⟨_, rfl, h1⟩
      | succ i => simpa using ih h2 (by simpa using e)
theorem HoL.getV {vs : List V} {ds : List D} (h : HoL K A B vs ds) {i : Nat} {v : V} (e : vs[i]? = some v) : ∃ d, ds[i]? = some d ∧ Ho K A B v d := by
  have hi := (List.getElem?_eq_some_iff.mp e).1
  rw [h.length] at hi
  obtain ⟨v', e', r⟩ := h.get (List.getElem?_eq_getElem hi)
  rw [e] at e'; cases e'
  exact ⟨_, List.getElem?_eq_getElem hi, r⟩
theorem HoL.append {vs ws : List V} {ds es : List D} (h : HoL K A B vs ds) (h' : HoL K A B ws es) : HoL K A B (vs ++ ws) (ds ++ es) := by
  induction ds generalizing vs with
  | nil => cases h; exact h'
  | cons d ds ih => cases h with | cons h1 h2 => exact .cons h1 (ih h2)
theorem HoL.take {vs : List V} {ds : List D} (h : HoL K A B vs ds) (n : Nat) : HoL K A B (vs.take n) (ds.take n) := by
  induction ds generalizing vs n with
  | nil => cases h; simp; exact .nil
  | cons d ds ih => cases h with | cons h1 h2 => cases n with
    | zero => exact .nil
    | succ n => exact .cons h1 (ih h2 n)
theorem HoL.drop {vs : List V} {ds : List D} (h : HoL K A B vs ds) (n : Nat) : HoL K A B (vs.drop n) (ds.drop n) := by
  induction ds generalizing vs n with
  | nil => cases h; simp; exact .nil
  | cons d ds ih => cases h with | cons h1 h2 => cases n with
    | zero => exact .cons h1 h2
    | succ n => exact ih h2 n
theorem HoL.reverse {vs : List V} {ds : List D} (h : HoL K A B vs ds) : HoL K A B vs.reverse ds.reverse := by
  induction ds generalizing vs with
  | nil => cases h; exact .nil
  | cons d ds ih => cases h with | cons h1 h2 =>
    rw [List.reverse_cons, List.reverse_cons]; exact (ih h2).append (.cons h1 .nil)
theorem HoL.set {vs : List V} {ds : List D} (h : HoL K A B vs ds) {v : V} {d : D} (r : Ho K A B v d) (n : Nat) : HoL K A B (vs.set n v) (ds.set n d) := by
  induction ds generalizing vs n with
  | nil => cases h; simp; exact .nil
  | cons d ds ih => cases h with | cons h1 h2 => cases n with
    | zero => exact .cons r h2
    | succ n => exact .cons h1 (ih h2 n)
theorem HoL.eraseIdx {vs : List V} {ds : List D} (h : HoL K A B vs ds) (n : Nat) : HoL K A B (vs.eraseIdx n) (ds.eraseIdx n) := by
  induction ds generalizing vs n with
  | nil => cases h; simp; exact .nil
  | cons d ds ih => cases h with | cons h1 h2 => cases n with
    | zero => exact h2
    | succ n => exact .cons h1 (ih h2 n)
theorem HoL.dropLast {vs : List V} {ds : List D} (h : HoL K A B vs ds) : HoL K A B vs.dropLast ds.dropLast := by
  rw [List.dropLast_eq_take, List.dropLast_eq_take, h.length]; exact h.take _
theorem HoL.replicate {vs : List V} {ds : List D} (h : HoL K A B vs ds) (n : Nat) : HoL K A B (List.replicate n vs).flatten (List.replicate n ds).flatten := by
  induction n with
  | zero => exact .nil
  | succ n ih => rw [List.replicate_succ, List.replicate_succ, List.flatten_cons, List.flatten_cons]; exact h.append ih
theorem HoL.ints {ns : List Int} : ∀ {vs : List V}, HoL K A B vs (ns.map D.int) → vs = ns.map V.int := by
  induction ns with
  | nil => intro vs h; cases h; rfl
  | cons n ns ih => intro vs h; cases h with | cons h1 h2 => cases h1; rw [ih h2]; rfl
theorem HoL.of_ints {ns : List Int} : HoL K A B (ns.map V.int) (ns.map D.int) := by
  induction ns with
  | nil => exact .nil
  | cons n ns ih => exact .cons (.int n) ih
end

/-! ## the frame, the store, what is owned -/
inductive Sl where
  | no | val (d : D) | own (xs : List D)
  deriving Inhabited
abbrev Env := List Sl
abbrev Sto := List (List D)
inductive Role where
  | s (i : Nat) | t (k : Nat) | h (n : Nat)
  deriving DecidableEq
def cont (ρ : Env) (T : List (Addr × List D)) (st : Sto) : Role → Option (List D)
  | .s i => match ρ[i]? with | some (.own xs) => some xs | _ => none
  | .t k => (T[k]?).map (·.2)
  | .h n => st[n]?
def adr (A : List Addr) (σ : L2.St) (T : List (Addr × List D)) : Role → Option Addr
  | .s i => match σ[i]? with | some (some (.ref a)) => some a | _ => none
  | .t k => (T[k]?).map (·.1)
  | .h n => A[n]?
def Own (K : PySem.W.Frag) (A : List Addr) (B H : Hp) (a : Addr) (xs : List D) : Prop := B a = none ∧ ∃ vs, H a = some (.lst vs) ∧ HoL K A B vs xs

/-- where the frame began -/
structure Org where
  A : List Addr
  B : Hp
  H : Hp
/-- what has become of (A, B, H) -/
structure Fwd (O : Org) (A : List Addr) (B H : Hp) : Prop where
  px : Px O.A A
  ex : Ex O.B B
  nb : ∀ a, O.B a = none → B a ≠ none → O.H a = none
  na : ∀ n a, A[n]? = some a → O.A.length ≤ n → O.H a = none
  kp : ∀ a o, O.H a = some o → a ∉ O.A → H a = some o
  kh : ∀ a, O.H a ≠ none → H a ≠ none
structure Rel (K : PySem.W.Frag) (O : Org) (A : List Addr) (B : Hp) (σ : L2.St) (H : Hp) (ρ : Env) (st : Sto) (T : List (Addr × List D)) : Prop where
  fw : Fwd O A B H
  ex : Ex B H
  len : σ.length = ρ.length
  al : A.length = st.length
  val : ∀ (i : Nat) (d : D), ρ[i]? = some (.val d) → ∃ v, σ[i]? = some (some v) ∧ Ho K A B v d
  own : ∀ r xs, cont ρ T st r = some xs → ∃ a, adr A σ T r = some a ∧ Own K A B H a xs
  dist : ∀ r r' xs xs' a, cont ρ T st r = some xs → cont ρ T st r' = some xs' → adr A σ T r = some a → adr A σ T r' = some a → r = r'
  fresh : ∀ r xs a, cont ρ T st r = some xs → adr A σ T r = some a → (∀ n, r = .h n → O.A.length ≤ n) → O.H a = none

section
variable {K : PySem.W.Frag} {O : Org} {A A' : List Addr} {B B' H H' : Hp} {σ : L2.St} {ρ : Env} {st : Sto} {T : List (Addr × List D)}
theorem Own.mono {a : Addr} {xs : List D} (hA : Px A A') (hB : Ex B B') (hb : B' a = none) (hh : ∀ o, H a = some o → H' a = some o) (h : Own K A B H a xs) : Own K A' B' H' a xs := by
  obtain ⟨_, vs, h2, h3⟩ := h
  exact ⟨hb, vs, hh _ h2, h3.mono hA hB⟩
theorem Rel.hfresh (R : Rel K O A B σ H ρ st T) {p : Addr} (h : H p = none) : O.H p = none := by
  cases q : O.H p with
  | none => rfl
  | some o => exact absurd h (R.fw.kh p (by rw [q]; simp))
theorem Rel.bfresh (R : Rel K O A B σ H ρ st T) {p : Addr} (h : H p = none) : B p = none := R.ex.back h
theorem Rel.adr_ne (R : Rel K O A B σ H ρ st T) {r : Role} {xs : List D} {a p : Addr} (c : cont ρ T st r = some xs) (e : adr A σ T r = some a) (h : H p = none) : a ≠ p := by
  obtain ⟨a', e', _, vs, h2, _⟩ := R.own r xs c
  rw [e] at e'; cases e'
  exact ne_of_none h2 h
/-- the heap grows, what is frozen grows by new things alone -/
theorem Rel.grow (R : Rel K O A B σ H ρ st T) (hB : Ex B B') (hH : Ex H H') (hBH : Ex B' H') (hn : ∀ a, B a = none → B' a ≠ none → H a = none) : Rel K O A B' σ H' ρ st T where
  fw := ⟨R.fw.px, R.fw.ex.trans hB, fun a h1 h2 => by
      by_cases q : B a = none
      · exact R.hfresh (hn a q h2)
      · exact R.fw.nb a h1 q, R.fw.na, fun a o h1 h2 => hH a o (R.fw.kp a o h1 h2), fun a h1 h2 => R.fw.kh a h1 (hH.back h2)⟩
  ex := hBH
  len := R.len
  al := R.al
  val := fun i d e => by
    obtain ⟨v, e1, e2⟩ := R.val i d e
    exact ⟨v, e1, e2.mono (Px.refl _) hB⟩
  own := fun r xs c => by
    obtain ⟨a, e, o⟩ := R.own r xs c
    refine ⟨a, e, o.mono (Px.refl _) hB ?_ (fun o q => hH a o q)⟩
    obtain ⟨b0, vs, h2, _⟩ := o
    cases q : B' a with
    | none => rfl
    | some u =>
      have := hn a b0 (by rw [q]; simp)
      rw [h2] at this; cases this
  dist := R.dist
  fresh := R.fresh
/-- a new tuple (or any thing), frozen -/
theorem Rel.new (R : Rel K O A B σ H ρ st T) {p : Addr} {o : HO} (h : H p = none) : Rel K O A (upd B p o) σ (upd H p o) ρ st T :=
  R.grow (Ex.new (R.bfresh h)) (Ex.new h) R.ex.upd2 (fun a h1 h2 => by
    by_cases q : a = p
    · rw [q]; exact h
    · rw [upd_ne q] at h2; exact absurd h1 h2)
/-- a thing that nobody holds -/
theorem Rel.waste (R : Rel K O A B σ H ρ st T) {p : Addr} {o : HO} (h : H p = none) : Rel K O A B σ (upd H p o) ρ st T :=
  R.grow (Ex.refl _) (Ex.new h) (R.ex.trans (Ex.new h)) (fun a h1 h2 => absurd h1 h2)
theorem cont_t0 {a : Addr} {xs : List D} : cont ρ ((a, xs) :: T) st (.t 0) = some xs := rfl
theorem cont_ts {p : Addr × List D} {k : Nat} : cont ρ (p :: T) st (.t (k + 1)) = cont ρ T st (.t k) := by simp [cont]
theorem adr_ts {p : Addr × List D} {k : Nat} : adr A σ (p :: T) (.t (k + 1)) = adr A σ T (.t k) := by simp [adr]
/-- a role ahead of a push of a temp -/
def Role.up : Role → Role
  | .t k => .t (k + 1)
  | r => r
theorem cont_up (p : Addr × List D) (r : Role) : cont ρ (p :: T) st r.up = cont ρ T st r := by
  cases r <;> simp [Role.up, cont]
theorem adr_up (p : Addr × List D) (r : Role) : adr A σ (p :: T) r.up = adr A σ T r := by
  cases r <;> simp [Role.up, adr]
theorem Role.up_cases (r : Role) : r = .t 0 ∨ ∃ r' : Role, r = r'.up := by
  cases r with
  | s i => exact .inr ⟨.s i, rfl⟩
  | h n => exact .inr ⟨.h n, rfl⟩
  | t k => cases k with
    | zero => exact .inl rfl
    | succ k => exact .inr ⟨.t k, rfl⟩
theorem Role.up_inj {r r' : Role} (h : r.up = r'.up) : r = r' := by
  cases r <;> cases r' <;> simp_all [Role.up]
theorem Role.up_h {r : Role} {n : Nat} (h : r.up = .h n) : r = .h n := by
  cases r <;> simp_all [Role.up]
/-- a new list, a temp -/
theorem Rel.push (R : Rel K O A B σ H ρ st T) {p : Addr} {vs : List V} {xs : List D} (h : H p = none) (hv : HoL K A B vs xs) : Rel K O A B σ (upd H p (.lst vs)) ρ st ((p, xs) :: T) := by
  have R' := R.waste (o := .lst vs) h
  refine ⟨R'.fw, R'.ex, R.len, R.al, R'.val, fun r ys c => ?_, fun r r' ys ys' a c c' e e' => ?_, fun r ys a c e hn => ?_⟩
  · rcases r.up_cases with rfl | ⟨q, rfl⟩
    · cases c
      exact ⟨p, rfl, R.bfresh h, vs, upd_same, hv⟩
    · rw [cont_up] at c; rw [adr_up]
      exact R'.own q ys c
  · rcases r.up_cases with rfl | ⟨q, rfl⟩
    · cases e
      rcases r'.up_cases with rfl | ⟨q', rfl⟩
      · rfl
      · rw [cont_up] at c'; rw [adr_up] at e'
        exact absurd rfl (R.adr_ne c' e' h)
    · rw [cont_up] at c; rw [adr_up] at e
      rcases r'.up_cases with rfl | ⟨q', rfl⟩
      · cases e'
        exact absurd rfl (R.adr_ne c e h)
      · rw [cont_up] at c'; rw [adr_up] at e'
        rw [R.dist q q' ys ys' a c c' e e']
  · rcases r.up_cases with rfl | ⟨q, rfl⟩
    · cases e; exact R.hfresh h
    · rw [cont_up] at c; rw [adr_up] at e
      exact R.fresh q ys a c e (fun n hq => hn n (by rw [hq]; rfl))
/-- the newest temp is dropped -/
theorem Rel.pop {p : Addr × List D} (R : Rel K O A B σ H ρ st (p :: T)) : Rel K O A B σ H ρ st T := by
  refine ⟨R.fw, R.ex, R.len, R.al, R.val, fun r ys c => ?_, fun r r' ys ys' a c c' e e' => ?_, fun r ys a c e hn => ?_⟩
  · have := R.own r.up ys (by rw [cont_up]; exact c)
    rw [adr_up] at this; exact this
  · exact Role.up_inj (R.dist r.up r'.up ys ys' a (by rw [cont_up]; exact c) (by rw [cont_up]; exact c') (by rw [adr_up]; exact e) (by rw [adr_up]; exact e'))
  · exact R.fresh r.up ys a (by rw [cont_up]; exact c) (by rw [adr_up]; exact e) (fun n hq => hn n (Role.up_h hq))
/-- what is at the newest temp -/
theorem Rel.top {a : Addr} {xs : List D} (R : Rel K O A B σ H ρ st ((a, xs) :: T)) : Own K A B H a xs := by
  obtain ⟨a', e, o⟩ := R.own (.t 0) xs rfl
  cases e; exact o
/-- an owned thing that no role holds any more is frozen -/
theorem Rel.frz {a : Addr} {vs : List V} (R : Rel K O A B σ H ρ st T) (hb : B a = none) (hh : H a = some (.lst vs)) (ho : O.H a = none) (hno : ∀ r ys, cont ρ T st r = some ys → adr A σ T r ≠ some a) :
    Rel K O A (upd B a (.lst vs)) σ H ρ st T := by
  have hB : Ex B (upd B a (.lst vs)) := Ex.new hb
  refine ⟨⟨R.fw.px, R.fw.ex.trans hB, fun c h1 h2 => ?_, R.fw.na, R.fw.kp, R.fw.kh⟩, fun c o e => ?_, R.len, R.al, fun i d e => ?_, fun r xs c => ?_, R.dist, R.fresh⟩
  · by_cases q : c = a
    · rw [q]; exact ho
    · rw [upd_ne q] at h2; exact R.fw.nb c h1 h2
  · by_cases q : c = a
    · subst q; rw [upd_same] at e; cases e; exact hh
    · rw [upd_ne q] at e; exact R.ex c o e
  · obtain ⟨v, e1, e2⟩ := R.val i d e
    exact ⟨v, e1, e2.mono (Px.refl _) hB⟩
  · obtain ⟨c', e, o⟩ := R.own r xs c
    refine ⟨c', e, o.mono (Px.refl _) hB ?_ (fun o q => q)⟩
    have hne : c' ≠ a := fun z => hno r xs c (by rw [e, z])
    rw [upd_ne hne]; exact o.1
theorem Rel.freeze {a : Addr} {xs : List D} (R : Rel K O A B σ H ρ st ((a, xs) :: T)) : ∃ vs, Rel K O A (upd B a (.lst vs)) σ H ρ st T ∧ Ho K A (upd B a (.lst vs)) (.ref a) (.lst xs) ∧ Ex B (upd B a (.lst vs)) := by
  obtain ⟨hb, vs, hh, hv⟩ := R.top
  refine ⟨vs, R.pop.frz hb hh (R.fresh (.t 0) xs a rfl rfl (fun n z => by cases z)) (fun r ys c e => ?_), .lst upd_same (hv.mono (Px.refl _) (Ex.new hb)), Ex.new hb⟩
  have := R.dist (.t 0) r.up xs ys a rfl (by rw [cont_up]; exact c) rfl (by rw [adr_up]; exact e)
  cases r <;> simp [Role.up] at this
end
end Pv

namespace Pv
open PySem PySem.Spec PyProof.Rows L2
section
variable {K : PySem.W.Frag} {O : Org} {A A' : List Addr} {B B' H H' : Hp} {σ σ' : L2.St} {ρ ρ' : Env} {st st' : Sto} {T T' : List (Addr × List D)}
theorem cont_set_ne {i : Nat} {x : Sl} {r : Role} (h : r ≠ .s i) : cont (ρ.set i x) T st r = cont ρ T st r := by
  cases r with
  | s j =>
    have hj : i ≠ j := fun e => h (by rw [e])
    simp only [cont, List.getElem?_set_ne hj]
  | t k => rfl
  | h n => rfl
theorem adr_set_ne {i : Nat} {x : Option V} {r : Role} (h : r ≠ .s i) : adr A (σ.set i x) T r = adr A σ T r := by
  cases r with
  | s j =>
    have hj : i ≠ j := fun e => h (by rw [e])
    simp only [adr, List.getElem?_set_ne hj]
  | t k => rfl
  | h n => rfl
theorem cont_set_no {i : Nat} {x : Sl} (hx : ∀ xs, x ≠ .own xs) {r : Role} {xs : List D} (c : cont (ρ.set i x) T st r = some xs) : r ≠ .s i ∧ cont ρ T st r = some xs := by
  have hr : r ≠ .s i := by
    intro e
    subst e
    by_cases hi : i < ρ.length
    · simp only [cont, List.getElem?_set_self hi] at c
      cases x with
      | own ys => exact hx ys rfl
      | no => cases c
      | val d => cases c
    · have : (ρ.set i x)[i]? = none := List.getElem?_eq_none (by rw [List.length_set]; omega)
      simp only [cont, this] at c
      cases c
  exact ⟨hr, by rw [← cont_set_ne hr]; exact c⟩
/-- a slot that holds nothing that is owned -/
theorem Rel.setv {i : Nat} {x : Sl} {y : Option V} (R : Rel K O A B σ H ρ st T) (hx : ∀ xs, x ≠ .own xs) (hv : ∀ d, x = .val d → ∃ v, y = some v ∧ Ho K A B v d) : Rel K O A B (σ.set i y) H (ρ.set i x) st T := by
  refine ⟨R.fw, R.ex, by rw [List.length_set, List.length_set]; exact R.len, R.al, fun j d e => ?_, fun r xs c => ?_, fun r r' xs xs' a c c' e e' => ?_, fun r xs a c e hn => ?_⟩
  · by_cases hj : i = j
    · subst hj
      by_cases hi : i < ρ.length
      · rw [List.getElem?_set_self hi] at e
        cases e
        obtain ⟨v, rfl, h⟩ := hv d rfl
        exact ⟨v, List.getElem?_set_self (by rw [R.len]; exact hi), h⟩
      · rw [List.getElem?_eq_none (by rw [List.length_set]; omega)] at e
        cases e
    · rw [List.getElem?_set_ne hj] at e
      obtain ⟨v, e1, e2⟩ := R.val j d e
      exact ⟨v, by rw [List.getElem?_set_ne hj]; exact e1, e2⟩
  · obtain ⟨h1, h2⟩ := cont_set_no hx c
    obtain ⟨a, e, o⟩ := R.own r xs h2
    exact ⟨a, by rw [adr_set_ne h1]; exact e, o⟩
  · obtain ⟨h1, h2⟩ := cont_set_no hx c
    obtain ⟨h1', h2'⟩ := cont_set_no hx c'
    rw [adr_set_ne h1] at e
    rw [adr_set_ne h1'] at e'
    exact R.dist r r' xs xs' a h2 h2' e e'
  · obtain ⟨h1, h2⟩ := cont_set_no hx c
    rw [adr_set_ne h1] at e
    exact R.fresh r xs a h2 e hn
theorem Rel.setVal {i : Nat} {v : V} {d : D} (R : Rel K O A B σ H ρ st T) (h : Ho K A B v d) : Rel K O A B (σ.set i (some v)) H (ρ.set i (.val d)) st T :=
  R.setv (fun _ z => by cases z) fun d' z => by cases z; exact ⟨v, rfl, h⟩
theorem Rel.setNo {i : Nat} {y : Option V} (R : Rel K O A B σ H ρ st T) : Rel K O A B (σ.set i y) H (ρ.set i .no) st T :=
  R.setv (fun _ z => by cases z) fun d' z => by cases z
/-- another frame of the same values -/
theorem Rel.resig (R : Rel K O A B σ H ρ st T) (hl : σ'.length = σ.length) (h : ∀ (j : Nat), ρ[j]? ≠ some Sl.no → σ'[j]? = σ[j]?) : Rel K O A B σ' H ρ st T := by
  have ad : ∀ r xs, cont ρ T st r = some xs → adr A σ' T r = adr A σ T r := fun r xs c => by
    cases r with
    | s j =>
      have : σ'[j]? = σ[j]? := h j fun z => by simp [cont, z] at c
      simp only [adr, this]
    | t k => rfl
    | h n => rfl
  refine ⟨R.fw, R.ex, by rw [hl]; exact R.len, R.al, fun j d e => ?_, fun r xs c => ?_, fun r r' xs xs' a c c' e e' => ?_, fun r xs a c e hn => ?_⟩
  · rw [h j (by rw [e]; simp)]; exact R.val j d e
  · rw [ad r xs c]; exact R.own r xs c
  · rw [ad r xs c] at e; rw [ad r' xs' c'] at e'
    exact R.dist r r' xs xs' a c c' e e'
  · rw [ad r xs c] at e; exact R.fresh r xs a c e hn
/-- the newest temp comes to a slot -/
theorem Rel.setOwn {i : Nat} {a : Addr} {xs : List D} (R : Rel K O A B σ H ρ st ((a, xs) :: T)) (hi : i < ρ.length) : Rel K O A B (σ.set i (some (.ref a))) H (ρ.set i (.own xs)) st T := by
  have R0 : Rel K O A B (σ.set i (some (.ref a))) H (ρ.set i .no) st ((a, xs) :: T) := R.setNo
  have hs : i < σ.length := by rw [R.len]; exact hi
  -- a role of the new frame is a role of R0
  have back : ∀ r ys, cont (ρ.set i (.own xs)) T st r = some ys → (r = .s i ∧ ys = xs) ∨ (r ≠ .s i ∧ cont ρ T st r = some ys) := fun r ys c => by
    by_cases hr : r = .s i
    · subst hr
      simp only [cont, List.getElem?_set_self hi] at c
      exact .inl ⟨rfl, (Option.some.inj c).symm⟩
    · exact .inr ⟨hr, by rw [← cont_set_ne hr]; exact c⟩
  have adi : adr A (σ.set i (some (.ref a))) T (.s i) = some a := by simp only [adr, List.getElem?_set_self hs]
  have nota : ∀ r ys, cont ρ T st r = some ys → adr A σ T r = some a → False := fun r ys c e => by
    have := R.dist (.t 0) r.up xs ys a rfl (by rw [cont_up]; exact c) rfl (by rw [adr_up]; exact e)
    cases r <;> simp [Role.up] at this
  refine ⟨R.fw, R.ex, by rw [List.length_set, List.length_set]; exact R.len, R.al, fun j d e => ?_, fun r ys c => ?_, fun r r' ys ys' b c c' e e' => ?_, fun r ys b c e hn => ?_⟩
  · by_cases hj : i = j
    · subst hj
      rw [List.getElem?_set_self hi] at e; cases e
    · rw [List.getElem?_set_ne hj] at e
      obtain ⟨v, e1, e2⟩ := R.val j d e
      exact ⟨v, by rw [List.getElem?_set_ne hj]; exact e1, e2⟩
  · rcases back r ys c with ⟨rfl, rfl⟩ | ⟨h1, h2⟩
    · exact ⟨a, adi, R.top⟩
    · obtain ⟨b, e, o⟩ := R.pop.own r ys h2
      exact ⟨b, by rw [adr_set_ne h1]; exact e, o⟩
  · rcases back r ys c with ⟨rfl, rfl⟩ | ⟨h1, h2⟩
    · rw [adi] at e; cases e
      rcases back r' ys' c' with ⟨rfl, rfl⟩ | ⟨h1', h2'⟩
      · rfl
      · rw [adr_set_ne h1'] at e'
        exact (nota r' ys' h2' e').elim
    · rw [adr_set_ne h1] at e
      rcases back r' ys' c' with ⟨rfl, rfl⟩ | ⟨h1', h2'⟩
      · rw [adi] at e'; cases e'
        exact (nota r ys h2 e).elim
      · rw [adr_set_ne h1'] at e'
        exact R.pop.dist r r' ys ys' b h2 h2' e e'
  · rcases back r ys c with ⟨rfl, rfl⟩ | ⟨h1, h2⟩
    · rw [adi] at e; cases e
      exact R.fresh (.t 0) ys a rfl rfl (fun n z => by cases z)
    · rw [adr_set_ne h1] at e
      exact R.pop.fresh r ys b h2 e hn
/-- a slot's own list becomes a temp -/
theorem Rel.take {i : Nat} {xs : List D} (R : Rel K O A B σ H ρ st T) (h : ρ[i]? = some (.own xs)) : ∃ a, σ[i]? = some (some (.ref a)) ∧ Rel K O A B σ H (ρ.set i .no) st ((a, xs) :: T) := by
  have ci : cont ρ T st (.s i) = some xs := by simp only [cont, h]
  obtain ⟨a, e, o⟩ := R.own (.s i) xs ci
  have es : σ[i]? = some (some (.ref a)) := by
    simp only [adr] at e
    split at e <;> simp_all
  have hsi : σ.set i (some (.ref a)) = σ := by
    apply List.ext_getElem?
    intro j
    by_cases hj : i = j
    · subst hj
      rw [List.getElem?_set_self (List.getElem?_eq_some_iff.mp es).1, es]
    · rw [List.getElem?_set_ne hj]
  have R0 : Rel K O A B (σ.set i (some (.ref a))) H (ρ.set i .no) st T := R.setNo
  rw [hsi] at R0
  refine ⟨a, es, R0.fw, R0.ex, R0.len, R0.al, R0.val, fun r ys c => ?_, fun r r' ys ys' b c c' e1 e2 => ?_, fun r ys b c e1 hn => ?_⟩
  · rcases r.up_cases with rfl | ⟨q, rfl⟩
    · cases c; exact ⟨a, rfl, o⟩
    · rw [cont_up] at c; rw [adr_up]; exact R0.own q ys c
  · have key : ∀ q zs, cont (ρ.set i .no) T st q = some zs → adr A σ T q = some a → False := fun q zs c e3 => by
      obtain ⟨h1, h2⟩ := cont_set_no (fun _ z => by cases z) c
      exact h1 (R.dist q (.s i) zs xs a h2 ci e3 e)
    rcases r.up_cases with rfl | ⟨q, rfl⟩
    · cases e1
      rcases r'.up_cases with rfl | ⟨q', rfl⟩
      · rfl
      · rw [cont_up] at c'; rw [adr_up] at e2
        exact (key q' ys' c' e2).elim
    · rw [cont_up] at c; rw [adr_up] at e1
      rcases r'.up_cases with rfl | ⟨q', rfl⟩
      · cases e2
        exact (key q ys c e1).elim
      · rw [cont_up] at c'; rw [adr_up] at e2
        rw [R0.dist q q' ys ys' b c c' e1 e2]
  · rcases r.up_cases with rfl | ⟨q, rfl⟩
    · cases e1
      exact R.fresh (.s i) xs a ci e (fun n z => by cases z)
    · rw [cont_up] at c; rw [adr_up] at e1
      exact R0.fresh q ys b c e1 (fun n hq => hn n (by rw [hq]; rfl))
/-- a slot's own list is frozen -/
theorem Rel.freezeSlot {i : Nat} {xs : List D} (R : Rel K O A B σ H ρ st T) (h : ρ[i]? = some (.own xs)) : ∃ a B', σ[i]? = some (some (.ref a)) ∧ Rel K O A B' σ H (ρ.set i (.val (.lst xs))) st T ∧ Ho K A B' (.ref a) (.lst xs) ∧ Ex B B' := by
  obtain ⟨a, es, R1⟩ := R.take h
  obtain ⟨vs, R2, h2, h3⟩ := R1.freeze
  have R3 := R2.setVal (i := i) h2
  have hsi : σ.set i (some (.ref a)) = σ := by
    apply List.ext_getElem?
    intro j
    by_cases hj : i = j
    · subst hj
      rw [List.getElem?_set_self (List.getElem?_eq_some_iff.mp es).1, es]
    · rw [List.getElem?_set_ne hj]
  rw [hsi, List.set_set] at R3
  exact ⟨a, _, es, R3, h2, h3⟩
/-- the list of a role changes -/
theorem Rel.updr {r : Role} {a : Addr} {xs ys : List D} {vs : List V} (R : Rel K O A B σ H ρ st T) (c : cont ρ T st r = some xs) (e : adr A σ T r = some a) (hv : HoL K A B vs ys) (cr : cont ρ' T' st' r = some ys)
    (co : ∀ q, q ≠ r → cont ρ' T' st' q = cont ρ T st q) (ad : ∀ q, adr A σ T' q = adr A σ T q) (l1 : ρ'.length = ρ.length) (l2 : st'.length = st.length) (va : ∀ (i : Nat) (d : D), ρ'[i]? = some (.val d) → ρ[i]? = some (.val d)) :
    Rel K O A B σ (upd H a (.lst vs)) ρ' st' T' := by
  obtain ⟨a', e', hb, ws, hw, _⟩ := R.own r xs c
  rw [e] at e'; cases e'
  have ne : ∀ b o, O.H b = some o → b ∉ O.A → b ≠ a := fun b o hb' hA z => by
    subst z
    by_cases hr : ∀ n, r = .h n → O.A.length ≤ n
    · rw [R.fresh r xs b c e hr] at hb'; cases hb'
    · simp only [Classical.not_forall] at hr
      obtain ⟨n, rfl, hn⟩ := hr
      have hn' : n < O.A.length := by omega
      have e1 : O.A[n]? = some O.A[n] := List.getElem?_eq_getElem hn'
      have e2 := R.fw.px n _ e1
      simp only [adr] at e
      rw [e] at e2; cases e2
      exact hA (List.getElem_mem hn')
  refine ⟨⟨R.fw.px, R.fw.ex, R.fw.nb, R.fw.na, fun b o h1 h2 => by rw [upd_ne (ne b o h1 h2)]; exact R.fw.kp b o h1 h2, fun b h1 => ?_⟩, R.ex.mut hb, by rw [R.len, l1], by rw [R.al, l2], fun i d h => R.val i d (va i d h), fun q zs cq => ?_,
    fun q q' zs zs' b cq cq' eq eq' => ?_, fun q zs b cq eq hn => ?_⟩
  · by_cases q : b = a
    · subst q; rw [upd_same]; simp
    · rw [upd_ne q]; exact R.fw.kh b h1
  · by_cases hq : q = r
    · subst hq
      rw [cr] at cq; cases cq
      exact ⟨a, by rw [ad]; exact e, hb, vs, upd_same, hv⟩
    · rw [co q hq] at cq
      obtain ⟨b, e1, b0, us, hu, hl⟩ := R.own q zs cq
      refine ⟨b, by rw [ad]; exact e1, b0, us, ?_, hl⟩
      have : b ≠ a := fun z => by
        subst z
        exact hq (R.dist q r zs xs b cq c e1 e)
      rw [upd_ne this]; exact hu
  · rw [ad] at eq eq'
    have has : ∀ q zs, cont ρ' T' st' q = some zs → ∃ zs', cont ρ T st q = some zs' := fun q zs h => by
      by_cases hq : q = r
      · subst hq; exact ⟨xs, c⟩
      · rw [co q hq] at h; exact ⟨zs, h⟩
    obtain ⟨_, k1⟩ := has q zs cq
    obtain ⟨_, k2⟩ := has q' zs' cq'
    exact R.dist q q' _ _ b k1 k2 eq eq'
  · rw [ad] at eq
    by_cases hq : q = r
    · subst hq; exact R.fresh q xs b c eq hn
    · rw [co q hq] at cq
      exact R.fresh q zs b cq eq hn
/-- a slot's own list changes -/
theorem Rel.updSlot {i : Nat} {xs : List D} (R : Rel K O A B σ H ρ st T) (h : ρ[i]? = some (.own xs)) : ∃ a vs, σ[i]? = some (some (.ref a)) ∧ H a = some (.lst vs) ∧ HoL K A B vs xs ∧
    ∀ ws ys, HoL K A B ws ys → Rel K O A B σ (upd H a (.lst ws)) (ρ.set i (.own ys)) st T := by
  have ci : cont ρ T st (.s i) = some xs := by simp only [cont, h]
  obtain ⟨a, e, hb, vs, hv, hl⟩ := R.own (.s i) xs ci
  have es : σ[i]? = some (some (.ref a)) := by
    simp only [adr] at e
    split at e <;> simp_all
  have hi := (List.getElem?_eq_some_iff.mp h).1
  refine ⟨a, vs, es, hv, hl, fun ws ys hw => R.updr ci e hw (by simp only [cont, List.getElem?_set_self hi]) (fun q hq => cont_set_ne hq) (fun _ => rfl) (by rw [List.length_set]) rfl fun j d z => ?_⟩
  by_cases hj : i = j
  · subst hj; rw [List.getElem?_set_self hi] at z; cases z
  · rw [List.getElem?_set_ne hj] at z; exact z
/-- a handle's list changes -/
theorem Rel.updH {n : Nat} {xs : List D} (R : Rel K O A B σ H ρ st T) (h : st[n]? = some xs) : ∃ a vs, A[n]? = some a ∧ H a = some (.lst vs) ∧ HoL K A B vs xs ∧
    ∀ ws ys, HoL K A B ws ys → Rel K O A B σ (upd H a (.lst ws)) ρ (st.set n ys) T := by
  have ci : cont ρ T st (.h n) = some xs := h
  obtain ⟨a, e, hb, vs, hv, hl⟩ := R.own (.h n) xs ci
  have hi := (List.getElem?_eq_some_iff.mp h).1
  refine ⟨a, vs, e, hv, hl, fun ws ys hw => R.updr ci e hw (by simp only [cont]; exact List.getElem?_set_self hi) (fun q hq => ?_) (fun _ => rfl) rfl (by rw [List.length_set]) fun j d z => z⟩
  cases q with
  | s i => rfl
  | t k => rfl
  | h m =>
    have hm : n ≠ m := fun z => hq (by rw [z])
    simp only [cont, List.getElem?_set_ne hm]
/-- the newest temp changes -/
theorem Rel.updT {a : Addr} {xs : List D} (R : Rel K O A B σ H ρ st ((a, xs) :: T)) {ws : List V} {ys : List D} (hw : HoL K A B ws ys) : Rel K O A B σ (upd H a (.lst ws)) ρ st ((a, ys) :: T) := by
  refine R.updr (r := .t 0) rfl rfl hw rfl (fun q hq => ?_) (fun q => ?_) rfl rfl fun j d z => z
  · rcases q.up_cases with rfl | ⟨q', rfl⟩
    · exact absurd rfl hq
    · rw [cont_up, cont_up]
  · rcases q.up_cases with rfl | ⟨q', rfl⟩
    · rfl
    · rw [adr_up, adr_up]
/-- the newest temp becomes a handle -/
theorem Rel.share {a : Addr} {xs : List D} (R : Rel K O A B σ H ρ st ((a, xs) :: T)) : Rel K O (A ++ [a]) B σ H ρ (st ++ [xs]) T ∧ Ho K (A ++ [a]) B (.ref a) (.hd st.length) := by
  have al := R.al
  have hA : Px A (A ++ [a]) := Px.app
  have an : (A ++ [a])[st.length]? = some a := by rw [← al]; simp
  -- roles of the new store
  have back : ∀ r ys, cont ρ T (st ++ [xs]) r = some ys → (r = .h st.length ∧ ys = xs) ∨ (cont ρ T st r = some ys ∧ adr (A ++ [a]) σ T r = adr A σ T r) := fun r ys c => by
    cases r with
    | s i => exact .inr ⟨c, rfl⟩
    | t k => exact .inr ⟨c, rfl⟩
    | h n =>
      simp only [cont] at c
      by_cases hn : n < st.length
      · rw [List.getElem?_append_left hn] at c
        refine .inr ⟨c, ?_⟩
        simp only [adr]
        rw [List.getElem?_append_left (by omega)]
      · have hlt := (List.getElem?_eq_some_iff.mp c).1
        have : n = st.length := by simp at hlt; omega
        subst this
        simp at c
        exact .inl ⟨rfl, c.symm⟩
  have nota : ∀ r ys, cont ρ T st r = some ys → adr A σ T r = some a → False := fun r ys c e => by
    have := R.dist (.t 0) r.up xs ys a rfl (by rw [cont_up]; exact c) rfl (by rw [adr_up]; exact e)
    cases r <;> simp [Role.up] at this
  have fa : O.H a = none := R.fresh (.t 0) xs a rfl rfl (fun n z => by cases z)
  refine ⟨⟨⟨R.fw.px.trans hA, R.fw.ex, R.fw.nb, fun n b e hn => ?_, R.fw.kp, R.fw.kh⟩, R.ex, R.len, by simp [al], fun i d e => ?_, fun r ys c => ?_, fun r r' ys ys' b c c' e e' => ?_, fun r ys b c e hn => ?_⟩, .hd an⟩
  · by_cases h : n < A.length
    · rw [List.getElem?_append_left h] at e
      exact R.fw.na n b e hn
    · have hlt := (List.getElem?_eq_some_iff.mp e).1
      have : n = A.length := by simp at hlt; omega
      subst this
      simp at e
      rw [← e]; exact fa
  · obtain ⟨v, e1, e2⟩ := R.val i d e
    exact ⟨v, e1, e2.mono hA (Ex.refl _)⟩
  · rcases back r ys c with ⟨rfl, rfl⟩ | ⟨h1, h2⟩
    · exact ⟨a, an, R.top.mono hA (Ex.refl _) R.top.1 (fun _ h => h)⟩
    · obtain ⟨b, e, o⟩ := R.pop.own r ys h1
      exact ⟨b, by rw [h2]; exact e, o.mono hA (Ex.refl _) o.1 (fun _ h => h)⟩
  · rcases back r ys c with ⟨rfl, rfl⟩ | ⟨h1, h2⟩
    · simp only [adr] at e
      rw [an] at e; cases e
      rcases back r' ys' c' with ⟨rfl, rfl⟩ | ⟨h1', h2'⟩
      · rfl
      · rw [h2'] at e'
        exact (nota r' ys' h1' e').elim
    · rw [h2] at e
      rcases back r' ys' c' with ⟨rfl, rfl⟩ | ⟨h1', h2'⟩
      · simp only [adr] at e'
        rw [an] at e'; cases e'
        exact (nota r ys h1 e).elim
      · rw [h2'] at e'
        exact R.pop.dist r r' ys ys' b h1 h1' e e'
  · rcases back r ys c with ⟨rfl, rfl⟩ | ⟨h1, h2⟩
    · simp only [adr] at e
      rw [an] at e; cases e
      exact fa
    · rw [h2] at e
      exact R.pop.fresh r ys b h1 e hn

/-! ### calls -/
structure SRel (K : PySem.W.Frag) (A : List Addr) (B H : Hp) (st : Sto) : Prop where
  ex : Ex B H
  al : A.length = st.length
  own : ∀ (n : Nat) (a : Addr) (xs : List D), A[n]? = some a → st[n]? = some xs → Own K A B H a xs
  dist : ∀ (n m : Nat) (a : Addr), A[n]? = some a → A[m]? = some a → n = m
theorem Rel.srel (R : Rel K O A B σ H ρ st T) : SRel K A B H st := by
  refine ⟨R.ex, R.al, fun n a xs e1 e2 => ?_, fun n m a e1 e2 => ?_⟩
  · obtain ⟨a', e, o⟩ := R.own (.h n) xs e2
    simp only [adr] at e
    rw [e1] at e; cases e; exact o
  · have hn := (List.getElem?_eq_some_iff.mp e1).1
    have hm := (List.getElem?_eq_some_iff.mp e2).1
    rw [R.al] at hn hm
    have := R.dist (.h n) (.h m) _ _ a (List.getElem?_eq_getElem hn) (List.getElem?_eq_getElem hm) e1 e2
    cases this; rfl
theorem Fwd.refl (O : Org) : Fwd O O.A O.B O.H := ⟨Px.refl _, Ex.refl _, fun a h1 h2 => absurd h1 h2, fun n a e h => by have := (List.getElem?_eq_some_iff.mp e).1; omega, fun _ _ h _ => h, fun _ h => h⟩
theorem Fwd.trans (f : Fwd O A B H) (g : Fwd ⟨A, B, H⟩ A' B' H') : Fwd O A' B' H' := by
  have back : ∀ a, H a = none → O.H a = none := fun a h => by
    cases q : O.H a with
    | none => rfl
    | some o => exact absurd h (f.kh a (by rw [q]; simp))
  refine ⟨f.px.trans g.px, f.ex.trans g.ex, fun a h1 h2 => ?_, fun n a e hn => ?_, fun a o h1 h2 => ?_, fun a h => g.kh a (f.kh a h)⟩
  · by_cases q : B a = none
    · exact back a (g.nb a q h2)
    · exact f.nb a h1 q
  · by_cases h : n < A.length
    · have e1 : A[n]? = some A[n] := List.getElem?_eq_getElem h
      have e2 := g.px n _ e1
      rw [e] at e2; cases e2
      exact f.na n _ e1 hn
    · exact back a (g.na n a e (by show A.length ≤ n; omega))
  · refine g.kp a o (f.kp a o h1 h2) fun hA => ?_
    have hA : a ∈ A := hA
    obtain ⟨n, hn, e⟩ := List.getElem_of_mem hA
    have e1 : A[n]? = some a := by rw [List.getElem?_eq_getElem hn, e]
    by_cases h : O.A.length ≤ n
    · rw [f.na n a e1 h] at h1; cases h1
    · have h' : n < O.A.length := by omega
      have e2 := f.px n _ (List.getElem?_eq_getElem h')
      rw [e1] at e2
      have e3 : a = O.A[n] := Option.some.inj e2
      exact h2 (by rw [e3]; exact List.getElem_mem h')
theorem Rel.call (R : Rel K O A B σ H ρ st T) (g : Fwd ⟨A, B, H⟩ A' B' H') (S : SRel K A' B' H' st') : Rel K O A' B' σ H' ρ st' T := by
  -- slots and temps stay
  have stay : ∀ r xs a, cont ρ T st r = some xs → adr A σ T r = some a → (∀ n, r ≠ .h n) → H' a = H a ∧ B' a = none ∧ a ∉ A ∧ H a ≠ none := fun r xs a c e hr => by
    obtain ⟨a', e', b0, vs, hv, hl⟩ := R.own r xs c
    rw [e] at e'; cases e'
    have hA : a ∉ A := fun hA => by
      obtain ⟨n, hn, e1⟩ := List.getElem_of_mem hA
      have hn' : n < st.length := by rw [← R.al]; exact hn
      have := R.dist r (.h n) xs st[n] a c (List.getElem?_eq_getElem hn') e (by simp only [adr]; rw [List.getElem?_eq_getElem hn, e1])
      exact hr n this
    refine ⟨by rw [hv]; exact g.kp a _ hv hA, ?_, hA, by rw [hv]; simp⟩
    cases q : B' a with
    | none => rfl
    | some u =>
      have this : H a = none := g.nb a b0 (by rw [q]; simp)
      rw [hv] at this; cases this
  have sw : ∀ r, (∀ n, r ≠ .h n) → cont ρ T st' r = cont ρ T st r ∧ adr A' σ T r = adr A σ T r := fun r hr => by
    cases r with
    | s i => exact ⟨rfl, rfl⟩
    | t k => exact ⟨rfl, rfl⟩
    | h n => exact absurd rfl (hr n)
  refine ⟨R.fw.trans g, S.ex, R.len, S.al, fun i d e => ?_, fun r xs c => ?_, fun r r' xs xs' a c c' e e' => ?_, fun r xs a c e hn => ?_⟩
  · obtain ⟨v, e1, e2⟩ := R.val i d e
    exact ⟨v, e1, e2.mono g.px g.ex⟩
  · by_cases hr : ∀ n, r ≠ .h n
    · obtain ⟨s1, s2⟩ := sw r hr
      rw [s1] at c
      obtain ⟨a, e, o⟩ := R.own r xs c
      obtain ⟨k1, k2, _, _⟩ := stay r xs a c e hr
      exact ⟨a, by rw [s2]; exact e, o.mono g.px g.ex k2 (fun o' h => by rw [k1]; exact h)⟩
    · simp only [Classical.not_forall, Classical.not_not] at hr
      obtain ⟨n, rfl⟩ := hr
      simp only [cont] at c
      have hn := (List.getElem?_eq_some_iff.mp c).1
      rw [← S.al] at hn
      exact ⟨A'[n], List.getElem?_eq_getElem hn, S.own n _ xs (List.getElem?_eq_getElem hn) c⟩
  · -- a slot or temp is no handle
    have apart : ∀ r xs a n, (∀ n, r ≠ .h n) → cont ρ T st r = some xs → adr A σ T r = some a → A'[n]? = some a → False := fun r xs a n hr c e q => by
      obtain ⟨_, _, hA, hH⟩ := stay r xs a c e hr
      by_cases h : n < A.length
      · have e1 : A[n]? = some A[n] := List.getElem?_eq_getElem h
        have e2 := g.px n _ e1
        rw [q] at e2
        have e3 : a = A[n] := Option.some.inj e2
        exact hA (by rw [e3]; exact List.getElem_mem h)
      · exact hH (g.na n a q (by show A.length ≤ n; omega))
    by_cases hr : ∀ n, r ≠ .h n
    · obtain ⟨s1, s2⟩ := sw r hr
      rw [s1] at c; rw [s2] at e
      by_cases hr' : ∀ n, r' ≠ .h n
      · obtain ⟨s1', s2'⟩ := sw r' hr'
        rw [s1'] at c'; rw [s2'] at e'
        exact R.dist r r' xs xs' a c c' e e'
      · simp only [Classical.not_forall, Classical.not_not] at hr'
        obtain ⟨n, rfl⟩ := hr'
        exact (apart r xs a n hr c e e').elim
    · simp only [Classical.not_forall, Classical.not_not] at hr
      obtain ⟨n, rfl⟩ := hr
      by_cases hr' : ∀ n, r' ≠ .h n
      · obtain ⟨s1', s2'⟩ := sw r' hr'
        rw [s1'] at c'; rw [s2'] at e'
        exact (apart r' xs' a n hr' c' e' e).elim
      · simp only [Classical.not_forall, Classical.not_not] at hr'
        obtain ⟨m, rfl⟩ := hr'
        rw [S.dist n m a e e']
  · by_cases hr : ∀ n, r ≠ .h n
    · obtain ⟨s1, s2⟩ := sw r hr
      rw [s1] at c; rw [s2] at e
      exact R.fresh r xs a c e hn
    · simp only [Classical.not_forall, Classical.not_not] at hr
      obtain ⟨n, rfl⟩ := hr
      exact (R.fw.trans g).na n a e (hn n rfl)
/-- behind a call that hands back a new list -/
theorem Rel.pushNew {a : Addr} {xs : List D} (R : Rel K O A B σ H ρ st T) (o : Own K A B H a xs) (hno : ∀ r ys, cont ρ T st r = some ys → adr A σ T r ≠ some a) (ho : O.H a = none) : Rel K O A B σ H ρ st ((a, xs) :: T) := by
  refine ⟨R.fw, R.ex, R.len, R.al, R.val, fun r ys c => ?_, fun r r' ys ys' b c c' e e' => ?_, fun r ys b c e hn => ?_⟩
  · rcases r.up_cases with rfl | ⟨q, rfl⟩
    · cases c; exact ⟨a, rfl, o⟩
    · rw [cont_up] at c; rw [adr_up]; exact R.own q ys c
  · rcases r.up_cases with rfl | ⟨q, rfl⟩
    · cases e
      rcases r'.up_cases with rfl | ⟨q', rfl⟩
      · rfl
      · rw [cont_up] at c'; rw [adr_up] at e'
        exact (hno q' ys' c' e').elim
    · rw [cont_up] at c; rw [adr_up] at e
      rcases r'.up_cases with rfl | ⟨q', rfl⟩
      · cases e'
        exact (hno q ys c e).elim
      · rw [cont_up] at c'; rw [adr_up] at e'
        rw [R.dist q q' ys ys' b c c' e e']
  · rcases r.up_cases with rfl | ⟨q, rfl⟩
    · cases e; exact ho
    · rw [cont_up] at c; rw [adr_up] at e
      exact R.fresh q ys b c e (fun n hq => hn n (by rw [hq]; rfl))
/-- a call's end: the values behind it, a new list or not -/
def Back (K : PySem.W.Frag) (A : List Addr) (B H : Hp) (A' : List Addr) (B' H' : Hp) (st' : Sto) (fr : Bool) (d : D) (v : V) : Prop :=
  Fwd ⟨A, B, H⟩ A' B' H' ∧ SRel K A' B' H' st' ∧
    if fr = true then ∃ a xs, v = .ref a ∧ d = .lst xs ∧ Own K A' B' H' a xs ∧ H a = none ∧ a ∉ A' else Ho K A' B' v d
theorem Rel.start {vs : List V} {ds : List D} {n : Nat} (S : SRel K A B H st) (h : HoL K A B vs ds) : Rel K ⟨A, B, H⟩ A B (vs.map some ++ List.replicate n none) H (ds.map Sl.val ++ List.replicate n .no) st [] := by
  have nos : ∀ (i : Nat) (xs : List D), (ds.map Sl.val ++ List.replicate n Sl.no)[i]? ≠ some (.own xs) := fun i xs e => by
    by_cases hi : i < ds.length
    · rw [List.getElem?_append_left (by simpa using hi)] at e
      simp at e
    · rw [List.getElem?_append_right (by simpa using hi)] at e
      have := List.mem_of_getElem? e
      simp [List.mem_replicate] at this
  have hc : ∀ r xs, cont (ds.map Sl.val ++ List.replicate n Sl.no) [] st r = some xs → ∃ m, r = .h m ∧ st[m]? = some xs := fun r xs c => by
    cases r with
    | s i =>
      simp only [cont] at c
      split at c
      · rename_i ys e; exact absurd e (nos i ys)
      · cases c
    | t k => simp [cont] at c
    | h m => exact ⟨m, rfl, c⟩
  refine ⟨Fwd.refl _, S.ex, by simp [h.length], S.al, fun i d e => ?_, fun r xs c => ?_, fun r r' xs xs' a c c' e e' => ?_, fun r xs a c e hn => ?_⟩
  · by_cases hi : i < ds.length
    · rw [List.getElem?_append_left (by simpa using hi)] at e
      have ed : ds[i]? = some d := by
        rw [List.getElem?_map] at e
        cases q : ds[i]? with
        | none => rw [q] at e; cases e
        | some d' => rw [q] at e; cases e; rfl
      obtain ⟨v, e1, e2⟩ := h.get ed
      refine ⟨v, ?_, e2⟩
      rw [List.getElem?_append_left (by rw [List.length_map, h.length]; exact hi), List.getElem?_map, e1]
      rfl
    · rw [List.getElem?_append_right (by simpa using hi)] at e
      have := List.mem_of_getElem? e
      simp [List.mem_replicate] at this
  · obtain ⟨m, rfl, e⟩ := hc r xs c
    have hm := (List.getElem?_eq_some_iff.mp e).1
    rw [← S.al] at hm
    exact ⟨A[m], List.getElem?_eq_getElem hm, S.own m _ xs (List.getElem?_eq_getElem hm) e⟩
  · obtain ⟨m, rfl, e1⟩ := hc r xs c
    obtain ⟨m', rfl, e1'⟩ := hc r' xs' c'
    rw [S.dist m m' a e e']
  · obtain ⟨m, rfl, e1⟩ := hc r xs c
    have h1 := hn m rfl
    have h2 := (List.getElem?_eq_some_iff.mp e).1
    exact absurd h2 (by show ¬ m < A.length; exact Nat.not_lt.mpr h1)
end
end Pv

namespace Pv
open PySem PySem.Spec PyProof.Rows L2
/-! ## tuples: sum, enumerate, turned about -/
section
variable {X : Cx}
theorem isTuple_of {h : Heap} {a : Addr} {its : Array Value} (x : IsTup h a its) : h.IsTuple a its := x
theorem cr_sumT (hc : X.calm = true) : CallR X (.builtin "sum") (fun vs H Q => ∃ (a : Addr) (ns : List Int), vs = [V.ref a] ∧ SqT X.K H a (ns.map V.int) ∧ Q (.int ns.sum) H) := by
  intro pins s σ H vs us Q I r h
  obtain ⟨a, ns, rfl, hs, q⟩ := h
  obtain ⟨its, rv, hl, _⟩ := I.tuple hs
  rw [Vals.ref1 r]
  have hi := rv.ints
  obtain ⟨xs, hx⟩ := hi.allInts.items
  have hn : numsOf its.toArray.toList = ns := by rw [show its.toArray.toList = its from rfl, hi.numsOf]
  have ht : s.heap.IsTuple a its.toArray := isTuple_of hl
  rw [hx] at ht hn
  rw [nums_intItems] at hn
  refine PySem.W.ktm_sumG (I.ok.hd hc) ht fun h' tk t' hk => ?_
  rw [preSum_eq, List.take_of_length_le (by simp), hn]
  exact ⟨.int _, H, I.kept hk, ⟨_, rfl⟩, q⟩
end
/-! ### enumerate -/
theorem meets_enum1 {v : Value} {o : Obj} {G : Heap → Prop} (B : Begins v o G) :
    Meets (Builtin.«enumerate.__new__» ⟨[.type "enumerate", v], []⟩) (fun _ R s => G s.heap ∧
      R (.ok (.ret (.ref (s.heap.push o).objs.size))) { s with heap := (s.heap.push o).push { cls := .type "enumerate", data := .fields #[.none, .bool false, .ref s.heap.objs.size, rawInt 0, .none, .none] } }) :=
  .of_wp fun prog w A R s h => by
    obtain ⟨hp, g, d, tk, os⟩ := s; obtain ⟨h1, h⟩ := h
    have hsub := sub_enumerate
    have q1 : ∀ {A' : Around} {E : Value → Shared → Prop} {Q : Value → Shared → Prop}, Q (.ref hp.objs.size) ⟨hp.push o, g, d, tk, os⟩ → wpAny (model prog w) A' (pyIter v) Q E ⟨hp, g, d, tk, os⟩ :=
      fun q => B.iter prog w _ _ ⟨hp, g, d, tk, os⟩ _ h1 q
    wp_walk using q1
    refine wpAny_stack_any fun st => wpAny_pure ?_
    split
    · rename_i c _ _ _ _ _
      cases (c == Value.type "enumerate") <;> (wp_walk using q1; exact ⟨_, rfl, h⟩)
    · wp_walk using q1
      exact ⟨_, rfl, h⟩
section
variable {prog : Program} {w : World} {A : Around} {E : Value → Shared → Prop} {s : Shared}
theorem enum_call1 {v : Value} {o : Obj} {G : Heap → Prop} {Q : Value → Shared → Prop} (B : Begins v o G) (h1 : G s.heap)
    (h : ∀ h', IsEnum h' (s.heap.objs.size + 1) s.heap.objs.size 0 .none → h'.get? s.heap.objs.size = some o → (∀ b o, s.heap.get? b = some o → h'.get? b = some o) → Q (.ref (s.heap.objs.size + 1)) { s with heap := h' }) :
    wpAny (model prog w) A (call (.type "enumerate") [v]) Q E s := by
  refine callType_new F.called_enumerate (by decide) (F.typeCall_enumerate_1 _) (F.newCall_enumerate_1 _) (fun obj => F.args_object_init_2 obj _) F.entry_enumerate_new (meets_enum1 B) ⟨h1, ?_⟩
  have hz : (s.heap.push o).objs.size = s.heap.objs.size + 1 := Heap.size_push ..
  show _ ∧ _
  rw [hz]
  have he : IsEnum ((s.heap.push o).push { cls := .type "enumerate", data := .fields #[.none, .bool false, .ref s.heap.objs.size, rawInt 0, .none, .none] }) (s.heap.objs.size + 1) s.heap.objs.size 0 .none := by
    have := Heap.get?_push_size (s.heap.push o) (o := { cls := .type "enumerate", data := .fields #[.none, .bool false, .ref s.heap.objs.size, rawInt 0, .none, .none] }) rfl
    rw [hz] at this; exact this
  exact ⟨⟨_, he, rfl⟩, h _ he (Heap.get?_push_of_some _ (Heap.get?_push_size _ B.free)) fun b o x => Heap.get?_push_of_some _ (Heap.get?_push_of_some _ x)⟩
end
/-- the tuple at a, each item in a new pair -/
def IteT (K : PySem.W.Frag) (a : Addr) : It :=
  ⟨fun i H => ∃ (xs : List V) (x : V), SqT K H a xs ∧ xs[i]? = some x, fun i H v H' => ∃ T x, v = .ref T ∧ H T = none ∧ H' = upd H T (.tup [.int (i : Nat), x]) ∧ ∀ xs, SqT K H a xs → xs[i]? = some x, fun i H => ∃ xs : List V, SqT K H a xs ∧ xs.length ≤ i⟩
theorem enum_apart {h : Heap} {e it a : Addr} {c : Int} {old : Value} {i : Nat} {its : Array Value} (he : IsEnum h e it c old) (hit : h.IsTupleIter it a i) (ht : h.IsTuple a its) : e ≠ a ∧ a ≠ it := by
  obtain ⟨o, ho, hc, n, hd⟩ := ht
  refine ⟨fun z => ?_, fun z => ?_⟩
  · subst z
    rw [show h.get? e = some _ from he] at ho
    cases ho
    cases hd
  · subst z
    obtain ⟨o2, ho2, hc2, hd2⟩ := hit
    rw [ho2] at ho
    cases ho
    rw [hd2] at hd
    cases hd
theorem draws_end {prog : Program} {w : World} {A : Around} (hh : A.handled = none) (it t : Addr) (hne : t ≠ it) (items : Array Value) (n : Nat) (hn : items[n]? = none) :
    Draws prog w A it [it, t] n (fun _ _ => True) (fun i h => i = n ∧ h.IsTupleIter it t n ∧ h.IsTuple t items) where
  live := fun _ _ st => let ⟨o, ho, _⟩ := st.2.1; ⟨o, ho⟩
  frame := fun _ _ _ st hk => ⟨st.1, st.2.1.at fun o e => hk it (by simp) o e, st.2.2.at fun o e => hk t (by simp) o e⟩
  item := fun i s Q E hi st hQ => absurd st.1 (Nat.ne_of_lt hi)
  done := fun s Q E st hE => wpAny_nextOf_tuple_end hh st.2.1 st.2.2 hn hE
theorem turn_enumT {P : Program} {w : World} {K : PySem.W.Frag} {elts : List Expr} {kk : Nat} {tpos : Pos} (a e it : Addr) :
    Turn P w K (.Tuple elts kk tpos) (IteT K a) [e, it] e (fun i h => (∃ old, IsEnum h e it ((i : Nat) : Int) old) ∧ h.IsTupleIter it a i ∧ e ≠ it) where
  mem := by simp
  obj := fun i h st b hb => by
    obtain ⟨⟨old, he⟩, ⟨o, ho, hc, hd⟩, _⟩ := st
    have e' : b = e ∨ b = it := by simpa using hb
    rcases e' with z | z
    · rw [z]; exact ⟨_, he, fun v q => nomatch q⟩
    · rw [z]; exact ⟨o, ho, fun v q => by rw [hd] at q; cases q⟩
  keep := fun i h h' st k => let ⟨⟨old, he⟩, hi, hne⟩ := st; ⟨⟨old, k e (by simp) _ he⟩, hi.at fun o q => k it (by simp) o q, hne⟩
  item := by
    intro X hP hw hK hc i pins s σ H E I hf st hg
    subst hP hw hK
    obtain ⟨⟨old, he⟩, hit, hne⟩ := st
    obtain ⟨xs, x, hq, hx⟩ := hg
    obtain ⟨its, rv, p, hz⟩ := I.tuple hq
    obtain ⟨u, hu, ru⟩ := rv.get hx
    have ht := isTuple_of p
    obtain ⟨ap1, ap2⟩ := enum_apart he hit ht
    have hel : e < s.heap.objs.size := Heap.lt_size he
    have hil : it < s.heap.objs.size := by obtain ⟨_, q, _⟩ := hit; exact Heap.lt_size q
    have hlt : i < its.toArray.size := by
      rw [List.size_toArray]
      exact (List.getElem?_eq_some_iff.mp hu).1
    have D := Draws.tuple (prog := X.prog) (w := X.w) (A := X.A.in1) (I.ok.hd hc) it a ap2 its.toArray
    refine wpAny_pyNext_enum_itemC D he ⟨hit, ht⟩ hlt hne (by simp only [List.mem_cons, List.not_mem_nil, or_false, not_or]; exact ⟨hne, ap1⟩) fun x1 h' tk hp ho hst' hT hsz hk => ?_
    have hx1 : x1 = u := by
      have h2 : its.toArray[i]? = some u := by simpa using hu
      exact Option.some.inj (hp.symm.trans h2)
    subst hx1
    refine ⟨_, rfl, wpAny_letOwnedTupleGo_enum (s := { s with heap := h', toks := tk + 1 }) ho fun h'' he' sb => ?_⟩
    have hT2 : h''.get? s.heap.objs.size = some { cls := .type "tuple", data := .seq #[.int i tk, x1] } := (sb.2 _ (Nat.ne_of_gt hel)).trans hT
    have new : ObjOk X.prog X.w (upd H s.heap.objs.size (.tup [.int (i : Nat), x])) h'' s.heap.objs.size (.tup [.int (i : Nat), x]) :=
      ⟨by show 2 ≤ sizeLine; decide, [.int i tk, x1], .cons ⟨_, rfl⟩ (.cons ru .nil), ⟨_, hT2, rfl, _, rfl⟩⟩
    have I1 : Inv X pins σ (upd H s.heap.objs.size (.tup [.int (i : Nat), x])) { s with heap := h'', toks := tk + 1 } :=
      I.turnedNew (ch := [e, it]) (fun b ob hb q => (sb.2 b (fun z => hb (by simp [z]))).trans (hk b ob (fun z => hb (by simp [z])) (fun z => hb (by simp [z])) q)) hf (Nat.le_refl _) new
    refine ⟨.ref s.heap.objs.size, _, I1, rfl, ⟨_, x, rfl, I.hok.fresh (Nat.le_refl _), rfl, fun ys hy => by rw [I.tuple_inj hy hq]; exact hx⟩, ⟨⟨x1, ?_⟩, hst'.1.at fun o q => (sb.2 it (Ne.symm hne)).trans q, hne⟩, fun b hb => ?_⟩
    · have e1 : ((i + 1 : Nat) : Int) = (i : Int) + 1 := by omega
      rw [e1]; exact he'
    · have hb' : b < s.heap.objs.size := by
        have e' : b = e ∨ b = it := by simpa using hb
        rcases e' with z | z
        · rw [z]; exact hel
        · rw [z]; exact hil
      rw [upd_ne (Nat.ne_of_lt hb')]
      exact (hf b hb).1
  done := by
    intro X hP hw hK hc i pins s σ H E I hf st hg
    subst hP hw hK
    obtain ⟨⟨old, he⟩, hit, hne⟩ := st
    obtain ⟨xs, hq, hx⟩ := hg
    obtain ⟨its, rv, p, hz⟩ := I.tuple hq
    have ht := isTuple_of p
    obtain ⟨ap1, ap2⟩ := enum_apart he hit ht
    obtain ⟨f0, f1, f2, f3, f4, f5⟩ := hf it (by simp)
    have hl := rv.length
    have hn : its.toArray[i]? = none := by simp; omega
    exact wpAny_pyNext_enum_endD (draws_end (A := X.A.in1) (I.ok.hd hc) it a ap2 its.toArray i hn) he ⟨rfl, hit, ht⟩ fun h' eb => ⟨rfl, I.turned (t' := s.toks) (fun b o hb q => eb b o hb q) f0 f1 f3 f4 f5⟩
  self := fun A i s Q E st h => let ⟨⟨_, he⟩, _⟩ := st; wpAny_pyIter_enum he h
section
variable {X : Cx} {pos p tpos : Pos}
def iEnumA (K : PySem.W.Frag) (ta : TA) : TI := fun σ H R => ta σ H fun vs H1 => ∃ a xs, vs = [.ref a] ∧ ((SqL K H1 a xs ∧ R (Ite K a) H1) ∨ (SqT K H1 a xs ∧ R (IteT K a) H1))
theorem pi_enumA {e : Expr} {ta : TA} {elts : List Expr} {kk : Nat} (hg : Gl X "enumerate") (hm : X.mg "enumerate" = none) (ha : PA X [e] ta) (hs : starEach [e] X.env = [(false, eval e X.env)]) :
    PI X (.Tuple elts kk tpos) (.Call (.Name "enumerate" p) [e] [] pos) (iEnumA X.K ta) := by
  refine ⟨fun pins s σ H R I h => ?_⟩
  refine Call_ (ld_blt I hg hm boot_enumerate (PyProof.Rows.callWith_type1 (thn (ha.run pos pins s σ H _ I h) fun us s1 ⟨vs, H1, I1, r1, q1⟩ => ?_) hs rfl))
  obtain ⟨a, xs, ex, q⟩ := q1
  subst ex
  cases r1 with
  | cons r rr =>
    cases rr
    cases r
    have fp : ∀ b ∈ [s1.heap.objs.size + 1, s1.heap.objs.size], FpOk X pins H1 b := fun b hb => by
      have e' : b = s1.heap.objs.size + 1 ∨ b = s1.heap.objs.size := by simpa using hb
      have hle : s1.heap.objs.size ≤ b := by
        rcases e' with z | z
        · rw [z]; exact Nat.le_add_right _ _
        · rw [z]; exact Nat.le_refl _
      exact I1.fpOk hle (I1.hok.fresh hle)
    rcases q with ⟨hq, q⟩ | ⟨hq, q⟩
    · obtain ⟨its, rv, p', hz⟩ := I1.list hq
      refine call_enumerate_list p'.isList fun h' he hit hsz hk => wpAny_pyIter_enum he ?_
      have I2 : Inv X pins σ H1 { s1 with heap := h' } := I1.kept (t' := s1.toks) hk
      exact ⟨s1.heap.objs.size + 1, [s1.heap.objs.size + 1, s1.heap.objs.size], _, _, H1, rfl, I2, turn_enum a (s1.heap.objs.size + 1) s1.heap.objs.size, ⟨⟨.none, he⟩, hit, Nat.succ_ne_self _⟩, fp, q⟩
    · obtain ⟨its, rv, p', hz⟩ := I1.tuple hq
      refine enum_call1 (begins_tuple a its.toArray) (isTuple_of p') fun h' he hit hk => wpAny_pyIter_enum he ?_
      have I2 : Inv X pins σ H1 { s1 with heap := h' } := I1.kept (t' := s1.toks) hk
      exact ⟨s1.heap.objs.size + 1, [s1.heap.objs.size + 1, s1.heap.objs.size], _, _, H1, rfl, I2, turn_enumT a (s1.heap.objs.size + 1) s1.heap.objs.size, ⟨⟨.none, he⟩, ⟨_, hit, rfl, rfl⟩, Nat.succ_ne_self _⟩, fp, q⟩
end
/-! ### turned about -/
section
variable {prog : Program} {w : World} {A : Around} {E : Value → Shared → Prop} {s : Shared}
theorem places_neg (n : Nat) : Builtin.Slice.slicePlaces ((n : Int) - 1) (-1) (-1) = n := by
  unfold Builtin.Slice.slicePlaces
  have h1 : ¬ ((-1 : Int) > 0) := by omega
  simp only [h1, if_false]
  rw [show -(-1 : Int) = 1 by omega, Int.ediv_one]
  split <;> omega
theorem applied_neg {sl : Addr} {vl vu vs : Value} {n : Nat} {Q : Int × Int × Nat → Shared → Prop} (hs : s.heap.IsSliceOf sl vl vu vs) (pl : IsPart vl none) (pu : IsPart vu none) (ps : IsPart vs (some (-1)))
    (h : Q ((n : Int) - 1, -1, n) s) : wpAny (model prog w) A (Builtin.Slice.sliceApplied (.ref sl) (pure (n : Int))) Q E s := by
  obtain ⟨os, hos, hcs, hds⟩ := id hs
  unfold Builtin.Slice.sliceApplied Builtin.Slice.sliceFields
  refine wpAny_bind (wpAny_bind (wpAny_field hos hds (x := vl) rfl (wpAny_bind (wpAny_field hos hds (x := vu) rfl (wpAny_bind (wpAny_field hos hds (x := vs) rfl (wpAny_pure ?_)))))))
  refine wpAny_bind (HT.slicePart_ ps ?_)
  show wpAny _ _ (if ((-1 : Int) == 0) = true then _ else _) _ _ s
  rw [if_neg (by decide)]
  refine wpAny_bind (HT.slicePart_ pl (wpAny_bind (HT.slicePart_ pu (wpAny_bind (wpAny_pure ?_)))))
  show wpAny _ _ (pure ((n : Int) - 1, (-1 : Int), Builtin.Slice.slicePlaces ((n : Int) - 1) (-1) (-1))) _ _ s
  rw [places_neg]
  exact wpAny_pure h
theorem pick_neg (xs : Array Value) : ((List.range xs.size).filterMap fun (m : Nat) => xs[((xs.size : Int) - 1 + (m : Int) * (-1)).toNat]?).toArray = xs.toList.reverse.toArray := by
  have e : (fun (m : Nat) => xs[((xs.size : Int) - 1 + (m : Int) * (-1)).toNat]?) = (fun (j : Nat) => xs[j]?) ∘ fun (m : Nat) => xs.size - 1 - m := by
    funext m
    have : ((xs.size : Int) - 1 + (m : Int) * (-1)).toNat = xs.size - 1 - m := by omega
    show xs[((xs.size : Int) - 1 + (m : Int) * (-1)).toNat]? = xs[xs.size - 1 - m]?
    rw [this]
  rw [e, ← List.filterMap_map, PySem.W.krv_range, List.filterMap_reverse, PySem.W.krv_all]
theorem getItem_tuple_rev {t sl : Addr} {items : Array Value} {vl vu vs : Value} {Q : Value → Shared → Prop} (ht : IsTup s.heap t items) (hs : s.heap.IsSliceOf sl vl vu vs) (pl : IsPart vl none) (pu : IsPart vu none) (ps : IsPart vs (some (-1)))
    (h : Q (.ref s.heap.objs.size) { s with heap := s.heap.push { cls := .type "tuple", data := .seq items.toList.reverse.toArray } }) (hsz : items.size ≤ sizeLine) : wpAny (model prog w) A (getItem (.ref t) (.ref sl)) Q E s := by
  have hnew : sizeOk (.seq items.toList.reverse.toArray) := by
    show items.toList.reverse.toArray.size ≤ sizeLine
    rw [List.size_toArray, List.length_reverse, Array.length_toList]
    exact hsz
  obtain ⟨os, hos, hcs, hds⟩ := id hs
  have hTs : s.TypeIs (.ref sl) "slice" := ⟨os, hos, hcs⟩
  unfold getItem
  try with_reducible refine wpAny_holding ?_
  first | refine wpAny_bind (wpAny_pure ?_) | skip
  refine wpAny_bind (wpAny_sequenceKey ht.typeIs (by decide) ?_)
  refine wpAny_bind (wpAny_callSpecial?_slot (name := Str.ofString "__getitem__") ht.typeIs PyProof.Rows.slot_tuple_getitem
    (wpAny_call_entry PyProof.Rows.slot_tuple_getitem ht.typeIs entry_tuple_getitem ?_ (args_tuple_getitem _ _)))
  show wpAny _ _ (Builtin.Tuple.tupleItemsOf (.ref t) >>= _) _ _ s
  refine wpAny_bind (tupleItemsOf_ ht ?_)
  refine wpAny_bind (wpAny_typeOf hTs ?_)
  rw [if_pos (by decide)]
  refine wpAny_bind (applied_neg hs pl pu ps ?_)
  have hno : ¬ ((((items.size : Int) - 1) == 0 && (-1 : Int) == 1 && items.size == items.size) = true) := by
    intro q
    rw [Bool.and_eq_true, Bool.and_eq_true] at q
    exact absurd q.1.2 (by decide)
  show wpAny _ _ (if (((items.size : Int) - 1) == 0 && (-1 : Int) == 1 && items.size == items.size) = true then _ else _) _ _ s
  rw [if_neg hno, pick_neg]
  first
    | exact wpAny_bind (m := Builtin.Tuple.tupleExact _) (wpAny_newObj_type (wpAny_pure ⟨_, rfl, wpAny_pure h⟩) hnew)
    | exact wpAny_bind (m := Builtin.Tuple.tupleExact _) (wpAny_newObj_type (wpAny_bind (wpAny_pure (wpAny_pure ⟨_, rfl, wpAny_pure h⟩))) hnew)
    | exact wpAny_bind (wpAny_bind (m := Builtin.Tuple.tupleExact _) (wpAny_newObj_type (wpAny_pure (wpAny_pure ⟨_, rfl, wpAny_pure h⟩)) hnew))
    | exact wpAny_bind (wpAny_bind (m := Builtin.Tuple.tupleExact _) (wpAny_newObj_type (wpAny_pure ⟨_, rfl, wpAny_pure h⟩) hnew))
end
section
variable {X : Cx}
def tRevA (K : PySem.W.Frag) (te : TE) : TE := fun σ H Q => te σ H fun x H1 => ∃ a xs, x = .ref a ∧ ((SqL K H1 a xs ∧ ∀ p, H1 p = none → Q (.ref p) (upd H1 p (.lst xs.reverse))) ∨ (SqT K H1 a xs ∧ ∀ p, H1 p = none → Q (.ref p) (upd H1 p (.tup xs.reverse))))
theorem pe_revA {e : Expr} {te : TE} {k : Nat} {p1 p2 p3 pos : Pos} (he : PE X e te) : PE X (.Subscript e (.Slice none none (some (.UnaryOp .USub (.Constant (.int 1) k p1) p2)) p3) pos) (tRevA X.K te) := by
  refine ⟨fun pins s σ H Q I h => ?_⟩
  refine Subscript_ (thn (he.run pins s σ H _ I h) fun v s1 ⟨x, H1, I1, r1, q1⟩ => ?_)
  obtain ⟨a, xs, ex, q⟩ := q1
  subst ex
  cases r1
  have hst : PO X (some (.UnaryOp .USub (.Constant (.int 1) k p1) p2)) (tPart (tUn (rU fun i => .int (-i)) (tC (.int 1)))) := po_some (pe_un un_neg pe_int)
  refine wpAny_Slice (thn (po_none.run pins s1 σ H1 (fun o H2 => o = none ∧ H2 = H1) I1 ⟨rfl, rfl⟩) fun vl s2 ⟨l, H2, I2, pl, el, e2⟩ => ?_)
  subst el e2
  refine thn (po_none.run pins s2 σ H2 (fun o H3 => o = none ∧ H3 = H2) I2 ⟨rfl, rfl⟩) fun vu s3 ⟨u, H3, I3, pu, eu, e3⟩ => ?_
  subst eu e3
  refine thn (hst.run pins s3 σ H3 (fun o H4 => o = some (-1) ∧ H4 = H3) I3 ⟨1, rfl, -1, rfl, rfl, rfl⟩) fun vs s4 ⟨o, H4, I4, ps, eo, e4⟩ => ?_
  subst eo e4
  have I5 : Inv X pins σ H4 { s4 with heap := s4.heap.push { cls := .type "slice", data := .fields #[vl, vu, vs] } } := I4.kept (t' := s4.toks) fun b ob q => Heap.get?_push_of_some _ q
  show wpAny (model X.prog X.w) X.A (subscriptTail e (.Slice none none (some (.UnaryOp .USub (.Constant (.int 1) k p1) p2)) p3) (.ref a) (.ref s4.heap.objs.size)) (EP X pins σ Q) X.xe { s4 with heap := s4.heap.push { cls := .type "slice", data := .fields #[vl, vu, vs] } }
  rcases q with ⟨hx, q⟩ | ⟨hx, q⟩
  · obtain ⟨its, r, ht, hz⟩ := I5.list hx
    have hlen := r.length
    refine tail_any (ops := [.ref a, .ref s4.heap.objs.size]) ht.isList.typeIs (PySem.slot_list_getitem.lookup) ?_ (by with_unfolding_all rfl)
    refine wpAny_getItem_list_slice ht.isList (Heap.IsSliceOf.new _ vl vu vs) pl pu ps (by decide) ?_ (by rw [List.size_toArray]; omega)
    rw [PySem.W.krv_pick]
    exact ⟨.ref _, _, I5.laid (t' := s4.toks) (o := .lst xs.reverse) (fun b ob q => Heap.get?_push_of_some _ q) (Nat.le_refl _) ⟨by rw [List.length_reverse]; exact hz, _, 0, r.reverse, Heap.get?_push_size _ rfl⟩, rfl, q _ (I5.hok.fresh (Nat.le_refl _))⟩
  · obtain ⟨its, r, ht, hz⟩ := I5.tuple hx
    have hlen := r.length
    refine tail_any (ops := [.ref a, .ref s4.heap.objs.size]) ht.typeIs (PyProof.Rows.slot_tuple_getitem.lookup) ?_ (by with_unfolding_all rfl)
    refine getItem_tuple_rev ht (Heap.IsSliceOf.new _ vl vu vs) pl pu ps ?_ (by rw [List.size_toArray]; omega)
    exact ⟨.ref _, _, I5.laid (t' := s4.toks) (o := .tup xs.reverse) (fun b ob q => Heap.get?_push_of_some _ q) (Nat.le_refl _) ⟨by rw [List.length_reverse]; exact hz, _, r.reverse, ⟨_, Heap.get?_push_size _ rfl, rfl, 0, rfl⟩⟩, rfl, q _ (I5.hok.fresh (Nat.le_refl _))⟩
end
end Pv

namespace Pv
open PySem PySem.Spec PyProof.Rows L2

/-! ## the operations on data -/
def lim : Nat := 16000000
/-- ints that may be multiplied -/
def Big (a : Int) : Prop := a.natAbs.log2 < 400000
instance : DecidablePred Big := fun a => by unfold Big; infer_instance
mutual
def eqv : D → D → Bool
  | .non, .non => true
  | .bl a, .bl b => a == b
  | .bl a, .int j => (if a then 1 else 0) == j
  | .int i, .bl b => i == (if b then 1 else 0)
  | .int i, .int j => i == j
  | .str x, .str y => x == y
  | .lst xs, .lst ys => eqvL xs ys
  | .tup xs, .tup ys => eqvL xs ys
  | _, _ => false
def eqvL : List D → List D → Bool
  | [], [] => true
  | x :: xs, y :: ys => eqv x y && eqvL xs ys
  | _, _ => false
end
/-- plain data, at most so deep -/
def sh : Nat → D → Bool
  | _, .non => true
  | _, .bl _ => true
  | _, .int _ => true
  | _, .str s => PyData.canLay0 (.str s)
  | n + 1, .tup xs => xs.all (sh n)
  | n + 1, .lst xs => xs.all (sh n)
  | _, _ => false
def flat : D → Bool
  | .non => true
  | .bl _ => true
  | .int _ => true
  | .str _ => true
  | _ => false
def ty : D → String
  | .non => "NoneType"
  | .bl _ => "bool"
  | .int _ => "int"
  | .str _ => "str"
  | .tup _ => "tuple"
  | _ => "list"
abbrev R1 := Option (Bool × D)
def one (d : D) : R1 := some (false, d)
def addD : D → D → R1
  | .int a, .int b => one (.int (a + b))
  | .lst a, .lst b => if a.length + b.length ≤ lim then some (true, .lst (a ++ b)) else none
  | .tup a, .tup b => if a.length + b.length ≤ lim then one (.tup (a ++ b)) else none
  | .str a, .str b => if a.length + b.length ≤ lim then one (.str (a ++ b)) else none
  | _, _ => none
def mulD : D → D → R1
  | .int a, .int b => if Big a ∧ Big b then one (.int (a * b)) else none
  | .lst a, .int k => if -1000000000 ≤ k ∧ k ≤ 1000000000 ∧ a.length * k.toNat ≤ lim then some (true, .lst (List.replicate k.toNat a).flatten) else none
  | .tup a, .int k => if -1000000000 ≤ k ∧ k ≤ 1000000000 ∧ a.length * k.toNat ≤ lim then one (.tup (List.replicate k.toNat a).flatten) else none
  | _, _ => none
def opD : Operator → D → D → R1
  | .Add, x, y => addD x y
  | .Sub, .int a, .int b => one (.int (a - b))
  | .Mult, x, y => mulD x y
  | .FloorDiv, .int a, .int b => if 0 < b ∧ b.natAbs.log2 < 9000 then one (.int (a / b)) else none
  | .Mod, .int a, .int b => if 0 < b then one (.int (a % b)) else none
  | .Pow, .int a, .int b => if 0 ≤ b ∧ b ≤ 1000000 ∧ a.natAbs < 18446744073709551616 then one (.int (a ^ b.toNat)) else none
  | _, _, _ => none
def inD (x : D) (xs : List D) : Option Bool := if flat x && xs.all flat then some (xs.any fun y => eqv y x) else none
def seqOf : D → Option (List D)
  | .lst xs => some xs
  | .tup xs => some xs
  | _ => none
def cmpD : CmpOp → D → D → Option Bool
  | .Lt, .int a, .int b => some (decide (a < b))
  | .LtE, .int a, .int b => some (decide (a ≤ b))
  | .Gt, .int a, .int b => some (decide (b < a))
  | .GtE, .int a, .int b => some (decide (b ≤ a))
  | .Eq, x, y => if sh 60 x && sh 60 y then some (eqv x y) else none
  | .NotEq, x, y => if sh 60 x && sh 60 y then some (!eqv x y) else none
  | .Is, x, .non => some (match x with | .non => true | _ => false)
  | .IsNot, x, .non => some (match x with | .non => false | _ => true)
  | .Is, x, .bl b => some (match x with | .bl a => a == b | _ => false)
  | .IsNot, x, .bl b => some (match x with | .bl a => !(a == b) | _ => true)
  | .In, x, y => (seqOf y).bind (inD x)
  | .NotIn, x, y => ((seqOf y).bind (inD x)).map (!·)
  | _, _, _ => none
def ixL (xs : List D) (i : D) : Option D := match i with
  | .int k => atI xs k
  | _ => none
def ixD (st : Sto) (x i : D) : Option D := match x, i with
  | .lst xs, .int k => atI xs k
  | .tup xs, .int k => atI xs k
  | .str s, .int k => if s.length ≤ lim then (atI s.cps.toList k).map fun c => .str ⟨#[c]⟩ else none
  | .hd n, .int k => (st[n]?).bind fun xs => atI xs k
  | _, _ => none
def cutD (xs : List D) (lo hi : Option Int) : List D := (xs.drop (HT.sIx xs.length 0 lo)).take (HT.sIx xs.length xs.length hi - HT.sIx xs.length 0 lo)
def cutI (xs : List Int) (lo hi : Option Int) : List Int := (xs.drop (HT.sIx xs.length 0 lo)).take (HT.sIx xs.length xs.length hi - HT.sIx xs.length 0 lo)
def slD (x : D) (lo hi : Option Int) : R1 := match x with
  | .lst xs => some (true, .lst (cutD xs lo hi))
  | .tup xs => one (.tup (cutD xs lo hi))
  | .scr ns => some (true, .lst ((cutI ns lo hi).map .int))
  | _ => none
def revD (x : D) : R1 := match x with
  | .lst xs => some (true, .lst xs.reverse)
  | .tup xs => one (.tup xs.reverse)
  | _ => none
def lenD (st : Sto) : D → Option Nat
  | .lst xs => some xs.length
  | .tup xs => some xs.length
  | .str s => if s.length ≤ lim then some s.length else none
  | .hd n => (st[n]?).map (·.length)
  | _ => none
def intsOf : List D → Option (List Int)
  | [] => some []
  | .int i :: ds => (intsOf ds).map (i :: ·)
  | _ :: _ => none
/-- built-in functions -/
inductive Bi where
  | abs | int | len | sum | min2 | max2 | tuple | list | sorted | min1 | max1
  deriving DecidableEq
def biD (st : Sto) : Bi → List D → R1
  | .abs, [.int i] => one (.int (if i < 0 then -i else i))
  | .int, [.int i] => one (.int i)
  | .int, [.bl b] => one (.int (if b then 1 else 0))
  | .len, [x] => (lenD st x).map fun n => (false, .int n)
  | .sum, [x] => ((seqOf x).bind intsOf).map fun ns => (false, .int ns.sum)
  | .min2, [.int i, .int j] => one (.int (if j < i then j else i))
  | .max2, [.int i, .int j] => one (.int (if j > i then j else i))
  | .tuple, [.lst xs] => one (.tup xs)
  | .tuple, [.tup xs] => one (.tup xs)
  | .list, [.lst xs] => some (true, .lst xs)
  | .list, [.tup xs] => some (true, .lst xs)
  | _, _ => none
def isiD (ts : List String) (d : D) : Bool := ts.any fun t => ty d == t || (ty d == "bool" && t == "int")
def rngN (a b c : Int) : Nat := (Builtin.Range.rangeSize a b c).toNat
def rngL (a b c : Int) : List D := (List.range (rngN a b c)).map fun (i : Nat) => .int (a + (i : Int) * c)
def rngOk (a b c : Int) : Bool := decide (-1000000000 ≤ a ∧ a ≤ 1000000000 ∧ -1000000000 ≤ b ∧ b ≤ 1000000000 ∧ c ≠ 0 ∧ -1000000 ≤ c ∧ c ≤ 1000000) && Builtin.Range.small a b c
def rngD : List D → Option (List D)
  | [.int n] => if rngOk 0 n 1 then some (rngL 0 n 1) else none
  | [.int a, .int b] => if rngOk a b 1 then some (rngL a b 1) else none
  | [.int a, .int b, .int c] => if rngOk a b c then some (rngL a b c) else none
  | _ => none
/-- methods of lists -/
inductive Mt where
  | append | pop | popAt | extend
  deriving DecidableEq
/-- what a list's method gives, and the list behind it -/
def mtD : Mt → List D → List D → Option (D × List D)
  | .append, xs, [d] => if xs.length < lim then some (.non, xs ++ [d]) else none
  | .pop, xs, [] => (xs[xs.length - 1]?).map fun d => (d, xs.dropLast)
  | .popAt, xs, [.int i] => (ixN xs.length i).bind fun k => (xs[k]?).map fun d => (d, xs.eraseIdx k)
  | .extend, xs, [.lst ys] => if xs.length + ys.length ≤ lim then some (.non, xs ++ ys) else none
  | _, _, _ => none
def truD : D → Option Bool
  | .non => some false
  | .bl b => some b
  | .int i => some (i != 0)
  | .str s => if s.length ≤ lim then some (s.length != 0) else none
  | .lst xs => some (!xs.isEmpty)
  | .tup xs => some (!xs.isEmpty)
  | _ => none

/-! ## the language -/
mutual
inductive E where
  | v (i : Nat) | k (d : D) | g (x : Str)
  | op (o : Operator) (a b : E) | cmp (o : CmpOp) (a b : E) | cmpv (o : CmpOp) (a : E) (i : Nat) | chain (o o' : CmpOp) (a b c : E)
  | neg (a : E) | nt (a : E) | an (a b : E) | or (a b : E) | ite (c : Cn) (a b : E)
  | tup (es : Es) | lst (es : Es) | share (e : E)
  | bi (b : Bi) (es : Es) | lenv (i : Nat) | isi (a : E) (ts : List String) (many : Bool)
  | ix (a b : E) | ixv (i : Nat) (b : E) | sl (a : E) (lo hi : Eo) | slr (a : E)
  | call (f : Str) (es : Es) | callk (f : Str) (es : Es) (ks : List Str) (kes : Es) (perm : List Nat)
  | mth (m : Mt) (i : Nat) (es : Es) | mthH (m : Mt) (a : E) (es : Es)
  | lc (e : E) (t : Tg) (it : I) (c : Co) (own : List (Str × Nat)) | lc2 (e : E) (t : Tg) (it : I) (c : Co) (t1 : Tg) (it1 : I) (c1 : Co) (own : List (Str × Nat)) (own1 : List Nat)
  | lrng (es : Es) | trng (es : Es)
inductive Es where
  | nil | cons (e : E) (es : Es)
inductive Eo where
  | no | so (e : E)
inductive Cn where
  | e (a : E) | nt (c : Cn) | an (a b : Cn) | or (a b : Cn)
inductive Co where
  | no | so (c : Cn)
inductive I where
  | val (e : E) | rng (es : Es) | enum (e : E) | zip (a b : E) | rev (e : E)
inductive Tg where
  | n (i : Nat) | sub (i : Nat) (e : E) | tup (ts : Tgs)
inductive Tgs where
  | nil | cons (t : Tg) (ts : Tgs)
end
mutual
inductive S where
  | asg (i : Nat) (e : E) | asgT (t : Tg) (e : E) | par2 (i j : Nat) (a b : E) | par3 (i j l : Nat) (a b c : E) | aug (i : Nat) (o : Operator) (e : E)
  | ex (e : E) | ret (e : E) | retN | pass | brk | cnt
  | ite (c : Cn) (a b : Ss) | whl (c : Cn) (b : Ss) | for_ (t : Tg) (it : I) (b : Ss)
inductive Ss where
  | nil | cons (s : S) (ss : Ss)
end
inductive Fl where
  | nx | rt (fr : Bool) (d : D) | bk | ct

/-! ## what it does -/
/-- the table of functions; the globals -/
structure Tb where
  F : Str → List D → Sto → Option (Bool × D × Sto)
  G : Str → Option D
abbrev RE := Option (Bool × D × Env × Sto)
abbrev RS := Option (Fl × Env × Sto)
/-- a value, a new list frozen -/
def vv (r : RE) : Option (D × Env × Sto) := r.map fun r => r.2
def up (ρ : Env) (st : Sto) (r : R1) : RE := match r with
  | some (fr, d) => some (fr, d, ρ, st)
  | none => none
/-- a slot's sequence as it stands -/
def slotSeq (st : Sto) : Sl → Option (List D)
  | .own xs => some xs
  | .val (.lst xs) => some xs
  | .val (.tup xs) => some xs
  | .val (.hd n) => st[n]?
  | _ => none
def slotLst (st : Sto) : Sl → Option (List D)
  | .own xs => some xs
  | .val (.hd n) => st[n]?
  | _ => none
def wipeE (ρ : Env) : List Nat → Env
  | [] => ρ
  | v :: vs => (wipeE ρ vs).set v .no
def asgN (i : Nat) (fr : Bool) (d : D) (ρ : Env) : Option Env := if i < ρ.length then match fr, d with
    | true, .lst xs => some (ρ.set i (.own xs))
    | true, _ => none
    | false, d => some (ρ.set i (.val d))
  else none
def setIx (xs : List D) (k : D) (d : D) : Option (List D) := match k with
  | .int i => (ixN xs.length i).map fun j => xs.set j d
  | _ => none
def asgSub (i : Nat) (k d : D) (ρ : Env) (st : Sto) : Option (Env × Sto) := match ρ[i]? with
  | some (.own xs) => (setIx xs k d).map fun ys => (ρ.set i (.own ys), st)
  | some (.val (.hd n)) => (st[n]?).bind fun xs => (setIx xs k d).map fun ys => (ρ, st.set n ys)
  | _ => none
def mthR (m : Mt) (i : Nat) (args : List D) (ρ : Env) (st : Sto) : Option (D × Env × Sto) := match ρ[i]? with
  | some (.own xs) => (mtD m xs args).map fun p => (p.1, ρ.set i (.own p.2), st)
  | some (.val (.hd n)) => (st[n]?).bind fun xs => (mtD m xs args).map fun p => (p.1, ρ, st.set n p.2)
  | _ => none
def mthHR (m : Mt) (o : D) (args : List D) (st : Sto) : Option (D × Sto) := match o with
  | .hd n => (st[n]?).bind fun xs => (mtD m xs args).map fun p => (p.1, st.set n p.2)
  | _ => none
def zipL : List D → List D → List D
  | x :: xs, y :: ys => .tup [x, y] :: zipL xs ys
  | _, _ => []
def enumL (n : Nat) : List D → List D
  | [] => []
  | x :: xs => .tup [.int n, x] :: enumL (n + 1) xs
def unpack (d : D) (n : Nat) : Option (List D) := match d with
  | .tup xs => if xs.length = n then some xs else none
  | _ => none
def Tgs.len : Tgs → Nat
  | .nil => 0
  | .cons _ ts => ts.len + 1
def lcL (asg : D → Env → Sto → Option (Env × Sto)) (c : Env → Sto → Option (Bool × Env × Sto)) (e : Env → Sto → Option (D × Env × Sto)) (vs : List Nat) : List D → List D → Env → Sto → Option (List D × Env × Sto)
  | [], acc, ρ, st => some (acc, ρ, st)
  | d :: ds, acc, ρ, st => do
    let (ρ1, st1) ← asg d ρ st
    let (b, ρ2, st2) ← c ρ1 st1
    if b then do
      let (x, ρ3, st3) ← e ρ2 st2
      if acc.length < lim then lcL asg c e vs ds (acc ++ [x]) (wipeE ρ3 vs) st3 else none
    else lcL asg c e vs ds acc (wipeE ρ2 vs) st2
def lcL2 (asg : D → Env → Sto → Option (Env × Sto)) (c : Env → Sto → Option (Bool × Env × Sto)) (it : Env → Sto → Option (List D × Env × Sto)) (inner : List D → List D → Env → Sto → Option (List D × Env × Sto)) (vs : List Nat) (vs1 : List Nat) : List D → List D → Env → Sto → Option (List D × Env × Sto)
  | [], acc, ρ, st => some (acc, ρ, st)
  | d :: ds, acc, ρ, st => do
    let (ρ1, st1) ← asg d ρ st
    let (b, ρ2, st2) ← c ρ1 st1
    if b then do
      let (xs, ρ3, st3) ← it ρ2 st2
      let (acc', ρ4, st4) ← inner xs acc (wipeE ρ3 vs1) st3
      lcL2 asg c it inner vs vs1 ds acc' (wipeE ρ4 vs) st4
    else lcL2 asg c it inner vs vs1 ds acc (wipeE ρ2 vs) st2
def forL (asg : D → Env → Sto → Option (Env × Sto)) (b : Env → Sto → RS) : List D → Env → Sto → RS
  | [], ρ, st => some (.nx, ρ, st)
  | d :: ds, ρ, st => do
    let (ρ1, st1) ← asg d ρ st
    let (f, ρ2, st2) ← b ρ1 st1
    match f with
    | .nx => forL asg b ds ρ2 st2
    | .ct => forL asg b ds ρ2 st2
    | .bk => some (.nx, ρ2, st2)
    | .rt fr d => some (.rt fr d, ρ2, st2)
def whlL (c : Env → Sto → Option (Bool × Env × Sto)) (b : Env → Sto → RS) : Nat → Env → Sto → RS
  | 0, _, _ => none
  | n + 1, ρ, st => do
    let (t, ρ1, st1) ← c ρ st
    if t then do
      let (f, ρ2, st2) ← b ρ1 st1
      match f with
      | .nx => whlL c b n ρ2 st2
      | .ct => whlL c b n ρ2 st2
      | .bk => some (.nx, ρ2, st2)
      | .rt fr d => some (.rt fr d, ρ2, st2)
    else some (.nx, ρ1, st1)
def fuel : Nat := 1000000

mutual
def evE (P : Tb) : E → Env → Sto → RE
  | .v i => fun ρ st => match ρ[i]? with
    | some (.val d) => some (false, d, ρ, st)
    | some (.own xs) => some (false, .lst xs, ρ.set i (.val (.lst xs)), st)
    | _ => none
  | .k d => fun ρ st => some (false, d, ρ, st)
  | .g x => fun ρ st => (P.G x).map fun d => (false, d, ρ, st)
  | .op o a b => fun ρ st => do
    let (x, ρ1, st1) ← vv (evE P a ρ st)
    let (y, ρ2, st2) ← vv (evE P b ρ1 st1)
    up ρ2 st2 (opD o x y)
  | .cmp o a b => fun ρ st => do
    let (x, ρ1, st1) ← vv (evE P a ρ st)
    let (y, ρ2, st2) ← vv (evE P b ρ1 st1)
    (cmpD o x y).map fun t => (false, .bl t, ρ2, st2)
  | .cmpv o a i => fun ρ st => do
    let (x, ρ1, st1) ← vv (evE P a ρ st)
    let sl ← ρ1[i]?
    let ys ← slotSeq st1 sl
    match o with
    | .In => (inD x ys).map fun t => (false, .bl t, ρ1, st1)
    | .NotIn => (inD x ys).map fun t => (false, .bl (!t), ρ1, st1)
    | _ => none
  | .chain o o' a b c => fun ρ st => do
    let (x, ρ1, st1) ← vv (evE P a ρ st)
    let (y, ρ2, st2) ← vv (evE P b ρ1 st1)
    let t ← cmpD o x y
    if t then do
      let (z, ρ3, st3) ← vv (evE P c ρ2 st2)
      (cmpD o' y z).map fun t => (false, .bl t, ρ3, st3)
    else some (false, .bl false, ρ2, st2)
  | .neg a => fun ρ st => do
    let (x, ρ1, st1) ← vv (evE P a ρ st)
    match x with
    | .int i => some (false, .int (-i), ρ1, st1)
    | _ => none
  | .nt a => fun ρ st => do
    let (x, ρ1, st1) ← vv (evE P a ρ st)
    let t ← truD x
    some (false, .bl (!t), ρ1, st1)
  | .an a b => fun ρ st => do
    let (x, ρ1, st1) ← vv (evE P a ρ st)
    match x with
    | .bl true => (vv (evE P b ρ1 st1)).map fun r => (false, r)
    | .bl false => some (false, .bl false, ρ1, st1)
    | _ => none
  | .or a b => fun ρ st => do
    let (x, ρ1, st1) ← vv (evE P a ρ st)
    match x with
    | .bl true => some (false, .bl true, ρ1, st1)
    | .bl false => (vv (evE P b ρ1 st1)).map fun r => (false, r)
    | _ => none
  | .ite c a b => fun ρ st => do
    let (t, ρ1, st1) ← evT P c ρ st
    if t then evE P a ρ1 st1 else evE P b ρ1 st1
  | .tup es => fun ρ st => do
    let (ds, ρ1, st1) ← evEs P es ρ st
    if ds.length ≤ lim then some (false, .tup ds, ρ1, st1) else none
  | .lst es => fun ρ st => do
    let (ds, ρ1, st1) ← evEs P es ρ st
    if ds.length ≤ lim then some (true, .lst ds, ρ1, st1) else none
  | .share e => fun ρ st => do
    let (fr, d, ρ1, st1) ← evE P e ρ st
    match fr, d with
    | true, .lst xs => some (false, .hd st1.length, ρ1, st1 ++ [xs])
    | _, _ => none
  | .bi b es => fun ρ st => do
    let (ds, ρ1, st1) ← evEs P es ρ st
    up ρ1 st1 (biD st1 b ds)
  | .lenv i => fun ρ st => do
    let sl ← ρ[i]?
    let ys ← slotSeq st sl
    some (false, .int ys.length, ρ, st)
  | .isi a ts _ => fun ρ st => do
    let (x, ρ1, st1) ← vv (evE P a ρ st)
    match x with
    | .scr _ => none
    | _ => some (false, .bl (isiD ts x), ρ1, st1)
  | .ix a b => fun ρ st => do
    let (x, ρ1, st1) ← vv (evE P a ρ st)
    let (y, ρ2, st2) ← vv (evE P b ρ1 st1)
    (ixD st2 x y).map fun d => (false, d, ρ2, st2)
  | .ixv i b => fun ρ st => do
    let sl0 ← ρ[i]?
    let _ ← slotSeq st sl0
    let (y, ρ1, st1) ← vv (evE P b ρ st)
    let sl ← ρ1[i]?
    let ys ← slotSeq st1 sl
    (ixL ys y).map fun d => (false, d, ρ1, st1)
  | .sl a lo hi => fun ρ st => do
    let (x, ρ1, st1) ← vv (evE P a ρ st)
    let (l, ρ2, st2) ← evO P lo ρ1 st1
    let (h, ρ3, st3) ← evO P hi ρ2 st2
    up ρ3 st3 (slD x l h)
  | .slr a => fun ρ st => do
    let (x, ρ1, st1) ← vv (evE P a ρ st)
    up ρ1 st1 (revD x)
  | .call f es => fun ρ st => do
    let (ds, ρ1, st1) ← evEs P es ρ st
    (P.F f ds st1).map fun r => (r.1, r.2.1, ρ1, r.2.2)
  | .callk f es _ kes perm => fun ρ st => do
    let (ds, ρ1, st1) ← evEs P es ρ st
    let (ks, ρ2, st2) ← evEs P kes ρ1 st1
    (P.F f (perm.filterMap fun j => (ds ++ ks)[j]?) st2).map fun r => (r.1, r.2.1, ρ2, r.2.2)
  | .mth m i es => fun ρ st => do
    let sl0 ← ρ[i]?
    let _ ← slotLst st sl0
    let (ds, ρ1, st1) ← evEs P es ρ st
    (mthR m i ds ρ1 st1).map fun r => (false, r)
  | .mthH m a es => fun ρ st => do
    let (x, ρ1, st1) ← vv (evE P a ρ st)
    let (ds, ρ2, st2) ← evEs P es ρ1 st1
    (mthHR m x ds st2).map fun r => (false, r.1, ρ2, r.2)
  | .lc e t it c own => fun ρ st => do
    let (xs, ρ1, st1) ← evI P it ρ st
    let (acc, ρ2, st2) ← lcL (evTg P t) (evC P c) (fun ρ st => vv (evE P e ρ st)) (own.map (·.2)) xs [] (wipeE ρ1 (own.map (·.2))) st1
    some (true, .lst acc, ρ2, st2)
  | .lc2 e t it c t1 it1 c1 own own1 => fun ρ st => do
    let (xs, ρ1, st1) ← evI P it ρ st
    let (acc, ρ2, st2) ← lcL2 (evTg P t) (evC P c) (evI P it1) (lcL (evTg P t1) (evC P c1) (fun ρ st => vv (evE P e ρ st)) own1) (own.map (·.2)) own1 xs [] (wipeE ρ1 (own.map (·.2))) st1
    some (true, .lst acc, ρ2, st2)
  | .lrng es => fun ρ st => do
    let (ds, ρ1, st1) ← evEs P es ρ st
    let xs ← rngD ds
    if xs.length ≤ lim ∧ ds.length ≤ 2 then some (true, .lst xs, ρ1, st1) else none
  | .trng es => fun ρ st => do
    let (ds, ρ1, st1) ← evEs P es ρ st
    let xs ← rngD ds
    if xs.length ≤ lim ∧ ds.length ≤ 2 then some (false, .tup xs, ρ1, st1) else none
/-- the truth -/
def evT (P : Tb) : Cn → Env → Sto → Option (Bool × Env × Sto)
  | .nt a => fun ρ st => do
    let (t, ρ1, st1) ← evT P a ρ st
    some (!t, ρ1, st1)
  | .an a b => fun ρ st => do
    let (t, ρ1, st1) ← evT P a ρ st
    if t then evT P b ρ1 st1 else some (false, ρ1, st1)
  | .or a b => fun ρ st => do
    let (t, ρ1, st1) ← evT P a ρ st
    if t then some (true, ρ1, st1) else evT P b ρ1 st1
  | .e a => fun ρ st => do
    let (x, ρ1, st1) ← vv (evE P a ρ st)
    let t ← truD x
    some (t, ρ1, st1)
def evEs (P : Tb) : Es → Env → Sto → Option (List D × Env × Sto)
  | .nil => fun ρ st => some ([], ρ, st)
  | .cons e es => fun ρ st => do
    let (x, ρ1, st1) ← vv (evE P e ρ st)
    let (xs, ρ2, st2) ← evEs P es ρ1 st1
    some (x :: xs, ρ2, st2)
/-- a part of a slice -/
def evO (P : Tb) : Eo → Env → Sto → Option (Option Int × Env × Sto)
  | .no => fun ρ st => some (none, ρ, st)
  | .so e => fun ρ st => do
    let (x, ρ1, st1) ← vv (evE P e ρ st)
    match x with
    | .int i => some (some i, ρ1, st1)
    | _ => none
/-- a clause's test -/
def evC (P : Tb) : Co → Env → Sto → Option (Bool × Env × Sto)
  | .no => fun ρ st => some (true, ρ, st)
  | .so e => evT P e
/-- what is walked -/
def evI (P : Tb) : I → Env → Sto → Option (List D × Env × Sto)
  | .val e => fun ρ st => do
    let (x, ρ1, st1) ← vv (evE P e ρ st)
    let xs ← seqOf x
    some (xs, ρ1, st1)
  | .rng es => fun ρ st => do
    let (ds, ρ1, st1) ← evEs P es ρ st
    let xs ← rngD ds
    some (xs, ρ1, st1)
  | .enum e => fun ρ st => do
    let (x, ρ1, st1) ← vv (evE P e ρ st)
    let xs ← seqOf x
    some (enumL 0 xs, ρ1, st1)
  | .zip a b => fun ρ st => do
    let (x, ρ1, st1) ← vv (evE P a ρ st)
    let (y, ρ2, st2) ← vv (evE P b ρ1 st1)
    match x, y with
    | .lst xs, .lst ys => some (zipL xs ys, ρ2, st2)
    | .tup xs, .tup ys => some (zipL xs ys, ρ2, st2)
    | _, _ => none
  | .rev e => fun ρ st => do
    let (x, ρ1, st1) ← vv (evE P e ρ st)
    let xs ← seqOf x
    some (xs.reverse, ρ1, st1)
/-- a target takes a value that is not new -/
def evTg (P : Tb) : Tg → D → Env → Sto → Option (Env × Sto)
  | .n i => fun d ρ st => (asgN i false d ρ).map fun ρ1 => (ρ1, st)
  | .sub i e => fun d ρ st => do
    let sl0 ← ρ[i]?
    let _ ← slotLst st sl0
    let (y, ρ1, st1) ← vv (evE P e ρ st)
    asgSub i y d ρ1 st1
  | .tup ts => fun d ρ st => do
    let ds ← unpack d ts.len
    evTgs P ts ds ρ st
def evTgs (P : Tb) : Tgs → List D → Env → Sto → Option (Env × Sto)
  | .nil => fun _ ρ st => some (ρ, st)
  | .cons t ts => fun ds ρ st => match ds with
    | d :: ds => do
      let (ρ1, st1) ← evTg P t d ρ st
      evTgs P ts ds ρ1 st1
    | [] => none
end
/-! ## statements -/
def augD : Operator → D → D → Option D
  | .Add, .int a, .int b => some (.int (a + b))
  | .Sub, .int a, .int b => some (.int (a - b))
  | .Mult, .int a, .int b => if Big a ∧ Big b then some (.int (a * b)) else none
  | _, _, _ => none
def retE (P : Tb) (e : E) (ρ : Env) (st : Sto) : RE := match e with
  | .v i => match ρ[i]? with
    | some (.own xs) => some (true, .lst xs, ρ.set i .no, st)
    | _ => evE P (.v i) ρ st
  | e => evE P e ρ st
mutual
def exS (P : Tb) : S → Env → Sto → RS
  | .asg i e => fun ρ st => do
    let (fr, d, ρ1, st1) ← evE P e ρ st
    let ρ2 ← asgN i fr d ρ1
    some (.nx, ρ2, st1)
  | .asgT t e => fun ρ st => do
    let (d, ρ1, st1) ← vv (evE P e ρ st)
    let (ρ2, st2) ← evTg P t d ρ1 st1
    some (.nx, ρ2, st2)
  | .par2 i j a b => fun ρ st => do
    let (fr, d, ρ1, st1) ← evE P a ρ st
    let (fr', d', ρ2, st2) ← evE P b ρ1 st1
    let ρ3 ← asgN j fr' d' ρ2
    let ρ4 ← asgN i fr d ρ3
    if i = j then none else some (.nx, ρ4, st2)
  | .par3 i j l a b c => fun ρ st => do
    let (fr, d, ρ1, st1) ← evE P a ρ st
    let (fr', d', ρ2, st2) ← evE P b ρ1 st1
    let (fr'', d'', ρ3, st3) ← evE P c ρ2 st2
    let ρ4 ← asgN l fr'' d'' ρ3
    let ρ5 ← asgN j fr' d' ρ4
    let ρ6 ← asgN i fr d ρ5
    if i = j ∨ i = l ∨ j = l then none else some (.nx, ρ6, st3)
  | .aug i o e => fun ρ st => match ρ[i]? with
    | some (.val x) => do
      let (y, ρ1, st1) ← vv (evE P e ρ st)
      let z ← augD o x y
      let ρ2 ← asgN i false z ρ1
      some (.nx, ρ2, st1)
    | _ => none
  | .ex e => fun ρ st => do
    let (_, _, ρ1, st1) ← evE P e ρ st
    some (.nx, ρ1, st1)
  | .ret e => fun ρ st => do
    let (fr, d, ρ1, st1) ← retE P e ρ st
    some (.rt fr d, ρ1, st1)
  | .retN => fun ρ st => some (.rt false .non, ρ, st)
  | .pass => fun ρ st => some (.nx, ρ, st)
  | .brk => fun ρ st => some (.bk, ρ, st)
  | .cnt => fun ρ st => some (.ct, ρ, st)
  | .ite c a b => fun ρ st => do
    let (t, ρ1, st1) ← evT P c ρ st
    if t then exSs P a ρ1 st1 else exSs P b ρ1 st1
  | .whl c b => fun ρ st => whlL (evT P c) (exSs P b) fuel ρ st
  | .for_ t it b => fun ρ st => do
    let (xs, ρ1, st1) ← evI P it ρ st
    forL (evTg P t) (exSs P b) xs ρ1 st1
def exSs (P : Tb) : Ss → Env → Sto → RS
  | .nil => fun ρ st => some (.nx, ρ, st)
  | .cons s ss => fun ρ st => do
    let (f, ρ1, st1) ← exS P s ρ st
    match f with
    | .nx => exSs P ss ρ1 st1
    | f => some (f, ρ1, st1)
end
structure Fn where
  ps : List Str
  nl : Nat
  body : Ss
def runF (P : Tb) (f : Fn) (args : List D) (st : Sto) : Option (Bool × D × Sto) :=
  if args.length = f.ps.length then match exSs P f.body (args.map Sl.val ++ List.replicate (f.nl - f.ps.length) .no) st with
    | some (.rt fr d, _, st') => some (fr, d, st')
    | some (.nx, _, st') => some (false, .non, st')
    | _ => none
  else none
/-- the functions to a depth of calls -/
def callN (prog : Str → Option Fn) (G : Str → Option D) : Nat → Str → List D → Sto → Option (Bool × D × Sto)
  | 0 => fun _ _ _ => none
  | k + 1 => fun x args st => match prog x with
    | some f => runF ⟨callN prog G k, G⟩ f args st
    | none => none
end Pv

namespace Pv
open PySem PySem.Spec PyProof.Rows L2

/-! ## which text is which term -/
structure SC where
  N : List Str
  sc : Scope
  tg : Str → Bool
  gl : Str → Bool
  fp : Str → Bool
  kw : Str → Nat → List Str → List Nat → Bool
def visB (sc : Scope) (x : Str) : Bool := match sc.names.lookup x with
  | some .local => true
  | some .cell => true
  | some .free => true
  | _ => false
def locB (sc : Scope) (x : Str) : Bool := match sc.names.lookup x with
  | some .local => true
  | some .cell => true
  | _ => false
def glB (sc : Scope) (x : Str) : Bool := match sc.names.lookup x with
  | some .globalImplicit => true
  | _ => false
def plainName (x : Str) : Bool := !(x == ("__debug__" : Str)) && !(x == ("__classdict__" : Str)) && !(x == ("__name__" : Str))
def SC.var (C : SC) (i : Nat) (x : Str) : Bool := decide (C.N[i]? = some x) && visB C.sc x && plainName x
def SC.store (C : SC) (i : Nat) (x : Str) : Bool := decide (C.N[i]? = some x) && locB C.sc x && C.tg x && plainName x
def SC.blk (C : SC) (scope : Scope) : SC := { C with sc := relS scope C.sc, tg := fun x => match scope.names.lookup x with
  | some .cell => true
  | some .local => true
  | _ => false }
def starB : Expr → Bool
  | .Starred .. => false
  | _ => true
def sliceB : Expr → Bool
  | .Slice .. => false
  | _ => true
def compB : Expr → Bool
  | .ListComp .. => true
  | .SetComp .. => true
  | .DictComp .. => true
  | _ => false
def setB : Expr → Bool
  | .Set .. => true
  | _ => false
/-- a test that is a value's truth -/
def truB : Expr → Bool
  | .UnaryOp .Not _ _ => false
  | .BoolOp .. => false
  | .IfExp .. => false
  | .Compare .. => false
  | _ => true
def biName : Bi → Str
  | .abs => "abs" | .int => "int" | .len => "len" | .sum => "sum" | .min2 => "min" | .max2 => "max" | .tuple => "tuple" | .list => "list" | .sorted => "sorted" | .min1 => "min" | .max1 => "max"
def mtName : Mt → Str
  | .append => "append" | .pop => "pop" | .popAt => "pop" | .extend => "extend"
def kB : D → Const → Bool
  | .non, .none => true
  | .bl b, .bool c => b == c
  | .int i, .int j => i == j
  | .str s, .str t => s == t
  | _, _ => false
def isCall0 : Expr → Bool
  | .Call _ [] [] _ => true
  | _ => false
/-- the built-in names that are used -/
def blts : List Str := ["abs", "int", "len", "sum", "min", "max", "tuple", "list", "sorted", "range", "enumerate", "zip", "reversed", "isinstance", "str", "bool", "dict"]
def tyNames : List Expr → List String → Bool
  | [], [] => true
  | .Name x _ :: es, t :: ts => x == (t : Str) && (["int", "str", "bool", "tuple", "list", "dict"].contains t) && tyNames es ts
  | _, _ => false
def tyGl (sc : Scope) : List String → Bool
  | [] => true
  | t :: ts => glB sc (t : Str) && tyGl sc ts
def kwB : List Keyword → List Str → Bool
  | [], [] => true
  | k :: ks, n :: ns => decide (k.arg = some n) && kwB ks ns
  | _, _ => false
def cmpE : E → Bool
  | .cmp .. => true
  | .cmpv .. => true
  | .chain .. => true
  | _ => false
mutual
def chE (C : SC) : E → Expr → Bool
  | .v i => fun e => match e with
    | .Name x _ => C.var i x
    | _ => false
  | .k d => fun e => match e with
    | .Constant c _ _ => kB d c
    | _ => false
  | .g x => fun e => match e with
    | .Name y _ => x == y && glB C.sc x && C.gl x && plainName x
    | _ => false
  | .op o a b => fun e => match e with
    | .BinOp l o' r _ => decide (o = o') && chE C a l && chE C b r
    | _ => false
  | .cmp o a b => fun e => match e with
    | .Compare l [o'] [r] _ => decide (o = o') && chE C a l && chE C b r && !setB r
    | _ => false
  | .cmpv o a i => fun e => match e with
    | .Compare l [o'] [.Name x _] _ => decide (o = o') && chE C a l && C.var i x
    | _ => false
  | .chain o o' a b c => fun e => match e with
    | .Compare l [o1, o2] [m, r] _ => decide (o = o1) && decide (o' = o2) && chE C a l && chE C b m && chE C c r && !setB m && !setB r
    | _ => false
  | .neg a => fun e => match e with
    | .UnaryOp .USub x _ => chE C a x
    | _ => false
  | .nt a => fun e => match e with
    | .UnaryOp .Not x _ => chE C a x && truB x
    | _ => false
  | .an a b => fun e => match e with
    | .BoolOp .And (x :: y :: rest) p => chE C a x && (if rest.isEmpty then chE C b y else chE C b (.BoolOp .And (y :: rest) p))
    | _ => false
  | .or a b => fun e => match e with
    | .BoolOp .Or (x :: y :: rest) p => chE C a x && (if rest.isEmpty then chE C b y else chE C b (.BoolOp .Or (y :: rest) p))
    | _ => false
  | .ite c a b => fun e => match e with
    | .IfExp t x y _ => chC C c t && chE C a x && chE C b y
    | _ => false
  | .tup es => fun e => match e with
    | .Tuple xs _ _ => chEs C es xs
    | _ => false
  | .lst es => fun e => match e with
    | .List xs _ => chEs C es xs
    | _ => false
  | .share a => fun e => chE C a e
  | .bi b es => fun e => match e with
    | .Call (.Name x _) (y :: ys) [] _ => x == biName b && glB C.sc x && chEs C es (y :: ys)
    | _ => false
  | .lenv i => fun e => match e with
    | .Call (.Name x _) [.Name y _] [] _ => x == ("len" : Str) && glB C.sc x && C.var i y
    | _ => false
  | .isi a ts many => fun e => match e with
    | .Call (.Name x _) [y, t] [] _ => x == ("isinstance" : Str) && glB C.sc x && chE C a y && starB y && tyGl C.sc ts && (match many, t with
      | true, .Tuple es _ _ => tyNames es ts && decide (es.length < 10)
      | false, e => tyNames [e] ts
      | _, _ => false)
    | _ => false
  | .ix a b => fun e => match e with
    | .Subscript x y _ => chE C a x && chE C b y && sliceB y
    | _ => false
  | .ixv i b => fun e => match e with
    | .Subscript (.Name x _) y _ => C.var i x && chE C b y && sliceB y
    | _ => false
  | .sl a lo hi => fun e => match e with
    | .Subscript x (.Slice l h none _) _ => chE C a x && chO C lo l && chO C hi h
    | _ => false
  | .slr a => fun e => match e with
    | .Subscript x (.Slice none none (some (.UnaryOp .USub (.Constant (.int 1) _ _) _)) _) _ => chE C a x
    | _ => false
  | .call f es => fun e => match e with
    | .Call (.Name x _) ys [] _ => x == f && glB C.sc x && plainName x && C.fp x && chEs C es ys
    | _ => false
  | .callk f es ks kes perm => fun e => match e with
    | .Call (.Name x _) ys (k :: kws) _ => x == f && glB C.sc x && plainName x && chEs C es ys && kwB (k :: kws) ks && chEs C kes ((k :: kws).map (·.value)) && C.kw x ys.length ks perm
    | _ => false
  | .mth m i es => fun e => match e with
    | .Call (.Attribute (.Name x _) n p) ys [] q => n == mtName m && C.var i x && chEs C es ys && p.endLine == q.line && decide (ys.length < 20)
    | _ => false
  | .mthH m a es => fun e => match e with
    | .Call (.Attribute x n p) ys [] q => n == mtName m && chE C a x && !isCall0 x && chEs C es ys && p.endLine == q.line && decide (ys.length < 20)
    | _ => false
  | .lc a t it c own => fun e => match e with
    | .ListComp x [⟨tg, iter, ifs, 0⟩] scope _ => blkC C.N C.sc scope own && chI C it tg iter && chTg (C.blk scope) t tg && chCo (C.blk scope) c ifs && chE (C.blk scope) a x && (Tg.slots t).all (fun j => (own.map (·.2)).contains j)
    | _ => false
  | .lc2 a t it c t1 it1 c1 own own1 => fun e => match e with
    | .ListComp x [⟨tg, iter, ifs, 0⟩, ⟨tg1, iter1, ifs1, 0⟩] scope _ => blkC C.N C.sc scope own && chI C it tg iter && chTg (C.blk scope) t tg && chCo (C.blk scope) c ifs && chI (C.blk scope) it1 tg1 iter1 && chTg (C.blk scope) t1 tg1 && chCo (C.blk scope) c1 ifs1 && chE (C.blk scope) a x &&
      (Tg.slots t).all (fun j => (own.map (·.2)).contains j) && (Tg.slots t1).all (fun j => own1.contains j) && own1.all (fun j => (own.map (·.2)).contains j)
    | _ => false
  | .lrng es => fun e => match e with
    | .Call (.Name x _) [.Call (.Name y _) zs [] _] [] _ => x == ("list" : Str) && glB C.sc x && y == ("range" : Str) && glB C.sc y && chEs C es zs && (zs.length == 1 || zs.length == 2)
    | _ => false
  | .trng es => fun e => match e with
    | .Call (.Name x _) [.Call (.Name y _) zs [] _] [] _ => x == ("tuple" : Str) && glB C.sc x && y == ("range" : Str) && glB C.sc y && chEs C es zs && (zs.length == 1 || zs.length == 2)
    | _ => false
def chEs (C : SC) : Es → List Expr → Bool
  | .nil => fun l => match l with
    | [] => true
    | _ => false
  | .cons e es => fun l => match l with
    | x :: xs => starB x && chE C e x && chEs C es xs
    | _ => false
def chO (C : SC) : Eo → Option Expr → Bool
  | .no => fun o => match o with
    | none => true
    | _ => false
  | .so e => fun o => match o with
    | some x => chE C e x
    | _ => false
def chC (C : SC) : Cn → Expr → Bool
  | .e a => fun x => chE C a x && (truB x || cmpE a)
  | .nt c => fun x => match x with
    | .UnaryOp .Not y _ => chC C c y
    | _ => false
  | .an a b => fun e => match e with
    | .BoolOp .And (x :: y :: rest) p => chC C a x && (if rest.isEmpty then chC C b y else chC C b (.BoolOp .And (y :: rest) p))
    | _ => false
  | .or a b => fun e => match e with
    | .BoolOp .Or (x :: y :: rest) p => chC C a x && (if rest.isEmpty then chC C b y else chC C b (.BoolOp .Or (y :: rest) p))
    | _ => false
def chCo (C : SC) : Co → List Expr → Bool
  | .no => fun l => match l with
    | [] => true
    | _ => false
  | .so c => fun l => match l with
    | [x] => chC C c x
    | _ => false
def chI (C : SC) : I → Expr → Expr → Bool
  | .val e => fun _ x => chE C e x && !setB x
  | .rng es => fun _ x => match x with
    | .Call (.Name y _) zs [] _ => y == ("range" : Str) && glB C.sc y && chEs C es zs && (zs.length == 1 || zs.length == 2 || zs.length == 3)
    | _ => false
  | .enum e => fun t x => match t, x with
    | .Tuple _ _ _, .Call (.Name y _) [z] [] _ => y == ("enumerate" : Str) && glB C.sc y && chE C e z && starB z
    | _, _ => false
  | .zip a b => fun t x => match t, x with
    | .Tuple _ _ _, .Call (.Name y _) [z, z'] [] _ => y == ("zip" : Str) && glB C.sc y && chE C a z && chE C b z' && starB z && starB z'
    | _, _ => false
  | .rev e => fun _ x => match x with
    | .Call (.Name y _) [z] [] _ => y == ("reversed" : Str) && glB C.sc y && chE C e z && starB z
    | _ => false
def chTg (C : SC) : Tg → Expr → Bool
  | .n i => fun e => match e with
    | .Name x _ => C.store i x
    | _ => false
  | .sub i a => fun e => match e with
    | .Subscript (.Name x _) y _ => C.var i x && chE C a y && sliceB y
    | _ => false
  | .tup ts => fun e => match e with
    | .Tuple es _ _ => chTgs C ts es
    | _ => false
def chTgs (C : SC) : Tgs → List Expr → Bool
  | .nil => fun l => match l with
    | [] => true
    | _ => false
  | .cons t ts => fun l => match l with
    | x :: xs => starB x && chTg C t x && chTgs C ts xs
    | _ => false
def Tg.slots : Tg → List Nat
  | .n i => [i]
  | .sub _ _ => []
  | .tup ts => Tgs.slots ts
def Tgs.slots : Tgs → List Nat
  | .nil => []
  | .cons t ts => Tg.slots t ++ Tgs.slots ts
end
end Pv

namespace Pv
open PySem PySem.Spec PyProof.Rows L2

/-! ## what is shown -/
/-- a function's promise -/
def spOf (K : PySem.W.Frag) (np : Nat) (f : List D → Sto → Option (Bool × D × Sto)) : Sp := fun vs H Q _ =>
  vs.length = np ∧ ∃ A B st ds fr d st', SRel K A B H st ∧ HoL K A B vs ds ∧ f ds st = some (fr, d, st') ∧ ∀ v A' B' H', Back K A B H A' B' H' st' fr d v → Q v H'
/-- the table and the module -/
structure GOk (P : Program) (w : World) (K : PySem.W.Frag) (mg : Str → Option Value) (base : Heap) (k : Nat) (F : Tb) (gl : Str → Bool) (fp : Str → Bool) (kw : Str → Nat → List Str → List Nat → Bool) : Prop where
  blt : ∀ x, x ∈ blts → mg x = none
  glob : ∀ x d, gl x = true → F.G x = some d → ∃ u v, mg x = some u ∧ RelV v u ∧ ∀ A B, Ho K A B v d
  fns : ∀ x, fp x = true → ∃ f fd ps, mg x = some (.ref f) ∧ PySem.W.keepIn K (.ref f) = true ∧ Binds K fd ps [] ∧ FnOk P w K mg base CX0 k f fd ps (spOf K ps.length (F.F x)) ∧ ∀ ds st r, F.F x ds st = some r → ds.length = ps.length
  kws : ∀ x np ks perm, kw x np ks perm = true → ∃ f fd ps, mg x = some (.ref f) ∧ PySem.W.keepIn K (.ref f) = true ∧ FnOk P w K mg base CX0 k f fd ps (spOf K ps.length (F.F x)) ∧
    0 < ps.length ∧ (∀ (s : Shared) (us ws : List Value), us.length = np → ws.length = ks.length → BindsTo s fd ⟨us, ks.zip ws⟩ (ps.zip (perm.filterMap fun j => (us ++ ws)[j]?)) ∧ (perm.filterMap fun j => (us ++ ws)[j]?).length = ps.length) ∧ ∀ ds st r, F.F x ds st = some r → ds.length = ps.length
/-- a def's body, or a comprehension's in it -/
structure COk (P : Program) (w : World) (K : PySem.W.Frag) (mg : Str → Option Value) (base : Heap) (k : Nat) (C : SC) (X : Cx) : Prop where
  prog : X.prog = P
  w : X.w = w
  K : X.K = K
  mg : X.mg = mg
  base : X.base = base
  N : X.N = C.N
  nd : C.N.Nodup
  sc : X.env.scope = C.sc
  room : Room k X.A
  calm : X.calm = true
  tg : ∀ x, C.tg x = true → X.fn x = true ∨ X.env.scope.names.lookup x = some .local
  kind : C.sc.kind = .function
  xe : X.xe = fun _ _ => False

section
variable (K : PySem.W.Frag) (F : Tb)
/-- behind an expression -/
def EPost (O : Org) (σ : L2.St) (T : List (Addr × List D)) (ρ' : Env) (st' : Sto) (fr : Bool) (d : D) (v : V) (A' : List Addr) (B' H' : Hp) : Prop :=
  if fr = true then ∃ a xs, v = .ref a ∧ d = .lst xs ∧ Rel K O A' B' σ H' ρ' st' ((a, xs) :: T) else Rel K O A' B' σ H' ρ' st' T ∧ Ho K A' B' v d
def tE (p : E) : TE := fun σ H Q => ∃ O A B ρ st T fr d ρ' st', Rel K O A B σ H ρ st T ∧ evE F p ρ st = some (fr, d, ρ', st') ∧ ∀ v A' B' H', Px A A' → Ex B B' → EPost K O σ T ρ' st' fr d v A' B' H' → Q v H'
def tCn (p : Cn) : TT := fun σ H Q => ∃ O A B ρ st T b ρ' st', Rel K O A B σ H ρ st T ∧ evT F p ρ st = some (b, ρ', st') ∧ ∀ A' B' H', Px A A' → Ex B B' → Rel K O A' B' σ H' ρ' st' T → Q b H'
def tCo (p : Co) : TT := fun σ H Q => ∃ O A B ρ st T b ρ' st', Rel K O A B σ H ρ st T ∧ evC F p ρ st = some (b, ρ', st') ∧ ∀ A' B' H', Px A A' → Ex B B' → Rel K O A' B' σ H' ρ' st' T → Q b H'
def tEs (p : Es) : TA := fun σ H Q => ∃ O A B ρ st T ds ρ' st', Rel K O A B σ H ρ st T ∧ evEs F p ρ st = some (ds, ρ', st') ∧ ∀ vs A' B' H', Px A A' → Ex B B' → Rel K O A' B' σ H' ρ' st' T → HoL K A' B' vs ds → Q vs H'
def tEo (p : Eo) : TO := fun σ H Q => ∃ O A B ρ st T d ρ' st', Rel K O A B σ H ρ st T ∧ evO F p ρ st = some (d, ρ', st') ∧ ∀ A' B' H', Px A A' → Ex B B' → Rel K O A' B' σ H' ρ' st' T → Q d H'
/-- what J walks: from (A, B) on -/
def Walks (J : It) (A : List Addr) (B : Hp) (xs : List D) : Prop := ∀ (i : Nat) (A1 : List Addr) (B1 H : Hp), Px A A1 → Ex B B1 → Ex B1 H →
  (∀ d, xs[i]? = some d → J.go i H ∧ ∀ x H', J.yld i H x H' → ∃ B2, Ex B1 B2 ∧ Ex H H' ∧ Ex B2 H' ∧ (∀ a, B1 a = none → B2 a ≠ none → H a = none) ∧ Ho K A1 B2 x d) ∧ (xs.length ≤ i → J.stop i H)
def tI (p : I) : TI := fun σ H R => ∃ O A B ρ st T xs ρ' st', Rel K O A B σ H ρ st T ∧ evI F p ρ st = some (xs, ρ', st') ∧ ∀ J A' B' H', Px A A' → Ex B B' → Rel K O A' B' σ H' ρ' st' T → Walks K J A' B' xs → R J H'
def off (sl : List Nat) (σ σ' : L2.St) : Prop := σ'.length = σ.length ∧ ∀ (j : Nat), j ∉ sl → σ'[j]? = σ[j]?
def tG (t : Tg) : TG := fun v σ H Q => ∃ O A B ρ st T d ρ' st', Rel K O A B σ H ρ st T ∧ Ho K A B v d ∧ evTg F t d ρ st = some (ρ', st') ∧ ∀ σ' A' B' H', Px A A' → Ex B B' → off t.slots σ σ' → Rel K O A' B' σ' H' ρ' st' T → Q σ' H'
def tGs (t : Tgs) : TGs := fun vs σ H Q => ∃ O A B ρ st T ds ρ' st', Rel K O A B σ H ρ st T ∧ HoL K A B vs ds ∧ evTgs F t ds ρ st = some (ρ', st') ∧ ∀ σ' A' B' H', Px A A' → Ex B B' → off t.slots σ σ' → Rel K O A' B' σ' H' ρ' st' T → Q σ' H'
def SPost (O : Org) (T : List (Addr × List D)) (A : List Addr) (B : Hp) (D : Ends) (ρ' : Env) (st' : Sto) : Fl → Prop
  | .nx => ∀ σ' A' B' H', Px A A' → Ex B B' → Rel K O A' B' σ' H' ρ' st' T → D.nx σ' H'
  | .bk => ∀ σ' A' B' H', Px A A' → Ex B B' → Rel K O A' B' σ' H' ρ' st' T → D.bk σ' H'
  | .ct => ∀ σ' A' B' H', Px A A' → Ex B B' → Rel K O A' B' σ' H' ρ' st' T → D.ct σ' H'
  | .rt fr d => ∀ v σ' A' B' H', Px A A' → Ex B B' → EPost K O σ' T ρ' st' fr d v A' B' H' → D.rt v H'
def tS (s : S) : TS := fun D σ H => ∃ O A B ρ st T f ρ' st', Rel K O A B σ H ρ st T ∧ exS F s ρ st = some (f, ρ', st') ∧ SPost K O T A B D ρ' st' f
def tSs (s : Ss) : TS := fun D σ H => ∃ O A B ρ st T f ρ' st', Rel K O A B σ H ρ st T ∧ exSs F s ρ st = some (f, ρ', st') ∧ SPost K O T A B D ρ' st' f
end

/-! ### weaker readings -/
section
variable {X : Cx}
theorem _root_.L2.PE.imp {e : Expr} {t t' : TE} (h : PE X e t) (i : ∀ σ H Q, t' σ H Q → t σ H Q) : PE X e t' := ⟨fun pins s σ H Q I hw => h.run pins s σ H Q I (i σ H Q hw)⟩
theorem _root_.L2.PT.imp {e : Expr} {t t' : TT} (h : PT X e t) (i : ∀ σ H Q, t' σ H Q → t σ H Q) : PT X e t' := ⟨fun pins s σ H Q I hw => h.run pins s σ H Q I (i σ H Q hw)⟩
theorem _root_.L2.PW.imp {e : Expr} {t t' : TT} (h : PW X e t) (i : ∀ σ H Q, t' σ H Q → t σ H Q) : PW X e t' := ⟨fun wh pins s σ H Q I hw => h.run wh pins s σ H Q I (i σ H Q hw)⟩
theorem _root_.L2.PA.imp {e : List Expr} {t t' : TA} (h : PA X e t) (i : ∀ σ H Q, t' σ H Q → t σ H Q) : PA X e t' := ⟨fun pos pins s σ H Q I hw => h.run pos pins s σ H Q I (i σ H Q hw)⟩
theorem _root_.L2.PO.imp {e : Option Expr} {t t' : TO} (h : PO X e t) (i : ∀ σ H Q, t' σ H Q → t σ H Q) : PO X e t' := ⟨fun pins s σ H Q I hw => h.run pins s σ H Q I (i σ H Q hw)⟩
theorem _root_.L2.PI.imp {tg e : Expr} {t t' : TI} (h : PI X tg e t) (i : ∀ σ H Q, t' σ H Q → t σ H Q) : PI X tg e t' := ⟨fun pins s σ H Q I hw => h.run pins s σ H Q I (i σ H Q hw)⟩
theorem _root_.L2.PTs.imp {e : List Expr} {t t' : TT} (h : PTs X e t) (i : ∀ σ H Q, t' σ H Q → t σ H Q) : PTs X e t' := ⟨fun pins s σ H Q I hw => h.run pins s σ H Q I (i σ H Q hw)⟩
theorem _root_.L2.PS.imp {e : Stmt} {t t' : TS} (h : PS X e t) (i : ∀ D σ H, t' D σ H → t D σ H) : PS X e t' := ⟨fun pins s σ H D I hw => h.run pins s σ H D I (i D σ H hw)⟩
theorem _root_.L2.PSs.imp {e : List Stmt} {t t' : TS} (h : PSs X e t) (i : ∀ D σ H, t' D σ H → t D σ H) : PSs X e t' := ⟨fun pins s σ H D I hw => h.run pins s σ H D I (i D σ H hw)⟩
theorem _root_.L2.PG.imp {e : Expr} {t t' : TG} (h : PG X e t) (i : ∀ v σ H Q, t' v σ H Q → t v σ H Q) : PG X e t' := ⟨fun pins s σ H v u Q I r hw => h.run pins s σ H v u Q I r (i v σ H Q hw)⟩
theorem _root_.L2.PGs.imp {e : List Expr} {t t' : TGs} (h : PGs X e t) (i : ∀ v σ H Q, t' v σ H Q → t v σ H Q) : PGs X e t' := ⟨fun pins s σ H v u Q I r hw => h.run pins s σ H v u Q I r (i v σ H Q hw)⟩
end
end Pv

namespace Pv
open PySem PySem.Spec PyProof.Rows L2

theorem lim_le {n : Nat} (h : n ≤ lim) : n ≤ sizeLine := by
  rw [sizeLine_eq]; unfold lim at h; omega
theorem lim_lt {n : Nat} (h : n < lim) : n < sizeLine := by
  rw [sizeLine_eq]; unfold lim at h; omega
section
variable {K : PySem.W.Frag} {A : List Addr} {B H : Hp}
theorem Ho.lstH {a : Addr} {xs : List D} (e : Ex B H) (h : Ho K A B (.ref a) (.lst xs)) : ∃ vs, B a = some (.lst vs) ∧ H a = some (.lst vs) ∧ HoL K A B vs xs := by
  cases h with | lst h1 h2 => exact ⟨_, h1, e _ _ h1, h2⟩
theorem Ho.tupH {a : Addr} {xs : List D} (e : Ex B H) (h : Ho K A B (.ref a) (.tup xs)) : ∃ vs, SqT K H a vs ∧ HoL K A B vs xs := by
  cases h with | tup h1 h2 => exact ⟨_, ex_t e h1, h2⟩
theorem Ho.isLst {v : V} {xs : List D} (h : Ho K A B v (.lst xs)) : ∃ a, v = .ref a := by cases h; exact ⟨_, rfl⟩
theorem Ho.isTup {v : V} {xs : List D} (h : Ho K A B v (.tup xs)) : ∃ a, v = .ref a := by cases h; exact ⟨_, rfl⟩
theorem HoL.nil_iff {vs : List V} {ds : List D} (h : HoL K A B vs ds) : vs = [] ↔ ds = [] := by
  have := h.length
  constructor <;> intro z <;> subst z <;> simp at this
  · exact List.length_eq_zero_iff.mp this.symm
  · exact this
/-! ### data that is compared -/
mutual
def py : D → PyData
  | .non => .none
  | .bl b => .bool b
  | .int i => .int i
  | .str s => .str s
  | .tup xs => .tuple (pyL xs)
  | .lst xs => .list (pyL xs)
  | .scr _ => .none
  | .hd _ => .none
def pyL : List D → List PyData
  | [] => []
  | x :: xs => py x :: pyL xs
end
theorem all_cons_iff {α : Type} {p : α → Bool} {x : α} {xs : List α} : (x :: xs).all p = true ↔ p x = true ∧ xs.all p = true := by
  rw [List.all_cons, Bool.and_eq_true]
mutual
theorem Ho.dp (e : Ex B H) : ∀ (d : D) (n : Nat) {v : V}, Ho K A B v d → sh n d = true → Dp K H v (py d)
  | .non, _, _, h, _ => by cases h; exact .non
  | .bl b, _, _, h, _ => by cases h; exact .bl b
  | .int i, _, _, h, _ => by cases h; exact .int i
  | .str s, _, _, h, _ => by cases h; exact .str s
  | .tup xs, n, _, h, s => by
    cases n with
    | zero => simp [sh] at s
    | succ n => cases h with | tup h1 h2 => exact .tup (ex_t e h1) (HoL.dp e xs n h2 (by simpa [sh] using s))
  | .lst xs, n, _, h, s => by
    cases n with
    | zero => simp [sh] at s
    | succ n => cases h with | lst h1 h2 => exact .lst (SqL.of (e _ _ h1)) (HoL.dp e xs n h2 (by simpa [sh] using s))
  | .scr _, _, _, _, s => by simp [sh] at s
  | .hd _, _, _, _, s => by simp [sh] at s
theorem HoL.dp (e : Ex B H) : ∀ (ds : List D) (n : Nat) {vs : List V}, HoL K A B vs ds → (∀ d ∈ ds, sh n d = true) → DpAll K H vs (pyL ds)
  | [], _, _, h, _ => by cases h; exact .nil
  | d :: ds, n, _, h, s => by
    cases h with | cons h1 h2 => exact .cons (Ho.dp e d n h1 (s d List.mem_cons_self)) (HoL.dp e ds n h2 fun x hx => s x (List.mem_cons_of_mem _ hx))
end
mutual
theorem py_lay : ∀ (d : D) (n : Nat), sh n d = true → (py d).canLay0 = true ∧ (py d).depth ≤ n
  | .non, n, _ => ⟨rfl, Nat.zero_le _⟩
  | .bl _, n, _ => ⟨rfl, Nat.zero_le _⟩
  | .int _, n, _ => ⟨rfl, Nat.zero_le _⟩
  | .str s, n, h => ⟨by show (PyData.str s).canLay0 = true; simpa [sh] using h, Nat.zero_le _⟩
  | .tup xs, 0, h => by simp [sh] at h
  | .tup xs, n + 1, h => by
    have := pyL_lay xs n (by simpa [sh] using h)
    exact ⟨this.1, Nat.succ_le_succ this.2⟩
  | .lst xs, 0, h => by simp [sh] at h
  | .lst xs, n + 1, h => by
    have := pyL_lay xs n (by simpa [sh] using h)
    exact ⟨this.1, Nat.succ_le_succ this.2⟩
  | .scr _, _, h => by simp [sh] at h
  | .hd _, _, h => by simp [sh] at h
theorem pyL_lay : ∀ (ds : List D) (n : Nat), (∀ d ∈ ds, sh n d = true) → PyData.canLayAll0 (pyL ds) = true ∧ PyData.depthAll (pyL ds) ≤ n
  | [], n, _ => ⟨rfl, Nat.zero_le _⟩
  | d :: ds, n, h => by
    have h1 := py_lay d n (h d List.mem_cons_self)
    have h2 := pyL_lay ds n fun x hx => h x (List.mem_cons_of_mem _ hx)
    refine ⟨?_, Nat.max_le.mpr ⟨h1.2, h2.2⟩⟩
    show (PyData.canLay0 (py d) && PyData.canLayAll0 (pyL ds)) = true
    rw [h1.1, h2.1]; rfl
end
theorem py_shaped {d : D} {n : Nat} (h : sh n d = true) (hn : n ≤ 64) : SeqAt.shaped (py d) = true := by
  obtain ⟨h1, h2⟩ := py_lay d n h
  unfold SeqAt.shaped
  rw [h1, decide_eq_true (Nat.le_trans h2 hn)]; rfl
mutual
theorem py_eqv : ∀ (d e : D) (n m : Nat), sh n d = true → sh m e = true → PyData.eqv (py d) (py e) = eqv d e
  | .non, e, n, m, h1, h2 => by cases e <;> first | rfl | simp [sh] at h2
  | .bl _, e, n, m, h1, h2 => by cases e <;> first | rfl | simp [sh] at h2
  | .int _, e, n, m, h1, h2 => by cases e <;> first | rfl | simp [sh] at h2
  | .str _, e, n, m, h1, h2 => by cases e <;> first | rfl | simp [sh] at h2
  | .tup xs, e, n, m, h1, h2 => by
    cases n with
    | zero => simp [sh] at h1
    | succ n =>
      cases e with
      | tup ys =>
        cases m with
        | zero => simp [sh] at h2
        | succ m => exact pyL_eqv xs ys n m (by simpa [sh] using h1) (by simpa [sh] using h2)
      | _ => first | rfl | simp [sh] at h2
  | .lst xs, e, n, m, h1, h2 => by
    cases n with
    | zero => simp [sh] at h1
    | succ n =>
      cases e with
      | lst ys =>
        cases m with
        | zero => simp [sh] at h2
        | succ m => exact pyL_eqv xs ys n m (by simpa [sh] using h1) (by simpa [sh] using h2)
      | _ => first | rfl | simp [sh] at h2
  | .scr _, _, _, _, h1, _ => by simp [sh] at h1
  | .hd _, _, _, _, h1, _ => by simp [sh] at h1
theorem pyL_eqv : ∀ (ds es : List D) (n m : Nat), (∀ d ∈ ds, sh n d = true) → (∀ d ∈ es, sh m d = true) → PyData.eqvAll (pyL ds) (pyL es) = eqvL ds es
  | [], [], _, _, _, _ => rfl
  | [], _ :: _, _, _, _, _ => rfl
  | _ :: _, [], _, _, _, _ => rfl
  | d :: ds, e :: es, n, m, h1, h2 => by
    show (PyData.eqv (py d) (py e) && PyData.eqvAll (pyL ds) (pyL es)) = (eqv d e && eqvL ds es)
    rw [py_eqv d e n m (h1 d List.mem_cons_self) (h2 e List.mem_cons_self), pyL_eqv ds es n m (fun x hx => h1 x (List.mem_cons_of_mem _ hx)) fun x hx => h2 x (List.mem_cons_of_mem _ hx)]
end
theorem Ho.flatV {v : V} {d : D} (h : Ho K A B v d) (f : flat d = true) : L2.flatV v = true := by
  cases d <;> first | (cases h; rfl) | (simp [Pv.flat] at f)
theorem HoL.flatV {vs : List V} {ds : List D} (h : HoL K A B vs ds) (f : ds.all flat = true) : vs.all L2.flatV = true := by
  induction ds generalizing vs with
  | nil => cases h; rfl
  | cons d ds ih =>
    cases h with | cons h1 h2 =>
    rw [List.all_cons, Bool.and_eq_true] at f
    rw [List.all_cons, h1.flatV f.1, ih h2 f.2]; rfl
theorem Ho.eqV {v w : V} {d e : D} (h : Ho K A B v d) (h' : Ho K A B w e) (f : flat d = true) (f' : flat e = true) : L2.eqV v w = eqv d e := by
  cases d <;> first | (cases e <;> first | (cases h; cases h'; rfl) | (simp [Pv.flat] at f'; done)) | (simp [Pv.flat] at f; done)
end
end Pv

namespace Pv
open PySem PySem.Spec PyProof.Rows L2

section
variable {K : PySem.W.Frag} {O : Org} {A A' : List Addr} {B B' H H' : Hp} {σ : L2.St} {ρ : Env} {st : Sto} {T : List (Addr × List D)} {d : D} {v : V} {fr : Bool}
theorem EPost.val (R : Rel K O A B σ H ρ st T) (h : Ho K A B v d) : EPost K O σ T ρ st false d v A B H := by
  unfold EPost; rw [if_neg Bool.false_ne_true]; exact ⟨R, h⟩
theorem EPost.new {p : Addr} {vs : List V} {xs : List D} (R : Rel K O A B σ H ρ st T) (h : H p = none) (hv : HoL K A B vs xs) : EPost K O σ T ρ st true (.lst xs) (.ref p) A B (upd H p (.lst vs)) := by
  unfold EPost; rw [if_pos rfl]; exact ⟨p, xs, rfl, rfl, R.push h hv⟩
theorem EPost.tup {p : Addr} {vs : List V} {xs : List D} (R : Rel K O A B σ H ρ st T) (h : H p = none) (hv : HoL K A B vs xs) : EPost K O σ T ρ st false (.tup xs) (.ref p) A (upd B p (.tup vs)) (upd H p (.tup vs)) := by
  unfold EPost; rw [if_neg Bool.false_ne_true]
  exact ⟨R.new h, .tup (SqT.of upd_same) (hv.mono (Px.refl _) (Ex.new (R.bfresh h)))⟩
/-- a new list is frozen where none is wanted -/
theorem EPost.freeze (P : EPost K O σ T ρ st fr d v A B H) : ∃ B', Ex B B' ∧ Rel K O A B' σ H ρ st T ∧ Ho K A B' v d := by
  unfold EPost at P
  cases fr with
  | false =>
    rw [if_neg Bool.false_ne_true] at P
    exact ⟨B, Ex.refl _, P.1, P.2⟩
  | true =>
    rw [if_pos rfl] at P
    obtain ⟨a, xs, rfl, rfl, R⟩ := P
    obtain ⟨vs, R', h1, h2⟩ := R.freeze
    exact ⟨_, h2, R', h1⟩
end

/-! ## binary operators -/
def rD (K : PySem.W.Frag) (f : D → D → R1) : R2 := fun x y H Q => ∃ O A B σ ρ st T a b fr d, Rel K O A B σ H ρ st T ∧ Ho K A B x a ∧ Ho K A B y b ∧ f a b = some (fr, d) ∧
  ∀ v A' B' H', Px A A' → Ex B B' → EPost K O σ T ρ st fr d v A' B' H' → Q v H'
def rCm (K : PySem.W.Frag) (f : D → D → Option Bool) : R2 := fun x y H Q => ∃ A B a b t, Ex B H ∧ Ho K A B x a ∧ Ho K A B y b ∧ f a b = some t ∧ Q (.bl t) H
section
variable {X : Cx}
theorem CMulW_of {a b : Int} (ha : Big a) (hb : Big b) : CMulW a b := by
  unfold CMulW; unfold Big at ha hb; omega
theorem opR_add : OpR X (binaryOp .Add) (rD X.K addD) := by
  intro pins s σ H x y v u Q I rx ry h
  obtain ⟨O, A, B, σ', ρ, st, T, a, b, fr, d, R, hx, hy, e, q⟩ := h
  cases a with
  | int i =>
    cases b with
    | int j =>
      cases hx; cases hy; cases e
      exact op_add pins s σ H _ _ v u Q I rx ry ⟨i, j, rfl, rfl, q _ _ _ _ (Px.refl _) (Ex.refl _) (.val R (.int _))⟩
    | _ => cases e
  | str i =>
    cases b with
    | str j =>
      cases hx; cases hy
      simp only [addD] at e
      split at e
      · rename_i hl
        cases e
        exact op_add_str pins s σ H _ _ v u Q I rx ry ⟨i, j, rfl, rfl, lim_le hl, q _ _ _ _ (Px.refl _) (Ex.refl _) (.val R (.str _))⟩
      · cases e
    | _ => cases e
  | lst xs =>
    cases b with
    | lst ys =>
      simp only [addD] at e
      split at e
      · rename_i hl
        cases e
        obtain ⟨a1, rfl⟩ := hx.isLst
        obtain ⟨b1, rfl⟩ := hy.isLst
        obtain ⟨vs, _, h1, h2⟩ := hx.lstH R.ex
        obtain ⟨ws, _, h3, h4⟩ := hy.lstH R.ex
        refine op_cat pins s σ H _ _ v u Q I rx ry ⟨a1, b1, vs, ws, rfl, rfl, h1, h3, by rw [h2.length, h4.length]; exact lim_le hl, fun p hp => q _ _ _ _ (Px.refl _) (Ex.refl _) (.new R hp (h2.append h4))⟩
      · cases e
    | _ => cases e
  | tup xs =>
    cases b with
    | tup ys =>
      simp only [addD] at e
      split at e
      · rename_i hl
        cases e
        obtain ⟨a1, rfl⟩ := hx.isTup
        obtain ⟨b1, rfl⟩ := hy.isTup
        obtain ⟨vs, h1, h2⟩ := hx.tupH R.ex
        obtain ⟨ws, h3, h4⟩ := hy.tupH R.ex
        refine op_catA pins s σ H _ _ v u Q I rx ry ⟨a1, b1, vs, ws, rfl, rfl, h1, h3, by rw [h2.length, h4.length]; exact lim_le hl, fun z => ?_, fun _ z => ?_, fun _ _ p hp => q _ _ _ _ (Px.refl _) (Ex.new (R.bfresh hp)) (.tup R hp (h2.append h4))⟩
        · have z' := h2.nil_iff.mp z
          subst z'
          exact q _ _ _ _ (Px.refl _) (Ex.refl _) (.val R hy)
        · have z' := h4.nil_iff.mp z
          subst z'
          exact q _ _ _ _ (Px.refl _) (Ex.refl _) (.val R (by rw [List.append_nil]; exact hx))
      · cases e
    | _ => cases e
  | _ => cases b <;> cases e

/-! ### tuple * int -/
theorem mul_same (l : Addr) (items : Array Value) (n : Nat) (dd : Option Addr) (sl : Array (Option Value)) (x : Int) (u : Tok) (g0 : (decide (x < -(2 ^ 63)) || decide (x ≥ 2 ^ 63)) = false) (g1 : (items.isEmpty || x == 1) = true) :
    Meets (Builtin.«tuple.__mul__» ⟨[.ref l, .int x u], []⟩) (fun _ R s => s.heap.get? l = some { cls := .type "tuple", dict := dd, data := .seq items n, slots := sl } ∧ R (.ok (.ret (Value.ref l))) s) :=
  .of_wp fun prog w A R s h => by
    obtain ⟨hp, g, d, tk, os⟩ := s
    obtain ⟨hl, h⟩ := h
    have f1 := AutoSeq1.idx_int
    wp_walk using wpAny_loadPart' hl
    refine wpAny_ite_false (decide_eq_false (by rw [g0]; exact Bool.false_ne_true)) ?_
    wp_walk using wpAny_loadPart' hl
    exact ⟨_, rfl, h⟩
theorem mul_nothing (l : Addr) (items : Array Value) (n : Nat) (dd : Option Addr) (sl : Array (Option Value)) (x : Int) (u : Tok) (g0 : (decide (x < -(2 ^ 63)) || decide (x ≥ 2 ^ 63)) = false) (g1 : (items.isEmpty || x == 1) = false) (g2 : (decide (x ≤ 0) || items.isEmpty) = true) :
    Meets (Builtin.«tuple.__mul__» ⟨[.ref l, .int x u], []⟩) (fun _ R s => s.heap.get? l = some { cls := .type "tuple", dict := dd, data := .seq items n, slots := sl } ∧
      R (.ok (.ret (Value.ref s.heap.objs.size))) { s with heap := s.heap.push { cls := Value.type "tuple", data := Data.seq #[] }, toks := s.toks }) :=
  .of_wp fun prog w A R s h => by
    obtain ⟨hp, g, d, tk, os⟩ := s
    obtain ⟨hl, h⟩ := h
    have f1 := AutoSeq1.idx_int
    wp_walk using wpAny_loadPart' hl
    refine wpAny_ite_false (decide_eq_false (by simp only [g0]; decide)) ?_
    wp_walk using wpAny_loadPart' hl
    exact ⟨_, rfl, h⟩
theorem flat_size (its : List Value) (m : Nat) : (List.replicate m its).flatten.length = m * its.length := by
  induction m with
  | zero => simp
  | succ m ih => rw [List.replicate_succ, List.flatten_cons, List.length_append, ih, Nat.succ_mul, Nat.add_comm]
theorem opR_mul : OpR X (binaryOp .Mult) (rD X.K mulD) := by
  intro pins s σ H x y v u Q I rx ry h
  obtain ⟨O, A, B, σ', ρ, st, T, a, b, fr, d, R, hx, hy, e, q⟩ := h
  cases a with
  | int i =>
    cases b with
    | int j =>
      cases hx; cases hy
      simp only [mulD] at e
      split at e
      · rename_i hl
        cases e
        exact op_mulW pins s σ H _ _ v u Q I rx ry ⟨i, j, rfl, rfl, CMulW_of hl.1 hl.2, q _ _ _ _ (Px.refl _) (Ex.refl _) (.val R (.int _))⟩
      · cases e
    | _ => cases e
  | lst xs =>
    cases b with
    | int k =>
      simp only [mulD] at e
      split at e
      · rename_i hl
        obtain ⟨h1, h2, h3⟩ := hl
        cases e
        obtain ⟨a1, rfl⟩ := hx.isLst
        cases hy
        obtain ⟨vs, _, g1, g2⟩ := hx.lstH R.ex
        exact op_rep pins s σ H _ _ v u Q I rx ry ⟨a1, k, vs, rfl, rfl, g1, by omega, by omega, by rw [g2.length]; exact lim_le h3, fun p hp => q _ _ _ _ (Px.refl _) (Ex.refl _) (.new R hp (g2.replicate _))⟩
      · cases e
    | _ => cases e
  | tup xs =>
    cases b with
    | int k =>
      simp only [mulD] at e
      split at e
      · rename_i hl
        obtain ⟨b1, b2, b3⟩ := hl
        cases e
        obtain ⟨a1, rfl⟩ := hx.isTup
        cases hy
        obtain ⟨vs, g1, g2⟩ := hx.tupH R.ex
        cases rx
        obtain ⟨t, rfl⟩ := ry
        obtain ⟨its, r, ⟨⟨cls, dd, data, sl⟩, ho, hc, n, hd⟩, hs⟩ := I.tuple g1
        simp only at hc hd
        subst hc hd
        have hle : its.length = xs.length := by rw [← g2.length]; exact r.length.symm
        have c0 : (decide (k < -(2 ^ 63)) || decide (k ≥ 2 ^ 63)) = false := by
          rw [Bool.or_eq_false_iff]; exact ⟨decide_eq_false (by omega), decide_eq_false (by omega)⟩
        -- the road to the method
        refine wpAny_binaryOp_repeat_ref (T := "tuple") (U := "int") (by decide) ⟨_, ho, rfl⟩ (fun s' => typeIs_int s' k t) noFill_tuple_mul F.fills_int_mul F.slot_int_rmul repeat_tuple F.slot_int_index.lookup
          (call_meets F.slot_int_rmul (typeIs_int s k t) F.entry_int_rmul (F.args_int_rmul_2 _ _) (int_rmul_tuple k t a1 its.toArray n dd sl) ⟨ho, rfl, ⟨_, ho, rfl⟩, ?_⟩)
        by_cases c1 : (its.toArray.isEmpty || k == 1) = true
        · refine call_meets F.slot_tuple_mul ⟨_, ho, rfl⟩ F.entry_tuple_mul (F.args_tuple_mul_2 _ _) (mul_same a1 its.toArray n dd sl k t c0 c1) ⟨ho, ?_⟩
          refine ⟨.ref a1, H, I, rfl, q _ _ _ _ (Px.refl _) (Ex.refl _) (.val R ?_)⟩
          rw [Bool.or_eq_true] at c1
          rcases c1 with c1 | c1
          · have : its = [] := by simpa using c1
            rw [this] at hle
            have : xs = [] := List.length_eq_zero_iff.mp hle.symm
            subst this
            simpa using hx
          · have : k = 1 := by simpa using c1
            subst this
            simpa using hx
        · have c1 : (its.toArray.isEmpty || k == 1) = false := by simpa using c1
          by_cases c2 : (decide (k ≤ 0) || its.toArray.isEmpty) = true
          · refine call_meets F.slot_tuple_mul ⟨_, ho, rfl⟩ F.entry_tuple_mul (F.args_tuple_mul_2 _ _) (mul_nothing a1 its.toArray n dd sl k t c0 c1 c2) ⟨ho, ?_⟩
            have k0 : k ≤ 0 := by
              rw [Bool.or_eq_true] at c2
              rw [Bool.or_eq_false_iff] at c1
              rcases c2 with c2 | c2
              · exact of_decide_eq_true c2
              · rw [c1.1] at c2; cases c2
            have e0 : (List.replicate k.toNat xs).flatten = [] := by
              rw [show k.toNat = 0 by omega]; rfl
            have hn : H s.heap.objs.size = none := I.hok.fresh (Nat.le_refl _)
            refine ⟨.ref s.heap.objs.size, _, I.laid (t' := s.toks) (o := .tup []) (fun b ob q => Heap.get?_push_of_some _ q) (Nat.le_refl _) ?_, rfl, q _ A _ _ (Px.refl _) (Ex.new (R.bfresh hn)) (by rw [e0]; exact .tup R hn .nil)⟩
            exact ⟨Nat.zero_le _, [], .nil, IsTup.new _ _⟩
          · have c2 : (decide (k ≤ 0) || its.toArray.isEmpty) = false := by simpa using c2
            have k1 : 0 < k := by
              rw [Bool.or_eq_false_iff] at c2
              have := of_decide_eq_false c2.1
              omega
            have hsz0 : its.toArray.size = xs.length := by rw [List.size_toArray, hle]
            have hmul : ((its.toArray.size : Nat) : Int) * k ≤ 16000000 := by
              have b3' : xs.length * k.toNat ≤ 16000000 := b3
              have ek : k = ((k.toNat : Nat) : Int) := by omega
              rw [hsz0, ek, ← Int.natCast_mul]
              exact Int.ofNat_le.mpr b3'
            have flen : (List.replicate k.toNat its).flatten.length ≤ sizeLine := by
              rw [flat_size, hle, Nat.mul_comm]; exact lim_le b3
            have c4 : Builtin.Tuple.tupleTooMany (((its.toArray.size : Nat) : Int) * k) = false := by
              unfold Builtin.Tuple.tupleTooMany
              rw [sizeLine_eq]
              exact decide_eq_false (by omega)
            refine call_meets F.slot_tuple_mul ⟨_, ho, rfl⟩ F.entry_tuple_mul (F.args_tuple_mul_2 _ _) (tuple_mulW a1 its.toArray n dd sl k t c0 c1 c2 (by omega) c4 (by rw [size_rep, List.size_toArray]; exact flen)) ⟨ho, ?_⟩
            rw [size_rep]
            have hn : H s.heap.objs.size = none := I.hok.fresh (Nat.le_refl _)
            refine ⟨.ref s.heap.objs.size, _, I.laid (t' := s.toks) (o := .tup (List.replicate k.toNat vs).flatten) (fun b ob q => Heap.get?_push_of_some _ q) (Nat.le_refl _) ?_, rfl, q _ A _ _ (Px.refl _) (Ex.new (R.bfresh hn)) (.tup R hn (g2.replicate _))⟩
            exact ⟨by rw [(r.rep k.toNat).length]; exact flen, _, r.rep k.toNat, IsTup.new _ _⟩
      · cases e
    | _ => cases e
  | _ => cases b <;> cases e
theorem opR_all (o : Operator) : OpR X (binaryOp o) (rD X.K (opD o)) := by
  cases o with
  | Add => exact opR_add
  | Mult => exact opR_mul
  | Sub =>
    intro pins s σ H x y v u Q I rx ry h
    obtain ⟨O, A, B, σ', ρ, st, T, a, b, fr, d, R, hx, hy, e, q⟩ := h
    cases a with
    | int i =>
      cases b with
      | int j =>
        cases hx; cases hy; cases e
        exact op_sub pins s σ H _ _ v u Q I rx ry ⟨i, j, rfl, rfl, q _ _ _ _ (Px.refl _) (Ex.refl _) (.val R (.int _))⟩
      | _ => cases e
    | _ => cases b <;> cases e
  | FloorDiv =>
    intro pins s σ H x y v u Q I rx ry h
    obtain ⟨O, A, B, σ', ρ, st, T, a, b, fr, d, R, hx, hy, e, q⟩ := h
    cases a with
    | int i =>
      cases b with
      | int j =>
        cases hx; cases hy
        simp only [opD] at e
        split at e
        · rename_i hl
          cases e
          exact op_fdivW pins s σ H _ _ v u Q I rx ry ⟨i, j, rfl, rfl, hl, q _ _ _ _ (Px.refl _) (Ex.refl _) (.val R (.int _))⟩
        · cases e
      | _ => cases e
    | _ => cases b <;> cases e
  | Mod =>
    intro pins s σ H x y v u Q I rx ry h
    obtain ⟨O, A, B, σ', ρ, st, T, a, b, fr, d, R, hx, hy, e, q⟩ := h
    cases a with
    | int i =>
      cases b with
      | int j =>
        cases hx; cases hy
        simp only [opD] at e
        split at e
        · rename_i hl
          cases e
          exact op_mod pins s σ H _ _ v u Q I rx ry ⟨i, j, rfl, rfl, hl, q _ _ _ _ (Px.refl _) (Ex.refl _) (.val R (.int _))⟩
        · cases e
      | _ => cases e
    | _ => cases b <;> cases e
  | Pow =>
    intro pins s σ H x y v u Q I rx ry h
    obtain ⟨O, A, B, σ', ρ, st, T, a, b, fr, d, R, hx, hy, e, q⟩ := h
    cases a with
    | int i =>
      cases b with
      | int j =>
        cases hx; cases hy
        simp only [opD] at e
        split at e
        · rename_i hl
          cases e
          refine op_pow pins s σ H _ _ v u Q I rx ry ⟨i, j, rfl, rfl, ⟨hl.1, hl.2.1, by have := hl.2.2; omega⟩, q _ _ _ _ (Px.refl _) (Ex.refl _) (.val R (.int _))⟩
        · cases e
      | _ => cases e
    | _ => cases b <;> cases e
  | _ =>
    intro pins s σ H x y v u Q I rx ry h
    obtain ⟨O, A, B, σ', ρ, st, T, a, b, fr, d, R, hx, hy, e, q⟩ := h
    cases a <;> cases b <;> cases e
end
end Pv

namespace Pv
open PySem PySem.Spec PyProof.Rows L2

/-! ## comparisons -/
section
variable {X : Cx}
theorem ho_non {K : PySem.W.Frag} {A : List Addr} {B : Hp} {x : V} {a : D} (h : Ho K A B x a) : decide (x = V.non) = (match a with | .non => true | _ => false) := by
  cases h <;> simp
theorem is_bl_other {x : V} {v : Value} {b : Bool} (r : RelV x v) (hx : ∀ c, x ≠ .bl c) (hf : ∀ f, x ≠ .flt f) : plainIs v (.bool b) = true ∧ v ≠ .bool b := by
  cases x with
  | bl c => exact absurd rfl (hx c)
  | non => cases r; exact ⟨rfl, by simp⟩
  | int i => obtain ⟨t, rfl⟩ := r; exact ⟨rfl, by simp⟩
  | str i => obtain ⟨t, rfl⟩ := r; exact ⟨rfl, by simp⟩
  | byt i => obtain ⟨t, rfl⟩ := r; exact ⟨rfl, by simp⟩
  | flt i => obtain ⟨t, rfl⟩ := r; exact ⟨rfl, by simp⟩
  | ref i => cases r; exact ⟨rfl, by simp⟩
  | ty i => cases r; exact ⟨rfl, by simp⟩
theorem ho_notbl {K : PySem.W.Frag} {A : List Addr} {B : Hp} {x : V} {a : D} (h : Ho K A B x a) (ha : ∀ c, a ≠ .bl c) : ∀ c, x ≠ .bl c := by
  intro c e; subst e; cases h; exact ha _ rfl
theorem ho_notflt {K : PySem.W.Frag} {A : List Addr} {B : Hp} {x : V} {a : D} (h : Ho K A B x a) : ∀ c, x ≠ .flt c := by
  intro c e; subst e; cases h
theorem inV_of {K : PySem.W.Frag} {A : List Addr} {B : Hp} {x : V} {a : D} {vs : List V} {ds : List D} (h : Ho K A B x a) (fa : flat a = true) (hl : HoL K A B vs ds) (fl : ds.all flat = true) : inV x vs = ds.any fun y => eqv y a := by
  unfold inV
  induction ds generalizing vs with
  | nil => cases hl; rfl
  | cons d ds ih =>
    cases hl with | cons h1 h2 =>
    rw [all_cons_iff] at fl
    rw [List.any_cons, List.any_cons, ih h2 fl.2, h1.eqV h fl.1 fa]
theorem opR_cmp (o : CmpOp) (hu : X.A.units + 64 < cLine) : OpR X (compareOp o) (rCm X.K (cmpD o)) := by
  intro pins s σ H x y v u Q I rx ry h
  obtain ⟨A, B, a, b, t, ex, hx, hy, e, q⟩ := h
  have isq : ∀ neg : Bool, ((seqOf b).bind (inD a)) = some (if neg then !t else t) → rIn X.K neg x y H Q := fun neg e => by
    cases b with
    | lst ys =>
      obtain ⟨p, rfl⟩ := hy.isLst
      obtain ⟨vs, _, h1, h2⟩ := hy.lstH ex
      simp only [seqOf, Option.bind_some, inD] at e
      split at e
      · rename_i f
        rw [Bool.and_eq_true] at f
        refine ⟨p, vs, rfl, .inl (SqL.of h1), hx.flatV f.1, h2.flatV f.2, ?_⟩
        rw [inV_of hx f.1 h2 f.2, Option.some.inj e]
        cases neg <;> simpa using q
      · cases e
    | tup ys =>
      obtain ⟨p, rfl⟩ := hy.isTup
      obtain ⟨vs, h1, h2⟩ := hy.tupH ex
      simp only [seqOf, Option.bind_some, inD] at e
      split at e
      · rename_i f
        rw [Bool.and_eq_true] at f
        refine ⟨p, vs, rfl, .inr h1, hx.flatV f.1, h2.flatV f.2, ?_⟩
        rw [inV_of hx f.1 h2 f.2, Option.some.inj e]
        cases neg <;> simpa using q
      · cases e
    | _ => cases e
  cases o with
  | Lt =>
    cases a <;> cases b <;> first
      | (cases hx; cases hy; cases e; exact op_lt pins s σ H _ _ v u Q I rx ry ⟨_, _, rfl, rfl, q⟩)
      | cases e
  | LtE =>
    cases a <;> cases b <;> first
      | (cases hx; cases hy; cases e; exact op_le pins s σ H _ _ v u Q I rx ry ⟨_, _, rfl, rfl, q⟩)
      | cases e
  | Gt =>
    cases a <;> cases b <;> first
      | (cases hx; cases hy; cases e; exact op_gt pins s σ H _ _ v u Q I rx ry ⟨_, _, rfl, rfl, q⟩)
      | cases e
  | GtE =>
    cases a <;> cases b <;> first
      | (cases hx; cases hy; cases e; exact op_ge pins s σ H _ _ v u Q I rx ry ⟨_, _, rfl, rfl, q⟩)
      | cases e
  | Eq =>
    simp only [cmpD] at e
    split at e
    · rename_i f
      rw [Bool.and_eq_true] at f
      cases e
      exact op_eqD hu pins s σ H x y v u Q I rx ry ⟨_, _, hx.dp ex _ _ f.1, hy.dp ex _ _ f.2, py_shaped f.1 (by decide), py_shaped f.2 (by decide), by rw [py_eqv _ _ _ _ f.1 f.2]; exact q⟩
    · cases e
  | NotEq =>
    simp only [cmpD] at e
    split at e
    · rename_i f
      rw [Bool.and_eq_true] at f
      cases e
      exact op_neD hu pins s σ H x y v u Q I rx ry ⟨_, _, hx.dp ex _ _ f.1, hy.dp ex _ _ f.2, py_shaped f.1 (by decide), py_shaped f.2 (by decide), by rw [py_eqv _ _ _ _ f.1 f.2]; exact q⟩
    · cases e
  | Is =>
    cases b with
    | non =>
      cases hy
      have e' : t = decide (x = V.non) := by rw [ho_non hx]; cases a <;> (cases e; rfl)
      exact op_isN pins s σ H x _ v u Q I rx ry ⟨rfl, by rw [← e']; exact q⟩
    | bl c =>
      cases hy
      cases ry
      cases a with
      | bl d =>
        cases hx
        refine op_isBl pins s σ H (.bl d) (.bl c) v _ Q I rx rfl ⟨d, c, rfl, rfl, ?_⟩
        have e' : t = decide (d = c) := by cases e; cases d <;> cases c <;> rfl
        rw [← e']; exact q
      | _ =>
        obtain ⟨p1, p2⟩ := is_bl_other (b := c) rx (ho_notbl hx (by intro _ z; cases z)) (ho_notflt hx)
        cases e
        exact wpAny_is_other p1 p2 ⟨.bl false, H, I, rfl, q⟩
    | _ => cases e
  | IsNot =>
    cases b with
    | non =>
      cases hy
      have e' : t = !decide (x = V.non) := by rw [ho_non hx]; cases a <;> (cases e; rfl)
      exact op_notN pins s σ H x _ v u Q I rx ry ⟨rfl, by rw [← e']; exact q⟩
    | bl c =>
      cases hy
      cases ry
      cases a with
      | bl d =>
        cases hx
        refine op_notBl pins s σ H (.bl d) (.bl c) v _ Q I rx rfl ⟨d, c, rfl, rfl, ?_⟩
        have e' : t = !decide (d = c) := by cases e; cases d <;> cases c <;> rfl
        rw [← e']; exact q
      | _ =>
        obtain ⟨p1, p2⟩ := is_bl_other (b := c) rx (ho_notbl hx (by intro _ z; cases z)) (ho_notflt hx)
        cases e
        exact wpAny_isNot_other p1 p2 ⟨.bl true, H, I, rfl, q⟩
    | _ => cases e
  | In => exact op_in_seq pins s σ H x y v u Q I rx ry (isq false (by simpa [cmpD] using e))
  | NotIn =>
    refine op_notIn_seq pins s σ H x y v u Q I rx ry (isq true ?_)
    simp only [cmpD] at e
    cases z : (seqOf b).bind (inD a) with
    | none => rw [z] at e; cases e
    | some t' => rw [z] at e; cases e; simp

/-! ## items, slices -/
theorem atI_ho {K : PySem.W.Frag} {A : List Addr} {B : Hp} {vs : List V} {ds : List D} {i : Int} {d : D} (h : HoL K A B vs ds) (e : atI ds i = some d) : ∃ v, atI vs i = some v ∧ Ho K A B v d := by
  unfold atI at e ⊢
  rw [h.length]
  cases z : ixN ds.length i with
  | none => rw [z] at e; cases e
  | some j =>
    rw [z] at e
    obtain ⟨v, h1, h2⟩ := h.get e
    exact ⟨v, h1, h2⟩
/-- an item of what stands at x: from a frozen thing, or what a role holds -/
def rItem (K : PySem.W.Frag) : R2 := fun x y H Q => ∃ A B i, y = .int i ∧
  ((∃ p vs ds d, x = .ref p ∧ (SqL K H p vs ∨ SqT K H p vs) ∧ HoL K A B vs ds ∧ atI ds i = some d ∧ ∀ v, Ho K A B v d → Q v H) ∨
   (∃ s c, x = .str s ∧ s.length ≤ lim ∧ atI s.cps.toList i = some c ∧ Q (.str ⟨#[c]⟩) H))
theorem ixR_item : IxR X (rItem X.K) := by
  intro value slice pins s σ H x y v u Q I rx ry h hs
  obtain ⟨A, B, i, rfl, h⟩ := h
  rcases h with ⟨p, vs, ds, d, rfl, hq, hl, e, q⟩ | ⟨z, c, rfl, hz, e, q⟩
  · obtain ⟨w, e1, e2⟩ := atI_ho hl e
    rcases hq with hq | hq
    · exact ix_list value slice pins s σ H _ _ v u Q I rx ry ⟨p, vs, i, w, rfl, rfl, hq, e1, q w e2⟩ hs
    · exact ix_tup value slice pins s σ H _ _ v u Q I rx ry ⟨p, vs, i, w, rfl, rfl, hq, e1, q w e2⟩ hs
  · exact ix_str value slice pins s σ H _ _ v u Q I rx ry ⟨z, i, c, rfl, rfl, lim_le hz, e, q⟩ hs
theorem cut_ho {K : PySem.W.Frag} {A : List Addr} {B : Hp} {vs : List V} {ds : List D} (h : HoL K A B vs ds) (lo hi : Option Int) : HoL K A B (cutV vs lo hi) (cutD ds lo hi) := by
  unfold cutV cutD
  rw [h.length]
  exact (h.drop _).take _
theorem cut_ints {K : PySem.W.Frag} {A : List Addr} {B : Hp} (ns : List Int) (lo hi : Option Int) : HoL K A B (cutV (ns.map V.int) lo hi) ((cutI ns lo hi).map D.int) := by
  unfold cutV cutI
  rw [List.length_map, ← List.map_drop, ← List.map_take]
  exact HoL.of_ints
def rSl (K : PySem.W.Frag) : V → Option Int → Option Int → Hp → VK → Prop := fun x lo hi H Q => ∃ O A B σ ρ st T a fr d, Rel K O A B σ H ρ st T ∧ Ho K A B x a ∧ slD a lo hi = some (fr, d) ∧
  ∀ v A' B' H', Px A A' → Ex B B' → EPost K O σ T ρ st fr d v A' B' H' → Q v H'
theorem slR_all : SlR X (rSl X.K) := by
  intro pins s σ H x v vl vu lo hi sl Q I rx hs pl pu h
  obtain ⟨O, A, B, σ', ρ, st, T, a, fr, d, R, hx, e, q⟩ := h
  cases a with
  | lst xs =>
    cases e
    obtain ⟨p, rfl⟩ := hx.isLst
    obtain ⟨vs, _, h1, h2⟩ := hx.lstH R.ex
    exact sl_list pins s σ H _ v vl vu lo hi sl Q I rx hs pl pu ⟨p, vs, rfl, SqL.of h1, fun c hc => q _ _ _ _ (Px.refl _) (Ex.refl _) (.new R hc (cut_ho h2 lo hi))⟩
  | tup xs =>
    cases e
    obtain ⟨p, rfl⟩ := hx.isTup
    obtain ⟨vs, h1, h2⟩ := hx.tupH R.ex
    refine sl_tupA pins s σ H _ v vl vu lo hi sl Q I rx hs pl pu ⟨p, vs, rfl, h1, fun hw => q _ _ _ _ (Px.refl _) (Ex.refl _) (.val R ?_), fun _ c hc => q _ _ _ _ (Px.refl _) (Ex.new (R.bfresh hc)) (.tup R hc (cut_ho h2 lo hi))⟩
    rw [h2.length] at hw
    have e : cutD xs lo hi = xs := by
      unfold cutD
      rw [hw.1, hw.2]; simp
    rw [e]; exact hx
  | scr ns =>
    cases e
    cases hx with | scr h1 =>
    exact sl_list pins s σ H _ v vl vu lo hi sl Q I rx hs pl pu ⟨_, _, rfl, ex_l R.ex h1, fun c hc => q _ _ _ _ (Px.refl _) (Ex.refl _) (.new R hc (cut_ints ns lo hi))⟩
  | _ => cases e

/-! ## methods -/
def mtId : Mt → String
  | .append => "list.append" | .pop => "list.pop" | .popAt => "list.pop" | .extend => "list.extend"
def rMt (K : PySem.W.Frag) (m : Mt) : V → List V → Hp → VK → Prop := fun x xs H Q => ∃ A B a vs ys ds d ys', x = .ref a ∧ Ex B H ∧ B a = none ∧ H a = some (.lst vs) ∧ HoL K A B vs ys ∧ HoL K A B xs ds ∧ mtD m ys ds = some (d, ys') ∧
  ∀ v ws, Ho K A B v d → HoL K A B ws ys' → Q v (upd H a (.lst ws))
theorem mtR_all (m : Mt) : MtR X (mtId m) (rMt X.K m) := by
  intro pins s σ H x xs v us Q I rx rs h
  obtain ⟨A, B, a, vs, ys, ds, d, ys', rfl, ex, hb, ha, hv, hx, e, q⟩ := h
  have hsz : vs.length ≤ sizeLine := (I.lstM ha).1
  cases m with
  | append =>
    cases hx with
    | nil => cases e
    | cons h1 h2 =>
      cases h2 with
      | cons _ _ => cases e
      | nil =>
        simp only [mtD] at e
        split at e
        · rename_i hl
          cases e
          exact mt_append pins s σ H _ _ v us Q I rx rs ⟨a, vs, _, rfl, rfl, ha, by rw [hv.length]; exact lim_lt hl, q _ _ .non (hv.append (.cons h1 .nil))⟩
        · cases e
  | pop =>
    cases hx with
    | cons _ _ => cases e
    | nil =>
      simp only [mtD] at e
      cases z : ys[ys.length - 1]? with
      | none => rw [z] at e; cases e
      | some d' =>
        rw [z] at e; cases e
        obtain ⟨w, h1, h2⟩ := hv.get z
        exact mt_pop pins s σ H _ _ v us Q I rx rs ⟨a, vs, w, rfl, rfl, ha, by rw [hv.length]; exact h1, q _ _ h2 hv.dropLast⟩
  | popAt =>
    cases hx with
    | nil => cases e
    | cons h1 h2 =>
      cases h2 with
      | cons _ _ => cases h1 <;> cases e
      | nil =>
        cases h1 with
        | int i =>
          simp only [mtD] at e
          cases z : ixN ys.length i with
          | none => rw [z] at e; cases e
          | some k =>
            rw [z] at e
            simp only [Option.bind_some] at e
            cases z2 : ys[k]? with
            | none => rw [z2] at e; cases e
            | some d' =>
              rw [z2] at e; cases e
              obtain ⟨w, h3, h4⟩ := hv.get z2
              obtain ⟨k1, k2, k3, k4⟩ := ixN_seq z
              rw [sizeLine_eq] at hsz
              rw [← hv.length] at k1 k2 k3 k4
              exact mt_popAt pins s σ H _ _ v us Q I rx rs ⟨a, vs, i, k, w, rfl, rfl, ha, by omega, by omega, k1, h3, q _ _ h4 (hv.eraseIdx k)⟩
        | _ => cases e
  | extend =>
    cases hx with
    | nil => cases e
    | cons h1 h2 =>
      cases h2 with
      | cons _ _ => cases h1 <;> cases e
      | nil =>
        cases h1 with
        | lst hB hL =>
          simp only [mtD] at e
          split at e
          · rename_i hl
            cases e
            exact mt_extend pins s σ H _ _ v us Q I rx rs ⟨a, _, vs, _, rfl, rfl, ha, ex _ _ hB, by rw [hv.length, hL.length]; exact lim_le hl, q _ _ .non (hv.append hL)⟩
          · cases e
        | _ => cases e
/-! ## truth -/
theorem tru_ho {K : PySem.W.Frag} {A : List Addr} {B H : Hp} {x : V} {a : D} {t : Bool} (ex : Ex B H) (h : Ho K A B x a) (e : truD a = some t) : TruV K x H t := by
  cases a with
  | non => cases h; cases e; rfl
  | bl b => cases h; cases e; rfl
  | int i => cases h; cases e; rfl
  | str s =>
    cases h
    simp only [truD] at e
    split at e
    · rename_i hl
      cases e
      refine ⟨lim_le hl, ?_⟩
      cases s.length with
      | zero => rfl
      | succ n => 
        have h1 : (n + 1 != 0) = true := by simp
        have h2 : (((n + 1 : Nat) : Int) != 0) = true := by simp; omega
        rw [h1, h2]
    · cases e
  | lst xs =>
    obtain ⟨p, rfl⟩ := h.isLst
    obtain ⟨vs, _, h1, h2⟩ := h.lstH ex
    cases e
    refine .inl ⟨vs, SqL.of h1, ?_⟩
    cases h2 <;> rfl
  | tup xs =>
    obtain ⟨p, rfl⟩ := h.isTup
    obtain ⟨vs, h1, h2⟩ := h.tupH ex
    cases e
    refine .inr (.inl ⟨vs, h1, ?_⟩)
    cases h2 <;> rfl
  | _ => cases e
end
end Pv

namespace Pv
open PySem PySem.Spec PyProof.Rows L2
section
variable {X : Cx}
/-! ## built-in functions -/
def rBi (K : PySem.W.Frag) (b : Bi) : List V → Hp → VK → Prop := fun xs H Q => ∃ O A B σ ρ st T ds fr d, Rel K O A B σ H ρ st T ∧ HoL K A B xs ds ∧ biD st b ds = some (fr, d) ∧
  ∀ v A' B' H', Px A A' → Ex B B' → EPost K O σ T ρ st fr d v A' B' H' → Q v H'
theorem HoL.one {K : PySem.W.Frag} {A : List Addr} {B : Hp} {vs : List V} {d : D} (h : HoL K A B vs [d]) : ∃ v, vs = [v] ∧ Ho K A B v d := by
  cases h with | cons h1 h2 => cases h2; exact ⟨_, rfl, h1⟩
theorem HoL.two {K : PySem.W.Frag} {A : List Addr} {B : Hp} {vs : List V} {d e : D} (h : HoL K A B vs [d, e]) : ∃ v w, vs = [v, w] ∧ Ho K A B v d ∧ Ho K A B w e := by
  cases h with | cons h1 h2 => obtain ⟨w, rfl, h3⟩ := h2.one; exact ⟨_, w, rfl, h1, h3⟩
theorem intsOf_map : ∀ {ds : List D} {ns : List Int}, intsOf ds = some ns → ds = ns.map D.int
  | [], ns, h => by cases h; rfl
  | .int i :: ds, ns, h => by
    simp only [intsOf] at h
    cases z : intsOf ds with
    | none => rw [z] at h; cases h
    | some ms => rw [z] at h; cases h; rw [intsOf_map z]; rfl
  | .non :: _, _, h => by cases h
  | .bl _ :: _, _, h => by cases h
  | .str _ :: _, _, h => by cases h
  | .tup _ :: _, _, h => by cases h
  | .lst _ :: _, _, h => by cases h
  | .scr _ :: _, _, h => by cases h
  | .hd _ :: _, _, h => by cases h
theorem len_ho {K : PySem.W.Frag} {O : Org} {A : List Addr} {B H : Hp} {σ : L2.St} {ρ : Env} {st : Sto} {T : List (Addr × List D)} {x : V} {a : D} {n : Nat} (R : Rel K O A B σ H ρ st T) (h : Ho K A B x a) (e : lenD st a = some n) : LenV K x H n := by
  cases a with
  | str s =>
    cases h
    simp only [lenD] at e
    split at e
    · rename_i hl
      cases e; exact ⟨lim_le hl, rfl⟩
    · cases e
  | lst xs =>
    obtain ⟨p, rfl⟩ := h.isLst
    obtain ⟨vs, _, h1, h2⟩ := h.lstH R.ex
    cases e
    exact .inl ⟨vs, SqL.of h1, h2.length.symm⟩
  | tup xs =>
    obtain ⟨p, rfl⟩ := h.isTup
    obtain ⟨vs, h1, h2⟩ := h.tupH R.ex
    cases e
    exact .inr ⟨vs, h1, h2.length.symm⟩
  | hd m =>
    cases h with | hd ha =>
    simp only [lenD] at e
    cases z : st[m]? with
    | none => rw [z] at e; cases e
    | some ys =>
      rw [z] at e; cases e
      obtain ⟨a', e', _, vs, h1, h2⟩ := R.own (.h m) ys z
      simp only [adr] at e'
      rw [ha] at e'; cases e'
      exact .inl ⟨vs, SqL.of h1, h2.length.symm⟩
  | _ => cases e
def biVal : Bi → Value
  | .abs => .builtin "abs" | .int => .type "int" | .len => .builtin "len" | .sum => .builtin "sum" | .min2 => .builtin "min" | .max2 => .builtin "max" | .tuple => .type "tuple" | .list => .type "list" | .sorted => .builtin "sorted" | .min1 => .builtin "min" | .max1 => .builtin "max"
theorem callR_all (hc : X.calm = true) (b : Bi) : CallR X (biVal b) (rBi X.K b) := by
  intro pins s σ H xs us Q I r h
  obtain ⟨O, A, B, σ', ρ, st, T, ds, fr, d, R, hx, e, q⟩ := h
  have q0 := fun v h => q v A B H (Px.refl _) (Ex.refl _) h
  cases b with
  | abs =>
    match ds, hx, e with
    | [.int i], hx, e =>
      obtain ⟨v, rfl, h⟩ := hx.one
      cases h; cases e
      exact call_abs pins s σ H _ us Q I r ⟨i, rfl, q0 _ (.val R (.int _))⟩
  | int =>
    match ds, hx, e with
    | [.int i], hx, e =>
      obtain ⟨v, rfl, h⟩ := hx.one
      cases h; cases e
      exact call_int1 pins s σ H _ us Q I r (.inl ⟨i, rfl, q0 _ (.val R (.int _))⟩)
    | [.bl k], hx, e =>
      obtain ⟨v, rfl, h⟩ := hx.one
      cases h; cases e
      exact call_int1 pins s σ H _ us Q I r (.inr ⟨k, rfl, q0 _ (.val R (.int _))⟩)
  | len =>
    match ds, hx, e with
    | [x], hx, e =>
      obtain ⟨v, rfl, h⟩ := hx.one
      simp only [biD] at e
      cases z : lenD st x with
      | none => rw [z] at e; cases e
      | some n =>
        rw [z] at e; cases e
        exact call_len pins s σ H _ us Q I r ⟨v, n, rfl, len_ho R h z, q0 _ (.val R (.int _))⟩
  | sum =>
    match ds, hx, e with
    | [x], hx, e =>
      obtain ⟨v, rfl, h⟩ := hx.one
      cases x with
      | lst ys =>
        simp only [biD, seqOf, Option.bind_some] at e
        cases z : intsOf ys with
        | none => rw [z] at e; cases e
        | some ns =>
          rw [z] at e; cases e
          have z' := intsOf_map z
          subst z'
          obtain ⟨p, rfl⟩ := h.isLst
          obtain ⟨vs, _, h1, h2⟩ := h.lstH R.ex
          have := h2.ints
          subst this
          exact cr_sum hc pins s σ H _ us Q I r ⟨p, ns, rfl, SqL.of h1, q0 _ (.val R (.int _))⟩
      | tup ys =>
        simp only [biD, seqOf, Option.bind_some] at e
        cases z : intsOf ys with
        | none => rw [z] at e; cases e
        | some ns =>
          rw [z] at e; cases e
          have z' := intsOf_map z
          subst z'
          obtain ⟨p, rfl⟩ := h.isTup
          obtain ⟨vs, h1, h2⟩ := h.tupH R.ex
          have := h2.ints
          subst this
          exact cr_sumT hc pins s σ H _ us Q I r ⟨p, ns, rfl, h1, q0 _ (.val R (.int _))⟩
      | _ => cases e
  | min2 =>
    match ds, hx, e with
    | [.int i, .int j], hx, e =>
      obtain ⟨v, w, rfl, h, h'⟩ := hx.two
      cases h; cases h'; cases e
      exact call_min2 hc pins s σ H _ us Q I r ⟨i, j, rfl, q0 _ (.val R (.int _))⟩
  | max2 =>
    match ds, hx, e with
    | [.int i, .int j], hx, e =>
      obtain ⟨v, w, rfl, h, h'⟩ := hx.two
      cases h; cases h'; cases e
      exact call_max2 hc pins s σ H _ us Q I r ⟨i, j, rfl, q0 _ (.val R (.int _))⟩
  | tuple =>
    match ds, hx, e with
    | [.lst ys], hx, e =>
      obtain ⟨v, rfl, h⟩ := hx.one
      cases e
      obtain ⟨p, rfl⟩ := h.isLst
      obtain ⟨vs, _, h1, h2⟩ := h.lstH R.ex
      exact call_tuple_of pins s σ H _ us Q I r ⟨p, vs, rfl, .inl ⟨SqL.of h1, fun l hl => q _ _ _ _ (Px.refl _) (Ex.new (R.bfresh hl)) (.tup R hl h2)⟩⟩
    | [.tup ys], hx, e =>
      obtain ⟨v, rfl, h⟩ := hx.one
      cases e
      obtain ⟨p, rfl⟩ := h.isTup
      obtain ⟨vs, h1, h2⟩ := h.tupH R.ex
      exact call_tuple_of pins s σ H _ us Q I r ⟨p, vs, rfl, .inr ⟨h1, q0 _ (.val R h)⟩⟩
  | list =>
    match ds, hx, e with
    | [.lst ys], hx, e =>
      obtain ⟨v, rfl, h⟩ := hx.one
      cases e
      obtain ⟨p, rfl⟩ := h.isLst
      obtain ⟨vs, _, h1, h2⟩ := h.lstH R.ex
      exact call_list_of pins s σ H _ us Q I r ⟨p, vs, rfl, .inl (SqL.of h1), fun l hl => q _ _ _ _ (Px.refl _) (Ex.refl _) (.new R hl h2)⟩
    | [.tup ys], hx, e =>
      obtain ⟨v, rfl, h⟩ := hx.one
      cases e
      obtain ⟨p, rfl⟩ := h.isTup
      obtain ⟨vs, h1, h2⟩ := h.tupH R.ex
      exact call_list_of pins s σ H _ us Q I r ⟨p, vs, rfl, .inr h1, fun l hl => q _ _ _ _ (Px.refl _) (Ex.refl _) (.new R hl h2)⟩
  | sorted => cases e
  | min1 => cases e
  | max1 => cases e
end
end Pv

namespace Pv
open PySem PySem.Spec PyProof.Rows L2

theorem bindS {α β : Type} {o : Option α} {f : α → Option β} {r : β} (h : (o >>= f) = some r) : ∃ x, o = some x ∧ f x = some r := Option.bind_eq_some_iff.mp h
theorem mapS {α β : Type} {o : Option α} {f : α → β} {r : β} (h : o.map f = some r) : ∃ x, o = some x ∧ f x = r := Option.map_eq_some_iff.mp h
theorem upS {ρ ρ' : Env} {st st' : Sto} {r : R1} {fr : Bool} {d : D} (h : up ρ st r = some (fr, d, ρ', st')) : r = some (fr, d) ∧ ρ' = ρ ∧ st' = st := by
  cases r with
  | none => cases h
  | some p => obtain ⟨a, b⟩ := p; cases h; exact ⟨rfl, rfl, rfl⟩

section
variable {P : Program} {w : World} {K : PySem.W.Frag} {mg : Str → Option Value} {base : Heap} {k : Nat} {F : Tb} {C : SC} {X : Cx}
theorem vis_of {sc : Scope} {x : Str} (h : visB sc x = true) : Vis sc x := by
  unfold visB at h
  split at h
  · rename_i e; exact .inl e
  · rename_i e; exact .inr (.inl e)
  · rename_i e; exact .inr (.inr e)
  · cases h
theorem loc_of {sc : Scope} {x : Str} (h : locB sc x = true) : Loc sc x := by
  unfold locB at h
  split at h
  · rename_i e; exact .inl e
  · rename_i e; exact .inr e
  · cases h
theorem gl_of {sc : Scope} {x : Str} (h : glB sc x = true) : sc.names.lookup x = some .globalImplicit := by
  unfold glB at h
  split at h
  · rename_i e; exact e
  · cases h
theorem COk.gl (ok : COk P w K mg base k C X) {x : Str} (h : glB C.sc x = true) : Gl X x := by
  show X.env.scope.names.lookup x = some .globalImplicit
  rw [ok.sc]; exact gl_of h
theorem plain_of {x : Str} (h : plainName x = true) : (x == ("__debug__" : Str)) = false ∧ (x == ("__classdict__" : Str)) = false ∧ x ≠ "__name__" := by
  unfold plainName at h
  simp only [Bool.and_eq_true, Bool.not_eq_true'] at h
  refine ⟨h.1.1, h.1.2, fun e => ?_⟩
  rw [e] at h
  have := h.2
  simp at this
theorem COk.var (ok : COk P w K mg base k C X) {i : Nat} {x : Str} {pos : Pos} (h : C.var i x = true) : PE X (.Name x pos) (tVar i) := by
  unfold SC.var at h
  simp only [Bool.and_eq_true, decide_eq_true_eq] at h
  obtain ⟨h1, h2, _⟩ := plain_of h.2
  exact pe_var (by rw [ok.N]; exact h.1.1) (by rw [ok.sc]; exact vis_of h.1.2) h1 h2
/-! ### what a reading gives, new lists frozen -/
theorem tE_V {p : E} {σ : L2.St} {H : Hp} {Q : VK} {O : Org} {A : List Addr} {B : Hp} {ρ : Env} {st : Sto} {T : List (Addr × List D)} {d : D} {ρ' : Env} {st' : Sto} (R : Rel K O A B σ H ρ st T) (e : vv (evE F p ρ st) = some (d, ρ', st'))
    (q : ∀ v A' B' H', Px A A' → Ex B B' → Rel K O A' B' σ H' ρ' st' T → Ho K A' B' v d → Q v H') : tE K F p σ H Q := by
  obtain ⟨⟨fr, r⟩, e1, e2⟩ := mapS e
  cases e2
  refine ⟨O, A, B, ρ, st, T, fr, d, ρ', st', R, e1, fun v A' B' H' hA hB hp => ?_⟩
  obtain ⟨B'', h1, h2, h3⟩ := hp.freeze
  exact q v A' B'' H' hA (hB.trans h1) h2 h3
theorem Rel.sigma {O : Org} {A : List Addr} {B H : Hp} {σ : L2.St} {ρ : Env} {st : Sto} {T : List (Addr × List D)} (R : Rel K O A B σ H ρ st T) {i : Nat} {s : Sl} {ys : List D} (e : ρ[i]? = some s) (h : slotSeq st s = some ys) :
    ∃ a vs, σ[i]? = some (some (.ref a)) ∧ (SqL K H a vs ∨ SqT K H a vs) ∧ HoL K A B vs ys := by
  cases s with
  | no => cases h
  | own xs =>
    cases h
    obtain ⟨a, vs, h1, h2, h3, _⟩ := R.updSlot e
    exact ⟨a, vs, h1, .inl (SqL.of h2), h3⟩
  | val d =>
    obtain ⟨v, h1, h2⟩ := R.val i d e
    cases d with
    | lst xs =>
      cases h
      obtain ⟨a, rfl⟩ := h2.isLst
      obtain ⟨vs, _, h3, h4⟩ := h2.lstH R.ex
      exact ⟨a, vs, h1, .inl (SqL.of h3), h4⟩
    | tup xs =>
      cases h
      obtain ⟨a, rfl⟩ := h2.isTup
      obtain ⟨vs, h3, h4⟩ := h2.tupH R.ex
      exact ⟨a, vs, h1, .inr h3, h4⟩
    | hd n =>
      cases h2 with | hd ha =>
      obtain ⟨a', vs, e1, e2, e3, _⟩ := R.updH (n := n) (xs := ys) h
      rw [ha] at e1; cases e1
      exact ⟨_, vs, h1, .inl (SqL.of e2), e3⟩
    | _ => cases h

/-! ### the leaves -/
theorem sd_v (ok : COk P w K mg base k C X) {i : Nat} {x : Str} {pos : Pos} (h : C.var i x = true) : PE X (.Name x pos) (tE K F (.v i)) := by
  refine (ok.var h).imp fun σ H Q hq => ?_
  obtain ⟨O, A, B, ρ, st, T, fr, d, ρ', st', R, e, q⟩ := hq
  simp only [evE] at e
  cases z : ρ[i]? with
  | none => rw [z] at e; cases e
  | some s =>
    rw [z] at e
    cases s with
    | no => cases e
    | val d' =>
      cases e
      obtain ⟨v, h1, h2⟩ := R.val i _ z
      exact ⟨v, h1, q v A B H (Px.refl _) (Ex.refl _) (.val R h2)⟩
    | own xs =>
      cases e
      obtain ⟨a, B', h1, h2, h3, h4⟩ := R.freezeSlot z
      exact ⟨_, h1, q _ A B' H (Px.refl _) h4 (.val h2 h3)⟩
theorem sd_k {d : D} {c : Const} {j : Nat} {pos : Pos} (h : kB d c = true) : PE X (.Constant c j pos) (tE K F (.k d)) := by
  have key : ∀ v, PE X (.Constant c j pos) (L2.tC v) → (∀ A B, Ho K A B v d) → PE X (.Constant c j pos) (tE K F (.k d)) := fun v hp hv => hp.imp fun σ H Q hq => by
    obtain ⟨O, A, B, ρ, st, T, fr, d', ρ', st', R, e, q⟩ := hq
    simp only [evE] at e
    cases e
    exact q v A B H (Px.refl _) (Ex.refl _) (.val R (hv _ _))
  cases d with
  | non => cases c <;> first | exact key _ pe_non (fun _ _ => .non) | (cases h)
  | bl b => cases c <;> first | (cases h; done) | (simp only [kB, beq_iff_eq] at h; subst h; exact key _ pe_bl (fun _ _ => .bl _))
  | int b => cases c <;> first | (cases h; done) | (simp only [kB, beq_iff_eq] at h; subst h; exact key _ pe_int (fun _ _ => .int _))
  | str b => cases c <;> first | (cases h; done) | (simp only [kB, beq_iff_eq] at h; subst h; exact key _ pe_str (fun _ _ => .str _))
  | _ => cases c <;> cases h
theorem sd_g {gl : Str → Bool} {fp : Str → Bool} {kw : Str → Nat → List Str → List Nat → Bool} (G : GOk P w K mg base k F gl fp kw) (ok : COk P w K mg base k C X) {x : Str} {pos : Pos} (h1 : glB C.sc x = true) (h2 : gl x = true) (h3 : plainName x = true) : PE X (.Name x pos) (tE K F (.g x)) := by
  refine ⟨fun pins s σ H Q I hq => ?_⟩
  obtain ⟨O, A, B, ρ, st, T, fr, d, ρ', st', R, e, q⟩ := hq
  simp only [evE] at e
  obtain ⟨d', e1, e2⟩ := mapS e
  cases e2
  obtain ⟨u, v, m, r, hv⟩ := G.glob x _ h2 e1
  exact (pe_glob (pos := pos) (ok.gl h1) (by rw [ok.mg]; exact m) r (plain_of h3).1).run pins s σ H Q I (q v A B H (Px.refl _) (Ex.refl _) (.val R (hv _ _)))

/-! ### operators -/
theorem sd_op (ok : COk P w K mg base k C X) {o : Operator} {a b : Expr} {pa pb : E} {pos : Pos} (ha : PE X a (tE K F pa)) (hb : PE X b (tE K F pb)) : PE X (.BinOp a o b pos) (tE K F (.op o pa pb)) := by
  obtain rfl := ok.K
  refine (pe_op (opR_all o) ha hb).imp fun σ H Q hq => ?_
  obtain ⟨O, A, B, ρ, st, T, fr, d, ρ', st', R, e, q⟩ := hq
  simp only [evE] at e
  obtain ⟨⟨x, ρ1, st1⟩, e1, e⟩ := bindS e
  obtain ⟨⟨y, ρ2, st2⟩, e2, e⟩ := bindS e
  obtain ⟨e, rfl, rfl⟩ := upS e
  refine tE_V R e1 fun v A1 B1 H1 hA1 hB1 R1 h1 => ?_
  refine tE_V R1 e2 fun u A2 B2 H2 hA2 hB2 R2 h2 => ?_
  exact ⟨O, A2, B2, σ, _, _, T, x, y, fr, d, R2, h1.mono hA2 hB2, h2, e, fun v' A' B' H' hA hB hp => q v' A' B' H' ((hA1.trans hA2).trans hA) ((hB1.trans hB2).trans hB) hp⟩
theorem setB_in {o : CmpOp} {e : Expr} (h : setB e = false) : behindInMarks o e = false := by
  cases e <;> first | rfl | (simp [setB] at h)
theorem cmp_pre (ok : COk P w K mg base k C X) {o : CmpOp} {pa pb : E} {σ : L2.St} {H : Hp} {Q : VK} {O : Org} {A : List Addr} {B : Hp} {ρ : Env} {st : Sto} {T : List (Addr × List D)} {d : D} {ρ' : Env} {st' : Sto} (R : Rel K O A B σ H ρ st T)
    (e : vv (evE F (.cmp o pa pb) ρ st) = some (d, ρ', st')) (q : ∀ A' B' H', Px A A' → Ex B B' → Rel K O A' B' σ H' ρ' st' T → ∀ t, d = .bl t → Q (.bl t) H') : tOp (rCm K (cmpD o)) (tE K F pa) (tE K F pb) σ H Q := by
  obtain ⟨⟨fr, r⟩, e0, e2⟩ := mapS e
  cases e2
  simp only [evE] at e0
  obtain ⟨⟨x, ρ1, st1⟩, e1, e⟩ := bindS e0
  obtain ⟨⟨y, ρ2, st2⟩, e2, e⟩ := bindS e
  obtain ⟨t, e3, e4⟩ := mapS e
  cases e4
  refine tE_V R e1 fun v A1 B1 H1 hA1 hB1 R1 h1 => ?_
  refine tE_V R1 e2 fun u A2 B2 H2 hA2 hB2 R2 h2 => ?_
  exact ⟨A2, B2, x, y, t, R2.ex, h1.mono hA2 hB2, h2, e3, q A2 B2 H2 (hA1.trans hA2) (hB1.trans hB2) R2 t rfl⟩
theorem COk.units (ok : COk P w K mg base k C X) : X.A.units + 64 < cLine := ok.room.units
theorem vv_of {p : E} {ρ : Env} {st : Sto} {fr : Bool} {d : D} {ρ' : Env} {st' : Sto} (e : evE F p ρ st = some (fr, d, ρ', st')) : vv (evE F p ρ st) = some (d, ρ', st') := by rw [e]; rfl
theorem cmp_fr {o : CmpOp} {pa pb : E} {ρ : Env} {st : Sto} {fr : Bool} {d : D} {ρ' : Env} {st' : Sto} (e : evE F (.cmp o pa pb) ρ st = some (fr, d, ρ', st')) : fr = false ∧ ∃ t, d = .bl t := by
  simp only [evE] at e
  obtain ⟨⟨x, ρ1, st1⟩, e1, e⟩ := bindS e
  obtain ⟨⟨y, ρ2, st2⟩, e2, e⟩ := bindS e
  obtain ⟨t, e3, e4⟩ := mapS e
  cases e4
  exact ⟨rfl, t, rfl⟩
theorem sd_cmp (ok : COk P w K mg base k C X) {o : CmpOp} {a b : Expr} {pa pb : E} {pos : Pos} (ha : PE X a (tE K F pa)) (hb : PE X b (tE K F pb)) (hs : setB b = false) : PE X (.Compare a [o] [b] pos) (tE K F (.cmp o pa pb)) := by
  have hK := ok.K
  subst hK
  refine (pe_cmpR (opR_cmp o ok.units) ha hb (setB_in hs)).imp fun σ H Q hq => ?_
  obtain ⟨O, A, B, ρ, st, T, fr, d, ρ', st', R, e, q⟩ := hq
  obtain ⟨rfl, t, rfl⟩ := cmp_fr e
  refine cmp_pre ok R (vv_of e) fun A' B' H' hA hB R' t' ht => ?_
  cases ht
  exact q _ A' B' H' hA hB (.val R' (.bl _))
theorem sd_cmpT (ok : COk P w K mg base k C X) {o : CmpOp} {a b : Expr} {pa pb : E} {pos : Pos} (ha : PE X a (tE K F pa)) (hb : PE X b (tE K F pb)) (hs : setB b = false) : PT X (.Compare a [o] [b] pos) (tCn K F (.e (.cmp o pa pb))) := by
  have hK := ok.K
  subst hK
  refine (pt_cmpR (opR_cmp o ok.units) ha hb (setB_in hs)).imp fun σ H Q hq => ?_
  obtain ⟨O, A, B, ρ, st, T, b, ρ', st', R, e, q⟩ := hq
  simp only [evT] at e
  obtain ⟨⟨x, ρ1, st1⟩, e1, e⟩ := bindS e
  obtain ⟨t, e2, e⟩ := bindS e
  cases e
  refine cmp_pre ok R e1 fun A' B' H' hA hB R' t' ht => ?_
  subst ht
  cases e2
  exact ⟨_, rfl, q A' B' H' hA hB R'⟩
end
end Pv

namespace Pv
open PySem PySem.Spec PyProof.Rows L2

/-! ### argument lists as texts -/
theorem star_cons {e : Expr} {es : List Expr} {env : PySem.Env} (h : starB e = true) : starEach (e :: es) env = (false, eval e env) :: starEach es env := by
  cases e <;> first | rfl | (simp [starB] at h)
theorem star_all {env : PySem.Env} : ∀ {es : List Expr}, es.all starB = true → (starEach es env).all (fun x => !x.1) = true
  | [], _ => rfl
  | e :: es, h => by
    rw [all_cons_iff] at h
    rw [star_cons h.1, List.all_cons, star_all h.2]; rfl
theorem back_any {pos : Pos} {env : PySem.Env} {es : List Expr} (h : es.all starB = true) : (backTo pos (starEach es env)).any (·.1) = false := by
  have := star_all (env := env) h
  unfold backTo
  rw [List.any_map, List.any_eq_false]
  intro x hx
  have := List.all_eq_true.mp this x hx
  obtain ⟨a, b⟩ := x
  cases a <;> simp_all
theorem back_all {pos : Pos} {env : PySem.Env} {es : List Expr} (h : es.all starB = true) : (backTo pos (starEach es env)).all (fun x => !x.1) = true := by
  have := back_any (pos := pos) (env := env) h
  rw [List.any_eq_false] at this
  rw [List.all_eq_true]
  intro x hx
  simpa using this x hx
theorem few_ok {pos : Pos} {env : PySem.Env} {e : Expr} {es : List Expr} (h : (e :: es).all starB = true) (hl : (e :: es).length < 20) :
    ((backTo pos (starEach (e :: es) env)).all (fun x => !x.1) && (backToKw pos (keywordEach [] env)).all (fun x => x.1.isSome)
      && decide ((e :: es).length + ([] : List Keyword).length + (if ([] : List Keyword).isEmpty then 0 else 1) < 30)) = true := by
  rw [back_all h]
  simp only [keywordEach, backToKw, List.map_nil, List.all_nil, Bool.and_self, Bool.true_and, List.length_nil, List.isEmpty_nil, if_true, decide_eq_true_eq]
  omega
theorem attr_base {o : Expr} {n : Str} {env : PySem.Env} {t : Sem Value} (h : isCall0 o = false) : attributeBase o n env t = t := by
  cases o with
  | Call f args kws pos =>
    cases args with
    | cons a as => cases f <;> rfl
    | nil =>
      cases kws with
      | cons a as => cases f <;> rfl
      | nil => simp [isCall0] at h
  | _ => rfl
theorem sub_plain {e : Expr} (h : sliceB e = true) : PlainIx e := by
  intro o i
  cases e <;> first | rfl | (simp [sliceB] at h)
theorem tru_plain {e : Expr} {env : PySem.Env} (h : truB e = true) : ∀ t, isTrue e env t = (do let v ← t; standAt e.pos; holding [v] (truthy v)) := by
  intro t
  cases e with
  | UnaryOp o a p => cases o <;> first | rfl | (simp [truB] at h)
  | BoolOp _ _ _ => simp [truB] at h
  | IfExp _ _ _ _ => simp [truB] at h
  | Compare _ _ _ _ => simp [truB] at h
  | _ => rfl
theorem boot_bi (b : Bi) : bootBuiltins (biName b) = some (biVal b) := by cases b <;> decide +kernel
theorem bi_blts (b : Bi) : biName b ∈ blts := by cases b <;> decide +kernel
theorem bi_name (b : Bi) : biName b ≠ "__name__" ∧ (biName b == ("__debug__" : Str)) = false := by cases b <;> decide +kernel

section
variable {P : Program} {w : World} {K : PySem.W.Frag} {mg : Str → Option Value} {base : Heap} {k : Nat} {F : Tb} {C : SC} {X : Cx} {gl : Str → Bool} {fp : Str → Bool} {kw : Str → Nat → List Str → List Nat → Bool}
theorem COk.blt (G : GOk P w K mg base k F gl fp kw) (ok : COk P w K mg base k C X) {x : Str} (h : x ∈ blts) : X.mg x = none := by
  rw [ok.mg]; exact G.blt x h
/-! ### argument lists -/
theorem sd_nil : PA X [] (tEs K F .nil) := pa_nil.imp fun σ H Q hq => by
  obtain ⟨O, A, B, ρ, st, T, ds, ρ', st', R, e, q⟩ := hq
  simp only [evEs] at e
  cases e
  exact q [] A B H (Px.refl _) (Ex.refl _) R .nil
theorem sd_cons {e : Expr} {es : List Expr} {p : E} {ps : Es} (hs : starB e = true) (he : PE X e (tE K F p)) (hes : PA X es (tEs K F ps)) : PA X (e :: es) (tEs K F (.cons p ps)) :=
  (pa_cons he hes (star_cons hs)).imp fun σ H Q hq => by
    obtain ⟨O, A, B, ρ, st, T, ds, ρ', st', R, e, q⟩ := hq
    simp only [evEs] at e
    obtain ⟨⟨x, ρ1, st1⟩, e1, e⟩ := bindS e
    obtain ⟨⟨xs, ρ2, st2⟩, e2, e⟩ := bindS e
    cases e
    refine tE_V R e1 fun v A1 B1 H1 hA1 hB1 R1 h1 => ?_
    exact ⟨O, A1, B1, ρ1, st1, T, xs, _, _, R1, e2, fun vs A2 B2 H2 hA2 hB2 R2 h2 => q _ A2 B2 H2 (hA1.trans hA2) (hB1.trans hB2) R2 (.cons (h1.mono hA2 hB2) h2)⟩
theorem tEs_of {p : Es} {σ : L2.St} {H : Hp} {Q : List V → Hp → Prop} {O : Org} {A : List Addr} {B : Hp} {ρ : Env} {st : Sto} {T : List (Addr × List D)} {ds : List D} {ρ' : Env} {st' : Sto} (R : Rel K O A B σ H ρ st T) (e : evEs F p ρ st = some (ds, ρ', st'))
    (q : ∀ vs A' B' H', Px A A' → Ex B B' → Rel K O A' B' σ H' ρ' st' T → HoL K A' B' vs ds → Q vs H') : tEs K F p σ H Q := ⟨O, A, B, ρ, st, T, ds, ρ', st', R, e, q⟩
theorem sd_tup {es : List Expr} {ps : Es} {j : Nat} {pos : Pos} (h : PA X es (tEs K F ps)) : PE X (.Tuple es j pos) (tE K F (.tup ps)) := (pe_tup h).imp fun σ H Q hq => by
  obtain ⟨O, A, B, ρ, st, T, fr, d, ρ', st', R, e, q⟩ := hq
  simp only [evE] at e
  obtain ⟨⟨xs, ρ1, st1⟩, e1, e⟩ := bindS e
  simp only at e
  split at e
  · rename_i hl
    cases e
    refine tEs_of R e1 fun vs A1 B1 H1 hA1 hB1 R1 h1 => ⟨by rw [h1.length]; exact lim_le hl, fun p hp => q _ _ _ _ hA1 (hB1.trans (Ex.new (R1.bfresh hp))) (.tup R1 hp h1)⟩
  · cases e
theorem sd_lst {es : List Expr} {ps : Es} {pos : Pos} (h : PA X es (tEs K F ps)) : PE X (.List es pos) (tE K F (.lst ps)) := (pe_lst h).imp fun σ H Q hq => by
  obtain ⟨O, A, B, ρ, st, T, fr, d, ρ', st', R, e, q⟩ := hq
  simp only [evE] at e
  obtain ⟨⟨xs, ρ1, st1⟩, e1, e⟩ := bindS e
  simp only at e
  split at e
  · rename_i hl
    cases e
    refine tEs_of R e1 fun vs A1 B1 H1 hA1 hB1 R1 h1 => ⟨by rw [h1.length]; exact lim_le hl, fun p hp => q _ _ _ _ hA1 hB1 (.new R1 hp h1)⟩
  · cases e
theorem sd_share {x : Expr} {p : E} (h : PE X x (tE K F p)) : PE X x (tE K F (.share p)) := h.imp fun σ H Q hq => by
  obtain ⟨O, A, B, ρ, st, T, fr, d, ρ', st', R, e, q⟩ := hq
  simp only [evE] at e
  obtain ⟨⟨fr1, d1, ρ1, st1⟩, e1, e⟩ := bindS e
  simp only at e
  split at e
  · rename_i xs
    cases e
    refine ⟨O, A, B, ρ, st, T, true, .lst xs, _, _, R, e1, fun v A' B' H' hA hB hp => ?_⟩
    unfold EPost at hp
    rw [if_pos rfl] at hp
    obtain ⟨a, ys, rfl, hy, R'⟩ := hp
    cases hy
    obtain ⟨R2, h2⟩ := R'.share
    exact q _ _ _ _ (hA.trans Px.app) hB (.val R2 h2)
  · cases e
/-! ### tests, connectives -/
theorem sd_tru (ok : COk P w K mg base k C X) {x : Expr} {p : E} (hx : truB x = true) (h : PE X x (tE K F p)) : PT X x (tCn K F (.e p)) := by
  obtain rfl := ok.K
  refine (pt_truth h (tru_plain hx)).imp fun σ H Q hq => ?_
  obtain ⟨O, A, B, ρ, st, T, b, ρ', st', R, e, q⟩ := hq
  simp only [evT] at e
  obtain ⟨⟨d, ρ1, st1⟩, e1, e⟩ := bindS e
  obtain ⟨t, e2, e⟩ := bindS e
  cases e
  refine tE_V R e1 fun v A1 B1 H1 hA1 hB1 R1 h1 => ?_
  exact ⟨b, tru_ho R1.ex h1 e2, q A1 B1 H1 hA1 hB1 R1⟩
theorem sd_ntC {x : Expr} {c : Cn} {pos : Pos} (h : PT X x (tCn K F c)) : PT X (.UnaryOp .Not x pos) (tCn K F (.nt c)) := (pt_not h).imp fun σ H Q hq => by
  obtain ⟨O, A, B, ρ, st, T, b, ρ', st', R, e, q⟩ := hq
  simp only [evT] at e
  obtain ⟨⟨t, ρ1, st1⟩, e1, e⟩ := bindS e
  cases e
  exact ⟨O, A, B, ρ, st, T, t, _, _, R, e1, q⟩
theorem sd_anC {x y : Expr} {rest : List Expr} {c d : Cn} {pos : Pos} (h : PT X x (tCn K F c)) (h' : PW X (.BoolOp .And (y :: rest) pos) (tCn K F d)) : PW X (.BoolOp .And (x :: y :: rest) pos) (tCn K F (.an c d)) := (pw_and h h').imp fun σ H Q hq => by
  obtain ⟨O, A, B, ρ, st, T, b, ρ', st', R, e, q⟩ := hq
  simp only [evT] at e
  obtain ⟨⟨t, ρ1, st1⟩, e1, e⟩ := bindS e
  refine ⟨O, A, B, ρ, st, T, t, ρ1, st1, R, e1, fun A1 B1 H1 hA1 hB1 R1 => ?_⟩
  cases t with
  | true =>
    rw [if_pos rfl]
    exact ⟨O, A1, B1, ρ1, st1, T, b, ρ', st', R1, e, fun A2 B2 H2 hA2 hB2 R2 => q A2 B2 H2 (hA1.trans hA2) (hB1.trans hB2) R2⟩
  | false =>
    cases e
    rw [if_neg Bool.false_ne_true]
    exact q A1 B1 H1 hA1 hB1 R1
theorem sd_orC {x y : Expr} {rest : List Expr} {c d : Cn} {pos : Pos} (h : PT X x (tCn K F c)) (h' : PW X (.BoolOp .Or (y :: rest) pos) (tCn K F d)) : PW X (.BoolOp .Or (x :: y :: rest) pos) (tCn K F (.or c d)) := (pw_or h h').imp fun σ H Q hq => by
  obtain ⟨O, A, B, ρ, st, T, b, ρ', st', R, e, q⟩ := hq
  simp only [evT] at e
  obtain ⟨⟨t, ρ1, st1⟩, e1, e⟩ := bindS e
  refine ⟨O, A, B, ρ, st, T, t, ρ1, st1, R, e1, fun A1 B1 H1 hA1 hB1 R1 => ?_⟩
  cases t with
  | false =>
    rw [if_neg Bool.false_ne_true]
    exact ⟨O, A1, B1, ρ1, st1, T, b, ρ', st', R1, e, fun A2 B2 H2 hA2 hB2 R2 => q A2 B2 H2 (hA1.trans hA2) (hB1.trans hB2) R2⟩
  | true =>
    cases e
    rw [if_pos rfl]
    exact q A1 B1 H1 hA1 hB1 R1
theorem sd_nt (ok : COk P w K mg base k C X) {x : Expr} {p : E} {pos : Pos} (h : PE X x (tE K F p)) (hx : truB x = true) : PE X (.UnaryOp .Not x pos) (tE K F (.nt p)) := by
  obtain rfl := ok.K
  refine (pe_notT h).imp fun σ H Q hq => ?_
  obtain ⟨O, A, B, ρ, st, T, fr, d, ρ', st', R, e, q⟩ := hq
  simp only [evE] at e
  obtain ⟨⟨d1, ρ1, st1⟩, e1, e⟩ := bindS e
  obtain ⟨t, e2, e⟩ := bindS e
  cases e
  refine tE_V R e1 fun v A1 B1 H1 hA1 hB1 R1 h1 => ?_
  exact ⟨t, tru_ho R1.ex h1 e2, q _ A1 B1 H1 hA1 hB1 (.val R1 (.bl _))⟩
theorem sd_an {x y : Expr} {rest : List Expr} {p p' : E} {pos : Pos} (h : PE X x (tE K F p)) (h' : PE X (.BoolOp .And (y :: rest) pos) (tE K F p')) : PE X (.BoolOp .And (x :: y :: rest) pos) (tE K F (.an p p')) := (pe_and h h').imp fun σ H Q hq => by
  obtain ⟨O, A, B, ρ, st, T, fr, d, ρ', st', R, e, q⟩ := hq
  simp only [evE] at e
  obtain ⟨⟨x1, ρ1, st1⟩, e1, e⟩ := bindS e
  refine tE_V R e1 fun v A1 B1 H1 hA1 hB1 R1 h1 => ?_
  simp only at e
  split at e
  · cases h1
    refine ⟨true, rfl, ?_⟩
    rw [if_pos rfl]
    obtain ⟨⟨d2, ρ2, st2⟩, e2, e3⟩ := mapS e
    cases e3
    exact tE_V R1 e2 fun v A2 B2 H2 hA2 hB2 R2 h2 => q _ _ _ _ (hA1.trans hA2) (hB1.trans hB2) (.val R2 h2)
  · cases h1
    refine ⟨false, rfl, ?_⟩
    rw [if_neg Bool.false_ne_true]
    cases e
    exact q _ _ _ _ hA1 hB1 (.val R1 (.bl _))
  · cases e
theorem sd_or {x y : Expr} {rest : List Expr} {p p' : E} {pos : Pos} (h : PE X x (tE K F p)) (h' : PE X (.BoolOp .Or (y :: rest) pos) (tE K F p')) : PE X (.BoolOp .Or (x :: y :: rest) pos) (tE K F (.or p p')) := (pe_or h h').imp fun σ H Q hq => by
  obtain ⟨O, A, B, ρ, st, T, fr, d, ρ', st', R, e, q⟩ := hq
  simp only [evE] at e
  obtain ⟨⟨x1, ρ1, st1⟩, e1, e⟩ := bindS e
  refine tE_V R e1 fun v A1 B1 H1 hA1 hB1 R1 h1 => ?_
  simp only at e
  split at e
  · cases h1
    refine ⟨true, rfl, ?_⟩
    rw [if_pos rfl]
    cases e
    exact q _ _ _ _ hA1 hB1 (.val R1 (.bl _))
  · cases h1
    refine ⟨false, rfl, ?_⟩
    rw [if_neg Bool.false_ne_true]
    obtain ⟨⟨d2, ρ2, st2⟩, e2, e3⟩ := mapS e
    cases e3
    exact tE_V R1 e2 fun v A2 B2 H2 hA2 hB2 R2 h2 => q _ _ _ _ (hA1.trans hA2) (hB1.trans hB2) (.val R2 h2)
  · cases e
theorem sd_ite {c x y : Expr} {pc : Cn} {p p' : E} {pos : Pos} (hc : PT X c (tCn K F pc)) (h : PE X x (tE K F p)) (h' : PE X y (tE K F p')) : PE X (.IfExp c x y pos) (tE K F (.ite pc p p')) := (pe_ifExp hc h h').imp fun σ H Q hq => by
  obtain ⟨O, A, B, ρ, st, T, fr, d, ρ', st', R, e, q⟩ := hq
  simp only [evE] at e
  obtain ⟨⟨t, ρ1, st1⟩, e1, e⟩ := bindS e
  refine ⟨O, A, B, ρ, st, T, t, ρ1, st1, R, e1, fun A1 B1 H1 hA1 hB1 R1 => ?_⟩
  cases t with
  | true =>
    rw [if_pos rfl]
    exact ⟨O, A1, B1, ρ1, st1, T, fr, d, ρ', st', R1, e, fun v A2 B2 H2 hA2 hB2 R2 => q v A2 B2 H2 (hA1.trans hA2) (hB1.trans hB2) R2⟩
  | false =>
    rw [if_neg Bool.false_ne_true]
    exact ⟨O, A1, B1, ρ1, st1, T, fr, d, ρ', st', R1, e, fun v A2 B2 H2 hA2 hB2 R2 => q v A2 B2 H2 (hA1.trans hA2) (hB1.trans hB2) R2⟩
theorem sd_neg {x : Expr} {p : E} {pos : Pos} (h : PE X x (tE K F p)) : PE X (.UnaryOp .USub x pos) (tE K F (.neg p)) := (pe_un un_neg h).imp fun σ H Q hq => by
  obtain ⟨O, A, B, ρ, st, T, fr, d, ρ', st', R, e, q⟩ := hq
  simp only [evE] at e
  obtain ⟨⟨x1, ρ1, st1⟩, e1, e⟩ := bindS e
  refine tE_V R e1 fun v A1 B1 H1 hA1 hB1 R1 h1 => ?_
  simp only at e
  split at e
  · cases h1
    cases e
    exact ⟨_, rfl, q _ _ _ _ hA1 hB1 (.val R1 (.int _))⟩
  · cases e
/-! ### built-in functions -/
theorem sd_bi (G : GOk P w K mg base k F gl fp kw) (ok : COk P w K mg base k C X) {b : Bi} {y : Expr} {ys : List Expr} {ps : Es} {q pos : Pos} (hg : glB C.sc (biName b) = true) (hs : (y :: ys).all starB = true) (h : PA X (y :: ys) (tEs K F ps)) :
    PE X (.Call (.Name (biName b) q) (y :: ys) [] pos) (tE K F (.bi b ps)) := by
  have hK := ok.K
  subst hK
  have hs' := all_cons_iff.mp hs
  have main : PE X (.Call (.Name (biName b) q) (y :: ys) [] pos) (tCB (rBi X.K b) (tEs X.K F ps)) := by
    have h1 := ok.gl hg
    have h2 := ok.blt G (bi_blts b)
    have h3 := boot_bi b
    have h4 := bi_name b
    have h5 := callR_all ok.calm b
    cases hv : biVal b with
    | builtin id =>
      rw [hv] at h3 h5
      exact pe_callB h5 h1 h2 h3 h h4.1 h4.2 (star_cons hs'.1) (back_any hs'.2)
    | type T =>
      rw [hv] at h3 h5
      exact pe_callTy h5 h1 h2 h3 h h4.1 h4.2 (star_cons hs'.1) (back_any hs'.2)
    | _ => cases b <;> cases hv
  refine main.imp fun σ H Q hq => ?_
  obtain ⟨O, A, B, ρ, st, T, fr, d, ρ', st', R, e, q⟩ := hq
  simp only [evE] at e
  obtain ⟨⟨ds, ρ1, st1⟩, e1, e⟩ := bindS e
  obtain ⟨e, rfl, rfl⟩ := upS e
  refine tEs_of R e1 fun vs A1 B1 H1 hA1 hB1 R1 h1 => ?_
  exact ⟨O, A1, B1, σ, _, _, T, ds, fr, d, R1, h1, e, fun v A' B' H' hA hB hp => q v A' B' H' (hA1.trans hA) (hB1.trans hB) hp⟩
theorem sd_lenv (G : GOk P w K mg base k F gl fp kw) (ok : COk P w K mg base k C X) {i : Nat} {x : Str} {q p pos : Pos} (hg : glB C.sc "len" = true) (hv : C.var i x = true) : PE X (.Call (.Name "len" q) [.Name x p] [] pos) (tE K F (.lenv i)) := by
  have hK := ok.K
  subst hK
  have main : PE X (.Call (.Name "len" q) [.Name x p] [] pos) (tCB (fun xs H Q => ∃ x n, xs = [x] ∧ LenV X.K x H n ∧ Q (.int n) H) (tCons (tVar i) tNil)) :=
    pe_callB call_len (ok.gl hg) (ok.blt G (bi_blts .len)) (boot_bi .len) (pa_cons (ok.var hv) pa_nil (star_cons rfl)) (bi_name .len).1 (bi_name .len).2 (star_cons rfl) rfl
  refine main.imp fun σ H Q hq => ?_
  obtain ⟨O, A, B, ρ, st, T, fr, d, ρ', st', R, e, q⟩ := hq
  simp only [evE] at e
  obtain ⟨sl, e1, e⟩ := bindS e
  obtain ⟨ys, e2, e⟩ := bindS e
  cases e
  obtain ⟨a, vs, h1, h2, h3⟩ := R.sigma e1 e2
  refine ⟨_, h1, _, ys.length, rfl, ?_, q _ _ _ _ (Px.refl _) (Ex.refl _) (.val R (.int _))⟩
  rcases h2 with h2 | h2
  · exact .inl ⟨vs, h2, h3.length.symm⟩
  · exact .inr ⟨vs, h2, h3.length.symm⟩
/-! ### items -/
theorem sd_ix (ok : COk P w K mg base k C X) {a b : Expr} {pa pb : E} {pos : Pos} (ha : PE X a (tE K F pa)) (hb : PE X b (tE K F pb)) (hs : sliceB b = true) : PE X (.Subscript a b pos) (tE K F (.ix pa pb)) := by
  obtain rfl := ok.K
  refine (pe_ix ixR_item ha hb (sub_plain hs)).imp fun σ H Q hq => ?_
  obtain ⟨O, A, B, ρ, st, T, fr, d, ρ', st', R, e, q⟩ := hq
  simp only [evE] at e
  obtain ⟨⟨x, ρ1, st1⟩, e1, e⟩ := bindS e
  obtain ⟨⟨y, ρ2, st2⟩, e2, e⟩ := bindS e
  obtain ⟨d', e3, e4⟩ := mapS e
  cases e4
  refine tE_V R e1 fun v A1 B1 H1 hA1 hB1 R1 h1 => ?_
  refine tE_V R1 e2 fun u A2 B2 H2 hA2 hB2 R2 h2 => ?_
  have h1 := h1.mono hA2 hB2
  have q := fun v h => q v A2 B2 H2 (hA1.trans hA2) (hB1.trans hB2) h
  cases y with
  | int i =>
    cases h2
    refine ⟨A2, B2, i, rfl, ?_⟩
    cases x with
    | lst xs =>
      obtain ⟨p, rfl⟩ := h1.isLst
      obtain ⟨vs, _, g1, g2⟩ := h1.lstH R2.ex
      exact .inl ⟨p, vs, xs, d, rfl, .inl (SqL.of g1), g2, e3, fun v hv => q v (.val R2 hv)⟩
    | tup xs =>
      obtain ⟨p, rfl⟩ := h1.isTup
      obtain ⟨vs, g1, g2⟩ := h1.tupH R2.ex
      exact .inl ⟨p, vs, xs, d, rfl, .inr g1, g2, e3, fun v hv => q v (.val R2 hv)⟩
    | str s =>
      cases h1
      simp only [ixD] at e3
      split at e3
      · rename_i hl
        obtain ⟨c, e4, e5⟩ := mapS e3
        cases e5
        exact .inr ⟨s, c, rfl, hl, e4, q _ (.val R2 (.str _))⟩
      · cases e3
    | hd n =>
      cases h1 with | hd ha =>
      simp only [ixD] at e3
      cases z : st2[n]? with
      | none => rw [z] at e3; cases e3
      | some xs =>
        rw [z] at e3
        obtain ⟨a', vs, f1, f2, f3, _⟩ := R2.updH z
        rw [ha] at f1; cases f1
        exact .inl ⟨_, vs, xs, d, rfl, .inl (SqL.of f2), f3, e3, fun v hv => q v (.val R2 hv)⟩
    | _ => cases e3
  | _ => cases x <;> cases e3
theorem sd_ixv (ok : COk P w K mg base k C X) {i : Nat} {x : Str} {b : Expr} {pb : E} {p pos : Pos} (hv : C.var i x = true) (hb : PE X b (tE K F pb)) (hs : sliceB b = true) : PE X (.Subscript (.Name x p) b pos) (tE K F (.ixv i pb)) := by
  have hK := ok.K
  subst hK
  refine (pe_ix ixR_item (ok.var hv) hb (sub_plain hs)).imp fun σ H Q hq => ?_
  obtain ⟨O, A, B, ρ, st, T, fr, d, ρ', st', R, e, q⟩ := hq
  simp only [evE] at e
  obtain ⟨sl0, e1, e⟩ := bindS e
  obtain ⟨ys0, e2, e⟩ := bindS e
  obtain ⟨⟨y, ρ1, st1⟩, e3, e⟩ := bindS e
  obtain ⟨sl, e4, e⟩ := bindS e
  obtain ⟨ys, e5, e⟩ := bindS e
  obtain ⟨d', e6, e7⟩ := mapS e
  cases e7
  obtain ⟨a, vs, h1, _, _⟩ := R.sigma e1 e2
  refine ⟨_, h1, tE_V R e3 fun u A2 B2 H2 hA2 hB2 R2 h2 => ?_⟩
  obtain ⟨a2, vs2, g1, g2, g3⟩ := R2.sigma e4 e5
  rw [h1] at g1; cases g1
  cases y with
  | int j =>
    cases h2
    exact ⟨A2, B2, j, rfl, .inl ⟨a, vs2, ys, d, rfl, g2, g3, e6, fun v hv => q v _ _ _ hA2 hB2 (.val R2 hv)⟩⟩
  | _ => cases e6
/-! ### slices -/
theorem sd_no : PO X none (tEo K F .no) := po_none.imp fun σ H Q hq => by
  obtain ⟨O, A, B, ρ, st, T, d, ρ', st', R, e, q⟩ := hq
  simp only [evO] at e
  cases e
  exact q A B H (Px.refl _) (Ex.refl _) R
theorem sd_so {x : Expr} {p : E} (h : PE X x (tE K F p)) : PO X (some x) (tEo K F (.so p)) := (po_some h).imp fun σ H Q hq => by
  obtain ⟨O, A, B, ρ, st, T, d, ρ', st', R, e, q⟩ := hq
  simp only [evO] at e
  obtain ⟨⟨x, ρ1, st1⟩, e1, e⟩ := bindS e
  refine tE_V R e1 fun v A1 B1 H1 hA1 hB1 R1 h1 => ?_
  simp only at e
  split at e
  · cases h1
    cases e
    exact ⟨_, rfl, q A1 B1 H1 hA1 hB1 R1⟩
  · cases e
theorem sd_sl (ok : COk P w K mg base k C X) {a : Expr} {lo hi : Option Expr} {pa : E} {pl ph : Eo} {p2 pos : Pos} (ha : PE X a (tE K F pa)) (hl : PO X lo (tEo K F pl)) (hh : PO X hi (tEo K F ph)) : PE X (.Subscript a (.Slice lo hi none p2) pos) (tE K F (.sl pa pl ph)) := by
  obtain rfl := ok.K
  refine (pe_slice slR_all ha hl hh).imp fun σ H Q hq => ?_
  obtain ⟨O, A, B, ρ, st, T, fr, d, ρ', st', R, e, q⟩ := hq
  simp only [evE] at e
  obtain ⟨⟨x, ρ1, st1⟩, e1, e⟩ := bindS e
  obtain ⟨⟨l, ρ2, st2⟩, e2, e⟩ := bindS e
  obtain ⟨⟨u, ρ3, st3⟩, e3, e⟩ := bindS e
  obtain ⟨e, rfl, rfl⟩ := upS e
  refine tE_V R e1 fun v A1 B1 H1 hA1 hB1 R1 h1 => ?_
  refine ⟨O, A1, B1, _, _, T, l, _, _, R1, e2, fun A2 B2 H2 hA2 hB2 R2 => ?_⟩
  refine ⟨O, A2, B2, _, _, T, u, _, _, R2, e3, fun A3 B3 H3 hA3 hB3 R3 => ?_⟩
  exact ⟨O, A3, B3, σ, _, _, T, x, fr, d, R3, h1.mono (hA2.trans hA3) (hB2.trans hB3), e, fun v' A' B' H' hA hB hp => q v' A' B' H' (((hA1.trans hA2).trans hA3).trans hA) (((hB1.trans hB2).trans hB3).trans hB) hp⟩
end
end Pv

namespace Pv
open PySem PySem.Spec PyProof.Rows L2
open RZ (ItzT pi_zipA)
open RT (ItvT pi_revA)

/-! ## what is walked -/
section
variable {K : PySem.W.Frag} {A : List Addr} {B : Hp}
theorem len_none {xs : List D} {i : Nat} (h : xs.length ≤ i) : xs[i]? = none := List.getElem?_eq_none h
theorem walks_list {a : Addr} {xs : List D} (h : Ho K A B (.ref a) (.lst xs)) : Walks K (Itl K a) A B xs := fun i A1 B1 H hA hB hH => by
  have h1 := h.mono hA hB
  obtain ⟨vs, _, g1, g2⟩ := h1.lstH hH
  refine ⟨fun d e => ?_, fun hi => ⟨vs, SqL.of g1, by rw [g2.length]; exact hi⟩⟩
  obtain ⟨v, e1, e2⟩ := g2.get e
  refine ⟨⟨vs, v, SqL.of g1, e1⟩, fun x H' hy => ?_⟩
  obtain ⟨rfl, hy⟩ := hy
  have := (hy vs (SqL.of g1)).symm.trans e1
  cases this
  exact ⟨B1, Ex.refl _, Ex.refl _, hH, fun a h1 h2 => absurd h1 h2, e2⟩
theorem walks_tup {a : Addr} {xs : List D} (h : Ho K A B (.ref a) (.tup xs)) : Walks K (Itt K a) A B xs := fun i A1 B1 H hA hB hH => by
  have h1 := h.mono hA hB
  obtain ⟨vs, g1, g2⟩ := h1.tupH hH
  refine ⟨fun d e => ?_, fun hi => ⟨vs, g1, by rw [g2.length]; exact hi⟩⟩
  obtain ⟨v, e1, e2⟩ := g2.get e
  refine ⟨⟨vs, v, g1, e1⟩, fun x H' hy => ?_⟩
  obtain ⟨rfl, hy⟩ := hy
  have := (hy vs g1).symm.trans e1
  cases this
  exact ⟨B1, Ex.refl _, Ex.refl _, hH, fun a h1 h2 => absurd h1 h2, e2⟩
theorem walks_rev {a : Addr} {xs : List D} (h : Ho K A B (.ref a) (.lst xs)) : Walks K (Itv K a xs.length) A B xs.reverse := fun i A1 B1 H hA hB hH => by
  have h1 := h.mono hA hB
  obtain ⟨vs, _, g1, g2⟩ := h1.lstH hH
  refine ⟨fun d e => ?_, fun hi => by rw [List.length_reverse] at hi; exact hi⟩
  have hi : i < xs.length := by have := (List.getElem?_eq_some_iff.mp e).1; rwa [List.length_reverse] at this
  rw [List.getElem?_reverse hi] at e
  obtain ⟨v, e1, e2⟩ := g2.get e
  refine ⟨⟨hi, vs, v, SqL.of g1, e1⟩, fun x H' hy => ?_⟩
  obtain ⟨rfl, hy⟩ := hy
  have := (hy vs (SqL.of g1)).symm.trans e1
  cases this
  exact ⟨B1, Ex.refl _, Ex.refl _, hH, fun a h1 h2 => absurd h1 h2, e2⟩
theorem walks_revT {a : Addr} {xs : List D} (h : Ho K A B (.ref a) (.tup xs)) : Walks K (ItvT K a xs.length) A B xs.reverse := fun i A1 B1 H hA hB hH => by
  have h1 := h.mono hA hB
  obtain ⟨vs, g1, g2⟩ := h1.tupH hH
  refine ⟨fun d e => ?_, fun hi => by rw [List.length_reverse] at hi; exact hi⟩
  have hi : i < xs.length := by have := (List.getElem?_eq_some_iff.mp e).1; rwa [List.length_reverse] at this
  rw [List.getElem?_reverse hi] at e
  obtain ⟨v, e1, e2⟩ := g2.get e
  refine ⟨⟨hi, vs, v, g1, e1⟩, fun x H' hy => ?_⟩
  obtain ⟨rfl, hy⟩ := hy
  have := (hy vs g1).symm.trans e1
  cases this
  exact ⟨B1, Ex.refl _, Ex.refl _, hH, fun a h1 h2 => absurd h1 h2, e2⟩
theorem rng_get {n : Nat} {f : Nat → D} {i : Nat} {d : D} (e : ((List.range n).map f)[i]? = some d) : i < n ∧ d = f i := by
  rw [List.getElem?_map] at e
  by_cases h : i < n
  · rw [List.getElem?_range h] at e; cases e; exact ⟨h, rfl⟩
  · rw [List.getElem?_eq_none (by simpa using h)] at e; cases e
theorem walks_rng1 {lo hi : Int} : Walks K (Itr lo (hi - lo).toNat) A B (rngL lo hi 1) := fun i A1 B1 H hA hB hH => by
  have hn : rngN lo hi 1 = (hi - lo).toNat := by unfold rngN; rw [PyProof.Rows.rangeSize_nat]; exact Int.toNat_natCast _
  refine ⟨fun d e => ?_, fun h => by unfold rngL at h; rw [List.length_map, List.length_range, hn] at h; exact h⟩
  unfold rngL at e
  obtain ⟨h1, rfl⟩ := rng_get e
  rw [hn] at h1
  refine ⟨h1, fun x H' hy => ?_⟩
  obtain ⟨rfl, rfl⟩ := hy
  exact ⟨B1, Ex.refl _, Ex.refl _, hH, fun a h1 h2 => absurd h1 h2, by rw [Int.mul_one]; exact .int _⟩
theorem walks_rng {lo hi c : Int} : Walks K (Itc lo c (rngN lo hi c)) A B (rngL lo hi c) := fun i A1 B1 H hA hB hH => by
  refine ⟨fun d e => ?_, fun h => by unfold rngL at h; rw [List.length_map, List.length_range] at h; exact h⟩
  unfold rngL at e
  obtain ⟨h1, rfl⟩ := rng_get e
  refine ⟨h1, fun x H' hy => ?_⟩
  obtain ⟨rfl, rfl⟩ := hy
  exact ⟨B1, Ex.refl _, Ex.refl _, hH, fun a h1 h2 => absurd h1 h2, .int _⟩
theorem enum_get : ∀ {xs : List D} {n i : Nat} {d : D}, (enumL n xs)[i]? = some d → ∃ x, xs[i]? = some x ∧ d = .tup [.int ((n + i : Nat) : Int), x]
  | [], _, _, _, e => by simp [enumL] at e
  | x :: xs, n, 0, d, e => by
    simp [enumL] at e
    exact ⟨x, rfl, by rw [← e]; simp⟩
  | x :: xs, n, i + 1, d, e => by
    simp only [enumL, List.getElem?_cons_succ] at e
    obtain ⟨y, h1, h2⟩ := enum_get e
    exact ⟨y, by simpa using h1, by rw [h2, Nat.add_assoc, Nat.add_comm 1 i]⟩
theorem enum_len : ∀ (xs : List D) (n : Nat), (enumL n xs).length = xs.length
  | [], _ => rfl
  | x :: xs, n => by simp [enumL, enum_len xs]
theorem pair_new {B1 H : Hp} {A1 : List Addr} {T : Addr} {v u : V} {d e : D} (hH : Ex B1 H) (hT : H T = none) (h1 : Ho K A1 B1 v d) (h2 : Ho K A1 B1 u e) :
    ∃ B2, Ex B1 B2 ∧ Ex H (upd H T (.tup [v, u])) ∧ Ex B2 (upd H T (.tup [v, u])) ∧ (∀ a, B1 a = none → B2 a ≠ none → H a = none) ∧ Ho K A1 B2 (.ref T) (.tup [d, e]) := by
  have hB : B1 T = none := hH.back hT
  refine ⟨upd B1 T (.tup [v, u]), Ex.new hB, Ex.new hT, hH.upd2, fun a h3 h4 => ?_, .tup (SqT.of upd_same) (.cons (h1.mono (Px.refl _) (Ex.new hB)) (.cons (h2.mono (Px.refl _) (Ex.new hB)) .nil))⟩
  by_cases q : a = T
  · rw [q]; exact hT
  · rw [upd_ne q] at h4; exact absurd h3 h4
theorem walks_enum {a : Addr} {xs : List D} (h : Ho K A B (.ref a) (.lst xs)) : Walks K (Ite K a) A B (enumL 0 xs) := fun i A1 B1 H hA hB hH => by
  have h1 := h.mono hA hB
  obtain ⟨vs, _, g1, g2⟩ := h1.lstH hH
  refine ⟨fun d e => ?_, fun hi => ⟨vs, SqL.of g1, by rw [g2.length]; rwa [enum_len] at hi⟩⟩
  obtain ⟨x, ex, rfl⟩ := enum_get e
  obtain ⟨v, e1, e2⟩ := g2.get ex
  refine ⟨⟨vs, v, SqL.of g1, e1⟩, fun z H' hy => ?_⟩
  obtain ⟨T, u, rfl, hT, rfl, hy⟩ := hy
  have := (hy vs (SqL.of g1)).symm.trans e1
  cases this
  rw [Nat.zero_add]
  exact pair_new hH hT (.int _) e2
theorem walks_enumT {a : Addr} {xs : List D} (h : Ho K A B (.ref a) (.tup xs)) : Walks K (IteT K a) A B (enumL 0 xs) := fun i A1 B1 H hA hB hH => by
  have h1 := h.mono hA hB
  obtain ⟨vs, g1, g2⟩ := h1.tupH hH
  refine ⟨fun d e => ?_, fun hi => ⟨vs, g1, by rw [g2.length]; rwa [enum_len] at hi⟩⟩
  obtain ⟨x, ex, rfl⟩ := enum_get e
  obtain ⟨v, e1, e2⟩ := g2.get ex
  refine ⟨⟨vs, v, g1, e1⟩, fun z H' hy => ?_⟩
  obtain ⟨T, u, rfl, hT, rfl, hy⟩ := hy
  have := (hy vs g1).symm.trans e1
  cases this
  rw [Nat.zero_add]
  exact pair_new hH hT (.int _) e2
theorem zip_get : ∀ {xs ys : List D} {i : Nat} {d : D}, (zipL xs ys)[i]? = some d → ∃ x y, xs[i]? = some x ∧ ys[i]? = some y ∧ d = .tup [x, y]
  | [], _, _, _, e => by simp [zipL] at e
  | _ :: _, [], _, _, e => by simp [zipL] at e
  | x :: xs, y :: ys, 0, d, e => by
    simp [zipL] at e
    exact ⟨x, y, rfl, rfl, e.symm⟩
  | x :: xs, y :: ys, i + 1, d, e => by
    simp only [zipL, List.getElem?_cons_succ] at e
    obtain ⟨u, v, h1, h2, h3⟩ := zip_get e
    exact ⟨u, v, by simpa using h1, by simpa using h2, h3⟩
theorem zip_len : ∀ (xs ys : List D), (zipL xs ys).length = min xs.length ys.length
  | [], _ => by simp [zipL]
  | _ :: _, [] => by simp [zipL]
  | x :: xs, y :: ys => by simp [zipL, zip_len xs ys, Nat.succ_min_succ]
theorem walks_zip {a b : Addr} {xs ys : List D} (h : Ho K A B (.ref a) (.lst xs)) (h' : Ho K A B (.ref b) (.lst ys)) : Walks K (Itz K a b) A B (zipL xs ys) := fun i A1 B1 H hA hB hH => by
  have h1 := h.mono hA hB
  have h2 := h'.mono hA hB
  obtain ⟨vs, _, g1, g2⟩ := h1.lstH hH
  obtain ⟨ws, _, g3, g4⟩ := h2.lstH hH
  refine ⟨fun d e => ?_, fun hi => ⟨vs, ws, SqL.of g1, SqL.of g3, by rw [g2.length, g4.length]; rw [zip_len] at hi; omega⟩⟩
  obtain ⟨x, y, ex, ey, rfl⟩ := zip_get e
  obtain ⟨v, e1, e2⟩ := g2.get ex
  obtain ⟨u, e3, e4⟩ := g4.get ey
  refine ⟨⟨vs, ws, v, u, SqL.of g1, SqL.of g3, e1, e3⟩, fun z H' hy => ?_⟩
  obtain ⟨T, v', u', rfl, hT, rfl, hy, hy'⟩ := hy
  have := (hy vs (SqL.of g1)).symm.trans e1
  cases this
  have := (hy' ws (SqL.of g3)).symm.trans e3
  cases this
  exact pair_new hH hT e2 e4
theorem walks_zipT {a b : Addr} {xs ys : List D} (h : Ho K A B (.ref a) (.tup xs)) (h' : Ho K A B (.ref b) (.tup ys)) : Walks K (ItzT K a b) A B (zipL xs ys) := fun i A1 B1 H hA hB hH => by
  have h1 := h.mono hA hB
  have h2 := h'.mono hA hB
  obtain ⟨vs, g1, g2⟩ := h1.tupH hH
  obtain ⟨ws, g3, g4⟩ := h2.tupH hH
  refine ⟨fun d e => ?_, fun hi => ⟨vs, ws, g1, g3, by rw [g2.length, g4.length]; rw [zip_len] at hi; omega⟩⟩
  obtain ⟨x, y, ex, ey, rfl⟩ := zip_get e
  obtain ⟨v, e1, e2⟩ := g2.get ex
  obtain ⟨u, e3, e4⟩ := g4.get ey
  refine ⟨⟨vs, ws, v, u, g1, g3, e1, e3⟩, fun z H' hy => ?_⟩
  obtain ⟨T, v', u', rfl, hT, rfl, hy, hy'⟩ := hy
  have := (hy vs g1).symm.trans e1
  cases this
  have := (hy' ws g3).symm.trans e3
  cases this
  exact pair_new hH hT e2 e4
end

section
variable {P : Program} {w : World} {K : PySem.W.Frag} {mg : Str → Option Value} {base : Heap} {k : Nat} {F : Tb} {C : SC} {X : Cx} {gl : Str → Bool} {fp : Str → Bool} {kw : Str → Nat → List Str → List Nat → Bool}
theorem PI.or {X : Cx} {tg e : Expr} {t t' : TI} (h : PI X tg e t) (h' : PI X tg e t') : PI X tg e (fun σ H R => t σ H R ∨ t' σ H R) :=
  ⟨fun pins s σ H R I hw => hw.elim (fun q => h.run pins s σ H R I q) fun q => h'.run pins s σ H R I q⟩
theorem sd_val (ok : COk P w K mg base k C X) {tg x : Expr} {p : E} (h : PE X x (tE K F p)) : PI X tg x (tI K F (.val p)) := by
  obtain rfl := ok.K
  refine (PI.or (pi_list h) (pi_tup h)).imp fun σ H R hq => ?_
  obtain ⟨O, A, B, ρ, st, T, xs, ρ', st', R0, e, q⟩ := hq
  simp only [evI] at e
  obtain ⟨⟨d, ρ1, st1⟩, e1, e⟩ := bindS e
  obtain ⟨ys, e2, e⟩ := bindS e
  cases e
  cases d with
  | lst zs =>
    cases e2
    refine .inl (tE_V R0 e1 fun v A1 B1 H1 hA1 hB1 R1 h1 => ?_)
    obtain ⟨a, rfl⟩ := h1.isLst
    obtain ⟨vs, _, g1, _⟩ := h1.lstH R1.ex
    exact ⟨a, rfl, ⟨vs, SqL.of g1⟩, q _ A1 B1 H1 hA1 hB1 R1 (walks_list h1)⟩
  | tup zs =>
    cases e2
    refine .inr (tE_V R0 e1 fun v A1 B1 H1 hA1 hB1 R1 h1 => ?_)
    obtain ⟨a, rfl⟩ := h1.isTup
    obtain ⟨vs, g1, _⟩ := h1.tupH R1.ex
    exact ⟨a, rfl, ⟨vs, g1⟩, q _ A1 B1 H1 hA1 hB1 R1 (walks_tup h1)⟩
  | _ => cases e2
theorem tEs_one {p : Es} {σ : L2.St} {H : Hp} {Q : List V → Hp → Prop} {O : Org} {A : List Addr} {B : Hp} {ρ : Env} {st : Sto} {T : List (Addr × List D)} {d : D} {ρ' : Env} {st' : Sto} (R : Rel K O A B σ H ρ st T) (e : evEs F p ρ st = some ([d], ρ', st'))
    (q : ∀ v A' B' H', Px A A' → Ex B B' → Rel K O A' B' σ H' ρ' st' T → Ho K A' B' v d → Q [v] H') : tEs K F p σ H Q := tEs_of R e fun vs A' B' H' hA hB R' h => by
  obtain ⟨v, rfl, h1⟩ := h.one
  exact q v A' B' H' hA hB R' h1
theorem chEs_len : ∀ {ps : Es} {es : List Expr} {ρ : Env} {st : Sto} {ds : List D} {ρ' : Env} {st' : Sto}, chEs C ps es = true → evEs F ps ρ st = some (ds, ρ', st') → ds.length = es.length
  | .nil, [], _, _, _, _, _, _, e => by simp only [evEs] at e; cases e; rfl
  | .nil, _ :: _, _, _, _, _, _, h, _ => by simp [chEs] at h
  | .cons p ps, [], _, _, _, _, _, h, _ => by simp [chEs] at h
  | .cons p ps, x :: xs, _, _, _, _, _, h, e => by
    simp only [evEs] at e
    obtain ⟨⟨d, ρ1, st1⟩, e1, e⟩ := bindS e
    obtain ⟨⟨ds', ρ2, st2⟩, e2, e⟩ := bindS e
    cases e
    simp only [chEs, Bool.and_eq_true] at h
    simp [chEs_len h.2 e2]
theorem chEs_star : ∀ {ps : Es} {es : List Expr}, chEs C ps es = true → es.all starB = true
  | .nil, [], _ => rfl
  | .nil, _ :: _, h => by simp [chEs] at h
  | .cons p ps, [], h => by simp [chEs] at h
  | .cons p ps, x :: xs, h => by
    simp only [chEs, Bool.and_eq_true] at h
    rw [all_cons_iff]
    exact ⟨h.1.1, chEs_star h.2⟩
theorem star_list {es : List Expr} {env : PySem.Env} (h : es.all starB = true) : starEach es env = es.map fun e => (false, eval e env) := by
  induction es with
  | nil => rfl
  | cons e es ih =>
    rw [all_cons_iff] at h
    rw [star_cons h.1, ih h.2]; rfl
theorem sd_rng (G : GOk P w K mg base k F gl fp kw) (ok : COk P w K mg base k C X) {tg : Expr} {zs : List Expr} {ps : Es} {q0 pos : Pos} (hg : glB C.sc "range" = true) (hc : chEs C ps zs = true) (hl : zs.length = 1 ∨ zs.length = 2 ∨ zs.length = 3) (h : PA X zs (tEs K F ps)) :
    PI X tg (.Call (.Name "range" q0) zs [] pos) (tI K F (.rng ps)) := by
  have hm : X.mg "range" = none := ok.blt G (by decide +kernel)
  have hst := chEs_star hc
  match zs, hl, h, hc, hst with
  | [a], _, h, hc, hst =>
    refine (pi_range1 (ok.gl hg) hm h (star_list hst)).imp fun σ H R hq => ?_
    obtain ⟨O, A, B, ρ, st, T, xs, ρ', st', R0, e, q⟩ := hq
    simp only [evI] at e
    obtain ⟨⟨ds, ρ1, st1⟩, e1, e⟩ := bindS e
    obtain ⟨ys, e2, e⟩ := bindS e
    cases e
    have hlen := chEs_len hc e1
    match ds, hlen, e1, e2 with
    | [d], _, e1, e2 =>
      refine tEs_one R0 e1 fun v A1 B1 H1 hA1 hB1 R1 h1 => ?_
      cases d with
      | int n =>
        cases h1
        simp only [rngD] at e2
        split at e2
        · rename_i ho
          cases e2
          unfold rngOk at ho
          simp only [Bool.and_eq_true, decide_eq_true_eq] at ho
          have w0 : Walks K (Itr 0 n.toNat) A1 B1 (rngL 0 n 1) := by have := walks_rng1 (K := K) (A := A1) (B := B1) (lo := 0) (hi := n); rwa [Int.sub_zero] at this
          exact ⟨n, rfl, by omega, by omega, q _ A1 B1 H1 hA1 hB1 R1 w0⟩
        · cases e2
      | _ => cases e2
  | [a, b], _, h, hc, hst =>
    refine (pi_range2 (ok.gl hg) hm h (star_list hst) (star_list (all_cons_iff.mp hst).2)).imp fun σ H R hq => ?_
    obtain ⟨O, A, B, ρ, st, T, xs, ρ', st', R0, e, q⟩ := hq
    simp only [evI] at e
    obtain ⟨⟨ds, ρ1, st1⟩, e1, e⟩ := bindS e
    obtain ⟨ys, e2, e⟩ := bindS e
    cases e
    have hlen := chEs_len hc e1
    match ds, hlen, e1, e2 with
    | [d, d'], _, e1, e2 =>
      refine tEs_of R0 e1 fun vs A1 B1 H1 hA1 hB1 R1 hl => ?_
      obtain ⟨v, u, rfl, k1, k2⟩ := hl.two
      cases d with
      | int n =>
        cases d' with
        | int m =>
          cases k1; cases k2
          simp only [rngD] at e2
          split at e2
          · rename_i ho
            cases e2
            unfold rngOk at ho
            simp only [Bool.and_eq_true, decide_eq_true_eq] at ho
            exact ⟨n, m, rfl, by omega, q _ A1 B1 H1 hA1 hB1 R1 walks_rng1⟩
          · cases e2
        | _ => cases e2
      | _ => cases e2
  | [a, b, c], _, h, hc, hst =>
    refine (pi_range3 (ok.gl hg) hm h (star_cons (all_cons_iff.mp hst).1) (back_any (all_cons_iff.mp hst).2)).imp fun σ H R hq => ?_
    obtain ⟨O, A, B, ρ, st, T, xs, ρ', st', R0, e, q⟩ := hq
    simp only [evI] at e
    obtain ⟨⟨ds, ρ1, st1⟩, e1, e⟩ := bindS e
    obtain ⟨ys, e2, e⟩ := bindS e
    cases e
    have hlen := chEs_len hc e1
    match ds, hlen, e1, e2 with
    | [d, d', d''], _, e1, e2 =>
      refine tEs_of R0 e1 fun vs A1 B1 H1 hA1 hB1 R1 h1 => ?_
      cases h1 with | cons h1 h0 =>
      obtain ⟨u, z, rfl, h2, h3⟩ := h0.two
      cases d with
      | int n =>
        cases d' with
        | int m =>
          cases d'' with
          | int c =>
            cases h1; cases h2; cases h3
            simp only [rngD] at e2
            split at e2
            · rename_i ho
              cases e2
              unfold rngOk at ho
              simp only [Bool.and_eq_true, decide_eq_true_eq] at ho
              have hN : Builtin.Range.rangeSize n m c = (rngN n m c : Int) := by
                unfold rngN
                have : 0 ≤ Builtin.Range.rangeSize n m c := by
                  unfold Builtin.Range.rangeSize
                  split
                  · split
                    · have := Int.ediv_nonneg (a := m - n - 1) (b := c) (by omega) (by omega); omega
                    · exact Int.le_refl _
                  · split
                    · have := Int.ediv_nonneg (a := n - m - 1) (b := -c) (by omega) (by omega); omega
                    · exact Int.le_refl _
                omega
              exact ⟨n, m, c, rngN n m c, rfl, ⟨by omega, by omega, ho.2, hN⟩, q _ A1 B1 H1 hA1 hB1 R1 walks_rng⟩
            · cases e2
          | _ => cases e2
        | _ => cases d'' <;> cases e2
      | _ => cases d' <;> cases d'' <;> cases e2
theorem sd_enum (G : GOk P w K mg base k F gl fp kw) (ok : COk P w K mg base k C X) {es : List Expr} {kk : Nat} {tp : Pos} {z : Expr} {p : E} {q0 pos : Pos} (hg : glB C.sc "enumerate" = true) (hs : starB z = true) (h : PE X z (tE K F p)) :
    PI X (.Tuple es kk tp) (.Call (.Name "enumerate" q0) [z] [] pos) (tI K F (.enum p)) := by
  have hK := ok.K
  subst hK
  have hm : X.mg "enumerate" = none := ok.blt G (by decide +kernel)
  refine (pi_enumA (ok.gl hg) hm (sd_cons hs h sd_nil) (star_cons hs)).imp fun σ H R hq => ?_
  obtain ⟨O, A, B, ρ, st, T, xs, ρ', st', R0, e, q⟩ := hq
  simp only [evI] at e
  obtain ⟨⟨d, ρ1, st1⟩, e1, e⟩ := bindS e
  obtain ⟨ys, e2, e⟩ := bindS e
  cases e
  have e3 : evEs F (.cons p .nil) ρ st = some ([d], ρ1, st1) := by simp only [evEs, e1]; rfl
  refine tEs_one R0 e3 fun v A1 B1 H1 hA1 hB1 R1 h1 => ?_
  cases d with
  | lst zs =>
    cases e2
    obtain ⟨a, rfl⟩ := h1.isLst
    obtain ⟨vs, _, g1, _⟩ := h1.lstH R1.ex
    exact ⟨a, vs, rfl, .inl ⟨SqL.of g1, q _ A1 B1 H1 hA1 hB1 R1 (walks_enum h1)⟩⟩
  | tup zs =>
    cases e2
    obtain ⟨a, rfl⟩ := h1.isTup
    obtain ⟨vs, g1, g2⟩ := h1.tupH R1.ex
    exact ⟨a, vs, rfl, .inr ⟨g1, q _ A1 B1 H1 hA1 hB1 R1 (walks_enumT h1)⟩⟩
  | _ => cases e2
theorem sd_zip (G : GOk P w K mg base k F gl fp kw) (ok : COk P w K mg base k C X) {es : List Expr} {kk : Nat} {tp : Pos} {z z' : Expr} {p p' : E} {q0 pos : Pos} (hg : glB C.sc "zip" = true) (hs : starB z = true) (hs' : starB z' = true) (h : PE X z (tE K F p)) (h' : PE X z' (tE K F p')) :
    PI X (.Tuple es kk tp) (.Call (.Name "zip" q0) [z, z'] [] pos) (tI K F (.zip p p')) := by
  have hK := ok.K
  subst hK
  have hm : X.mg "zip" = none := ok.blt G (by decide +kernel)
  refine (pi_zipA (ok.gl hg) hm (sd_cons hs h (sd_cons hs' h' sd_nil)) (star_cons hs) (by rw [star_cons hs']; rfl)).imp fun σ H R hq => ?_
  obtain ⟨O, A, B, ρ, st, T, xs, ρ', st', R0, e, q⟩ := hq
  simp only [evI] at e
  obtain ⟨⟨d, ρ1, st1⟩, e1, e⟩ := bindS e
  obtain ⟨⟨d', ρ2, st2⟩, e2, e⟩ := bindS e
  have e3 : evEs F (.cons p (.cons p' .nil)) ρ st = some ([d, d'], ρ2, st2) := by simp [evEs, e1, e2]
  simp only at e
  refine tEs_of R0 e3 fun vs A1 B1 H1 hA1 hB1 R1 hl => ?_
  obtain ⟨v, u, rfl, k1, k2⟩ := hl.two
  split at e
  · cases e
    obtain ⟨a, rfl⟩ := k1.isLst
    obtain ⟨b, rfl⟩ := k2.isLst
    obtain ⟨vs, _, g1, _⟩ := k1.lstH R1.ex
    obtain ⟨ws, _, g2, _⟩ := k2.lstH R1.ex
    exact ⟨a, b, vs, ws, rfl, .inl ⟨SqL.of g1, SqL.of g2, q _ A1 B1 H1 hA1 hB1 R1 (walks_zip k1 k2)⟩⟩
  · cases e
    obtain ⟨a, rfl⟩ := k1.isTup
    obtain ⟨b, rfl⟩ := k2.isTup
    obtain ⟨vs, g1, _⟩ := k1.tupH R1.ex
    obtain ⟨ws, g2, _⟩ := k2.tupH R1.ex
    exact ⟨a, b, vs, ws, rfl, .inr ⟨g1, g2, q _ A1 B1 H1 hA1 hB1 R1 (walks_zipT k1 k2)⟩⟩
  · cases e
theorem sd_rev (G : GOk P w K mg base k F gl fp kw) (ok : COk P w K mg base k C X) {tg : Expr} {z : Expr} {p : E} {q0 pos : Pos} (hg : glB C.sc "reversed" = true) (hs : starB z = true) (h : PE X z (tE K F p)) :
    PI X tg (.Call (.Name "reversed" q0) [z] [] pos) (tI K F (.rev p)) := by
  have hK := ok.K
  subst hK
  have hm : X.mg "reversed" = none := ok.blt G (by decide +kernel)
  refine (pi_revA (ok.gl hg) hm h (star_cons hs)).imp fun σ H R hq => ?_
  obtain ⟨O, A, B, ρ, st, T, xs, ρ', st', R0, e, q⟩ := hq
  simp only [evI] at e
  obtain ⟨⟨d, ρ1, st1⟩, e1, e⟩ := bindS e
  obtain ⟨ys, e2, e⟩ := bindS e
  cases e
  refine tE_V R0 e1 fun v A1 B1 H1 hA1 hB1 R1 h1 => ?_
  cases d with
  | lst zs =>
    cases e2
    obtain ⟨a, rfl⟩ := h1.isLst
    obtain ⟨vs, _, g1, g2⟩ := h1.lstH R1.ex
    refine ⟨a, vs, rfl, .inl ⟨SqL.of g1, ?_⟩⟩
    rw [g2.length]
    exact q _ A1 B1 H1 hA1 hB1 R1 (walks_rev h1)
  | tup zs =>
    cases e2
    obtain ⟨a, rfl⟩ := h1.isTup
    obtain ⟨vs, g1, g2⟩ := h1.tupH R1.ex
    refine ⟨a, vs, rfl, .inr ⟨g1, ?_⟩⟩
    rw [g2.length]
    exact q _ A1 B1 H1 hA1 hB1 R1 (walks_revT h1)
  | _ => cases e2
end
end Pv

namespace Pv
open PySem PySem.Spec PyProof.Rows L2

section
variable {P : Program} {w : World} {K : PySem.W.Frag} {mg : Str → Option Value} {base : Heap} {k : Nat} {F : Tb} {C : SC} {X : Cx} {gl : Str → Bool} {fp : Str → Bool} {kw : Str → Nat → List Str → List Nat → Bool}
/-! ### targets -/
theorem off_refl (sl : List Nat) (σ : L2.St) : off sl σ σ := ⟨rfl, fun _ _ => rfl⟩
theorem off_set (i : Nat) (σ : L2.St) (y : Option V) : off [i] σ (σ.set i y) := ⟨List.length_set, fun j hj => List.getElem?_set_ne (fun e => hj (by simp [e]))⟩
theorem off.trans {a b : List Nat} {σ σ1 σ2 : L2.St} (h : off a σ σ1) (h' : off b σ1 σ2) : off (a ++ b) σ σ2 :=
  ⟨h'.1.trans h.1, fun j hj => by
    rw [List.mem_append] at hj
    rw [h'.2 j (fun q => hj (.inr q)), h.2 j (fun q => hj (.inl q))]⟩
theorem tG_of {t : Tg} {v : V} {σ : L2.St} {H : Hp} {Q : L2.St → Hp → Prop} {O : Org} {A : List Addr} {B : Hp} {ρ : Env} {st : Sto} {T : List (Addr × List D)} {d : D} {ρ' : Env} {st' : Sto} (R : Rel K O A B σ H ρ st T) (h : Ho K A B v d) (e : evTg F t d ρ st = some (ρ', st'))
    (q : ∀ σ' A' B' H', Px A A' → Ex B B' → off t.slots σ σ' → Rel K O A' B' σ' H' ρ' st' T → Q σ' H') : tG K F t v σ H Q := ⟨O, A, B, ρ, st, T, d, ρ', st', R, h, e, q⟩
theorem asgN_val {i : Nat} {d : D} {ρ ρ' : Env} (h : asgN i false d ρ = some ρ') : i < ρ.length ∧ ρ' = ρ.set i (.val d) := by
  unfold asgN at h
  split at h
  · rename_i hi; cases h; exact ⟨hi, rfl⟩
  · cases h
theorem sd_n (ok : COk P w K mg base k C X) {i : Nat} {x : Str} {pos : Pos} (h : C.store i x = true) : PG X (.Name x pos) (tG K F (.n i)) := by
  unfold SC.store at h
  simp only [Bool.and_eq_true, decide_eq_true_eq] at h
  refine (pg_name (by rw [ok.N]; exact ok.nd) (by rw [ok.N]; exact h.1.1.1) (by rw [ok.sc]; exact loc_of h.1.1.2) (ok.tg x h.1.2)).imp fun v σ H Q hq => ?_
  obtain ⟨O, A, B, ρ, st, T, d, ρ', st', R, hv, e, q⟩ := hq
  simp only [evTg] at e
  obtain ⟨ρ1, e1, e2⟩ := mapS e
  cases e2
  obtain ⟨hi, rfl⟩ := asgN_val e1
  exact q _ A B H (Px.refl _) (Ex.refl _) (off_set i σ _) (R.setVal hv)
theorem Rel.slotL {O : Org} {A : List Addr} {B H : Hp} {σ : L2.St} {ρ : Env} {st : Sto} {T : List (Addr × List D)} (R : Rel K O A B σ H ρ st T) {i : Nat} {s : Sl} {ys : List D} (e : ρ[i]? = some s) (h : slotLst st s = some ys) :
    ∃ a vs, σ[i]? = some (some (.ref a)) ∧ H a = some (.lst vs) ∧ B a = none ∧ HoL K A B vs ys := by
  cases s with
  | no => cases h
  | own xs =>
    cases h
    obtain ⟨a, vs, h1, h2, h3, _⟩ := R.updSlot e
    have ci : cont ρ T st (.s i) = some ys := by simp only [cont, e]
    obtain ⟨a', e', o⟩ := R.own (.s i) ys ci
    simp only [adr, h1] at e'
    cases e'
    exact ⟨a, vs, h1, h2, o.1, h3⟩
  | val d =>
    cases d with
    | hd n =>
      obtain ⟨v, h1, h2⟩ := R.val i _ e
      cases h2 with | hd ha =>
      obtain ⟨a', vs, e1, e2, e3, _⟩ := R.updH (n := n) (xs := ys) h
      rw [ha] at e1; cases e1
      obtain ⟨a', e', o⟩ := R.own (.h n) ys h
      simp only [adr, ha] at e'
      cases e'
      exact ⟨_, vs, h1, e2, o.1, e3⟩
    | _ => cases h
theorem setIx_of {xs : List D} {kx d : D} {ys : List D} (h : setIx xs kx d = some ys) : ∃ i j, kx = .int i ∧ ixN xs.length i = some j ∧ ys = xs.set j d := by
  unfold setIx at h
  cases kx with
  | int i =>
    obtain ⟨j, h1, h2⟩ := mapS h
    exact ⟨i, j, rfl, h1, h2.symm⟩
  | _ => cases h
theorem sd_sub (ok : COk P w K mg base k C X) {i : Nat} {x : Str} {b : Expr} {pb : E} {p pos : Pos} (hv : C.var i x = true) (hb : PE X b (tE K F pb)) (hs : sliceB b = true) : PG X (.Subscript (.Name x p) b pos) (tG K F (.sub i pb)) := by
  refine (pg_sub (ok.var hv) hb set_list (fun v => by rw [assign_Subscript]; cases b <;> first | rfl | (simp [sliceB] at hs))).imp fun v σ H Q hq => ?_
  obtain ⟨O, A, B, ρ, st, T, d, ρ', st', R, hd, e, q⟩ := hq
  simp only [evTg] at e
  obtain ⟨sl0, e1, e⟩ := bindS e
  obtain ⟨ys0, e2, e⟩ := bindS e
  obtain ⟨⟨y, ρ1, st1⟩, e3, e⟩ := bindS e
  obtain ⟨a, vs, h1, _, _, _⟩ := R.slotL e1 e2
  refine ⟨_, h1, tE_V R e3 fun u A2 B2 H2 hA2 hB2 R2 h2 => ?_⟩
  have hd2 := hd.mono hA2 hB2
  unfold asgSub at e
  split at e
  · rename_i xs hz
    obtain ⟨ys, e4, e5⟩ := mapS e
    cases e5
    obtain ⟨j, n, rfl, hj, rfl⟩ := setIx_of e4
    cases h2
    obtain ⟨a2, ws, g1, g2, g3, g4⟩ := R2.updSlot hz
    rw [h1] at g1; cases g1
    exact ⟨a, ws, j, n, rfl, rfl, g2, by rw [g3.length]; exact hj, q σ A2 B2 _ hA2 hB2 (off_refl _ _) (g4 _ _ (g3.set hd2 n))⟩
  · rename_i n hs
    obtain ⟨xs, e4, e5⟩ := bindS e
    obtain ⟨ys, e6, e7⟩ := mapS e5
    cases e7
    obtain ⟨j, m, rfl, hj, rfl⟩ := setIx_of e6
    cases h2
    obtain ⟨v2, g5, g6⟩ := R2.val i _ hs
    rw [h1] at g5; cases g5
    cases g6 with | hd ha =>
    obtain ⟨a2, ws, g1, g2, g3, g4⟩ := R2.updH e4
    rw [ha] at g1; cases g1
    exact ⟨_, ws, j, m, rfl, rfl, g2, by rw [g3.length]; exact hj, q σ A2 B2 _ hA2 hB2 (off_refl _ _) (g4 _ _ (g3.set hd2 m))⟩
  · cases e
theorem asg_list {es : List Expr} {env : PySem.Env} (h : es.all starB = true) : assignEach es env = es.map fun e => (false, assign e env) := by
  induction es with
  | nil => rfl
  | cons e es ih =>
    rw [all_cons_iff] at h
    have : assignEach (e :: es) env = (false, assign e env) :: assignEach es env := by
      have h1 := h.1
      cases e <;> first | rfl | (simp [starB] at h1)
    rw [this, ih h.2]; rfl
theorem chTgs_star : ∀ {ts : Tgs} {es : List Expr}, chTgs C ts es = true → es.all starB = true ∧ es.length = ts.len
  | .nil, [], _ => ⟨rfl, rfl⟩
  | .nil, _ :: _, h => by simp [chTgs] at h
  | .cons t ts, [], h => by simp [chTgs] at h
  | .cons t ts, x :: xs, h => by
    simp only [chTgs, Bool.and_eq_true] at h
    have := chTgs_star h.2
    exact ⟨all_cons_iff.mpr ⟨h.1.1, this.1⟩, by simp [Tgs.len, this.2]⟩
theorem sd_tnil : PGs X [] (tGs K F .nil) := ⟨fun pins s σ H vs us Q I r hq => by
  obtain ⟨O, A, B, ρ, st, T, ds, ρ', st', R, hd, e, q⟩ := hq
  simp only [evTgs] at e
  cases e
  exact PyProof.Rows.assignInOrder_nil ⟨σ, H, I, q σ A B H (Px.refl _) (Ex.refl _) (off_refl _ _) R⟩⟩
theorem sd_tcons {e : Expr} {es : List Expr} {t : Tg} {ts : Tgs} (hs : (e :: es).all starB = true) (h1 : PG X e (tG K F t)) (h2 : PGs X es (tGs K F ts)) : PGs X (e :: es) (tGs K F (.cons t ts)) := by
  refine (pgs_cons h1 h2 (by rw [asg_list hs, asg_list (all_cons_iff.mp hs).2]; rfl)).imp fun vs σ H Q hq => ?_
  obtain ⟨O, A, B, ρ, st, T, ds, ρ', st', R, hd, e, q⟩ := hq
  simp only [evTgs] at e
  cases hd with
  | nil => cases e
  | cons k1 k2 =>
    obtain ⟨⟨ρ1, st1⟩, e1, e⟩ := bindS e
    refine ⟨_, _, rfl, tG_of R k1 e1 fun σ1 A1 B1 H1 hA1 hB1 o1 R1 => ?_⟩
    exact ⟨O, A1, B1, ρ1, st1, T, _, _, _, R1, k2.mono hA1 hB1, e, fun σ2 A2 B2 H2 hA2 hB2 o2 R2 => q σ2 A2 B2 H2 (hA1.trans hA2) (hB1.trans hB2) (o1.trans o2) R2⟩
theorem sd_tupT (ok : COk P w K mg base k C X) {es : List Expr} {j : Nat} {ts : Tgs} {pos : Pos} (hs : es.all starB = true) (hl : es.length = ts.len) (h : PGs X es (tGs K F ts)) : PG X (.Tuple es j pos) (tG K F (.tup ts)) := by
  obtain rfl := ok.K
  refine (pg_tup (n := ts.len) ok.calm h (by rw [asg_list hs, List.length_map, hl]) (by rw [asg_list hs, List.findIdx?_map]; simp [Function.comp_def])).imp fun v σ H Q hq => ?_
  obtain ⟨O, A, B, ρ, st, T, d, ρ', st', R, hd, e, q⟩ := hq
  simp only [evTg] at e
  obtain ⟨ds, e1, e0⟩ := bindS e
  unfold unpack at e1
  split at e1
  · rename_i xs
    split at e1
    · rename_i hl2
      cases e1
      obtain ⟨a, rfl⟩ := hd.isTup
      obtain ⟨vs, g1, g2⟩ := hd.tupH R.ex
      exact ⟨a, vs, rfl, g1, by rw [g2.length]; exact hl2, O, A, B, ρ, st, T, _, _, _, R, g2, e0, q⟩
    · cases e1
  · cases e1

/-! ### calls -/
theorem Rel.back {O : Org} {A A' : List Addr} {B B' H H' : Hp} {σ : L2.St} {ρ : Env} {st st' : Sto} {T : List (Addr × List D)} {fr : Bool} {d : D} {v : V} (R : Rel K O A B σ H ρ st T) (b : Back K A B H A' B' H' st' fr d v) :
    EPost K O σ T ρ st' fr d v A' B' H' ∧ Px A A' ∧ Ex B B' := by
  obtain ⟨fw, S, h⟩ := b
  have R' := R.call fw S
  refine ⟨?_, fw.px, fw.ex⟩
  unfold EPost
  cases fr with
  | false =>
    rw [if_neg Bool.false_ne_true] at h ⊢
    exact ⟨R', h⟩
  | true =>
    rw [if_pos rfl] at h ⊢
    obtain ⟨a, xs, rfl, rfl, o, hn, ha⟩ := h
    refine ⟨a, xs, rfl, rfl, R'.pushNew o (fun r ys c e => ?_) (R.hfresh hn)⟩
    -- a handle is in A'; a slot or a temp was there before
    cases r with
    | h n =>
      simp only [adr] at e
      exact ha (List.mem_of_getElem? e)
    | s i =>
      obtain ⟨a', e', _, vs, h2, _⟩ := R.own (.s i) ys c
      have e2 : adr A σ T (.s i) = some a := e
      rw [e2] at e'; cases e'
      rw [hn] at h2; cases h2
    | t i =>
      obtain ⟨a', e', _, vs, h2, _⟩ := R.own (.t i) ys c
      have e2 : adr A σ T (.t i) = some a := e
      rw [e2] at e'; cases e'
      rw [hn] at h2; cases h2
theorem sd_call (G : GOk P w K mg base k F gl fp kw) (ok : COk P w K mg base k C X) {f : Str} {ys : List Expr} {ps : Es} {q0 pos : Pos} (hg : glB C.sc f = true) (hn : plainName f = true) (hf : fp f = true) (hs : ys.all starB = true) (hps : ys = [] → ps = .nil) (h : PA X ys (tEs K F ps)) :
    PE X (.Call (.Name f q0) ys [] pos) (tE K F (.call f ps)) := by
  obtain ⟨fa, fd, pn, m1, m2, m3, m4, m5⟩ := G.fns f hf
  have hP := ok.prog
  have hw := ok.w
  have hK := ok.K
  have hm := ok.mg
  have hb := ok.base
  subst hP hw hK hm hb
  have main : PE X (.Call (.Name f q0) ys [] pos) (tCall (spOf X.K pn.length (F.F f)) [] E0 (tEs X.K F ps)) := by
    cases ys with
    | nil =>
      have hps := hps rfl
      subst hps
      refine (pe_call0 m4 ok.room (ok.gl hg) m1 m2 m3 .nil pass0 (plain_of hn).1).imp fun σ H Q hq => ?_
      obtain ⟨O, A, B, ρ, st, T, ds, ρ', st', R, e, q⟩ := hq
      simp only [evEs] at e
      cases e
      exact q [] A B H (Px.refl _) (Ex.refl _) R .nil
    | cons y ys =>
      have hs' := all_cons_iff.mp hs
      exact pe_call m4 ok.room (ok.gl hg) m1 m2 m3 .nil pass0 h (plain_of hn).1 (star_cons hs'.1) (back_any hs'.2)
  refine main.imp fun σ H Q hq => ?_
  obtain ⟨O, A, B, ρ, st, T, fr, d, ρ', st', R, e, q⟩ := hq
  simp only [evE] at e
  obtain ⟨⟨ds, ρ1, st1⟩, e1, e⟩ := bindS e
  obtain ⟨⟨fr', d', st2⟩, e2, e3⟩ := mapS e
  cases e3
  refine tEs_of R e1 fun vs A1 B1 H1 hA1 hB1 R1 h1 => ?_
  refine ⟨by rw [List.append_nil, h1.length]; exact m5 _ _ _ e2, A1, B1, st1, ds, fr', d', st2, R1.srel, by rw [List.append_nil]; exact h1, e2, fun v A' B' H' hb => ?_⟩
  obtain ⟨p1, p2, p3⟩ := R1.back hb
  exact q v A' B' H' (hA1.trans p2) (hB1.trans p3) p1
end
end Pv

namespace Pv
open PySem PySem.Spec PyProof.Rows L2

inductive PEs (X : Cx) (K : PySem.W.Frag) (F : Tb) : List Expr → Es → Prop
  | nil : PEs X K F [] .nil
  | cons {e : Expr} {es : List Expr} {p : E} {ps : Es} : starB e = true → PE X e (tE K F p) → PEs X K F es ps → PEs X K F (e :: es) (.cons p ps)
section
variable {P : Program} {w : World} {K : PySem.W.Frag} {mg : Str → Option Value} {base : Heap} {k : Nat} {F : Tb} {C : SC} {X : Cx} {gl : Str → Bool} {fp : Str → Bool} {kw : Str → Nat → List Str → List Nat → Bool}
theorem PEs.pa {es : List Expr} {ps : Es} (h : PEs X K F es ps) : PA X es (tEs K F ps) := by
  induction h with
  | nil => exact sd_nil
  | cons hs he _ ih => exact sd_cons hs he ih
theorem PEs.star {es : List Expr} {ps : Es} (h : PEs X K F es ps) : es.all starB = true := by
  induction h with
  | nil => rfl
  | cons hs he _ ih => exact all_cons_iff.mpr ⟨hs, ih⟩
theorem PEs.nilE {ps : Es} (h : PEs X K F [] ps) : ps = .nil := by cases h; rfl
theorem pk_of : ∀ {kws : List Keyword} {ps : Es}, PEs X K F (kws.map (·.value)) ps → PK X kws (tEs K F ps)
  | [], ps, h => by
    cases h
    exact ⟨fun pos pins s σ H Q I hq => pk_nil.run pos pins s σ H Q I (by
      obtain ⟨O, A, B, ρ, st, T, ds, ρ', st', R, e, q⟩ := hq
      simp only [evEs] at e
      cases e
      exact q [] A B H (Px.refl _) (Ex.refl _) R .nil)⟩
  | ⟨n, v, p⟩ :: kws, ps, h => by
    cases h with | cons hs he ht =>
    exact ⟨fun pos pins s σ H Q I hq => (pk_cons he (pk_of ht)).run pos pins s σ H Q I (by
      obtain ⟨O, A, B, ρ, st, T, ds, ρ', st', R, e, q⟩ := hq
      simp only [evEs] at e
      obtain ⟨⟨x, ρ1, st1⟩, e1, e⟩ := bindS e
      obtain ⟨⟨xs, ρ2, st2⟩, e2, e⟩ := bindS e
      cases e
      refine tE_V R e1 fun v A1 B1 H1 hA1 hB1 R1 h1 => ?_
      exact ⟨O, A1, B1, ρ1, st1, T, xs, _, _, R1, e2, fun vs A2 B2 H2 hA2 hB2 R2 h2 => q _ A2 B2 H2 (hA1.trans hA2) (hB1.trans hB2) R2 (.cons (h1.mono hA2 hB2) h2)⟩)⟩
theorem kw_names {env : PySem.Env} {pos : Pos} : ∀ {kws : List Keyword} {ks : List Str}, kwB kws ks = true → (backToKw pos (keywordEach kws env)).all (·.1.isSome) = true ∧ (backToKw pos (keywordEach kws env)).filterMap (·.1) = ks ∧ kws.length = ks.length ∧ (backToKw pos (keywordEach kws env)).any (·.1.isNone) = false
  | [], [], _ => ⟨rfl, rfl, rfl, rfl⟩
  | [], _ :: _, h => by simp [kwB] at h
  | _ :: _, [], h => by simp [kwB] at h
  | ⟨a, v, p⟩ :: kws, n :: ks, h => by
    simp only [kwB, Bool.and_eq_true, decide_eq_true_eq] at h
    obtain ⟨h1, h2⟩ := h
    subst h1
    obtain ⟨i1, i2, i3, i4⟩ := kw_names (env := env) (pos := pos) h2
    refine ⟨?_, ?_, by simp [i3], ?_⟩
    · show (_ && _) = true
      exact Bool.and_eq_true_iff.mpr ⟨rfl, i1⟩
    · show n :: _ = n :: ks
      exact congrArg (n :: ·) i2
    · show (_ || _) = false
      exact Bool.or_eq_false_iff.mpr ⟨rfl, i4⟩
theorem vals_pick {vs : List V} {us : List Value} (h : Vals vs us) : ∀ perm : List Nat, Vals (perm.filterMap fun j => vs[j]?) (perm.filterMap fun j => us[j]?)
  | [] => .nil
  | j :: perm => by
    rw [List.filterMap_cons, List.filterMap_cons]
    cases e : vs[j]? with
    | none => rw [Vals.none_of h e]; exact vals_pick h perm
    | some v =>
      obtain ⟨u, e2, r⟩ := Vals.get h e
      rw [e2]
      exact .cons r (vals_pick h perm)
theorem hol_pick {A : List Addr} {B : Hp} {vs : List V} {ds : List D} (h : HoL K A B vs ds) : ∀ perm : List Nat, HoL K A B (perm.filterMap fun j => vs[j]?) (perm.filterMap fun j => ds[j]?)
  | [] => .nil
  | j :: perm => by
    rw [List.filterMap_cons, List.filterMap_cons]
    cases e : vs[j]? with
    | none =>
      have : ds[j]? = none := by
        rw [List.getElem?_eq_none_iff] at e ⊢
        rw [← h.length]; exact e
      rw [this]; exact hol_pick h perm
    | some v =>
      obtain ⟨d, e2, r⟩ := h.getV e
      rw [e2]
      exact .cons r (hol_pick h perm)
def pickV (np nk : Nat) (perm : List Nat) (vs zs : List V) : List V := if vs.length = np ∧ zs.length = nk then perm.filterMap fun j => (vs ++ zs)[j]? else []
def pickU (np nk : Nat) (perm : List Nat) (vs zs : List Value) : List Value := if vs.length = np ∧ zs.length = nk then perm.filterMap fun j => (vs ++ zs)[j]? else []
theorem kbinds_of {fd : FuncData} {ps ks : List Str} {np : Nat} {perm : List Nat} (h0 : 0 < ps.length) (h : ∀ (s : Shared) (us ws : List Value), us.length = np → ws.length = ks.length → BindsTo s fd ⟨us, ks.zip ws⟩ (ps.zip (perm.filterMap fun j => (us ++ ws)[j]?)) ∧ (perm.filterMap fun j => (us ++ ws)[j]?).length = ps.length) :
    KBinds K fd ps ks (pickU np ks.length perm) (pickV np ks.length perm) := by
  refine ⟨fun s us ws _ hl => ?_, fun {vs us zs ws} hv hz => ?_⟩
  · unfold pickU at hl ⊢
    split at hl
    · rename_i hc
      rw [if_pos hc]
      exact (h s us ws hc.1 hc.2).1
    · simp at hl; omega
  · unfold pickU pickV
    rw [hv.length, hz.length]
    split
    · exact vals_pick (hv.append hz) perm
    · exact .nil
/-- f(k = v, ..), no positional argument -/
theorem pe_callK0 {CX : CXT} {kk : Nat} {f : Addr} {fd : FuncData} {ps ks : List Str} {sp : Sp} {E : XK} {x : Str} {p pos : Pos} {kws : List Keyword} {tk : TA} {g : List Value → List Value → List Value} {gV : List V → List V → List V}
    (Fo : FnOk X.prog X.w X.K X.mg X.base CX kk f fd ps sp) (hr : Room kk X.A) (hg : Gl X x) (hm : X.mg x = some (.ref f)) (hk : PySem.W.keepIn X.K (.ref f) = true) (hb : KBinds X.K fd ps ks g gV) (hx : Passes CX X E)
    (hkw : PK X kws tk) (hall : (backToKw pos (keywordEach kws X.env)).all (·.1.isSome) = true) (hks : (backToKw pos (keywordEach kws X.env)).filterMap (·.1) = ks)
    (hdb : (x == ("__debug__" : Str)) = false) (hpl : (backToKw pos (keywordEach kws X.env)).any (·.1.isNone) = false) :
    PE X (.Call (.Name x p) [] kws pos) (tCallK sp gV E tNil tk) := by
  refine ⟨fun pins s σ H Q I h => ?_⟩
  refine wpAny_Call_Name_kw (ld_glob I hg hm ?_ hdb)
  refine PySem.W.callWith_KW0 (h₀ := X.base) I.ok.mod.kin hk hall (thn (hkw.run pos pins s σ H _ I h) fun ws s2 ⟨zs, H2, I2, rz, q2⟩ => ⟨I2.kIn, ?_⟩) (by show (false || _) = false; rw [hpl]; rfl)
  rw [hks]
  exact run_fnk Fo hr hb hx I2 .nil rz q2
theorem sd_callk (G : GOk P w K mg base k F gl fp kw) (ok : COk P w K mg base k C X) {f : Str} {ys : List Expr} {kws : List Keyword} {ps kps : Es} {ks : List Str} {perm : List Nat} {q0 pos : Pos} (hg : glB C.sc f = true) (hn : plainName f = true) (hf : kw f ys.length ks perm = true) (hk : kwB kws ks = true)
    (h : PEs X K F ys ps) (h' : PEs X K F (kws.map (·.value)) kps) (hl : ∀ ρ st ds ρ' st', evEs F ps ρ st = some (ds, ρ', st') → ds.length = ys.length) (hl' : ∀ ρ st ds ρ' st', evEs F kps ρ st = some (ds, ρ', st') → ds.length = kws.length) :
    PE X (.Call (.Name f q0) ys kws pos) (tE K F (.callk f ps ks kps perm)) := by
  obtain ⟨fa, fd, pn, m1, m2, m4, m5⟩ := G.kws f _ ks perm hf
  have hP := ok.prog
  have hw := ok.w
  have hK := ok.K
  have hm := ok.mg
  have hb := ok.base
  subst hP hw hK hm hb
  obtain ⟨n1, n2, n3, n4⟩ := kw_names (env := X.env) (pos := pos) hk
  have kb := kbinds_of (K := X.K) m5.1 m5.2.1
  have main : PE X (.Call (.Name f q0) ys kws pos) (tCallK (spOf X.K pn.length (F.F f)) (pickV ys.length ks.length perm) E0 (tEs X.K F ps) (tEs X.K F kps)) := by
    cases ys with
    | nil =>
      have hps := h.nilE
      subst hps
      refine (pe_callK0 m4 ok.room (ok.gl hg) m1 m2 kb pass0 (pk_of h') n1 n2 (plain_of hn).1 n4).imp fun σ H Q hq => ?_
      obtain ⟨O, A, B, ρ, st, T, ds, ρ', st', R, e, q⟩ := hq
      simp only [evEs] at e
      cases e
      exact q [] A B H (Px.refl _) (Ex.refl _) R .nil
    | cons y ys =>
      have hs' := all_cons_iff.mp h.star
      exact pe_callK m4 ok.room (ok.gl hg) m1 m2 kb pass0 h.pa (pk_of h') n1 n2 (plain_of hn).1 (star_cons hs'.1) (by rw [back_any h.star, n4]; rfl)
  refine main.imp fun σ H Q hq => ?_
  obtain ⟨O, A, B, ρ, st, T, fr, d, ρ', st', R, e, q⟩ := hq
  simp only [evE] at e
  obtain ⟨⟨ds, ρ1, st1⟩, e1, e⟩ := bindS e
  obtain ⟨⟨es, ρ2, st2⟩, e2, e⟩ := bindS e
  obtain ⟨⟨fr', d', st3⟩, e3, e4⟩ := mapS e
  cases e4
  refine tEs_of R e1 fun vs A1 B1 H1 hA1 hB1 R1 h1 => ?_
  refine tEs_of R1 e2 fun zs A2 B2 H2 hA2 hB2 R2 h2 => ?_
  have l1 : vs.length = ys.length := by rw [h1.length]; exact hl _ _ _ _ _ e1
  have l2 : zs.length = ks.length := by rw [h2.length, ← n3]; exact hl' _ _ _ _ _ e2
  have pick : HoL X.K A2 B2 (pickV ys.length ks.length perm vs zs) (perm.filterMap fun j => (ds ++ es)[j]?) := by
    unfold pickV
    rw [if_pos ⟨l1, l2⟩]
    exact hol_pick ((h1.mono hA2 hB2).append h2) perm
  refine ⟨?_, A2, B2, st2, _, fr', d', st3, R2.srel, pick, e3, fun v A' B' H' hb => ?_⟩
  · rw [pick.length]; exact m5.2.2 _ _ _ e3
  · obtain ⟨p1, p2, p3⟩ := R2.back hb
    exact q v A' B' H' ((hA1.trans hA2).trans p2) ((hB1.trans hB2).trans p3) p1
/-! ### methods of lists -/
theorem mt_plain (m : Mt) : Slot "list" (mtName m) (mtId m) ∧ typeOf (.builtin (mtId m)) = pure (.type "method_descriptor") := by
  cases m with
  | append => exact ⟨PySem.F.slot_list_append, PySem.F.type_list_append⟩
  | pop => exact ⟨PySem.F.slot_list_pop, PySem.F.type_list_pop⟩
  | popAt => exact ⟨PySem.F.slot_list_pop, PySem.F.type_list_pop⟩
  | extend => exact ⟨PySem.F.slot_list_extend, PySem.F.type_list_extend⟩
/-- the reading of a method's call, its receiver first -/
def tMt (K : PySem.W.Frag) (m : Mt) (to : TE) (t : TA) : TE := fun σ H Q => to σ H fun x H1 => tyV K "list" x H1 ∧ t σ H1 fun xs H2 => rMt K m x xs H2 Q
theorem pe_mt {m : Mt} {o : Expr} {to : TE} {ys : List Expr} {ps : Es} {p q0 : Pos} (ho : PE X o to) (h : PEs X X.K F ys ps) (hc : isCall0 o = false) (hl : (p.endLine == q0.line) = true) (hf : ys.length < 20) (mono : ∀ σ H (Q Q' : VK), (∀ v H, Q v H → Q' v H) → to σ H Q → to σ H Q') : PE X (.Call (.Attribute o (mtName m) p) ys [] q0) (tMt X.K m to (tEs X.K F ps)) := by
  cases ys with
  | nil =>
    have hps := h.nilE
    subst hps
    refine (pe_bm0 PySem.F.plainAttrs_list (mt_plain m).1 (mt_plain m).2 (mtR_all m) ho (attr_base hc) hl).imp fun σ H Q hq => mono σ H _ _ (fun x H1 ht => ?_) hq
    obtain ⟨ht, O, A, B, ρ, st, T, ds, ρ', st', R, e, q⟩ := ht
    simp only [evEs] at e
    cases e
    exact ⟨ht, q [] A B H1 (Px.refl _) (Ex.refl _) R .nil⟩
  | cons y ys =>
    have hs' := all_cons_iff.mp h.star
    exact pe_bm PySem.F.plainAttrs_list (mt_plain m).1 (mt_plain m).2 (mtR_all m) ho h.pa (attr_base hc) (few_ok h.star hf) hl (star_cons hs'.1) (back_any hs'.2)
theorem mthR_of {m : Mt} {i : Nat} {ds : List D} {ρ ρ' : Env} {st st' : Sto} {d : D} (h : mthR m i ds ρ st = some (d, ρ', st')) :
    (∃ xs ys, ρ[i]? = some (.own xs) ∧ mtD m xs ds = some (d, ys) ∧ ρ' = ρ.set i (.own ys) ∧ st' = st) ∨ (∃ n xs ys, ρ[i]? = some (.val (.hd n)) ∧ st[n]? = some xs ∧ mtD m xs ds = some (d, ys) ∧ ρ' = ρ ∧ st' = st.set n ys) := by
  unfold mthR at h
  split at h
  · rename_i xs hx
    obtain ⟨⟨d', ys⟩, e1, e2⟩ := mapS h
    cases e2
    exact .inl ⟨xs, ys, hx, e1, rfl, rfl⟩
  · rename_i n hx
    obtain ⟨xs, e0, h⟩ := bindS h
    obtain ⟨⟨d', ys⟩, e1, e2⟩ := mapS h
    cases e2
    exact .inr ⟨n, xs, ys, hx, e0, e1, rfl, rfl⟩
  · cases h
theorem sd_mth (ok : COk P w K mg base k C X) {m : Mt} {i : Nat} {x : Str} {ys : List Expr} {ps : Es} {p0 p q0 : Pos} (hv : C.var i x = true) (h : PEs X K F ys ps) (hl : (p.endLine == q0.line) = true) (hf : ys.length < 20) :
    PE X (.Call (.Attribute (.Name x p0) (mtName m) p) ys [] q0) (tE K F (.mth m i ps)) := by
  have hK := ok.K
  subst hK
  refine (pe_mt (m := m) (ok.var hv) h rfl hl hf (fun σ H Q Q' hQ hq => by obtain ⟨v, e, q⟩ := hq; exact ⟨v, e, hQ _ _ q⟩)).imp fun σ H Q hq => ?_
  obtain ⟨O, A, B, ρ, st, T, fr, d, ρ', st', R, e, q⟩ := hq
  simp only [evE] at e
  obtain ⟨sl0, e1, e⟩ := bindS e
  obtain ⟨ys0, e2, e⟩ := bindS e
  obtain ⟨⟨ds, ρ1, st1⟩, e3, e⟩ := bindS e
  obtain ⟨⟨d', ρ2, st2⟩, e4, e5⟩ := mapS e
  cases e5
  obtain ⟨a, vs, h1, h2, _, _⟩ := R.slotL e1 e2
  refine ⟨_, h1, .inl ⟨rfl, vs, SqL.of h2⟩, tEs_of R e3 fun us A1 B1 H1 hA1 hB1 R1 hu => ?_⟩
  rcases mthR_of e4 with ⟨xs, zs, g1, g2, rfl, rfl⟩ | ⟨n, xs, zs, g1, g0, g2, rfl, rfl⟩
  · obtain ⟨a2, ws, f1, f2, f3, f4⟩ := R1.updSlot g1
    obtain ⟨a3, _, k1, k2, k3, _⟩ := R1.slotL (ys := xs) g1 rfl
    rw [h1] at f1 k1; cases f1; cases k1
    exact ⟨A1, B1, a, ws, xs, ds, d, zs, rfl, R1.ex, k3, f2, f3, hu, g2, fun v us hv hl => q v _ _ _ hA1 hB1 (.val (f4 _ _ hl) hv)⟩
  · obtain ⟨v2, g5, g6⟩ := R1.val i _ g1
    rw [h1] at g5; cases g5
    cases g6 with | hd ha =>
    obtain ⟨a2, ws, f1, f2, f3, f4⟩ := R1.updH g0
    rw [ha] at f1; cases f1
    obtain ⟨a3, _, k1, k2, k3, _⟩ := R1.slotL (ys := xs) g1 g0
    rw [h1] at k1; cases k1
    exact ⟨A1, B1, _, ws, xs, ds, d, zs, rfl, R1.ex, k3, f2, f3, hu, g2, fun v us hv hl => q v _ _ _ hA1 hB1 (.val (f4 _ _ hl) hv)⟩
theorem sd_mthH (ok : COk P w K mg base k C X) {m : Mt} {o : Expr} {po : E} {ys : List Expr} {ps : Es} {p q0 : Pos} (ho : PE X o (tE K F po)) (hc : isCall0 o = false) (h : PEs X K F ys ps) (hl : (p.endLine == q0.line) = true) (hf : ys.length < 20) :
    PE X (.Call (.Attribute o (mtName m) p) ys [] q0) (tE K F (.mthH m po ps)) := by
  have hK := ok.K
  subst hK
  refine (pe_mt (m := m) ho h hc hl hf (fun σ H Q Q' hQ hq => by
    obtain ⟨O, A, B, ρ, st, T, fr, d, ρ', st', R, e, q⟩ := hq
    exact ⟨O, A, B, ρ, st, T, fr, d, ρ', st', R, e, fun v A' B' H' a b c => hQ _ _ (q v A' B' H' a b c)⟩)).imp fun σ H Q hq => ?_
  obtain ⟨O, A, B, ρ, st, T, fr, d, ρ', st', R, e, q⟩ := hq
  simp only [evE] at e
  obtain ⟨⟨x, ρ1, st1⟩, e1, e⟩ := bindS e
  obtain ⟨⟨ds, ρ2, st2⟩, e2, e⟩ := bindS e
  obtain ⟨⟨d', st3⟩, e3, e4⟩ := mapS e
  cases e4
  cases x with
  | hd n =>
    simp only [mthHR] at e3
    obtain ⟨xs, g0, e3⟩ := bindS e3
    obtain ⟨⟨d2, zs⟩, g2, e4⟩ := mapS e3
    cases e4
    refine tE_V R e1 fun v A1 B1 H1 hA1 hB1 R1 h1 => ?_
    cases h1 with | hd ha =>
    have hn : n < st1.length := by rw [← R1.al]; exact (List.getElem?_eq_some_iff.mp ha).1
    obtain ⟨a0, ws0, f0, f00, _, _⟩ := R1.updH (List.getElem?_eq_getElem hn)
    rw [ha] at f0; cases f0
    refine ⟨.inl ⟨rfl, _, SqL.of f00⟩, tEs_of R1 e2 fun us A2 B2 H2 hA2 hB2 R2 hu => ?_⟩
    have ha2 := hA2 _ _ ha
    obtain ⟨a2, ws, f1, f2, f3, f4⟩ := R2.updH g0
    rw [ha2] at f1; cases f1
    obtain ⟨a3, k1, k2⟩ := R2.own (.h n) xs g0
    simp only [adr, ha2] at k1; cases k1
    exact ⟨A2, B2, _, ws, xs, ds, _, zs, rfl, R2.ex, k2.1, f2, f3, hu, g2, fun v us hv hl => q v _ _ _ (hA1.trans hA2) (hB1.trans hB2) (.val (f4 _ _ hl) hv)⟩
  | _ => cases e3
/-! ### the rest of the expressions -/
theorem in_pre {ok : COk P w X.K mg base k C X} {pa : E} {i : Nat} (neg : Bool) (σ : L2.St) (H : Hp) (Q : VK) (hq : ∃ O A B ρ st T d ρ' st', Rel X.K O A B σ H ρ st T ∧ (∃ x ρ1 st1 sl ys t, vv (evE F pa ρ st) = some (x, ρ1, st1) ∧ ρ1[i]? = some sl ∧ slotSeq st1 sl = some ys ∧ inD x ys = some t ∧ d = D.bl (if neg then !t else t) ∧ ρ' = ρ1 ∧ st' = st1) ∧
      ∀ v A' B' H', Px A A' → Ex B B' → EPost X.K O σ T ρ' st' false d v A' B' H' → Q v H') : tOp (rIn X.K neg) (tE X.K F pa) (tVar i) σ H Q := by
  obtain ⟨O, A, B, ρ, st, T, d, ρ', st', R, ⟨x, ρ1, st1, sl, ys, t, e1, e2, e3, e4, rfl, rfl, rfl⟩, q⟩ := hq
  refine tE_V R e1 fun v A1 B1 H1 hA1 hB1 R1 h1 => ?_
  obtain ⟨b, vs, g1, g2, g3⟩ := R1.sigma e2 e3
  refine ⟨_, g1, b, vs, rfl, g2, ?_⟩
  unfold inD at e4
  split at e4
  · rename_i f
    rw [Bool.and_eq_true] at f
    refine ⟨h1.flatV f.1, g3.flatV f.2, ?_⟩
    rw [inV_of h1 f.1 g3 f.2, Option.some.inj e4]
    have := q (.bl (if neg then !t else t)) _ _ _ hA1 hB1 (.val R1 (.bl _))
    cases neg <;> exact this
  · cases e4
theorem imp_in (ok : COk P w X.K mg base k C X) {pa : E} {i : Nat} {x : Str} (hv : C.var i x = true) (σ : L2.St) (H : Hp) (Q : VK) (hq : tE X.K F (.cmpv .In pa i) σ H Q) : tOp (rIn X.K false) (tE X.K F pa) (tVar i) σ H Q := by
  refine in_pre (ok := ok) false σ H Q ?_
  obtain ⟨O, A, B, ρ, st, T, fr, d, ρ', st', R, e, q⟩ := hq
  simp only [evE] at e
  obtain ⟨⟨x, ρ1, st1⟩, e1, e⟩ := bindS e
  obtain ⟨sl, e2, e⟩ := bindS e
  obtain ⟨ys, e3, e⟩ := bindS e
  obtain ⟨t, e4, e5⟩ := mapS e
  cases e5
  exact ⟨O, A, B, ρ, st, T, _, _, _, R, ⟨x, _, _, sl, ys, t, e1, e2, e3, e4, rfl, rfl, rfl⟩, q⟩
theorem imp_notin (ok : COk P w X.K mg base k C X) {pa : E} {i : Nat} {x : Str} (hv : C.var i x = true) (σ : L2.St) (H : Hp) (Q : VK) (hq : tE X.K F (.cmpv .NotIn pa i) σ H Q) : tOp (rIn X.K true) (tE X.K F pa) (tVar i) σ H Q := by
  refine in_pre (ok := ok) true σ H Q ?_
  obtain ⟨O, A, B, ρ, st, T, fr, d, ρ', st', R, e, q⟩ := hq
  simp only [evE] at e
  obtain ⟨⟨x, ρ1, st1⟩, e1, e⟩ := bindS e
  obtain ⟨sl, e2, e⟩ := bindS e
  obtain ⟨ys, e3, e⟩ := bindS e
  obtain ⟨t, e4, e5⟩ := mapS e
  cases e5
  exact ⟨O, A, B, ρ, st, T, _, _, _, R, ⟨x, _, _, sl, ys, t, e1, e2, e3, e4, rfl, rfl, rfl⟩, q⟩
theorem sd_cmpv (ok : COk P w K mg base k C X) {o : CmpOp} {a : Expr} {pa : E} {i : Nat} {x : Str} {p pos : Pos} (ha : PE X a (tE K F pa)) (hv : C.var i x = true) : PE X (.Compare a [o] [.Name x p] pos) (tE K F (.cmpv o pa i)) := by
  have hK := ok.K
  subst hK
  cases o with
  | In => exact (pe_cmpR op_in_seq ha (ok.var hv) rfl).imp (imp_in ok hv)
  | NotIn => exact (pe_cmpR op_notIn_seq ha (ok.var hv) rfl).imp (imp_notin ok hv)
  | _ =>
    refine ⟨fun pins s σ H Q I hq => ?_⟩
    obtain ⟨O, A, B, ρ, st, T, fr, d, ρ', st', R, e, q⟩ := hq
    simp only [evE] at e
    obtain ⟨⟨x, ρ1, st1⟩, e1, e⟩ := bindS e
    obtain ⟨sl, e2, e⟩ := bindS e
    obtain ⟨ys, e3, e⟩ := bindS e
    cases e
end
end Pv

namespace Pv
open PySem PySem.Spec PyProof.Rows L2

section
variable {P : Program} {w : World} {K : PySem.W.Frag} {mg : Str → Option Value} {base : Heap} {k : Nat} {F : Tb} {C : SC} {X : Cx} {gl : Str → Bool} {fp : Str → Bool} {kw : Str → Nat → List Str → List Nat → Bool}
variable {O : Org} {A : List Addr} {B H : Hp} {σ σ' : L2.St} {ρ : Env} {st : Sto} {T : List (Addr × List D)}
/-! ### wiped slots -/
theorem wipe_get : ∀ (vs : List Nat) (j : Nat), (wipe σ vs)[j]? = if j ∈ vs then (if j < σ.length then some none else none) else σ[j]?
  | [], j => by simp [wipe]
  | v :: vs, j => by
    unfold wipe
    by_cases h : v = j
    · subst h
      rw [if_pos List.mem_cons_self]
      by_cases hl : v < σ.length
      · rw [List.getElem?_set_self (by rw [wipe_length]; exact hl), if_pos hl]
      · rw [if_neg hl, List.getElem?_eq_none (by rw [List.length_set, wipe_length]; omega)]
    · rw [List.getElem?_set_ne h, wipe_get vs j]
      have : (j ∈ v :: vs) ↔ j ∈ vs := by simp [Ne.symm h]
      by_cases hm : j ∈ vs
      · rw [if_pos hm, if_pos (this.mpr hm)]
      · rw [if_neg hm, if_neg (fun z => hm (this.mp z))]
theorem wipeE_get : ∀ (vs : List Nat) (j : Nat), (wipeE ρ vs)[j]? = if j ∈ vs then (if j < ρ.length then some .no else none) else ρ[j]?
  | [], j => by simp [wipeE]
  | v :: vs, j => by
    have hlen : ∀ vs : List Nat, (wipeE ρ vs).length = ρ.length := fun vs => by
      induction vs with
      | nil => rfl
      | cons v vs ih => unfold wipeE; rw [List.length_set, ih]
    unfold wipeE
    by_cases h : v = j
    · subst h
      rw [if_pos List.mem_cons_self]
      by_cases hl : v < ρ.length
      · rw [List.getElem?_set_self (by rw [hlen]; exact hl), if_pos hl]
      · rw [if_neg hl, List.getElem?_eq_none (by rw [List.length_set, hlen]; omega)]
    · rw [List.getElem?_set_ne h, wipeE_get vs j]
      have : (j ∈ v :: vs) ↔ j ∈ vs := by simp [Ne.symm h]
      by_cases hm : j ∈ vs
      · rw [if_pos hm, if_pos (this.mpr hm)]
      · rw [if_neg hm, if_neg (fun z => hm (this.mp z))]
theorem wipe_eq {vs : List Nat} (h : off vs σ σ') : wipe σ' vs = wipe σ vs := by
  apply List.ext_getElem?
  intro j
  rw [wipe_get, wipe_get, h.1]
  by_cases hm : j ∈ vs
  · rw [if_pos hm, if_pos hm]
  · rw [if_neg hm, if_neg hm, h.2 j hm]
theorem off_wipe (σ : L2.St) (vs : List Nat) : off vs σ (wipe σ vs) := ⟨wipe_length σ vs, fun j hj => by rw [wipe_get, if_neg hj]⟩
theorem off.mono {a b : List Nat} (h : off a σ σ') (hs : ∀ j, j ∈ a → j ∈ b) : off b σ σ' := ⟨h.1, fun j hj => h.2 j fun z => hj (hs j z)⟩
theorem Rel.wipe (R : Rel K O A B σ H ρ st T) : ∀ vs : List Nat, Rel K O A B (L2.wipe σ vs) H (wipeE ρ vs) st T
  | [] => R
  | v :: vs => (R.wipe vs).setNo
theorem Rel.unwipe {vs : List Nat} (R : Rel K O A B (L2.wipe σ vs) H (wipeE ρ vs) st T) : Rel K O A B σ H (wipeE ρ vs) st T := by
  refine R.resig (wipe_length σ vs).symm fun j hj => ?_
  rw [wipe_get]
  by_cases hm : j ∈ vs
  · rw [if_pos hm]
    have hl : (wipeE ρ vs).length = σ.length := by rw [← R.len, wipe_length]
    by_cases hj2 : j < σ.length
    · refine absurd ?_ hj
      rw [wipeE_get, if_pos hm, if_pos]
      have hlen : (wipeE ρ vs).length = ρ.length := by
        clear R hj hl hm
        induction vs with
        | nil => rfl
        | cons v vs ih => unfold wipeE; rw [List.length_set, ih]
      omega
    · rw [if_neg hj2, List.getElem?_eq_none (by omega)]
  · rw [if_neg hm]
theorem COk.blk (ok : COk P w K mg base k C X) (scope : Scope) (s : Shared) (H : Hp) (Cc : Addr) (cl : List (Str × Addr)) (fpp : List Addr) (hk : scope.kind = .function) : COk P w K mg base k (C.blk scope) (X.blk s H scope (compEnvC scope cl Cc X.env) fpp) := by
  refine ⟨ok.prog, ok.w, ok.K, ok.mg, ok.base, ok.N, ok.nd, ?_, ok.room, ok.calm, fun x hx => ?_, hk, rfl⟩
  · show relS scope X.env.scope = relS scope C.sc
    rw [ok.sc]
  · have hx : (match scope.names.lookup x with | some .cell => true | some .local => true | _ => false) = true := hx
    split at hx
    · rename_i e
      refine .inl ?_
      show (scope.names.lookup x == some .cell) = true
      rw [e]; rfl
    · rename_i e
      refine .inr ?_
      show (relS scope X.env.scope).names.lookup x = some .local
      exact lookup_relS_keep (by decide) e
    · cases hx
theorem tCo_of {c : Co} {Q : Bool → Hp → Prop} {b : Bool} {ρ' : Env} {st' : Sto} (R : Rel K O A B σ H ρ st T) (e : evC F c ρ st = some (b, ρ', st'))
    (q : ∀ A' B' H', Px A A' → Ex B B' → Rel K O A' B' σ H' ρ' st' T → Q b H') : tCo K F c σ H Q := ⟨O, A, B, ρ, st, T, b, ρ', st', R, e, q⟩
theorem sd_cno : PTs X [] (tCo K F .no) := pts_nil.imp fun σ H Q hq => by
  obtain ⟨O, A, B, ρ, st, T, b, ρ', st', R, e, q⟩ := hq
  simp only [evC] at e
  cases e
  exact q A B H (Px.refl _) (Ex.refl _) R
theorem sd_cso {x : Expr} {c : Cn} (h : PT X x (tCn K F c)) : PTs X [x] (tCo K F (.so c)) := (pts_one h).imp fun σ H Q hq => by
  obtain ⟨O, A, B, ρ, st, T, b, ρ', st', R, e, q⟩ := hq
  simp only [evC] at e
  exact ⟨O, A, B, ρ, st, T, b, ρ', st', R, e, q⟩
/-! ### a list comprehension -/
theorem sd_lc {e tg iter : Expr} {ifs : List Expr} {scope : Scope} {own : List (Str × Nat)} {pe : E} {pt : Tg} {pi : I} {pc : Co} {pos : Pos} (ok : COk P w K mg base k C X) (hb : blkC C.N C.sc scope own = true) (hi : PI X tg iter (tI K F pi))
    (hg : ∀ (s : Shared) (H : Hp) (Cc : Addr) (cl : List (Str × Addr)) (fpp : List Addr), PG (X.blk s H scope (compEnvC scope cl Cc X.env) fpp) tg (tG K F pt))
    (ht : ∀ (s : Shared) (H : Hp) (Cc : Addr) (cl : List (Str × Addr)) (fpp : List Addr), PTs (X.blk s H scope (compEnvC scope cl Cc X.env) fpp) ifs (tCo K F pc))
    (he : ∀ (s : Shared) (H : Hp) (Cc : Addr) (cl : List (Str × Addr)) (fpp : List Addr), PE (X.blk s H scope (compEnvC scope cl Cc X.env) fpp) e (tE K F pe))
    (hs : ∀ x, foldedSetIterable iter X.env x = pure x) (hsl : ∀ j ∈ pt.slots, j ∈ own.map (·.2)) :
    ∀ σ H Q, tE K F (.lc pe pt pi pc own) σ H Q → tLc (tI K F pi) (tG K F pt) (tCo K F pc) (tE K F pe) (own.map (·.2)) σ H Q := by
  intro σ H Q hq
  obtain ⟨O, A, B, ρ, st, T, fr, d, ρ', st', R, ev, q⟩ := hq
  simp only [evE] at ev
  obtain ⟨⟨xs, ρ1, st1⟩, e1, ev⟩ := bindS ev
  obtain ⟨⟨acc, ρ2, st2⟩, e2, ev⟩ := bindS ev
  cases ev
  generalize hvs : own.map (·.2) = vs at *
  refine ⟨O, A, B, ρ, st, T, xs, ρ1, st1, R, e1, fun J A1 B1 H1 hA1 hB1 R1 W1 Dl hD => ?_⟩
  -- the state at turn i, so many turns left
  refine ⟨fun i m H' => ∃ A2 B2 ρa st2' ac, Px A1 A2 ∧ Ex B1 B2 ∧ Rel K O A2 B2 (L2.wipe σ vs) H' (wipeE ρa vs) st2' ((Dl, ac) :: T) ∧ m = xs.length - i ∧ i ≤ xs.length ∧
      lcL (evTg F pt) (evC F pc) (fun ρ st => vv (evE F pe ρ st)) vs (xs.drop i) ac (wipeE ρa vs) st2' = some (acc, ρ2, st2), ⟨xs.length, A1, B1, ρ1, st1, [], Px.refl _, Ex.refl _, ?_, rfl, Nat.zero_le _, e2⟩, ?_⟩
  · exact (R1.wipe vs).push hD .nil
  · rintro i m H' ⟨A2, B2, ρa, st2', ac, hA2, hB2, R2, rfl, hi2, e3⟩
    have wk := W1 i A2 B2 H' hA2 hB2 R2.ex
    by_cases hlt : i < xs.length
    · refine .inr ?_
      have ed : xs[i]? = some xs[i] := List.getElem?_eq_getElem hlt
      obtain ⟨go, turn⟩ := wk.1 _ ed
      rw [List.drop_eq_getElem_cons hlt] at e3
      simp only [lcL] at e3
      obtain ⟨⟨ρ3, st3⟩, e4, e3⟩ := bindS e3
      obtain ⟨⟨b, ρ4, st4⟩, e5, e3⟩ := bindS e3
      refine ⟨go, fun H3 => ∃ A3 B3 ρb st3' ac', Px A1 A3 ∧ Ex B1 B3 ∧ Rel K O A3 B3 (L2.wipe σ vs) H3 (wipeE ρb vs) st3' ((Dl, ac') :: T) ∧
          lcL (evTg F pt) (evC F pc) (fun ρ st => vv (evE F pe ρ st)) vs (xs.drop (i + 1)) ac' (wipeE ρb vs) st3' = some (acc, ρ2, st2), fun H3 hN => ?_, fun x H3 hy => ?_⟩
      · obtain ⟨A3, B3, ρb, st3', ac', h1, h2, h3, h4⟩ := hN
        exact ⟨xs.length - (i + 1), by omega, A3, B3, ρb, st3', ac', h1, h2, h3, rfl, hlt, h4⟩
      · obtain ⟨B3, b1, b2, b3, b4, hx⟩ := turn x H3 hy
        have R3 := R2.grow b1 b2 b3 b4
        refine tG_of R3 hx e4 fun σ4 A4 B4 H4 hA4 hB4 o4 R4 => ?_
        have w4 : L2.wipe σ4 vs = L2.wipe σ vs := by
          rw [wipe_eq (o4.mono hsl)]
          exact wipe_eq (off_wipe σ vs)
        refine ⟨w4, tCo_of R4 e5 fun A5 B5 H5 hA5 hB5 R5 => ?_⟩
        cases b with
        | false =>
          rw [if_neg Bool.false_ne_true]
          have e3 : lcL (evTg F pt) (evC F pc) (fun ρ st => vv (evE F pe ρ st)) vs (xs.drop (i + 1)) ac (wipeE ρ4 vs) st4 = some (acc, ρ2, st2) := e3
          have R6 := R5.wipe vs
          rw [w4] at R6
          exact ⟨A5, B5, ρ4, st4, ac, hA2.trans (hA4.trans hA5), (hB2.trans b1).trans (hB4.trans hB5), R6, e3⟩
        | true =>
          rw [if_pos rfl]
          simp only [if_true] at e3
          obtain ⟨⟨y, ρ5, st5⟩, e6, e3⟩ := bindS e3
          simp only at e3
          split at e3
          · rename_i hl
            refine tE_V R5 e6 fun v A6 B6 H6 hA6 hB6 R6 h6 => ?_
            obtain ⟨_, ws, hw, hwl⟩ := R6.top
            refine ⟨ws, hw, by rw [hwl.length]; exact lim_lt hl, ?_⟩
            have R7 := (R6.updT (hwl.append (.cons h6 .nil))).wipe vs
            rw [w4] at R7
            exact ⟨A6, B6, ρ5, st5, _, hA2.trans ((hA4.trans hA5).trans hA6), (hB2.trans b1).trans ((hB4.trans hB5).trans hB6), R7, e3⟩
          · cases e3
    · have hil : i = xs.length := by omega
      subst hil
      refine .inl ⟨wk.2 (Nat.le_refl _), ?_⟩
      rw [List.drop_length] at e3
      simp only [lcL] at e3
      cases e3
      refine q _ A2 B2 H' (hA1.trans hA2) (hB1.trans hB2) ?_
      unfold EPost
      rw [if_pos rfl]
      exact ⟨Dl, _, rfl, rfl, R2.unwipe⟩
end
end Pv

namespace Pv
open PySem PySem.Spec PyProof.Rows L2

section
variable {P : Program} {w : World} {K : PySem.W.Frag} {mg : Str → Option Value} {base : Heap} {k : Nat} {F : Tb} {C : SC} {X : Cx} {gl : Str → Bool} {fp : Str → Bool} {kw : Str → Nat → List Str → List Nat → Bool}
/-! ### a comprehension of two clauses -/
theorem sd_lc2 {pe : E} {pt pt1 : Tg} {pi pi1 : I} {pc pc1 : Co} {own : List (Str × Nat)} {own1 : List Nat} (hsl : ∀ j ∈ pt.slots, j ∈ own.map (·.2)) (hsl1 : ∀ j ∈ pt1.slots, j ∈ own1) (hs1 : ∀ j ∈ own1, j ∈ own.map (·.2)) :
    ∀ σ H Q, tE K F (.lc2 pe pt pi pc pt1 pi1 pc1 own own1) σ H Q → tLc2 (tI K F pi) (tG K F pt) (tCo K F pc) (tI K F pi1) (tG K F pt1) (tCo K F pc1) (tE K F pe) (own.map (·.2)) own1 σ H Q := by
  intro σ H Q hq
  obtain ⟨O, A, B, ρ, st, T, fr, d, ρ', st', R, ev, q⟩ := hq
  simp only [evE] at ev
  obtain ⟨⟨xs, ρ1, st1⟩, e1, ev⟩ := bindS ev
  obtain ⟨⟨acc, ρ2, st2⟩, e2, ev⟩ := bindS ev
  cases ev
  generalize hvs : own.map (·.2) = vs at *
  refine ⟨O, A, B, ρ, st, T, xs, ρ1, st1, R, e1, fun J A1 B1 H1 hA1 hB1 R1 W1 Dl hD => ?_⟩
  refine ⟨fun i m H' => ∃ A2 B2 ρa st2' ac, Px A1 A2 ∧ Ex B1 B2 ∧ Rel K O A2 B2 (L2.wipe σ vs) H' (wipeE ρa vs) st2' ((Dl, ac) :: T) ∧ m = xs.length - i ∧ i ≤ xs.length ∧
      lcL2 (evTg F pt) (evC F pc) (evI F pi1) (lcL (evTg F pt1) (evC F pc1) (fun ρ st => vv (evE F pe ρ st)) own1) vs own1 (xs.drop i) ac (wipeE ρa vs) st2' = some (acc, ρ2, st2), ⟨xs.length, A1, B1, ρ1, st1, [], Px.refl _, Ex.refl _, ?_, rfl, Nat.zero_le _, e2⟩, ?_⟩
  · exact (R1.wipe vs).push hD .nil
  · rintro i m H' ⟨A2, B2, ρa, st2', ac, hA2, hB2, R2, rfl, hi2, e3⟩
    have wk := W1 i A2 B2 H' hA2 hB2 R2.ex
    by_cases hlt : i < xs.length
    · refine .inr ?_
      have ed : xs[i]? = some xs[i] := List.getElem?_eq_getElem hlt
      obtain ⟨go, turn⟩ := wk.1 _ ed
      rw [List.drop_eq_getElem_cons hlt] at e3
      simp only [lcL2] at e3
      obtain ⟨⟨ρ3, st3⟩, e4, e3⟩ := bindS e3
      obtain ⟨⟨b, ρ4, st4⟩, e5, e3⟩ := bindS e3
      refine ⟨go, fun H3 => ∃ A3 B3 ρb st3' ac', Px A1 A3 ∧ Ex B1 B3 ∧ Rel K O A3 B3 (L2.wipe σ vs) H3 (wipeE ρb vs) st3' ((Dl, ac') :: T) ∧
          lcL2 (evTg F pt) (evC F pc) (evI F pi1) (lcL (evTg F pt1) (evC F pc1) (fun ρ st => vv (evE F pe ρ st)) own1) vs own1 (xs.drop (i + 1)) ac' (wipeE ρb vs) st3' = some (acc, ρ2, st2), fun H3 hN => ?_, fun x H3 hy => ?_⟩
      · obtain ⟨A3, B3, ρb, st3', ac', h1, h2, h3, h4⟩ := hN
        exact ⟨xs.length - (i + 1), by omega, A3, B3, ρb, st3', ac', h1, h2, h3, rfl, hlt, h4⟩
      · obtain ⟨B3, b1, b2, b3, b4, hx⟩ := turn x H3 hy
        have R3 := R2.grow b1 b2 b3 b4
        refine tG_of R3 hx e4 fun σ4 A4 B4 H4 hA4 hB4 o4 R4 => ?_
        have w4 : L2.wipe σ4 vs = L2.wipe σ vs := by
          rw [wipe_eq (o4.mono hsl)]
          exact wipe_eq (off_wipe σ vs)
        refine ⟨w4, tCo_of R4 e5 fun A5 B5 H5 hA5 hB5 R5 => ?_⟩
        cases b with
        | false =>
          rw [if_neg Bool.false_ne_true]
          have R6 := R5.wipe vs
          rw [w4] at R6
          exact ⟨A5, B5, ρ4, st4, ac, hA2.trans (hA4.trans hA5), (hB2.trans b1).trans (hB4.trans hB5), R6, e3⟩
        | true =>
          rw [if_pos rfl]
          simp only [if_true] at e3
          obtain ⟨⟨ys, ρ5, st5⟩, e6, e3⟩ := bindS e3
          obtain ⟨⟨ac2, ρ6, st6⟩, e7, e3⟩ := bindS e3
          refine ⟨O, A5, B5, ρ4, st4, _, ys, ρ5, st5, R5, e6, fun J1 A6 B6 H6 hA6 hB6 R6 W6 => ?_⟩
          have pA6 : Px A1 A6 := hA2.trans ((hA4.trans hA5).trans hA6)
          have pB6 : Ex B1 B6 := (hB2.trans b1).trans ((hB4.trans hB5).trans hB6)
          refine ⟨fun j n H' => ∃ A7 B7 ρb st7 acb, Px A6 A7 ∧ Ex B6 B7 ∧ Rel K O A7 B7 (L2.wipe σ4 own1) H' (wipeE ρb own1) st7 ((Dl, acb) :: T) ∧ n = ys.length - j ∧ j ≤ ys.length ∧
              lcL (evTg F pt1) (evC F pc1) (fun ρ st => vv (evE F pe ρ st)) own1 (ys.drop j) acb (wipeE ρb own1) st7 = some (ac2, ρ6, st6), ⟨ys.length, A6, B6, ρ5, st5, ac, Px.refl _, Ex.refl _, R6.wipe own1, rfl, Nat.zero_le _, e7⟩, ?_⟩
          rintro j n H7 ⟨A7, B7, ρb, st7, acb, hA7, hB7, R7, rfl, hj7, e8⟩
          have wk1 := W6 j A7 B7 H7 hA7 hB7 R7.ex
          by_cases hjl : j < ys.length
          · refine .inr ?_
            have ed1 : ys[j]? = some ys[j] := List.getElem?_eq_getElem hjl
            obtain ⟨go1, turn1⟩ := wk1.1 _ ed1
            rw [List.drop_eq_getElem_cons hjl] at e8
            simp only [lcL] at e8
            obtain ⟨⟨ρ8, st8⟩, f4, e8⟩ := bindS e8
            obtain ⟨⟨b8, ρ9, st9⟩, f5, e8⟩ := bindS e8
            refine ⟨go1, fun H3 => ∃ A3 B3 ρc st3' ac', Px A6 A3 ∧ Ex B6 B3 ∧ Rel K O A3 B3 (L2.wipe σ4 own1) H3 (wipeE ρc own1) st3' ((Dl, ac') :: T) ∧
                lcL (evTg F pt1) (evC F pc1) (fun ρ st => vv (evE F pe ρ st)) own1 (ys.drop (j + 1)) ac' (wipeE ρc own1) st3' = some (ac2, ρ6, st6), fun H3 hN => ?_, fun x1 H8 hy1 => ?_⟩
            · obtain ⟨A3, B3, ρc, st3', ac', h1, h2, h3, h4⟩ := hN
              exact ⟨ys.length - (j + 1), by omega, A3, B3, ρc, st3', ac', h1, h2, h3, rfl, hjl, h4⟩
            · obtain ⟨B8, c1, c2, c3, c4, hx1⟩ := turn1 x1 H8 hy1
              have R8 := R7.grow c1 c2 c3 c4
              refine tG_of R8 hx1 f4 fun σ9 A9 B9 H9 hA9 hB9 o9 R9 => ?_
              have w9 : L2.wipe σ9 own1 = L2.wipe σ4 own1 := by
                rw [wipe_eq (o9.mono hsl1)]
                exact wipe_eq (off_wipe σ4 own1)
              refine ⟨w9, tCo_of R9 f5 fun A10 B10 H10 hA10 hB10 R10 => ?_⟩
              cases b8 with
              | false =>
                rw [if_neg Bool.false_ne_true]
                have R11 := R10.wipe own1
                rw [w9] at R11
                exact ⟨A10, B10, ρ9, st9, acb, hA7.trans (hA9.trans hA10), (hB7.trans c1).trans (hB9.trans hB10), R11, e8⟩
              | true =>
                rw [if_pos rfl]
                simp only [if_true] at e8
                obtain ⟨⟨y, ρ10, st10⟩, f6, e8⟩ := bindS e8
                simp only at e8
                split at e8
                · rename_i hl
                  refine tE_V R10 f6 fun v A11 B11 H11 hA11 hB11 R11 h11 => ?_
                  obtain ⟨_, ws, hw, hwl⟩ := R11.top
                  refine ⟨ws, hw, by rw [hwl.length]; exact lim_lt hl, ?_⟩
                  have R12 := (R11.updT (hwl.append (.cons h11 .nil))).wipe own1
                  rw [w9] at R12
                  exact ⟨A11, B11, ρ10, st10, _, hA7.trans ((hA9.trans hA10).trans hA11), (hB7.trans c1).trans ((hB9.trans hB10).trans hB11), R12, e8⟩
                · cases e8
          · have hjl : j = ys.length := by omega
            subst hjl
            refine .inl ⟨wk1.2 (Nat.le_refl _), ?_⟩
            rw [List.drop_length] at e8
            simp only [lcL] at e8
            cases e8
            have R8 := R7.wipe vs
            have w8 : L2.wipe (L2.wipe σ4 own1) vs = L2.wipe σ vs := by
              rw [wipe_eq ((off_wipe σ4 own1).mono hs1)]
              exact w4
            rw [w8] at R8
            exact ⟨A7, B7, _, _, _, pA6.trans hA7, pB6.trans hB7, R8, e3⟩
    · have hil : i = xs.length := by omega
      subst hil
      refine .inl ⟨wk.2 (Nat.le_refl _), ?_⟩
      rw [List.drop_length] at e3
      simp only [lcL2] at e3
      cases e3
      refine q _ A2 B2 H' (hA1.trans hA2) (hB1.trans hB2) ?_
      unfold EPost
      rw [if_pos rfl]
      exact ⟨Dl, _, rfl, rfl, R2.unwipe⟩
/-! ### isinstance, ranges as lists, a list turned about, chains -/
theorem isi_kit : ∀ a ∈ ["NoneType", "bool", "int", "str", "tuple", "list"], ∀ t ∈ ["int", "str", "bool", "tuple", "list", "dict"], kitB a t = some (a == t || (a == "bool" && t == "int")) := by decide +kernel
theorem isi_boot : ∀ t ∈ ["int", "str", "bool", "tuple", "list", "dict"], bootBuiltins (Str.ofString t) = some (.type t) ∧ Str.ofString t ∈ blts ∧ Str.ofString t ≠ "__name__" ∧ (Str.ofString t == ("__debug__" : Str)) = false := by decide +kernel
theorem ty_mem (d : D) : ty d ∈ ["NoneType", "bool", "int", "str", "tuple", "list"] := by cases d <;> simp [ty]
theorem ty_ho {O : Org} {A : List Addr} {B H : Hp} {σ : L2.St} {ρ : Env} {st : Sto} {T : List (Addr × List D)} {v : V} {d : D} (R : Rel K O A B σ H ρ st T) (h : Ho K A B v d) (hs : ∀ ns, d ≠ .scr ns) : TyX K H v (.type (ty d)) := by
  cases d with
  | non => cases h; exact .base .non
  | bl b => cases h; exact .base (.bl b)
  | int b => cases h; exact .base (.int b)
  | str b => cases h; exact .base (.str b)
  | lst xs =>
    obtain ⟨a, rfl⟩ := h.isLst
    obtain ⟨vs, _, h1, _⟩ := h.lstH R.ex
    exact .base (.lst h1)
  | tup xs =>
    obtain ⟨a, rfl⟩ := h.isTup
    obtain ⟨vs, h1, _⟩ := h.tupH R.ex
    rcases h1 with h1 | ⟨o, its, n, h1, h2, _⟩
    · rcases h1 with h1 | ⟨o, h1⟩
      · exact .base (.tup h1)
      · exact .fTuple h1
    · exact .kTuple h1 h2
  | hd n =>
    cases h with | hd ha =>
    have hn : n < st.length := by rw [← R.al]; exact (List.getElem?_eq_some_iff.mp ha).1
    obtain ⟨a0, ws, f0, f1, _, _⟩ := R.updH (List.getElem?_eq_getElem hn)
    rw [ha] at f0; cases f0
    exact .base (.lst f1)
  | scr ns => exact absurd rfl (hs ns)
theorem ty_name (G : GOk P w K mg base k F gl fp kw) (ok : COk P w K mg base k C X) {t : String} {p : Pos} (ht : t ∈ ["int", "str", "bool", "tuple", "list", "dict"]) (hg : glB C.sc (t : Str) = true) : PE X (.Name (t : Str) p) (L2.tC (.ty t)) := by
  obtain ⟨h1, h2, h3, h4⟩ := isi_boot t ht
  exact pe_bltn (ok.gl hg) (ok.blt G h2) h1 rfl h3 h4
theorem isi_names : ∀ {es : List Expr} {ts : List String}, tyNames es ts = true → (∃ ps : List Pos, es = (ts.zip ps).map fun q => Expr.Name (q.1 : Str) q.2) ∧ (∀ t ∈ ts, t ∈ ["int", "str", "bool", "tuple", "list", "dict"]) ∧ es.all starB = true ∧ es.length = ts.length
  | [], [], _ => ⟨⟨[], rfl⟩, fun _ h => by simp at h, rfl, rfl⟩
  | [], _ :: _, h => by simp [tyNames] at h
  | e :: es, [], h => by cases e <;> simp [tyNames] at h
  | e :: es, t :: ts, h => by
    cases e with
    | Name x p =>
      simp only [tyNames, Bool.and_eq_true, beq_iff_eq] at h
      obtain ⟨⟨rfl, h2⟩, h3⟩ := h
      obtain ⟨⟨ps, rfl⟩, i2, i3, i4⟩ := isi_names h3
      refine ⟨⟨p :: ps, rfl⟩, fun u hu => ?_, all_cons_iff.mpr ⟨rfl, i3⟩, by simp [i4]⟩
      rcases List.mem_cons.mp hu with rfl | hu
      · exact List.contains_iff_mem.mp h2
      · exact i2 u hu
    | _ => simp [tyNames] at h
end
end Pv

namespace Pv
open PySem PySem.Spec PyProof.Rows L2

section
variable {P : Program} {w : World} {K : PySem.W.Frag} {mg : Str → Option Value} {base : Heap} {k : Nat} {F : Tb} {C : SC} {X : Cx} {gl : Str → Bool} {fp : Str → Bool} {kw : Str → Nat → List Str → List Nat → Bool}
def tTys (ts : List String) : TA := fun _ H Q => Q (ts.map V.ty) H
theorem tyGl_of {sc : Scope} : ∀ {ts : List String}, tyGl sc ts = true → ∀ t ∈ ts, glB sc (t : Str) = true
  | [], _, t, h => by simp at h
  | u :: ts, h, t, ht => by
    simp only [tyGl, Bool.and_eq_true] at h
    rcases List.mem_cons.mp ht with rfl | ht
    · exact h.1
    · exact tyGl_of h.2 t ht
theorem pa_tys (G : GOk P w K mg base k F gl fp kw) (ok : COk P w K mg base k C X) : ∀ {es : List Expr} {ts : List String}, tyNames es ts = true → tyGl C.sc ts = true → PA X es (tTys ts)
  | [], [], _, _ => pa_nil
  | [], _ :: _, h, _ => by simp [tyNames] at h
  | e :: es, [], h, _ => by cases e <;> simp [tyNames] at h
  | e :: es, t :: ts, h, hg => by
    cases e with
    | Name x p =>
      simp only [tyNames, Bool.and_eq_true, beq_iff_eq] at h
      obtain ⟨⟨rfl, h2⟩, h3⟩ := h
      simp only [tyGl, Bool.and_eq_true] at hg
      exact pa_cons (ty_name G ok (List.contains_iff_mem.mp h2) hg.1) (pa_tys G ok h3 hg.2) (star_cons rfl)
    | _ => simp [tyNames] at h
theorem kit_any {K : PySem.W.Frag} (d : D) : ∀ {ts : List String}, (∀ t ∈ ts, t ∈ ["int", "str", "bool", "tuple", "list", "dict"]) → PySem.W.kitAny K (.type (ty d)) (ts.map Value.type) = some (isiD ts d)
  | [], _ => kitAny_nil
  | t :: ts, h => by
    have h1 := isi_kit (ty d) (ty_mem d) t (h t List.mem_cons_self)
    have ih := kit_any (K := K) d (ts := ts) fun u hu => h u (List.mem_cons_of_mem _ hu)
    refine kitAny_cons (kit_ty h1) (fun hb => ?_) fun hb => ?_
    · rw [ih]; unfold isiD; rw [List.any_cons, hb]; rfl
    · unfold isiD; rw [List.any_cons, hb]; rfl
theorem paired_tys : ∀ ts : List String, Paired ClsV (ts.map V.ty) (ts.map Value.type)
  | [] => .nil
  | t :: ts => .cons (.ty t) (paired_tys ts)
theorem boot_isi : bootBuiltins "isinstance" = some (.builtin "isinstance") ∧ (("isinstance" : Str) ∈ blts) ∧ ("isinstance" : Str) ≠ "__name__" ∧ (("isinstance" : Str) == ("__debug__" : Str)) = false := by decide +kernel
theorem isi_ev {p : E} {ts : List String} {m : Bool} {ρ : Env} {st : Sto} {fr : Bool} {d : D} {ρ' : Env} {st' : Sto} (e : evE F (.isi p ts m) ρ st = some (fr, d, ρ', st')) : ∃ x, vv (evE F p ρ st) = some (x, ρ', st') ∧ (∀ ns, x ≠ .scr ns) ∧ fr = false ∧ d = .bl (isiD ts x) := by
  simp only [evE] at e
  obtain ⟨⟨x, ρ1, st1⟩, e1, e⟩ := bindS e
  cases x <;> first | (cases e; done) | (cases e; exact ⟨_, e1, fun _ z => (by cases z), rfl, rfl⟩)
theorem sd_isiT (G : GOk P w K mg base k F gl fp kw) (ok : COk P w K mg base k C X) {y : Expr} {es : List Expr} {p : E} {ts : List String} {q0 pos tp : Pos} {j : Nat} (hg : glB C.sc "isinstance" = true) (hs : starB y = true) (h : PE X y (tE K F p)) (h1 : tyNames es ts = true) (h2 : tyGl C.sc ts = true) (hlen : es.length < 10) :
    PE X (.Call (.Name "isinstance" q0) [y, .Tuple es j tp] [] pos) (tE K F (.isi p ts true)) := by
  have hK := ok.K
  subst hK
  obtain ⟨b1, b2, b3, b4⟩ := boot_isi
  obtain ⟨_, i2, i3, i4⟩ := isi_names h1
  refine (pe_callB call_isiT (ok.gl hg) (ok.blt G b2) b1 (pa_cons h (pa_cons (pe_tup (pa_tys G ok h1 h2)) pa_nil (star_cons rfl)) (star_cons hs)) b3 b4 (star_cons hs) (back_any (es := [_]) rfl)).imp fun σ H Q hq => ?_
  obtain ⟨O, A, B, ρ, st, T, fr, d, ρ', st', R, e, q⟩ := hq
  obtain ⟨x, e1, e2, rfl, rfl⟩ := isi_ev e
  refine tE_V R e1 fun v A1 B1 H1 hA1 hB1 R1 hv => ?_
  refine ⟨?_, fun t ht => ?_⟩
  · rw [List.length_map, sizeLine_eq]
    omega
  · have R2 := R1.waste (o := .tup (ts.map V.ty)) ht
    exact ⟨v, t, ts.map V.ty, _, ts.map Value.type, isiD ts x, rfl, upd_same, paired_tys ts, ty_ho R2 hv e2, kit_any x i2, q _ _ _ _ hA1 hB1 (.val R2 (.bl _))⟩
theorem sd_isi1 (G : GOk P w K mg base k F gl fp kw) (ok : COk P w K mg base k C X) {y t0 : Expr} {p : E} {ts : List String} {q0 pos : Pos} (hg : glB C.sc "isinstance" = true) (hs : starB y = true) (h : PE X y (tE K F p)) (h1 : tyNames [t0] ts = true) (h2 : tyGl C.sc ts = true) :
    PE X (.Call (.Name "isinstance" q0) [y, t0] [] pos) (tE K F (.isi p ts false)) := by
  have hK := ok.K
  subst hK
  obtain ⟨b1, b2, b3, b4⟩ := boot_isi
  obtain ⟨_, i2, i3, i4⟩ := isi_names h1
  refine (pe_callB call_isi (ok.gl hg) (ok.blt G b2) b1 (pa_cons h (pa_tys G ok h1 h2) (star_cons hs)) b3 b4 (star_cons hs) (back_any i3)).imp fun σ H Q hq => ?_
  obtain ⟨O, A, B, ρ, st, T, fr, d, ρ', st', R, e, q⟩ := hq
  obtain ⟨x, e1, e2, rfl, rfl⟩ := isi_ev e
  refine tE_V R e1 fun v A1 B1 H1 hA1 hB1 R1 hv => ?_
  match ts, i4 with
  | [t], _ =>
    have hk : kitB (ty x) t = some (isiD [t] x) := by
      rw [isi_kit (ty x) (ty_mem x) t (i2 t List.mem_cons_self)]
      unfold isiD; simp
    exact ⟨v, .ty t, _, _, isiD [t] x, rfl, .ty t, ty_ho R1 hv e2, kit_ty hk, q _ _ _ _ hA1 hB1 (.val R1 (.bl _))⟩
/-! ### ranges as lists and tuples -/
theorem rgV_ho {K : PySem.W.Frag} {A : List Addr} {B : Hp} {a b : Int} : HoL K A B (rgV a b) (rngL a b 1) := by
  unfold rgV rngL
  have hn : rngN a b 1 = (b - a).toNat := by unfold rngN; rw [PyProof.Rows.rangeSize_nat]; exact Int.toNat_natCast _
  rw [hn]
  generalize (b - a).toNat = n
  have : ∀ l : List Nat, HoL K A B (l.map fun i => V.int (a + (i : Nat))) (l.map fun (i : Nat) => D.int (a + (i : Int) * 1)) := fun l => by
    induction l with
    | nil => exact .nil
    | cons x l ih => rw [List.map_cons, List.map_cons, Int.mul_one]; exact .cons (.int _) ih
  exact this _
theorem prg_of (G : GOk P w K mg base k F gl fp kw) (ok : COk P w K mg base k C X) {zs : List Expr} {ps : Es} {q0 pos : Pos} (hg : glB C.sc "range" = true) (hc : chEs C ps zs = true) (hl : zs.length = 1 ∨ zs.length = 2) (h : PEs X K F zs ps) :
    ∃ t, PRg X (.Call (.Name "range" q0) zs [] pos) t ∧ ∀ σ H O A B ρ st T ds ρ' st' xs (Q : Int → Int → Hp → Prop), Rel K O A B σ H ρ st T → evEs F ps ρ st = some (ds, ρ', st') → rngD ds = some xs →
      (∀ a b A' B' H', Px A A' → Ex B B' → Rel K O A' B' σ H' ρ' st' T → xs = rngL a b 1 → rngOk a b 1 = true → Q a b H') → t σ H Q := by
  have hm : X.mg "range" = none := ok.blt G (by decide +kernel)
  match zs, hl, h, hc with
  | [a], _, h, hc =>
    cases h with | cons s1 p1 t1 =>
    cases t1
    refine ⟨_, prg_1 (ok.gl hg) hm p1 (star_cons s1), fun σ H O A B ρ st T ds ρ' st' xs Q R e1 e2 q => ?_⟩
    simp only [evEs] at e1
    obtain ⟨⟨x, ρ1, st1⟩, f1, e1⟩ := bindS e1
    obtain ⟨⟨xs', ρ2, st2⟩, f2, e1⟩ := bindS e1
    cases f2
    cases e1
    refine tE_V R f1 fun v A1 B1 H1 hA1 hB1 R1 hv => ?_
    cases x with
    | int n =>
      cases hv
      simp only [rngD] at e2
      split at e2
      · rename_i ho
        cases e2
        exact ⟨n, rfl, q 0 n A1 B1 H1 hA1 hB1 R1 rfl ho⟩
      · cases e2
    | _ => cases e2
  | [a, b], _, h, hc =>
    cases h with | cons s1 p1 t1 =>
    cases t1 with | cons s2 p2 t2 =>
    cases t2
    refine ⟨_, prg_2 (ok.gl hg) hm p1 p2 (star_cons s1) (star_cons s2) (back_any (all_cons_iff.mpr ⟨s2, rfl⟩)), fun σ H O A B ρ st T ds ρ' st' xs Q R e1 e2 q => ?_⟩
    simp only [evEs] at e1
    obtain ⟨⟨x, ρ1, st1⟩, f1, e1⟩ := bindS e1
    obtain ⟨⟨xs', ρ2, st2⟩, f2, e1⟩ := bindS e1
    cases e1
    obtain ⟨⟨y, ρ3, st3⟩, f3, f2⟩ := bindS f2
    obtain ⟨⟨ys', ρ4, st4⟩, f4, f2⟩ := bindS f2
    cases f4
    cases f2
    refine tE_V R f1 fun v A1 B1 H1 hA1 hB1 R1 hv => ?_
    refine tE_V R1 f3 fun u A2 B2 H2 hA2 hB2 R2 hu => ?_
    cases x with
    | int n =>
      cases y with
      | int m =>
        cases hv; cases hu
        simp only [rngD] at e2
        split at e2
        · rename_i ho
          cases e2
          exact ⟨n, m, rfl, rfl, q n m A2 B2 H2 (hA1.trans hA2) (hB1.trans hB2) R2 rfl ho⟩
        · cases e2
      | _ => cases e2
    | _ => cases y <;> cases e2
theorem rgOk_of {a b : Int} (h : rngOk a b 1 = true) (hl : (rngL a b 1).length ≤ lim) : RgOk a b := by
  unfold rngOk at h
  simp only [Bool.and_eq_true, decide_eq_true_eq] at h
  unfold rngL at hl
  rw [List.length_map, List.length_range] at hl
  have hn : rngN a b 1 = (b - a).toNat := by unfold rngN; rw [PyProof.Rows.rangeSize_nat]; exact Int.toNat_natCast _
  rw [hn] at hl
  unfold lim at hl
  unfold RgOk
  omega
theorem sd_lrng (G : GOk P w K mg base k F gl fp kw) (ok : COk P w K mg base k C X) {zs : List Expr} {ps : Es} {q0 q1 p1 pos : Pos} (hg0 : glB C.sc "list" = true) (hg : glB C.sc "range" = true) (hc : chEs C ps zs = true) (hl : zs.length = 1 ∨ zs.length = 2) (h : PEs X K F zs ps) :
    PE X (.Call (.Name "list" q1) [.Call (.Name "range" q0) zs [] p1] [] pos) (tE K F (.lrng ps)) := by
  obtain ⟨t, ht, tw⟩ := prg_of (q0 := q0) (pos := p1) G ok hg hc hl h
  refine (pe_listRg ok.calm (ok.gl hg0) (ok.blt G (by decide +kernel)) ht (star_cons rfl)).imp fun σ H Q hq => ?_
  obtain ⟨O, A, B, ρ, st, T, fr, d, ρ', st', R, e, q⟩ := hq
  simp only [evE] at e
  obtain ⟨⟨ds, ρ1, st1⟩, e1, e⟩ := bindS e
  obtain ⟨xs, e2, e⟩ := bindS e
  split at e
  · rename_i hl
    cases e
    refine tw σ H O A B ρ st T ds _ _ _ _ R e1 e2 fun a b A' B' H' hA hB R' hx ho => ?_
    subst hx
    exact ⟨rgOk_of ho hl.1, fun p hp => q _ _ _ _ hA hB (.new R' hp rgV_ho)⟩
  · cases e
theorem sd_trng (G : GOk P w K mg base k F gl fp kw) (ok : COk P w K mg base k C X) {zs : List Expr} {ps : Es} {q0 q1 p1 pos : Pos} (hg0 : glB C.sc "tuple" = true) (hg : glB C.sc "range" = true) (hc : chEs C ps zs = true) (hl : zs.length = 1 ∨ zs.length = 2) (h : PEs X K F zs ps) :
    PE X (.Call (.Name "tuple" q1) [.Call (.Name "range" q0) zs [] p1] [] pos) (tE K F (.trng ps)) := by
  obtain ⟨t, ht, tw⟩ := prg_of (q0 := q0) (pos := p1) G ok hg hc hl h
  refine (pe_tupRg ok.calm (ok.gl hg0) (ok.blt G (by decide +kernel)) ht (star_cons rfl)).imp fun σ H Q hq => ?_
  obtain ⟨O, A, B, ρ, st, T, fr, d, ρ', st', R, e, q⟩ := hq
  simp only [evE] at e
  obtain ⟨⟨ds, ρ1, st1⟩, e1, e⟩ := bindS e
  obtain ⟨xs, e2, e⟩ := bindS e
  split at e
  · rename_i hl
    cases e
    refine tw σ H O A B ρ st T ds _ _ _ _ R e1 e2 fun a b A' B' H' hA hB R' hx ho => ?_
    subst hx
    exact ⟨rgOk_of ho hl.1, fun p hp => q _ _ _ _ hA (hB.trans (Ex.new (R'.bfresh hp))) (.tup R' hp rgV_ho)⟩
  · cases e
/-! ### a list turned about -/
theorem sd_slr (ok : COk P w K mg base k C X) {x : Expr} {p : E} {j : Nat} {p1 p2 p3 pos : Pos} (h : PE X x (tE K F p)) : PE X (.Subscript x (.Slice none none (some (.UnaryOp .USub (.Constant (.int 1) j p1) p2)) p3) pos) (tE K F (.slr p)) := by
  have hK := ok.K
  subst hK
  refine (pe_revA h).imp fun σ H Q hq => ?_
  obtain ⟨O, A, B, ρ, st, T, fr, d, ρ', st', R, e, q⟩ := hq
  simp only [evE] at e
  obtain ⟨⟨y, ρ1, st1⟩, e1, e⟩ := bindS e
  obtain ⟨e, rfl, rfl⟩ := upS e
  refine tE_V R e1 fun v A1 B1 H1 hA1 hB1 R1 hv => ?_
  cases y with
  | lst xs =>
    cases e
    obtain ⟨a, rfl⟩ := hv.isLst
    obtain ⟨vs, _, g1, g2⟩ := hv.lstH R1.ex
    exact ⟨a, vs, rfl, .inl ⟨SqL.of g1, fun p hp => q _ _ _ _ hA1 hB1 (.new R1 hp g2.reverse)⟩⟩
  | tup xs =>
    cases e
    obtain ⟨a, rfl⟩ := hv.isTup
    obtain ⟨vs, g1, g2⟩ := hv.tupH R1.ex
    exact ⟨a, vs, rfl, .inr ⟨g1, fun p hp => q _ _ _ _ hA1 (hB1.trans (Ex.new (R1.bfresh hp))) (.tup R1 hp g2.reverse)⟩⟩
  | _ => cases e
end
end Pv

namespace Pv
open PySem PySem.Spec PyProof.Rows L2

section
variable {P : Program} {w : World} {K : PySem.W.Frag} {mg : Str → Option Value} {base : Heap} {k : Nat} {F : Tb} {gl : Str → Bool} {fp : Str → Bool} {kw : Str → Nat → List Str → List Nat → Bool}
theorem imp_chain {o o' : CmpOp} {pa pb pc : E} (σ : L2.St) (H : Hp) (Q : VK) (hq : tE K F (.chain o o' pa pb pc) σ H Q) : tChain (rCm K (cmpD o)) (rCm K (cmpD o')) (tE K F pa) (tE K F pb) (tE K F pc) σ H Q := by
  obtain ⟨O, A, B, ρ, st, T, fr, d, ρ', st', R, e, q⟩ := hq
  simp only [evE] at e
  obtain ⟨⟨x, ρ1, st1⟩, e1, e⟩ := bindS e
  obtain ⟨⟨y, ρ2, st2⟩, e2, e⟩ := bindS e
  obtain ⟨t, e3, e⟩ := bindS e
  refine tE_V R e1 fun v A1 B1 H1 hA1 hB1 R1 h1 => ?_
  refine tE_V R1 e2 fun u A2 B2 H2 hA2 hB2 R2 h2 => ?_
  refine ⟨A2, B2, x, y, t, R2.ex, h1.mono hA2 hB2, h2, e3, t, rfl, ?_⟩
  cases t with
  | false =>
    rw [if_neg Bool.false_ne_true] at e ⊢
    cases e
    exact q _ _ _ _ (hA1.trans hA2) (hB1.trans hB2) (.val R2 (.bl _))
  | true =>
    rw [if_pos rfl] at e ⊢
    obtain ⟨⟨z, ρ3, st3⟩, e4, e⟩ := bindS e
    obtain ⟨t', e5, e6⟩ := mapS e
    cases e6
    refine tE_V R2 e4 fun z' A3 B3 H3 hA3 hB3 R3 h3 => ?_
    exact ⟨A3, B3, y, z, t', R3.ex, h2.mono hA3 hB3, h3, e5, q _ _ _ _ ((hA1.trans hA2).trans hA3) ((hB1.trans hB2).trans hB3) (.val R3 (.bl _))⟩
theorem sd_chain {C : SC} {X : Cx} (ok : COk P w K mg base k C X) {o o' : CmpOp} {a b c : Expr} {pa pb pc : E} {pos : Pos} (ha : PE X a (tE K F pa)) (hb : PE X b (tE K F pb)) (hc : PE X c (tE K F pc)) (hs : setB c = false) : PE X (.Compare a [o, o'] [b, c] pos) (tE K F (.chain o o' pa pb pc)) := by
  have hK := ok.K
  subst hK
  exact (pe_chain (opR_cmp o ok.units) (opR_cmp o' ok.units) ha hb hc (setB_in hs)).imp imp_chain
/-- a test whose value is a truth value -/
theorem imp_test {p : E} (hp : ∀ ρ st fr d ρ' st', evE F p ρ st = some (fr, d, ρ', st') → fr = false ∧ ∃ t, d = .bl t) (σ : L2.St) (H : Hp) (Q : Bool → Hp → Prop) (hq : tCn K F (.e p) σ H Q) : tE K F p σ H (fun x H' => ∃ k, x = .bl k ∧ Q k H') := by
  obtain ⟨O, A, B, ρ, st, T, b, ρ', st', R, e, q⟩ := hq
  simp only [evT] at e
  obtain ⟨⟨x, ρ1, st1⟩, e1, e⟩ := bindS e
  obtain ⟨t, e2, e⟩ := bindS e
  cases e
  obtain ⟨⟨fr, r⟩, e3, e4⟩ := mapS e1
  cases e4
  obtain ⟨rfl, t', rfl⟩ := hp _ _ _ _ _ _ e3
  cases e2
  refine tE_V R e1 fun v A' B' H' hA hB R' hv => ?_
  cases hv
  exact ⟨b, rfl, q A' B' H' hA hB R'⟩
theorem chain_fr {o o' : CmpOp} {pa pb pc : E} : ∀ ρ st fr d ρ' st', evE F (.chain o o' pa pb pc) ρ st = some (fr, d, ρ', st') → fr = false ∧ ∃ t, d = .bl t := by
  intro ρ st fr d ρ' st' e
  simp only [evE] at e
  obtain ⟨⟨x, ρ1, st1⟩, e1, e⟩ := bindS e
  obtain ⟨⟨y, ρ2, st2⟩, e2, e⟩ := bindS e
  obtain ⟨t, e3, e⟩ := bindS e
  cases t with
  | false => cases e; exact ⟨rfl, _, rfl⟩
  | true =>
    rw [if_pos rfl] at e
    obtain ⟨⟨z, ρ3, st3⟩, e4, e⟩ := bindS e
    obtain ⟨t', e5, e6⟩ := mapS e
    cases e6
    exact ⟨rfl, _, rfl⟩
theorem cmpv_fr {o : CmpOp} {pa : E} {i : Nat} : ∀ ρ st fr d ρ' st', evE F (.cmpv o pa i) ρ st = some (fr, d, ρ', st') → fr = false ∧ ∃ t, d = .bl t := by
  intro ρ st fr d ρ' st' e
  simp only [evE] at e
  obtain ⟨⟨x, ρ1, st1⟩, e1, e⟩ := bindS e
  obtain ⟨sl, e2, e⟩ := bindS e
  obtain ⟨ys, e3, e⟩ := bindS e
  cases o <;> first | (cases e; done) | (obtain ⟨t, e4, e5⟩ := mapS e; cases e5; exact ⟨rfl, _, rfl⟩)
theorem sd_chainT {C : SC} {X : Cx} (ok : COk P w K mg base k C X) {o o' : CmpOp} {a b c : Expr} {pa pb pc : E} {pos : Pos} (ha : PE X a (tE K F pa)) (hb : PE X b (tE K F pb)) (hc : PE X c (tE K F pc)) (hs : setB c = false) : PT X (.Compare a [o, o'] [b, c] pos) (tCn K F (.e (.chain o o' pa pb pc))) := by
  have hK := ok.K
  subst hK
  exact (pt_chain (opR_cmp o ok.units) (opR_cmp o' ok.units) ha hb hc (setB_in hs)).imp fun σ H Q hq => imp_chain σ H _ (imp_test chain_fr σ H Q hq)
theorem sd_cmpvT {C : SC} {X : Cx} (ok : COk P w K mg base k C X) {o : CmpOp} {a : Expr} {pa : E} {i : Nat} {x : Str} {p pos : Pos} (ha : PE X a (tE K F pa)) (hv : C.var i x = true) : PT X (.Compare a [o] [.Name x p] pos) (tCn K F (.e (.cmpv o pa i))) := by
  have hK := ok.K
  subst hK
  cases o with
  | In => exact (pt_cmpR op_in_seq ha (ok.var hv) rfl).imp fun σ H Q hq => imp_in ok hv σ H _ (imp_test cmpv_fr σ H Q hq)
  | NotIn => exact (pt_cmpR op_notIn_seq ha (ok.var hv) rfl).imp fun σ H Q hq => imp_notin ok hv σ H _ (imp_test cmpv_fr σ H Q hq)
  | _ =>
    refine ⟨fun pins s σ H Q I hq => ?_⟩
    obtain ⟨O, A, B, ρ, st, T, b, ρ', st', R, e, q⟩ := hq
    simp only [evT, evE] at e
    obtain ⟨⟨x, ρ1, st1⟩, e1, e⟩ := bindS e
    obtain ⟨⟨fr, r⟩, e3, e4⟩ := mapS e1
    obtain ⟨⟨x, ρ1, st1⟩, e1, e⟩ := bindS e3
    obtain ⟨sl, e2, e⟩ := bindS e
    obtain ⟨ys, e3, e⟩ := bindS e
    cases e
theorem and1 {a b : Bool} (h : (a && b) = true) : a = true ∧ b = true := Bool.and_eq_true_iff.mp h
theorem setB_of {e : Expr} (h : (!setB e) = true) : setB e = false := by simpa using h
theorem fold_ok {e : Expr} (h : setB e = false) (env : PySem.Env) : ∀ x, foldedSetIterable e env x = pure x := by
  intro x
  cases e <;> first | rfl | (simp [setB] at h)
theorem blk_kind {N : List Str} {sc scope : Scope} {own : List (Str × Nat)} (h : blkC N sc scope own = true) : scope.kind = .function := (blkOk_by h).kind
theorem chI_set {C : SC} {p : I} {tg x : Expr} (h : chI C p tg x = true) : setB x = false := by
  cases p with
  | val e => simp only [chI, Bool.and_eq_true] at h; exact setB_of h.2
  | rng es => cases x <;> first | rfl | (simp [chI] at h)
  | enum e => cases tg <;> cases x <;> first | rfl | (simp [chI] at h)
  | zip a b => cases tg <;> cases x <;> first | rfl | (simp [chI] at h)
  | rev e => cases x <;> first | rfl | (simp [chI] at h)
theorem all_contains {xs ys : List Nat} (h : (xs.all fun j => ys.contains j) = true) : ∀ j ∈ xs, j ∈ ys := fun j hj => List.contains_iff_mem.mp (List.all_eq_true.mp h j hj)

abbrev Tied (gl : Str → Bool) (fp : Str → Bool) (kw : Str → Nat → List Str → List Nat → Bool) (C : SC) : Prop := C.gl = gl ∧ C.fp = fp ∧ C.kw = kw
mutual
theorem sdE (G : GOk P w K mg base k F gl fp kw) : ∀ (p : E) (C : SC) (X : Cx) (e : Expr), COk P w K mg base k C X → Tied gl fp kw C → chE C p e = true → PE X e (tE K F p)
  | .v i, C, X, e, ok, tie, h => by
    cases e <;> first | (simp [chE] at h; done) | skip
    exact sd_v ok h
  | .k d, C, X, e, ok, tie, h => by
    cases e <;> first | (simp [chE] at h; done) | skip
    exact sd_k h
  | .g x, C, X, e, ok, tie, h => by
    cases e <;> first | (simp [chE] at h; done) | skip
    simp only [chE, Bool.and_eq_true, beq_iff_eq] at h
    obtain ⟨⟨⟨rfl, h2⟩, h3⟩, h4⟩ := h
    exact sd_g G ok h2 (by rw [← tie.1]; exact h3) h4
  | .op o a b, C, X, e, ok, tie, h => by
    cases e <;> first | (simp [chE] at h; done) | skip
    simp only [chE, Bool.and_eq_true, decide_eq_true_eq] at h
    obtain ⟨⟨rfl, h2⟩, h3⟩ := h
    exact sd_op ok (sdE G a C X _ ok tie h2) (sdE G b C X _ ok tie h3)
  | .cmp o a b, C, X, e, ok, tie, h => by
    simp only [chE] at h
    split at h
    · simp only [Bool.and_eq_true, decide_eq_true_eq] at h
      obtain ⟨⟨⟨rfl, h2⟩, h3⟩, h4⟩ := h
      exact sd_cmp ok (sdE G a C X _ ok tie h2) (sdE G b C X _ ok tie h3) (setB_of h4)
    · cases h
  | .cmpv o a i, C, X, e, ok, tie, h => by
    simp only [chE] at h
    split at h
    · simp only [Bool.and_eq_true, decide_eq_true_eq] at h
      obtain ⟨⟨rfl, h2⟩, h3⟩ := h
      exact sd_cmpv ok (sdE G a C X _ ok tie h2) h3
    · cases h
  | .chain o o' a b c, C, X, e, ok, tie, h => by
    simp only [chE] at h
    split at h
    · simp only [Bool.and_eq_true, decide_eq_true_eq] at h
      obtain ⟨⟨⟨⟨⟨⟨rfl, rfl⟩, h2⟩, h3⟩, h4⟩, h5⟩, h6⟩ := h
      exact sd_chain ok (sdE G a C X _ ok tie h2) (sdE G b C X _ ok tie h3) (sdE G c C X _ ok tie h4) (setB_of h6)
    · cases h
  | .neg a, C, X, e, ok, tie, h => by
    simp only [chE] at h
    split at h
    · exact sd_neg (sdE G a C X _ ok tie h)
    · cases h
  | .nt a, C, X, e, ok, tie, h => by
    simp only [chE] at h
    split at h
    · simp only [Bool.and_eq_true] at h
      exact sd_nt ok (sdE G a C X _ ok tie h.1) h.2
    · cases h
  | .an a b, C, X, e, ok, tie, h => by
    simp only [chE] at h
    split at h
    · rename_i x y rest p
      simp only [Bool.and_eq_true] at h
      obtain ⟨h1, h2⟩ := h
      refine sd_an (sdE G a C X _ ok tie h1) ?_
      cases rest with
      | nil => exact pe_one (sdE G b C X _ ok tie h2)
      | cons z zs => exact sdE G b C X _ ok tie h2
    · cases h
  | .or a b, C, X, e, ok, tie, h => by
    simp only [chE] at h
    split at h
    · rename_i x y rest p
      simp only [Bool.and_eq_true] at h
      obtain ⟨h1, h2⟩ := h
      refine sd_or (sdE G a C X _ ok tie h1) ?_
      cases rest with
      | nil => exact pe_one (sdE G b C X _ ok tie h2)
      | cons z zs => exact sdE G b C X _ ok tie h2
    · cases h
  | .ite c a b, C, X, e, ok, tie, h => by
    simp only [chE] at h
    split at h
    · simp only [Bool.and_eq_true] at h
      exact sd_ite (sdC G c C X _ ok tie h.1.1).1 (sdE G a C X _ ok tie h.1.2) (sdE G b C X _ ok tie h.2)
    · cases h
  | .tup es, C, X, e, ok, tie, h => by
    simp only [chE] at h
    split at h
    · exact sd_tup (sdEs G es C X _ ok tie h).pa
    · cases h
  | .lst es, C, X, e, ok, tie, h => by
    simp only [chE] at h
    split at h
    · exact sd_lst (sdEs G es C X _ ok tie h).pa
    · cases h
  | .share a, C, X, e, ok, tie, h => sd_share (sdE G a C X e ok tie (by simpa [chE] using h))
  | .bi b es, C, X, e, ok, tie, h => by
    simp only [chE] at h
    split at h
    · simp only [Bool.and_eq_true, beq_iff_eq] at h
      obtain ⟨⟨rfl, h2⟩, h3⟩ := h
      exact sd_bi G ok h2 (chEs_star h3) (sdEs G es C X _ ok tie h3).pa
    · cases h
  | .lenv i, C, X, e, ok, tie, h => by
    simp only [chE] at h
    split at h
    · simp only [Bool.and_eq_true, beq_iff_eq] at h
      obtain ⟨⟨rfl, h2⟩, h3⟩ := h
      exact sd_lenv G ok h2 h3
    · cases h
  | .isi a ts many, C, X, e, ok, tie, h => by
    simp only [chE] at h
    split at h
    · rename_i x q y t p
      simp only [Bool.and_eq_true, beq_iff_eq] at h
      obtain ⟨⟨⟨⟨⟨rfl, h2⟩, h3⟩, h4⟩, h5⟩, h6⟩ := h
      cases many with
      | true =>
        cases t <;> first | (simp at h6; done) | skip
        simp only [Bool.and_eq_true, decide_eq_true_eq] at h6
        exact sd_isiT G ok h2 h4 (sdE G a C X _ ok tie h3) h6.1 h5 h6.2
      | false => exact sd_isi1 G ok h2 h4 (sdE G a C X _ ok tie h3) (by cases t <;> exact h6) h5
    · cases h
  | .ix a b, C, X, e, ok, tie, h => by
    cases e <;> first | (simp [chE] at h; done) | skip
    simp only [chE, Bool.and_eq_true] at h
    exact sd_ix ok (sdE G a C X _ ok tie h.1.1) (sdE G b C X _ ok tie h.1.2) h.2
  | .ixv i b, C, X, e, ok, tie, h => by
    simp only [chE] at h
    split at h
    · simp only [Bool.and_eq_true] at h
      exact sd_ixv ok h.1.1 (sdE G b C X _ ok tie h.1.2) h.2
    · cases h
  | .sl a lo hi, C, X, e, ok, tie, h => by
    simp only [chE] at h
    split at h
    · simp only [Bool.and_eq_true] at h
      exact sd_sl ok (sdE G a C X _ ok tie h.1.1) (sdO G lo C X _ ok tie h.1.2) (sdO G hi C X _ ok tie h.2)
    · cases h
  | .slr a, C, X, e, ok, tie, h => by
    simp only [chE] at h
    split at h
    · exact sd_slr ok (sdE G a C X _ ok tie h)
    · cases h
  | .call f es, C, X, e, ok, tie, h => by
    simp only [chE] at h
    split at h
    · simp only [Bool.and_eq_true, beq_iff_eq] at h
      obtain ⟨⟨⟨⟨rfl, h2⟩, h3⟩, h4⟩, h5⟩ := h
      have hp := sdEs G es C X _ ok tie h5
      exact sd_call G ok h2 h3 (by rw [← tie.2.1]; exact h4) (chEs_star h5) (fun z => by subst z; exact hp.nilE) hp.pa
    · cases h
  | .callk f es ks kes perm, C, X, e, ok, tie, h => by
    simp only [chE] at h
    split at h
    · simp only [Bool.and_eq_true, beq_iff_eq] at h
      obtain ⟨⟨⟨⟨⟨⟨rfl, h2⟩, h3⟩, h4⟩, h5⟩, h6⟩, h7⟩ := h
      exact sd_callk G ok h2 h3 (by rw [← tie.2.2]; exact h7) h5 (sdEs G es C X _ ok tie h4) (sdEs G kes C X _ ok tie h6) (fun _ _ _ _ _ he => chEs_len h4 he) (fun _ _ _ _ _ he => by have := chEs_len h6 he; rwa [List.length_map] at this)
    · cases h
  | .mth m i es, C, X, e, ok, tie, h => by
    simp only [chE] at h
    split at h
    · simp only [Bool.and_eq_true, beq_iff_eq, decide_eq_true_eq] at h
      obtain ⟨⟨⟨⟨rfl, h2⟩, h3⟩, h4⟩, h5⟩ := h
      exact sd_mth ok h2 (sdEs G es C X _ ok tie h3) (beq_iff_eq.mpr h4) h5
    · cases h
  | .mthH m a es, C, X, e, ok, tie, h => by
    simp only [chE] at h
    split at h
    · simp only [Bool.and_eq_true, beq_iff_eq, decide_eq_true_eq] at h
      obtain ⟨⟨⟨⟨⟨rfl, h2⟩, h6⟩, h3⟩, h4⟩, h5⟩ := h
      exact sd_mthH ok (sdE G a C X _ ok tie h2) (by simpa using h6) (sdEs G es C X _ ok tie h3) (beq_iff_eq.mpr h4) h5
    · cases h
  | .lc a t it c own, C, X, e, ok, tie, h => by
    simp only [chE] at h
    split at h
    · rename_i x tg iter ifs scope pos
      simp only [Bool.and_eq_true] at h
      obtain ⟨⟨⟨⟨⟨h1, h2⟩, h3⟩, h4⟩, h5⟩, h6⟩ := h
      have hk := blk_kind h1
      have hi := sdI G it C X tg iter ok tie h2
      have hs := fold_ok (chI_set h2) X.env
      have hg := fun s H Cc cl fpp => sdT G t (C.blk scope) (X.blk s H scope (compEnvC scope cl Cc X.env) fpp) tg (ok.blk scope s H Cc cl fpp hk) tie h3
      have ht := fun s H Cc cl fpp => sdCo G c (C.blk scope) (X.blk s H scope (compEnvC scope cl Cc X.env) fpp) ifs (ok.blk scope s H Cc cl fpp hk) tie h4
      have he := fun s H Cc cl fpp => sdE G a (C.blk scope) (X.blk s H scope (compEnvC scope cl Cc X.env) fpp) x (ok.blk scope s H Cc cl fpp hk) tie h5
      refine (pe_lc ok.calm (by rw [ok.N]; exact ok.nd) hi (by rw [ok.N, ok.sc]; exact blkOk_by h1) hg ht he hs).imp ?_
      exact sd_lc (pos := pos) ok h1 hi hg ht he hs (all_contains h6)
    · cases h
  | .lc2 a t it c t1 it1 c1 own own1, C, X, e, ok, tie, h => by
    simp only [chE] at h
    split at h
    · rename_i x tg iter ifs tg1 iter1 ifs1 scope pos
      simp only [Bool.and_eq_true] at h
      obtain ⟨⟨⟨⟨⟨⟨⟨⟨⟨⟨h1, h2⟩, h3⟩, h4⟩, h7⟩, h8⟩, h9⟩, h5⟩, h6⟩, h10⟩, h11⟩ := h
      have hk := blk_kind h1
      have hi := sdI G it C X tg iter ok tie h2
      have hs := fold_ok (chI_set h2) X.env
      have hs1 := fun env => fold_ok (chI_set h7) env
      have hg := fun s H Cc cl fpp => sdT G t (C.blk scope) (X.blk s H scope (compEnvC scope cl Cc X.env) fpp) tg (ok.blk scope s H Cc cl fpp hk) tie h3
      have ht := fun s H Cc cl fpp => sdCo G c (C.blk scope) (X.blk s H scope (compEnvC scope cl Cc X.env) fpp) ifs (ok.blk scope s H Cc cl fpp hk) tie h4
      have hi1 := fun s H Cc cl fpp => sdI G it1 (C.blk scope) (X.blk s H scope (compEnvC scope cl Cc X.env) fpp) tg1 iter1 (ok.blk scope s H Cc cl fpp hk) tie h7
      have hg1 := fun s H Cc cl fpp => sdT G t1 (C.blk scope) (X.blk s H scope (compEnvC scope cl Cc X.env) fpp) tg1 (ok.blk scope s H Cc cl fpp hk) tie h8
      have ht1 := fun s H Cc cl fpp => sdCo G c1 (C.blk scope) (X.blk s H scope (compEnvC scope cl Cc X.env) fpp) ifs1 (ok.blk scope s H Cc cl fpp hk) tie h9
      have he := fun s H Cc cl fpp => sdE G a (C.blk scope) (X.blk s H scope (compEnvC scope cl Cc X.env) fpp) x (ok.blk scope s H Cc cl fpp hk) tie h5
      refine (pe_lc2 ok.calm (by rw [ok.N]; exact ok.nd) hi (by rw [ok.N, ok.sc]; exact blkOk_by h1) (all_contains h11) hg ht hi1 hg1 ht1 he hs hs1).imp ?_
      exact sd_lc2 (all_contains h6) (all_contains h10) (all_contains h11)
    · cases h
  | .lrng es, C, X, e, ok, tie, h => by
    simp only [chE] at h
    split at h
    · simp only [Bool.and_eq_true, beq_iff_eq, Bool.or_eq_true] at h
      obtain ⟨⟨⟨⟨⟨rfl, h2⟩, rfl⟩, h4⟩, h5⟩, h6⟩ := h
      exact sd_lrng G ok h2 h4 h5 h6 (sdEs G es C X _ ok tie h5)
    · cases h
  | .trng es, C, X, e, ok, tie, h => by
    simp only [chE] at h
    split at h
    · simp only [Bool.and_eq_true, beq_iff_eq, Bool.or_eq_true] at h
      obtain ⟨⟨⟨⟨⟨rfl, h2⟩, rfl⟩, h4⟩, h5⟩, h6⟩ := h
      exact sd_trng G ok h2 h4 h5 h6 (sdEs G es C X _ ok tie h5)
    · cases h
theorem sdEs (G : GOk P w K mg base k F gl fp kw) : ∀ (p : Es) (C : SC) (X : Cx) (es : List Expr), COk P w K mg base k C X → Tied gl fp kw C → chEs C p es = true → PEs X K F es p
  | .nil, C, X, es, ok, tie, h => by
    cases es with
    | nil => exact .nil
    | cons _ _ => simp [chEs] at h
  | .cons p ps, C, X, es, ok, tie, h => by
    cases es with
    | nil => simp [chEs] at h
    | cons e es =>
      simp only [chEs, Bool.and_eq_true] at h
      exact .cons h.1.1 (sdE G p C X e ok tie h.1.2) (sdEs G ps C X es ok tie h.2)
theorem sdO (G : GOk P w K mg base k F gl fp kw) : ∀ (p : Eo) (C : SC) (X : Cx) (o : Option Expr), COk P w K mg base k C X → Tied gl fp kw C → chO C p o = true → PO X o (tEo K F p)
  | .no, C, X, o, ok, tie, h => by
    cases o with
    | none => exact sd_no
    | some _ => simp [chO] at h
  | .so p, C, X, o, ok, tie, h => by
    cases o with
    | none => simp [chO] at h
    | some x => exact sd_so (sdE G p C X x ok tie (by simpa [chO] using h))
theorem sdC (G : GOk P w K mg base k F gl fp kw) : ∀ (p : Cn) (C : SC) (X : Cx) (x : Expr), COk P w K mg base k C X → Tied gl fp kw C → chC C p x = true → PT X x (tCn K F p) ∧ ∀ op vs q, x = .BoolOp op vs q → PW X x (tCn K F p)
  | .e a, C, X, x, ok, tie, h => by
    simp only [chC, Bool.and_eq_true] at h
    obtain ⟨h1, h2⟩ := h
    refine ⟨?_, fun op vs q e => by subst e; cases a <;> simp [truB, cmpE, chE] at h1 h2⟩
    by_cases ht : truB x = true
    · exact sd_tru ok ht (sdE G a C X x ok tie h1)
    · have h2 := (Bool.or_eq_true _ _ ▸ h2).resolve_left ht
      cases a with
      | cmp o pa pb =>
        simp only [chE] at h1
        split at h1
        · simp only [Bool.and_eq_true, decide_eq_true_eq] at h1
          obtain ⟨⟨⟨rfl, h3⟩, h4⟩, h5⟩ := h1
          exact sd_cmpT ok (sdE G pa C X _ ok tie h3) (sdE G pb C X _ ok tie h4) (setB_of h5)
        · cases h1
      | cmpv o pa i =>
        simp only [chE] at h1
        split at h1
        · simp only [Bool.and_eq_true, decide_eq_true_eq] at h1
          obtain ⟨⟨rfl, h3⟩, h4⟩ := h1
          exact sd_cmpvT ok (sdE G pa C X _ ok tie h3) h4
        · cases h1
      | chain o o' pa pb pc =>
        simp only [chE] at h1
        split at h1
        · simp only [Bool.and_eq_true, decide_eq_true_eq] at h1
          obtain ⟨⟨⟨⟨⟨⟨rfl, rfl⟩, h3⟩, h4⟩, h5⟩, h6⟩, h7⟩ := h1
          exact sd_chainT ok (sdE G pa C X _ ok tie h3) (sdE G pb C X _ ok tie h4) (sdE G pc C X _ ok tie h5) (setB_of h7)
        · cases h1
      | _ => simp [cmpE] at h2
  | .nt c, C, X, x, ok, tie, h => by
    simp only [chC] at h
    split at h
    · exact ⟨sd_ntC (sdC G c C X _ ok tie h).1, fun op vs q e => by cases e⟩
    · cases h
  | .an a b, C, X, e, ok, tie, h => by
    simp only [chC] at h
    split at h
    · rename_i x y rest p
      simp only [Bool.and_eq_true] at h
      obtain ⟨h1, h2⟩ := h
      have key : PW X (.BoolOp .And (x :: y :: rest) p) (tCn K F (.an a b)) := by
        refine sd_anC (sdC G a C X _ ok tie h1).1 ?_
        cases rest with
        | nil => exact pw_and1 (sdC G b C X _ ok tie h2).1
        | cons z zs => exact (sdC G b C X _ ok tie h2).2 _ _ _ rfl
      exact ⟨key.pt, fun op vs q e => key⟩
    · cases h
  | .or a b, C, X, e, ok, tie, h => by
    simp only [chC] at h
    split at h
    · rename_i x y rest p
      simp only [Bool.and_eq_true] at h
      obtain ⟨h1, h2⟩ := h
      have key : PW X (.BoolOp .Or (x :: y :: rest) p) (tCn K F (.or a b)) := by
        refine sd_orC (sdC G a C X _ ok tie h1).1 ?_
        cases rest with
        | nil => exact pw_or1 (sdC G b C X _ ok tie h2).1
        | cons z zs => exact (sdC G b C X _ ok tie h2).2 _ _ _ rfl
      exact ⟨key.pt, fun op vs q e => key⟩
    · cases h
theorem sdCo (G : GOk P w K mg base k F gl fp kw) : ∀ (p : Co) (C : SC) (X : Cx) (l : List Expr), COk P w K mg base k C X → Tied gl fp kw C → chCo C p l = true → PTs X l (tCo K F p)
  | .no, C, X, l, ok, tie, h => by
    cases l with
    | nil => exact sd_cno
    | cons _ _ => simp [chCo] at h
  | .so c, C, X, l, ok, tie, h => by
    simp only [chCo] at h
    split at h
    · exact sd_cso (sdC G c C X _ ok tie h).1
    · cases h
theorem sdI (G : GOk P w K mg base k F gl fp kw) : ∀ (p : I) (C : SC) (X : Cx) (tg x : Expr), COk P w K mg base k C X → Tied gl fp kw C → chI C p tg x = true → PI X tg x (tI K F p)
  | .val e, C, X, tg, x, ok, tie, h => by
    simp only [chI, Bool.and_eq_true] at h
    exact sd_val ok (sdE G e C X x ok tie h.1)
  | .rng es, C, X, tg, x, ok, tie, h => by
    simp only [chI] at h
    split at h
    · simp only [Bool.and_eq_true, beq_iff_eq, Bool.or_eq_true] at h
      obtain ⟨⟨⟨rfl, h2⟩, h3⟩, h4⟩ := h
      exact sd_rng G ok h2 h3 (by rcases h4 with (h4 | h4) | h4 <;> simp [h4]) (sdEs G es C X _ ok tie h3).pa
    · cases h
  | .enum e, C, X, tg, x, ok, tie, h => by
    simp only [chI] at h
    split at h
    · simp only [Bool.and_eq_true, beq_iff_eq] at h
      obtain ⟨⟨⟨rfl, h2⟩, h3⟩, h4⟩ := h
      exact sd_enum G ok h2 h4 (sdE G e C X _ ok tie h3)
    · cases h
  | .zip a b, C, X, tg, x, ok, tie, h => by
    simp only [chI] at h
    split at h
    · simp only [Bool.and_eq_true, beq_iff_eq] at h
      obtain ⟨⟨⟨⟨⟨rfl, h2⟩, h3⟩, h4⟩, h5⟩, h6⟩ := h
      exact sd_zip G ok h2 h5 h6 (sdE G a C X _ ok tie h3) (sdE G b C X _ ok tie h4)
    · cases h
  | .rev e, C, X, tg, x, ok, tie, h => by
    simp only [chI] at h
    split at h
    · simp only [Bool.and_eq_true, beq_iff_eq] at h
      obtain ⟨⟨⟨rfl, h2⟩, h3⟩, h4⟩ := h
      exact sd_rev G ok h2 h4 (sdE G e C X _ ok tie h3)
    · cases h
theorem sdT (G : GOk P w K mg base k F gl fp kw) : ∀ (p : Tg) (C : SC) (X : Cx) (x : Expr), COk P w K mg base k C X → Tied gl fp kw C → chTg C p x = true → PG X x (tG K F p)
  | .n i, C, X, x, ok, tie, h => by
    cases x <;> first | (simp [chTg] at h; done) | skip
    exact sd_n ok h
  | .sub i a, C, X, x, ok, tie, h => by
    simp only [chTg] at h
    split at h
    · simp only [Bool.and_eq_true] at h
      exact sd_sub ok h.1.1 (sdE G a C X _ ok tie h.1.2) h.2
    · cases h
  | .tup ts, C, X, x, ok, tie, h => by
    simp only [chTg] at h
    split at h
    · have := chTgs_star h
      exact sd_tupT ok this.1 this.2 (sdTs G ts C X _ ok tie h)
    · cases h
theorem sdTs (G : GOk P w K mg base k F gl fp kw) : ∀ (p : Tgs) (C : SC) (X : Cx) (l : List Expr), COk P w K mg base k C X → Tied gl fp kw C → chTgs C p l = true → PGs X l (tGs K F p)
  | .nil, C, X, l, ok, tie, h => by
    cases l with
    | nil => exact sd_tnil
    | cons _ _ => simp [chTgs] at h
  | .cons t ts, C, X, l, ok, tie, h => by
    cases l with
    | nil => simp [chTgs] at h
    | cons x xs =>
      have hh := chTgs_star h
      simp only [chTgs, Bool.and_eq_true] at h
      exact sd_tcons hh.1 (sdT G t C X x ok tie h.1.2) (sdTs G ts C X xs ok tie h.2)
end
end
end Pv

namespace Pv
open PySem PySem.Spec PyProof.Rows L2

/-! ## statements as texts -/
/-- does the store of a pair go the exchanged way: names, no; none: not told -/
def isLoc (sc : Scope) (x : Str) : Bool := match sc.names.lookup x with
  | some .local => true
  | _ => false
def swapM (kd : Str → Option NameKind) (ts vs : List Expr) : Option (Option (List Str)) :=
  if !(ts.length == 2 || ts.length == 3) || vs.length != ts.length then some none
  else if vs.any (fun | .Starred .. => true | _ => false) then some none
  else
    let line := (ts.head?.map (·.pos.line)).getD 0
    let names := ts.filterMap fun
      | .Name id pos => if kd id == some .local && pos.line == line then some id else none
      | _ => none
    if names.length != ts.length || names.eraseDups.length != names.length then some none
    else if vs.all (foldedForSure 8) then some none
    else if vs.all (constantsAlone 8) then none
    else some (some names)
theorem swapM_ok {env : PySem.Env} {ts vs : List Expr} {k k2 : Nat} {p p2 : Pos} (hk : env.scope.kind = .function) {r : Option (List Str)} (h : swapM env.kindOf ts vs = some r) : swappedStores [.Tuple ts k p] (.Tuple vs k2 p2) env = pure r := by
  have hb : env.blockKind = .function := by unfold Env.blockKind; rw [hk]; rfl
  unfold swapM at h
  unfold swappedStores
  simp only [hb, bne_self_eq_false, Bool.or_false]
  split at h
  · rename_i h1
    cases h
    exact if_pos h1
  · rename_i h1
    refine (if_neg h1).trans ?_
    split at h
    · rename_i h2
      cases h
      exact if_pos h2
    · rename_i h2
      refine (if_neg h2).trans ?_
      simp only at h
      split at h
      · rename_i h3
        cases h
        exact if_pos h3
      · rename_i h3
        refine (if_neg h3).trans ?_
        split at h
        · rename_i h4
          cases h
          exact if_pos h4
        · rename_i h4
          refine (if_neg h4).trans ?_
          split at h
          · cases h
          · rename_i h5
            cases h
            exact if_neg h5
theorem swap_none {env : PySem.Env} {t v : Expr} (h : (match t, v with | .Tuple .., .Tuple .. => false | .List .., .Tuple .. => false | _, _ => true) = true) : swappedStores [t] v env = pure none := by
  unfold swappedStores
  cases t <;> cases v <;> first | rfl | (simp at h)
theorem swaps_no {v : Expr} {t : Option Expr} {l : Nat} {env : PySem.Env} (h : compB v = false) : swapsWith v t l env = pure false := by
  cases v <;> first | rfl | (simp [compB] at h)
theorem swaps_sub {v t : Expr} {l : Nat} {env : PySem.Env} (h : (match t with | .Name .. => false | _ => true) = true) : swapsWith v (some t) l env = pure false := by
  unfold swapsWith
  cases v <;> first | rfl | (cases t <;> first | rfl | (simp at h))
/-- whether a comprehension's store goes the exchanged way -/
def compSwap (sc : Scope) (x : Str) (p vp : Pos) (scope : Scope) : Bool := isLoc sc x && p.line == vp.line && !(scope.names.any fun (n, k) => n == x && (k == .local || k == .cell))
theorem swaps_comp {elt : Expr} {gs : List Comprehension} {scope : Scope} {p vp : Pos} {x : Str} {l : Nat} {env : PySem.Env} (hk : env.scope.kind = .function) : swapsWith (.ListComp elt gs scope vp) (some (.Name x p)) l env = pure (compSwap env.scope x p vp scope) := by
  have hb : env.blockKind = .function := by unfold Env.blockKind; rw [hk]; rfl
  unfold swapsWith compSwap isLoc
  simp only [hb, Env.kindOf, Expr.pos, beq_self_eq_true, Bool.true_and]
  cases env.scope.names.lookup x with
  | none => rfl
  | some z => cases z <;> rfl
def isLc : E → Bool
  | .lc .. => true
  | .lc2 .. => true
  | _ => false
def parB (sc : Scope) (ns : List Str) (r : Option (Option (List Str))) : Bool := match r with
  | some none => true
  | some (some m) => decide (m = ns) && ns.all (isLoc sc)
  | none => false
def lcompB : Expr → Bool
  | .ListComp .. => true
  | _ => false
def asgTB (kd : Str → Option NameKind) (tg v : Expr) : Bool := match tg, v with
  | .Tuple ts _ _, .Tuple vs _ _ => (match swapM kd ts vs with | some none => true | _ => false)
  | .List _ _, .Tuple _ _ _ => false
  | .List _ _, _ => false
  | _, _ => true
def nameB : Expr → Bool
  | .Name .. => true
  | _ => false
def tupB : Expr → Bool
  | .Tuple .. => true
  | .List .. => true
  | _ => false
mutual
def chS (C : SC) : S → Stmt → Bool
  | .asg i e => fun s => match s with
    | .Assign [.Name x _] v _ => C.store i x && chE C e v && (!compB v || (isLc e && lcompB v))
    | _ => false
  | .asgT t e => fun s => match s with
    | .Assign [tg] v _ => !nameB tg && chTg C t tg && chE C e v && starB tg && asgTB (fun x => C.sc.names.lookup x) tg v
    | _ => false
  | .par2 i j a b => fun s => match s with
    | .Assign [.Tuple [.Name x px, .Name y py] _ _] (.Tuple [u, v] _ _) _ => C.store i x && C.store j y && chE C a u && chE C b v && starB u && starB v && decide (i ≠ j) && parB C.sc [x, y] (swapM (fun x => C.sc.names.lookup x) [.Name x px, .Name y py] [u, v])
    | _ => false
  | .par3 i j l a b c => fun s => match s with
    | .Assign [.Tuple [.Name x px, .Name y py, .Name z pz] _ _] (.Tuple [u, v, t] _ _) _ => C.store i x && C.store j y && C.store l z && chE C a u && chE C b v && chE C c t && starB u && starB v && starB t && decide (i ≠ j) && decide (i ≠ l) && decide (j ≠ l) && parB C.sc [x, y, z] (swapM (fun x => C.sc.names.lookup x) [.Name x px, .Name y py, .Name z pz] [u, v, t])
    | _ => false
  | .aug i o e => fun s => match s with
    | .AugAssign (.Name x _) o' v _ => decide (o = o') && C.store i x && chE C e v
    | _ => false
  | .ex e => fun s => match s with
    | .Expr v _ => chE C e v && !compB v
    | _ => false
  | .ret e => fun s => match s with
    | .Return (some v) _ => chE C e v
    | _ => false
  | .retN => fun s => match s with
    | .Return none _ => true
    | _ => false
  | .pass => fun s => match s with
    | .Pass _ => true
    | _ => false
  | .brk => fun s => match s with
    | .Break _ => true
    | _ => false
  | .cnt => fun s => match s with
    | .Continue _ => true
    | _ => false
  | .ite c a b => fun s => match s with
    | .If t x y _ => chC C c t && chSs C a x && chSs C b y
    | _ => false
  | .whl c b => fun s => match s with
    | .While t x [] _ => chC C c t && chSs C b x
    | _ => false
  | .for_ t it b => fun s => match s with
    | .For tg iter x [] _ => chTg C t tg && chI C it tg iter && chSs C b x
    | _ => false
def chSs (C : SC) : Ss → List Stmt → Bool
  | .nil => fun l => match l with
    | [] => true
    | _ => false
  | .cons s ss => fun l => match l with
    | x :: xs => chS C s x && chSs C ss xs
    | _ => false
end

section
variable {P : Program} {w : World} {K : PySem.W.Frag} {mg : Str → Option Value} {base : Heap} {k : Nat} {F : Tb} {C : SC} {X : Cx} {gl : Str → Bool} {fp : Str → Bool} {kw : Str → Nat → List Str → List Nat → Bool}
theorem EPost.asg {O : Org} {A : List Addr} {B H : Hp} {σ : L2.St} {ρ ρ' : Env} {st : Sto} {T : List (Addr × List D)} {fr : Bool} {d : D} {v : V} {i : Nat} (h : EPost K O σ T ρ st fr d v A B H) (e : asgN i fr d ρ = some ρ') : Rel K O A B (σ.set i (some v)) H ρ' st T := by
  unfold EPost at h
  unfold asgN at e
  split at e
  · rename_i hi
    cases fr with
    | false =>
      cases e
      rw [if_neg Bool.false_ne_true] at h
      exact h.1.setVal h.2
    | true =>
      rw [if_pos rfl] at h
      obtain ⟨a, xs, rfl, rfl, R⟩ := h
      cases e
      exact R.setOwn hi
  · cases e
theorem SPost.mono {O : Org} {T : List (Addr × List D)} {A A1 : List Addr} {B B1 : Hp} {D : Ends} {ρ' : Env} {st' : Sto} {f : Fl} (hA : Px A A1) (hB : Ex B B1) (h : SPost K O T A B D ρ' st' f) : SPost K O T A1 B1 D ρ' st' f := by
  cases f with
  | nx => exact fun σ' A' B' H' a b => h σ' A' B' H' (hA.trans a) (hB.trans b)
  | bk => exact fun σ' A' B' H' a b => h σ' A' B' H' (hA.trans a) (hB.trans b)
  | ct => exact fun σ' A' B' H' a b => h σ' A' B' H' (hA.trans a) (hB.trans b)
  | rt fr d => exact fun v σ' A' B' H' a b => h v σ' A' B' H' (hA.trans a) (hB.trans b)
/-- name = value -/
theorem imp_asg {i : Nat} {p : E} {te : TE} (hte : ∀ σ H Q, tE K F p σ H Q → te σ H Q) (D : Ends) (σ : L2.St) (H : Hp) (hq : tS K F (.asg i p) D σ H) : tAsg te (gName i) D σ H := by
  obtain ⟨O, A, B, ρ, st, T, f, ρ', st', R, e, q⟩ := hq
  simp only [exS] at e
  obtain ⟨⟨fr, d, ρ1, st1⟩, e1, e⟩ := bindS e
  obtain ⟨ρ2, e2, e⟩ := bindS e
  cases e
  exact hte _ _ _ ⟨O, A, B, ρ, st, T, fr, d, ρ1, _, R, e1, fun v A1 B1 H1 hA1 hB1 hp => q _ A1 B1 H1 hA1 hB1 (hp.asg e2)⟩
theorem COk.storeP (ok : COk P w K mg base k C X) {i : Nat} {x : Str} (h : C.store i x = true) : X.N.Nodup ∧ X.N[i]? = some x ∧ Loc X.env.scope x ∧ (X.fn x = true ∨ X.env.scope.names.lookup x = some .local) := by
  unfold SC.store at h
  simp only [Bool.and_eq_true, decide_eq_true_eq] at h
  exact ⟨by rw [ok.N]; exact ok.nd, by rw [ok.N]; exact h.1.1.1, by rw [ok.sc]; exact loc_of h.1.1.2, ok.tg x h.1.2⟩
theorem loc_lookup {sc : Scope} {x : Str} (h : isLoc sc x = true) : sc.names.lookup x = some .local := by
  unfold isLoc at h
  split at h
  · assumption
  · cases h
theorem ss_asg (G : GOk P w K mg base k F gl fp kw) (ok : COk P w K mg base k C X) (tie : Tied gl fp kw C) {i : Nat} {p : E} {x : Str} {v : Expr} {px pos : Pos} (h1 : C.store i x = true) (h2 : chE C p v = true) (h3 : (!compB v || (isLc p && lcompB v)) = true) : PS X (.Assign [.Name x px] v pos) (tS K F (.asg i p)) := by
  obtain ⟨n1, n2, n3, n4⟩ := ok.storeP h1
  have he := sdE G p C X v ok tie h2
  by_cases hc : compB v = false
  · exact (ps_set n1 n2 n3 he (swaps_no hc) n4).imp (imp_asg fun _ _ _ h => h)
  · have hc : compB v = true := by simpa using hc
    rw [hc] at h3
    simp only [Bool.not_true, Bool.false_or, Bool.and_eq_true] at h3
    obtain ⟨h3, h4⟩ := h3
    cases v <;> first | (simp [lcompB] at h4; done) | skip
    rename_i elt gs scope vp _
    by_cases hw : compSwap X.env.scope x px vp scope = true
    · have hsw : swapsWith (.ListComp elt gs scope vp) (some (.Name x px)) pos.line X.env = pure true := by
        rw [swaps_comp (by rw [ok.sc]; exact ok.kind), hw]
      have hl : X.env.scope.names.lookup x = some .local := by
        unfold compSwap at hw
        simp only [Bool.and_eq_true] at hw
        exact loc_lookup hw.1.1
      cases p <;> first | (simp [isLc] at h3; done) | skip
      · rename_i a t it c own
        simp only [chE] at h2
        split at h2
        · rename_i x' tg iter ifs scope' pos' heq
          cases heq
          simp only [Bool.and_eq_true] at h2
          obtain ⟨⟨⟨⟨⟨h1, h2⟩, h3⟩, h4⟩, h5⟩, h6⟩ := h2
          have hk := blk_kind h1
          have hi := sdI G it C X tg iter ok tie h2
          have hs := fold_ok (chI_set h2) X.env
          have hg := fun s H Cc cl fpp => sdT G t (C.blk scope) (X.blk s H scope (compEnvC scope cl Cc X.env) fpp) tg (ok.blk scope s H Cc cl fpp hk) tie h3
          have ht := fun s H Cc cl fpp => sdCo G c (C.blk scope) (X.blk s H scope (compEnvC scope cl Cc X.env) fpp) ifs (ok.blk scope s H Cc cl fpp hk) tie h4
          have he := fun s H Cc cl fpp => sdE G a (C.blk scope) (X.blk s H scope (compEnvC scope cl Cc X.env) fpp) elt (ok.blk scope s H Cc cl fpp hk) tie h5
          refine (ps_setLc ok.calm n1 n2 hl hsw hi (by rw [ok.N, ok.sc]; exact blkOk_by h1) hg ht he hs).imp (imp_asg ?_)
          exact sd_lc (pos := vp) ok h1 hi hg ht he hs (all_contains h6)
        · cases h2
      · rename_i a t it c t1 it1 c1 own own1
        simp only [chE] at h2
        split at h2
        · rename_i x' tg iter ifs tg1 iter1 ifs1 scope' pos' heq
          cases heq
          simp only [Bool.and_eq_true] at h2
          obtain ⟨⟨⟨⟨⟨⟨⟨⟨⟨⟨h1, h2⟩, h3⟩, h4⟩, h7⟩, h8⟩, h9⟩, h5⟩, h6⟩, h10⟩, h11⟩ := h2
          have hk := blk_kind h1
          have hi := sdI G it C X tg iter ok tie h2
          have hs := fold_ok (chI_set h2) X.env
          have hs1 := fun env => fold_ok (chI_set h7) env
          have hg := fun s H Cc cl fpp => sdT G t (C.blk scope) (X.blk s H scope (compEnvC scope cl Cc X.env) fpp) tg (ok.blk scope s H Cc cl fpp hk) tie h3
          have ht := fun s H Cc cl fpp => sdCo G c (C.blk scope) (X.blk s H scope (compEnvC scope cl Cc X.env) fpp) ifs (ok.blk scope s H Cc cl fpp hk) tie h4
          have hi1 := fun s H Cc cl fpp => sdI G it1 (C.blk scope) (X.blk s H scope (compEnvC scope cl Cc X.env) fpp) tg1 iter1 (ok.blk scope s H Cc cl fpp hk) tie h7
          have hg1 := fun s H Cc cl fpp => sdT G t1 (C.blk scope) (X.blk s H scope (compEnvC scope cl Cc X.env) fpp) tg1 (ok.blk scope s H Cc cl fpp hk) tie h8
          have ht1 := fun s H Cc cl fpp => sdCo G c1 (C.blk scope) (X.blk s H scope (compEnvC scope cl Cc X.env) fpp) ifs1 (ok.blk scope s H Cc cl fpp hk) tie h9
          have he := fun s H Cc cl fpp => sdE G a (C.blk scope) (X.blk s H scope (compEnvC scope cl Cc X.env) fpp) elt (ok.blk scope s H Cc cl fpp hk) tie h5
          refine (ps_setLc2 ok.calm n1 n2 hl hsw hi (by rw [ok.N, ok.sc]; exact blkOk_by h1) (all_contains h11) hg ht hi1 hg1 ht1 he hs hs1).imp (imp_asg ?_)
          exact sd_lc2 (all_contains h6) (all_contains h10) (all_contains h11)
        · cases h2
    · have hw : compSwap X.env.scope x px vp scope = false := by simpa using hw
      exact (ps_set n1 n2 n3 he (by rw [swaps_comp (by rw [ok.sc]; exact ok.kind), hw]) n4).imp (imp_asg fun _ _ _ h => h)
end
end Pv

namespace Pv
open PySem PySem.Spec PyProof.Rows L2

section
variable {P : Program} {w : World} {K : PySem.W.Frag} {mg : Str → Option Value} {base : Heap} {k : Nat} {F : Tb} {C : SC} {X : Cx} {gl : Str → Bool} {fp : Str → Bool} {kw : Str → Nat → List Str → List Nat → Bool}
/-- target = value -/
theorem imp_asgT {t : Tg} {p : E} (D : Ends) (σ : L2.St) (H : Hp) (hq : tS K F (.asgT t p) D σ H) : tAsg (tE K F p) (tG K F t) D σ H := by
  obtain ⟨O, A, B, ρ, st, T, f, ρ', st', R, e, q⟩ := hq
  simp only [exS] at e
  obtain ⟨⟨d, ρ1, st1⟩, e1, e⟩ := bindS e
  obtain ⟨⟨ρ2, st2⟩, e2, e⟩ := bindS e
  cases e
  exact tE_V R e1 fun v A1 B1 H1 hA1 hB1 R1 h1 => tG_of R1 h1 e2 fun σ' A2 B2 H2 hA2 hB2 _ R2 => q σ' A2 B2 H2 (hA1.trans hA2) (hB1.trans hB2) R2
theorem asg_one {t : Expr} {env : PySem.Env} (h : starB t = true) : (assignEach [t] env).map (·.2) = [assign t env] := by
  rw [asg_list (all_cons_iff.mpr ⟨h, rfl⟩)]; rfl
theorem sole {t v : Expr} {l : Nat} {env : PySem.Env} : swapsWithSole [t] v l env = swapsWith v (some t) l env := rfl
theorem COk.scKind (ok : COk P w K mg base k C X) : X.env.scope.kind = .function := by rw [ok.sc]; exact ok.kind
theorem COk.kd (ok : COk P w K mg base k C X) : X.env.kindOf = fun x => C.sc.names.lookup x := by
  funext x
  show X.env.scope.names.lookup x = C.sc.names.lookup x
  rw [ok.sc]
/-- a value that is held on while something else goes on -/
theorem EPost.hold {O : Org} {A : List Addr} {B H : Hp} {σ : L2.St} {ρ : Env} {st : Sto} {T : List (Addr × List D)} {fr : Bool} {d : D} {v : V} (h : EPost K O σ T ρ st fr d v A B H) :
    ∃ T1, Rel K O A B σ H ρ st T1 ∧ ∀ σ' A' B' H' ρ' st', Px A A' → Ex B B' → Rel K O A' B' σ' H' ρ' st' T1 → EPost K O σ' T ρ' st' fr d v A' B' H' := by
  unfold EPost at h ⊢
  cases fr with
  | false =>
    rw [if_neg Bool.false_ne_true] at h
    exact ⟨T, h.1, fun σ' A' B' H' ρ' st' hA hB R => by rw [if_neg Bool.false_ne_true]; exact ⟨R, h.2.mono hA hB⟩⟩
  | true =>
    rw [if_pos rfl] at h
    obtain ⟨a, xs, rfl, rfl, R⟩ := h
    exact ⟨_, R, fun σ' A' B' H' ρ' st' hA hB R' => by rw [if_pos rfl]; exact ⟨a, xs, rfl, rfl, R'⟩⟩
theorem ss_par2 (G : GOk P w K mg base k F gl fp kw) (ok : COk P w K mg base k C X) (tie : Tied gl fp kw C) {i j : Nat} {a b : E} {x y : Str} {u v : Expr} {px py tp vp pos : Pos} {k1 k2 : Nat} (h1 : C.store i x = true) (h2 : C.store j y = true) (h3 : chE C a u = true) (h4 : chE C b v = true) (su : starB u = true) (sv : starB v = true) (hij : i ≠ j)
    (h5 : parB C.sc [x, y] (swapM (fun x => C.sc.names.lookup x) [.Name x px, .Name y py] [u, v]) = true) : PS X (.Assign [.Tuple [.Name x px, .Name y py] k1 tp] (.Tuple [u, v] k2 vp) pos) (tS K F (.par2 i j a b)) := by
  have hK := ok.K
  subst hK
  obtain ⟨n1, n2, n3, n4⟩ := ok.storeP h1
  obtain ⟨m1, m2, m3, m4⟩ := ok.storeP h2
  have ha := sdE G a C X u ok tie h3
  have hb := sdE G b C X v ok tie h4
  have pa : PA X [u, v] (tCons (tE X.K F a) (tCons (tE X.K F b) tNil)) := pa_cons ha (pa_cons hb pa_nil (star_cons sv)) (star_cons su)
  -- the values, then the stores
  have core : ∀ (D0 : Ends) (σ : L2.St) (H : Hp), tS X.K F (.par2 i j a b) D0 σ H → tE X.K F a σ H fun v1 H1 => tE X.K F b σ H1 fun v2 H2 => ∀ H3, (H3 = H2 ∨ ∃ p o, H2 p = none ∧ H3 = upd H2 p o) → D0.nx ((σ.set i (some v1)).set j (some v2)) H3 := fun D0 σ H hq => by
    obtain ⟨O, A, B, ρ, st, T, f, ρ', st', R, e, q⟩ := hq
    simp only [exS] at e
    obtain ⟨⟨fr, d, ρ1, st1⟩, e1, e⟩ := bindS e
    obtain ⟨⟨fr', d', ρ2, st2⟩, e2, e⟩ := bindS e
    obtain ⟨ρ3, e3, e⟩ := bindS e
    obtain ⟨ρ4, e4, e⟩ := bindS e
    simp only [if_neg hij] at e
    cases e
    refine ⟨O, A, B, ρ, st, T, fr, d, ρ1, st1, R, e1, fun v1 A1 B1 H1 hA1 hB1 p1 => ?_⟩
    obtain ⟨T1, R1, back1⟩ := p1.hold
    refine ⟨O, A1, B1, ρ1, st1, T1, fr', d', ρ2, _, R1, e2, fun v2 A2 B2 H2 hA2 hB2 p2 H3 h3 => ?_⟩
    have p3 : EPost X.K O σ T1 ρ2 st' fr' d' v2 A2 B2 H3 := by
      rcases h3 with rfl | ⟨p, o, hp, rfl⟩
      · exact p2
      · obtain ⟨T2, R2, back2⟩ := p2.hold
        exact back2 _ _ _ _ _ _ (Px.refl _) (Ex.refl _) (R2.waste hp)
    have r3 := p3.asg e3
    have r4 := (back1 _ _ _ _ _ _ hA2 hB2 r3).asg e4
    rw [List.set_comm _ _ (Ne.symm hij)] at r4
    exact q _ A2 B2 H3 (hA1.trans hA2) (hB1.trans hB2) r4
  have hs : swapsWithSole [.Tuple [.Name x px, .Name y py] k1 tp] (.Tuple [u, v] k2 vp) pos.line X.env = pure false := by rw [sole]; exact swaps_no rfl
  unfold parB at h5
  split at h5
  · rename_i hw
    have sw := swapM_ok (k := k1) (k2 := k2) (p := tp) (p2 := vp) ok.scKind (r := none) (by rw [ok.kd]; exact hw)
    have st2 : [Expr.Name x px, Expr.Name y py].all starB = true := rfl
    refine (ps_asg (pe_tup pa) (pg_tup (n := 2) ok.calm (pgs_cons (pg_name n1 n2 n3 n4) (pgs_cons (pg_name m1 m2 m3 m4) pgs_nil (by rw [asg_list rfl]; rfl)) (by rw [asg_list st2]; rfl)) (by rw [asg_list st2]; rfl) (by rw [asg_list st2]; rfl)) hs sw (asg_one rfl)).imp fun D0 σ H hq => ?_
    refine core D0 σ H hq |> fun z => ?_
    obtain ⟨O, A, B, ρ, st, T, fr, d, ρ', st', R, e, q⟩ := z
    refine ⟨O, A, B, ρ, st, T, fr, d, ρ', st', R, e, fun v1 A1 B1 H1 hA1 hB1 p1 => ?_⟩
    obtain ⟨O', A', B', ρ2, st2, T', fr', d', ρ3, st3, R', e', q'⟩ := q v1 A1 B1 H1 hA1 hB1 p1
    refine ⟨O', A', B', ρ2, st2, T', fr', d', ρ3, st3, R', e', fun v2 A2 B2 H2 hA2 hB2 p2 => ?_⟩
    have z := q' v2 A2 B2 H2 hA2 hB2 p2
    refine ⟨by show 2 ≤ sizeLine; decide, fun p hp => ?_⟩
    exact ⟨p, [v1, v2], rfl, SqT.of upd_same, rfl, v1, [v2], rfl, v2, [], rfl, rfl, z _ (.inr ⟨p, _, hp, rfl⟩)⟩
  · rename_i ns hw
    simp only [Bool.and_eq_true, decide_eq_true_eq, List.all_cons, List.all_nil, Bool.and_true] at h5
    obtain ⟨rfl, l1, l2⟩ := h5
    have sw := swapM_ok (k := k1) (k2 := k2) (p := tp) (p2 := vp) ok.scKind (r := some [x, y]) (by rw [ok.kd]; exact hw)
    refine (ps_par ok.calm n1 n2 m2 hij (by rw [ok.sc]; exact loc_lookup l1) (by rw [ok.sc]; exact loc_lookup l2) pa sw hs).imp fun D0 σ H hq => ?_
    refine core D0 σ H hq |> fun z => ?_
    obtain ⟨O, A, B, ρ, st, T, fr, d, ρ', st', R, e, q⟩ := z
    refine ⟨O, A, B, ρ, st, T, fr, d, ρ', st', R, e, fun v1 A1 B1 H1 hA1 hB1 p1 => ?_⟩
    obtain ⟨O', A', B', ρ2, st2, T', fr', d', ρ3, st3, R', e', q'⟩ := q v1 A1 B1 H1 hA1 hB1 p1
    exact ⟨O', A', B', ρ2, st2, T', fr', d', ρ3, st3, R', e', fun v2 A2 B2 H2 hA2 hB2 p2 => ⟨v1, v2, rfl, q' v2 A2 B2 H2 hA2 hB2 p2 _ (.inl rfl)⟩⟩
  · cases h5
theorem ss_par3 (G : GOk P w K mg base k F gl fp kw) (ok : COk P w K mg base k C X) (tie : Tied gl fp kw C) {i j l : Nat} {a b c : E} {x y z : Str} {u v t : Expr} {px py pz tp vp pos : Pos} {k1 k2 : Nat} (h1 : C.store i x = true) (h2 : C.store j y = true) (h0 : C.store l z = true) (h3 : chE C a u = true) (h4 : chE C b v = true) (h6 : chE C c t = true) (su : starB u = true) (sv : starB v = true) (st : starB t = true)
    (hij : i ≠ j) (hil : i ≠ l) (hjl : j ≠ l)
    (h5 : parB C.sc [x, y, z] (swapM (fun x => C.sc.names.lookup x) [.Name x px, .Name y py, .Name z pz] [u, v, t]) = true) : PS X (.Assign [.Tuple [.Name x px, .Name y py, .Name z pz] k1 tp] (.Tuple [u, v, t] k2 vp) pos) (tS K F (.par3 i j l a b c)) := by
  have hK := ok.K
  subst hK
  obtain ⟨n1, n2, n3, n4⟩ := ok.storeP h1
  obtain ⟨m1, m2, m3, m4⟩ := ok.storeP h2
  obtain ⟨o1, o2, o3, o4⟩ := ok.storeP h0
  have ha := sdE G a C X u ok tie h3
  have hb := sdE G b C X v ok tie h4
  have hc := sdE G c C X t ok tie h6
  have pa : PA X [u, v, t] (tCons (tE X.K F a) (tCons (tE X.K F b) (tCons (tE X.K F c) tNil))) := pa_cons ha (pa_cons hb (pa_cons hc pa_nil (star_cons st)) (star_cons sv)) (star_cons su)
  have core : ∀ (D0 : Ends) (σ : L2.St) (H : Hp), tS X.K F (.par3 i j l a b c) D0 σ H → tE X.K F a σ H fun v1 H1 => tE X.K F b σ H1 fun v2 H2 => tE X.K F c σ H2 fun v3 H3 => ∀ H4, (H4 = H3 ∨ ∃ p o, H3 p = none ∧ H4 = upd H3 p o) → D0.nx (((σ.set i (some v1)).set j (some v2)).set l (some v3)) H4 := fun D0 σ H hq => by
    obtain ⟨O, A, B, ρ, st, T, f, ρ', st', R, e, q⟩ := hq
    simp only [exS] at e
    obtain ⟨⟨fr, d, ρ1, st1⟩, e1, e⟩ := bindS e
    obtain ⟨⟨fr', d', ρ2, st2⟩, e2, e⟩ := bindS e
    obtain ⟨⟨fr'', d'', ρ3, st3⟩, e3, e⟩ := bindS e
    obtain ⟨ρ4, e4, e⟩ := bindS e
    obtain ⟨ρ5, e5, e⟩ := bindS e
    obtain ⟨ρ6, e6, e⟩ := bindS e
    have hn : ¬ (i = j ∨ i = l ∨ j = l) := fun z => z.elim hij fun z => z.elim hil hjl
    simp only [if_neg hn] at e
    cases e
    refine ⟨O, A, B, ρ, st, T, fr, d, ρ1, st1, R, e1, fun v1 A1 B1 H1 hA1 hB1 p1 => ?_⟩
    obtain ⟨T1, R1, back1⟩ := p1.hold
    refine ⟨O, A1, B1, ρ1, st1, T1, fr', d', ρ2, _, R1, e2, fun v2 A2 B2 H2 hA2 hB2 p2 => ?_⟩
    obtain ⟨T2, R2, back2⟩ := p2.hold
    refine ⟨O, A2, B2, ρ2, st2, T2, fr'', d'', ρ3, _, R2, e3, fun v3 A3 B3 H3 hA3 hB3 p3 H4 h4 => ?_⟩
    have p4 : EPost X.K O σ T2 ρ3 st' fr'' d'' v3 A3 B3 H4 := by
      rcases h4 with rfl | ⟨p, o, hp, rfl⟩
      · exact p3
      · obtain ⟨T3, R3, back3⟩ := p3.hold
        exact back3 _ _ _ _ _ _ (Px.refl _) (Ex.refl _) (R3.waste hp)
    have r4 := p4.asg e4
    have r5 := (back2 _ _ _ _ _ _ hA3 hB3 r4).asg e5
    have r6 := (back1 _ _ _ _ _ _ (hA2.trans hA3) (hB2.trans hB3) r5).asg e6
    rw [List.set_comm _ _ (Ne.symm hjl), List.set_comm _ _ (Ne.symm hil), List.set_comm _ _ (Ne.symm hij)] at r6
    exact q _ A3 B3 H4 ((hA1.trans hA2).trans hA3) ((hB1.trans hB2).trans hB3) r6
  have hs : swapsWithSole [.Tuple [.Name x px, .Name y py, .Name z pz] k1 tp] (.Tuple [u, v, t] k2 vp) pos.line X.env = pure false := by rw [sole]; exact swaps_no rfl
  unfold parB at h5
  split at h5
  · rename_i hw
    have sw := swapM_ok (k := k1) (k2 := k2) (p := tp) (p2 := vp) ok.scKind (r := none) (by rw [ok.kd]; exact hw)
    have st2 : [Expr.Name x px, Expr.Name y py, Expr.Name z pz].all starB = true := rfl
    refine (ps_asg (pe_tup pa) (pg_tup (n := 3) ok.calm (pgs_cons (pg_name n1 n2 n3 n4) (pgs_cons (pg_name m1 m2 m3 m4) (pgs_cons (pg_name o1 o2 o3 o4) pgs_nil (by rw [asg_list rfl]; rfl)) (by rw [asg_list rfl]; rfl)) (by rw [asg_list st2]; rfl)) (by rw [asg_list st2]; rfl) (by rw [asg_list st2]; rfl)) hs sw (asg_one rfl)).imp fun D0 σ H hq => ?_
    refine core D0 σ H hq |> fun z => ?_
    obtain ⟨O, A, B, ρ, st, T, fr, d, ρ', st', R, e, q⟩ := z
    refine ⟨O, A, B, ρ, st, T, fr, d, ρ', st', R, e, fun v1 A1 B1 H1 hA1 hB1 p1 => ?_⟩
    obtain ⟨O', A', B', ρ2, st2, T', fr', d', ρ3, st3, R', e', q'⟩ := q v1 A1 B1 H1 hA1 hB1 p1
    refine ⟨O', A', B', ρ2, st2, T', fr', d', ρ3, st3, R', e', fun v2 A2 B2 H2 hA2 hB2 p2 => ?_⟩
    obtain ⟨O'', A'', B'', ρ4, st4, T'', fr'', d'', ρ5, st5, R'', e'', q''⟩ := q' v2 A2 B2 H2 hA2 hB2 p2
    refine ⟨O'', A'', B'', ρ4, st4, T'', fr'', d'', ρ5, st5, R'', e'', fun v3 A3 B3 H3 hA3 hB3 p3 => ?_⟩
    have z := q'' v3 A3 B3 H3 hA3 hB3 p3
    refine ⟨by show 3 ≤ sizeLine; decide, fun p hp => ?_⟩
    exact ⟨p, [v1, v2, v3], rfl, SqT.of upd_same, rfl, v1, [v2, v3], rfl, v2, [v3], rfl, v3, [], rfl, rfl, z _ (.inr ⟨p, _, hp, rfl⟩)⟩
  · rename_i ns hw
    simp only [Bool.and_eq_true, decide_eq_true_eq, List.all_cons, List.all_nil, Bool.and_true] at h5
    obtain ⟨rfl, l1, l2, l3⟩ := h5
    have sw := swapM_ok (k := k1) (k2 := k2) (p := tp) (p2 := vp) ok.scKind (r := some [x, y, z]) (by rw [ok.kd]; exact hw)
    refine (ps_par3 ok.calm n1 n2 m2 o2 hij hil hjl (by rw [ok.sc]; exact loc_lookup l1) (by rw [ok.sc]; exact loc_lookup l2) (by rw [ok.sc]; exact loc_lookup l3) pa sw hs).imp fun D0 σ H hq => ?_
    refine core D0 σ H hq |> fun z => ?_
    obtain ⟨O, A, B, ρ, st, T, fr, d, ρ', st', R, e, q⟩ := z
    refine ⟨O, A, B, ρ, st, T, fr, d, ρ', st', R, e, fun v1 A1 B1 H1 hA1 hB1 p1 => ?_⟩
    obtain ⟨O', A', B', ρ2, st2, T', fr', d', ρ3, st3, R', e', q'⟩ := q v1 A1 B1 H1 hA1 hB1 p1
    refine ⟨O', A', B', ρ2, st2, T', fr', d', ρ3, st3, R', e', fun v2 A2 B2 H2 hA2 hB2 p2 => ?_⟩
    obtain ⟨O'', A'', B'', ρ4, st4, T'', fr'', d'', ρ5, st5, R'', e'', q''⟩ := q' v2 A2 B2 H2 hA2 hB2 p2
    exact ⟨O'', A'', B'', ρ4, st4, T'', fr'', d'', ρ5, st5, R'', e'', fun v3 A3 B3 H3 hA3 hB3 p3 => ⟨v1, v2, v3, rfl, q'' v3 A3 B3 H3 hA3 hB3 p3 _ (.inl rfl)⟩⟩
  · cases h5
/-! ### the simple statements -/
theorem imp_ret {p : E} (hp : ∀ i, p ≠ .v i) (D : Ends) (σ : L2.St) (H : Hp) (hq : tS K F (.ret p) D σ H) : tRet (tE K F p) D σ H := by
  obtain ⟨O, A, B, ρ, st, T, f, ρ', st', R, e, q⟩ := hq
  simp only [exS] at e
  obtain ⟨⟨fr, d, ρ1, st1⟩, e1, e⟩ := bindS e
  cases e
  have e2 : evE F p ρ st = some (fr, d, ρ1, st1) := by
    unfold retE at e1
    split at e1
    · rename_i i; exact absurd rfl (hp i)
    · exact e1
  exact ⟨O, A, B, ρ, st, T, fr, d, ρ1, st1, R, e2, fun v A1 B1 H1 hA1 hB1 hp => q v σ A1 B1 H1 hA1 hB1 hp⟩
theorem imp_retv {i : Nat} (D : Ends) (σ : L2.St) (H : Hp) (hq : tS K F (.ret (.v i)) D σ H) : tRet (tVar i) D σ H := by
  obtain ⟨O, A, B, ρ, st, T, f, ρ', st', R, e, q⟩ := hq
  simp only [exS] at e
  obtain ⟨⟨fr, d, ρ1, st1⟩, e1, e⟩ := bindS e
  cases e
  simp only [retE] at e1
  cases z : ρ[i]? with
  | none => rw [z] at e1; simp only [evE, z] at e1; cases e1
  | some s =>
    rw [z] at e1
    cases s with
    | no => simp only [evE, z] at e1; cases e1
    | val d' =>
      simp only [evE, z] at e1
      cases e1
      obtain ⟨v, h1, h2⟩ := R.val i _ z
      exact ⟨v, h1, q v σ A B H (Px.refl _) (Ex.refl _) (.val R h2)⟩
    | own xs =>
      cases e1
      obtain ⟨a, h1, R1⟩ := R.take z
      refine ⟨_, h1, q (.ref a) σ A B H (Px.refl _) (Ex.refl _) ?_⟩
      unfold EPost
      rw [if_pos rfl]
      exact ⟨a, xs, rfl, rfl, R1⟩
theorem imp_ex {p : E} (D : Ends) (σ : L2.St) (H : Hp) (hq : tS K F (.ex p) D σ H) : tDrop (tE K F p) D σ H := by
  obtain ⟨O, A, B, ρ, st, T, f, ρ', st', R, e, q⟩ := hq
  simp only [exS] at e
  obtain ⟨⟨fr, d, ρ1, st1⟩, e1, e⟩ := bindS e
  cases e
  refine ⟨O, A, B, ρ, st, T, fr, d, _, _, R, e1, fun v A1 B1 H1 hA1 hB1 hp => ?_⟩
  obtain ⟨B2, h1, h2, h3⟩ := hp.freeze
  exact q σ A1 B2 H1 hA1 (hB1.trans h1) h2
def ipD (K : PySem.W.Frag) (o : Operator) : TIp := fun x y H Q => ∃ A B a b d, Ho K A B x a ∧ Ho K A B y b ∧ augD o a b = some d ∧ ∀ v, (∀ A B, Ho K A B v d) → Q v H
theorem iop_mulW : OpR X (inplaceOp .Mult) (rI CMulW fun i j => .int (i * j)) := opI fun _ _ _ _ _ _ _ hc q => imul_int q hc.ok
theorem pip_all (o : Operator) : PIp X o (ipD X.K o) := by
  intro pins s σ H x y v u Q I rx ry h
  obtain ⟨A, B, a, b, d, hx, hy, e, q⟩ := h
  cases o with
  | Add =>
    cases a <;> cases b <;> first
      | (cases e; done)
      | (cases hx; cases hy; cases e; exact iop_add pins s σ H _ _ v u Q I rx ry ⟨_, _, rfl, rfl, q _ fun _ _ => .int _⟩)
  | Sub =>
    cases a <;> cases b <;> first
      | (cases e; done)
      | (cases hx; cases hy; cases e; exact iop_sub pins s σ H _ _ v u Q I rx ry ⟨_, _, rfl, rfl, q _ fun _ _ => .int _⟩)
  | Mult =>
    cases a <;> cases b <;> first
      | (cases e; done)
      | (cases hx; cases hy
         simp only [augD] at e
         split at e
         · rename_i hl
           cases e
           exact iop_mulW pins s σ H _ _ v u Q I rx ry ⟨_, _, rfl, rfl, CMulW_of hl.1 hl.2, q _ fun _ _ => .int _⟩
         · cases e)
  | _ => cases a <;> cases b <;> cases e
theorem imp_aug {i : Nat} {o : Operator} {p : E} (D : Ends) (σ : L2.St) (H : Hp) (hq : tS K F (.aug i o p) D σ H) : tAug i (tE K F p) (ipD K o) D σ H := by
  obtain ⟨O, A, B, ρ, st, T, f, ρ', st', R, e, q⟩ := hq
  simp only [exS] at e
  split at e
  · rename_i x hx
    obtain ⟨⟨y, ρ1, st1⟩, e1, e⟩ := bindS e
    obtain ⟨z, e2, e⟩ := bindS e
    obtain ⟨ρ2, e3, e⟩ := bindS e
    cases e
    obtain ⟨v, h1, h2⟩ := R.val i _ hx
    refine ⟨v, h1, tE_V R e1 fun u A1 B1 H1 hA1 hB1 R1 hu => ⟨A1, B1, x, y, z, h2.mono hA1 hB1, hu, e2, fun r hr => ?_⟩⟩
    obtain ⟨hi, rfl⟩ := asgN_val e3
    exact q _ A1 B1 H1 hA1 hB1 (R1.setVal (hr A1 B1))
  · cases e
end
end Pv

namespace Pv
open PySem PySem.Spec PyProof.Rows L2

section
variable {P : Program} {w : World} {K : PySem.W.Frag} {mg : Str → Option Value} {base : Heap} {k : Nat} {F : Tb} {C : SC} {X : Cx} {gl : Str → Bool} {fp : Str → Bool} {kw : Str → Nat → List Str → List Nat → Bool}
theorem imp_retN (D : Ends) (σ : L2.St) (H : Hp) (hq : tS K F .retN D σ H) : tRetN D σ H := by
  obtain ⟨O, A, B, ρ, st, T, f, ρ', st', R, e, q⟩ := hq
  simp only [exS] at e
  cases e
  exact q .non σ A B H (Px.refl _) (Ex.refl _) (.val R .non)
theorem imp_pass (D : Ends) (σ : L2.St) (H : Hp) (hq : tS K F .pass D σ H) : tNext D σ H := by
  obtain ⟨O, A, B, ρ, st, T, f, ρ', st', R, e, q⟩ := hq
  simp only [exS] at e
  cases e
  exact q σ A B H (Px.refl _) (Ex.refl _) R
theorem imp_brk (D : Ends) (σ : L2.St) (H : Hp) (hq : tS K F .brk D σ H) : tBreak D σ H := by
  obtain ⟨O, A, B, ρ, st, T, f, ρ', st', R, e, q⟩ := hq
  simp only [exS] at e
  cases e
  exact q σ A B H (Px.refl _) (Ex.refl _) R
theorem imp_cnt (D : Ends) (σ : L2.St) (H : Hp) (hq : tS K F .cnt D σ H) : tCont D σ H := by
  obtain ⟨O, A, B, ρ, st, T, f, ρ', st', R, e, q⟩ := hq
  simp only [exS] at e
  cases e
  exact q σ A B H (Px.refl _) (Ex.refl _) R
theorem imp_ite {c : Cn} {a b : Ss} (D : Ends) (σ : L2.St) (H : Hp) (hq : tS K F (.ite c a b) D σ H) : tIfS (tCn K F c) (tSs K F a) (tSs K F b) D σ H := by
  obtain ⟨O, A, B, ρ, st, T, f, ρ', st', R, e, q⟩ := hq
  simp only [exS] at e
  obtain ⟨⟨t, ρ1, st1⟩, e1, e⟩ := bindS e
  refine ⟨O, A, B, ρ, st, T, t, ρ1, st1, R, e1, fun A1 B1 H1 hA hB R1 => ?_⟩
  cases t with
  | true =>
    rw [if_pos rfl] at e ⊢
    exact ⟨O, A1, B1, ρ1, st1, T, f, ρ', st', R1, e, q.mono hA hB⟩
  | false =>
    rw [if_neg Bool.false_ne_true] at e ⊢
    exact ⟨O, A1, B1, ρ1, st1, T, f, ρ', st', R1, e, q.mono hA hB⟩
theorem imp_nil (D : Ends) (σ : L2.St) (H : Hp) (hq : tSs K F .nil D σ H) : tNext D σ H := by
  obtain ⟨O, A, B, ρ, st, T, f, ρ', st', R, e, q⟩ := hq
  simp only [exSs] at e
  cases e
  exact q σ A B H (Px.refl _) (Ex.refl _) R
theorem imp_cons {s : S} {ss : Ss} (D : Ends) (σ : L2.St) (H : Hp) (hq : tSs K F (.cons s ss) D σ H) : tSeq (tS K F s) (tSs K F ss) D σ H := by
  obtain ⟨O, A, B, ρ, st, T, f, ρ', st', R, e, q⟩ := hq
  simp only [exSs] at e
  obtain ⟨⟨g, ρ1, st1⟩, e1, e⟩ := bindS e
  refine ⟨O, A, B, ρ, st, T, g, ρ1, st1, R, e1, ?_⟩
  cases g with
  | nx => exact fun σ1 A1 B1 H1 hA hB R1 => ⟨O, A1, B1, ρ1, st1, T, f, ρ', st', R1, e, q.mono hA hB⟩
  | bk => cases e; exact q
  | ct => cases e; exact q
  | rt fr d => cases e; exact q
theorem imp_whl {c : Cn} {b : Ss} (D : Ends) (σ : L2.St) (H : Hp) (hq : tS K F (.whl c b) D σ H) : tWhile (tCn K F c) (tSs K F b) D σ H := by
  obtain ⟨O, A, B, ρ, st, T, f, ρ', st', R, e, q⟩ := hq
  rw [show exS F (.whl c b) ρ st = whlL (evT F c) (exSs F b) fuel ρ st by simp only [exS]] at e
  generalize fuel = n at e
  refine ⟨fun m σ H => ∃ A2 B2 ρ2 st2, Px A A2 ∧ Ex B B2 ∧ Rel K O A2 B2 σ H ρ2 st2 T ∧ whlL (evT F c) (exSs F b) m ρ2 st2 = some (f, ρ', st'), ⟨n, A, B, ρ, st, Px.refl _, Ex.refl _, R, e⟩, ?_⟩
  rintro m σ H ⟨A2, B2, ρ2, st2, hA2, hB2, R2, e2⟩
  cases m with
  | zero => simp only [whlL] at e2; cases e2
  | succ m =>
    simp only [whlL] at e2
    obtain ⟨⟨t, ρ3, st3⟩, e3, e2⟩ := bindS e2
    refine ⟨O, A2, B2, ρ2, st2, T, t, ρ3, st3, R2, e3, fun A3 B3 H3 hA3 hB3 R3 => ?_⟩
    cases t with
    | false =>
      simp only [Bool.false_eq_true, if_false] at e2 ⊢
      cases e2
      exact q σ A3 B3 H3 (hA2.trans hA3) (hB2.trans hB3) R3
    | true =>
      simp only [if_true] at e2 ⊢
      obtain ⟨⟨g, ρ4, st4⟩, e4, e2⟩ := bindS e2
      refine ⟨fun σ' H' => ∃ A5 B5, Px A A5 ∧ Ex B B5 ∧ Rel K O A5 B5 σ' H' ρ4 st4 T ∧ whlL (evT F c) (exSs F b) m ρ4 st4 = some (f, ρ', st'), fun σ' H' ⟨A5, B5, hA5, hB5, R5, e5⟩ => ⟨m, Nat.lt_succ_self m, A5, B5, ρ4, st4, hA5, hB5, R5, e5⟩, O, A3, B3, ρ3, st3, T, g, ρ4, st4, R3, e4, ?_⟩
      cases g with
      | nx => exact fun σ' A5 B5 H5 hA5 hB5 R5 => ⟨A5, B5, (hA2.trans hA3).trans hA5, (hB2.trans hB3).trans hB5, R5, e2⟩
      | ct => exact fun σ' A5 B5 H5 hA5 hB5 R5 => ⟨A5, B5, (hA2.trans hA3).trans hA5, (hB2.trans hB3).trans hB5, R5, e2⟩
      | bk => cases e2; exact fun σ' A5 B5 H5 hA5 hB5 R5 => q σ' A5 B5 H5 ((hA2.trans hA3).trans hA5) ((hB2.trans hB3).trans hB5) R5
      | rt fr d => cases e2; exact fun v σ' A5 B5 H5 hA5 hB5 R5 => q v σ' A5 B5 H5 ((hA2.trans hA3).trans hA5) ((hB2.trans hB3).trans hB5) R5
theorem drop_at {xs : List D} {i : Nat} {d : D} (h : xs[i]? = some d) : xs.drop i = d :: xs.drop (i + 1) := by
  obtain ⟨hi, e⟩ := List.getElem?_eq_some_iff.mp h
  rw [List.drop_eq_getElem_cons hi, e]
theorem imp_for {t : Tg} {it : I} {b : Ss} (D : Ends) (σ : L2.St) (H : Hp) (hq : tS K F (.for_ t it b) D σ H) : tFor (tI K F it) (tG K F t) (tSs K F b) D σ H := by
  obtain ⟨O, A, B, ρ, st, T, f, ρ', st', R, e, q⟩ := hq
  simp only [exS] at e
  obtain ⟨⟨xs, ρ1, st1⟩, e1, e⟩ := bindS e
  refine ⟨O, A, B, ρ, st, T, xs, ρ1, st1, R, e1, fun J A1 B1 H1 hA1 hB1 R1 wk => ?_⟩
  refine ⟨fun i m σ H => ∃ A2 B2 ρ2 st2, m = xs.length - i ∧ Px A1 A2 ∧ Ex B1 B2 ∧ Rel K O A2 B2 σ H ρ2 st2 T ∧ forL (evTg F t) (exSs F b) (xs.drop i) ρ2 st2 = some (f, ρ', st'), ⟨_, A1, B1, ρ1, st1, rfl, Px.refl _, Ex.refl _, R1, e⟩, ?_⟩
  rintro i m σ H ⟨A2, B2, ρ2, st2, rfl, hA2, hB2, R2, e2⟩
  cases hx : xs[i]? with
  | none =>
    have hl : xs.length ≤ i := List.getElem?_eq_none_iff.mp hx
    refine .inl ⟨(wk i A2 B2 H hA2 hB2 R2.ex).2 hl, ?_⟩
    rw [List.drop_eq_nil_of_le hl] at e2
    simp only [forL] at e2
    cases e2
    exact q σ A2 B2 H (hA1.trans hA2) (hB1.trans hB2) R2
  | some d =>
    obtain ⟨go, yld⟩ := (wk i A2 B2 H hA2 hB2 R2.ex).1 d hx
    have hi : i < xs.length := (List.getElem?_eq_some_iff.mp hx).1
    rw [drop_at hx] at e2
    simp only [forL] at e2
    obtain ⟨⟨ρ3, st3⟩, e3, e2⟩ := bindS e2
    obtain ⟨⟨g, ρ4, st4⟩, e4, e2⟩ := bindS e2
    refine .inr ⟨go, fun σ' H' => ∃ A5 B5, Px A1 A5 ∧ Ex B1 B5 ∧ Rel K O A5 B5 σ' H' ρ4 st4 T ∧ forL (evTg F t) (exSs F b) (xs.drop (i + 1)) ρ4 st4 = some (f, ρ', st'),
      fun σ' H' ⟨A5, B5, hA5, hB5, R5, e5⟩ => ⟨xs.length - (i + 1), by omega, A5, B5, ρ4, st4, rfl, hA5, hB5, R5, e5⟩, fun x H' y => ?_⟩
    obtain ⟨B3, hb, hh, hbh, hn, ho⟩ := yld x H' y
    have R3 := R2.grow hb hh hbh hn
    refine ⟨O, A2, B3, ρ2, st2, T, d, ρ3, st3, R3, ho, e3, fun σ4 A4 B4 H4 hA4 hB4 _ R4 => ?_⟩
    refine ⟨O, A4, B4, ρ3, st3, T, g, ρ4, st4, R4, e4, ?_⟩
    have hA : ∀ {A5}, Px A4 A5 → Px A1 A5 := fun z => (hA2.trans hA4).trans z
    have hB : ∀ {B5}, Ex B4 B5 → Ex B1 B5 := fun z => ((hB2.trans hb).trans hB4).trans z
    cases g with
    | nx => exact fun σ' A5 B5 H5 hA5 hB5 R5 => ⟨A5, B5, hA hA5, hB hB5, R5, e2⟩
    | ct => exact fun σ' A5 B5 H5 hA5 hB5 R5 => ⟨A5, B5, hA hA5, hB hB5, R5, e2⟩
    | bk => cases e2; exact fun σ' A5 B5 H5 hA5 hB5 R5 => q σ' A5 B5 H5 (hA1.trans (hA hA5)) (hB1.trans (hB hB5)) R5
    | rt fr d => cases e2; exact fun v σ' A5 B5 H5 hA5 hB5 R5 => q v σ' A5 B5 H5 (hA1.trans (hA hA5)) (hB1.trans (hB hB5)) R5
theorem COk.pass (ok : COk P w K mg base k C X) : PassesOwn (model X.prog X.w) X.A X.env X.xe := by
  rw [ok.xe]; exact PassesOwn.never
theorem swaps_one {t v : Expr} {l : Nat} {env : PySem.Env} (h : nameB t = false) : swapsWithSole [t] v l env = pure false := by
  rw [sole]
  exact swaps_sub (by cases t <;> first | rfl | (simp [nameB] at h))
theorem ss_asgT (G : GOk P w K mg base k F gl fp kw) (ok : COk P w K mg base k C X) (tie : Tied gl fp kw C) {t : Tg} {p : E} {tg v : Expr} {pos : Pos} (h1 : nameB tg = false) (h2 : chTg C t tg = true) (h3 : chE C p v = true) (h4 : starB tg = true)
    (h5 : asgTB (fun x => C.sc.names.lookup x) tg v = true) : PS X (.Assign [tg] v pos) (tS K F (.asgT t p)) := by
  have hK := ok.K
  subst hK
  have hw : swappedStores [tg] v X.env = pure none := by
    cases tg <;> first | (exact swap_none rfl) | (simp [asgTB] at h5; done) | (cases v <;> first | (exact swap_none rfl) | (simp [asgTB] at h5; done) | skip)
    simp only [asgTB] at h5
    split at h5
    · rename_i heq
      exact swapM_ok ok.scKind (by rw [ok.kd]; exact heq)
    · cases h5
  exact (ps_asg (sdE G p C X v ok tie h3) (sdT G t C X tg ok tie h2) (swaps_one h1) hw (asg_one h4)).imp imp_asgT
mutual
theorem ssS (G : GOk P w K mg base k F gl fp kw) : ∀ (p : S) (C : SC) (X : Cx) (s : Stmt), COk P w K mg base k C X → Tied gl fp kw C → chS C p s = true → PS X s (tS K F p)
  | .asg i e, C, X, s, ok, tie, h => by
    simp only [chS] at h
    split at h
    · simp only [Bool.and_eq_true] at h
      exact ss_asg G ok tie h.1.1 h.1.2 h.2
    · cases h
  | .asgT t e, C, X, s, ok, tie, h => by
    simp only [chS] at h
    split at h
    · simp only [Bool.and_eq_true, Bool.not_eq_true'] at h
      exact ss_asgT G ok tie h.1.1.1.1 h.1.1.1.2 h.1.1.2 h.1.2 h.2
    · cases h
  | .par2 i j a b, C, X, s, ok, tie, h => by
    simp only [chS] at h
    split at h
    · simp only [Bool.and_eq_true, decide_eq_true_eq] at h
      obtain ⟨⟨⟨⟨⟨⟨⟨h1, h2⟩, h3⟩, h4⟩, h5⟩, h6⟩, h7⟩, h8⟩ := h
      exact ss_par2 G ok tie h1 h2 h3 h4 h5 h6 h7 h8
    · cases h
  | .par3 i j l a b c, C, X, s, ok, tie, h => by
    simp only [chS] at h
    split at h
    · simp only [Bool.and_eq_true, decide_eq_true_eq] at h
      obtain ⟨⟨⟨⟨⟨⟨⟨⟨⟨⟨⟨⟨h1, h2⟩, h3⟩, h4⟩, h5⟩, h6⟩, h7⟩, h8⟩, h9⟩, h10⟩, h11⟩, h12⟩, h13⟩ := h
      exact ss_par3 G ok tie h1 h2 h3 h4 h5 h6 h7 h8 h9 h10 h11 h12 h13
    · cases h
  | .aug i o e, C, X, s, ok, tie, h => by
    simp only [chS] at h
    split at h
    · simp only [Bool.and_eq_true, decide_eq_true_eq] at h
      obtain ⟨⟨rfl, h2⟩, h3⟩ := h
      obtain ⟨n1, n2, n3, n4⟩ := ok.storeP h2
      have hK := ok.K
      subst hK
      exact (ps_aug n1 n2 n3 (sdE G e C X _ ok tie h3) (pip_all o) n4).imp imp_aug
    · cases h
  | .ex e, C, X, s, ok, tie, h => by
    simp only [chS] at h
    split at h
    · simp only [Bool.and_eq_true, Bool.not_eq_true'] at h
      exact (ps_expr (sdE G e C X _ ok tie h.1) (swaps_no h.2)).imp imp_ex
    · cases h
  | .ret e, C, X, s, ok, tie, h => by
    simp only [chS] at h
    split at h
    · rename_i v pos
      by_cases hv : ∃ i, e = .v i
      · obtain ⟨i, rfl⟩ := hv
        cases v <;> first | (simp [chE] at h; done) | skip
        simp only [chE] at h
        exact (ps_ret (ok.var h)).imp imp_retv
      · exact (ps_ret (sdE G e C X _ ok tie h)).imp (imp_ret fun i z => hv ⟨i, z⟩)
    · cases h
  | .retN, C, X, s, ok, tie, h => by
    simp only [chS] at h
    split at h
    · exact ps_retN.imp imp_retN
    · cases h
  | .pass, C, X, s, ok, tie, h => by
    simp only [chS] at h
    split at h
    · exact ps_pass.imp imp_pass
    · cases h
  | .brk, C, X, s, ok, tie, h => by
    simp only [chS] at h
    split at h
    · exact ps_break.imp imp_brk
    · cases h
  | .cnt, C, X, s, ok, tie, h => by
    simp only [chS] at h
    split at h
    · exact ps_continue.imp imp_cnt
    · cases h
  | .ite c a b, C, X, s, ok, tie, h => by
    simp only [chS] at h
    split at h
    · simp only [Bool.and_eq_true] at h
      exact (ps_if (sdC G c C X _ ok tie h.1.1).1 (ssSs G a C X _ ok tie h.1.2) (ssSs G b C X _ ok tie h.2)).imp imp_ite
    · cases h
  | .whl c b, C, X, s, ok, tie, h => by
    simp only [chS] at h
    split at h
    · simp only [Bool.and_eq_true] at h
      exact (ps_while ok.pass (sdC G c C X _ ok tie h.1).1 (ssSs G b C X _ ok tie h.2)).imp imp_whl
    · cases h
  | .for_ t it b, C, X, s, ok, tie, h => by
    simp only [chS] at h
    split at h
    · simp only [Bool.and_eq_true] at h
      exact (ps_for ok.pass ok.calm (sdI G it C X _ _ ok tie h.1.2) (sdT G t C X _ ok tie h.1.1) (ssSs G b C X _ ok tie h.2) (fold_ok (chI_set h.1.2) X.env)).imp imp_for
    · cases h
theorem ssSs (G : GOk P w K mg base k F gl fp kw) : ∀ (p : Ss) (C : SC) (X : Cx) (ss : List Stmt), COk P w K mg base k C X → Tied gl fp kw C → chSs C p ss = true → PSs X ss (tSs K F p)
  | .nil, C, X, ss, ok, tie, h => by
    cases ss with
    | nil => exact pss_nil.imp imp_nil
    | cons _ _ => simp [chSs] at h
  | .cons p ps, C, X, ss, ok, tie, h => by
    cases ss with
    | nil => simp [chSs] at h
    | cons s ss =>
      simp only [chSs, Bool.and_eq_true] at h
      exact (pss_cons (ssS G p C X s ok tie h.1) (ssSs G ps C X ss ok tie h.2)).imp imp_cons
end
end
end Pv

namespace Pv
open PySem PySem.Spec PyProof.Rows L2

/-! ## the table of a text -/
structure DefT where
  nm : Str
  st : Stmt
  ps : List Str
  N : List Str
  body : Ss
def progOf (ds : List DefT) (x : Str) : Option Fn := (ds.find? fun d => d.nm == x).map fun d => ⟨d.ps, d.N.length, d.body⟩
def fpOf (ds : List DefT) (x : Str) : Bool := ds.any fun d => d.nm == x
def glOf (cs : List (Str × D)) (x : Str) : Bool := cs.any fun c => c.1 == x
def gOf (cs : List (Str × D)) (x : Str) : Option D := (cs.find? fun c => c.1 == x).map (·.2)
abbrev KW := Str × Nat × List Str × List Nat
def kwOf (ks : List KW) (x : Str) (np : Nat) (ns : List Str) (perm : List Nat) : Bool := ks.any fun u => u.1 == x && u.2.1 == np && u.2.2.1 == ns && u.2.2.2 == perm
def scOf (ds : List DefT) (cs : List (Str × D)) (ks : List KW) (d : DefT) : SC := ⟨d.N, defScope d.st, fun _ => true, glOf cs, fpOf ds, kwOf ks⟩
def scB (N P : List Str) (sc : Scope) : Bool :=
  decide (sc.kind = .function) && !sc.isCoroutine && !sc.isGenerator && decide N.Nodup && decide (N.take P.length = P) && P.all (fun x => locB sc x) && sc.names.all (fun y => !decide (y.2 = .free))
theorem scB_ok {N P : List Str} {sc : Scope} (h : scB N P sc = true) : FnScope N P sc := by
  unfold scB at h
  simp only [Bool.and_eq_true, Bool.not_eq_true', decide_eq_true_eq, List.all_eq_true, decide_eq_false_iff_not] at h
  obtain ⟨⟨⟨⟨⟨⟨h1, h2⟩, h3⟩, h4⟩, h5⟩, h6⟩, h7⟩ := h
  refine ⟨h1, h2, h3, h4, h5, fun x hx => ?_, h7⟩
  exact loc_of (h6 x hx)
def chD (ds : List DefT) (cs : List (Str × D)) (ks : List KW) (d : DefT) : Bool := scB d.N d.ps (defScope d.st) && chSs (scOf ds cs ks d) d.body (defBody d.st) && decide (d.ps.length ≤ d.N.length)
/-- a def of the text as it stands -/
structure FF (K : PySem.W.Frag) (mg : Str → Option Value) (d : DefT) : Prop where
  ex : ∃ f fd, Fun K d.nm d.nm d.st f fd ∧ mg d.nm = some (.ref f) ∧ Binds K fd d.ps []
theorem ff_mk {K : PySem.W.Frag} {h : Heap} {mg : Str → Option Value} (X : K.In h) (G : h.Ns mainGlobals mg) {x : Str} {st : Stmt} {ps N : List Str} {b : Ss} {f : Addr} {od an : Option Addr} {sl : Array (Option Value)} {oc kV dc pm cd ct : Value}
    (hb : ∀ (kV doc pm : Value) (an : Option Addr) (cdv ct : Value) (us : List Value), us.length = ps.length → bindArgs (PySem.W.fnOf x x (defArgs st) (defBody st) (defScope st) .none kV doc pm an cdv ct) ⟨us, []⟩ = pure (ps.zip us))
    (a : PySem.W.nsIn K mainGlobals x = some (some (.ref f))) (l : K.lookup f = some ⟨oc, od, .func (PySem.W.fnOf x x (defArgs st) (defBody st) (defScope st) .none kV dc pm an cd ct), sl⟩) (c : PySem.W.codeIn K cd x = true) (k : PySem.W.keepIn K (.ref f) = true) :
    FF K mg ⟨x, st, ps, N, b⟩ := ⟨_, _, fun_mk l c k, PySem.W.mg_of X G a, (fun_mk (st := st) l c k).binds hb⟩
/-- the written part -/
structure Facts (K : PySem.W.Frag) (mg : Str → Option Value) (ds : List DefT) (cs : List (Str × D)) (ks : List KW) : Prop where
  ff : ∀ d ∈ ds, FF K mg d
  nd : (ds.map (·.nm)).Nodup
  ch : ∀ d ∈ ds, chD ds cs ks d = true
  blt : ∀ x, x ∈ blts → mg x = none
  glob : ∀ c ∈ cs, ∃ u v, mg c.1 = some u ∧ RelV v u ∧ ∀ A B, Ho K A B v c.2
  kws : ∀ u ∈ ks, ∃ d ∈ ds, d.nm = u.1 ∧ 0 < d.ps.length ∧ ∀ f fd, Fun K d.nm d.nm d.st f fd → ∀ (s : Shared) (us ws : List Value), us.length = u.2.1 → ws.length = u.2.2.1.length → BindsTo s fd ⟨us, u.2.2.1.zip ws⟩ (d.ps.zip (u.2.2.2.filterMap fun j => (us ++ ws)[j]?)) ∧ (u.2.2.2.filterMap fun j => (us ++ ws)[j]?).length = d.ps.length
theorem find_def : ∀ {ds : List DefT} {d : DefT}, (ds.map (·.nm)).Nodup → d ∈ ds → ds.find? (fun e => e.nm == d.nm) = some d
  | [], _, _, h => by cases h
  | e :: ds, d, nd, h => by
    rw [List.map_cons, List.nodup_cons] at nd
    rcases List.mem_cons.mp h with rfl | h
    · rw [List.find?_cons_of_pos (by simp)]
    · have : e.nm ≠ d.nm := fun z => nd.1 (by rw [z]; exact List.mem_map_of_mem h)
      rw [List.find?_cons_of_neg (by simpa using this)]
      exact find_def nd.2 h
theorem callN_len {prog : Str → Option Fn} {G : Str → Option D} {k : Nat} {x : Str} {f : Fn} (h : prog x = some f) {ds : List D} {st : Sto} {r : Bool × D × Sto} (e : callN prog G k x ds st = some r) : ds.length = f.ps.length := by
  cases k with
  | zero => simp only [callN] at e; cases e
  | succ k =>
    simp only [callN, h, runF] at e
    split at e
    · assumption
    · cases e
theorem list_start {N ps : List Str} {vs : List V} (h : vs.length = ps.length) : L2.start N vs = vs.map some ++ List.replicate (N.length - ps.length) none := by
  unfold L2.start; rw [h]
theorem ends_rt {K : PySem.W.Frag} {A A' : List Addr} {B B' H H' : Hp} {σ : L2.St} {ρ : Env} {st : Sto} {T : List (Addr × List D)} {fr : Bool} {d : D} {v : V} (h : EPost K ⟨A, B, H⟩ σ T ρ st fr d v A' B' H') : Back K A B H A' B' H' st fr d v := by
  unfold EPost at h
  cases fr with
  | false =>
    rw [if_neg Bool.false_ne_true] at h
    exact ⟨h.1.fw, h.1.srel, by rw [if_neg Bool.false_ne_true]; exact h.2⟩
  | true =>
    rw [if_pos rfl] at h
    obtain ⟨a, xs, rfl, rfl, R⟩ := h
    refine ⟨R.fw, R.srel, ?_⟩
    rw [if_pos rfl]
    refine ⟨a, xs, rfl, rfl, R.top, R.fresh (.t 0) xs a rfl rfl (fun n z => by cases z), fun hm => ?_⟩
    obtain ⟨n, hn⟩ := List.getElem?_of_mem hm
    have hl := (List.getElem?_eq_some_iff.mp hn).1
    rw [R.al] at hl
    have := R.dist (.t 0) (.h n) xs _ a rfl (List.getElem?_eq_getElem hl) rfl hn
    cases this
theorem tab_ok {P : Program} {w : World} {K : PySem.W.Frag} {mg : Str → Option Value} {base : Heap} {ds : List DefT} {cs : List (Str × D)} {ks : List KW} (Fa : Facts K mg ds cs ks) : ∀ (k : Nat) (d : DefT), d ∈ ds → ∀ (f : Addr) (fd : FuncData), Fun K d.nm d.nm d.st f fd → FnOk P w K mg base CX0 k f fd d.ps (spOf K d.ps.length (callN (progOf ds) (gOf cs) k d.nm))
  | 0, d, hd, f, fd, _ => ⟨fun vs H Q E h => h.1, fun A outer s H args us vs Q E _ _ _ _ h => by
      obtain ⟨_, _, _, _, _, _, _, _, _, _, e, _⟩ := h
      simp only [callN] at e
      cases e⟩
  | k + 1, d, hd, f, fd, F => by
    have hc := Fa.ch d hd
    unfold chD at hc
    simp only [Bool.and_eq_true, decide_eq_true_eq] at hc
    obtain ⟨⟨hs, hb⟩, hl⟩ := hc
    have S := scB_ok hs
    have pd : progOf ds d.nm = some ⟨d.ps, d.N.length, d.body⟩ := by unfold progOf; rw [find_def Fa.nd hd]; rfl
    have G : GOk P w K mg base k ⟨callN (progOf ds) (gOf cs) k, gOf cs⟩ (glOf cs) (fpOf ds) (kwOf ks) := by
      refine ⟨Fa.blt, fun x dd h1 h2 => ?_, fun x hx => ?_, fun x np ns perm hx => ?_⟩
      · have h2 : gOf cs x = some dd := h2
        unfold gOf at h2
        cases hf : cs.find? (fun c => c.1 == x) with
        | none => rw [hf] at h2; cases h2
        | some c =>
          rw [hf] at h2
          cases h2
          have e : c.1 = x := by simpa using List.find?_some hf
          have := Fa.glob c (List.mem_of_find?_eq_some hf)
          rw [e] at this
          exact this
      · unfold fpOf at hx
        obtain ⟨e, he, hn⟩ := List.any_eq_true.mp hx
        have hn : e.nm = x := by simpa using hn
        subst hn
        obtain ⟨g, gd, Fg, mgx, bg⟩ := (Fa.ff e he).ex
        refine ⟨g, gd, e.ps, mgx, Fg.kp, bg, tab_ok Fa k e he g gd Fg, fun ds' st r h => ?_⟩
        exact callN_len (f := ⟨e.ps, e.N.length, e.body⟩) (by unfold progOf; rw [find_def Fa.nd he]; rfl) h
      · unfold kwOf at hx
        obtain ⟨u, hu, hx⟩ := List.any_eq_true.mp hx
        simp only [Bool.and_eq_true, beq_iff_eq] at hx
        obtain ⟨⟨⟨rfl, rfl⟩, rfl⟩, rfl⟩ := hx
        obtain ⟨e, he, hn, h0, hbd⟩ := Fa.kws u hu
        obtain ⟨g, gd, Fg, mgx, bg⟩ := (Fa.ff e he).ex
        rw [← hn]
        refine ⟨g, gd, e.ps, mgx, Fg.kp, tab_ok Fa k e he g gd Fg, h0, hbd g gd Fg, fun ds' st r h => ?_⟩
        exact callN_len (f := ⟨e.ps, e.N.length, e.body⟩) (by unfold progOf; rw [find_def Fa.nd he]; rfl) h
    refine F.ok S (fun vs H Q E h => h.1) (fun cdv A outer s H vs Q E hr h => ?_)
    obtain ⟨hv, A0, B0, st, xs, fr, dd, st', SR, hx, e, q⟩ := h
    refine ⟨_, ssSs G d.body (scOf ds cs ks d) _ _ ⟨rfl, rfl, rfl, rfl, rfl, rfl, S.nd, rfl, hr, rfl, fun _ _ => .inl rfl, S.kind, rfl⟩ ⟨rfl, rfl, rfl⟩ hb, ?_⟩
    simp only [callN, pd, runF] at e
    split at e
    · rename_i hxl
      rw [list_start hv]
      have R := Rel.start (n := d.N.length - d.ps.length) SR hx
      split at e
      · rename_i fr' d' ρ' st2 ex
        cases e
        exact ⟨_, A0, B0, _, st, [], _, ρ', _, R, ex, fun v σ' A' B' H' _ _ hp => q v A' B' H' (ends_rt hp)⟩
      · rename_i ρ' st2 ex
        cases e
        exact ⟨_, A0, B0, _, st, [], _, ρ', _, R, ex, fun σ' A' B' H' _ _ R' => q .non A' B' H' (ends_rt (.val R' .non))⟩
      · cases e
    · cases e
/-- the law's end -/
def spLaw (K : PySem.W.Frag) (f : List D → Sto → Option (Bool × D × Sto)) : Sp := spOf K 1 f
theorem law_end {K : PySem.W.Frag} {f : List D → Sto → Option (Bool × D × Sto)} {H : Hp} {a : Addr} {ns : List Int} {st' : Sto} (hS : SqL K H a (ns.map V.int)) (e : f [.scr ns] [] = some (false, .bl true, st')) :
    spLaw K f [.ref a] H (fun v _ => v = .bl true) fun _ _ _ => False := by
  refine ⟨rfl, [], H, [], [.scr ns], false, .bl true, st', ⟨Ex.refl _, rfl, fun n a xs h => by simp at h, fun n m a h => by simp at h⟩, .cons (.scr hS) .nil, e, fun v A' B' H' b => ?_⟩
  obtain ⟨_, _, h⟩ := b
  rw [if_neg Bool.false_ne_true] at h
  cases h
  rfl
end Pv

namespace Pv
open PySem PySem.Spec PyProof.Rows L2

/-! ## the law's helpers -/
def law_deal_e0 : E := (.v 5)
def law_deal_c1 : Cn := (.e (.cmp .GtE (.v 5) (.op .Pow (.k (.int 10)) (.k (.int 18)))))
def law_deal_b2 : Ss := (.cons
  (.asg 4 (.op .Mod (.bi .int (.cons (.op .Add (.op .Add (.op .Mult (.v 4) (.k (.int 69621))) (.op .Mod (.bi .int (.cons (.v 5) .nil)) (.k (.int 2147483563)))) (.k (.int 23))) .nil)) (.k (.int 2147483647)))) .nil)
def law_deal_e3 : E := (.op .Mod (.bi .int (.cons (.bi .abs (.cons (.bi .int (.cons (.v 5) .nil)) .nil)) .nil)) (.v 2))
def h_deal : Ss := (.cons
  (.asg 2 (.op .Mult (.op .Mult (.op .Mult (.op .Mult (.op .Mult (.op .Pow (.k (.int 10)) (.k (.int 64))) (.op .Pow (.k (.int 10)) (.k (.int 64)))) (.op .Pow (.k (.int 10)) (.k (.int 64)))) (.op .Pow (.k (.int 10)) (.k (.int 64)))) (.op .Pow (.k (.int 10)) (.k (.int 64)))) (.op .Pow (.k (.int 10)) (.k (.int 64))))) (.cons
  (.asg 3 (.lc law_deal_e3 (.n 5) (.val (.sl (.v 0) .no (.so (.k (.int 63))))) .no [("cell", 5)])) (.cons
  (.asg 4 (.op .Add (.k (.int 70001)) (.op .Mult (.k (.int 7919)) (.v 1)))) (.cons
  (.for_ (.n 5) (.val (.v 3)) law_deal_b2) (.cons
  (.ret (.share (.lst (.cons (.share (.slr (.lc law_deal_e0 (.n 5) (.val (.v 3)) (.so law_deal_c1) [("cell", 5)]))) (.cons (.v 4) .nil))))) .nil)))))
def law_any_c0 : Cn := (.an (.e (.cmp .Gt (.bi .len (.cons (.ixv 0 (.k (.int 0))) .nil)) (.k (.int 0)))) (.e (.cmp .Eq (.ix (.ixv 0 (.k (.int 0))) (.neg (.k (.int 1)))) (.k (.int 0)))))
def law_any_b1 : Ss := (.cons
  (.ex (.mthH .pop (.ixv 0 (.k (.int 0))) .nil)) .nil)
def h_any : Ss := (.cons
  (.whl law_any_c0 law_any_b1) (.cons
  (.ite (.e (.cmp .Gt (.bi .len (.cons (.ixv 0 (.k (.int 0))) .nil)) (.k (.int 0)))) (.cons
  (.asg 2 (.bi .int (.cons (.mthH .pop (.ixv 0 (.k (.int 0))) .nil) .nil))) (.cons
  (.ex (.mthH .append (.ixv 0 (.k (.int 0))) (.cons (.op .FloorDiv (.v 2) (.v 1)) .nil))) (.cons
  (.ret (.op .Mod (.v 2) (.v 1))) .nil))) .nil) (.cons
  (.asgT (.sub 0 (.k (.int 1))) (.op .Mod (.bi .int (.cons (.op .Add (.op .Mult (.ixv 0 (.k (.int 1))) (.k (.int 48271))) (.k (.int 31))) .nil)) (.k (.int 2147483647)))) (.cons
  (.ret (.op .Mod (.bi .int (.cons (.op .FloorDiv (.ixv 0 (.k (.int 1))) (.k (.int 64))) .nil)) (.v 1))) .nil))))
def h_of : Ss := (.cons
  (.ret (.ixv 1 (.call "_law_any" (.cons (.v 0) (.cons (.lenv 1) .nil))))) .nil)
def h_is_kind : Ss := (.cons
  (.ite (.e (.cmp .Is (.v 1) (.k .non))) (.cons
  (.ret (.cmp .Is (.v 0) (.k .non))) .nil) .nil) (.cons
  (.ite (.or (.e (.cmp .Is (.v 1) (.k (.bl true)))) (.e (.cmp .Is (.v 1) (.k (.bl false))))) (.cons
  (.ret (.ite (.e (.v 1)) (.cmp .Is (.v 0) (.k (.bl true))) (.cmp .Is (.v 0) (.k (.bl false))))) .nil) .nil) (.cons
  (.ite (.e (.isi (.v 1) ["str"] false)) (.cons
  (.ret (.an (.isi (.v 0) ["str"] false) (.cmp .Eq (.v 0) (.v 1)))) .nil) .nil) (.cons
  (.ret (.an (.isi (.v 0) ["int"] false) (.an (.nt (.isi (.v 0) ["bool"] false)) (.cmp .Eq (.v 0) (.v 1))))) .nil))))
def law_same_c0 : Cn := (.e (.cmp .Gt (.lenv 2) (.k (.int 0))))
def law_same_b1 : Ss := (.cons
  (.ex (.mth .append 2 (.cons (.tup (.cons (.ixv 3 (.v 5)) (.cons (.ixv 4 (.v 5)) .nil))) .nil))) .nil)
def law_same_b2 : Ss := (.cons
  (.asgT (.tup (.cons (.n 3) (.cons (.n 4) .nil))) (.mth .pop 2 .nil)) (.cons
  (.ite (.e (.isi (.v 4) ["tuple"] false)) (.cons
  (.ite (.or (.nt (.e (.isi (.v 3) ["tuple"] false))) (.e (.cmp .NotEq (.lenv 3) (.lenv 4)))) (.cons
  (.ret (.k (.bl false))) .nil) .nil) (.cons
  (.for_ (.n 5) (.rng (.cons (.lenv 4) .nil)) law_same_b1) .nil)) (.cons
  (.ite (.or (.e (.isi (.v 3) ["tuple", "list", "dict"] true)) (.nt (.e (.call "_law_is_kind" (.cons (.v 3) (.cons (.v 4) .nil)))))) (.cons
  (.ret (.k (.bl false))) .nil) .nil) .nil)) .nil))
def h_same : Ss := (.cons
  (.asg 2 (.lst (.cons (.tup (.cons (.v 0) (.cons (.v 1) .nil))) .nil))) (.cons
  (.whl law_same_c0 law_same_b2) (.cons
  (.ret (.k (.bl true))) .nil)))
def law_all_e0 : E := (.v 1)
def law_all_c1 : Cn := (.nt (.e (.call "_law_same" (.cons (.v 1) (.cons (.v 2) .nil)))))
def h_all : Ss := (.cons
  (.ret (.cmp .Eq (.bi .len (.cons (.lc law_all_e0 (.tup (.cons (.n 1) (.cons (.n 2) .nil))) (.val (.v 0)) (.so law_all_c1) [("told", 1), ("due", 2)]) .nil)) (.k (.int 0)))) .nil)
theorem eqv_int {i j : Int} : eqv (.int i) (.int j) = (i == j) := by simp only [eqv]
section
variable {P : Tb} {ρ ρ1 : Env} {st st1 : Sto}
theorem sq {s : S} {ss : Ss} (h : exS P s ρ st = some (.nx, ρ1, st1)) : exSs P (.cons s ss) ρ st = exSs P ss ρ1 st1 := by
  simp only [exSs, h, Option.bind_eq_bind, Option.bind_some]
theorem sq1 {s : S} (h : exS P s ρ st = some (.nx, ρ1, st1)) : exSs P (.cons s .nil) ρ st = some (.nx, ρ1, st1) := by
  simp only [exSs, h, Option.bind_eq_bind, Option.bind_some]
theorem sqr {s : S} {ss : Ss} {fr : Bool} {d : D} (h : exS P s ρ st = some (.rt fr d, ρ1, st1)) : exSs P (.cons s ss) ρ st = some (.rt fr d, ρ1, st1) := by
  simp only [exSs, h, Option.bind_eq_bind, Option.bind_some]
theorem run_rt {ps : List Str} {nl n : Nat} {b : Ss} {args : List D} {fr : Bool} {d : D} (hp : args.length = ps.length) (hn : nl - ps.length = n) (h : exSs P b (args.map Sl.val ++ List.replicate n .no) st = some (.rt fr d, ρ1, st1)) : runF P ⟨ps, nl, b⟩ args st = some (fr, d, st1) := by
  simp only [runF, hp, hn, h, if_true]
theorem ex_whl {c : Cn} {b : Ss} {r : Fl × Env × Sto} (h : whlL (evT P c) (exSs P b) fuel ρ st = some r) : exS P (.whl c b) ρ st = some r := by simp only [exS, h]
theorem ex_for {t : Tg} {it : I} {b : Ss} {xs : List D} {r : Fl × Env × Sto} (h1 : evI P it ρ st = some (xs, ρ1, st1)) (h2 : forL (evTg P t) (exSs P b) xs ρ1 st1 = some r) : exS P (.for_ t it b) ρ st = some r := by
  simp only [exS, h1, Option.bind_eq_bind, Option.bind_some, h2]
theorem ex_it {c : Cn} {a b : Ss} {t : Bool} {r : RS} (h : evT P c ρ st = some (t, ρ1, st1)) (h2 : (if t then exSs P a ρ1 st1 else exSs P b ρ1 st1) = r) : exS P (.ite c a b) ρ st = r := by
  simp only [exS, h, Option.bind_eq_bind, Option.bind_some, h2]
theorem ev_lc {e : E} {t : Tg} {it : I} {c : Co} {own : List (Str × Nat)} {xs acc : List D} {ρ2 : Env} {st2 : Sto} (h1 : evI P it ρ st = some (xs, ρ1, st1))
    (h2 : lcL (evTg P t) (evC P c) (fun ρ st => vv (evE P e ρ st)) (own.map (·.2)) xs [] (wipeE ρ1 (own.map (·.2))) st1 = some (acc, ρ2, st2)) : evE P (.lc e t it c own) ρ st = some (true, .lst acc, ρ2, st2) := by
  simp only [evE, h1, Option.bind_eq_bind, Option.bind_some, h2]
theorem for_all {asg : D → Env → Sto → Option (Env × Sto)} {b : Env → Sto → RS} (J : Nat → Env → Sto → Prop) : ∀ (xs : List D) (i : Nat) (ρ : Env) (st : Sto),
    (∀ k d ρ st, xs[k]? = some d → J (i + k) ρ st → ∃ ρ1 st1, asg d ρ st = some (ρ1, st1) ∧ ∃ ρ2 st2, b ρ1 st1 = some (.nx, ρ2, st2) ∧ J (i + k + 1) ρ2 st2) → J i ρ st → ∃ ρ' st', forL asg b xs ρ st = some (.nx, ρ', st') ∧ J (i + xs.length) ρ' st'
  | [], i, ρ, st, _, h => ⟨ρ, st, rfl, h⟩
  | x :: xs, i, ρ, st, hs, h => by
    obtain ⟨ρ1, st1, e1, ρ2, st2, e2, h2⟩ := hs 0 x ρ st rfl h
    obtain ⟨ρ3, st3, e3, h3⟩ := for_all J xs (i + 1) ρ2 st2 (fun k d ρ st hk hj => by
      obtain ⟨a1, a2, a3, a4, a5, a6, a7⟩ := hs (k + 1) d ρ st hk (by rw [show i + (k + 1) = i + 1 + k by omega]; exact hj)
      exact ⟨a1, a2, a3, a4, a5, a6, by rw [show i + 1 + k + 1 = i + (k + 1) + 1 by omega]; exact a7⟩) h2
    refine ⟨ρ3, st3, ?_, by rw [List.length_cons, show i + (xs.length + 1) = i + 1 + xs.length by omega]; exact h3⟩
    simp only [forL, e1, e2, Option.bind_eq_bind, Option.bind_some, e3]
/-- a comprehension without a test -/
theorem lc_all {asg : D → Env → Sto → Option (Env × Sto)} {c : Env → Sto → Option (Bool × Env × Sto)} {e : Env → Sto → Option (D × Env × Sto)} {vs : List Nat} (hc : ∀ ρ st, c ρ st = some (true, ρ, st)) (J : Nat → List D → Env → Sto → Prop) : ∀ (xs : List D) (i : Nat) (acc : List D) (ρ : Env) (st : Sto), acc.length + xs.length ≤ lim →
    (∀ k d acc ρ st, xs[k]? = some d → J (i + k) acc ρ st → ∃ ρ1 st1, asg d ρ st = some (ρ1, st1) ∧ ∃ x ρ2 st2, e ρ1 st1 = some (x, ρ2, st2) ∧ J (i + k + 1) (acc ++ [x]) (wipeE ρ2 vs) st2) → J i acc ρ st → ∃ acc' ρ' st', lcL asg c e vs xs acc ρ st = some (acc', ρ', st') ∧ J (i + xs.length) acc' ρ' st'
  | [], i, acc, ρ, st, _, _, h => ⟨acc, ρ, st, rfl, h⟩
  | x :: xs, i, acc, ρ, st, hl, hs, h => by
    obtain ⟨ρ1, st1, e1, y, ρ2, st2, e2, h2⟩ := hs 0 x acc ρ st rfl h
    rw [List.length_cons] at hl
    obtain ⟨acc3, ρ3, st3, e3, h3⟩ := lc_all hc J xs (i + 1) (acc ++ [y]) (wipeE ρ2 vs) st2 (by rw [List.length_append, List.length_singleton]; omega) (fun k d acc ρ st hk hj => by
      obtain ⟨a1, a2, a3, a4, a5, a6, a7, a8⟩ := hs (k + 1) d acc ρ st hk (by rw [show i + (k + 1) = i + 1 + k by omega]; exact hj)
      exact ⟨a1, a2, a3, a4, a5, a6, a7, by rw [show i + 1 + k + 1 = i + (k + 1) + 1 by omega]; exact a8⟩) h2
    refine ⟨acc3, ρ3, st3, ?_, by rw [List.length_cons, show i + (xs.length + 1) = i + 1 + xs.length by omega]; exact h3⟩
    have hlt : acc.length < lim := by omega
    simp only [lcL, e1, e2, hc, Option.bind_eq_bind, Option.bind_some, if_true, hlt, e3]
end
/-- a deal: the cells that are left, the mix -/
def Deal (st : Sto) : Prop := ∃ (cs : List Int) (mix : Int), st = [cs.map D.int, [.hd 0, .int mix]] ∧ cs.length ≤ 63 ∧ (∀ c ∈ cs, 0 ≤ c) ∧ 0 ≤ mix ∧ mix < 2147483647
theorem atI_lastD (xs : List D) (v : D) : atI (xs ++ [v]) (-1) = some v := atI_last xs v
theorem list_last {α : Type} : ∀ (xs : List α), xs = [] ∨ ∃ ys y, xs = ys ++ [y]
  | [] => .inl rfl
  | x :: xs => by
    rcases list_last xs with rfl | ⟨ys, y, rfl⟩
    · exact .inr ⟨[], x, rfl⟩
    · exact .inr ⟨x :: ys, y, rfl⟩
theorem at0 {α : Type} (x : α) (xs : List α) : atI (x :: xs) 0 = some x := by unfold atI ixN; simp
theorem at1 {α : Type} (x y : α) (xs : List α) : atI (x :: y :: xs) 1 = some y := by
  unfold atI ixN
  rw [if_pos (by decide), if_pos (by simp; omega)]
  rfl
theorem big_of {a : Int} {n : Nat} (hn : n ≤ 399999) (h : a.natAbs < 2 ^ n) : Big a := by
  unfold Big
  by_cases h0 : a.natAbs = 0
  · rw [h0]; decide
  · have := (Nat.log2_lt h0 (k := n)).mpr h
    omega
theorem big_small {a : Int} (h : a.natAbs < 2 ^ 200) : Big a := big_of (n := 200) (by decide) h
theorem log_small {a : Int} (h0 : 0 < a) (h : a < 2 ^ 62) : a.natAbs.log2 < 9000 := by
  have := (Nat.log2_lt (n := a.natAbs) (k := 62) (by omega)).mpr (by omega)
  omega
theorem any_loop (P : Tb) (b : Int) (mix : Int) : ∀ (n : Nat) (cs : List Int), cs.length < n → ∃ cs' : List Int, whlL (evT P law_any_c0) (exSs P law_any_b1) n [.val (.hd 1), .val (.int b), .no] [cs.map D.int, [.hd 0, .int mix]] = some (.nx, [.val (.hd 1), .val (.int b), .no], [cs'.map D.int, [.hd 0, .int mix]]) ∧ cs'.length ≤ cs.length ∧ (∀ c ∈ cs', c ∈ cs)
  | 0, cs, h => by omega
  | n + 1, cs, h => by
    rcases list_last cs with rfl | ⟨ds, d, rfl⟩
    · refine ⟨[], ?_, Nat.le_refl _, fun _ h => h⟩
      simp only [whlL, law_any_c0, at0, exSs, exS, evE, evEs, evT, Pv.evI, evC, evTg, evTgs, evO, vv, up, one, retE, Option.bind_eq_bind, Option.bind_some, Option.map_some, Option.pure_def, List.getElem?_cons_zero, List.getElem?_cons_succ, List.set_cons_zero, List.set_cons_succ, asgN, asgSub, setIx, opD, addD, mulD, biD, cmpD, ixD, ixL, lenD, slotSeq, slotLst, truD, List.length_cons, List.length_nil, if_true, if_false, Bool.false_eq_true, reduceIte, mthHR, mthR, mtD, slD, seqOf, wipeE, Tgs.len, Pv.unpack, Option.map_none, Option.bind_none, augD, revD, List.map_cons, List.map_nil, isiD, ty, List.any_cons, List.any_nil]
      rfl
    · by_cases hd : d = 0
      · subst hd
        obtain ⟨cs', h1, h2, h3⟩ := any_loop P b mix n ds (by simp at h; omega)
        refine ⟨cs', ?_, by simp; omega, fun c hc => List.mem_append_left _ (h3 c hc)⟩
        rw [← h1]
        simp only [whlL, law_any_c0, law_any_b1, at0, exSs, exS, evE, evEs, evT, Pv.evI, evC, evTg, evTgs, evO, vv, up, one, retE, Option.bind_eq_bind, Option.bind_some, Option.map_some, Option.pure_def, List.getElem?_cons_zero, List.getElem?_cons_succ, List.set_cons_zero, List.set_cons_succ, asgN, asgSub, setIx, opD, addD, mulD, biD, cmpD, ixD, ixL, lenD, slotSeq, slotLst, truD, List.length_cons, List.length_nil, if_true, if_false, Bool.false_eq_true, reduceIte, mthHR, mthR, mtD, slD, seqOf, wipeE, Tgs.len, Pv.unpack, Option.map_none, Option.bind_none, augD, revD, List.map_cons, List.map_nil, isiD, ty, List.any_cons, List.any_nil]
        simp [atI_lastD, exSs, exS, evE, evEs, evT, Pv.evI, evC, evTg, evTgs, evO, vv, up, one, retE, Option.bind_eq_bind, Option.bind_some, Option.map_some, Option.pure_def, List.getElem?_cons_zero, List.getElem?_cons_succ, List.set_cons_zero, List.set_cons_succ, asgN, asgSub, setIx, opD, addD, mulD, biD, cmpD, ixD, ixL, lenD, slotSeq, slotLst, truD, List.length_cons, List.length_nil, if_true, if_false, Bool.false_eq_true, reduceIte, mthHR, mthR, mtD, slD, seqOf, wipeE, Tgs.len, Pv.unpack, Option.map_none, Option.bind_none, augD, revD, List.map_cons, List.map_nil, isiD, ty, List.any_cons, List.any_nil, sh, eqv_int, at0]
      · refine ⟨ds ++ [d], ?_, Nat.le_refl _, fun _ h => h⟩
        simp only [whlL, law_any_c0, law_any_b1, at0, exSs, exS, evE, evEs, evT, Pv.evI, evC, evTg, evTgs, evO, vv, up, one, retE, Option.bind_eq_bind, Option.bind_some, Option.map_some, Option.pure_def, List.getElem?_cons_zero, List.getElem?_cons_succ, List.set_cons_zero, List.set_cons_succ, asgN, asgSub, setIx, opD, addD, mulD, biD, cmpD, ixD, ixL, lenD, slotSeq, slotLst, truD, List.length_cons, List.length_nil, if_true, if_false, Bool.false_eq_true, reduceIte, mthHR, mthR, mtD, slD, seqOf, wipeE, Tgs.len, Pv.unpack, Option.map_none, Option.bind_none, augD, revD, List.map_cons, List.map_nil, isiD, ty, List.any_cons, List.any_nil]
        simp [atI_lastD, exSs, exS, evE, evEs, evT, Pv.evI, evC, evTg, evTgs, evO, vv, up, one, retE, Option.bind_eq_bind, Option.bind_some, Option.map_some, Option.pure_def, List.getElem?_cons_zero, List.getElem?_cons_succ, List.set_cons_zero, List.set_cons_succ, asgN, asgSub, setIx, opD, addD, mulD, biD, cmpD, ixD, ixL, lenD, slotSeq, slotLst, truD, List.length_cons, List.length_nil, if_true, if_false, Bool.false_eq_true, reduceIte, mthHR, mthR, mtD, slD, seqOf, wipeE, Tgs.len, Pv.unpack, Option.map_none, Option.bind_none, augD, revD, List.map_cons, List.map_nil, isiD, ty, List.any_cons, List.any_nil, sh, eqv_int, at0, hd]
theorem any_ok (P : Tb) (ps : List Str) (hp : ps.length = 2) {st : Sto} (hst : Deal st) {b : Int} (h0 : 0 < b) (hb : b < 2 ^ 60) : ∃ r st', runF P ⟨ps, 3, h_any⟩ [.hd 1, .int b] st = some (false, .int r, st') ∧ 0 ≤ r ∧ r < b ∧ Deal st' := by
  obtain ⟨cs, mix, rfl, hl, hc, m0, m1⟩ := hst
  obtain ⟨cs', e, l', c'⟩ := any_loop P b mix fuel cs (by unfold fuel; omega)
  have hlog := log_small h0 (by omega)
  rcases list_last cs' with rfl | ⟨ds, d, rfl⟩
  · have q0 : 0 ≤ (mix * 48271 + 31) % 2147483647 := Int.emod_nonneg _ (by decide)
    have q1 : (mix * 48271 + 31) % 2147483647 < 2147483647 := Int.emod_lt_of_pos _ (by decide)
    refine ⟨((mix * 48271 + 31) % 2147483647 / 64) % b, [[], [.hd 0, .int ((mix * 48271 + 31) % 2147483647)]], ?_, Int.emod_nonneg _ (by omega), Int.emod_lt_of_pos _ h0, [], _, rfl, by simp, by simp, q0, q1⟩
    have hbm : Big mix := big_small (by omega)
    have hbk : Big 48271 := by decide
    have l64 : Nat.log2 64 < 9000 := by decide
    refine run_rt (ρ1 := [.val (.hd 1), .val (.int b), .no]) (n := 1) (by simp [hp]) (by simp [hp]) ?_
    refine (sq (ex_whl e)).trans ?_
    refine (sq (ex_it (t := false) (by simp [at0, exSs, exS, evE, evEs, evT, Pv.evI, evC, evTg, evTgs, evO, vv, up, one, retE, Option.bind_eq_bind, Option.bind_some, Option.map_some, Option.pure_def, List.getElem?_cons_zero, List.getElem?_cons_succ, List.set_cons_zero, List.set_cons_succ, asgN, asgSub, setIx, opD, addD, mulD, biD, cmpD, ixD, ixL, lenD, slotSeq, slotLst, truD, List.length_cons, List.length_nil, if_true, if_false, Bool.false_eq_true, reduceIte, mthHR, mthR, mtD, slD, seqOf, wipeE, Tgs.len, Pv.unpack, Option.map_none, Option.bind_none, augD, revD, List.map_cons, List.map_nil, isiD, ty, List.any_cons, List.any_nil]; exact ⟨rfl, rfl⟩) rfl)).trans ?_
    refine (sq (ρ1 := [.val (.hd 1), .val (.int b), .no]) (st1 := [[], [.hd 0, .int ((mix * 48271 + 31) % 2147483647)]]) (by simp [at0, at1, exSs, exS, evE, evEs, evT, Pv.evI, evC, evTg, evTgs, evO, vv, up, one, retE, Option.bind_eq_bind, Option.bind_some, Option.map_some, Option.pure_def, List.getElem?_cons_zero, List.getElem?_cons_succ, List.set_cons_zero, List.set_cons_succ, asgN, asgSub, setIx, opD, addD, mulD, biD, cmpD, ixD, ixL, lenD, slotSeq, slotLst, truD, List.length_cons, List.length_nil, if_true, if_false, Bool.false_eq_true, reduceIte, mthHR, mthR, mtD, slD, seqOf, wipeE, Tgs.len, Pv.unpack, Option.map_none, Option.bind_none, augD, revD, List.map_cons, List.map_nil, isiD, ty, List.any_cons, List.any_nil, hbm, hbk, ixN])).trans ?_
    exact sqr (by simp [at0, at1, exSs, exS, evE, evEs, evT, Pv.evI, evC, evTg, evTgs, evO, vv, up, one, retE, Option.bind_eq_bind, Option.bind_some, Option.map_some, Option.pure_def, List.getElem?_cons_zero, List.getElem?_cons_succ, List.set_cons_zero, List.set_cons_succ, asgN, asgSub, setIx, opD, addD, mulD, biD, cmpD, ixD, ixL, lenD, slotSeq, slotLst, truD, List.length_cons, List.length_nil, if_true, if_false, Bool.false_eq_true, reduceIte, mthHR, mthR, mtD, slD, seqOf, wipeE, Tgs.len, Pv.unpack, Option.map_none, Option.bind_none, augD, revD, List.map_cons, List.map_nil, isiD, ty, List.any_cons, List.any_nil, hbm, hbk, h0, ixN, l64])
  · have d0 : 0 ≤ d := hc d (c' d (by simp))
    have q0 : 0 ≤ d / b := Int.ediv_nonneg d0 (by omega)
    refine ⟨d % b, [(ds ++ [d / b]).map D.int, [.hd 0, .int mix]], ?_, Int.emod_nonneg _ (by omega), Int.emod_lt_of_pos _ h0, ds ++ [d / b], mix, rfl, by simp at l' ⊢; omega, fun c hc1 => ?_, m0, m1⟩
    · refine run_rt (ρ1 := [.val (.hd 1), .val (.int b), .val (.int d)]) (n := 1) (by simp [hp]) (by simp [hp]) ?_
      refine (sq (ex_whl e)).trans ?_
      have hlim : ds.length < lim := by simp at l'; unfold lim; omega
      refine sqr (ex_it (t := true) (ρ1 := [.val (.hd 1), .val (.int b), .no]) (st1 := [(ds ++ [d]).map D.int, [.hd 0, .int mix]]) (by simp [at0, exSs, exS, evE, evEs, evT, Pv.evI, evC, evTg, evTgs, evO, vv, up, one, retE, Option.bind_eq_bind, Option.bind_some, Option.map_some, Option.pure_def, List.getElem?_cons_zero, List.getElem?_cons_succ, List.set_cons_zero, List.set_cons_succ, asgN, asgSub, setIx, opD, addD, mulD, biD, cmpD, ixD, ixL, lenD, slotSeq, slotLst, truD, List.length_cons, List.length_nil, if_true, if_false, Bool.false_eq_true, reduceIte, mthHR, mthR, mtD, slD, seqOf, wipeE, Tgs.len, Pv.unpack, Option.map_none, Option.bind_none, augD, revD, List.map_cons, List.map_nil, isiD, ty, List.any_cons, List.any_nil]) ?_)
      simp only [if_true]
      refine (sq (ρ1 := [.val (.hd 1), .val (.int b), .val (.int d)]) (st1 := [ds.map D.int, [.hd 0, .int mix]]) (by simp [at0, exSs, exS, evE, evEs, evT, Pv.evI, evC, evTg, evTgs, evO, vv, up, one, retE, Option.bind_eq_bind, Option.bind_some, Option.map_some, Option.pure_def, List.getElem?_cons_zero, List.getElem?_cons_succ, List.set_cons_zero, List.set_cons_succ, asgN, asgSub, setIx, opD, addD, mulD, biD, cmpD, ixD, ixL, lenD, slotSeq, slotLst, truD, List.length_cons, List.length_nil, if_true, if_false, Bool.false_eq_true, reduceIte, mthHR, mthR, mtD, slD, seqOf, wipeE, Tgs.len, Pv.unpack, Option.map_none, Option.bind_none, augD, revD, List.map_cons, List.map_nil, isiD, ty, List.any_cons, List.any_nil])).trans ?_
      refine (sq (ρ1 := [.val (.hd 1), .val (.int b), .val (.int d)]) (st1 := [(ds ++ [d / b]).map D.int, [.hd 0, .int mix]]) (by simp [at0, exSs, exS, evE, evEs, evT, Pv.evI, evC, evTg, evTgs, evO, vv, up, one, retE, Option.bind_eq_bind, Option.bind_some, Option.map_some, Option.pure_def, List.getElem?_cons_zero, List.getElem?_cons_succ, List.set_cons_zero, List.set_cons_succ, asgN, asgSub, setIx, opD, addD, mulD, biD, cmpD, ixD, ixL, lenD, slotSeq, slotLst, truD, List.length_cons, List.length_nil, if_true, if_false, Bool.false_eq_true, reduceIte, mthHR, mthR, mtD, slD, seqOf, wipeE, Tgs.len, Pv.unpack, Option.map_none, Option.bind_none, augD, revD, List.map_cons, List.map_nil, isiD, ty, List.any_cons, List.any_nil, h0, hlog, hlim])).trans ?_
      exact sqr (by simp [at0, exSs, exS, evE, evEs, evT, Pv.evI, evC, evTg, evTgs, evO, vv, up, one, retE, Option.bind_eq_bind, Option.bind_some, Option.map_some, Option.pure_def, List.getElem?_cons_zero, List.getElem?_cons_succ, List.set_cons_zero, List.set_cons_succ, asgN, asgSub, setIx, opD, addD, mulD, biD, cmpD, ixD, ixL, lenD, slotSeq, slotLst, truD, List.length_cons, List.length_nil, if_true, if_false, Bool.false_eq_true, reduceIte, mthHR, mthR, mtD, slD, seqOf, wipeE, Tgs.len, Pv.unpack, Option.map_none, Option.bind_none, augD, revD, List.map_cons, List.map_nil, isiD, ty, List.any_cons, List.any_nil, h0])
    · rcases List.mem_append.mp hc1 with h | h
      · exact hc c (c' c (List.mem_append_left _ h))
      · rw [List.mem_singleton.mp h]; exact q0
/-! ### ranges -/
theorem rng_len {a b : Int} : (rngL a b 1).length = (b - a).toNat := by
  unfold rngL rngN Builtin.Range.rangeSize
  rw [List.length_map, List.length_range, if_pos (by decide)]
  split
  · rw [Int.ediv_one]; omega
  · show (0 : Int).toNat = _; simp; omega
theorem rng_at {a b c : Int} {k : Nat} {d : D} (h : (rngL a b c)[k]? = some d) : d = .int (a + (k : Int) * c) := (rng_get h).2
theorem rng_lt {a b c : Int} {k : Nat} {d : D} (h : (rngL a b c)[k]? = some d) : k < (rngL a b c).length := (List.getElem?_eq_some_iff.mp h).1
theorem rngD1 {n : Int} (h0 : 0 ≤ n) (h : n ≤ 1000000) : rngD [.int n] = some (rngL 0 n 1) := by
  have : rngOk 0 n 1 = true := by
    unfold rngOk Builtin.Range.small Builtin.Range.rangeSize Builtin.Range.rangeFitsLong
    simp
    split <;> omega
  simp only [rngD, this, if_true]
theorem rngD2 {a b : Int} (h0 : 0 ≤ a) (h1 : a ≤ 1000000) (h2 : 0 ≤ b) (h : b ≤ 1000000) : rngD [.int a, .int b] = some (rngL a b 1) := by
  have : rngOk a b 1 = true := by
    unfold rngOk Builtin.Range.small Builtin.Range.rangeSize Builtin.Range.rangeFitsLong
    simp
    split <;> omega
  simp only [rngD, this, if_true]
/-! ### one of some -/
def AnyOk (P : Tb) : Prop := ∀ (b : Int) (st : Sto), 0 < b → b < 2 ^ 60 → Deal st → ∃ r st', P.F "_law_any" [.hd 1, .int b] st = some (false, .int r, st') ∧ 0 ≤ r ∧ r < b ∧ Deal st'
theorem of_ok {P : Tb} (ha : AnyOk P) (ps : List Str) (hp : ps.length = 2) {st : Sto} (hst : Deal st) {xs : List D} (h0 : xs ≠ []) (hl : xs.length < 1000000) : ∃ x st', runF P ⟨ps, 2, h_of⟩ [.hd 1, .lst xs] st = some (false, x, st') ∧ x ∈ xs ∧ Deal st' := by
  have hpos : 0 < xs.length := List.length_pos_iff.mpr h0
  obtain ⟨r, st', e, r0, r1, hd⟩ := ha xs.length st (by omega) (by omega) hst
  obtain ⟨j, rfl⟩ := Int.eq_ofNat_of_zero_le r0
  have hj : j < xs.length := by omega
  refine ⟨xs[j], st', ?_, List.getElem_mem hj, hd⟩
  have hat : atI xs (j : Int) = some xs[j] := atI_nat (List.getElem?_eq_getElem hj)
  refine run_rt (ρ1 := [.val (.hd 1), .val (.lst xs)]) (n := 0) (by simp [hp]) (by simp [hp]) ?_
  exact sqr (by simp [exSs, exS, evE, evEs, evT, Pv.evI, evC, evTg, evTgs, evO, vv, up, one, retE, Option.bind_eq_bind, Option.bind_some, Option.map_some, Option.pure_def, List.getElem?_cons_zero, List.getElem?_cons_succ, List.set_cons_zero, List.set_cons_succ, asgN, asgSub, setIx, opD, addD, mulD, biD, cmpD, ixD, ixL, lenD, slotSeq, slotLst, truD, List.length_cons, List.length_nil, if_true, if_false, Bool.false_eq_true, reduceIte, mthHR, mthR, mtD, slD, seqOf, wipeE, Tgs.len, Pv.unpack, Option.map_none, Option.bind_none, augD, revD, List.map_cons, List.map_nil, isiD, ty, List.any_cons, List.any_nil, e, hat])
/-! ### the same -/
inductive Pl : D → Prop
  | non : Pl .non
  | int (i : Int) : Pl (.int i)
  | tup {xs : List D} : (∀ x ∈ xs, Pl x) → Pl (.tup xs)
mutual
def wt : D → Nat
  | .tup xs => 1 + wtL xs
  | _ => 1
def wtL : List D → Nat
  | [] => 0
  | x :: xs => wt x + wtL xs
end
theorem wtL_app : ∀ (xs ys : List D), wtL (xs ++ ys) = wtL xs + wtL ys
  | [], ys => by simp [wtL]
  | x :: xs, ys => by simp [wtL, wtL_app xs ys]; omega
theorem wt_pos (d : D) : 1 ≤ wt d := by cases d <;> simp [wt]
theorem wtL_len : ∀ xs : List D, xs.length ≤ wtL xs
  | [] => Nat.le_refl _
  | x :: xs => by have := wt_pos x; have := wtL_len xs; simp [wtL]; omega
theorem wtL_mem {x : D} : ∀ {xs : List D}, x ∈ xs → wt x ≤ wtL xs
  | y :: ys, h => by
    rcases List.mem_cons.mp h with rfl | h
    · simp [wtL]
    · have := wtL_mem h; simp [wtL]; omega
def pr (d : D) : D := .tup [d, d]
theorem kind_ok (P : Tb) (ps : List Str) (hp : ps.length = 2) (st : Sto) {d : D} (h : Pl d) (ht : ∀ xs, d ≠ .tup xs) : runF P ⟨ps, 2, h_is_kind⟩ [d, d] st = some (false, .bl true, st) := by
  cases h with
  | non =>
    refine run_rt (ρ1 := [.val .non, .val .non]) (n := 0) (by simp [hp]) (by simp [hp]) ?_
    exact sqr (ex_it (t := true) (by simp [exSs, exS, evE, evEs, evT, Pv.evI, evC, evTg, evTgs, evO, vv, up, one, retE, Option.bind_eq_bind, Option.bind_some, Option.map_some, Option.pure_def, List.getElem?_cons_zero, List.getElem?_cons_succ, List.set_cons_zero, List.set_cons_succ, asgN, asgSub, setIx, opD, addD, mulD, biD, cmpD, ixD, ixL, lenD, slotSeq, slotLst, truD, List.length_cons, List.length_nil, if_true, if_false, Bool.false_eq_true, reduceIte, mthHR, mthR, mtD, slD, seqOf, wipeE, Tgs.len, Pv.unpack, Option.map_none, Option.bind_none, augD, revD, List.map_cons, List.map_nil, isiD, ty, List.any_cons, List.any_nil]; exact ⟨rfl, rfl⟩) (by simp [exSs, exS, evE, evEs, evT, Pv.evI, evC, evTg, evTgs, evO, vv, up, one, retE, Option.bind_eq_bind, Option.bind_some, Option.map_some, Option.pure_def, List.getElem?_cons_zero, List.getElem?_cons_succ, List.set_cons_zero, List.set_cons_succ, asgN, asgSub, setIx, opD, addD, mulD, biD, cmpD, ixD, ixL, lenD, slotSeq, slotLst, truD, List.length_cons, List.length_nil, if_true, if_false, Bool.false_eq_true, reduceIte, mthHR, mthR, mtD, slD, seqOf, wipeE, Tgs.len, Pv.unpack, Option.map_none, Option.bind_none, augD, revD, List.map_cons, List.map_nil, isiD, ty, List.any_cons, List.any_nil]))
  | int i =>
    refine run_rt (ρ1 := [.val (.int i), .val (.int i)]) (n := 0) (by simp [hp]) (by simp [hp]) ?_
    refine (sq (ex_it (t := false) (by simp [exSs, exS, evE, evEs, evT, Pv.evI, evC, evTg, evTgs, evO, vv, up, one, retE, Option.bind_eq_bind, Option.bind_some, Option.map_some, Option.pure_def, List.getElem?_cons_zero, List.getElem?_cons_succ, List.set_cons_zero, List.set_cons_succ, asgN, asgSub, setIx, opD, addD, mulD, biD, cmpD, ixD, ixL, lenD, slotSeq, slotLst, truD, List.length_cons, List.length_nil, if_true, if_false, Bool.false_eq_true, reduceIte, mthHR, mthR, mtD, slD, seqOf, wipeE, Tgs.len, Pv.unpack, Option.map_none, Option.bind_none, augD, revD, List.map_cons, List.map_nil, isiD, ty, List.any_cons, List.any_nil]; exact ⟨rfl, rfl⟩) rfl)).trans ?_
    refine (sq (ex_it (t := false) (by simp [exSs, exS, evE, evEs, evT, Pv.evI, evC, evTg, evTgs, evO, vv, up, one, retE, Option.bind_eq_bind, Option.bind_some, Option.map_some, Option.pure_def, List.getElem?_cons_zero, List.getElem?_cons_succ, List.set_cons_zero, List.set_cons_succ, asgN, asgSub, setIx, opD, addD, mulD, biD, cmpD, ixD, ixL, lenD, slotSeq, slotLst, truD, List.length_cons, List.length_nil, if_true, if_false, Bool.false_eq_true, reduceIte, mthHR, mthR, mtD, slD, seqOf, wipeE, Tgs.len, Pv.unpack, Option.map_none, Option.bind_none, augD, revD, List.map_cons, List.map_nil, isiD, ty, List.any_cons, List.any_nil]; exact ⟨rfl, rfl⟩) rfl)).trans ?_
    refine (sq (ex_it (t := false) (by simp [exSs, exS, evE, evEs, evT, Pv.evI, evC, evTg, evTgs, evO, vv, up, one, retE, Option.bind_eq_bind, Option.bind_some, Option.map_some, Option.pure_def, List.getElem?_cons_zero, List.getElem?_cons_succ, List.set_cons_zero, List.set_cons_succ, asgN, asgSub, setIx, opD, addD, mulD, biD, cmpD, ixD, ixL, lenD, slotSeq, slotLst, truD, List.length_cons, List.length_nil, if_true, if_false, Bool.false_eq_true, reduceIte, mthHR, mthR, mtD, slD, seqOf, wipeE, Tgs.len, Pv.unpack, Option.map_none, Option.bind_none, augD, revD, List.map_cons, List.map_nil, isiD, ty, List.any_cons, List.any_nil]; exact ⟨rfl, rfl⟩) rfl)).trans ?_
    exact sqr (by simp [exSs, exS, evE, evEs, evT, Pv.evI, evC, evTg, evTgs, evO, vv, up, one, retE, Option.bind_eq_bind, Option.bind_some, Option.map_some, Option.pure_def, List.getElem?_cons_zero, List.getElem?_cons_succ, List.set_cons_zero, List.set_cons_succ, asgN, asgSub, setIx, opD, addD, mulD, biD, cmpD, ixD, ixL, lenD, slotSeq, slotLst, truD, List.length_cons, List.length_nil, if_true, if_false, Bool.false_eq_true, reduceIte, mthHR, mthR, mtD, slD, seqOf, wipeE, Tgs.len, Pv.unpack, Option.map_none, Option.bind_none, augD, revD, List.map_cons, List.map_nil, isiD, ty, List.any_cons, List.any_nil, sh, eqv_int])
  | tup h => exact absurd rfl (ht _)
def KindOk (P : Tb) : Prop := ∀ (st : Sto) (d : D), Pl d → (∀ xs, d ≠ .tup xs) → P.F "_law_is_kind" [d, d] st = some (false, .bl true, st)
theorem take_pr {xs : List D} {k : Nat} {d : D} (h : xs[k]? = some d) : (xs.take (k + 1)).map pr = (xs.take k).map pr ++ [.tup [d, d]] := by
  rw [List.take_add_one, h, List.map_append]; rfl
theorem same_loop {P : Tb} (hk : KindOk P) (st : Sto) (a b : D) : ∀ (n : Nat) (todo : List D) (s3 s4 s5 : Sl), wtL todo < n → wtL todo < 100000 → (∀ d ∈ todo, Pl d) → ∃ ρ', whlL (evT P law_same_c0) (exSs P law_same_b2) n [.val a, .val b, .own (todo.map pr), s3, s4, s5] st = some (.nx, ρ', st)
  | 0, _, _, _, _, h, _, _ => by omega
  | n + 1, todo, s3, s4, s5, h, hb, hp => by
    rcases list_last todo with rfl | ⟨init, d, rfl⟩
    · exact ⟨_, by simp only [whlL, law_same_c0, exSs, exS, evE, evEs, evT, Pv.evI, evC, evTg, evTgs, evO, vv, up, one, retE, Option.bind_eq_bind, Option.bind_some, Option.map_some, Option.pure_def, List.getElem?_cons_zero, List.getElem?_cons_succ, List.set_cons_zero, List.set_cons_succ, asgN, asgSub, setIx, opD, addD, mulD, biD, cmpD, ixD, ixL, lenD, slotSeq, slotLst, truD, List.length_cons, List.length_nil, if_true, if_false, Bool.false_eq_true, reduceIte, mthHR, mthR, mtD, slD, seqOf, wipeE, Tgs.len, Pv.unpack, Option.map_none, Option.bind_none, augD, revD, List.map_cons, List.map_nil, isiD, ty, List.any_cons, List.any_nil]; simp [exSs, exS, evE, evEs, evT, Pv.evI, evC, evTg, evTgs, evO, vv, up, one, retE, Option.bind_eq_bind, Option.bind_some, Option.map_some, Option.pure_def, List.getElem?_cons_zero, List.getElem?_cons_succ, List.set_cons_zero, List.set_cons_succ, asgN, asgSub, setIx, opD, addD, mulD, biD, cmpD, ixD, ixL, lenD, slotSeq, slotLst, truD, List.length_cons, List.length_nil, if_true, if_false, Bool.false_eq_true, reduceIte, mthHR, mthR, mtD, slD, seqOf, wipeE, Tgs.len, Pv.unpack, Option.map_none, Option.bind_none, augD, revD, List.map_cons, List.map_nil, isiD, ty, List.any_cons, List.any_nil]; rfl⟩
    · have hd : Pl d := hp d (by simp)
      have hi : ∀ x ∈ init, Pl x := fun x hx => hp x (by simp [hx])
      rw [wtL_app] at h hb
      have cT : evT P law_same_c0 [.val a, .val b, .own ((init ++ [d]).map pr), s3, s4, s5] st = some (true, [.val a, .val b, .own ((init ++ [d]).map pr), s3, s4, s5], st) := by
        simp only [law_same_c0, exSs, exS, evE, evEs, evT, Pv.evI, evC, evTg, evTgs, evO, vv, up, one, retE, Option.bind_eq_bind, Option.bind_some, Option.map_some, Option.pure_def, List.getElem?_cons_zero, List.getElem?_cons_succ, List.set_cons_zero, List.set_cons_succ, asgN, asgSub, setIx, opD, addD, mulD, biD, cmpD, ixD, ixL, lenD, slotSeq, slotLst, truD, List.length_cons, List.length_nil, if_true, if_false, Bool.false_eq_true, reduceIte, mthHR, mthR, mtD, slD, seqOf, wipeE, Tgs.len, Pv.unpack, Option.map_none, Option.bind_none, augD, revD, List.map_cons, List.map_nil, isiD, ty, List.any_cons, List.any_nil]
        simp [exSs, exS, evE, evEs, evT, Pv.evI, evC, evTg, evTgs, evO, vv, up, one, retE, Option.bind_eq_bind, Option.bind_some, Option.map_some, Option.pure_def, List.getElem?_cons_zero, List.getElem?_cons_succ, List.set_cons_zero, List.set_cons_succ, asgN, asgSub, setIx, opD, addD, mulD, biD, cmpD, ixD, ixL, lenD, slotSeq, slotLst, truD, List.length_cons, List.length_nil, if_true, if_false, Bool.false_eq_true, reduceIte, mthHR, mthR, mtD, slD, seqOf, wipeE, Tgs.len, Pv.unpack, Option.map_none, Option.bind_none, augD, revD, List.map_cons, List.map_nil, isiD, ty, List.any_cons, List.any_nil]
      have pop : exS P (.asgT (.tup (.cons (.n 3) (.cons (.n 4) .nil))) (.mth .pop 2 .nil)) [.val a, .val b, .own ((init ++ [d]).map pr), s3, s4, s5] st = some (.nx, [.val a, .val b, .own (init.map pr), .val d, .val d, s5], st) := by
        simp only [exSs, exS, evE, evEs, evT, Pv.evI, evC, evTg, evTgs, evO, vv, up, one, retE, Option.bind_eq_bind, Option.bind_some, Option.map_some, Option.pure_def, List.getElem?_cons_zero, List.getElem?_cons_succ, List.set_cons_zero, List.set_cons_succ, asgN, asgSub, setIx, opD, addD, mulD, biD, cmpD, ixD, ixL, lenD, slotSeq, slotLst, truD, List.length_cons, List.length_nil, if_true, if_false, Bool.false_eq_true, reduceIte, mthHR, mthR, mtD, slD, seqOf, wipeE, Tgs.len, Pv.unpack, Option.map_none, Option.bind_none, augD, revD, List.map_cons, List.map_nil, isiD, ty, List.any_cons, List.any_nil, evTgs]
        simp [exSs, exS, evE, evEs, evT, Pv.evI, evC, evTg, evTgs, evO, vv, up, one, retE, Option.bind_eq_bind, Option.bind_some, Option.map_some, Option.pure_def, List.getElem?_cons_zero, List.getElem?_cons_succ, List.set_cons_zero, List.set_cons_succ, asgN, asgSub, setIx, opD, addD, mulD, biD, cmpD, ixD, ixL, lenD, slotSeq, slotLst, truD, List.length_cons, List.length_nil, if_true, if_false, Bool.false_eq_true, reduceIte, mthHR, mthR, mtD, slD, seqOf, wipeE, Tgs.len, Pv.unpack, Option.map_none, Option.bind_none, augD, revD, List.map_cons, List.map_nil, isiD, ty, List.any_cons, List.any_nil, pr, evTgs]
      by_cases ht : ∃ xs, d = .tup xs
      · obtain ⟨xs, rfl⟩ := ht
        have hxs : ∀ x ∈ xs, Pl x := by cases hd with | tup h => exact h
        have hw : wtL [D.tup xs] = 1 + wtL xs := by simp [wtL, wt]
        have hl := wtL_len xs
        have hl2 := wtL_len init
        obtain ⟨ρ1, st1, e1, ⟨s, rfl, rfl⟩⟩ := for_all (asg := evTg P (.n 5)) (b := exSs P law_same_b1) (fun k ρ st' => ∃ s, ρ = [.val a, .val b, .own (init.map pr ++ (xs.take k).map pr), .val (.tup xs), .val (.tup xs), s] ∧ st' = st) (rngL 0 xs.length 1) 0 [.val a, .val b, .own (init.map pr), .val (.tup xs), .val (.tup xs), s5] st
          (fun k d ρ st' hk hj => by
            obtain ⟨s, rfl, rfl⟩ := hj
            have hkl := rng_lt hk
            rw [rng_len] at hkl
            have hkx : k < xs.length := by omega
            have hd := rng_at hk
            rw [Int.zero_add, Int.mul_one] at hd
            subst hd
            refine ⟨[.val a, .val b, .own (init.map pr ++ (xs.take (0 + k)).map pr), .val (.tup xs), .val (.tup xs), .val (.int k)], st', by simp [exSs, exS, evE, evEs, evT, Pv.evI, evC, evTg, evTgs, evO, vv, up, one, retE, Option.bind_eq_bind, Option.bind_some, Option.map_some, Option.pure_def, List.getElem?_cons_zero, List.getElem?_cons_succ, List.set_cons_zero, List.set_cons_succ, asgN, asgSub, setIx, opD, addD, mulD, biD, cmpD, ixD, ixL, lenD, slotSeq, slotLst, truD, List.length_cons, List.length_nil, if_true, if_false, Bool.false_eq_true, reduceIte, mthHR, mthR, mtD, slD, seqOf, wipeE, Tgs.len, Pv.unpack, Option.map_none, Option.bind_none, augD, revD, List.map_cons, List.map_nil, isiD, ty, List.any_cons, List.any_nil], ?_⟩
            have hat : atI xs (k : Int) = some xs[k] := atI_nat (List.getElem?_eq_getElem hkx)
            have hlim : init.length + min k xs.length < lim := by unfold lim; omega
            refine ⟨[.val a, .val b, .own (init.map pr ++ (xs.take (k + 1)).map pr), .val (.tup xs), .val (.tup xs), .val (.int k)], st', ?_, ⟨_, by rw [Nat.zero_add], rfl⟩⟩
            rw [take_pr (List.getElem?_eq_getElem hkx), ← List.append_assoc, Nat.zero_add]
            refine sq1 (ρ1 := [.val a, .val b, .own (init.map pr ++ (xs.take k).map pr ++ [.tup [xs[k], xs[k]]]), .val (.tup xs), .val (.tup xs), .val (.int k)]) (st1 := st') ?_
            simp [exSs, exS, evE, evEs, evT, Pv.evI, evC, evTg, evTgs, evO, vv, up, one, retE, Option.bind_eq_bind, Option.bind_some, Option.map_some, Option.pure_def, List.getElem?_cons_zero, List.getElem?_cons_succ, List.set_cons_zero, List.set_cons_succ, asgN, asgSub, setIx, opD, addD, mulD, biD, cmpD, ixD, ixL, lenD, slotSeq, slotLst, truD, List.length_cons, List.length_nil, if_true, if_false, Bool.false_eq_true, reduceIte, mthHR, mthR, mtD, slD, seqOf, wipeE, Tgs.len, Pv.unpack, Option.map_none, Option.bind_none, augD, revD, List.map_cons, List.map_nil, isiD, ty, List.any_cons, List.any_nil, hat, hlim, show (2 : Nat) ≤ lim by decide])
          ⟨s5, by simp, rfl⟩
        rw [rng_len] at e1
        have tk : (xs.take (0 + (rngL 0 xs.length 1).length)) = xs := by rw [rng_len]; simp
        obtain ⟨ρ', e'⟩ := same_loop hk st1 a b n (init ++ xs) (.val (.tup xs)) (.val (.tup xs)) s (by rw [wtL_app]; omega) (by rw [wtL_app]; omega) (fun x hx => (List.mem_append.mp hx).elim (hi x) (hxs x))
        refine ⟨ρ', ?_⟩
        rw [← e', List.map_append (l₁ := init) (l₂ := xs)]
        rw [show 0 + ((xs.length : Int) - 0).toNat = xs.length by omega, List.take_length] at e1
        have body : exSs P law_same_b2 [.val a, .val b, .own ((init ++ [D.tup xs]).map pr), s3, s4, s5] st1 = some (.nx, [.val a, .val b, .own (init.map pr ++ xs.map pr), .val (.tup xs), .val (.tup xs), s], st1) := by
          refine (sq pop).trans ?_
          refine sq1 (ex_it (t := true) (by simp [exSs, exS, evE, evEs, evT, Pv.evI, evC, evTg, evTgs, evO, vv, up, one, retE, Option.bind_eq_bind, Option.bind_some, Option.map_some, Option.pure_def, List.getElem?_cons_zero, List.getElem?_cons_succ, List.set_cons_zero, List.set_cons_succ, asgN, asgSub, setIx, opD, addD, mulD, biD, cmpD, ixD, ixL, lenD, slotSeq, slotLst, truD, List.length_cons, List.length_nil, if_true, if_false, Bool.false_eq_true, reduceIte, mthHR, mthR, mtD, slD, seqOf, wipeE, Tgs.len, Pv.unpack, Option.map_none, Option.bind_none, augD, revD, List.map_cons, List.map_nil, isiD, ty, List.any_cons, List.any_nil]; exact ⟨rfl, rfl⟩) ?_)
          simp only [if_true]
          refine (sq (ex_it (t := false) (by simp [exSs, exS, evE, evEs, evT, Pv.evI, evC, evTg, evTgs, evO, vv, up, one, retE, Option.bind_eq_bind, Option.bind_some, Option.map_some, Option.pure_def, List.getElem?_cons_zero, List.getElem?_cons_succ, List.set_cons_zero, List.set_cons_succ, asgN, asgSub, setIx, opD, addD, mulD, biD, cmpD, ixD, ixL, lenD, slotSeq, slotLst, truD, List.length_cons, List.length_nil, if_true, if_false, Bool.false_eq_true, reduceIte, mthHR, mthR, mtD, slD, seqOf, wipeE, Tgs.len, Pv.unpack, Option.map_none, Option.bind_none, augD, revD, List.map_cons, List.map_nil, isiD, ty, List.any_cons, List.any_nil, sh, eqv_int]; exact ⟨rfl, rfl⟩) rfl)).trans ?_
          have hr : evI P (.rng (.cons (.lenv 4) .nil)) [.val a, .val b, .own (init.map pr), .val (.tup xs), .val (.tup xs), s5] st1 = some (rngL 0 xs.length 1, [.val a, .val b, .own (init.map pr), .val (.tup xs), .val (.tup xs), s5], st1) := by
            simp [exSs, exS, evE, evEs, evT, Pv.evI, evC, evTg, evTgs, evO, vv, up, one, retE, Option.bind_eq_bind, Option.bind_some, Option.map_some, Option.pure_def, List.getElem?_cons_zero, List.getElem?_cons_succ, List.set_cons_zero, List.set_cons_succ, asgN, asgSub, setIx, opD, addD, mulD, biD, cmpD, ixD, ixL, lenD, slotSeq, slotLst, truD, List.length_cons, List.length_nil, if_true, if_false, Bool.false_eq_true, reduceIte, mthHR, mthR, mtD, slD, seqOf, wipeE, Tgs.len, Pv.unpack, Option.map_none, Option.bind_none, augD, revD, List.map_cons, List.map_nil, isiD, ty, List.any_cons, List.any_nil, rngD1 (n := xs.length) (by omega) (by omega)]
          exact sq1 (ex_for hr e1)
        simp only [whlL, cT, body, Option.bind_eq_bind, Option.bind_some, if_true]
      · have hn : ∀ xs, d ≠ .tup xs := fun xs z => ht ⟨xs, z⟩
        have kd := hk st d hd hn
        have fl : (ty d == "tuple") = false ∧ (ty d == "list") = false ∧ (ty d == "dict") = false ∧ ∀ ns, d ≠ .scr ns := by
          cases hd with
          | non => exact ⟨rfl, rfl, rfl, fun _ z => by cases z⟩
          | int i => exact ⟨rfl, rfl, rfl, fun _ z => by cases z⟩
          | tup h => exact absurd rfl (hn _)
        have hw : 1 ≤ wtL [d] := by have := wt_pos d; simp [wtL]; omega
        obtain ⟨ρ', e'⟩ := same_loop hk st a b n init (.val d) (.val d) s5 (by omega) (by omega) hi
        refine ⟨ρ', ?_⟩
        rw [← e']
        have body : exSs P law_same_b2 [.val a, .val b, .own ((init ++ [d]).map pr), s3, s4, s5] st = some (.nx, [.val a, .val b, .own (init.map pr), .val d, .val d, s5], st) := by
          refine (sq pop).trans ?_
          have t1 : evT P (.e (.isi (.v 4) ["tuple"] false)) [.val a, .val b, .own (init.map pr), .val d, .val d, s5] st = some (false, [.val a, .val b, .own (init.map pr), .val d, .val d, s5], st) := by
            cases hd with
            | non => simp [exSs, exS, evE, evEs, evT, Pv.evI, evC, evTg, evTgs, evO, vv, up, one, retE, Option.bind_eq_bind, Option.bind_some, Option.map_some, Option.pure_def, List.getElem?_cons_zero, List.getElem?_cons_succ, List.set_cons_zero, List.set_cons_succ, asgN, asgSub, setIx, opD, addD, mulD, biD, cmpD, ixD, ixL, lenD, slotSeq, slotLst, truD, List.length_cons, List.length_nil, if_true, if_false, Bool.false_eq_true, reduceIte, mthHR, mthR, mtD, slD, seqOf, wipeE, Tgs.len, Pv.unpack, Option.map_none, Option.bind_none, augD, revD, List.map_cons, List.map_nil, isiD, ty, List.any_cons, List.any_nil]
            | int i => simp [exSs, exS, evE, evEs, evT, Pv.evI, evC, evTg, evTgs, evO, vv, up, one, retE, Option.bind_eq_bind, Option.bind_some, Option.map_some, Option.pure_def, List.getElem?_cons_zero, List.getElem?_cons_succ, List.set_cons_zero, List.set_cons_succ, asgN, asgSub, setIx, opD, addD, mulD, biD, cmpD, ixD, ixL, lenD, slotSeq, slotLst, truD, List.length_cons, List.length_nil, if_true, if_false, Bool.false_eq_true, reduceIte, mthHR, mthR, mtD, slD, seqOf, wipeE, Tgs.len, Pv.unpack, Option.map_none, Option.bind_none, augD, revD, List.map_cons, List.map_nil, isiD, ty, List.any_cons, List.any_nil]
            | tup h => exact absurd rfl (hn _)
          have t2 : evT P (.or (.e (.isi (.v 3) ["tuple", "list", "dict"] true)) (.nt (.e (.call "_law_is_kind" (.cons (.v 3) (.cons (.v 4) .nil)))))) [.val a, .val b, .own (init.map pr), .val d, .val d, s5] st = some (false, [.val a, .val b, .own (init.map pr), .val d, .val d, s5], st) := by
            cases hd with
            | non => simp [exSs, exS, evE, evEs, evT, Pv.evI, evC, evTg, evTgs, evO, vv, up, one, retE, Option.bind_eq_bind, Option.bind_some, Option.map_some, Option.pure_def, List.getElem?_cons_zero, List.getElem?_cons_succ, List.set_cons_zero, List.set_cons_succ, asgN, asgSub, setIx, opD, addD, mulD, biD, cmpD, ixD, ixL, lenD, slotSeq, slotLst, truD, List.length_cons, List.length_nil, if_true, if_false, Bool.false_eq_true, reduceIte, mthHR, mthR, mtD, slD, seqOf, wipeE, Tgs.len, Pv.unpack, Option.map_none, Option.bind_none, augD, revD, List.map_cons, List.map_nil, isiD, ty, List.any_cons, List.any_nil, kd]
            | int i => simp [exSs, exS, evE, evEs, evT, Pv.evI, evC, evTg, evTgs, evO, vv, up, one, retE, Option.bind_eq_bind, Option.bind_some, Option.map_some, Option.pure_def, List.getElem?_cons_zero, List.getElem?_cons_succ, List.set_cons_zero, List.set_cons_succ, asgN, asgSub, setIx, opD, addD, mulD, biD, cmpD, ixD, ixL, lenD, slotSeq, slotLst, truD, List.length_cons, List.length_nil, if_true, if_false, Bool.false_eq_true, reduceIte, mthHR, mthR, mtD, slD, seqOf, wipeE, Tgs.len, Pv.unpack, Option.map_none, Option.bind_none, augD, revD, List.map_cons, List.map_nil, isiD, ty, List.any_cons, List.any_nil, kd]
            | tup h => exact absurd rfl (hn _)
          refine sq1 (ex_it t1 ?_)
          simp only [Bool.false_eq_true, if_false]
          exact sq1 (ex_it t2 (by simp only [Bool.false_eq_true, if_false, exSs]))
        simp only [whlL, cT, body, Option.bind_eq_bind, Option.bind_some, if_true]
theorem same_ok {P : Tb} (hk : KindOk P) (ps : List Str) (hp : ps.length = 2) (st : Sto) {d : D} (h : Pl d) (hw : wt d < 99999) : runF P ⟨ps, 6, h_same⟩ [d, d] st = some (false, .bl true, st) := by
  obtain ⟨ρ', e⟩ := same_loop hk st d d fuel [d] .no .no .no (by simp [wtL]; unfold fuel; omega) (by simp [wtL]; omega) (fun x hx => by rw [List.mem_singleton.mp hx]; exact h)
  refine run_rt (ρ1 := ρ') (n := 4) (by simp [hp]) (by simp [hp]) ?_
  refine (sq (ρ1 := [.val d, .val d, .own [pr d], .no, .no, .no]) (st1 := st) (by simp [exSs, exS, evE, evEs, evT, Pv.evI, evC, evTg, evTgs, evO, vv, up, one, retE, Option.bind_eq_bind, Option.bind_some, Option.map_some, Option.pure_def, List.getElem?_cons_zero, List.getElem?_cons_succ, List.set_cons_zero, List.set_cons_succ, asgN, asgSub, setIx, opD, addD, mulD, biD, cmpD, ixD, ixL, lenD, slotSeq, slotLst, truD, List.length_cons, List.length_nil, if_true, if_false, Bool.false_eq_true, reduceIte, mthHR, mthR, mtD, slD, seqOf, wipeE, Tgs.len, Pv.unpack, Option.map_none, Option.bind_none, augD, revD, List.map_cons, List.map_nil, isiD, ty, List.any_cons, List.any_nil, pr, show (2 : Nat) ≤ lim by decide, show (1 : Nat) ≤ lim by decide])).trans ?_
  refine (sq (ex_whl e)).trans ?_
  exact sqr (by simp [exSs, exS, evE, evEs, evT, Pv.evI, evC, evTg, evTgs, evO, vv, up, one, retE, Option.bind_eq_bind, Option.bind_some, Option.map_some, Option.pure_def, List.getElem?_cons_zero, List.getElem?_cons_succ, List.set_cons_zero, List.set_cons_succ, asgN, asgSub, setIx, opD, addD, mulD, biD, cmpD, ixD, ixL, lenD, slotSeq, slotLst, truD, List.length_cons, List.length_nil, if_true, if_false, Bool.false_eq_true, reduceIte, mthHR, mthR, mtD, slD, seqOf, wipeE, Tgs.len, Pv.unpack, Option.map_none, Option.bind_none, augD, revD, List.map_cons, List.map_nil, isiD, ty, List.any_cons, List.any_nil])
/-! ### all -/
def SameOk (P : Tb) : Prop := ∀ (st : Sto) (d : D), Pl d → wt d < 99999 → P.F "_law_same" [d, d] st = some (false, .bl true, st)
def Prs (xs : List D) : Prop := ∀ x ∈ xs, ∃ d, x = pr d ∧ Pl d ∧ wt d < 99999
theorem all_loop {P : Tb} (hs : SameOk P) (a : Sl) (st : Sto) : ∀ (xs : List D), Prs xs → lcL (evTg P (.tup (.cons (.n 1) (.cons (.n 2) .nil)))) (evC P (.so law_all_c1)) (fun ρ st => vv (evE P law_all_e0 ρ st)) [1, 2] xs [] [a, .no, .no] st = some ([], [a, .no, .no], st)
  | [], _ => rfl
  | x :: xs, h => by
    obtain ⟨d, rfl, hd, hw⟩ := h x List.mem_cons_self
    have ih := all_loop hs a st xs fun y hy => h y (List.mem_cons_of_mem _ hy)
    have e1 : evTg P (.tup (.cons (.n 1) (.cons (.n 2) .nil))) (pr d) [a, .no, .no] st = some ([a, .val d, .val d], st) := by
      simp [exSs, exS, evE, evEs, evT, Pv.evI, evC, evTg, evTgs, evO, vv, up, one, retE, Option.bind_eq_bind, Option.bind_some, Option.map_some, Option.pure_def, List.getElem?_cons_zero, List.getElem?_cons_succ, List.set_cons_zero, List.set_cons_succ, asgN, asgSub, setIx, opD, addD, mulD, biD, cmpD, ixD, ixL, lenD, slotSeq, slotLst, truD, List.length_cons, List.length_nil, if_true, if_false, Bool.false_eq_true, reduceIte, mthHR, mthR, mtD, slD, seqOf, wipeE, Tgs.len, Pv.unpack, Option.map_none, Option.bind_none, augD, revD, List.map_cons, List.map_nil, isiD, ty, List.any_cons, List.any_nil, evTgs, pr]
    have e2 : evC P (.so law_all_c1) [a, .val d, .val d] st = some (false, [a, .val d, .val d], st) := by
      simp [law_all_c1, exSs, exS, evE, evEs, evT, Pv.evI, evC, evTg, evTgs, evO, vv, up, one, retE, Option.bind_eq_bind, Option.bind_some, Option.map_some, Option.pure_def, List.getElem?_cons_zero, List.getElem?_cons_succ, List.set_cons_zero, List.set_cons_succ, asgN, asgSub, setIx, opD, addD, mulD, biD, cmpD, ixD, ixL, lenD, slotSeq, slotLst, truD, List.length_cons, List.length_nil, if_true, if_false, Bool.false_eq_true, reduceIte, mthHR, mthR, mtD, slD, seqOf, wipeE, Tgs.len, Pv.unpack, Option.map_none, Option.bind_none, augD, revD, List.map_cons, List.map_nil, isiD, ty, List.any_cons, List.any_nil, hs st d hd hw]
    simp only [lcL, e1, e2, Option.bind_eq_bind, Option.bind_some, Bool.false_eq_true, if_false, wipeE, List.set_cons_zero, List.set_cons_succ]
    exact ih
theorem all_ok {P : Tb} (hs : SameOk P) (ps : List Str) (hp : ps.length = 1) (st : Sto) {xs : List D} (h : Prs xs) : runF P ⟨ps, 3, h_all⟩ [.lst xs] st = some (false, .bl true, st) := by
  refine run_rt (ρ1 := [.val (.lst xs), .no, .no]) (n := 2) (by simp [hp]) (by simp [hp]) ?_
  have e : evE P (.lc law_all_e0 (.tup (.cons (.n 1) (.cons (.n 2) .nil))) (.val (.v 0)) (.so law_all_c1) [("told", 1), ("due", 2)]) [.val (.lst xs), .no, .no] st = some (true, .lst [], [.val (.lst xs), .no, .no], st) :=
    ev_lc (xs := xs) (ρ1 := [.val (.lst xs), .no, .no]) (st1 := st) (by simp [exSs, exS, evE, evEs, evT, Pv.evI, evC, evTg, evTgs, evO, vv, up, one, retE, Option.bind_eq_bind, Option.bind_some, Option.map_some, Option.pure_def, List.getElem?_cons_zero, List.getElem?_cons_succ, List.set_cons_zero, List.set_cons_succ, asgN, asgSub, setIx, opD, addD, mulD, biD, cmpD, ixD, ixL, lenD, slotSeq, slotLst, truD, List.length_cons, List.length_nil, if_true, if_false, Bool.false_eq_true, reduceIte, mthHR, mthR, mtD, slD, seqOf, wipeE, Tgs.len, Pv.unpack, Option.map_none, Option.bind_none, augD, revD, List.map_cons, List.map_nil, isiD, ty, List.any_cons, List.any_nil]) (all_loop hs _ st xs h)
  unfold h_all
  generalize E.lc law_all_e0 _ _ _ _ = LC at e ⊢
  exact sqr (by simp [e, exSs, exS, evE, evEs, evT, Pv.evI, evC, evTg, evTgs, evO, vv, up, one, retE, Option.bind_eq_bind, Option.bind_some, Option.map_some, Option.pure_def, List.getElem?_cons_zero, List.getElem?_cons_succ, List.set_cons_zero, List.set_cons_succ, asgN, asgSub, setIx, opD, addD, mulD, biD, cmpD, ixD, ixL, lenD, slotSeq, slotLst, truD, List.length_cons, List.length_nil, if_true, if_false, Bool.false_eq_true, reduceIte, mthHR, mthR, mtD, slD, seqOf, wipeE, Tgs.len, Pv.unpack, Option.map_none, Option.bind_none, augD, revD, List.map_cons, List.map_nil, isiD, ty, List.any_cons, List.any_nil, sh, eqv_int])
/-! ### the deal -/
def allI (xs : List D) : Prop := ∀ x ∈ xs, ∃ i : Int, x = .int i
def nats (xs : List D) : Prop := ∀ x ∈ xs, ∃ i : Int, x = .int i ∧ 0 ≤ i
theorem nats_map {xs : List D} (h : nats xs) : ∃ cs : List Int, xs = cs.map D.int ∧ ∀ c ∈ cs, 0 ≤ c := by
  induction xs with
  | nil => exact ⟨[], rfl, fun _ h => by cases h⟩
  | cons x xs ih =>
    obtain ⟨cs, e, hc⟩ := ih fun y hy => h y (List.mem_cons_of_mem _ hy)
    obtain ⟨i, rfl, h0⟩ := h x List.mem_cons_self
    exact ⟨i :: cs, by rw [e]; rfl, fun c hc' => (List.mem_cons.mp hc').elim (fun z => by rw [z]; exact h0) (hc c)⟩
def mostV : Int := 10 ^ 384
theorem deal_cells {P : Tb} (a b : Sl) (st : Sto) : ∀ (xs acc : List D), allI xs → nats acc → acc.length + xs.length ≤ 63 → ∃ acc', lcL (evTg P (.n 5)) (evC P .no) (fun ρ st => vv (evE P law_deal_e3 ρ st)) [5] xs acc [a, b, .val (.int mostV), .no, .no, .no] st = some (acc', [a, b, .val (.int mostV), .no, .no, .no], st) ∧ nats acc' ∧ acc'.length ≤ 63
  | [], acc, _, h, hl => ⟨acc, rfl, h, hl⟩
  | x :: xs, acc, hx, h, hl => by
    obtain ⟨i, rfl⟩ := hx x List.mem_cons_self
    rw [List.length_cons] at hl
    have hm : 0 < mostV := by unfold mostV; decide
    obtain ⟨acc', e, h1, h2⟩ := deal_cells (P := P) a b st xs (acc ++ [.int ((if i < 0 then -i else i) % mostV)]) (fun y hy => hx y (List.mem_cons_of_mem _ hy)) (fun y hy => (List.mem_append.mp hy).elim (h y) fun z => ⟨_, List.mem_singleton.mp z, Int.emod_nonneg _ (by omega)⟩) (by simp; omega)
    refine ⟨acc', ?_, h1, h2⟩
    rw [← e]
    have hlt : acc.length < lim := by unfold lim; omega
    have e1 : evTg P (.n 5) (.int i) [a, b, .val (.int mostV), .no, .no, .no] st = some ([a, b, .val (.int mostV), .no, .no, .val (.int i)], st) := by simp [exSs, exS, evE, evEs, evT, Pv.evI, evC, evTg, evTgs, evO, vv, up, one, retE, Option.bind_eq_bind, Option.bind_some, Option.map_some, Option.pure_def, List.getElem?_cons_zero, List.getElem?_cons_succ, List.set_cons_zero, List.set_cons_succ, asgN, asgSub, setIx, opD, addD, mulD, biD, cmpD, ixD, ixL, lenD, slotSeq, slotLst, truD, List.length_cons, List.length_nil, if_true, if_false, Bool.false_eq_true, reduceIte, mthHR, mthR, mtD, slD, seqOf, wipeE, Tgs.len, Pv.unpack, Option.map_none, Option.bind_none, augD, revD, List.map_cons, List.map_nil, isiD, ty, List.any_cons, List.any_nil]
    have e2 : vv (evE P law_deal_e3 [a, b, .val (.int mostV), .no, .no, .val (.int i)] st) = some (.int ((if i < 0 then -i else i) % mostV), [a, b, .val (.int mostV), .no, .no, .val (.int i)], st) := by
      simp [law_deal_e3, exSs, exS, evE, evEs, evT, Pv.evI, evC, evTg, evTgs, evO, vv, up, one, retE, Option.bind_eq_bind, Option.bind_some, Option.map_some, Option.pure_def, List.getElem?_cons_zero, List.getElem?_cons_succ, List.set_cons_zero, List.set_cons_succ, asgN, asgSub, setIx, opD, addD, mulD, biD, cmpD, ixD, ixL, lenD, slotSeq, slotLst, truD, List.length_cons, List.length_nil, if_true, if_false, Bool.false_eq_true, reduceIte, mthHR, mthR, mtD, slD, seqOf, wipeE, Tgs.len, Pv.unpack, Option.map_none, Option.bind_none, augD, revD, List.map_cons, List.map_nil, isiD, ty, List.any_cons, List.any_nil, hm]
    simp only [lcL, e1, e2, evC, Option.bind_eq_bind, Option.bind_some, if_true, hlt, wipeE, List.set_cons_zero, List.set_cons_succ]
theorem deal_mix {P : Tb} (a b c d : Sl) (st : Sto) : ∀ (xs : List D) (mix : Int) (s : Sl), nats xs → 0 ≤ mix → mix < 2147483647 → ∃ mix' s', forL (evTg P (.n 5)) (exSs P law_deal_b2) xs [a, b, c, d, .val (.int mix), s] st = some (.nx, [a, b, c, d, .val (.int mix'), s'], st) ∧ 0 ≤ mix' ∧ mix' < 2147483647
  | [], mix, s, _, h0, h1 => ⟨mix, s, rfl, h0, h1⟩
  | x :: xs, mix, s, hx, h0, h1 => by
    obtain ⟨i, rfl, hi⟩ := hx x List.mem_cons_self
    have q0 : 0 ≤ (mix * 69621 + i % 2147483563 + 23) % 2147483647 := Int.emod_nonneg _ (by decide)
    have q1 : (mix * 69621 + i % 2147483563 + 23) % 2147483647 < 2147483647 := Int.emod_lt_of_pos _ (by decide)
    obtain ⟨mix', s', e, h2, h3⟩ := deal_mix (P := P) a b c d st xs ((mix * 69621 + i % 2147483563 + 23) % 2147483647) (.val (.int i)) (fun y hy => hx y (List.mem_cons_of_mem _ hy)) q0 q1
    refine ⟨mix', s', ?_, h2, h3⟩
    rw [← e]
    have hbm : Big mix := big_small (by omega)
    have hbk : Big 69621 := by decide
    have e1 : evTg P (.n 5) (.int i) [a, b, c, d, .val (.int mix), s] st = some ([a, b, c, d, .val (.int mix), .val (.int i)], st) := by simp [exSs, exS, evE, evEs, evT, Pv.evI, evC, evTg, evTgs, evO, vv, up, one, retE, Option.bind_eq_bind, Option.bind_some, Option.map_some, Option.pure_def, List.getElem?_cons_zero, List.getElem?_cons_succ, List.set_cons_zero, List.set_cons_succ, asgN, asgSub, setIx, opD, addD, mulD, biD, cmpD, ixD, ixL, lenD, slotSeq, slotLst, truD, List.length_cons, List.length_nil, if_true, if_false, Bool.false_eq_true, reduceIte, mthHR, mthR, mtD, slD, seqOf, wipeE, Tgs.len, Pv.unpack, Option.map_none, Option.bind_none, augD, revD, List.map_cons, List.map_nil, isiD, ty, List.any_cons, List.any_nil]
    have e2 : exSs P law_deal_b2 [a, b, c, d, .val (.int mix), .val (.int i)] st = some (.nx, [a, b, c, d, .val (.int ((mix * 69621 + i % 2147483563 + 23) % 2147483647)), .val (.int i)], st) := by
      unfold law_deal_b2
      exact sq1 (by simp [exSs, exS, evE, evEs, evT, Pv.evI, evC, evTg, evTgs, evO, vv, up, one, retE, Option.bind_eq_bind, Option.bind_some, Option.map_some, Option.pure_def, List.getElem?_cons_zero, List.getElem?_cons_succ, List.set_cons_zero, List.set_cons_succ, asgN, asgSub, setIx, opD, addD, mulD, biD, cmpD, ixD, ixL, lenD, slotSeq, slotLst, truD, List.length_cons, List.length_nil, if_true, if_false, Bool.false_eq_true, reduceIte, mthHR, mthR, mtD, slD, seqOf, wipeE, Tgs.len, Pv.unpack, Option.map_none, Option.bind_none, augD, revD, List.map_cons, List.map_nil, isiD, ty, List.any_cons, List.any_nil, hbm, hbk])
    simp only [forL, e1, e2, Option.bind_eq_bind, Option.bind_some]
theorem deal_big {P : Tb} (a b c d m : Sl) (st : Sto) : ∀ (xs acc : List D), nats xs → nats acc → acc.length + xs.length ≤ 63 → ∃ acc', lcL (evTg P (.n 5)) (evC P (.so law_deal_c1)) (fun ρ st => vv (evE P law_deal_e0 ρ st)) [5] xs acc [a, b, c, d, m, .no] st = some (acc', [a, b, c, d, m, .no], st) ∧ nats acc' ∧ acc'.length ≤ 63
  | [], acc, _, h, hl => ⟨acc, rfl, h, hl⟩
  | x :: xs, acc, hx, h, hl => by
    obtain ⟨i, rfl, hi⟩ := hx x List.mem_cons_self
    rw [List.length_cons] at hl
    have hlt : acc.length < lim := by unfold lim; omega
    have e1 : evTg P (.n 5) (.int i) [a, b, c, d, m, .no] st = some ([a, b, c, d, m, .val (.int i)], st) := by simp [exSs, exS, evE, evEs, evT, Pv.evI, evC, evTg, evTgs, evO, vv, up, one, retE, Option.bind_eq_bind, Option.bind_some, Option.map_some, Option.pure_def, List.getElem?_cons_zero, List.getElem?_cons_succ, List.set_cons_zero, List.set_cons_succ, asgN, asgSub, setIx, opD, addD, mulD, biD, cmpD, ixD, ixL, lenD, slotSeq, slotLst, truD, List.length_cons, List.length_nil, if_true, if_false, Bool.false_eq_true, reduceIte, mthHR, mthR, mtD, slD, seqOf, wipeE, Tgs.len, Pv.unpack, Option.map_none, Option.bind_none, augD, revD, List.map_cons, List.map_nil, isiD, ty, List.any_cons, List.any_nil]
    have e2 : evC P (.so law_deal_c1) [a, b, c, d, m, .val (.int i)] st = some (decide ((1000000000000000000 : Int) ≤ i), [a, b, c, d, m, .val (.int i)], st) := by
      simp [law_deal_c1, exSs, exS, evE, evEs, evT, Pv.evI, evC, evTg, evTgs, evO, vv, up, one, retE, Option.bind_eq_bind, Option.bind_some, Option.map_some, Option.pure_def, List.getElem?_cons_zero, List.getElem?_cons_succ, List.set_cons_zero, List.set_cons_succ, asgN, asgSub, setIx, opD, addD, mulD, biD, cmpD, ixD, ixL, lenD, slotSeq, slotLst, truD, List.length_cons, List.length_nil, if_true, if_false, Bool.false_eq_true, reduceIte, mthHR, mthR, mtD, slD, seqOf, wipeE, Tgs.len, Pv.unpack, Option.map_none, Option.bind_none, augD, revD, List.map_cons, List.map_nil, isiD, ty, List.any_cons, List.any_nil]
    have e3 : vv (evE P law_deal_e0 [a, b, c, d, m, .val (.int i)] st) = some (.int i, [a, b, c, d, m, .val (.int i)], st) := by
      simp [law_deal_e0, exSs, exS, evE, evEs, evT, Pv.evI, evC, evTg, evTgs, evO, vv, up, one, retE, Option.bind_eq_bind, Option.bind_some, Option.map_some, Option.pure_def, List.getElem?_cons_zero, List.getElem?_cons_succ, List.set_cons_zero, List.set_cons_succ, asgN, asgSub, setIx, opD, addD, mulD, biD, cmpD, ixD, ixL, lenD, slotSeq, slotLst, truD, List.length_cons, List.length_nil, if_true, if_false, Bool.false_eq_true, reduceIte, mthHR, mthR, mtD, slD, seqOf, wipeE, Tgs.len, Pv.unpack, Option.map_none, Option.bind_none, augD, revD, List.map_cons, List.map_nil, isiD, ty, List.any_cons, List.any_nil]
    by_cases hc : (1000000000000000000 : Int) ≤ i
    · obtain ⟨acc', e, h1, h2⟩ := deal_big (P := P) a b c d m st xs (acc ++ [.int i]) (fun y hy => hx y (List.mem_cons_of_mem _ hy)) (fun y hy => (List.mem_append.mp hy).elim (h y) fun z => ⟨_, List.mem_singleton.mp z, hi⟩) (by simp; omega)
      refine ⟨acc', ?_, h1, h2⟩
      rw [← e]
      simp only [lcL, e1, e2, e3, decide_eq_true hc, Option.bind_eq_bind, Option.bind_some, if_true, hlt, wipeE, List.set_cons_zero, List.set_cons_succ]
    · obtain ⟨acc', e, h1, h2⟩ := deal_big (P := P) a b c d m st xs acc (fun y hy => hx y (List.mem_cons_of_mem _ hy)) h (by omega)
      refine ⟨acc', ?_, h1, h2⟩
      rw [← e]
      simp only [lcL, e1, e2, decide_eq_false hc, Option.bind_eq_bind, Option.bind_some, Bool.false_eq_true, if_false, wipeE, List.set_cons_zero, List.set_cons_succ]
theorem cut_len (ns : List Int) (h : ns.length ≤ 63) : cutI ns none (some 63) = ns := by
  unfold cutI
  rw [HT.sIx_none, show HT.sIx ns.length ns.length (some 63) = min 63 ns.length from HT.sIx_nat _ _ 63, List.drop_zero, Nat.sub_zero, List.take_of_length_le (by omega)]
theorem deal_ok {P : Tb} (ps : List Str) (hp : ps.length = 2) (ns : List Int) (hl : ns.length ≤ 63) {salt : Int} (h0 : 0 ≤ salt) (h1 : salt < 100000) : ∃ st, runF P ⟨ps, 6, h_deal⟩ [.scr ns, .int salt] [] = some (false, .hd 1, st) ∧ Deal st := by
  obtain ⟨cs, e3, hn, hcl⟩ := deal_cells (P := P) (.val (.scr ns)) (.val (.int salt)) [] (ns.map D.int) [] (fun x hx => by
    obtain ⟨i, _, rfl⟩ := List.mem_map.mp hx; exact ⟨i, rfl⟩) (fun _ h => by cases h) (by simpa using hl)
  obtain ⟨mix, s, e5, m0, m1⟩ := deal_mix (P := P) (.val (.scr ns)) (.val (.int salt)) (.val (.int mostV)) (.val (.lst cs)) [] cs (70001 + 7919 * salt) .no hn (by omega) (by omega)
  obtain ⟨bs, e6, hb, hbl⟩ := deal_big (P := P) (.val (.scr ns)) (.val (.int salt)) (.val (.int mostV)) (.val (.lst cs)) (.val (.int mix)) [] cs [] hn (fun _ h => by cases h) (by simpa using hcl)
  obtain ⟨is, rfl, hi⟩ := nats_map hb
  refine ⟨[is.reverse.map D.int, [.hd 0, .int mix]], ?_, is.reverse, mix, rfl, by simpa using hbl, fun c hc => hi c (by simpa using hc), m0, m1⟩
  have hbs : Big salt := big_small (by omega)
  have hb7 : Big 7919 := by decide
  refine run_rt (ρ1 := [.val (.scr ns), .val (.int salt), .val (.int mostV), .val (.lst cs), .val (.int mix), .no]) (n := 4) (by simp [hp]) (by simp [hp]) ?_
  unfold h_deal
  refine (sq (ρ1 := [.val (.scr ns), .val (.int salt), .val (.int mostV), .no, .no, .no]) (st1 := []) rfl).trans ?_
  have l1 : evE P (.lc law_deal_e3 (.n 5) (.val (.sl (.v 0) .no (.so (.k (.int 63))))) .no [("cell", 5)]) [.val (.scr ns), .val (.int salt), .val (.int mostV), .no, .no, .no] [] = some (true, .lst cs, [.val (.scr ns), .val (.int salt), .val (.int mostV), .no, .no, .no], []) :=
    ev_lc (xs := ns.map D.int) (ρ1 := [.val (.scr ns), .val (.int salt), .val (.int mostV), .no, .no, .no]) (st1 := []) (by simp [exSs, exS, evE, evEs, evT, Pv.evI, evC, evTg, evTgs, evO, vv, up, one, retE, Option.bind_eq_bind, Option.bind_some, Option.map_some, Option.pure_def, List.getElem?_cons_zero, List.getElem?_cons_succ, List.set_cons_zero, List.set_cons_succ, asgN, asgSub, setIx, opD, addD, mulD, biD, cmpD, ixD, ixL, lenD, slotSeq, slotLst, truD, List.length_cons, List.length_nil, if_true, if_false, Bool.false_eq_true, reduceIte, mthHR, mthR, mtD, slD, seqOf, wipeE, Tgs.len, Pv.unpack, Option.map_none, Option.bind_none, augD, revD, List.map_cons, List.map_nil, isiD, ty, List.any_cons, List.any_nil, cut_len ns hl]) e3
  generalize E.lc law_deal_e3 _ _ _ _ = LC at l1 ⊢
  refine (sq (ρ1 := [.val (.scr ns), .val (.int salt), .val (.int mostV), .own cs, .no, .no]) (st1 := []) (by simp [exSs, exS, evE, evEs, evT, Pv.evI, evC, evTg, evTgs, evO, vv, up, one, retE, Option.bind_eq_bind, Option.bind_some, Option.map_some, Option.pure_def, List.getElem?_cons_zero, List.getElem?_cons_succ, List.set_cons_zero, List.set_cons_succ, asgN, asgSub, setIx, opD, addD, mulD, biD, cmpD, ixD, ixL, lenD, slotSeq, slotLst, truD, List.length_cons, List.length_nil, if_true, if_false, Bool.false_eq_true, reduceIte, mthHR, mthR, mtD, slD, seqOf, wipeE, Tgs.len, Pv.unpack, Option.map_none, Option.bind_none, augD, revD, List.map_cons, List.map_nil, isiD, ty, List.any_cons, List.any_nil, l1])).trans ?_
  refine (sq (ρ1 := [.val (.scr ns), .val (.int salt), .val (.int mostV), .own cs, .val (.int (70001 + 7919 * salt)), .no]) (st1 := []) (by simp [exSs, exS, evE, evEs, evT, Pv.evI, evC, evTg, evTgs, evO, vv, up, one, retE, Option.bind_eq_bind, Option.bind_some, Option.map_some, Option.pure_def, List.getElem?_cons_zero, List.getElem?_cons_succ, List.set_cons_zero, List.set_cons_succ, asgN, asgSub, setIx, opD, addD, mulD, biD, cmpD, ixD, ixL, lenD, slotSeq, slotLst, truD, List.length_cons, List.length_nil, if_true, if_false, Bool.false_eq_true, reduceIte, mthHR, mthR, mtD, slD, seqOf, wipeE, Tgs.len, Pv.unpack, Option.map_none, Option.bind_none, augD, revD, List.map_cons, List.map_nil, isiD, ty, List.any_cons, List.any_nil, hbs, hb7])).trans ?_
  refine (sq (ex_for (xs := cs) (ρ1 := [.val (.scr ns), .val (.int salt), .val (.int mostV), .val (.lst cs), .val (.int (70001 + 7919 * salt)), .no]) (st1 := []) (by simp [exSs, exS, evE, evEs, evT, Pv.evI, evC, evTg, evTgs, evO, vv, up, one, retE, Option.bind_eq_bind, Option.bind_some, Option.map_some, Option.pure_def, List.getElem?_cons_zero, List.getElem?_cons_succ, List.set_cons_zero, List.set_cons_succ, asgN, asgSub, setIx, opD, addD, mulD, biD, cmpD, ixD, ixL, lenD, slotSeq, slotLst, truD, List.length_cons, List.length_nil, if_true, if_false, Bool.false_eq_true, reduceIte, mthHR, mthR, mtD, slD, seqOf, wipeE, Tgs.len, Pv.unpack, Option.map_none, Option.bind_none, augD, revD, List.map_cons, List.map_nil, isiD, ty, List.any_cons, List.any_nil]) e5)).trans ?_
  have l2 : evE P (.lc law_deal_e0 (.n 5) (.val (.v 3)) (.so law_deal_c1) [("cell", 5)]) [.val (.scr ns), .val (.int salt), .val (.int mostV), .val (.lst cs), .val (.int mix), s] [] = some (true, .lst (is.map D.int), [.val (.scr ns), .val (.int salt), .val (.int mostV), .val (.lst cs), .val (.int mix), .no], []) :=
    ev_lc (xs := cs) (ρ1 := [.val (.scr ns), .val (.int salt), .val (.int mostV), .val (.lst cs), .val (.int mix), s]) (st1 := []) (by simp [exSs, exS, evE, evEs, evT, Pv.evI, evC, evTg, evTgs, evO, vv, up, one, retE, Option.bind_eq_bind, Option.bind_some, Option.map_some, Option.pure_def, List.getElem?_cons_zero, List.getElem?_cons_succ, List.set_cons_zero, List.set_cons_succ, asgN, asgSub, setIx, opD, addD, mulD, biD, cmpD, ixD, ixL, lenD, slotSeq, slotLst, truD, List.length_cons, List.length_nil, if_true, if_false, Bool.false_eq_true, reduceIte, mthHR, mthR, mtD, slD, seqOf, wipeE, Tgs.len, Pv.unpack, Option.map_none, Option.bind_none, augD, revD, List.map_cons, List.map_nil, isiD, ty, List.any_cons, List.any_nil]) e6
  generalize E.lc law_deal_e0 _ _ _ _ = LC2 at l2 ⊢
  exact sqr (by simp [exSs, exS, evE, evEs, evT, Pv.evI, evC, evTg, evTgs, evO, vv, up, one, retE, Option.bind_eq_bind, Option.bind_some, Option.map_some, Option.pure_def, List.getElem?_cons_zero, List.getElem?_cons_succ, List.set_cons_zero, List.set_cons_succ, asgN, asgSub, setIx, opD, addD, mulD, biD, cmpD, ixD, ixL, lenD, slotSeq, slotLst, truD, List.length_cons, List.length_nil, if_true, if_false, Bool.false_eq_true, reduceIte, mthHR, mthR, mtD, slD, seqOf, wipeE, Tgs.len, Pv.unpack, Option.map_none, Option.bind_none, augD, revD, List.map_cons, List.map_nil, isiD, ty, List.any_cons, List.any_nil, l2, show (2 : Nat) ≤ lim by decide])
theorem call_of {ds : List DefT} {cs : List (Str × D)} {k : Nat} {d : DefT} (nd : (ds.map (·.nm)).Nodup) (h : d ∈ ds) : callN (progOf ds) (gOf cs) (k + 1) d.nm = runF ⟨callN (progOf ds) (gOf cs) k, gOf cs⟩ ⟨d.ps, d.N.length, d.body⟩ := by
  have pd : progOf ds d.nm = some ⟨d.ps, d.N.length, d.body⟩ := by unfold progOf; rw [find_def nd h]; rfl
  funext args st
  simp only [callN, pd]
end Pv

namespace Lk69
open PySem PySem.Spec PyProof.Rows L2 Pv
abbrev topS (j : Nat) : Stmt := PySem.Challenge.pw_liarschange_k69_frames_within_frames.main.body.getD j (.Pass ⟨0, 0, 0, 0⟩)
def octets_of_number_c0 : Cn := (.e (.cmp .GtE (.v 2) (.g "BASE")))
def octets_of_number_b1 : Ss := (.cons
  (.ex (.mth .append 1 (.cons (.op .Add (.g "BASE") (.op .Mod (.v 2) (.g "BASE"))) .nil))) (.cons
  (.asg 2 (.op .FloorDiv (.v 2) (.g "BASE"))) .nil))
def b_octets_of_number : Ss := (.cons
  (.asg 1 (.lst .nil)) (.cons
  (.asg 2 (.v 0)) (.cons
  (.whl octets_of_number_c0 octets_of_number_b1) (.cons
  (.ex (.mth .append 1 (.cons (.v 2) .nil))) (.cons
  (.ret (.bi .tuple (.cons (.v 1) .nil))) .nil)))))
def d_octets_of_number : DefT := ⟨"octets_of_number", topS 5, ["number"], ["number", "found", "rest"], b_octets_of_number⟩
def number_of_c0 : Cn := (.e (.cmp .Gt (.lenv 1) (.k (.int 1))))
def number_of_e1 : E := (.op .Add (.ixv 1 (.v 4)) (.op .Mult (.v 2) (.ixv 1 (.op .Add (.v 4) (.k (.int 1))))))
def number_of_b2 : Ss := (.cons
  (.asg 3 (.lc number_of_e1 (.n 4) (.rng (.cons (.k (.int 0)) (.cons (.op .Sub (.lenv 1) (.k (.int 1))) (.cons (.k (.int 2)) .nil)))) .no [("at", 4)])) (.cons
  (.ite (.e (.cmp .Eq (.op .Mod (.lenv 1) (.k (.int 2))) (.k (.int 1)))) (.cons
  (.ex (.mth .append 3 (.cons (.ixv 1 (.op .Sub (.lenv 1) (.k (.int 1)))) .nil))) .nil) .nil) (.cons
  (.asg 1 (.v 3)) (.cons
  (.asg 2 (.op .Mult (.v 2) (.v 2))) .nil))))
def b_number_of : Ss := (.cons
  (.par2 1 2 (.bi .list (.cons (.v 0) .nil)) (.g "BASE")) (.cons
  (.whl number_of_c0 number_of_b2) (.cons
  (.ret (.ixv 1 (.k (.int 0)))) .nil)))
def d_number_of : DefT := ⟨"number_of", topS 6, ["figures"], ["figures", "row", "base", "pairs", "at"], b_number_of⟩
def behind_number_b0 : Ss := (.cons
  (.ite (.e (.cmp .Lt (.ixv 0 (.v 2)) (.g "BASE"))) (.cons
  (.ret (.op .Add (.v 2) (.k (.int 1)))) .nil) .nil) .nil)
def b_behind_number : Ss := (.cons
  (.ite (.e (.cmp .Lt (.v 1) (.k (.int 0)))) (.cons
  (.ret (.k .non)) .nil) .nil) (.cons
  (.for_ (.n 2) (.rng (.cons (.v 1) (.cons (.lenv 0) .nil))) behind_number_b0) (.cons
  (.ret (.k .non)) .nil)))
def d_behind_number : DefT := ⟨"behind_number", topS 7, ["octets", "at"], ["octets", "at", "place"], b_behind_number⟩
def number_in_e0 : E := (.op .Sub (.v 4) (.g "BASE"))
def b_number_in : Ss := (.cons
  (.asg 2 (.call "behind_number" (.cons (.v 0) (.cons (.v 1) .nil)))) (.cons
  (.ite (.or (.e (.cmp .Is (.v 2) (.k .non))) (.an (.e (.cmp .Gt (.op .Sub (.v 2) (.v 1)) (.k (.int 1)))) (.e (.cmp .Eq (.ixv 0 (.op .Sub (.v 2) (.k (.int 1)))) (.k (.int 0)))))) (.cons
  (.ret (.k .non)) .nil) .nil) (.cons
  (.asg 3 (.op .Add (.lc number_in_e0 (.n 4) (.val (.sl (.v 0) (.so (.v 1)) (.so (.op .Sub (.v 2) (.k (.int 1)))))) .no [("octet", 4)]) (.lst (.cons (.ixv 0 (.op .Sub (.v 2) (.k (.int 1)))) .nil)))) (.cons
  (.ret (.tup (.cons (.call "number_of" (.cons (.v 3) .nil)) (.cons (.v 2) .nil)))) .nil))))
def d_number_in : DefT := ⟨"number_in", topS 8, ["octets", "at"], ["octets", "at", "end", "figures", "octet"], b_number_in⟩
def b_number_octets : Ss := (.cons
  (.ret (.call "octets_of_number" (.cons (.v 0) .nil))) .nil)
def d_number_octets : DefT := ⟨"number_octets", topS 9, ["number"], ["number"], b_number_octets⟩
def sum_of_octets_b0 : Ss := (.cons
  (.aug 1 .Add (.op .Mult (.op .Add (.v 2) (.k (.int 1))) (.v 3))) .nil)
def b_sum_of_octets : Ss := (.cons
  (.asg 1 (.k (.int 0))) (.cons
  (.for_ (.tup (.cons (.n 2) (.cons (.n 3) .nil))) (.enum (.v 0)) sum_of_octets_b0) (.cons
  (.ret (.op .Mod (.v 1) (.g "PRIME"))) .nil)))
def d_sum_of_octets : DefT := ⟨"sum_of_octets", topS 10, ["octets"], ["octets", "found", "at", "octet"], b_sum_of_octets⟩
def b_sum_pair : Ss := (.cons
  (.asg 1 (.call "sum_of_octets" (.cons (.v 0) .nil))) (.cons
  (.ret (.tup (.cons (.op .Mod (.v 1) (.g "OCTET")) (.cons (.op .FloorDiv (.v 1) (.g "OCTET")) .nil)))) .nil))
def d_sum_pair : DefT := ⟨"sum_pair", topS 11, ["body"], ["body", "found"], b_sum_pair⟩
def b_frame : Ss := (.cons
  (.ret (.op .Add (.op .Add (.call "number_octets" (.cons (.lenv 0) .nil)) (.bi .tuple (.cons (.v 0) .nil))) (.call "sum_pair" (.cons (.v 0) .nil)))) .nil)
def d_frame : DefT := ⟨"frame", topS 12, ["body"], ["body"], b_frame⟩
def b_frame_at : Ss := (.cons
  (.asg 2 (.call "number_in" (.cons (.v 0) (.cons (.v 1) .nil)))) (.cons
  (.ite (.or (.e (.cmp .Is (.v 2) (.k .non))) (.e (.cmp .Gt (.op .Add (.ixv 2 (.k (.int 0))) (.g "SUM_OCTETS")) (.op .Sub (.lenv 0) (.ixv 2 (.k (.int 1))))))) (.cons
  (.ret (.k .non)) .nil) .nil) (.cons
  (.asg 3 (.op .Add (.ixv 2 (.k (.int 0))) (.ixv 2 (.k (.int 1))))) (.cons
  (.asg 4 (.sl (.v 0) (.so (.ixv 2 (.k (.int 1)))) (.so (.v 3)))) (.cons
  (.ite (.e (.cmp .NotEq (.sl (.v 0) (.so (.v 3)) (.so (.op .Add (.v 3) (.g "SUM_OCTETS")))) (.call "sum_pair" (.cons (.v 4) .nil)))) (.cons
  (.ret (.k .non)) .nil) .nil) (.cons
  (.ret (.tup (.cons (.v 4) (.cons (.op .Add (.v 3) (.g "SUM_OCTETS")) .nil)))) .nil))))))
def d_frame_at : DefT := ⟨"frame_at", topS 13, ["octets", "at"], ["octets", "at", "told", "end", "body"], b_frame_at⟩
def frames_c0 : Cn := (.e (.cmp .IsNot (.v 3) (.k .non)))
def frames_b1 : Ss := (.cons
  (.ex (.mth .append 1 (.cons (.ixv 3 (.k (.int 0))) .nil))) (.cons
  (.asg 2 (.ixv 3 (.k (.int 1)))) (.cons
  (.asg 3 (.call "frame_at" (.cons (.v 0) (.cons (.v 2) .nil)))) .nil)))
def b_frames : Ss := (.cons
  (.asg 0 (.bi .tuple (.cons (.v 0) .nil))) (.cons
  (.par2 1 2 (.lst .nil) (.k (.int 0))) (.cons
  (.asg 3 (.call "frame_at" (.cons (.v 0) (.cons (.k (.int 0)) .nil)))) (.cons
  (.whl frames_c0 frames_b1) (.cons
  (.ret (.tup (.cons (.bi .tuple (.cons (.v 1) .nil)) (.cons (.v 2) .nil)))) .nil)))))
def d_frames : DefT := ⟨"frames", topS 14, ["octets"], ["octets", "bodies", "place", "told"], b_frames⟩
def law_deal_e0 : E := (.v 5)
def law_deal_c1 : Cn := (.e (.cmp .GtE (.v 5) (.op .Pow (.k (.int 10)) (.k (.int 18)))))
def law_deal_b2 : Ss := (.cons
  (.asg 4 (.op .Mod (.bi .int (.cons (.op .Add (.op .Add (.op .Mult (.v 4) (.k (.int 69621))) (.op .Mod (.bi .int (.cons (.v 5) .nil)) (.k (.int 2147483563)))) (.k (.int 23))) .nil)) (.k (.int 2147483647)))) .nil)
def law_deal_e3 : E := (.op .Mod (.bi .int (.cons (.bi .abs (.cons (.bi .int (.cons (.v 5) .nil)) .nil)) .nil)) (.v 2))
def b_law_deal : Ss := (.cons
  (.asg 2 (.op .Mult (.op .Mult (.op .Mult (.op .Mult (.op .Mult (.op .Pow (.k (.int 10)) (.k (.int 64))) (.op .Pow (.k (.int 10)) (.k (.int 64)))) (.op .Pow (.k (.int 10)) (.k (.int 64)))) (.op .Pow (.k (.int 10)) (.k (.int 64)))) (.op .Pow (.k (.int 10)) (.k (.int 64)))) (.op .Pow (.k (.int 10)) (.k (.int 64))))) (.cons
  (.asg 3 (.lc law_deal_e3 (.n 5) (.val (.sl (.v 0) .no (.so (.k (.int 63))))) .no [("cell", 5)])) (.cons
  (.asg 4 (.op .Add (.k (.int 70001)) (.op .Mult (.k (.int 7919)) (.v 1)))) (.cons
  (.for_ (.n 5) (.val (.v 3)) law_deal_b2) (.cons
  (.ret (.share (.lst (.cons (.share (.slr (.lc law_deal_e0 (.n 5) (.val (.v 3)) (.so law_deal_c1) [("cell", 5)]))) (.cons (.v 4) .nil))))) .nil)))))
def d_law_deal : DefT := ⟨"_law_deal", topS 16, ["script", "salt"], ["script", "salt", "most", "cells", "mix", "cell"], b_law_deal⟩
def law_any_c0 : Cn := (.an (.e (.cmp .Gt (.bi .len (.cons (.ixv 0 (.k (.int 0))) .nil)) (.k (.int 0)))) (.e (.cmp .Eq (.ix (.ixv 0 (.k (.int 0))) (.neg (.k (.int 1)))) (.k (.int 0)))))
def law_any_b1 : Ss := (.cons
  (.ex (.mthH .pop (.ixv 0 (.k (.int 0))) .nil)) .nil)
def b_law_any : Ss := (.cons
  (.whl law_any_c0 law_any_b1) (.cons
  (.ite (.e (.cmp .Gt (.bi .len (.cons (.ixv 0 (.k (.int 0))) .nil)) (.k (.int 0)))) (.cons
  (.asg 2 (.bi .int (.cons (.mthH .pop (.ixv 0 (.k (.int 0))) .nil) .nil))) (.cons
  (.ex (.mthH .append (.ixv 0 (.k (.int 0))) (.cons (.op .FloorDiv (.v 2) (.v 1)) .nil))) (.cons
  (.ret (.op .Mod (.v 2) (.v 1))) .nil))) .nil) (.cons
  (.asgT (.sub 0 (.k (.int 1))) (.op .Mod (.bi .int (.cons (.op .Add (.op .Mult (.ixv 0 (.k (.int 1))) (.k (.int 48271))) (.k (.int 31))) .nil)) (.k (.int 2147483647)))) (.cons
  (.ret (.op .Mod (.bi .int (.cons (.op .FloorDiv (.ixv 0 (.k (.int 1))) (.k (.int 64))) .nil)) (.v 1))) .nil))))
def d_law_any : DefT := ⟨"_law_any", topS 17, ["deal", "bound"], ["deal", "bound", "rest"], b_law_any⟩
def b_law_of : Ss := (.cons
  (.ret (.ixv 1 (.call "_law_any" (.cons (.v 0) (.cons (.lenv 1) .nil))))) .nil)
def d_law_of : DefT := ⟨"_law_of", topS 18, ["deal", "some"], ["deal", "some"], b_law_of⟩
def b_law_is_kind : Ss := (.cons
  (.ite (.e (.cmp .Is (.v 1) (.k .non))) (.cons
  (.ret (.cmp .Is (.v 0) (.k .non))) .nil) .nil) (.cons
  (.ite (.or (.e (.cmp .Is (.v 1) (.k (.bl true)))) (.e (.cmp .Is (.v 1) (.k (.bl false))))) (.cons
  (.ret (.ite (.e (.v 1)) (.cmp .Is (.v 0) (.k (.bl true))) (.cmp .Is (.v 0) (.k (.bl false))))) .nil) .nil) (.cons
  (.ite (.e (.isi (.v 1) ["str"] false)) (.cons
  (.ret (.an (.isi (.v 0) ["str"] false) (.cmp .Eq (.v 0) (.v 1)))) .nil) .nil) (.cons
  (.ret (.an (.isi (.v 0) ["int"] false) (.an (.nt (.isi (.v 0) ["bool"] false)) (.cmp .Eq (.v 0) (.v 1))))) .nil))))
def d_law_is_kind : DefT := ⟨"_law_is_kind", topS 19, ["told", "due"], ["told", "due"], b_law_is_kind⟩
def law_same_c0 : Cn := (.e (.cmp .Gt (.lenv 2) (.k (.int 0))))
def law_same_b1 : Ss := (.cons
  (.ex (.mth .append 2 (.cons (.tup (.cons (.ixv 3 (.v 5)) (.cons (.ixv 4 (.v 5)) .nil))) .nil))) .nil)
def law_same_b2 : Ss := (.cons
  (.asgT (.tup (.cons (.n 3) (.cons (.n 4) .nil))) (.mth .pop 2 .nil)) (.cons
  (.ite (.e (.isi (.v 4) ["tuple"] false)) (.cons
  (.ite (.or (.nt (.e (.isi (.v 3) ["tuple"] false))) (.e (.cmp .NotEq (.lenv 3) (.lenv 4)))) (.cons
  (.ret (.k (.bl false))) .nil) .nil) (.cons
  (.for_ (.n 5) (.rng (.cons (.lenv 4) .nil)) law_same_b1) .nil)) (.cons
  (.ite (.or (.e (.isi (.v 3) ["tuple", "list", "dict"] true)) (.nt (.e (.call "_law_is_kind" (.cons (.v 3) (.cons (.v 4) .nil)))))) (.cons
  (.ret (.k (.bl false))) .nil) .nil) .nil)) .nil))
def b_law_same : Ss := (.cons
  (.asg 2 (.lst (.cons (.tup (.cons (.v 0) (.cons (.v 1) .nil))) .nil))) (.cons
  (.whl law_same_c0 law_same_b2) (.cons
  (.ret (.k (.bl true))) .nil)))
def d_law_same : DefT := ⟨"_law_same", topS 20, ["told", "due"], ["told", "due", "todo", "one", "other", "at"], b_law_same⟩
def law_all_e0 : E := (.v 1)
def law_all_c1 : Cn := (.nt (.e (.call "_law_same" (.cons (.v 1) (.cons (.v 2) .nil)))))
def b_law_all : Ss := (.cons
  (.ret (.cmp .Eq (.bi .len (.cons (.lc law_all_e0 (.tup (.cons (.n 1) (.cons (.n 2) .nil))) (.val (.v 0)) (.so law_all_c1) [("told", 1), ("due", 2)]) .nil)) (.k (.int 0)))) .nil)
def d_law_all : DefT := ⟨"_law_all", topS 21, ["pairs"], ["pairs", "told", "due"], b_law_all⟩
def law_flat_b0 : Ss := (.cons
  (.asg 1 (.op .Add (.v 1) (.bi .list (.cons (.v 2) .nil)))) .nil)
def b_law_flat : Ss := (.cons
  (.asg 1 (.lst .nil)) (.cons
  (.for_ (.n 2) (.val (.v 0)) law_flat_b0) (.cons
  (.ret (.v 1)) .nil)))
def d_law_flat : DefT := ⟨"_law_flat", topS 22, ["some"], ["some", "found", "one"], b_law_flat⟩
def b_law_number_octets : Ss := (.cons
  (.ite (.e (.cmp .Lt (.v 0) (.k (.int 128)))) (.cons
  (.ret (.tup (.cons (.v 0) .nil))) .nil) .nil) (.cons
  (.ite (.e (.cmp .Lt (.v 0) (.k (.int 16384)))) (.cons
  (.ret (.tup (.cons (.op .Add (.k (.int 128)) (.op .Mod (.bi .int (.cons (.v 0) .nil)) (.k (.int 128)))) (.cons (.op .FloorDiv (.v 0) (.k (.int 128))) .nil)))) .nil) .nil) (.cons
  (.ret (.tup (.cons (.op .Add (.k (.int 128)) (.op .Mod (.bi .int (.cons (.v 0) .nil)) (.k (.int 128)))) (.cons (.op .Add (.k (.int 128)) (.op .Mod (.bi .int (.cons (.op .FloorDiv (.v 0) (.k (.int 128))) .nil)) (.k (.int 128)))) (.cons (.op .FloorDiv (.v 0) (.k (.int 16384))) .nil))))) .nil)))
def d_law_number_octets : DefT := ⟨"_law_number_octets", topS 23, ["number"], ["number"], b_law_number_octets⟩
def law_weigh_e0 : E := (.op .Mult (.op .Add (.v 1) (.k (.int 1))) (.v 2))
def b_law_weigh : Ss := (.cons
  (.ret (.bi .sum (.cons (.lc law_weigh_e0 (.tup (.cons (.n 1) (.cons (.n 2) .nil))) (.enum (.v 0)) .no [("at", 1), ("octet", 2)]) .nil))) .nil)
def d_law_weigh : DefT := ⟨"_law_weigh", topS 24, ["octets"], ["octets", "at", "octet"], b_law_weigh⟩
def b_law_frame : Ss := (.cons
  (.asg 1 (.op .Mod (.bi .int (.cons (.call "_law_weigh" (.cons (.v 0) .nil)) .nil)) (.k (.int 65521)))) (.cons
  (.ret (.op .Add (.op .Add (.call "_law_number_octets" (.cons (.lenv 0) .nil)) (.bi .tuple (.cons (.v 0) .nil))) (.tup (.cons (.op .Mod (.bi .int (.cons (.v 1) .nil)) (.k (.int 256))) (.cons (.op .FloorDiv (.v 1) (.k (.int 256))) .nil))))) .nil))
def d_law_frame : DefT := ⟨"_law_frame", topS 25, ["body"], ["body", "told"], b_law_frame⟩
def law_body_e0 : E := (.call "_law_of" (.cons (.v 0) (.cons (.lst (.cons (.k (.int 0)) (.cons (.k (.int 1)) (.cons (.k (.int 2)) (.cons (.k (.int 3)) (.cons (.k (.int 127)) (.cons (.k (.int 128)) (.cons (.k (.int 255)) (.cons (.call "_law_any" (.cons (.v 0) (.cons (.k (.int 256)) .nil))) .nil))))))))) .nil)))
def b_law_body : Ss := (.cons
  (.ret (.bi .tuple (.cons (.lc law_body_e0 (.n 2) (.rng (.cons (.call "_law_any" (.cons (.v 0) (.cons (.op .Add (.v 1) (.k (.int 1))) .nil))) .nil)) .no [("at", 2)]) .nil))) .nil)
def d_law_body : DefT := ⟨"_law_body", topS 26, ["deal", "most"], ["deal", "most", "at"], b_law_body⟩
def law_deep_pairs_b0 : Ss := (.cons
  (.ex (.mth .append 2 (.cons (.tup (.cons (.call "frames" (.cons (.v 4) .nil)) (.cons (.tup (.cons (.tup (.cons (.v 5) .nil)) (.cons (.lenv 4) .nil))) .nil))) .nil))) .nil)
def law_deep_pairs_b1 : Ss := (.cons
  (.ex (.mth .append 1 (.cons (.call "_law_frame" (.cons (.ixv 1 (.neg (.k (.int 1)))) .nil)) .nil))) (.cons
  (.ex (.mth .append 2 (.cons (.tup (.cons (.ite (.e (.cmp .Gt (.v 3) (.k (.int 0)))) (.call "frame" (.cons (.ixv 1 (.neg (.k (.int 2)))) .nil)) (.callk "frame" .nil ["body"] (.cons (.ixv 1 (.neg (.k (.int 2)))) .nil) [0])) (.cons (.ixv 1 (.neg (.k (.int 1)))) .nil))) .nil))) .nil))
def b_law_deep_pairs : Ss := (.cons
  (.par2 1 2 (.lst (.cons (.call "_law_body" (.cons (.v 0) (.cons (.k (.int 30)) .nil))) .nil)) (.lst .nil)) (.cons
  (.for_ (.n 3) (.rng (.cons (.op .Add (.k (.int 1)) (.call "_law_any" (.cons (.v 0) (.cons (.k (.int 5)) .nil)))) .nil)) law_deep_pairs_b1) (.cons
  (.for_ (.tup (.cons (.n 4) (.cons (.n 5) .nil))) (.zip (.sl (.v 1) (.so (.k (.int 1))) .no) (.v 1)) law_deep_pairs_b0) (.cons
  (.ex (.mth .append 2 (.cons (.tup (.cons (.callk "frames" .nil ["octets"] (.cons (.ixv 1 (.neg (.k (.int 1)))) .nil) [0]) (.cons (.tup (.cons (.tup (.cons (.ixv 1 (.neg (.k (.int 2)))) .nil)) (.cons (.bi .len (.cons (.ixv 1 (.neg (.k (.int 1)))) .nil)) .nil))) .nil))) .nil))) (.cons
  (.asg 6 (.ixv 1 (.k (.int 1)))) (.cons
  (.asg 7 (.op .Add (.sl (.v 6) .no (.so (.neg (.k (.int 2))))) (.tup (.cons (.op .Mod (.bi .int (.cons (.op .Add (.op .Add (.ixv 6 (.neg (.k (.int 2)))) (.k (.int 1))) (.call "_law_any" (.cons (.v 0) (.cons (.k (.int 255)) .nil)))) .nil)) (.k (.int 256))) (.cons (.ixv 6 (.neg (.k (.int 1)))) .nil))))) (.cons
  (.asg 4 (.call "_law_frame" (.cons (.v 7) .nil))) (.cons
  (.ret (.op .Add (.v 2) (.lst (.cons (.tup (.cons (.call "frames" (.cons (.v 7) .nil)) (.cons (.tup (.cons (.tup .nil) (.cons (.k (.int 0)) .nil))) .nil))) (.cons (.tup (.cons (.call "frames" (.cons (.v 4) .nil)) (.cons (.tup (.cons (.tup (.cons (.v 7) .nil)) (.cons (.lenv 4) .nil))) .nil))) (.cons (.tup (.cons (.call "frames" (.cons (.op .Add (.v 6) (.v 4)) .nil)) (.cons (.tup (.cons (.tup (.cons (.ixv 1 (.k (.int 0))) (.cons (.v 7) .nil))) (.cons (.op .Add (.lenv 6) (.lenv 4)) .nil))) .nil))) .nil)))))) .nil))))))))
def d_law_deep_pairs : DefT := ⟨"_law_deep_pairs", topS 27, ["deal"], ["deal", "layers", "pairs", "turn", "outer", "inner", "first", "bent"], b_law_deep_pairs⟩
def law_e0 : E := (.call "_law_any" (.cons (.v 1) (.cons (.op .Add (.lenv 7) (.k (.int 1))) .nil)))
def law_e1 : E := (.v 17)
def law_c2 : Cn := (.e (.cmp .LtE (.v 17) (.v 10)))
def law_b3 : Ss := (.cons
  (.asg 11 (.bi .len (.cons (.lc law_e1 (.n 17) (.val (.v 8)) (.so law_c2) [("end", 17)]) .nil))) (.cons
  (.ex (.mth .append 2 (.cons (.tup (.cons (.call "frames" (.cons (.sl (.v 7) .no (.so (.v 10))) .nil)) (.cons (.tup (.cons (.bi .tuple (.cons (.sl (.v 6) .no (.so (.v 11))) .nil)) (.cons (.ite (.e (.cmp .Gt (.v 11) (.k (.int 0)))) (.ixv 8 (.op .Sub (.v 11) (.k (.int 1)))) (.k (.int 0))) .nil))) .nil))) .nil))) .nil))
def law_b4 : Ss := (.cons
  (.asg 7 (.op .Add (.v 7) (.call "_law_frame" (.cons (.v 9) .nil)))) (.cons
  (.ex (.mth .append 8 (.cons (.lenv 7) .nil))) .nil))
def law_e5 : E := (.call "_law_frame" (.cons (.v 9) .nil))
def law_e6 : E := (.call "_law_body" (.cons (.v 1) (.cons (.k (.int 12)) .nil)))
def law_b7 : Ss := (.cons
  (.asg 2 (.op .Add (.v 2) (.call "_law_deep_pairs" (.cons (.v 1) .nil)))) (.cons
  (.asg 4 (.lc law_e6 (.n 9) (.rng (.cons (.op .Add (.k (.int 2)) (.call "_law_any" (.cons (.v 1) (.cons (.k (.int 2)) .nil)))) .nil)) .no [("body", 9)])) (.cons
  (.asg 5 (.bi .tuple (.cons (.call "_law_flat" (.cons (.lc law_e5 (.n 9) (.val (.v 4)) .no [("body", 9)]) .nil)) .nil))) (.cons
  (.asg 6 (.lst (.cons (.call "_law_body" (.cons (.v 1) (.cons (.k (.int 9)) .nil))) (.cons (.v 5) (.cons (.call "_law_body" (.cons (.v 1) (.cons (.k (.int 200)) .nil))) (.cons (.sl (.v 5) .no (.so (.neg (.k (.int 1))))) .nil)))))) (.cons
  (.par2 7 8 (.tup .nil) (.lst .nil)) (.cons
  (.for_ (.n 9) (.val (.v 6)) law_b4) (.cons
  (.asg 2 (.op .Add (.v 2) (.lst (.cons (.tup (.cons (.call "frames" (.cons (.v 7) .nil)) (.cons (.tup (.cons (.bi .tuple (.cons (.v 6) .nil)) (.cons (.lenv 7) .nil))) .nil))) (.cons (.tup (.cons (.call "frames" (.cons (.v 5) .nil)) (.cons (.tup (.cons (.bi .tuple (.cons (.v 4) .nil)) (.cons (.lenv 5) .nil))) .nil))) .nil))))) (.cons
  (.ex (.mth .append 2 (.cons (.tup (.cons (.call "frames" (.cons (.sl (.v 5) .no (.so (.neg (.k (.int 1))))) .nil)) (.cons (.tup (.cons (.bi .tuple (.cons (.sl (.v 4) .no (.so (.neg (.k (.int 1))))) .nil)) (.cons (.op .Sub (.lenv 5) (.bi .len (.cons (.call "_law_frame" (.cons (.ixv 4 (.neg (.k (.int 1)))) .nil)) .nil))) .nil))) .nil))) .nil))) (.cons
  (.for_ (.n 10) (.val (.op .Add (.lst (.cons (.ixv 8 (.k (.int 0))) (.cons (.op .Sub (.ixv 8 (.k (.int 0))) (.k (.int 1))) (.cons (.op .Sub (.ixv 8 (.k (.int 2))) (.k (.int 1))) (.cons (.ixv 8 (.k (.int 2))) .nil))))) (.lc law_e0 (.n 16) (.rng (.cons (.k (.int 4)) .nil)) .no [("more", 16)]))) law_b3) (.cons
  (.asg 12 (.call "_law_any" (.cons (.v 1) (.cons (.k (.int 4)) .nil)))) (.cons
  (.asg 13 (.ite (.e (.cmp .Gt (.bi .len (.cons (.ixv 6 (.v 12)) .nil)) (.k (.int 0)))) (.op .Sub (.ixv 8 (.v 12)) (.k (.int 3))) (.op .Sub (.ixv 8 (.v 12)) (.k (.int 1))))) (.cons
  (.asg 14 (.op .Add (.op .Add (.sl (.v 7) .no (.so (.v 13))) (.tup (.cons (.op .Mod (.bi .int (.cons (.op .Add (.op .Add (.ixv 7 (.v 13)) (.k (.int 1))) (.call "_law_any" (.cons (.v 1) (.cons (.k (.int 255)) .nil)))) .nil)) (.k (.int 256))) .nil))) (.sl (.v 7) (.so (.op .Add (.v 13) (.k (.int 1)))) .no))) (.cons
  (.ex (.mth .append 2 (.cons (.tup (.cons (.call "frames" (.cons (.v 14) .nil)) (.cons (.tup (.cons (.bi .tuple (.cons (.sl (.v 6) .no (.so (.v 12))) .nil)) (.cons (.ite (.e (.cmp .Gt (.v 12) (.k (.int 0)))) (.ixv 8 (.op .Sub (.v 12) (.k (.int 1)))) (.k (.int 0))) .nil))) .nil))) .nil))) .nil)))))))))))))
def b_law : Ss := (.cons
  (.par2 1 2 (.call "_law_deal" (.cons (.v 0) (.cons (.k (.int 6969)) .nil))) (.lst .nil)) (.cons
  (.for_ (.n 3) (.rng (.cons (.k (.int 4)) .nil)) law_b7) (.cons
  (.asg 15 (.call "_law_any" (.cons (.v 1) (.cons (.k (.int 40)) .nil)))) (.cons
  (.ex (.mth .append 2 (.cons (.tup (.cons (.call "frames" (.cons (.op .Mult (.tup (.cons (.k (.int 0)) .nil)) (.v 15)) .nil)) (.cons (.tup (.cons (.op .Mult (.tup (.cons (.tup .nil) .nil)) (.op .FloorDiv (.v 15) (.k (.int 3)))) (.cons (.op .Mult (.k (.int 3)) (.op .FloorDiv (.v 15) (.k (.int 3)))) .nil))) .nil))) .nil))) (.cons
  (.asg 2 (.op .Add (.v 2) (.lst (.cons (.tup (.cons (.call "frames" (.cons (.tup .nil) .nil)) (.cons (.tup (.cons (.tup .nil) (.cons (.k (.int 0)) .nil))) .nil))) (.cons (.tup (.cons (.call "frames" (.cons (.tup (.cons (.k (.int 1)) (.cons (.k (.int 9)) (.cons (.k (.int 9)) (.cons (.k (.int 0)) .nil))))) .nil)) (.cons (.tup (.cons (.tup (.cons (.tup (.cons (.k (.int 9)) .nil)) .nil)) (.cons (.k (.int 4)) .nil))) .nil))) (.cons (.tup (.cons (.call "frames" (.cons (.tup (.cons (.k (.int 1)) (.cons (.k (.int 9)) (.cons (.k (.int 9)) (.cons (.k (.int 1)) .nil))))) .nil)) (.cons (.tup (.cons (.tup .nil) (.cons (.k (.int 0)) .nil))) .nil))) .nil)))))) (.cons
  (.ret (.call "_law_all" (.cons (.op .Add (.v 2) (.lst (.cons (.tup (.cons (.call "frames" (.cons (.tup (.cons (.k (.int 1)) (.cons (.k (.int 9)) (.cons (.k (.int 9)) (.cons (.k (.int 0)) (.cons (.k (.int 0)) (.cons (.k (.int 0)) (.cons (.k (.int 0)) (.cons (.k (.int 5)) .nil))))))))) .nil)) (.cons (.tup (.cons (.tup (.cons (.tup (.cons (.k (.int 9)) .nil)) (.cons (.tup .nil) .nil))) (.cons (.k (.int 7)) .nil))) .nil))) (.cons (.tup (.cons (.call "frames" (.cons (.tup (.cons (.k (.int 4)) (.cons (.k (.int 1)) (.cons (.k (.int 9)) (.cons (.k (.int 9)) (.cons (.k (.int 0)) (.cons (.k (.int 46)) (.cons (.k (.int 0)) .nil)))))))) .nil)) (.cons (.tup (.cons (.tup (.cons (.tup (.cons (.k (.int 1)) (.cons (.k (.int 9)) (.cons (.k (.int 9)) (.cons (.k (.int 0)) .nil))))) .nil)) (.cons (.k (.int 7)) .nil))) .nil))) .nil)))) .nil))) .nil))))))
def d_law : DefT := ⟨"law", topS 28, ["script"], ["script", "deal", "pairs", "turn", "inner", "row", "bodies", "octets", "ends", "body", "cut", "whole", "at", "spot", "bent", "many", "more", "end"], b_law⟩
def ds : List DefT := [d_octets_of_number, d_number_of, d_behind_number, d_number_in, d_number_octets, d_sum_of_octets, d_sum_pair, d_frame, d_frame_at, d_frames, d_law_deal, d_law_any, d_law_of, d_law_is_kind, d_law_same, d_law_all, d_law_flat, d_law_number_octets, d_law_weigh, d_law_frame, d_law_body, d_law_deep_pairs, d_law]
def cs : List (Str × D) := [("BASE", (.int 128)), ("OCTET", (.int 256)), ("PRIME", (.int 65521)), ("SUM_OCTETS", (.int 2))]
def ks : List KW := [("frame", 0, ["body"], [0]), ("frames", 0, ["octets"], [0])]
abbrev Fc (k : Nat) : Str → List D → Sto → Option (Bool × D × Sto) := callN (progOf ds) (gOf cs) k
theorem nd_all : (ds.map (·.nm)).Nodup := by decide +kernel
theorem q_octets_of_number (k : Nat) : Fc (k + 1) "octets_of_number" = runF ⟨Fc k, gOf cs⟩ ⟨["number"], 3, b_octets_of_number⟩ := call_of nd_all (d := d_octets_of_number) (List.mem_of_getElem? (i := 0) rfl)
theorem q_number_of (k : Nat) : Fc (k + 1) "number_of" = runF ⟨Fc k, gOf cs⟩ ⟨["figures"], 5, b_number_of⟩ := call_of nd_all (d := d_number_of) (List.mem_of_getElem? (i := 1) rfl)
theorem q_behind_number (k : Nat) : Fc (k + 1) "behind_number" = runF ⟨Fc k, gOf cs⟩ ⟨["octets", "at"], 3, b_behind_number⟩ := call_of nd_all (d := d_behind_number) (List.mem_of_getElem? (i := 2) rfl)
theorem q_number_in (k : Nat) : Fc (k + 1) "number_in" = runF ⟨Fc k, gOf cs⟩ ⟨["octets", "at"], 5, b_number_in⟩ := call_of nd_all (d := d_number_in) (List.mem_of_getElem? (i := 3) rfl)
theorem q_number_octets (k : Nat) : Fc (k + 1) "number_octets" = runF ⟨Fc k, gOf cs⟩ ⟨["number"], 1, b_number_octets⟩ := call_of nd_all (d := d_number_octets) (List.mem_of_getElem? (i := 4) rfl)
theorem q_sum_of_octets (k : Nat) : Fc (k + 1) "sum_of_octets" = runF ⟨Fc k, gOf cs⟩ ⟨["octets"], 4, b_sum_of_octets⟩ := call_of nd_all (d := d_sum_of_octets) (List.mem_of_getElem? (i := 5) rfl)
theorem q_sum_pair (k : Nat) : Fc (k + 1) "sum_pair" = runF ⟨Fc k, gOf cs⟩ ⟨["body"], 2, b_sum_pair⟩ := call_of nd_all (d := d_sum_pair) (List.mem_of_getElem? (i := 6) rfl)
theorem q_frame (k : Nat) : Fc (k + 1) "frame" = runF ⟨Fc k, gOf cs⟩ ⟨["body"], 1, b_frame⟩ := call_of nd_all (d := d_frame) (List.mem_of_getElem? (i := 7) rfl)
theorem q_frame_at (k : Nat) : Fc (k + 1) "frame_at" = runF ⟨Fc k, gOf cs⟩ ⟨["octets", "at"], 5, b_frame_at⟩ := call_of nd_all (d := d_frame_at) (List.mem_of_getElem? (i := 8) rfl)
theorem q_frames (k : Nat) : Fc (k + 1) "frames" = runF ⟨Fc k, gOf cs⟩ ⟨["octets"], 4, b_frames⟩ := call_of nd_all (d := d_frames) (List.mem_of_getElem? (i := 9) rfl)
theorem q_law_deal (k : Nat) : Fc (k + 1) "_law_deal" = runF ⟨Fc k, gOf cs⟩ ⟨["script", "salt"], 6, b_law_deal⟩ := call_of nd_all (d := d_law_deal) (List.mem_of_getElem? (i := 10) rfl)
theorem q_law_any (k : Nat) : Fc (k + 1) "_law_any" = runF ⟨Fc k, gOf cs⟩ ⟨["deal", "bound"], 3, b_law_any⟩ := call_of nd_all (d := d_law_any) (List.mem_of_getElem? (i := 11) rfl)
theorem q_law_of (k : Nat) : Fc (k + 1) "_law_of" = runF ⟨Fc k, gOf cs⟩ ⟨["deal", "some"], 2, b_law_of⟩ := call_of nd_all (d := d_law_of) (List.mem_of_getElem? (i := 12) rfl)
theorem q_law_is_kind (k : Nat) : Fc (k + 1) "_law_is_kind" = runF ⟨Fc k, gOf cs⟩ ⟨["told", "due"], 2, b_law_is_kind⟩ := call_of nd_all (d := d_law_is_kind) (List.mem_of_getElem? (i := 13) rfl)
theorem q_law_same (k : Nat) : Fc (k + 1) "_law_same" = runF ⟨Fc k, gOf cs⟩ ⟨["told", "due"], 6, b_law_same⟩ := call_of nd_all (d := d_law_same) (List.mem_of_getElem? (i := 14) rfl)
theorem q_law_all (k : Nat) : Fc (k + 1) "_law_all" = runF ⟨Fc k, gOf cs⟩ ⟨["pairs"], 3, b_law_all⟩ := call_of nd_all (d := d_law_all) (List.mem_of_getElem? (i := 15) rfl)
theorem q_law_flat (k : Nat) : Fc (k + 1) "_law_flat" = runF ⟨Fc k, gOf cs⟩ ⟨["some"], 3, b_law_flat⟩ := call_of nd_all (d := d_law_flat) (List.mem_of_getElem? (i := 16) rfl)
theorem q_law_number_octets (k : Nat) : Fc (k + 1) "_law_number_octets" = runF ⟨Fc k, gOf cs⟩ ⟨["number"], 1, b_law_number_octets⟩ := call_of nd_all (d := d_law_number_octets) (List.mem_of_getElem? (i := 17) rfl)
theorem q_law_weigh (k : Nat) : Fc (k + 1) "_law_weigh" = runF ⟨Fc k, gOf cs⟩ ⟨["octets"], 3, b_law_weigh⟩ := call_of nd_all (d := d_law_weigh) (List.mem_of_getElem? (i := 18) rfl)
theorem q_law_frame (k : Nat) : Fc (k + 1) "_law_frame" = runF ⟨Fc k, gOf cs⟩ ⟨["body"], 2, b_law_frame⟩ := call_of nd_all (d := d_law_frame) (List.mem_of_getElem? (i := 19) rfl)
theorem q_law_body (k : Nat) : Fc (k + 1) "_law_body" = runF ⟨Fc k, gOf cs⟩ ⟨["deal", "most"], 3, b_law_body⟩ := call_of nd_all (d := d_law_body) (List.mem_of_getElem? (i := 20) rfl)
theorem q_law_deep_pairs (k : Nat) : Fc (k + 1) "_law_deep_pairs" = runF ⟨Fc k, gOf cs⟩ ⟨["deal"], 8, b_law_deep_pairs⟩ := call_of nd_all (d := d_law_deep_pairs) (List.mem_of_getElem? (i := 21) rfl)
theorem q_law (k : Nat) : Fc (k + 1) "law" = runF ⟨Fc k, gOf cs⟩ ⟨["script"], 18, b_law⟩ := call_of nd_all (d := d_law) (List.mem_of_getElem? (i := 22) rfl)
end Lk69

namespace Lk69
open PySem PySem.Spec PyProof.Rows L2 Pv
abbrev T (k : Nat) : Tb := ⟨Fc k, gOf cs⟩
theorem base_g : gOf cs "BASE" = some (.int 128) := rfl
def valI : List Int → Int
  | [] => 0
  | f :: r => f + 128 * valI r
def figs (fs : List Int) : Prop := ∀ f ∈ fs, 0 ≤ f ∧ f < 128
theorem figs.tail {f : Int} {r : List Int} (h : figs (f :: r)) : figs r := fun x hx => h x (List.mem_cons_of_mem _ hx)
theorem figs.head {f : Int} {r : List Int} (h : figs (f :: r)) : 0 ≤ f ∧ f < 128 := h f List.mem_cons_self
theorem valI_nn : ∀ {fs : List Int}, figs fs → 0 ≤ valI fs
  | [], _ => Int.le_refl _
  | f :: r, h => by have := valI_nn h.tail; have := h.head; simp only [valI]; omega
theorem valI_pos {y : Int} (hy : 0 < y) : ∀ {ys : List Int}, figs (ys ++ [y]) → 0 < valI (ys ++ [y])
  | [], _ => by simp only [List.nil_append, valI]; omega
  | f :: r, h => by have := valI_pos hy (ys := r) h.tail; have := h.head; simp only [List.cons_append, valI]; omega
abbrev hi (ys : List Int) : List D := ys.map fun f => .int (128 + f)
abbrev lo (ys : List Int) : List D := ys.map D.int
theorem oct_loop {k : Nat} (x : Sl) (st : Sto) (y : Int) : ∀ (n : Nat) (ys : List Int) (acc : List D), ys.length < n → figs (ys ++ [y]) → (ys = [] ∨ 0 < y) → acc.length + ys.length ≤ 10000 →
    whlL (evT (T k) octets_of_number_c0) (exSs (T k) octets_of_number_b1) n [x, .own acc, .val (.int (valI (ys ++ [y])))] st = some (.nx, [x, .own (acc ++ hi ys), .val (.int y)], st)
  | 0, ys, _, h, _, _, _ => by omega
  | n + 1, [], acc, _, hf, _, _ => by
    have hy := hf.head
    have e : valI ([] ++ [y]) = y := by simp [valI]
    rw [e]
    have c : evT (T k) octets_of_number_c0 [x, .own acc, .val (.int y)] st = some (false, [x, .own acc, .val (.int y)], st) := by
      simp [octets_of_number_c0, exSs, exS, evE, evEs, evT, Pv.evI, evC, evTg, evTgs, evO, vv, up, one, retE, Option.bind_eq_bind, Option.bind_some, Option.map_some, Option.pure_def, List.getElem?_cons_zero, List.getElem?_cons_succ, List.set_cons_zero, List.set_cons_succ, asgN, asgSub, setIx, opD, addD, mulD, biD, cmpD, ixD, ixL, lenD, slotSeq, slotLst, truD, List.length_cons, List.length_nil, if_true, if_false, Bool.false_eq_true, reduceIte, mthHR, mthR, mtD, slD, seqOf, wipeE, Tgs.len, Pv.unpack, Option.map_none, Option.bind_none, augD, revD, List.map_cons, List.map_nil, isiD, ty, List.any_cons, List.any_nil, base_g]
      omega
    simp only [whlL, c, Option.bind_eq_bind, Option.bind_some, Bool.false_eq_true, if_false, hi, List.map_nil, List.append_nil]
  | n + 1, f :: r, acc, hl, hf, hy, ha => by
    have hf0 := hf.head
    have hy0 : 0 < y := hy.elim (fun z => by cases z) id
    have w := valI_pos hy0 (ys := r) hf.tail
    simp only [List.length_cons] at hl ha
    have ih := oct_loop (k := k) x st y n r (acc ++ [.int (128 + f)]) (by omega) hf.tail (.inr hy0) (by simp; omega)
    have e : valI (f :: r ++ [y]) = f + 128 * valI (r ++ [y]) := rfl
    have hm : (f + 128 * valI (r ++ [y])) % 128 = f := by omega
    have hd : (f + 128 * valI (r ++ [y])) / 128 = valI (r ++ [y]) := by omega
    rw [e]
    have c : evT (T k) octets_of_number_c0 [x, .own acc, .val (.int (f + 128 * valI (r ++ [y])))] st = some (true, [x, .own acc, .val (.int (f + 128 * valI (r ++ [y])))], st) := by
      simp [octets_of_number_c0, exSs, exS, evE, evEs, evT, Pv.evI, evC, evTg, evTgs, evO, vv, up, one, retE, Option.bind_eq_bind, Option.bind_some, Option.map_some, Option.pure_def, List.getElem?_cons_zero, List.getElem?_cons_succ, List.set_cons_zero, List.set_cons_succ, asgN, asgSub, setIx, opD, addD, mulD, biD, cmpD, ixD, ixL, lenD, slotSeq, slotLst, truD, List.length_cons, List.length_nil, if_true, if_false, Bool.false_eq_true, reduceIte, mthHR, mthR, mtD, slD, seqOf, wipeE, Tgs.len, Pv.unpack, Option.map_none, Option.bind_none, augD, revD, List.map_cons, List.map_nil, isiD, ty, List.any_cons, List.any_nil, base_g]
      omega
    have hlim : acc.length < lim := by unfold lim; omega
    have b : exSs (T k) octets_of_number_b1 [x, .own acc, .val (.int (f + 128 * valI (r ++ [y])))] st = some (.nx, [x, .own (acc ++ [.int (128 + f)]), .val (.int (valI (r ++ [y])))], st) := by
      unfold octets_of_number_b1
      refine (sq (ρ1 := [x, .own (acc ++ [.int (128 + f)]), .val (.int (f + 128 * valI (r ++ [y])))]) (st1 := st) (by simp [exSs, exS, evE, evEs, evT, Pv.evI, evC, evTg, evTgs, evO, vv, up, one, retE, Option.bind_eq_bind, Option.bind_some, Option.map_some, Option.pure_def, List.getElem?_cons_zero, List.getElem?_cons_succ, List.set_cons_zero, List.set_cons_succ, asgN, asgSub, setIx, opD, addD, mulD, biD, cmpD, ixD, ixL, lenD, slotSeq, slotLst, truD, List.length_cons, List.length_nil, if_true, if_false, Bool.false_eq_true, reduceIte, mthHR, mthR, mtD, slD, seqOf, wipeE, Tgs.len, Pv.unpack, Option.map_none, Option.bind_none, augD, revD, List.map_cons, List.map_nil, isiD, ty, List.any_cons, List.any_nil, base_g, hlim, hm])).trans ?_
      exact sq1 (by simp [exSs, exS, evE, evEs, evT, Pv.evI, evC, evTg, evTgs, evO, vv, up, one, retE, Option.bind_eq_bind, Option.bind_some, Option.map_some, Option.pure_def, List.getElem?_cons_zero, List.getElem?_cons_succ, List.set_cons_zero, List.set_cons_succ, asgN, asgSub, setIx, opD, addD, mulD, biD, cmpD, ixD, ixL, lenD, slotSeq, slotLst, truD, List.length_cons, List.length_nil, if_true, if_false, Bool.false_eq_true, reduceIte, mthHR, mthR, mtD, slD, seqOf, wipeE, Tgs.len, Pv.unpack, Option.map_none, Option.bind_none, augD, revD, List.map_cons, List.map_nil, isiD, ty, List.any_cons, List.any_nil, base_g, hd, show Nat.log2 128 < 9000 by decide])
    simp only [whlL, c, b, Option.bind_eq_bind, Option.bind_some, if_true]
    rw [ih]
    simp [hi]
abbrev shn (ys : List Int) (y : Int) : List D := hi ys ++ [.int y]
theorem oct_ok (k : Nat) (st : Sto) (ys : List Int) (y : Int) (hf : figs (ys ++ [y])) (hy : ys = [] ∨ 0 < y) (hl : ys.length ≤ 5000) : Fc (k + 1) "octets_of_number" [.int (valI (ys ++ [y]))] st = some (false, .tup (shn ys y), st) := by
  rw [q_octets_of_number]
  refine run_rt (ρ1 := [.val (.int (valI (ys ++ [y]))), .val (.lst (shn ys y)), .val (.int y)]) (n := 2) rfl rfl ?_
  unfold b_octets_of_number
  refine (sq (ρ1 := [.val (.int (valI (ys ++ [y]))), .own [], .no]) (st1 := st) (by simp [exSs, exS, evE, evEs, evT, Pv.evI, evC, evTg, evTgs, evO, vv, up, one, retE, Option.bind_eq_bind, Option.bind_some, Option.map_some, Option.pure_def, List.getElem?_cons_zero, List.getElem?_cons_succ, List.set_cons_zero, List.set_cons_succ, asgN, asgSub, setIx, opD, addD, mulD, biD, cmpD, ixD, ixL, lenD, slotSeq, slotLst, truD, List.length_cons, List.length_nil, if_true, if_false, Bool.false_eq_true, reduceIte, mthHR, mthR, mtD, slD, seqOf, wipeE, Tgs.len, Pv.unpack, Option.map_none, Option.bind_none, augD, revD, List.map_cons, List.map_nil, isiD, ty, List.any_cons, List.any_nil])).trans ?_
  refine (sq (ρ1 := [.val (.int (valI (ys ++ [y]))), .own [], .val (.int (valI (ys ++ [y])))]) (st1 := st) (by simp [exSs, exS, evE, evEs, evT, Pv.evI, evC, evTg, evTgs, evO, vv, up, one, retE, Option.bind_eq_bind, Option.bind_some, Option.map_some, Option.pure_def, List.getElem?_cons_zero, List.getElem?_cons_succ, List.set_cons_zero, List.set_cons_succ, asgN, asgSub, setIx, opD, addD, mulD, biD, cmpD, ixD, ixL, lenD, slotSeq, slotLst, truD, List.length_cons, List.length_nil, if_true, if_false, Bool.false_eq_true, reduceIte, mthHR, mthR, mtD, slD, seqOf, wipeE, Tgs.len, Pv.unpack, Option.map_none, Option.bind_none, augD, revD, List.map_cons, List.map_nil, isiD, ty, List.any_cons, List.any_nil])).trans ?_
  refine (sq (ex_whl (oct_loop (k := k) _ st y fuel ys [] (by unfold fuel; omega) hf hy (by simp; omega)))).trans ?_
  have hlim : ys.length < lim := by unfold lim; omega
  refine (sq (ρ1 := [.val (.int (valI (ys ++ [y]))), .own (shn ys y), .val (.int y)]) (st1 := st) (by simp [exSs, exS, evE, evEs, evT, Pv.evI, evC, evTg, evTgs, evO, vv, up, one, retE, Option.bind_eq_bind, Option.bind_some, Option.map_some, Option.pure_def, List.getElem?_cons_zero, List.getElem?_cons_succ, List.set_cons_zero, List.set_cons_succ, asgN, asgSub, setIx, opD, addD, mulD, biD, cmpD, ixD, ixL, lenD, slotSeq, slotLst, truD, List.length_cons, List.length_nil, if_true, if_false, Bool.false_eq_true, reduceIte, mthHR, mthR, mtD, slD, seqOf, wipeE, Tgs.len, Pv.unpack, Option.map_none, Option.bind_none, augD, revD, List.map_cons, List.map_nil, isiD, ty, List.any_cons, List.any_nil, hlim, shn, hi])).trans ?_
  exact sqr (by simp [exSs, exS, evE, evEs, evT, Pv.evI, evC, evTg, evTgs, evO, vv, up, one, retE, Option.bind_eq_bind, Option.bind_some, Option.map_some, Option.pure_def, List.getElem?_cons_zero, List.getElem?_cons_succ, List.set_cons_zero, List.set_cons_succ, asgN, asgSub, setIx, opD, addD, mulD, biD, cmpD, ixD, ixL, lenD, slotSeq, slotLst, truD, List.length_cons, List.length_nil, if_true, if_false, Bool.false_eq_true, reduceIte, mthHR, mthR, mtD, slD, seqOf, wipeE, Tgs.len, Pv.unpack, Option.map_none, Option.bind_none, augD, revD, List.map_cons, List.map_nil, isiD, ty, List.any_cons, List.any_nil])
theorem noct_ok (k : Nat) (st : Sto) (ys : List Int) (y : Int) (hf : figs (ys ++ [y])) (hy : ys = [] ∨ 0 < y) (hl : ys.length ≤ 5000) : Fc (k + 2) "number_octets" [.int (valI (ys ++ [y]))] st = some (false, .tup (shn ys y), st) := by
  rw [q_number_octets]
  refine run_rt (ρ1 := [.val (.int (valI (ys ++ [y])))]) (n := 0) rfl rfl ?_
  exact sqr (by simp [exSs, exS, evE, evEs, evT, Pv.evI, evC, evTg, evTgs, evO, vv, up, one, retE, Option.bind_eq_bind, Option.bind_some, Option.map_some, Option.pure_def, List.getElem?_cons_zero, List.getElem?_cons_succ, List.set_cons_zero, List.set_cons_succ, asgN, asgSub, setIx, opD, addD, mulD, biD, cmpD, ixD, ixL, lenD, slotSeq, slotLst, truD, List.length_cons, List.length_nil, if_true, if_false, Bool.false_eq_true, reduceIte, mthHR, mthR, mtD, slD, seqOf, wipeE, Tgs.len, Pv.unpack, Option.map_none, Option.bind_none, augD, revD, List.map_cons, List.map_nil, isiD, ty, List.any_cons, List.any_nil, oct_ok k st ys y hf hy hl])
/-! ### the place behind a number -/
theorem rngL_cons {a b : Int} (h : a < b) : rngL a b 1 = .int a :: rngL (a + 1) b 1 := by
  have e1 : rngN a b 1 = rngN (a + 1) b 1 + 1 := by
    have h1 := rng_len (a := a) (b := b)
    have h2 := rng_len (a := a + 1) (b := b)
    unfold rngL at h1 h2
    rw [List.length_map, List.length_range] at h1 h2
    omega
  unfold rngL
  rw [e1, List.range_succ_eq_map, List.map_cons, List.map_map]
  congr 1
  · simp
  · apply List.map_congr_left
    intro i _
    simp
    omega
theorem rngL_nil {a b : Int} (h : b ≤ a) : rngL a b 1 = [] := by
  apply List.eq_nil_of_length_eq_zero
  rw [rng_len]; omega
theorem beh_found {k : Nat} (os : List D) (x : Sl) (st : Sto) : ∀ (m : Nat) (a : Nat) (s : Sl), (∀ i, i < m → ∃ v : Int, os[a + i]? = some (.int v) ∧ 128 ≤ v) → (∃ v : Int, os[a + m]? = some (.int v) ∧ v < 128) →
    ∃ s', forL (evTg (T k) (.n 2)) (exSs (T k) behind_number_b0) (rngL a os.length 1) [.val (.tup os), x, s] st = some (.rt false (.int ((a + m : Nat) + 1)), [.val (.tup os), x, s'], st) := by
  intro m
  induction m with
  | zero =>
    intro a s _ h
    obtain ⟨v, hv, hlt⟩ := h
    have ha : a < os.length := (List.getElem?_eq_some_iff.mp hv).1
    refine ⟨.val (.int a), ?_⟩
    rw [rngL_cons (by omega)]
    have e1 : evTg (T k) (.n 2) (.int (a : Int)) [.val (.tup os), x, s] st = some ([.val (.tup os), x, .val (.int a)], st) := by simp [exSs, exS, evE, evEs, evT, Pv.evI, evC, evTg, evTgs, evO, vv, up, one, retE, Option.bind_eq_bind, Option.bind_some, Option.map_some, Option.pure_def, List.getElem?_cons_zero, List.getElem?_cons_succ, List.set_cons_zero, List.set_cons_succ, asgN, asgSub, setIx, opD, addD, mulD, biD, cmpD, ixD, ixL, lenD, slotSeq, slotLst, truD, List.length_cons, List.length_nil, if_true, if_false, Bool.false_eq_true, reduceIte, mthHR, mthR, mtD, slD, seqOf, wipeE, Tgs.len, Pv.unpack, Option.map_none, Option.bind_none, augD, revD, List.map_cons, List.map_nil, isiD, ty, List.any_cons, List.any_nil]
    have hat : atI os (a : Int) = some (.int v) := atI_nat hv
    have e2 : exSs (T k) behind_number_b0 [.val (.tup os), x, .val (.int a)] st = some (.rt false (.int (a + 1)), [.val (.tup os), x, .val (.int a)], st) := by
      unfold behind_number_b0
      exact sqr (ex_it (t := true) (by simp [exSs, exS, evE, evEs, evT, Pv.evI, evC, evTg, evTgs, evO, vv, up, one, retE, Option.bind_eq_bind, Option.bind_some, Option.map_some, Option.pure_def, List.getElem?_cons_zero, List.getElem?_cons_succ, List.set_cons_zero, List.set_cons_succ, asgN, asgSub, setIx, opD, addD, mulD, biD, cmpD, ixD, ixL, lenD, slotSeq, slotLst, truD, List.length_cons, List.length_nil, if_true, if_false, Bool.false_eq_true, reduceIte, mthHR, mthR, mtD, slD, seqOf, wipeE, Tgs.len, Pv.unpack, Option.map_none, Option.bind_none, augD, revD, List.map_cons, List.map_nil, isiD, ty, List.any_cons, List.any_nil, base_g, hat, hlt]; exact ⟨rfl, rfl⟩) (by simp [exSs, exS, evE, evEs, evT, Pv.evI, evC, evTg, evTgs, evO, vv, up, one, retE, Option.bind_eq_bind, Option.bind_some, Option.map_some, Option.pure_def, List.getElem?_cons_zero, List.getElem?_cons_succ, List.set_cons_zero, List.set_cons_succ, asgN, asgSub, setIx, opD, addD, mulD, biD, cmpD, ixD, ixL, lenD, slotSeq, slotLst, truD, List.length_cons, List.length_nil, if_true, if_false, Bool.false_eq_true, reduceIte, mthHR, mthR, mtD, slD, seqOf, wipeE, Tgs.len, Pv.unpack, Option.map_none, Option.bind_none, augD, revD, List.map_cons, List.map_nil, isiD, ty, List.any_cons, List.any_nil]))
    simp only [forL, e1, e2, Option.bind_eq_bind, Option.bind_some]
    rfl
  | succ m ih =>
    intro a s h h2
    obtain ⟨v, hv, hge⟩ := h 0 (by omega)
    rw [Nat.add_zero] at hv
    have ha : a < os.length := (List.getElem?_eq_some_iff.mp hv).1
    have hat : atI os (a : Int) = some (.int v) := atI_nat hv
    obtain ⟨s', e⟩ := ih (a + 1) (.val (.int a)) (fun i hi => by rw [show a + 1 + i = a + (i + 1) by omega]; exact h (i + 1) (by omega)) (by rw [show a + 1 + m = a + (m + 1) by omega]; exact h2)
    refine ⟨s', ?_⟩
    rw [rngL_cons (by omega)]
    have e1 : evTg (T k) (.n 2) (.int (a : Int)) [.val (.tup os), x, s] st = some ([.val (.tup os), x, .val (.int a)], st) := by simp [exSs, exS, evE, evEs, evT, Pv.evI, evC, evTg, evTgs, evO, vv, up, one, retE, Option.bind_eq_bind, Option.bind_some, Option.map_some, Option.pure_def, List.getElem?_cons_zero, List.getElem?_cons_succ, List.set_cons_zero, List.set_cons_succ, asgN, asgSub, setIx, opD, addD, mulD, biD, cmpD, ixD, ixL, lenD, slotSeq, slotLst, truD, List.length_cons, List.length_nil, if_true, if_false, Bool.false_eq_true, reduceIte, mthHR, mthR, mtD, slD, seqOf, wipeE, Tgs.len, Pv.unpack, Option.map_none, Option.bind_none, augD, revD, List.map_cons, List.map_nil, isiD, ty, List.any_cons, List.any_nil]
    have e2 : exSs (T k) behind_number_b0 [.val (.tup os), x, .val (.int a)] st = some (.nx, [.val (.tup os), x, .val (.int a)], st) := by
      unfold behind_number_b0
      exact sq1 (ex_it (t := false) (ρ1 := [.val (.tup os), x, .val (.int a)]) (st1 := st) (by simp [exSs, exS, evE, evEs, evT, Pv.evI, evC, evTg, evTgs, evO, vv, up, one, retE, Option.bind_eq_bind, Option.bind_some, Option.map_some, Option.pure_def, List.getElem?_cons_zero, List.getElem?_cons_succ, List.set_cons_zero, List.set_cons_succ, asgN, asgSub, setIx, opD, addD, mulD, biD, cmpD, ixD, ixL, lenD, slotSeq, slotLst, truD, List.length_cons, List.length_nil, if_true, if_false, Bool.false_eq_true, reduceIte, mthHR, mthR, mtD, slD, seqOf, wipeE, Tgs.len, Pv.unpack, Option.map_none, Option.bind_none, augD, revD, List.map_cons, List.map_nil, isiD, ty, List.any_cons, List.any_nil, base_g, hat]; omega) (by simp [exSs, exS, evE, evEs, evT, Pv.evI, evC, evTg, evTgs, evO, vv, up, one, retE, Option.bind_eq_bind, Option.bind_some, Option.map_some, Option.pure_def, List.getElem?_cons_zero, List.getElem?_cons_succ, List.set_cons_zero, List.set_cons_succ, asgN, asgSub, setIx, opD, addD, mulD, biD, cmpD, ixD, ixL, lenD, slotSeq, slotLst, truD, List.length_cons, List.length_nil, if_true, if_false, Bool.false_eq_true, reduceIte, mthHR, mthR, mtD, slD, seqOf, wipeE, Tgs.len, Pv.unpack, Option.map_none, Option.bind_none, augD, revD, List.map_cons, List.map_nil, isiD, ty, List.any_cons, List.any_nil]))
    simp only [forL, e1, e2, Option.bind_eq_bind, Option.bind_some]
    rw [show (a : Int) + 1 = ((a + 1 : Nat) : Int) by omega, e, show a + 1 + m = a + (m + 1) by omega]
theorem beh_none {k : Nat} (os : List D) (x : Sl) (st : Sto) : ∀ (m : Nat) (a : Nat) (s : Sl), os.length ≤ a + m → (∀ i, i < m → ∃ v : Int, os[a + i]? = some (.int v) ∧ 128 ≤ v) →
    ∃ s', forL (evTg (T k) (.n 2)) (exSs (T k) behind_number_b0) (rngL a os.length 1) [.val (.tup os), x, s] st = some (.nx, [.val (.tup os), x, s'], st) := by
  intro m
  induction m with
  | zero =>
    intro a s h _
    exact ⟨s, by rw [rngL_nil (by omega)]; rfl⟩
  | succ m ih =>
    intro a s hl h
    obtain ⟨v, hv, hge⟩ := h 0 (by omega)
    rw [Nat.add_zero] at hv
    have ha : a < os.length := (List.getElem?_eq_some_iff.mp hv).1
    have hat : atI os (a : Int) = some (.int v) := atI_nat hv
    obtain ⟨s', e⟩ := ih (a + 1) (.val (.int a)) (by omega) (fun i hi => by rw [show a + 1 + i = a + (i + 1) by omega]; exact h (i + 1) (by omega))
    refine ⟨s', ?_⟩
    rw [rngL_cons (by omega)]
    have e1 : evTg (T k) (.n 2) (.int (a : Int)) [.val (.tup os), x, s] st = some ([.val (.tup os), x, .val (.int a)], st) := by simp [exSs, exS, evE, evEs, evT, Pv.evI, evC, evTg, evTgs, evO, vv, up, one, retE, Option.bind_eq_bind, Option.bind_some, Option.map_some, Option.pure_def, List.getElem?_cons_zero, List.getElem?_cons_succ, List.set_cons_zero, List.set_cons_succ, asgN, asgSub, setIx, opD, addD, mulD, biD, cmpD, ixD, ixL, lenD, slotSeq, slotLst, truD, List.length_cons, List.length_nil, if_true, if_false, Bool.false_eq_true, reduceIte, mthHR, mthR, mtD, slD, seqOf, wipeE, Tgs.len, Pv.unpack, Option.map_none, Option.bind_none, augD, revD, List.map_cons, List.map_nil, isiD, ty, List.any_cons, List.any_nil]
    have e2 : exSs (T k) behind_number_b0 [.val (.tup os), x, .val (.int a)] st = some (.nx, [.val (.tup os), x, .val (.int a)], st) := by
      unfold behind_number_b0
      exact sq1 (ex_it (t := false) (ρ1 := [.val (.tup os), x, .val (.int a)]) (st1 := st) (by simp [exSs, exS, evE, evEs, evT, Pv.evI, evC, evTg, evTgs, evO, vv, up, one, retE, Option.bind_eq_bind, Option.bind_some, Option.map_some, Option.pure_def, List.getElem?_cons_zero, List.getElem?_cons_succ, List.set_cons_zero, List.set_cons_succ, asgN, asgSub, setIx, opD, addD, mulD, biD, cmpD, ixD, ixL, lenD, slotSeq, slotLst, truD, List.length_cons, List.length_nil, if_true, if_false, Bool.false_eq_true, reduceIte, mthHR, mthR, mtD, slD, seqOf, wipeE, Tgs.len, Pv.unpack, Option.map_none, Option.bind_none, augD, revD, List.map_cons, List.map_nil, isiD, ty, List.any_cons, List.any_nil, base_g, hat]; omega) (by simp [exSs, exS, evE, evEs, evT, Pv.evI, evC, evTg, evTgs, evO, vv, up, one, retE, Option.bind_eq_bind, Option.bind_some, Option.map_some, Option.pure_def, List.getElem?_cons_zero, List.getElem?_cons_succ, List.set_cons_zero, List.set_cons_succ, asgN, asgSub, setIx, opD, addD, mulD, biD, cmpD, ixD, ixL, lenD, slotSeq, slotLst, truD, List.length_cons, List.length_nil, if_true, if_false, Bool.false_eq_true, reduceIte, mthHR, mthR, mtD, slD, seqOf, wipeE, Tgs.len, Pv.unpack, Option.map_none, Option.bind_none, augD, revD, List.map_cons, List.map_nil, isiD, ty, List.any_cons, List.any_nil]))
    simp only [forL, e1, e2, Option.bind_eq_bind, Option.bind_some]
    rw [show (a : Int) + 1 = ((a + 1 : Nat) : Int) by omega, e]
theorem behind_neg (k : Nat) (st : Sto) (os : D) {at_ : Int} (h : at_ < 0) : Fc (k + 1) "behind_number" [os, .int at_] st = some (false, .non, st) := by
  rw [q_behind_number]
  refine run_rt (ρ1 := [.val os, .val (.int at_), .no]) (n := 1) rfl rfl ?_
  exact sqr (ex_it (t := true) (by simp [exSs, exS, evE, evEs, evT, Pv.evI, evC, evTg, evTgs, evO, vv, up, one, retE, Option.bind_eq_bind, Option.bind_some, Option.map_some, Option.pure_def, List.getElem?_cons_zero, List.getElem?_cons_succ, List.set_cons_zero, List.set_cons_succ, asgN, asgSub, setIx, opD, addD, mulD, biD, cmpD, ixD, ixL, lenD, slotSeq, slotLst, truD, List.length_cons, List.length_nil, if_true, if_false, Bool.false_eq_true, reduceIte, mthHR, mthR, mtD, slD, seqOf, wipeE, Tgs.len, Pv.unpack, Option.map_none, Option.bind_none, augD, revD, List.map_cons, List.map_nil, isiD, ty, List.any_cons, List.any_nil, h]; exact ⟨rfl, rfl⟩) (by simp [exSs, exS, evE, evEs, evT, Pv.evI, evC, evTg, evTgs, evO, vv, up, one, retE, Option.bind_eq_bind, Option.bind_some, Option.map_some, Option.pure_def, List.getElem?_cons_zero, List.getElem?_cons_succ, List.set_cons_zero, List.set_cons_succ, asgN, asgSub, setIx, opD, addD, mulD, biD, cmpD, ixD, ixL, lenD, slotSeq, slotLst, truD, List.length_cons, List.length_nil, if_true, if_false, Bool.false_eq_true, reduceIte, mthHR, mthR, mtD, slD, seqOf, wipeE, Tgs.len, Pv.unpack, Option.map_none, Option.bind_none, augD, revD, List.map_cons, List.map_nil, isiD, ty, List.any_cons, List.any_nil]))
theorem behind_found (k : Nat) (st : Sto) (os : List D) (a m : Nat) (hl : os.length ≤ 100000) (h : ∀ i, i < m → ∃ v : Int, os[a + i]? = some (.int v) ∧ 128 ≤ v) (h2 : ∃ v : Int, os[a + m]? = some (.int v) ∧ v < 128) :
    Fc (k + 1) "behind_number" [.tup os, .int a] st = some (false, .int ((a + m : Nat) + 1), st) := by
  obtain ⟨s', e⟩ := beh_found (k := k) os (.val (.int a)) st m a .no h h2
  obtain ⟨v, hv, _⟩ := h2
  have ha : a + m < os.length := (List.getElem?_eq_some_iff.mp hv).1
  rw [q_behind_number]
  refine run_rt (ρ1 := [.val (.tup os), .val (.int a), s']) (n := 1) rfl rfl ?_
  refine (sq (ex_it (t := false) (ρ1 := [.val (.tup os), .val (.int a), .no]) (st1 := st) (by simp [exSs, exS, evE, evEs, evT, Pv.evI, evC, evTg, evTgs, evO, vv, up, one, retE, Option.bind_eq_bind, Option.bind_some, Option.map_some, Option.pure_def, List.getElem?_cons_zero, List.getElem?_cons_succ, List.set_cons_zero, List.set_cons_succ, asgN, asgSub, setIx, opD, addD, mulD, biD, cmpD, ixD, ixL, lenD, slotSeq, slotLst, truD, List.length_cons, List.length_nil, if_true, if_false, Bool.false_eq_true, reduceIte, mthHR, mthR, mtD, slD, seqOf, wipeE, Tgs.len, Pv.unpack, Option.map_none, Option.bind_none, augD, revD, List.map_cons, List.map_nil, isiD, ty, List.any_cons, List.any_nil]) (by simp [exSs, exS, evE, evEs, evT, Pv.evI, evC, evTg, evTgs, evO, vv, up, one, retE, Option.bind_eq_bind, Option.bind_some, Option.map_some, Option.pure_def, List.getElem?_cons_zero, List.getElem?_cons_succ, List.set_cons_zero, List.set_cons_succ, asgN, asgSub, setIx, opD, addD, mulD, biD, cmpD, ixD, ixL, lenD, slotSeq, slotLst, truD, List.length_cons, List.length_nil, if_true, if_false, Bool.false_eq_true, reduceIte, mthHR, mthR, mtD, slD, seqOf, wipeE, Tgs.len, Pv.unpack, Option.map_none, Option.bind_none, augD, revD, List.map_cons, List.map_nil, isiD, ty, List.any_cons, List.any_nil]; exact ⟨rfl, rfl⟩))).trans ?_
  exact sqr (ex_for (xs := rngL a os.length 1) (ρ1 := [.val (.tup os), .val (.int a), .no]) (st1 := st) (by simp [exSs, exS, evE, evEs, evT, Pv.evI, evC, evTg, evTgs, evO, vv, up, one, retE, Option.bind_eq_bind, Option.bind_some, Option.map_some, Option.pure_def, List.getElem?_cons_zero, List.getElem?_cons_succ, List.set_cons_zero, List.set_cons_succ, asgN, asgSub, setIx, opD, addD, mulD, biD, cmpD, ixD, ixL, lenD, slotSeq, slotLst, truD, List.length_cons, List.length_nil, if_true, if_false, Bool.false_eq_true, reduceIte, mthHR, mthR, mtD, slD, seqOf, wipeE, Tgs.len, Pv.unpack, Option.map_none, Option.bind_none, augD, revD, List.map_cons, List.map_nil, isiD, ty, List.any_cons, List.any_nil, rngD2 (a := (a : Int)) (b := (os.length : Int)) (by omega) (by omega) (by omega) (by omega)]) e)
theorem behind_none (k : Nat) (st : Sto) (os : List D) (a : Nat) (hl : os.length ≤ 100000) (ha : a ≤ 1000000) (h : ∀ i, a ≤ i → i < os.length → ∃ v : Int, os[i]? = some (.int v) ∧ 128 ≤ v) :
    Fc (k + 1) "behind_number" [.tup os, .int a] st = some (false, .non, st) := by
  obtain ⟨s', e⟩ := beh_none (k := k) os (.val (.int a)) st (os.length - a) a .no (by omega) (fun i hi => h (a + i) (by omega) (by omega))
  rw [q_behind_number]
  refine run_rt (ρ1 := [.val (.tup os), .val (.int a), s']) (n := 1) rfl rfl ?_
  refine (sq (ex_it (t := false) (ρ1 := [.val (.tup os), .val (.int a), .no]) (st1 := st) (by simp [exSs, exS, evE, evEs, evT, Pv.evI, evC, evTg, evTgs, evO, vv, up, one, retE, Option.bind_eq_bind, Option.bind_some, Option.map_some, Option.pure_def, List.getElem?_cons_zero, List.getElem?_cons_succ, List.set_cons_zero, List.set_cons_succ, asgN, asgSub, setIx, opD, addD, mulD, biD, cmpD, ixD, ixL, lenD, slotSeq, slotLst, truD, List.length_cons, List.length_nil, if_true, if_false, Bool.false_eq_true, reduceIte, mthHR, mthR, mtD, slD, seqOf, wipeE, Tgs.len, Pv.unpack, Option.map_none, Option.bind_none, augD, revD, List.map_cons, List.map_nil, isiD, ty, List.any_cons, List.any_nil]) (by simp [exSs, exS, evE, evEs, evT, Pv.evI, evC, evTg, evTgs, evO, vv, up, one, retE, Option.bind_eq_bind, Option.bind_some, Option.map_some, Option.pure_def, List.getElem?_cons_zero, List.getElem?_cons_succ, List.set_cons_zero, List.set_cons_succ, asgN, asgSub, setIx, opD, addD, mulD, biD, cmpD, ixD, ixL, lenD, slotSeq, slotLst, truD, List.length_cons, List.length_nil, if_true, if_false, Bool.false_eq_true, reduceIte, mthHR, mthR, mtD, slD, seqOf, wipeE, Tgs.len, Pv.unpack, Option.map_none, Option.bind_none, augD, revD, List.map_cons, List.map_nil, isiD, ty, List.any_cons, List.any_nil]; exact ⟨rfl, rfl⟩))).trans ?_
  refine (sq (ex_for (xs := rngL a os.length 1) (ρ1 := [.val (.tup os), .val (.int a), .no]) (st1 := st) (by simp [exSs, exS, evE, evEs, evT, Pv.evI, evC, evTg, evTgs, evO, vv, up, one, retE, Option.bind_eq_bind, Option.bind_some, Option.map_some, Option.pure_def, List.getElem?_cons_zero, List.getElem?_cons_succ, List.set_cons_zero, List.set_cons_succ, asgN, asgSub, setIx, opD, addD, mulD, biD, cmpD, ixD, ixL, lenD, slotSeq, slotLst, truD, List.length_cons, List.length_nil, if_true, if_false, Bool.false_eq_true, reduceIte, mthHR, mthR, mtD, slD, seqOf, wipeE, Tgs.len, Pv.unpack, Option.map_none, Option.bind_none, augD, revD, List.map_cons, List.map_nil, isiD, ty, List.any_cons, List.any_nil, rngD2 (a := (a : Int)) (b := (os.length : Int)) (by omega) (by omega) (by omega) (by omega)]) e)).trans ?_
  exact sqr (by simp [exSs, exS, evE, evEs, evT, Pv.evI, evC, evTg, evTgs, evO, vv, up, one, retE, Option.bind_eq_bind, Option.bind_some, Option.map_some, Option.pure_def, List.getElem?_cons_zero, List.getElem?_cons_succ, List.set_cons_zero, List.set_cons_succ, asgN, asgSub, setIx, opD, addD, mulD, biD, cmpD, ixD, ixL, lenD, slotSeq, slotLst, truD, List.length_cons, List.length_nil, if_true, if_false, Bool.false_eq_true, reduceIte, mthHR, mthR, mtD, slD, seqOf, wipeE, Tgs.len, Pv.unpack, Option.map_none, Option.bind_none, augD, revD, List.map_cons, List.map_nil, isiD, ty, List.any_cons, List.any_nil])
end Lk69

namespace Lk69
open PySem PySem.Spec PyProof.Rows L2 Pv
def valB (b : Int) : List Int → Int
  | [] => 0
  | x :: r => x + b * valB b r
theorem valB_I : ∀ fs : List Int, valB 128 fs = valI fs
  | [] => rfl
  | f :: r => by simp only [valB, valI, valB_I r]
def pairB (b : Int) : List Int → List Int
  | [] => []
  | [x] => [x]
  | x :: y :: r => (x + b * y) :: pairB b r
theorem pair_val (b : Int) : ∀ r : List Int, valB (b * b) (pairB b r) = valB b r
  | [] => rfl
  | [x] => by simp [pairB, valB]
  | x :: y :: r => by
    simp only [pairB, valB, pair_val b r]
    rw [Int.mul_assoc, Int.mul_add, Int.add_assoc]
theorem pair_len (b : Int) : ∀ r : List Int, (pairB b r).length = (r.length + 1) / 2
  | [] => rfl
  | [x] => by simp [pairB]
  | x :: y :: r => by
    simp only [pairB, List.length_cons, pair_len b r]
    omega
theorem pair_get (b : Int) : ∀ (r : List Int) (i : Nat) (x y : Int), r[2 * i]? = some x → r[2 * i + 1]? = some y → (pairB b r)[i]? = some (x + b * y)
  | [], _, _, _, h, _ => by simp at h
  | [a], i, _, _, h, h2 => by simp at h2
  | a :: c :: r, 0, x, y, h, h2 => by
    simp at h h2
    subst h h2
    rfl
  | a :: c :: r, i + 1, x, y, h, h2 => by
    have h' : r[2 * i]? = some x := by rw [show 2 * (i + 1) = 2 * i + 1 + 1 by omega] at h; simpa using h
    have h2' : r[2 * i + 1]? = some y := by rw [show 2 * (i + 1) + 1 = 2 * i + 1 + 1 + 1 by omega] at h2; simpa using h2
    simp only [pairB, List.getElem?_cons_succ]
    exact pair_get b r i x y h' h2'
theorem pair_odd (b : Int) : ∀ (r : List Int) (i : Nat) (x : Int), r[2 * i]? = some x → r.length = 2 * i + 1 → (pairB b r)[i]? = some x
  | [], _, _, h, _ => by simp at h
  | [a], 0, x, h, _ => by simpa [pairB] using h
  | [a], i + 1, _, h, h2 => by simp at h2
  | a :: c :: r, 0, x, h, h2 => by simp at h2
  | a :: c :: r, i + 1, x, h, h2 => by
    have h' : r[2 * i]? = some x := by rw [show 2 * (i + 1) = 2 * i + 1 + 1 by omega] at h; simpa using h
    simp only [List.length_cons] at h2
    simp only [pairB, List.getElem?_cons_succ]
    exact pair_odd b r i x h' (by omega)
/-- digits to the base b -/
def digs (b : Int) (r : List Int) : Prop := ∀ x ∈ r, 0 ≤ x ∧ x < b
theorem pair_digs {b : Int} (hb : 0 < b) : ∀ {r : List Int}, digs b r → digs (b * b) (pairB b r)
  | [], h => fun x hx => by cases hx
  | [a], h => fun x hx => by
    have h1 := h a List.mem_cons_self
    rw [List.mem_singleton.mp hx]
    have h2 : b ≤ b * b := by
      have h3 := Int.mul_le_mul_of_nonneg_left (show (1 : Int) ≤ b by omega) (show 0 ≤ b by omega)
      rw [Int.mul_one] at h3
      exact h3
    omega
  | a :: c :: r, h => fun x hx => by
    rcases List.mem_cons.mp hx with rfl | hx
    · have h1 := h a List.mem_cons_self
      have h2 := h c (List.mem_cons_of_mem _ List.mem_cons_self)
      have h3 : 0 ≤ b * c := Int.mul_nonneg (by omega) h2.1
      have h4 : b * c ≤ b * (b - 1) := Int.mul_le_mul_of_nonneg_left (by omega) (by omega)
      rw [Int.mul_sub, Int.mul_one] at h4
      omega
    · exact pair_digs hb (fun y hy => h y (List.mem_cons_of_mem _ (List.mem_cons_of_mem _ hy))) x hx
theorem rng2_len {n : Nat} : (rngL 0 ((n : Int) - 1) 2).length = n / 2 := by
  unfold rngL rngN Builtin.Range.rangeSize
  rw [List.length_map, List.length_range, if_pos (by decide)]
  split
  · omega
  · show (0 : Int).toNat = _; simp; omega
theorem rngD3 {n : Nat} (h : n ≤ 1000000) : rngD [.int 0, .int ((n : Int) - 1), .int 2] = some (rngL 0 ((n : Int) - 1) 2) := by
  have : rngOk 0 ((n : Int) - 1) 2 = true := by
    unfold rngOk Builtin.Range.small Builtin.Range.rangeSize Builtin.Range.rangeFitsLong
    simp
    split <;> omega
  simp only [rngD, this, if_true]
theorem take_snoc {xs : List Int} {i : Nat} {x : Int} (h : xs[i]? = some x) : (xs.take (i + 1)).map D.int = (xs.take i).map D.int ++ [.int x] := by
  rw [List.take_add_one, h, List.map_append]; rfl
theorem big_pow {a : Int} {e : Nat} (h0 : 0 ≤ a) (h : a ≤ 2 ^ (7 * e)) (he : e ≤ 4000) : Big a := by
  refine big_of (n := 7 * e + 1) (by omega) ?_
  have : (2 : Int) ^ (7 * e) = ((2 ^ (7 * e) : Nat) : Int) := by simp
  rw [this] at h
  have h2 : 2 ^ (7 * e + 1) = 2 ^ (7 * e) * 2 := Nat.pow_succ ..
  have h3 : 0 < 2 ^ (7 * e) := Nat.pow_pos (by decide)
  omega
theorem pairs_lc {k : Nat} (x : Sl) (st : Sto) (R : List Int) (b : Int) (s1 s3 s4 : Sl) (h1 : s1 = .own (R.map D.int) ∨ s1 = .val (.lst (R.map D.int))) (hl : R.length ≤ 100000) (hb : Big b) (hR : ∀ y ∈ R, Big y) :
    ∃ s4', evE (T k) (.lc number_of_e1 (.n 4) (.rng (.cons (.k (.int 0)) (.cons (.op .Sub (.lenv 1) (.k (.int 1))) (.cons (.k (.int 2)) .nil)))) .no [("at", 4)]) [x, s1, .val (.int b), s3, s4] st = some (true, .lst (((pairB b R).take (R.length / 2)).map D.int), [x, s1, .val (.int b), s3, s4'], st) := by
  obtain ⟨acc, ρ', st', e, hj⟩ := lc_all (asg := evTg (T k) (.n 4)) (c := evC (T k) .no) (e := fun ρ st => vv (evE (T k) number_of_e1 ρ st)) (vs := [4]) (fun ρ st => by simp only [evC]) (fun i acc ρ st' => acc = ((pairB b R).take i).map D.int ∧ (∃ s, ρ = [x, s1, .val (.int b), s3, s]) ∧ st' = st) (rngL 0 ((R.length : Int) - 1) 2) 0 [] [x, s1, .val (.int b), s3, .no] st (by rw [rng2_len]; unfold lim; simp; omega) (fun i d acc ρ st' hi hj => by
    obtain ⟨rfl, ⟨s, rfl⟩, rfl⟩ := hj
    have hlt := rng_lt hi
    rw [rng2_len] at hlt
    have hd := rng_at hi
    rw [Int.zero_add] at hd
    subst hd
    have g1 : 2 * i < R.length := by omega
    have g2 : 2 * i + 1 < R.length := by omega
    have a1 : atI (R.map D.int) ((i : Int) * 2) = some (.int R[2 * i]) := by
      rw [show (i : Int) * 2 = ((2 * i : Nat) : Int) by omega]
      exact atI_nat (by rw [List.getElem?_map, List.getElem?_eq_getElem g1]; rfl)
    have a2 : atI (R.map D.int) ((i : Int) * 2 + 1) = some (.int R[2 * i + 1]) := by
      rw [show (i : Int) * 2 + 1 = ((2 * i + 1 : Nat) : Int) by omega]
      exact atI_nat (by rw [List.getElem?_map, List.getElem?_eq_getElem g2]; rfl)
    have hb2 := hR R[2 * i + 1] (List.getElem_mem g2)
    refine ⟨[x, s1, .val (.int b), s3, .val (.int ((i : Int) * 2))], st', by simp [exSs, exS, evE, evEs, evT, Pv.evI, evC, evTg, evTgs, evO, vv, up, one, retE, Option.bind_eq_bind, Option.bind_some, Option.map_some, Option.pure_def, List.getElem?_cons_zero, List.getElem?_cons_succ, List.set_cons_zero, List.set_cons_succ, asgN, asgSub, setIx, opD, addD, mulD, biD, cmpD, ixD, ixL, lenD, slotSeq, slotLst, truD, List.length_cons, List.length_nil, if_true, if_false, Bool.false_eq_true, reduceIte, mthHR, mthR, mtD, slD, seqOf, wipeE, Tgs.len, Pv.unpack, Option.map_none, Option.bind_none, augD, revD, List.map_cons, List.map_nil, isiD, ty, List.any_cons, List.any_nil], .int (R[2 * i] + b * R[2 * i + 1]), [x, s1, .val (.int b), s3, .val (.int ((i : Int) * 2))], st', ?_, ?_, ⟨.no, by simp [wipeE]⟩, rfl⟩
    · rcases h1 with rfl | rfl <;> simp [number_of_e1, exSs, exS, evE, evEs, evT, Pv.evI, evC, evTg, evTgs, evO, vv, up, one, retE, Option.bind_eq_bind, Option.bind_some, Option.map_some, Option.pure_def, List.getElem?_cons_zero, List.getElem?_cons_succ, List.set_cons_zero, List.set_cons_succ, asgN, asgSub, setIx, opD, addD, mulD, biD, cmpD, ixD, ixL, lenD, slotSeq, slotLst, truD, List.length_cons, List.length_nil, if_true, if_false, Bool.false_eq_true, reduceIte, mthHR, mthR, mtD, slD, seqOf, wipeE, Tgs.len, Pv.unpack, Option.map_none, Option.bind_none, augD, revD, List.map_cons, List.map_nil, isiD, ty, List.any_cons, List.any_nil, a1, a2, hb, hb2]
    · rw [Nat.zero_add, take_snoc (pair_get b R i _ _ (List.getElem?_eq_getElem g1) (List.getElem?_eq_getElem g2))]) ⟨by simp, ⟨.no, rfl⟩, rfl⟩
  obtain ⟨rfl, ⟨s, rfl⟩, rfl⟩ := hj
  rw [rng2_len, Nat.zero_add] at e
  exact ⟨s, ev_lc (xs := rngL 0 ((R.length : Int) - 1) 2) (ρ1 := [x, s1, .val (.int b), s3, s4]) (st1 := st') (by rcases h1 with rfl | rfl <;> simp [exSs, exS, evE, evEs, evT, Pv.evI, evC, evTg, evTgs, evO, vv, up, one, retE, Option.bind_eq_bind, Option.bind_some, Option.map_some, Option.pure_def, List.getElem?_cons_zero, List.getElem?_cons_succ, List.set_cons_zero, List.set_cons_succ, asgN, asgSub, setIx, opD, addD, mulD, biD, cmpD, ixD, ixL, lenD, slotSeq, slotLst, truD, List.length_cons, List.length_nil, if_true, if_false, Bool.false_eq_true, reduceIte, mthHR, mthR, mtD, slD, seqOf, wipeE, Tgs.len, Pv.unpack, Option.map_none, Option.bind_none, augD, revD, List.map_cons, List.map_nil, isiD, ty, List.any_cons, List.any_nil, rngD3 (n := R.length) (by omega)]) e⟩
theorem num_loop {k : Nat} (x : Sl) (st : Sto) : ∀ (n : Nat) (R : List Int) (b : Int) (e : Nat) (s1 s3 s4 : Sl), R.length < n → R ≠ [] → (s1 = .own (R.map D.int) ∨ s1 = .val (.lst (R.map D.int))) → R.length ≤ 4000 → digs b R → 0 < b → b ≤ 2 ^ (7 * e) → e * (R.length - 1) ≤ 4000 →
    ∃ s1' b' s3' s4', whlL (evT (T k) number_of_c0) (exSs (T k) number_of_b2) n [x, s1, .val (.int b), s3, s4] st = some (.nx, [x, s1', .val (.int b'), s3', s4'], st) ∧ (s1' = .own [.int (valB b R)] ∨ s1' = .val (.lst [.int (valB b R)]))
  | 0, _, _, _, _, _, _, h, _, _, _, _, _, _, _ => by omega
  | n + 1, R, b, e, s1, s3, s4, hn, h0, h1, hl, hd, hb, hbe, hm => by
    have hpos : 0 < R.length := List.length_pos_iff.mpr h0
    by_cases hlen : R.length = 1
    · obtain ⟨y, rfl⟩ := List.length_eq_one_iff.mp hlen
      refine ⟨s1, b, s3, s4, ?_, by simpa [valB] using h1⟩
      have c : evT (T k) number_of_c0 [x, s1, .val (.int b), s3, s4] st = some (false, [x, s1, .val (.int b), s3, s4], st) := by
        rcases h1 with rfl | rfl <;> simp [number_of_c0, exSs, exS, evE, evEs, evT, Pv.evI, evC, evTg, evTgs, evO, vv, up, one, retE, Option.bind_eq_bind, Option.bind_some, Option.map_some, Option.pure_def, List.getElem?_cons_zero, List.getElem?_cons_succ, List.set_cons_zero, List.set_cons_succ, asgN, asgSub, setIx, opD, addD, mulD, biD, cmpD, ixD, ixL, lenD, slotSeq, slotLst, truD, List.length_cons, List.length_nil, if_true, if_false, Bool.false_eq_true, reduceIte, mthHR, mthR, mtD, slD, seqOf, wipeE, Tgs.len, Pv.unpack, Option.map_none, Option.bind_none, augD, revD, List.map_cons, List.map_nil, isiD, ty, List.any_cons, List.any_nil]
      simp only [whlL, c, Option.bind_eq_bind, Option.bind_some, Bool.false_eq_true, if_false]
    · have h2 : 2 ≤ R.length := by omega
      have he : e ≤ 4000 := by
        have := Nat.mul_le_mul_left e (show 1 ≤ R.length - 1 by omega)
        omega
      have hbb : Big b := big_pow (by omega) hbe he
      have hRb : ∀ y ∈ R, Big y := fun y hy => by
        have := hd y hy
        exact big_pow this.1 (by omega) he
      obtain ⟨t4, lcE⟩ := pairs_lc (k := k) x st R b s1 s3 s4 h1 (by omega) hbb hRb
      have hbe2 : b * b ≤ 2 ^ (7 * (2 * e)) := by
        rw [show 7 * (2 * e) = 7 * e + 7 * e by omega, Int.pow_add]
        exact Int.mul_le_mul hbe hbe (by omega) (by exact Int.le_of_lt (Int.pow_pos (by decide)))
      have pl := pair_len b R
      obtain ⟨u1, b', u3, u4, e', hu⟩ := num_loop (k := k) x st n (pairB b R) (b * b) (2 * e) (.val (.lst ((pairB b R).map D.int))) (.val (.lst ((pairB b R).map D.int))) t4 (by omega) (by
        intro z; rw [z] at pl; simp at pl; omega) (.inr rfl) (by omega) (pair_digs hb hd) (Int.mul_pos hb hb) hbe2 (by
        rw [pl]
        have : (R.length + 1) / 2 - 1 ≤ (R.length - 1) / 2 := by omega
        calc 2 * e * ((R.length + 1) / 2 - 1) ≤ 2 * e * ((R.length - 1) / 2) := Nat.mul_le_mul_left _ this
          _ = e * (2 * ((R.length - 1) / 2)) := by rw [Nat.mul_comm 2 e, Nat.mul_assoc]
          _ ≤ e * (R.length - 1) := Nat.mul_le_mul_left _ (by omega)
          _ ≤ 4000 := hm)
      rw [pair_val] at hu
      refine ⟨u1, b', u3, u4, ?_, hu⟩
      rw [← e']
      have c : evT (T k) number_of_c0 [x, s1, .val (.int b), s3, s4] st = some (true, [x, s1, .val (.int b), s3, s4], st) := by
        rcases h1 with rfl | rfl <;> (simp [number_of_c0, exSs, exS, evE, evEs, evT, Pv.evI, evC, evTg, evTgs, evO, vv, up, one, retE, Option.bind_eq_bind, Option.bind_some, Option.map_some, Option.pure_def, List.getElem?_cons_zero, List.getElem?_cons_succ, List.set_cons_zero, List.set_cons_succ, asgN, asgSub, setIx, opD, addD, mulD, biD, cmpD, ixD, ixL, lenD, slotSeq, slotLst, truD, List.length_cons, List.length_nil, if_true, if_false, Bool.false_eq_true, reduceIte, mthHR, mthR, mtD, slD, seqOf, wipeE, Tgs.len, Pv.unpack, Option.map_none, Option.bind_none, augD, revD, List.map_cons, List.map_nil, isiD, ty, List.any_cons, List.any_nil]; omega)
      have body : exSs (T k) number_of_b2 [x, s1, .val (.int b), s3, s4] st = some (.nx, [x, .val (.lst ((pairB b R).map D.int)), .val (.int (b * b)), .val (.lst ((pairB b R).map D.int)), t4], st) := by
        unfold number_of_b2
        generalize E.lc number_of_e1 _ _ _ _ = LC at lcE ⊢
        refine (sq (ρ1 := [x, s1, .val (.int b), .own (((pairB b R).take (R.length / 2)).map D.int), t4]) (st1 := st) (by simp [exSs, exS, evE, evEs, evT, Pv.evI, evC, evTg, evTgs, evO, vv, up, one, retE, Option.bind_eq_bind, Option.bind_some, Option.map_some, Option.pure_def, List.getElem?_cons_zero, List.getElem?_cons_succ, List.set_cons_zero, List.set_cons_succ, asgN, asgSub, setIx, opD, addD, mulD, biD, cmpD, ixD, ixL, lenD, slotSeq, slotLst, truD, List.length_cons, List.length_nil, if_true, if_false, Bool.false_eq_true, reduceIte, mthHR, mthR, mtD, slD, seqOf, wipeE, Tgs.len, Pv.unpack, Option.map_none, Option.bind_none, augD, revD, List.map_cons, List.map_nil, isiD, ty, List.any_cons, List.any_nil, lcE])).trans ?_
        have mid : exS (T k) (.ite (.e (.cmp .Eq (.op .Mod (.lenv 1) (.k (.int 2))) (.k (.int 1)))) (.cons (.ex (.mth .append 3 (.cons (.ixv 1 (.op .Sub (.lenv 1) (.k (.int 1)))) .nil))) .nil) .nil) [x, s1, .val (.int b), .own (((pairB b R).take (R.length / 2)).map D.int), t4] st = some (.nx, [x, s1, .val (.int b), .own ((pairB b R).map D.int), t4], st) := by
          by_cases ho : R.length % 2 = 1
          · have g : 2 * (R.length / 2) < R.length := by omega
            have a1 : atI (R.map D.int) ((R.length : Int) - 1) = some (.int R[2 * (R.length / 2)]) := by
              rw [show (R.length : Int) - 1 = ((2 * (R.length / 2) : Nat) : Int) by omega]
              exact atI_nat (by rw [List.getElem?_map, List.getElem?_eq_getElem g]; rfl)
            have tk : (pairB b R).map D.int = ((pairB b R).take (R.length / 2)).map D.int ++ [.int R[2 * (R.length / 2)]] := by
              rw [← take_snoc (pair_odd b R (R.length / 2) _ (List.getElem?_eq_getElem g) (by omega)), List.take_of_length_le (by omega)]
            have hlim : min (R.length / 2) (pairB b R).length < lim := by unfold lim; omega
            refine ex_it (t := true) (ρ1 := [x, s1, .val (.int b), .own (((pairB b R).take (R.length / 2)).map D.int), t4]) (st1 := st) ?_ ?_
            · rcases h1 with rfl | rfl <;> (simp [exSs, exS, evE, evEs, evT, Pv.evI, evC, evTg, evTgs, evO, vv, up, one, retE, Option.bind_eq_bind, Option.bind_some, Option.map_some, Option.pure_def, List.getElem?_cons_zero, List.getElem?_cons_succ, List.set_cons_zero, List.set_cons_succ, asgN, asgSub, setIx, opD, addD, mulD, biD, cmpD, ixD, ixL, lenD, slotSeq, slotLst, truD, List.length_cons, List.length_nil, if_true, if_false, Bool.false_eq_true, reduceIte, mthHR, mthR, mtD, slD, seqOf, wipeE, Tgs.len, Pv.unpack, Option.map_none, Option.bind_none, augD, revD, List.map_cons, List.map_nil, isiD, ty, List.any_cons, List.any_nil, sh, eqv_int]; omega)
            · rw [tk]
              simp only [if_true]
              rcases h1 with rfl | rfl <;> exact sq1 (by simp [exSs, exS, evE, evEs, evT, Pv.evI, evC, evTg, evTgs, evO, vv, up, one, retE, Option.bind_eq_bind, Option.bind_some, Option.map_some, Option.pure_def, List.getElem?_cons_zero, List.getElem?_cons_succ, List.set_cons_zero, List.set_cons_succ, asgN, asgSub, setIx, opD, addD, mulD, biD, cmpD, ixD, ixL, lenD, slotSeq, slotLst, truD, List.length_cons, List.length_nil, if_true, if_false, Bool.false_eq_true, reduceIte, mthHR, mthR, mtD, slD, seqOf, wipeE, Tgs.len, Pv.unpack, Option.map_none, Option.bind_none, augD, revD, List.map_cons, List.map_nil, isiD, ty, List.any_cons, List.any_nil, a1, hlim])
          · have tk : (pairB b R).map D.int = ((pairB b R).take (R.length / 2)).map D.int := by
              rw [List.take_of_length_le (by omega)]
            rw [tk]
            refine ex_it (t := false) (ρ1 := [x, s1, .val (.int b), .own (((pairB b R).take (R.length / 2)).map D.int), t4]) (st1 := st) ?_ (by simp [exSs, exS, evE, evEs, evT, Pv.evI, evC, evTg, evTgs, evO, vv, up, one, retE, Option.bind_eq_bind, Option.bind_some, Option.map_some, Option.pure_def, List.getElem?_cons_zero, List.getElem?_cons_succ, List.set_cons_zero, List.set_cons_succ, asgN, asgSub, setIx, opD, addD, mulD, biD, cmpD, ixD, ixL, lenD, slotSeq, slotLst, truD, List.length_cons, List.length_nil, if_true, if_false, Bool.false_eq_true, reduceIte, mthHR, mthR, mtD, slD, seqOf, wipeE, Tgs.len, Pv.unpack, Option.map_none, Option.bind_none, augD, revD, List.map_cons, List.map_nil, isiD, ty, List.any_cons, List.any_nil])
            rcases h1 with rfl | rfl <;> (simp [exSs, exS, evE, evEs, evT, Pv.evI, evC, evTg, evTgs, evO, vv, up, one, retE, Option.bind_eq_bind, Option.bind_some, Option.map_some, Option.pure_def, List.getElem?_cons_zero, List.getElem?_cons_succ, List.set_cons_zero, List.set_cons_succ, asgN, asgSub, setIx, opD, addD, mulD, biD, cmpD, ixD, ixL, lenD, slotSeq, slotLst, truD, List.length_cons, List.length_nil, if_true, if_false, Bool.false_eq_true, reduceIte, mthHR, mthR, mtD, slD, seqOf, wipeE, Tgs.len, Pv.unpack, Option.map_none, Option.bind_none, augD, revD, List.map_cons, List.map_nil, isiD, ty, List.any_cons, List.any_nil, sh, eqv_int]; omega)
        refine (sq mid).trans ?_
        refine (sq (ρ1 := [x, .val (.lst ((pairB b R).map D.int)), .val (.int b), .val (.lst ((pairB b R).map D.int)), t4]) (st1 := st) (by simp [exSs, exS, evE, evEs, evT, Pv.evI, evC, evTg, evTgs, evO, vv, up, one, retE, Option.bind_eq_bind, Option.bind_some, Option.map_some, Option.pure_def, List.getElem?_cons_zero, List.getElem?_cons_succ, List.set_cons_zero, List.set_cons_succ, asgN, asgSub, setIx, opD, addD, mulD, biD, cmpD, ixD, ixL, lenD, slotSeq, slotLst, truD, List.length_cons, List.length_nil, if_true, if_false, Bool.false_eq_true, reduceIte, mthHR, mthR, mtD, slD, seqOf, wipeE, Tgs.len, Pv.unpack, Option.map_none, Option.bind_none, augD, revD, List.map_cons, List.map_nil, isiD, ty, List.any_cons, List.any_nil])).trans ?_
        exact sq1 (by simp [exSs, exS, evE, evEs, evT, Pv.evI, evC, evTg, evTgs, evO, vv, up, one, retE, Option.bind_eq_bind, Option.bind_some, Option.map_some, Option.pure_def, List.getElem?_cons_zero, List.getElem?_cons_succ, List.set_cons_zero, List.set_cons_succ, asgN, asgSub, setIx, opD, addD, mulD, biD, cmpD, ixD, ixL, lenD, slotSeq, slotLst, truD, List.length_cons, List.length_nil, if_true, if_false, Bool.false_eq_true, reduceIte, mthHR, mthR, mtD, slD, seqOf, wipeE, Tgs.len, Pv.unpack, Option.map_none, Option.bind_none, augD, revD, List.map_cons, List.map_nil, isiD, ty, List.any_cons, List.any_nil, hbb])
      simp only [whlL, c, body, Option.bind_eq_bind, Option.bind_some, if_true]
theorem num_ok (k : Nat) (st : Sto) (fs : List Int) (h0 : fs ≠ []) (hf : figs fs) (hl : fs.length ≤ 4000) : Fc (k + 1) "number_of" [.lst (fs.map D.int)] st = some (false, .int (valI fs), st) := by
  obtain ⟨s1, b', s3, s4, e, hs⟩ := num_loop (k := k) (.val (.lst (fs.map D.int))) st fuel fs 128 1 (.own (fs.map D.int)) .no .no (by unfold fuel; omega) h0 (.inl rfl) hl hf (by decide) (by decide) (by omega)
  rw [valB_I] at hs
  rw [q_number_of]
  refine run_rt (ρ1 := [.val (.lst (fs.map D.int)), s1, .val (.int b'), s3, s4]) (n := 4) rfl rfl ?_
  unfold b_number_of
  refine (sq (ρ1 := [.val (.lst (fs.map D.int)), .own (fs.map D.int), .val (.int 128), .no, .no]) (st1 := st) (by simp [exSs, exS, evE, evEs, evT, Pv.evI, evC, evTg, evTgs, evO, vv, up, one, retE, Option.bind_eq_bind, Option.bind_some, Option.map_some, Option.pure_def, List.getElem?_cons_zero, List.getElem?_cons_succ, List.set_cons_zero, List.set_cons_succ, asgN, asgSub, setIx, opD, addD, mulD, biD, cmpD, ixD, ixL, lenD, slotSeq, slotLst, truD, List.length_cons, List.length_nil, if_true, if_false, Bool.false_eq_true, reduceIte, mthHR, mthR, mtD, slD, seqOf, wipeE, Tgs.len, Pv.unpack, Option.map_none, Option.bind_none, augD, revD, List.map_cons, List.map_nil, isiD, ty, List.any_cons, List.any_nil, base_g])).trans ?_
  refine (sq (ex_whl e)).trans ?_
  rcases hs with rfl | rfl <;> exact sqr (by simp [exSs, exS, evE, evEs, evT, Pv.evI, evC, evTg, evTgs, evO, vv, up, one, retE, Option.bind_eq_bind, Option.bind_some, Option.map_some, Option.pure_def, List.getElem?_cons_zero, List.getElem?_cons_succ, List.set_cons_zero, List.set_cons_succ, asgN, asgSub, setIx, opD, addD, mulD, biD, cmpD, ixD, ixL, lenD, slotSeq, slotLst, truD, List.length_cons, List.length_nil, if_true, if_false, Bool.false_eq_true, reduceIte, mthHR, mthR, mtD, slD, seqOf, wipeE, Tgs.len, Pv.unpack, Option.map_none, Option.bind_none, augD, revD, List.map_cons, List.map_nil, isiD, ty, List.any_cons, List.any_nil, at0])
end Lk69

namespace Lk69
open PySem PySem.Spec PyProof.Rows L2 Pv
theorem cut_mid (pre mid post : List D) : Pv.cutD (pre ++ mid ++ post) (some (pre.length : Int)) (some ((pre.length + mid.length : Nat) : Int)) = mid := by
  unfold Pv.cutD
  rw [HT.sIx_nat, HT.sIx_nat]
  simp only [List.length_append]
  rw [show min pre.length (pre.length + mid.length + post.length) = pre.length by omega, show min (pre.length + mid.length) (pre.length + mid.length + post.length) = pre.length + mid.length by omega, List.append_assoc, List.drop_left, show pre.length + mid.length - pre.length = mid.length by omega, List.take_left]
theorem cut_init (ys : List D) (y : D) : Pv.cutD (ys ++ [y]) none (some (-1)) = ys := by
  unfold Pv.cutD HT.sIx
  simp
  rw [show ((-1 : Int) + ((ys.length : Int) + 1)).toNat = ys.length by omega, List.take_left]
theorem cut_last (ys : List D) (y : D) : Pv.cutD (ys ++ [y]) (some (-1)) none = [y] := by
  unfold Pv.cutD HT.sIx
  simp
  rw [show ((-1 : Int) + ((ys.length : Int) + 1)).toNat = ys.length by omega]
  simp
theorem fig_lc {k : Nat} (o a e : Sl) (st : Sto) (ys : List Int) (hl : ys.length ≤ 100000) (s3 : Sl) (it : I) (ρ0 : Pv.Env) (st0 : Sto) (hi0 : Pv.evI (T k) it ρ0 st0 = some (hi ys, [o, a, e, s3, .no], st)) :
    evE (T k) (.lc number_in_e0 (.n 4) it .no [("octet", 4)]) ρ0 st0 = some (true, .lst (lo ys), [o, a, e, s3, .no], st) := by
  obtain ⟨acc, ρ', st', h, hj⟩ := lc_all (asg := evTg (T k) (.n 4)) (c := evC (T k) .no) (e := fun ρ st => vv (evE (T k) number_in_e0 ρ st)) (vs := [4]) (fun ρ st => by simp only [evC]) (fun i acc ρ st' => acc = (ys.take i).map D.int ∧ ρ = [o, a, e, s3, .no] ∧ st' = st) (hi ys) 0 [] [o, a, e, s3, .no] st (by unfold lim; simp [hi]; omega) (fun i d acc ρ st' hi hj => by
    obtain ⟨rfl, rfl, rfl⟩ := hj
    rw [List.getElem?_map] at hi
    cases hy : ys[i]? with
    | none => rw [hy] at hi; cases hi
    | some y =>
      rw [hy] at hi
      cases hi
      refine ⟨[o, a, e, s3, .val (.int (128 + y))], st', by simp [exSs, exS, evE, evEs, evT, Pv.evI, evC, evTg, evTgs, evO, vv, up, one, retE, Option.bind_eq_bind, Option.bind_some, Option.map_some, Option.pure_def, List.getElem?_cons_zero, List.getElem?_cons_succ, List.set_cons_zero, List.set_cons_succ, asgN, asgSub, setIx, opD, addD, mulD, biD, cmpD, ixD, ixL, lenD, slotSeq, slotLst, truD, List.length_cons, List.length_nil, if_true, if_false, Bool.false_eq_true, reduceIte, mthHR, mthR, mtD, slD, seqOf, wipeE, Tgs.len, Pv.unpack, Option.map_none, Option.bind_none, augD, revD, List.map_cons, List.map_nil, isiD, ty, List.any_cons, List.any_nil], .int y, [o, a, e, s3, .val (.int (128 + y))], st', ?_, ?_, by simp [wipeE], rfl⟩
      · simp [number_in_e0, exSs, exS, evE, evEs, evT, Pv.evI, evC, evTg, evTgs, evO, vv, up, one, retE, Option.bind_eq_bind, Option.bind_some, Option.map_some, Option.pure_def, List.getElem?_cons_zero, List.getElem?_cons_succ, List.set_cons_zero, List.set_cons_succ, asgN, asgSub, setIx, opD, addD, mulD, biD, cmpD, ixD, ixL, lenD, slotSeq, slotLst, truD, List.length_cons, List.length_nil, if_true, if_false, Bool.false_eq_true, reduceIte, mthHR, mthR, mtD, slD, seqOf, wipeE, Tgs.len, Pv.unpack, Option.map_none, Option.bind_none, augD, revD, List.map_cons, List.map_nil, isiD, ty, List.any_cons, List.any_nil, base_g]; omega
      · rw [Nat.zero_add, take_snoc hy]) ⟨by simp, rfl, rfl⟩
  obtain ⟨rfl, rfl, rfl⟩ := hj
  rw [Nat.zero_add, List.take_of_length_le (by simp [Lk69.hi])] at h
  exact ev_lc hi0 h
theorem shn_get {pre ys : List D} {y : D} {post : List D} : (pre ++ (ys ++ [y]) ++ post)[pre.length + ys.length]? = some y := by
  rw [List.append_assoc, List.getElem?_append_right (by omega), show pre.length + ys.length - pre.length = ys.length by omega, List.append_assoc, List.getElem?_append_right (by omega)]
  simp
theorem shn_hi {pre post : List D} {ys : List Int} {y : D} (hf : ∀ f ∈ ys, 0 ≤ f) {i : Nat} (h : i < ys.length) : ∃ v : Int, (pre ++ (hi ys ++ [y]) ++ post)[pre.length + i]? = some (.int v) ∧ 128 ≤ v := by
  rw [List.append_assoc, List.getElem?_append_right (by omega), show pre.length + i - pre.length = i by omega, List.append_assoc, List.getElem?_append_left (by simpa [hi] using h), List.getElem?_map, List.getElem?_eq_getElem h]
  exact ⟨128 + ys[i], rfl, by have := hf _ (List.getElem_mem h); omega⟩
theorem behind_at (k : Nat) (st : Sto) (pre post : List D) (ys : List Int) (y : Int) (hf : figs (ys ++ [y])) (hl : (pre ++ shn ys y ++ post).length ≤ 100000) :
    Fc (k + 1) "behind_number" [.tup (pre ++ shn ys y ++ post), .int pre.length] st = some (false, .int ((pre.length : Int) + ys.length + 1), st) :=
  by
    have h := behind_found k st _ pre.length ys.length hl (fun i h => shn_hi (fun f h => (hf f (by simp [h])).1) h) ⟨y, by
      have := shn_get (pre := pre) (ys := hi ys) (y := .int y) (post := post)
      rw [show (hi ys).length = ys.length by simp [hi]] at this
      exact this, (hf y (by simp)).2⟩
    rw [Int.natCast_add] at h
    exact h
theorem read_ok (k : Nat) (st : Sto) (pre post : List D) (ys : List Int) (y : Int) (hf : figs (ys ++ [y])) (hy : ys = [] ∨ 0 < y) (hl : (pre ++ shn ys y ++ post).length ≤ 100000) (hl2 : ys.length ≤ 3000) :
    Fc (k + 2) "number_in" [.tup (pre ++ shn ys y ++ post), .int pre.length] st = some (false, .tup [.int (valI (ys ++ [y])), .int ((pre.length : Int) + ys.length + 1)], st) := by
  rw [q_number_in]
  have hat : atI (pre ++ (hi ys ++ [D.int y]) ++ post) ((pre.length : Int) + ys.length) = some (.int y) := by
    have := shn_get (pre := pre) (ys := hi ys) (y := .int y) (post := post)
    rw [show (hi ys).length = ys.length by simp [hi]] at this
    exact atI_nat (j := pre.length + ys.length) this
  have cut : Pv.cutD (pre ++ (hi ys ++ [D.int y]) ++ post) (some (pre.length : Int)) (some ((pre.length : Int) + ys.length)) = hi ys := by
    have := cut_mid pre (hi ys) ([D.int y] ++ post)
    rw [show (hi ys).length = ys.length by simp [hi]] at this
    rw [List.append_assoc, List.append_assoc, ← List.append_assoc pre]
    exact this
  have bh := behind_at k st pre post ys y hf hl
  generalize hos : (pre ++ shn ys y ++ post) = os at bh ⊢
  rw [show pre ++ (hi ys ++ [D.int y]) ++ post = os from hos] at hat cut
  refine run_rt (ρ1 := [.val (.tup os), .val (.int pre.length), .val (.int ((pre.length : Int) + ys.length + 1)), .val (.lst ((ys ++ [y]).map D.int)), .no]) (n := 3) rfl rfl ?_
  unfold b_number_in
  refine (sq (ρ1 := [.val (.tup os), .val (.int pre.length), .val (.int ((pre.length : Int) + ys.length + 1)), .no, .no]) (st1 := st) (by simp only [exSs, exS, evE, evEs, evT, Pv.evI, evC, evTg, evTgs, evO, vv, up, one, retE, Option.bind_eq_bind, Option.bind_some, Option.map_some, Option.pure_def, List.getElem?_cons_zero, List.getElem?_cons_succ, List.set_cons_zero, List.set_cons_succ, asgN, asgSub, setIx, opD, addD, mulD, biD, cmpD, ixD, ixL, lenD, slotSeq, slotLst, truD, List.length_cons, List.length_nil, if_true, if_false, Bool.false_eq_true, reduceIte, mthHR, mthR, mtD, slD, seqOf, wipeE, Tgs.len, Pv.unpack, Option.map_none, Option.bind_none, augD, revD, List.map_cons, List.map_nil, isiD, ty, List.any_cons, List.any_nil]; simp [exSs, exS, evE, evEs, evT, Pv.evI, evC, evTg, evTgs, evO, vv, up, one, retE, Option.bind_eq_bind, Option.bind_some, Option.map_some, Option.pure_def, List.getElem?_cons_zero, List.getElem?_cons_succ, List.set_cons_zero, List.set_cons_succ, asgN, asgSub, setIx, opD, addD, mulD, biD, cmpD, ixD, ixL, lenD, slotSeq, slotLst, truD, List.length_cons, List.length_nil, if_true, if_false, Bool.false_eq_true, reduceIte, mthHR, mthR, mtD, slD, seqOf, wipeE, Tgs.len, Pv.unpack, Option.map_none, Option.bind_none, augD, revD, List.map_cons, List.map_nil, isiD, ty, List.any_cons, List.any_nil, bh])).trans ?_
  have tst : evT (T (k + 1)) (.or (.e (.cmp .Is (.v 2) (.k .non))) (.an (.e (.cmp .Gt (.op .Sub (.v 2) (.v 1)) (.k (.int 1)))) (.e (.cmp .Eq (.ixv 0 (.op .Sub (.v 2) (.k (.int 1)))) (.k (.int 0)))))) [.val (.tup os), .val (.int pre.length), .val (.int ((pre.length : Int) + ys.length + 1)), .no, .no] st = some (false, [.val (.tup os), .val (.int pre.length), .val (.int ((pre.length : Int) + ys.length + 1)), .no, .no], st) := by
    rcases hy with rfl | hy
    · simp [exSs, exS, evE, evEs, evT, Pv.evI, evC, evTg, evTgs, evO, vv, up, one, retE, Option.bind_eq_bind, Option.bind_some, Option.map_some, Option.pure_def, List.getElem?_cons_zero, List.getElem?_cons_succ, List.set_cons_zero, List.set_cons_succ, asgN, asgSub, setIx, opD, addD, mulD, biD, cmpD, ixD, ixL, lenD, slotSeq, slotLst, truD, List.length_cons, List.length_nil, if_true, if_false, Bool.false_eq_true, reduceIte, mthHR, mthR, mtD, slD, seqOf, wipeE, Tgs.len, Pv.unpack, Option.map_none, Option.bind_none, augD, revD, List.map_cons, List.map_nil, isiD, ty, List.any_cons, List.any_nil, show ((pre.length : Int) + 1 - pre.length) = 1 by omega]
    · have e1 : ((pre.length : Int) + ys.length + 1) - 1 = (pre.length : Int) + ys.length := by omega
      have hne : y ≠ 0 := by omega
      simp [exSs, exS, evE, evEs, evT, Pv.evI, evC, evTg, evTgs, evO, vv, up, one, retE, Option.bind_eq_bind, Option.bind_some, Option.map_some, Option.pure_def, List.getElem?_cons_zero, List.getElem?_cons_succ, List.set_cons_zero, List.set_cons_succ, asgN, asgSub, setIx, opD, addD, mulD, biD, cmpD, ixD, ixL, lenD, slotSeq, slotLst, truD, List.length_cons, List.length_nil, if_true, if_false, Bool.false_eq_true, reduceIte, mthHR, mthR, mtD, slD, seqOf, wipeE, Tgs.len, Pv.unpack, Option.map_none, Option.bind_none, augD, revD, List.map_cons, List.map_nil, isiD, ty, List.any_cons, List.any_nil, e1, hat, sh, eqv_int, hne]
  refine (sq (ex_it tst (by simp [exSs, exS, evE, evEs, evT, Pv.evI, evC, evTg, evTgs, evO, vv, up, one, retE, Option.bind_eq_bind, Option.bind_some, Option.map_some, Option.pure_def, List.getElem?_cons_zero, List.getElem?_cons_succ, List.set_cons_zero, List.set_cons_succ, asgN, asgSub, setIx, opD, addD, mulD, biD, cmpD, ixD, ixL, lenD, slotSeq, slotLst, truD, List.length_cons, List.length_nil, if_true, if_false, Bool.false_eq_true, reduceIte, mthHR, mthR, mtD, slD, seqOf, wipeE, Tgs.len, Pv.unpack, Option.map_none, Option.bind_none, augD, revD, List.map_cons, List.map_nil, isiD, ty, List.any_cons, List.any_nil]; exact ⟨rfl, rfl⟩))).trans ?_
  have lc := fig_lc (k := k + 1) (.val (.tup os)) (.val (.int pre.length)) (.val (.int ((pre.length : Int) + ys.length + 1))) st ys (by omega) .no (.val (.sl (.v 0) (.so (.v 1)) (.so (.op .Sub (.v 2) (.k (.int 1)))))) [.val (.tup os), .val (.int pre.length), .val (.int ((pre.length : Int) + ys.length + 1)), .no, .no] st (by
    have e1 : ((pre.length : Int) + ys.length + 1) - 1 = (pre.length : Int) + ys.length := by omega
    simp [exSs, exS, evE, evEs, evT, Pv.evI, evC, evTg, evTgs, evO, vv, up, one, retE, Option.bind_eq_bind, Option.bind_some, Option.map_some, Option.pure_def, List.getElem?_cons_zero, List.getElem?_cons_succ, List.set_cons_zero, List.set_cons_succ, asgN, asgSub, setIx, opD, addD, mulD, biD, cmpD, ixD, ixL, lenD, slotSeq, slotLst, truD, List.length_cons, List.length_nil, if_true, if_false, Bool.false_eq_true, reduceIte, mthHR, mthR, mtD, slD, seqOf, wipeE, Tgs.len, Pv.unpack, Option.map_none, Option.bind_none, augD, revD, List.map_cons, List.map_nil, isiD, ty, List.any_cons, List.any_nil, e1, cut])
  generalize E.lc number_in_e0 _ _ _ _ = LC at lc ⊢
  have e1 : ((pre.length : Int) + ys.length + 1) - 1 = (pre.length : Int) + ys.length := by omega
  have hlim : ys.length + 1 ≤ lim := by unfold lim; omega
  refine (sq (ρ1 := [.val (.tup os), .val (.int pre.length), .val (.int ((pre.length : Int) + ys.length + 1)), .own ((ys ++ [y]).map D.int), .no]) (st1 := st) (by simp [exSs, exS, evE, evEs, evT, Pv.evI, evC, evTg, evTgs, evO, vv, up, one, retE, Option.bind_eq_bind, Option.bind_some, Option.map_some, Option.pure_def, List.getElem?_cons_zero, List.getElem?_cons_succ, List.set_cons_zero, List.set_cons_succ, asgN, asgSub, setIx, opD, addD, mulD, biD, cmpD, ixD, ixL, lenD, slotSeq, slotLst, truD, List.length_cons, List.length_nil, if_true, if_false, Bool.false_eq_true, reduceIte, mthHR, mthR, mtD, slD, seqOf, wipeE, Tgs.len, Pv.unpack, Option.map_none, Option.bind_none, augD, revD, List.map_cons, List.map_nil, isiD, ty, List.any_cons, List.any_nil, lc, e1, hat, hlim, lo, show (1 : Nat) ≤ lim by decide])).trans ?_
  have nm := num_ok k st (ys ++ [y]) (by simp) hf (by simp; omega)
  exact sqr (by simp only [exSs, exS, evE, evEs, evT, Pv.evI, evC, evTg, evTgs, evO, vv, up, one, retE, Option.bind_eq_bind, Option.bind_some, Option.map_some, Option.pure_def, List.getElem?_cons_zero, List.getElem?_cons_succ, List.set_cons_zero, List.set_cons_succ, asgN, asgSub, setIx, opD, addD, mulD, biD, cmpD, ixD, ixL, lenD, slotSeq, slotLst, truD, List.length_cons, List.length_nil, if_true, if_false, Bool.false_eq_true, reduceIte, mthHR, mthR, mtD, slD, seqOf, wipeE, Tgs.len, Pv.unpack, Option.map_none, Option.bind_none, augD, revD, List.map_cons, List.map_nil, isiD, ty, List.any_cons, List.any_nil]; simp only [List.map_append, List.map_cons, List.map_nil] at nm; simp [nm, exSs, exS, evE, evEs, evT, Pv.evI, evC, evTg, evTgs, evO, vv, up, one, retE, Option.bind_eq_bind, Option.bind_some, Option.map_some, Option.pure_def, List.getElem?_cons_zero, List.getElem?_cons_succ, List.set_cons_zero, List.set_cons_succ, asgN, asgSub, setIx, opD, addD, mulD, biD, cmpD, ixD, ixL, lenD, slotSeq, slotLst, truD, List.length_cons, List.length_nil, if_true, if_false, Bool.false_eq_true, reduceIte, mthHR, mthR, mtD, slD, seqOf, wipeE, Tgs.len, Pv.unpack, Option.map_none, Option.bind_none, augD, revD, List.map_cons, List.map_nil, isiD, ty, List.any_cons, List.any_nil, show (2 : Nat) ≤ lim by decide])
theorem read_nought (k : Nat) (st : Sto) (pre post : List D) (ys : List Int) (hf : figs (ys ++ [0])) (hy : ys ≠ []) (hl : (pre ++ shn ys 0 ++ post).length ≤ 100000) :
    Fc (k + 2) "number_in" [.tup (pre ++ shn ys 0 ++ post), .int pre.length] st = some (false, .non, st) := by
  rw [q_number_in]
  have hpos : 0 < ys.length := List.length_pos_iff.mpr hy
  have hat : atI (pre ++ (hi ys ++ [D.int 0]) ++ post) ((pre.length : Int) + ys.length) = some (.int 0) := by
    have := shn_get (pre := pre) (ys := hi ys) (y := .int 0) (post := post)
    rw [show (hi ys).length = ys.length by simp [hi]] at this
    exact atI_nat (j := pre.length + ys.length) this
  have bh := behind_at k st pre post ys 0 hf hl
  generalize hos : (pre ++ shn ys 0 ++ post) = os at bh ⊢
  rw [show pre ++ (hi ys ++ [D.int 0]) ++ post = os from hos] at hat
  refine run_rt (ρ1 := [.val (.tup os), .val (.int pre.length), .val (.int ((pre.length : Int) + ys.length + 1)), .no, .no]) (n := 3) rfl rfl ?_
  unfold b_number_in
  refine (sq (ρ1 := [.val (.tup os), .val (.int pre.length), .val (.int ((pre.length : Int) + ys.length + 1)), .no, .no]) (st1 := st) (by simp only [exSs, exS, evE, evEs, evT, Pv.evI, evC, evTg, evTgs, evO, vv, up, one, retE, Option.bind_eq_bind, Option.bind_some, Option.map_some, Option.pure_def, List.getElem?_cons_zero, List.getElem?_cons_succ, List.set_cons_zero, List.set_cons_succ, asgN, asgSub, setIx, opD, addD, mulD, biD, cmpD, ixD, ixL, lenD, slotSeq, slotLst, truD, List.length_cons, List.length_nil, if_true, if_false, Bool.false_eq_true, reduceIte, mthHR, mthR, mtD, slD, seqOf, wipeE, Tgs.len, Pv.unpack, Option.map_none, Option.bind_none, augD, revD, List.map_cons, List.map_nil, isiD, ty, List.any_cons, List.any_nil]; simp [exSs, exS, evE, evEs, evT, Pv.evI, evC, evTg, evTgs, evO, vv, up, one, retE, Option.bind_eq_bind, Option.bind_some, Option.map_some, Option.pure_def, List.getElem?_cons_zero, List.getElem?_cons_succ, List.set_cons_zero, List.set_cons_succ, asgN, asgSub, setIx, opD, addD, mulD, biD, cmpD, ixD, ixL, lenD, slotSeq, slotLst, truD, List.length_cons, List.length_nil, if_true, if_false, Bool.false_eq_true, reduceIte, mthHR, mthR, mtD, slD, seqOf, wipeE, Tgs.len, Pv.unpack, Option.map_none, Option.bind_none, augD, revD, List.map_cons, List.map_nil, isiD, ty, List.any_cons, List.any_nil, bh])).trans ?_
  refine sqr (ex_it (t := true) (ρ1 := [.val (.tup os), .val (.int pre.length), .val (.int ((pre.length : Int) + ys.length + 1)), .no, .no]) (st1 := st) ?_ (by simp [exSs, exS, evE, evEs, evT, Pv.evI, evC, evTg, evTgs, evO, vv, up, one, retE, Option.bind_eq_bind, Option.bind_some, Option.map_some, Option.pure_def, List.getElem?_cons_zero, List.getElem?_cons_succ, List.set_cons_zero, List.set_cons_succ, asgN, asgSub, setIx, opD, addD, mulD, biD, cmpD, ixD, ixL, lenD, slotSeq, slotLst, truD, List.length_cons, List.length_nil, if_true, if_false, Bool.false_eq_true, reduceIte, mthHR, mthR, mtD, slD, seqOf, wipeE, Tgs.len, Pv.unpack, Option.map_none, Option.bind_none, augD, revD, List.map_cons, List.map_nil, isiD, ty, List.any_cons, List.any_nil]))
  have e1 : ((pre.length : Int) + ys.length + 1) - 1 = (pre.length : Int) + ys.length := by omega
  have e2 : (1 : Int) < (pre.length : Int) + ys.length + 1 - pre.length := by omega
  simp [exSs, exS, evE, evEs, evT, Pv.evI, evC, evTg, evTgs, evO, vv, up, one, retE, Option.bind_eq_bind, Option.bind_some, Option.map_some, Option.pure_def, List.getElem?_cons_zero, List.getElem?_cons_succ, List.set_cons_zero, List.set_cons_succ, asgN, asgSub, setIx, opD, addD, mulD, biD, cmpD, ixD, ixL, lenD, slotSeq, slotLst, truD, List.length_cons, List.length_nil, if_true, if_false, Bool.false_eq_true, reduceIte, mthHR, mthR, mtD, slD, seqOf, wipeE, Tgs.len, Pv.unpack, Option.map_none, Option.bind_none, augD, revD, List.map_cons, List.map_nil, isiD, ty, List.any_cons, List.any_nil, e1, e2, hat, sh, eqv_int]
theorem read_non (k : Nat) (st : Sto) (os : List D) (at_ : Int) (h : Fc (k + 1) "behind_number" [.tup os, .int at_] st = some (false, .non, st)) : Fc (k + 2) "number_in" [.tup os, .int at_] st = some (false, .non, st) := by
  rw [q_number_in]
  refine run_rt (ρ1 := [.val (.tup os), .val (.int at_), .val .non, .no, .no]) (n := 3) rfl rfl ?_
  unfold b_number_in
  refine (sq (ρ1 := [.val (.tup os), .val (.int at_), .val .non, .no, .no]) (st1 := st) (by simp only [exSs, exS, evE, evEs, evT, Pv.evI, evC, evTg, evTgs, evO, vv, up, one, retE, Option.bind_eq_bind, Option.bind_some, Option.map_some, Option.pure_def, List.getElem?_cons_zero, List.getElem?_cons_succ, List.set_cons_zero, List.set_cons_succ, asgN, asgSub, setIx, opD, addD, mulD, biD, cmpD, ixD, ixL, lenD, slotSeq, slotLst, truD, List.length_cons, List.length_nil, if_true, if_false, Bool.false_eq_true, reduceIte, mthHR, mthR, mtD, slD, seqOf, wipeE, Tgs.len, Pv.unpack, Option.map_none, Option.bind_none, augD, revD, List.map_cons, List.map_nil, isiD, ty, List.any_cons, List.any_nil]; simp [exSs, exS, evE, evEs, evT, Pv.evI, evC, evTg, evTgs, evO, vv, up, one, retE, Option.bind_eq_bind, Option.bind_some, Option.map_some, Option.pure_def, List.getElem?_cons_zero, List.getElem?_cons_succ, List.set_cons_zero, List.set_cons_succ, asgN, asgSub, setIx, opD, addD, mulD, biD, cmpD, ixD, ixL, lenD, slotSeq, slotLst, truD, List.length_cons, List.length_nil, if_true, if_false, Bool.false_eq_true, reduceIte, mthHR, mthR, mtD, slD, seqOf, wipeE, Tgs.len, Pv.unpack, Option.map_none, Option.bind_none, augD, revD, List.map_cons, List.map_nil, isiD, ty, List.any_cons, List.any_nil, h])).trans ?_
  exact sqr (ex_it (t := true) (ρ1 := [.val (.tup os), .val (.int at_), .val .non, .no, .no]) (st1 := st) (by simp [exSs, exS, evE, evEs, evT, Pv.evI, evC, evTg, evTgs, evO, vv, up, one, retE, Option.bind_eq_bind, Option.bind_some, Option.map_some, Option.pure_def, List.getElem?_cons_zero, List.getElem?_cons_succ, List.set_cons_zero, List.set_cons_succ, asgN, asgSub, setIx, opD, addD, mulD, biD, cmpD, ixD, ixL, lenD, slotSeq, slotLst, truD, List.length_cons, List.length_nil, if_true, if_false, Bool.false_eq_true, reduceIte, mthHR, mthR, mtD, slD, seqOf, wipeE, Tgs.len, Pv.unpack, Option.map_none, Option.bind_none, augD, revD, List.map_cons, List.map_nil, isiD, ty, List.any_cons, List.any_nil]) (by simp [exSs, exS, evE, evEs, evT, Pv.evI, evC, evTg, evTgs, evO, vv, up, one, retE, Option.bind_eq_bind, Option.bind_some, Option.map_some, Option.pure_def, List.getElem?_cons_zero, List.getElem?_cons_succ, List.set_cons_zero, List.set_cons_succ, asgN, asgSub, setIx, opD, addD, mulD, biD, cmpD, ixD, ixL, lenD, slotSeq, slotLst, truD, List.length_cons, List.length_nil, if_true, if_false, Bool.false_eq_true, reduceIte, mthHR, mthR, mtD, slD, seqOf, wipeE, Tgs.len, Pv.unpack, Option.map_none, Option.bind_none, augD, revD, List.map_cons, List.map_nil, isiD, ty, List.any_cons, List.any_nil]))
end Lk69

namespace Lk69
open PySem PySem.Spec PyProof.Rows L2 Pv
theorem octet_g : gOf cs "OCTET" = some (.int 256) := rfl
theorem prime_g : gOf cs "PRIME" = some (.int 65521) := rfl
theorem two_g : gOf cs "SUM_OCTETS" = some (.int 2) := rfl
/-! ### weighed sums -/
/-- the sum of (k + place) times octet -/
def ws : Int → List Int → Int
  | _, [] => 0
  | k, x :: r => (k + 1) * x + ws (k + 1) r
def octs (xs : List Int) : Prop := ∀ x ∈ xs, 0 ≤ x ∧ x < 256
theorem octs.tail {x : Int} {r : List Int} (h : octs (x :: r)) : octs r := fun y hy => h y (List.mem_cons_of_mem _ hy)
theorem sum_loop {k : Nat} (a : Sl) (st : Sto) : ∀ (xs : List Int) (n : Nat) (acc : Int) (s2 s3 : Sl), octs xs → n + xs.length ≤ 1000000 →
    ∃ s2' s3', forL (evTg (T k) (.tup (.cons (.n 2) (.cons (.n 3) .nil)))) (exSs (T k) sum_of_octets_b0) (enumL n (lo xs)) [a, .val (.int acc), s2, s3] st = some (.nx, [a, .val (.int (acc + ws n xs)), s2', s3'], st)
  | [], n, acc, s2, s3, _, _ => ⟨s2, s3, by simp [forL, enumL, ws]⟩
  | x :: r, n, acc, s2, s3, hx, hl => by
    have h0 := hx x List.mem_cons_self
    simp only [List.length_cons] at hl
    obtain ⟨u2, u3, e⟩ := sum_loop (k := k) a st r (n + 1) (acc + ((n : Int) + 1) * x) (.val (.int (n : Int))) (.val (.int x)) hx.tail (by omega)
    refine ⟨u2, u3, ?_⟩
    have hb1 : Big ((n : Int) + 1) := big_small (by omega)
    have hb2 : Big x := big_small (by omega)
    have t1 : evTg (T k) (.tup (.cons (.n 2) (.cons (.n 3) .nil))) (.tup [.int (n : Int), .int x]) [a, .val (.int acc), s2, s3] st = some ([a, .val (.int acc), .val (.int (n : Int)), .val (.int x)], st) := by simp [exSs, exS, evE, evEs, evT, Pv.evI, evC, evTg, evTgs, evO, vv, up, one, retE, Option.bind_eq_bind, Option.bind_some, Option.map_some, Option.pure_def, List.getElem?_cons_zero, List.getElem?_cons_succ, List.set_cons_zero, List.set_cons_succ, asgN, asgSub, setIx, opD, addD, mulD, biD, cmpD, ixD, ixL, lenD, slotSeq, slotLst, truD, List.length_cons, List.length_nil, if_true, if_false, Bool.false_eq_true, reduceIte, mthHR, mthR, mtD, slD, seqOf, wipeE, Tgs.len, Pv.unpack, Option.map_none, Option.bind_none, augD, revD, List.map_cons, List.map_nil, isiD, ty, List.any_cons, List.any_nil, evTgs]
    have t2 : exSs (T k) sum_of_octets_b0 [a, .val (.int acc), .val (.int (n : Int)), .val (.int x)] st = some (.nx, [a, .val (.int (acc + ((n : Int) + 1) * x)), .val (.int (n : Int)), .val (.int x)], st) := by
      unfold sum_of_octets_b0
      exact sq1 (by simp [exSs, exS, evE, evEs, evT, Pv.evI, evC, evTg, evTgs, evO, vv, up, one, retE, Option.bind_eq_bind, Option.bind_some, Option.map_some, Option.pure_def, List.getElem?_cons_zero, List.getElem?_cons_succ, List.set_cons_zero, List.set_cons_succ, asgN, asgSub, setIx, opD, addD, mulD, biD, cmpD, ixD, ixL, lenD, slotSeq, slotLst, truD, List.length_cons, List.length_nil, if_true, if_false, Bool.false_eq_true, reduceIte, mthHR, mthR, mtD, slD, seqOf, wipeE, Tgs.len, Pv.unpack, Option.map_none, Option.bind_none, augD, revD, List.map_cons, List.map_nil, isiD, ty, List.any_cons, List.any_nil, hb1, hb2])
    show forL _ _ (.tup [.int (n : Int), .int x] :: enumL (n + 1) (lo r)) _ _ = _
    simp only [forL, t1, t2, Option.bind_eq_bind, Option.bind_some]
    rw [e]
    simp only [ws, Int.natCast_add, Int.natCast_one, Int.add_assoc]
theorem sum_ok (k : Nat) (st : Sto) (xs : List Int) (hx : octs xs) (hl : xs.length ≤ 900000) : Fc (k + 1) "sum_of_octets" [.tup (lo xs)] st = some (false, .int (ws 0 xs % 65521), st) := by
  obtain ⟨s2, s3, e⟩ := sum_loop (k := k) (.val (.tup (lo xs))) st xs 0 0 .no .no hx (by omega)
  simp only [Int.natCast_zero, Int.zero_add] at e
  generalize lo xs = os at e ⊢
  rw [q_sum_of_octets]
  refine run_rt (ρ1 := [.val (.tup os), .val (.int (ws 0 xs)), s2, s3]) (n := 3) rfl rfl ?_
  unfold b_sum_of_octets
  refine (sq (ρ1 := [.val (.tup os), .val (.int 0), .no, .no]) (st1 := st) (by simp [exSs, exS, evE, evEs, evT, Pv.evI, evC, evTg, evTgs, evO, vv, up, one, retE, Option.bind_eq_bind, Option.bind_some, Option.map_some, Option.pure_def, List.getElem?_cons_zero, List.getElem?_cons_succ, List.set_cons_zero, List.set_cons_succ, asgN, asgSub, setIx, opD, addD, mulD, biD, cmpD, ixD, ixL, lenD, slotSeq, slotLst, truD, List.length_cons, List.length_nil, if_true, if_false, Bool.false_eq_true, reduceIte, mthHR, mthR, mtD, slD, seqOf, wipeE, Tgs.len, Pv.unpack, Option.map_none, Option.bind_none, augD, revD, List.map_cons, List.map_nil, isiD, ty, List.any_cons, List.any_nil])).trans ?_
  refine (sq (ex_for (xs := enumL 0 os) (ρ1 := [.val (.tup os), .val (.int 0), .no, .no]) (st1 := st) (by simp [exSs, exS, evE, evEs, evT, Pv.evI, evC, evTg, evTgs, evO, vv, up, one, retE, Option.bind_eq_bind, Option.bind_some, Option.map_some, Option.pure_def, List.getElem?_cons_zero, List.getElem?_cons_succ, List.set_cons_zero, List.set_cons_succ, asgN, asgSub, setIx, opD, addD, mulD, biD, cmpD, ixD, ixL, lenD, slotSeq, slotLst, truD, List.length_cons, List.length_nil, if_true, if_false, Bool.false_eq_true, reduceIte, mthHR, mthR, mtD, slD, seqOf, wipeE, Tgs.len, Pv.unpack, Option.map_none, Option.bind_none, augD, revD, List.map_cons, List.map_nil, isiD, ty, List.any_cons, List.any_nil]) e)).trans ?_
  exact sqr (by simp [exSs, exS, evE, evEs, evT, Pv.evI, evC, evTg, evTgs, evO, vv, up, one, retE, Option.bind_eq_bind, Option.bind_some, Option.map_some, Option.pure_def, List.getElem?_cons_zero, List.getElem?_cons_succ, List.set_cons_zero, List.set_cons_succ, asgN, asgSub, setIx, opD, addD, mulD, biD, cmpD, ixD, ixL, lenD, slotSeq, slotLst, truD, List.length_cons, List.length_nil, if_true, if_false, Bool.false_eq_true, reduceIte, mthHR, mthR, mtD, slD, seqOf, wipeE, Tgs.len, Pv.unpack, Option.map_none, Option.bind_none, augD, revD, List.map_cons, List.map_nil, isiD, ty, List.any_cons, List.any_nil, prime_g])
theorem pair_ok (k : Nat) (st : Sto) (xs : List Int) (hx : octs xs) (hl : xs.length ≤ 900000) : Fc (k + 2) "sum_pair" [.tup (lo xs)] st = some (false, .tup [.int (ws 0 xs % 65521 % 256), .int (ws 0 xs % 65521 / 256)], st) := by
  have h := sum_ok k st xs hx hl
  generalize lo xs = os at h ⊢
  generalize ws 0 xs % 65521 = v at h ⊢
  rw [q_sum_pair]
  refine run_rt (ρ1 := [.val (.tup os), .val (.int v)]) (n := 1) rfl rfl ?_
  unfold b_sum_pair
  refine (sq (ρ1 := [.val (.tup os), .val (.int v)]) (st1 := st) (by simp [exSs, exS, evE, evEs, evT, Pv.evI, evC, evTg, evTgs, evO, vv, up, one, retE, Option.bind_eq_bind, Option.bind_some, Option.map_some, Option.pure_def, List.getElem?_cons_zero, List.getElem?_cons_succ, List.set_cons_zero, List.set_cons_succ, asgN, asgSub, setIx, opD, addD, mulD, biD, cmpD, ixD, ixL, lenD, slotSeq, slotLst, truD, List.length_cons, List.length_nil, if_true, if_false, Bool.false_eq_true, reduceIte, mthHR, mthR, mtD, slD, seqOf, wipeE, Tgs.len, Pv.unpack, Option.map_none, Option.bind_none, augD, revD, List.map_cons, List.map_nil, isiD, ty, List.any_cons, List.any_nil, h])).trans ?_
  exact sqr (by simp [exSs, exS, evE, evEs, evT, Pv.evI, evC, evTg, evTgs, evO, vv, up, one, retE, Option.bind_eq_bind, Option.bind_some, Option.map_some, Option.pure_def, List.getElem?_cons_zero, List.getElem?_cons_succ, List.set_cons_zero, List.set_cons_succ, asgN, asgSub, setIx, opD, addD, mulD, biD, cmpD, ixD, ixL, lenD, slotSeq, slotLst, truD, List.length_cons, List.length_nil, if_true, if_false, Bool.false_eq_true, reduceIte, mthHR, mthR, mtD, slD, seqOf, wipeE, Tgs.len, Pv.unpack, Option.map_none, Option.bind_none, augD, revD, List.map_cons, List.map_nil, isiD, ty, List.any_cons, List.any_nil, octet_g, show Nat.log2 256 < 9000 by decide, show (2 : Nat) ≤ lim by decide])
theorem ws_app : ∀ (xs ys : List Int) (k : Int), ws k (xs ++ ys) = ws k xs + ws (k + xs.length) ys
  | [], ys, k => by simp [ws]
  | x :: r, ys, k => by
    simp only [List.cons_append, ws, ws_app r ys (k + 1), List.length_cons, Int.natCast_add, Int.natCast_one]
    rw [show k + 1 + (r.length : Int) = k + ((r.length : Int) + 1) by omega]
    omega
theorem ws_shift : ∀ (xs : List Int) (k : Int), ws k xs = ws 0 xs + k * xs.sum
  | [], k => by simp [ws]
  | x :: r, k => by
    simp only [ws, List.sum_cons]
    rw [ws_shift r (k + 1), ws_shift r (0 + 1), Int.add_mul, Int.add_mul, Int.add_mul, Int.mul_add]
    omega
end Lk69

namespace Lk69
open PySem PySem.Spec PyProof.Rows L2 Pv
theorem anyF (k : Nat) {b : Int} {st : Sto} (h0 : 0 < b) (hb : b < 2 ^ 60) (hd : Deal st) : ∃ r st', Fc (k + 1) "_law_any" [.hd 1, .int b] st = some (false, .int r, st') ∧ 0 ≤ r ∧ r < b ∧ Deal st' := by
  obtain ⟨r, st', e, h⟩ := any_ok (T k) ["deal", "bound"] rfl hd h0 hb
  exact ⟨r, st', (congrFun (congrFun (q_law_any k) _) _).trans e, h⟩
theorem anyOk (k : Nat) : AnyOk (T (k + 1)) := fun b st h0 hb hd => anyF k h0 hb hd
theorem ofOk (k : Nat) {st : Sto} (hst : Deal st) {xs : List D} (h0 : xs ≠ []) (hl : xs.length < 1000000) : ∃ x st', Fc (k + 2) "_law_of" [.hd 1, .lst xs] st = some (false, x, st') ∧ x ∈ xs ∧ Deal st' := by
  rw [q_law_of]
  exact of_ok (anyOk k) ["deal", "some"] rfl hst h0 hl
theorem kindOk (k : Nat) : KindOk (T (k + 1)) := fun st d h ht => by
  exact (congrFun (congrFun (q_law_is_kind k) _) _).trans (kind_ok (T k) ["told", "due"] rfl st h ht)
theorem sameOk (k : Nat) : SameOk (T (k + 2)) := fun st d h hw => by
  exact (congrFun (congrFun (q_law_same (k + 1)) _) _).trans (same_ok (kindOk k) ["told", "due"] rfl st h hw)
theorem allOk (k : Nat) (st : Sto) {xs : List D} (h : Prs xs) : Fc (k + 3) "_law_all" [.lst xs] st = some (false, .bl true, st) := by
  rw [q_law_all]
  exact all_ok (sameOk k) ["pairs"] rfl st h
theorem dealOk (k : Nat) (ns : List Int) (hl : ns.length ≤ 63) : ∃ st, Fc (k + 1) "_law_deal" [.scr ns, .int 6969] [] = some (false, .hd 1, st) ∧ Deal st := by
  rw [q_law_deal]
  exact deal_ok ["script", "salt"] rfl ns hl (by decide) (by decide)
def Ok (d : D) : Prop := Pl d ∧ wt d < 99999
def Good (ps : List D) (n : Nat) : Prop := Prs ps ∧ ps.length ≤ n
theorem Good.app {ps : List D} {n : Nat} {d : D} (h : Good ps n) (hd : Ok d) : Good (ps ++ [pr d]) (n + 1) :=
  ⟨fun x hx => (List.mem_append.mp hx).elim (h.1 x) fun z => ⟨d, List.mem_singleton.mp z, hd.1, hd.2⟩, by have := h.2; simp; omega⟩
theorem Good.mono {ps : List D} {n m : Nat} (h : Good ps n) (hm : n ≤ m) : Good ps m := ⟨h.1, Nat.le_trans h.2 hm⟩
theorem Good.lt {ps : List D} {n : Nat} (h : Good ps n) (hn : n ≤ 100000) : ps.length < lim := by have := h.2; unfold lim; omega
theorem ok_non : Ok .non := ⟨.non, by simp [wt]⟩
theorem wtL_ints : ∀ xs : List D, (∀ x ∈ xs, ∃ i : Int, x = .int i) → wtL xs = xs.length
  | [], _ => rfl
  | x :: xs, h => by
    obtain ⟨i, rfl⟩ := h x List.mem_cons_self
    simp only [wtL, wt, List.length_cons, wtL_ints xs fun y hy => h y (List.mem_cons_of_mem _ hy)]
    omega
theorem ok_ints {xs : List D} (h : ∀ x ∈ xs, ∃ i : Int, x = .int i) (hl : xs.length ≤ 90000) : Ok (.tup xs) :=
  ⟨.tup fun x hx => by obtain ⟨i, rfl⟩ := h x hx; exact .int i, by simp only [wt, wtL_ints xs h]; omega⟩
theorem ok_two (a b : Int) : Ok (.tup [.int a, .int b]) := ok_ints (by simp) (by simp)
theorem ok_shn (ys : List Int) (y : Int) (hl : ys.length ≤ 80000) : Ok (.tup (shn ys y)) := ok_ints (fun x hx => by
  simp only [shn, hi, List.mem_append, List.mem_map, List.mem_singleton] at hx
  rcases hx with ⟨f, _, rfl⟩ | rfl <;> exact ⟨_, rfl⟩) (by simp [shn, hi]; omega)
theorem shn_len (ys : List Int) (y : Int) : (shn ys y).length = ys.length + 1 := by simp [shn, hi]

theorem nm_ok (k : Nat) (st : Sto) (n : Int) (h0 : 0 ≤ n) (h1 : n < 2097152) : ∃ ys y, n = valI (ys ++ [y]) ∧ figs (ys ++ [y]) ∧ (ys = [] ∨ 0 < y) ∧ ys.length ≤ 2 ∧ Fc (k + 1) "_law_number_octets" [.int n] st = some (false, .tup (shn ys y), st) := by
  have l128 : Nat.log2 128 < 9000 := by decide
  have l16 : Nat.log2 16384 < 9000 := by decide
  have m1 : (1 : Nat) ≤ lim := by decide
  have m2 : (2 : Nat) ≤ lim := by decide
  have m3 : (3 : Nat) ≤ lim := by decide
  by_cases h2 : n < 128
  · refine ⟨[], n, by simp [valI], fun f h => by rw [List.mem_singleton.mp h]; exact ⟨h0, h2⟩, .inl rfl, by simp, ?_⟩
    rw [q_law_number_octets]
    refine run_rt (ρ1 := [.val (.int n)]) (n := 0) rfl rfl ?_
    unfold b_law_number_octets
    exact sqr (ex_it (t := true) (ρ1 := [.val (.int n)]) (st1 := st) (by simp [exSs, exS, evE, evEs, evT, Pv.evI, evC, evTg, evTgs, evO, vv, up, one, retE, Option.bind_eq_bind, Option.bind_some, Option.map_some, Option.pure_def, List.getElem?_cons_zero, List.getElem?_cons_succ, List.set_cons_zero, List.set_cons_succ, asgN, asgSub, setIx, opD, addD, mulD, biD, cmpD, ixD, ixL, lenD, slotSeq, slotLst, truD, List.length_cons, List.length_nil, if_true, if_false, Bool.false_eq_true, reduceIte, mthHR, mthR, mtD, slD, seqOf, wipeE, Tgs.len, Pv.unpack, Option.map_none, Option.bind_none, augD, revD, List.map_cons, List.map_nil, isiD, ty, List.any_cons, List.any_nil, h2]) (by simp [exSs, exS, evE, evEs, evT, Pv.evI, evC, evTg, evTgs, evO, vv, up, one, retE, Option.bind_eq_bind, Option.bind_some, Option.map_some, Option.pure_def, List.getElem?_cons_zero, List.getElem?_cons_succ, List.set_cons_zero, List.set_cons_succ, asgN, asgSub, setIx, opD, addD, mulD, biD, cmpD, ixD, ixL, lenD, slotSeq, slotLst, truD, List.length_cons, List.length_nil, if_true, if_false, Bool.false_eq_true, reduceIte, mthHR, mthR, mtD, slD, seqOf, wipeE, Tgs.len, Pv.unpack, Option.map_none, Option.bind_none, augD, revD, List.map_cons, List.map_nil, isiD, ty, List.any_cons, List.any_nil, m1, shn, hi]))
  · by_cases h3 : n < 16384
    · refine ⟨[n % 128], n / 128, by simp only [List.cons_append, List.nil_append, valI]; omega, fun f h => ?_, .inr (by omega), by simp, ?_⟩
      · simp only [List.cons_append, List.nil_append, List.mem_cons, List.not_mem_nil, or_false] at h
        rcases h with rfl | rfl <;> omega
      · rw [q_law_number_octets]
        refine run_rt (ρ1 := [.val (.int n)]) (n := 0) rfl rfl ?_
        unfold b_law_number_octets
        refine (sq (ex_it (t := false) (ρ1 := [.val (.int n)]) (st1 := st) (by simp [exSs, exS, evE, evEs, evT, Pv.evI, evC, evTg, evTgs, evO, vv, up, one, retE, Option.bind_eq_bind, Option.bind_some, Option.map_some, Option.pure_def, List.getElem?_cons_zero, List.getElem?_cons_succ, List.set_cons_zero, List.set_cons_succ, asgN, asgSub, setIx, opD, addD, mulD, biD, cmpD, ixD, ixL, lenD, slotSeq, slotLst, truD, List.length_cons, List.length_nil, if_true, if_false, Bool.false_eq_true, reduceIte, mthHR, mthR, mtD, slD, seqOf, wipeE, Tgs.len, Pv.unpack, Option.map_none, Option.bind_none, augD, revD, List.map_cons, List.map_nil, isiD, ty, List.any_cons, List.any_nil]; omega) (by simp [exSs, exS, evE, evEs, evT, Pv.evI, evC, evTg, evTgs, evO, vv, up, one, retE, Option.bind_eq_bind, Option.bind_some, Option.map_some, Option.pure_def, List.getElem?_cons_zero, List.getElem?_cons_succ, List.set_cons_zero, List.set_cons_succ, asgN, asgSub, setIx, opD, addD, mulD, biD, cmpD, ixD, ixL, lenD, slotSeq, slotLst, truD, List.length_cons, List.length_nil, if_true, if_false, Bool.false_eq_true, reduceIte, mthHR, mthR, mtD, slD, seqOf, wipeE, Tgs.len, Pv.unpack, Option.map_none, Option.bind_none, augD, revD, List.map_cons, List.map_nil, isiD, ty, List.any_cons, List.any_nil]; exact ⟨rfl, rfl⟩))).trans ?_
        exact sqr (ex_it (t := true) (ρ1 := [.val (.int n)]) (st1 := st) (by simp [exSs, exS, evE, evEs, evT, Pv.evI, evC, evTg, evTgs, evO, vv, up, one, retE, Option.bind_eq_bind, Option.bind_some, Option.map_some, Option.pure_def, List.getElem?_cons_zero, List.getElem?_cons_succ, List.set_cons_zero, List.set_cons_succ, asgN, asgSub, setIx, opD, addD, mulD, biD, cmpD, ixD, ixL, lenD, slotSeq, slotLst, truD, List.length_cons, List.length_nil, if_true, if_false, Bool.false_eq_true, reduceIte, mthHR, mthR, mtD, slD, seqOf, wipeE, Tgs.len, Pv.unpack, Option.map_none, Option.bind_none, augD, revD, List.map_cons, List.map_nil, isiD, ty, List.any_cons, List.any_nil, h3]) (by simp [exSs, exS, evE, evEs, evT, Pv.evI, evC, evTg, evTgs, evO, vv, up, one, retE, Option.bind_eq_bind, Option.bind_some, Option.map_some, Option.pure_def, List.getElem?_cons_zero, List.getElem?_cons_succ, List.set_cons_zero, List.set_cons_succ, asgN, asgSub, setIx, opD, addD, mulD, biD, cmpD, ixD, ixL, lenD, slotSeq, slotLst, truD, List.length_cons, List.length_nil, if_true, if_false, Bool.false_eq_true, reduceIte, mthHR, mthR, mtD, slD, seqOf, wipeE, Tgs.len, Pv.unpack, Option.map_none, Option.bind_none, augD, revD, List.map_cons, List.map_nil, isiD, ty, List.any_cons, List.any_nil, m2, l128, shn, hi]))
    · refine ⟨[n % 128, n / 128 % 128], n / 16384, by simp only [List.cons_append, List.nil_append, valI]; omega, fun f h => ?_, .inr (by omega), by simp, ?_⟩
      · simp only [List.cons_append, List.nil_append, List.mem_cons, List.not_mem_nil, or_false] at h
        rcases h with rfl | rfl | rfl <;> omega
      · rw [q_law_number_octets]
        refine run_rt (ρ1 := [.val (.int n)]) (n := 0) rfl rfl ?_
        unfold b_law_number_octets
        refine (sq (ex_it (t := false) (ρ1 := [.val (.int n)]) (st1 := st) (by simp [exSs, exS, evE, evEs, evT, Pv.evI, evC, evTg, evTgs, evO, vv, up, one, retE, Option.bind_eq_bind, Option.bind_some, Option.map_some, Option.pure_def, List.getElem?_cons_zero, List.getElem?_cons_succ, List.set_cons_zero, List.set_cons_succ, asgN, asgSub, setIx, opD, addD, mulD, biD, cmpD, ixD, ixL, lenD, slotSeq, slotLst, truD, List.length_cons, List.length_nil, if_true, if_false, Bool.false_eq_true, reduceIte, mthHR, mthR, mtD, slD, seqOf, wipeE, Tgs.len, Pv.unpack, Option.map_none, Option.bind_none, augD, revD, List.map_cons, List.map_nil, isiD, ty, List.any_cons, List.any_nil]; omega) (by simp [exSs, exS, evE, evEs, evT, Pv.evI, evC, evTg, evTgs, evO, vv, up, one, retE, Option.bind_eq_bind, Option.bind_some, Option.map_some, Option.pure_def, List.getElem?_cons_zero, List.getElem?_cons_succ, List.set_cons_zero, List.set_cons_succ, asgN, asgSub, setIx, opD, addD, mulD, biD, cmpD, ixD, ixL, lenD, slotSeq, slotLst, truD, List.length_cons, List.length_nil, if_true, if_false, Bool.false_eq_true, reduceIte, mthHR, mthR, mtD, slD, seqOf, wipeE, Tgs.len, Pv.unpack, Option.map_none, Option.bind_none, augD, revD, List.map_cons, List.map_nil, isiD, ty, List.any_cons, List.any_nil]; exact ⟨rfl, rfl⟩))).trans ?_
        refine (sq (ex_it (t := false) (ρ1 := [.val (.int n)]) (st1 := st) (by simp [exSs, exS, evE, evEs, evT, Pv.evI, evC, evTg, evTgs, evO, vv, up, one, retE, Option.bind_eq_bind, Option.bind_some, Option.map_some, Option.pure_def, List.getElem?_cons_zero, List.getElem?_cons_succ, List.set_cons_zero, List.set_cons_succ, asgN, asgSub, setIx, opD, addD, mulD, biD, cmpD, ixD, ixL, lenD, slotSeq, slotLst, truD, List.length_cons, List.length_nil, if_true, if_false, Bool.false_eq_true, reduceIte, mthHR, mthR, mtD, slD, seqOf, wipeE, Tgs.len, Pv.unpack, Option.map_none, Option.bind_none, augD, revD, List.map_cons, List.map_nil, isiD, ty, List.any_cons, List.any_nil]; omega) (by simp [exSs, exS, evE, evEs, evT, Pv.evI, evC, evTg, evTgs, evO, vv, up, one, retE, Option.bind_eq_bind, Option.bind_some, Option.map_some, Option.pure_def, List.getElem?_cons_zero, List.getElem?_cons_succ, List.set_cons_zero, List.set_cons_succ, asgN, asgSub, setIx, opD, addD, mulD, biD, cmpD, ixD, ixL, lenD, slotSeq, slotLst, truD, List.length_cons, List.length_nil, if_true, if_false, Bool.false_eq_true, reduceIte, mthHR, mthR, mtD, slD, seqOf, wipeE, Tgs.len, Pv.unpack, Option.map_none, Option.bind_none, augD, revD, List.map_cons, List.map_nil, isiD, ty, List.any_cons, List.any_nil]; exact ⟨rfl, rfl⟩))).trans ?_
        exact sqr (by simp [exSs, exS, evE, evEs, evT, Pv.evI, evC, evTg, evTgs, evO, vv, up, one, retE, Option.bind_eq_bind, Option.bind_some, Option.map_some, Option.pure_def, List.getElem?_cons_zero, List.getElem?_cons_succ, List.set_cons_zero, List.set_cons_succ, asgN, asgSub, setIx, opD, addD, mulD, biD, cmpD, ixD, ixL, lenD, slotSeq, slotLst, truD, List.length_cons, List.length_nil, if_true, if_false, Bool.false_eq_true, reduceIte, mthHR, mthR, mtD, slD, seqOf, wipeE, Tgs.len, Pv.unpack, Option.map_none, Option.bind_none, augD, revD, List.map_cons, List.map_nil, isiD, ty, List.any_cons, List.any_nil, m3, l128, l16, shn, hi])
theorem frame_ok (k : Nat) (st : Sto) (xs : List Int) (hx : octs xs) (hl : xs.length ≤ 400000) (ys : List Int) (y : Int) (hn : (xs.length : Int) = valI (ys ++ [y])) (hf : figs (ys ++ [y])) (hy : ys = [] ∨ 0 < y) (hyl : ys.length ≤ 2) :
    Fc (k + 3) "frame" [.tup (lo xs)] st = some (false, .tup (shn ys y ++ lo xs ++ [.int (ws 0 xs % 65521 % 256), .int (ws 0 xs % 65521 / 256)]), st) := by
  have no := noct_ok k st ys y hf hy (by omega)
  have sp := pair_ok k st xs hx (by omega)
  have sl := shn_len ys y
  have ll : (lo xs).length = xs.length := by simp [lo]
  rw [← hn, ← ll] at no
  generalize shn ys y = os at no sl ⊢
  generalize lo xs = bs at no sp ll ⊢
  have l1 : os.length + bs.length ≤ lim := by unfold lim; omega
  have l2 : os.length + bs.length + 2 ≤ lim := by unfold lim; omega
  rw [q_frame]
  refine run_rt (ρ1 := [.val (.tup bs)]) (n := 0) rfl rfl ?_
  unfold b_frame
  exact sqr (by simp [exSs, exS, evE, evEs, evT, Pv.evI, evC, evTg, evTgs, evO, vv, up, one, retE, Option.bind_eq_bind, Option.bind_some, Option.map_some, Option.pure_def, List.getElem?_cons_zero, List.getElem?_cons_succ, List.set_cons_zero, List.set_cons_succ, asgN, asgSub, setIx, opD, addD, mulD, biD, cmpD, ixD, ixL, lenD, slotSeq, slotLst, truD, List.length_cons, List.length_nil, if_true, if_false, Bool.false_eq_true, reduceIte, mthHR, mthR, mtD, slD, seqOf, wipeE, Tgs.len, Pv.unpack, Option.map_none, Option.bind_none, augD, revD, List.map_cons, List.map_nil, isiD, ty, List.any_cons, List.any_nil, no, sp, l1, l2])
def wl : Int → List Int → List Int
  | _, [] => []
  | k, x :: r => (k + 1) * x :: wl (k + 1) r
theorem wl_sum : ∀ (xs : List Int) (k : Int), (wl k xs).sum = ws k xs
  | [], _ => rfl
  | x :: r, k => by simp only [wl, ws, List.sum_cons, wl_sum r (k + 1)]
theorem ints_lo : ∀ zs : List Int, intsOf (lo zs) = some zs
  | [] => rfl
  | z :: r => by
    show intsOf (.int z :: lo r) = _
    simp only [intsOf, ints_lo r, Option.map_some]
theorem weigh_lc {k : Nat} (a : Sl) (st : Sto) : ∀ (xs : List Int) (n : Nat) (acc : List D), octs xs → n + xs.length ≤ 1000000 → acc.length + xs.length ≤ 1000000 →
    lcL (evTg (T k) (.tup (.cons (.n 1) (.cons (.n 2) .nil)))) (evC (T k) .no) (fun ρ st => vv (evE (T k) law_weigh_e0 ρ st)) [1, 2] (enumL n (lo xs)) acc [a, .no, .no] st = some (acc ++ lo (wl n xs), [a, .no, .no], st)
  | [], n, acc, _, _, _ => by simp [lcL, enumL, wl]
  | x :: r, n, acc, hx, hl, ha => by
    have h0 := hx x List.mem_cons_self
    simp only [List.length_cons] at hl ha
    have ih := weigh_lc (k := k) a st r (n + 1) (acc ++ [.int (((n : Int) + 1) * x)]) hx.tail (by omega) (by simp; omega)
    have hb1 : Big ((n : Int) + 1) := big_small (by omega)
    have hb2 : Big x := big_small (by omega)
    have hlt : acc.length < lim := by unfold lim; omega
    have t1 : evTg (T k) (.tup (.cons (.n 1) (.cons (.n 2) .nil))) (.tup [.int (n : Int), .int x]) [a, .no, .no] st = some ([a, .val (.int (n : Int)), .val (.int x)], st) := by simp [exSs, exS, evE, evEs, evT, Pv.evI, evC, evTg, evTgs, evO, vv, up, one, retE, Option.bind_eq_bind, Option.bind_some, Option.map_some, Option.pure_def, List.getElem?_cons_zero, List.getElem?_cons_succ, List.set_cons_zero, List.set_cons_succ, asgN, asgSub, setIx, opD, addD, mulD, biD, cmpD, ixD, ixL, lenD, slotSeq, slotLst, truD, List.length_cons, List.length_nil, if_true, if_false, Bool.false_eq_true, reduceIte, mthHR, mthR, mtD, slD, seqOf, wipeE, Tgs.len, Pv.unpack, Option.map_none, Option.bind_none, augD, revD, List.map_cons, List.map_nil, isiD, ty, List.any_cons, List.any_nil, evTgs]
    have t2 : vv (evE (T k) law_weigh_e0 [a, .val (.int (n : Int)), .val (.int x)] st) = some (.int (((n : Int) + 1) * x), [a, .val (.int (n : Int)), .val (.int x)], st) := by
      simp [law_weigh_e0, exSs, exS, evE, evEs, evT, Pv.evI, evC, evTg, evTgs, evO, vv, up, one, retE, Option.bind_eq_bind, Option.bind_some, Option.map_some, Option.pure_def, List.getElem?_cons_zero, List.getElem?_cons_succ, List.set_cons_zero, List.set_cons_succ, asgN, asgSub, setIx, opD, addD, mulD, biD, cmpD, ixD, ixL, lenD, slotSeq, slotLst, truD, List.length_cons, List.length_nil, if_true, if_false, Bool.false_eq_true, reduceIte, mthHR, mthR, mtD, slD, seqOf, wipeE, Tgs.len, Pv.unpack, Option.map_none, Option.bind_none, augD, revD, List.map_cons, List.map_nil, isiD, ty, List.any_cons, List.any_nil, hb1, hb2]
    show lcL _ _ _ _ (.tup [.int (n : Int), .int x] :: enumL (n + 1) (lo r)) _ _ _ = _
    simp only [lcL, t1, t2, evC, Option.bind_eq_bind, Option.bind_some, if_true, hlt, wipeE, List.set_cons_zero, List.set_cons_succ]
    simp only [evC] at ih
    rw [ih]
    simp only [wl, List.map_cons, List.append_assoc, List.singleton_append, Int.natCast_add, Int.natCast_one]
theorem weigh_ok (k : Nat) (st : Sto) (xs : List Int) (hx : octs xs) (hl : xs.length ≤ 100000) : Fc (k + 1) "_law_weigh" [.tup (lo xs)] st = some (false, .int (ws 0 xs), st) := by
  have e := weigh_lc (k := k) (.val (.tup (lo xs))) st xs 0 [] hx (by omega) (by simp; omega)
  rw [List.nil_append, Int.natCast_zero] at e
  have lc : evE (T k) (.lc law_weigh_e0 (.tup (.cons (.n 1) (.cons (.n 2) .nil))) (.enum (.v 0)) .no [("at", 1), ("octet", 2)]) [.val (.tup (lo xs)), .no, .no] st = some (true, .lst (lo (wl 0 xs)), [.val (.tup (lo xs)), .no, .no], st) :=
    ev_lc (xs := enumL 0 (lo xs)) (ρ1 := [.val (.tup (lo xs)), .no, .no]) (st1 := st) (by simp [exSs, exS, evE, evEs, evT, Pv.evI, evC, evTg, evTgs, evO, vv, up, one, retE, Option.bind_eq_bind, Option.bind_some, Option.map_some, Option.pure_def, List.getElem?_cons_zero, List.getElem?_cons_succ, List.set_cons_zero, List.set_cons_succ, asgN, asgSub, setIx, opD, addD, mulD, biD, cmpD, ixD, ixL, lenD, slotSeq, slotLst, truD, List.length_cons, List.length_nil, if_true, if_false, Bool.false_eq_true, reduceIte, mthHR, mthR, mtD, slD, seqOf, wipeE, Tgs.len, Pv.unpack, Option.map_none, Option.bind_none, augD, revD, List.map_cons, List.map_nil, isiD, ty, List.any_cons, List.any_nil]) e
  have il := ints_lo (wl 0 xs)
  have su := wl_sum xs 0
  rw [q_law_weigh]
  refine run_rt (ρ1 := [.val (.tup (lo xs)), .no, .no]) (n := 2) rfl rfl ?_
  unfold b_law_weigh
  generalize E.lc law_weigh_e0 _ _ _ _ = LC at lc ⊢
  generalize lo (wl 0 xs) = zs at lc il
  exact sqr (by simp [exSs, exS, evE, evEs, evT, Pv.evI, evC, evTg, evTgs, evO, vv, up, one, retE, Option.bind_eq_bind, Option.bind_some, Option.map_some, Option.pure_def, List.getElem?_cons_zero, List.getElem?_cons_succ, List.set_cons_zero, List.set_cons_succ, asgN, asgSub, setIx, opD, addD, mulD, biD, cmpD, ixD, ixL, lenD, slotSeq, slotLst, truD, List.length_cons, List.length_nil, if_true, if_false, Bool.false_eq_true, reduceIte, mthHR, mthR, mtD, slD, seqOf, wipeE, Tgs.len, Pv.unpack, Option.map_none, Option.bind_none, augD, revD, List.map_cons, List.map_nil, isiD, ty, List.any_cons, List.any_nil, lc, il, su])
end Lk69

namespace Lk69
open PySem PySem.Spec PyProof.Rows L2 Pv
theorem eqvL_ints : ∀ a b : List Int, eqvL (lo a) (lo b) = decide (a = b)
  | [], [] => by simp [eqvL]
  | [], _ :: _ => by simp [eqvL]
  | _ :: _, [] => by simp [eqvL]
  | x :: a, y :: b => by
    show eqvL (.int x :: lo a) (.int y :: lo b) = _
    simp only [eqvL, eqv_int, eqvL_ints a b]
    by_cases h : x = y
    · subst h; simp
    · simp [h]
theorem eqv_tups (a b : List Int) : eqv (.tup (lo a)) (.tup (lo b)) = decide (a = b) := by simp only [eqv, eqvL_ints]
theorem sh_ints (a : List Int) : sh 60 (.tup (lo a)) = true := by
  simp only [sh, List.all_eq_true, lo, List.mem_map]
  rintro x ⟨i, _, rfl⟩
  simp only [sh]
theorem cut_lo (xs : List Int) (a b : Nat) : Pv.cutD (lo xs) (some (a : Int)) (some (b : Int)) = lo ((xs.drop a).take (b - a)) := by
  unfold Pv.cutD
  rw [HT.sIx_nat, HT.sIx_nat]
  have ll : (lo xs).length = xs.length := by simp [lo]
  rw [ll]
  by_cases ha : a ≤ xs.length
  · rw [Nat.min_eq_left ha]
    by_cases hb : b ≤ xs.length
    · rw [Nat.min_eq_left hb]; simp [lo, List.map_take, List.map_drop]
    · rw [Nat.min_eq_right (by omega), List.take_of_length_le (by rw [List.length_drop, ll]; omega), List.take_of_length_le (by rw [List.length_drop]; omega)]
      simp [lo, List.map_drop]
  · rw [Nat.min_eq_right (show xs.length ≤ a by omega), List.drop_of_length_le (by rw [ll]; exact Nat.le_refl _), List.drop_of_length_le (l := xs) (by omega)]
    simp [lo]
theorem fat_non (k : Nat) (st : Sto) (os : List D) (a : Int) (h : Fc k "number_in" [.tup os, .int a] st = some (false, .non, st)) : Fc (k + 1) "frame_at" [.tup os, .int a] st = some (false, .non, st) := by
  rw [q_frame_at]
  refine run_rt (ρ1 := [.val (.tup os), .val (.int a), .val .non, .no, .no]) (n := 3) rfl rfl ?_
  unfold b_frame_at
  refine (sq (ρ1 := [.val (.tup os), .val (.int a), .val .non, .no, .no]) (st1 := st) (by simp [exSs, exS, evE, evEs, evT, Pv.evI, evC, evTg, evTgs, evO, vv, up, one, retE, Option.bind_eq_bind, Option.bind_some, Option.map_some, Option.pure_def, List.getElem?_cons_zero, List.getElem?_cons_succ, List.set_cons_zero, List.set_cons_succ, asgN, asgSub, setIx, opD, addD, mulD, biD, cmpD, ixD, ixL, lenD, slotSeq, slotLst, truD, List.length_cons, List.length_nil, if_true, if_false, Bool.false_eq_true, reduceIte, mthHR, mthR, mtD, slD, seqOf, wipeE, Tgs.len, Pv.unpack, Option.map_none, Option.bind_none, augD, revD, List.map_cons, List.map_nil, isiD, ty, List.any_cons, List.any_nil, h])).trans ?_
  exact sqr (ex_it (t := true) (ρ1 := [.val (.tup os), .val (.int a), .val .non, .no, .no]) (st1 := st) (by simp [exSs, exS, evE, evEs, evT, Pv.evI, evC, evTg, evTgs, evO, vv, up, one, retE, Option.bind_eq_bind, Option.bind_some, Option.map_some, Option.pure_def, List.getElem?_cons_zero, List.getElem?_cons_succ, List.set_cons_zero, List.set_cons_succ, asgN, asgSub, setIx, opD, addD, mulD, biD, cmpD, ixD, ixL, lenD, slotSeq, slotLst, truD, List.length_cons, List.length_nil, if_true, if_false, Bool.false_eq_true, reduceIte, mthHR, mthR, mtD, slD, seqOf, wipeE, Tgs.len, Pv.unpack, Option.map_none, Option.bind_none, augD, revD, List.map_cons, List.map_nil, isiD, ty, List.any_cons, List.any_nil]) (by simp [exSs, exS, evE, evEs, evT, Pv.evI, evC, evTg, evTgs, evO, vv, up, one, retE, Option.bind_eq_bind, Option.bind_some, Option.map_some, Option.pure_def, List.getElem?_cons_zero, List.getElem?_cons_succ, List.set_cons_zero, List.set_cons_succ, asgN, asgSub, setIx, opD, addD, mulD, biD, cmpD, ixD, ixL, lenD, slotSeq, slotLst, truD, List.length_cons, List.length_nil, if_true, if_false, Bool.false_eq_true, reduceIte, mthHR, mthR, mtD, slD, seqOf, wipeE, Tgs.len, Pv.unpack, Option.map_none, Option.bind_none, augD, revD, List.map_cons, List.map_nil, isiD, ty, List.any_cons, List.any_nil]))
theorem fat_short (k : Nat) (st : Sto) (os : List D) (a v e : Int) (h : Fc k "number_in" [.tup os, .int a] st = some (false, .tup [.int v, .int e], st)) (hs : (os.length : Int) - e < v + 2) : Fc (k + 1) "frame_at" [.tup os, .int a] st = some (false, .non, st) := by
  rw [q_frame_at]
  refine run_rt (ρ1 := [.val (.tup os), .val (.int a), .val (.tup [.int v, .int e]), .no, .no]) (n := 3) rfl rfl ?_
  unfold b_frame_at
  refine (sq (ρ1 := [.val (.tup os), .val (.int a), .val (.tup [.int v, .int e]), .no, .no]) (st1 := st) (by simp [exSs, exS, evE, evEs, evT, Pv.evI, evC, evTg, evTgs, evO, vv, up, one, retE, Option.bind_eq_bind, Option.bind_some, Option.map_some, Option.pure_def, List.getElem?_cons_zero, List.getElem?_cons_succ, List.set_cons_zero, List.set_cons_succ, asgN, asgSub, setIx, opD, addD, mulD, biD, cmpD, ixD, ixL, lenD, slotSeq, slotLst, truD, List.length_cons, List.length_nil, if_true, if_false, Bool.false_eq_true, reduceIte, mthHR, mthR, mtD, slD, seqOf, wipeE, Tgs.len, Pv.unpack, Option.map_none, Option.bind_none, augD, revD, List.map_cons, List.map_nil, isiD, ty, List.any_cons, List.any_nil, h])).trans ?_
  exact sqr (ex_it (t := true) (ρ1 := [.val (.tup os), .val (.int a), .val (.tup [.int v, .int e]), .no, .no]) (st1 := st) (by simp [exSs, exS, evE, evEs, evT, Pv.evI, evC, evTg, evTgs, evO, vv, up, one, retE, Option.bind_eq_bind, Option.bind_some, Option.map_some, Option.pure_def, List.getElem?_cons_zero, List.getElem?_cons_succ, List.set_cons_zero, List.set_cons_succ, asgN, asgSub, setIx, opD, addD, mulD, biD, cmpD, ixD, ixL, lenD, slotSeq, slotLst, truD, List.length_cons, List.length_nil, if_true, if_false, Bool.false_eq_true, reduceIte, mthHR, mthR, mtD, slD, seqOf, wipeE, Tgs.len, Pv.unpack, Option.map_none, Option.bind_none, augD, revD, List.map_cons, List.map_nil, isiD, ty, List.any_cons, List.any_nil, at0, at1, two_g, hs]) (by simp [exSs, exS, evE, evEs, evT, Pv.evI, evC, evTg, evTgs, evO, vv, up, one, retE, Option.bind_eq_bind, Option.bind_some, Option.map_some, Option.pure_def, List.getElem?_cons_zero, List.getElem?_cons_succ, List.set_cons_zero, List.set_cons_succ, asgN, asgSub, setIx, opD, addD, mulD, biD, cmpD, ixD, ixL, lenD, slotSeq, slotLst, truD, List.length_cons, List.length_nil, if_true, if_false, Bool.false_eq_true, reduceIte, mthHR, mthR, mtD, slD, seqOf, wipeE, Tgs.len, Pv.unpack, Option.map_none, Option.bind_none, augD, revD, List.map_cons, List.map_nil, isiD, ty, List.any_cons, List.any_nil]))
theorem fat_long (k : Nat) (st : Sto) (xs : List Int) (a : Int) (v e : Nat) (h : Fc (k + 2) "number_in" [.tup (lo xs), .int a] st = some (false, .tup [.int v, .int e], st)) (hs : v + 2 + e ≤ xs.length) (hx : octs xs) (hl : xs.length ≤ 100000) :
    Fc (k + 3) "frame_at" [.tup (lo xs), .int a] st = some (false, (if (xs.drop (v + e)).take 2 = [ws 0 ((xs.drop e).take v) % 65521 % 256, ws 0 ((xs.drop e).take v) % 65521 / 256] then .tup [.tup (lo ((xs.drop e).take v)), .int ((v : Int) + e + 2)] else .non), st) := by
  have ob : octs ((xs.drop e).take v) := fun x hx' => hx x (List.mem_of_mem_drop (List.mem_of_mem_take hx'))
  have sp := pair_ok k st ((xs.drop e).take v) ob (by rw [List.length_take]; omega)
  have c1 : Pv.cutD (lo xs) (some (e : Int)) (some ((v : Int) + e)) = lo ((xs.drop e).take v) := by
    have h := cut_lo xs e (v + e)
    rw [Int.natCast_add, show v + e - e = v by omega] at h
    exact h
  have c2 : Pv.cutD (lo xs) (some ((v : Int) + e)) (some ((v : Int) + e + 2)) = lo ((xs.drop (v + e)).take 2) := by
    have h := cut_lo xs (v + e) (v + e + 2)
    rw [Int.natCast_add, Int.natCast_add, show v + e + 2 - (v + e) = 2 by omega, Int.natCast_add] at h
    exact h
  have ll : (lo xs).length = xs.length := by simp [lo]
  generalize ws 0 ((xs.drop e).take v) % 65521 = q at sp ⊢
  have ev := eqv_tups ((xs.drop (v + e)).take 2) [q % 256, q / 256]
  have s1 := sh_ints ((xs.drop (v + e)).take 2)
  have s2 := sh_ints [q % 256, q / 256]
  rw [show lo [q % 256, q / 256] = [D.int (q % 256), .int (q / 256)] from rfl] at ev s2
  generalize (xs.drop (v + e)).take 2 = tl at c2 ev s1 ⊢
  generalize (xs.drop e).take v = bd at c1 sp ⊢
  generalize lo bd = BD at c1 sp ⊢
  generalize lo tl = TL at c2 ev s1
  have hle : ¬ ((xs.length : Int) - e < (v : Int) + 2) := by omega
  generalize lo xs = os at h c1 c2 ll ⊢
  rw [← ll] at hle
  have m2 : (2 : Nat) ≤ lim := by decide
  rw [q_frame_at]
  by_cases hq : tl = [q % 256, q / 256]
  · rw [if_pos hq]
    rw [decide_eq_true hq] at ev
    refine run_rt (ρ1 := [.val (.tup os), .val (.int a), .val (.tup [.int v, .int e]), .val (.int ((v : Int) + e)), .val (.tup BD)]) (n := 3) rfl rfl ?_
    unfold b_frame_at
    refine (sq (ρ1 := [.val (.tup os), .val (.int a), .val (.tup [.int v, .int e]), .no, .no]) (st1 := st) (by simp [exSs, exS, evE, evEs, evT, Pv.evI, evC, evTg, evTgs, evO, vv, up, one, retE, Option.bind_eq_bind, Option.bind_some, Option.map_some, Option.pure_def, List.getElem?_cons_zero, List.getElem?_cons_succ, List.set_cons_zero, List.set_cons_succ, asgN, asgSub, setIx, opD, addD, mulD, biD, cmpD, ixD, ixL, lenD, slotSeq, slotLst, truD, List.length_cons, List.length_nil, if_true, if_false, Bool.false_eq_true, reduceIte, mthHR, mthR, mtD, slD, seqOf, wipeE, Tgs.len, Pv.unpack, Option.map_none, Option.bind_none, augD, revD, List.map_cons, List.map_nil, isiD, ty, List.any_cons, List.any_nil, h])).trans ?_
    refine (sq (ex_it (t := false) (ρ1 := [.val (.tup os), .val (.int a), .val (.tup [.int v, .int e]), .no, .no]) (st1 := st) (by simp [exSs, exS, evE, evEs, evT, Pv.evI, evC, evTg, evTgs, evO, vv, up, one, retE, Option.bind_eq_bind, Option.bind_some, Option.map_some, Option.pure_def, List.getElem?_cons_zero, List.getElem?_cons_succ, List.set_cons_zero, List.set_cons_succ, asgN, asgSub, setIx, opD, addD, mulD, biD, cmpD, ixD, ixL, lenD, slotSeq, slotLst, truD, List.length_cons, List.length_nil, if_true, if_false, Bool.false_eq_true, reduceIte, mthHR, mthR, mtD, slD, seqOf, wipeE, Tgs.len, Pv.unpack, Option.map_none, Option.bind_none, augD, revD, List.map_cons, List.map_nil, isiD, ty, List.any_cons, List.any_nil, at0, at1, two_g]; omega) (by simp [exSs, exS, evE, evEs, evT, Pv.evI, evC, evTg, evTgs, evO, vv, up, one, retE, Option.bind_eq_bind, Option.bind_some, Option.map_some, Option.pure_def, List.getElem?_cons_zero, List.getElem?_cons_succ, List.set_cons_zero, List.set_cons_succ, asgN, asgSub, setIx, opD, addD, mulD, biD, cmpD, ixD, ixL, lenD, slotSeq, slotLst, truD, List.length_cons, List.length_nil, if_true, if_false, Bool.false_eq_true, reduceIte, mthHR, mthR, mtD, slD, seqOf, wipeE, Tgs.len, Pv.unpack, Option.map_none, Option.bind_none, augD, revD, List.map_cons, List.map_nil, isiD, ty, List.any_cons, List.any_nil]; exact ⟨rfl, rfl⟩))).trans ?_
    refine (sq (ρ1 := [.val (.tup os), .val (.int a), .val (.tup [.int v, .int e]), .val (.int ((v : Int) + e)), .no]) (st1 := st) (by simp [exSs, exS, evE, evEs, evT, Pv.evI, evC, evTg, evTgs, evO, vv, up, one, retE, Option.bind_eq_bind, Option.bind_some, Option.map_some, Option.pure_def, List.getElem?_cons_zero, List.getElem?_cons_succ, List.set_cons_zero, List.set_cons_succ, asgN, asgSub, setIx, opD, addD, mulD, biD, cmpD, ixD, ixL, lenD, slotSeq, slotLst, truD, List.length_cons, List.length_nil, if_true, if_false, Bool.false_eq_true, reduceIte, mthHR, mthR, mtD, slD, seqOf, wipeE, Tgs.len, Pv.unpack, Option.map_none, Option.bind_none, augD, revD, List.map_cons, List.map_nil, isiD, ty, List.any_cons, List.any_nil, at0, at1])).trans ?_
    refine (sq (ρ1 := [.val (.tup os), .val (.int a), .val (.tup [.int v, .int e]), .val (.int ((v : Int) + e)), .val (.tup BD)]) (st1 := st) (by simp [exSs, exS, evE, evEs, evT, Pv.evI, evC, evTg, evTgs, evO, vv, up, one, retE, Option.bind_eq_bind, Option.bind_some, Option.map_some, Option.pure_def, List.getElem?_cons_zero, List.getElem?_cons_succ, List.set_cons_zero, List.set_cons_succ, asgN, asgSub, setIx, opD, addD, mulD, biD, cmpD, ixD, ixL, lenD, slotSeq, slotLst, truD, List.length_cons, List.length_nil, if_true, if_false, Bool.false_eq_true, reduceIte, mthHR, mthR, mtD, slD, seqOf, wipeE, Tgs.len, Pv.unpack, Option.map_none, Option.bind_none, augD, revD, List.map_cons, List.map_nil, isiD, ty, List.any_cons, List.any_nil, at1, c1])).trans ?_
    refine (sq (ex_it (t := false) (ρ1 := [.val (.tup os), .val (.int a), .val (.tup [.int v, .int e]), .val (.int ((v : Int) + e)), .val (.tup BD)]) (st1 := st) (by simp [exSs, exS, evE, evEs, evT, Pv.evI, evC, evTg, evTgs, evO, vv, up, one, retE, Option.bind_eq_bind, Option.bind_some, Option.map_some, Option.pure_def, List.getElem?_cons_zero, List.getElem?_cons_succ, List.set_cons_zero, List.set_cons_succ, asgN, asgSub, setIx, opD, addD, mulD, biD, cmpD, ixD, ixL, lenD, slotSeq, slotLst, truD, List.length_cons, List.length_nil, if_true, if_false, Bool.false_eq_true, reduceIte, mthHR, mthR, mtD, slD, seqOf, wipeE, Tgs.len, Pv.unpack, Option.map_none, Option.bind_none, augD, revD, List.map_cons, List.map_nil, isiD, ty, List.any_cons, List.any_nil, two_g, c2, sp, s1, s2, ev]) (by simp [exSs, exS, evE, evEs, evT, Pv.evI, evC, evTg, evTgs, evO, vv, up, one, retE, Option.bind_eq_bind, Option.bind_some, Option.map_some, Option.pure_def, List.getElem?_cons_zero, List.getElem?_cons_succ, List.set_cons_zero, List.set_cons_succ, asgN, asgSub, setIx, opD, addD, mulD, biD, cmpD, ixD, ixL, lenD, slotSeq, slotLst, truD, List.length_cons, List.length_nil, if_true, if_false, Bool.false_eq_true, reduceIte, mthHR, mthR, mtD, slD, seqOf, wipeE, Tgs.len, Pv.unpack, Option.map_none, Option.bind_none, augD, revD, List.map_cons, List.map_nil, isiD, ty, List.any_cons, List.any_nil]; exact ⟨rfl, rfl⟩))).trans ?_
    exact sqr (by simp [exSs, exS, evE, evEs, evT, Pv.evI, evC, evTg, evTgs, evO, vv, up, one, retE, Option.bind_eq_bind, Option.bind_some, Option.map_some, Option.pure_def, List.getElem?_cons_zero, List.getElem?_cons_succ, List.set_cons_zero, List.set_cons_succ, asgN, asgSub, setIx, opD, addD, mulD, biD, cmpD, ixD, ixL, lenD, slotSeq, slotLst, truD, List.length_cons, List.length_nil, if_true, if_false, Bool.false_eq_true, reduceIte, mthHR, mthR, mtD, slD, seqOf, wipeE, Tgs.len, Pv.unpack, Option.map_none, Option.bind_none, augD, revD, List.map_cons, List.map_nil, isiD, ty, List.any_cons, List.any_nil, two_g, m2])
  · rw [if_neg hq]
    rw [decide_eq_false hq] at ev
    refine run_rt (ρ1 := [.val (.tup os), .val (.int a), .val (.tup [.int v, .int e]), .val (.int ((v : Int) + e)), .val (.tup BD)]) (n := 3) rfl rfl ?_
    unfold b_frame_at
    refine (sq (ρ1 := [.val (.tup os), .val (.int a), .val (.tup [.int v, .int e]), .no, .no]) (st1 := st) (by simp [exSs, exS, evE, evEs, evT, Pv.evI, evC, evTg, evTgs, evO, vv, up, one, retE, Option.bind_eq_bind, Option.bind_some, Option.map_some, Option.pure_def, List.getElem?_cons_zero, List.getElem?_cons_succ, List.set_cons_zero, List.set_cons_succ, asgN, asgSub, setIx, opD, addD, mulD, biD, cmpD, ixD, ixL, lenD, slotSeq, slotLst, truD, List.length_cons, List.length_nil, if_true, if_false, Bool.false_eq_true, reduceIte, mthHR, mthR, mtD, slD, seqOf, wipeE, Tgs.len, Pv.unpack, Option.map_none, Option.bind_none, augD, revD, List.map_cons, List.map_nil, isiD, ty, List.any_cons, List.any_nil, h])).trans ?_
    refine (sq (ex_it (t := false) (ρ1 := [.val (.tup os), .val (.int a), .val (.tup [.int v, .int e]), .no, .no]) (st1 := st) (by simp [exSs, exS, evE, evEs, evT, Pv.evI, evC, evTg, evTgs, evO, vv, up, one, retE, Option.bind_eq_bind, Option.bind_some, Option.map_some, Option.pure_def, List.getElem?_cons_zero, List.getElem?_cons_succ, List.set_cons_zero, List.set_cons_succ, asgN, asgSub, setIx, opD, addD, mulD, biD, cmpD, ixD, ixL, lenD, slotSeq, slotLst, truD, List.length_cons, List.length_nil, if_true, if_false, Bool.false_eq_true, reduceIte, mthHR, mthR, mtD, slD, seqOf, wipeE, Tgs.len, Pv.unpack, Option.map_none, Option.bind_none, augD, revD, List.map_cons, List.map_nil, isiD, ty, List.any_cons, List.any_nil, at0, at1, two_g]; omega) (by simp [exSs, exS, evE, evEs, evT, Pv.evI, evC, evTg, evTgs, evO, vv, up, one, retE, Option.bind_eq_bind, Option.bind_some, Option.map_some, Option.pure_def, List.getElem?_cons_zero, List.getElem?_cons_succ, List.set_cons_zero, List.set_cons_succ, asgN, asgSub, setIx, opD, addD, mulD, biD, cmpD, ixD, ixL, lenD, slotSeq, slotLst, truD, List.length_cons, List.length_nil, if_true, if_false, Bool.false_eq_true, reduceIte, mthHR, mthR, mtD, slD, seqOf, wipeE, Tgs.len, Pv.unpack, Option.map_none, Option.bind_none, augD, revD, List.map_cons, List.map_nil, isiD, ty, List.any_cons, List.any_nil]; exact ⟨rfl, rfl⟩))).trans ?_
    refine (sq (ρ1 := [.val (.tup os), .val (.int a), .val (.tup [.int v, .int e]), .val (.int ((v : Int) + e)), .no]) (st1 := st) (by simp [exSs, exS, evE, evEs, evT, Pv.evI, evC, evTg, evTgs, evO, vv, up, one, retE, Option.bind_eq_bind, Option.bind_some, Option.map_some, Option.pure_def, List.getElem?_cons_zero, List.getElem?_cons_succ, List.set_cons_zero, List.set_cons_succ, asgN, asgSub, setIx, opD, addD, mulD, biD, cmpD, ixD, ixL, lenD, slotSeq, slotLst, truD, List.length_cons, List.length_nil, if_true, if_false, Bool.false_eq_true, reduceIte, mthHR, mthR, mtD, slD, seqOf, wipeE, Tgs.len, Pv.unpack, Option.map_none, Option.bind_none, augD, revD, List.map_cons, List.map_nil, isiD, ty, List.any_cons, List.any_nil, at0, at1])).trans ?_
    refine (sq (ρ1 := [.val (.tup os), .val (.int a), .val (.tup [.int v, .int e]), .val (.int ((v : Int) + e)), .val (.tup BD)]) (st1 := st) (by simp [exSs, exS, evE, evEs, evT, Pv.evI, evC, evTg, evTgs, evO, vv, up, one, retE, Option.bind_eq_bind, Option.bind_some, Option.map_some, Option.pure_def, List.getElem?_cons_zero, List.getElem?_cons_succ, List.set_cons_zero, List.set_cons_succ, asgN, asgSub, setIx, opD, addD, mulD, biD, cmpD, ixD, ixL, lenD, slotSeq, slotLst, truD, List.length_cons, List.length_nil, if_true, if_false, Bool.false_eq_true, reduceIte, mthHR, mthR, mtD, slD, seqOf, wipeE, Tgs.len, Pv.unpack, Option.map_none, Option.bind_none, augD, revD, List.map_cons, List.map_nil, isiD, ty, List.any_cons, List.any_nil, at1, c1])).trans ?_
    exact sqr (ex_it (t := true) (ρ1 := [.val (.tup os), .val (.int a), .val (.tup [.int v, .int e]), .val (.int ((v : Int) + e)), .val (.tup BD)]) (st1 := st) (by simp [exSs, exS, evE, evEs, evT, Pv.evI, evC, evTg, evTgs, evO, vv, up, one, retE, Option.bind_eq_bind, Option.bind_some, Option.map_some, Option.pure_def, List.getElem?_cons_zero, List.getElem?_cons_succ, List.set_cons_zero, List.set_cons_succ, asgN, asgSub, setIx, opD, addD, mulD, biD, cmpD, ixD, ixL, lenD, slotSeq, slotLst, truD, List.length_cons, List.length_nil, if_true, if_false, Bool.false_eq_true, reduceIte, mthHR, mthR, mtD, slD, seqOf, wipeE, Tgs.len, Pv.unpack, Option.map_none, Option.bind_none, augD, revD, List.map_cons, List.map_nil, isiD, ty, List.any_cons, List.any_nil, two_g, c2, sp, s1, s2, ev]) (by simp [exSs, exS, evE, evEs, evT, Pv.evI, evC, evTg, evTgs, evO, vv, up, one, retE, Option.bind_eq_bind, Option.bind_some, Option.map_some, Option.pure_def, List.getElem?_cons_zero, List.getElem?_cons_succ, List.set_cons_zero, List.set_cons_succ, asgN, asgSub, setIx, opD, addD, mulD, biD, cmpD, ixD, ixL, lenD, slotSeq, slotLst, truD, List.length_cons, List.length_nil, if_true, if_false, Bool.false_eq_true, reduceIte, mthHR, mthR, mtD, slD, seqOf, wipeE, Tgs.len, Pv.unpack, Option.map_none, Option.bind_none, augD, revD, List.map_cons, List.map_nil, isiD, ty, List.any_cons, List.any_nil]))
end Lk69

namespace Lk69
open PySem PySem.Spec PyProof.Rows L2 Pv
/-- a length's octets -/
def hdI (n : Int) : List Int := if n < 128 then [n] else if n < 16384 then [128 + n % 128, n / 128] else [128 + n % 128, 128 + n / 128 % 128, n / 16384]
def sumI (xs : List Int) : List Int := [ws 0 xs % 65521 % 256, ws 0 xs % 65521 / 256]
def frI (xs : List Int) : List Int := hdI xs.length ++ xs ++ sumI xs
theorem hd_rep (n : Int) (h0 : 0 ≤ n) (h1 : n < 2097152) : ∃ ys y, n = valI (ys ++ [y]) ∧ figs (ys ++ [y]) ∧ (ys = [] ∨ 0 < y) ∧ ys.length ≤ 2 ∧ lo (hdI n) = shn ys y ∧ (hdI n).length = ys.length + 1 := by
  unfold hdI
  by_cases h2 : n < 128
  · rw [if_pos h2]
    exact ⟨[], n, by simp [valI], fun f h => by rw [List.mem_singleton.mp h]; exact ⟨h0, h2⟩, .inl rfl, by simp, by simp [lo, shn, hi], by simp⟩
  · rw [if_neg h2]
    by_cases h3 : n < 16384
    · rw [if_pos h3]
      refine ⟨[n % 128], n / 128, by simp only [List.cons_append, List.nil_append, valI]; omega, fun f h => ?_, .inr (by omega), by simp, by simp [lo, shn, hi], by simp⟩
      simp only [List.cons_append, List.nil_append, List.mem_cons, List.not_mem_nil, or_false] at h
      rcases h with rfl | rfl <;> omega
    · rw [if_neg h3]
      refine ⟨[n % 128, n / 128 % 128], n / 16384, by simp only [List.cons_append, List.nil_append, valI]; omega, fun f h => ?_, .inr (by omega), by simp, by simp [lo, shn, hi], by simp⟩
      simp only [List.cons_append, List.nil_append, List.mem_cons, List.not_mem_nil, or_false] at h
      rcases h with rfl | rfl | rfl <;> omega
theorem lo_app (a b : List Int) : lo (a ++ b) = lo a ++ lo b := by simp [lo]
/-- a head at its place is read -/
theorem in_head (k : Nat) (st : Sto) (pre post : List Int) (n : Int) (h0 : 0 ≤ n) (h1 : n < 2097152) (hl : (pre ++ hdI n ++ post).length ≤ 100000) :
    Fc (k + 2) "number_in" [.tup (lo (pre ++ hdI n ++ post)), .int pre.length] st = some (false, .tup [.int n, .int ((pre.length : Int) + (hdI n).length)], st) := by
  obtain ⟨ys, y, e1, hf, hy, hyl, e2, e3⟩ := hd_rep n h0 h1
  have lp : (lo pre).length = pre.length := by simp [lo]
  have h := read_ok k st (lo pre) (lo post) ys y hf hy (by
    rw [← e2, ← lo_app, ← lo_app]
    simpa [lo] using hl) (by omega)
  rw [← e2, ← e1, ← lo_app, ← lo_app, lp] at h
  rw [h, e3]
  simp only [Int.natCast_add, Int.natCast_one, Int.add_assoc]
theorem fat_good (k : Nat) (st : Sto) (pre post xs : List Int) (hx : octs (pre ++ frI xs ++ post)) (hl : (pre ++ frI xs ++ post).length ≤ 100000) :
    Fc (k + 3) "frame_at" [.tup (lo (pre ++ frI xs ++ post)), .int pre.length] st = some (false, .tup [.tup (lo xs), .int ((pre.length : Int) + (frI xs).length)], st) := by
  have lfr : (frI xs).length = (hdI xs.length).length + xs.length + 2 := by simp [frI, sumI]; omega
  have e0 : pre ++ frI xs ++ post = pre ++ hdI xs.length ++ (xs ++ sumI xs ++ post) := by simp [frI]
  have hll := hl
  rw [List.length_append, List.length_append, lfr] at hll
  have h := in_head (k) st pre (xs ++ sumI xs ++ post) (xs.length : Int) (by omega) (by omega) (by rw [← e0]; exact hl)
  rw [← e0, ← Int.natCast_add] at h
  have h2 := fat_long k st (pre ++ frI xs ++ post) (pre.length : Int) xs.length (pre.length + (hdI xs.length).length) h (by rw [List.length_append, List.length_append, lfr]; omega) hx hl
  have d1 : ((pre ++ frI xs ++ post).drop (pre.length + (hdI (xs.length : Int)).length)) = xs ++ (sumI xs ++ post) := by
    rw [e0, ← List.length_append, List.drop_left, List.append_assoc]
  have d2 : ((pre ++ frI xs ++ post).drop (xs.length + (pre.length + (hdI (xs.length : Int)).length))) = sumI xs ++ post := by
    rw [Nat.add_comm, ← List.drop_drop, d1, List.drop_left]
  rw [d1, d2, List.take_left, show (sumI xs ++ post).take 2 = sumI xs from rfl, if_pos (show sumI xs = [ws 0 xs % 65521 % 256, ws 0 xs % 65521 / 256] from rfl)] at h2
  rw [h2, lfr]
  simp only [Int.natCast_add]
  rw [show (xs.length : Int) + ((pre.length : Int) + (hdI (xs.length : Int)).length) + 2 = (pre.length : Int) + ((hdI (xs.length : Int)).length + xs.length + (2 : Nat)) by omega]
end Lk69

namespace Lk69
open PySem PySem.Spec PyProof.Rows L2 Pv
def rowI (L : List (List Int)) : List Int := (L.map frI).flatten
abbrev bods (L : List (List Int)) : List D := L.map fun b => .tup (lo b)
theorem rowI_cons (b : List Int) (L : List (List Int)) : rowI (b :: L) = frI b ++ rowI L := by simp [rowI]
theorem fr_loop (k : Nat) (st : Sto) (os post : List Int) (hx : octs os) (hl : os.length ≤ 100000) : ∀ (L : List (List Int)) (n : Nat) (pre : List Int) (acc : List D) (td : D), L.length < n → acc.length + L.length ≤ 100000 → os = pre ++ rowI L ++ post →
    Fc (k + 3) "frame_at" [.tup (lo os), .int ((pre ++ rowI L).length : Int)] st = some (false, .non, st) → Fc (k + 3) "frame_at" [.tup (lo os), .int (pre.length : Int)] st = some (false, td, st) →
    whlL (evT (T (k + 3)) frames_c0) (exSs (T (k + 3)) frames_b1) n [.val (.tup (lo os)), .own acc, .val (.int (pre.length : Int)), .val td] st = some (.nx, [.val (.tup (lo os)), .own (acc ++ bods L), .val (.int ((pre ++ rowI L).length : Int)), .val .non], st)
  | [], n + 1, pre, acc, td, _, _, ho, hN, ht => by
    have e : pre ++ rowI [] = pre := by simp [rowI]
    rw [e] at hN ⊢
    rw [hN] at ht
    cases ht
    have c : evT (T (k + 3)) frames_c0 [.val (.tup (lo os)), .own acc, .val (.int (pre.length : Int)), .val .non] st = some (false, [.val (.tup (lo os)), .own acc, .val (.int (pre.length : Int)), .val .non], st) := by
      simp [frames_c0, exSs, exS, evE, evEs, evT, Pv.evI, evC, evTg, evTgs, evO, vv, up, one, retE, Option.bind_eq_bind, Option.bind_some, Option.map_some, Option.pure_def, List.getElem?_cons_zero, List.getElem?_cons_succ, List.set_cons_zero, List.set_cons_succ, asgN, asgSub, setIx, opD, addD, mulD, biD, cmpD, ixD, ixL, lenD, slotSeq, slotLst, truD, List.length_cons, List.length_nil, if_true, if_false, Bool.false_eq_true, reduceIte, mthHR, mthR, mtD, slD, seqOf, wipeE, Tgs.len, Pv.unpack, Option.map_none, Option.bind_none, augD, revD, List.map_cons, List.map_nil, isiD, ty, List.any_cons, List.any_nil]
    simp only [whlL, c, Option.bind_eq_bind, Option.bind_some, Bool.false_eq_true, if_false, bods, List.map_nil, List.append_nil]
  | b :: L, n + 1, pre, acc, td, hn, ha, ho, hN, ht => by
    simp only [List.length_cons] at hn ha
    have ho2 : os = pre ++ frI b ++ (rowI L ++ post) := by rw [ho, rowI_cons]; simp
    have fg := fat_good k st pre (rowI L ++ post) b (by rw [← ho2]; exact hx) (by rw [← ho2]; exact hl)
    rw [← ho2] at fg
    rw [fg] at ht
    cases ht
    have pl : ((pre ++ frI b).length : Int) = (pre.length : Int) + (frI b).length := by rw [List.length_append, Int.natCast_add]
    have hr : pre ++ rowI (b :: L) = (pre ++ frI b) ++ rowI L := by rw [rowI_cons, List.append_assoc]
    rw [hr] at hN ⊢
    have ex : ∃ td, Fc (k + 3) "frame_at" [.tup (lo os), .int ((pre ++ frI b).length : Int)] st = some (false, td, st) := by
      cases L with
      | nil =>
        rw [show (pre ++ frI b) ++ rowI [] = pre ++ frI b by simp [rowI]] at hN
        exact ⟨_, hN⟩
      | cons c L =>
        have ho3 : os = (pre ++ frI b) ++ frI c ++ (rowI L ++ post) := by rw [ho2, rowI_cons]; simp
        have fg2 := fat_good k st (pre ++ frI b) (rowI L ++ post) c (by rw [← ho3]; exact hx) (by rw [← ho3]; exact hl)
        rw [← ho3] at fg2
        exact ⟨_, fg2⟩
    obtain ⟨td2, ht2⟩ := ex
    have ih := fr_loop k st os post hx hl L n (pre ++ frI b) (acc ++ [.tup (lo b)]) td2 (by omega) (by simp; omega) (by rw [ho2]; simp) hN ht2
    have l1 : acc.length < lim := by unfold lim; omega
    rw [pl] at ih ht2
    rw [show acc ++ bods (b :: L) = acc ++ [.tup (lo b)] ++ bods L by simp [bods], ← ih]
    generalize lo os = OS at ht2 ⊢
    generalize lo b = BD
    generalize (frI b).length = fl at ht2 ⊢
    have c : evT (T (k + 3)) frames_c0 [.val (.tup OS), .own acc, .val (.int (pre.length : Int)), .val (.tup [.tup BD, .int ((pre.length : Int) + fl)])] st = some (true, [.val (.tup OS), .own acc, .val (.int (pre.length : Int)), .val (.tup [.tup BD, .int ((pre.length : Int) + fl)])], st) := by
      simp [frames_c0, exSs, exS, evE, evEs, evT, Pv.evI, evC, evTg, evTgs, evO, vv, up, one, retE, Option.bind_eq_bind, Option.bind_some, Option.map_some, Option.pure_def, List.getElem?_cons_zero, List.getElem?_cons_succ, List.set_cons_zero, List.set_cons_succ, asgN, asgSub, setIx, opD, addD, mulD, biD, cmpD, ixD, ixL, lenD, slotSeq, slotLst, truD, List.length_cons, List.length_nil, if_true, if_false, Bool.false_eq_true, reduceIte, mthHR, mthR, mtD, slD, seqOf, wipeE, Tgs.len, Pv.unpack, Option.map_none, Option.bind_none, augD, revD, List.map_cons, List.map_nil, isiD, ty, List.any_cons, List.any_nil]
    have bd : exSs (T (k + 3)) frames_b1 [.val (.tup OS), .own acc, .val (.int (pre.length : Int)), .val (.tup [.tup BD, .int ((pre.length : Int) + fl)])] st = some (.nx, [.val (.tup OS), .own (acc ++ [.tup BD]), .val (.int ((pre.length : Int) + fl)), .val td2], st) := by
      unfold frames_b1
      refine (sq (ρ1 := [.val (.tup OS), .own (acc ++ [.tup BD]), .val (.int (pre.length : Int)), .val (.tup [.tup BD, .int ((pre.length : Int) + fl)])]) (st1 := st) (by simp [exSs, exS, evE, evEs, evT, Pv.evI, evC, evTg, evTgs, evO, vv, up, one, retE, Option.bind_eq_bind, Option.bind_some, Option.map_some, Option.pure_def, List.getElem?_cons_zero, List.getElem?_cons_succ, List.set_cons_zero, List.set_cons_succ, asgN, asgSub, setIx, opD, addD, mulD, biD, cmpD, ixD, ixL, lenD, slotSeq, slotLst, truD, List.length_cons, List.length_nil, if_true, if_false, Bool.false_eq_true, reduceIte, mthHR, mthR, mtD, slD, seqOf, wipeE, Tgs.len, Pv.unpack, Option.map_none, Option.bind_none, augD, revD, List.map_cons, List.map_nil, isiD, ty, List.any_cons, List.any_nil, at0, l1])).trans ?_
      refine (sq (ρ1 := [.val (.tup OS), .own (acc ++ [.tup BD]), .val (.int ((pre.length : Int) + fl)), .val (.tup [.tup BD, .int ((pre.length : Int) + fl)])]) (st1 := st) (by simp [exSs, exS, evE, evEs, evT, Pv.evI, evC, evTg, evTgs, evO, vv, up, one, retE, Option.bind_eq_bind, Option.bind_some, Option.map_some, Option.pure_def, List.getElem?_cons_zero, List.getElem?_cons_succ, List.set_cons_zero, List.set_cons_succ, asgN, asgSub, setIx, opD, addD, mulD, biD, cmpD, ixD, ixL, lenD, slotSeq, slotLst, truD, List.length_cons, List.length_nil, if_true, if_false, Bool.false_eq_true, reduceIte, mthHR, mthR, mtD, slD, seqOf, wipeE, Tgs.len, Pv.unpack, Option.map_none, Option.bind_none, augD, revD, List.map_cons, List.map_nil, isiD, ty, List.any_cons, List.any_nil, at1])).trans ?_
      exact sq1 (by simp [exSs, exS, evE, evEs, evT, Pv.evI, evC, evTg, evTgs, evO, vv, up, one, retE, Option.bind_eq_bind, Option.bind_some, Option.map_some, Option.pure_def, List.getElem?_cons_zero, List.getElem?_cons_succ, List.set_cons_zero, List.set_cons_succ, asgN, asgSub, setIx, opD, addD, mulD, biD, cmpD, ixD, ixL, lenD, slotSeq, slotLst, truD, List.length_cons, List.length_nil, if_true, if_false, Bool.false_eq_true, reduceIte, mthHR, mthR, mtD, slD, seqOf, wipeE, Tgs.len, Pv.unpack, Option.map_none, Option.bind_none, augD, revD, List.map_cons, List.map_nil, isiD, ty, List.any_cons, List.any_nil, ht2])
    simp only [whlL, c, bd, Option.bind_eq_bind, Option.bind_some, if_true]
  | [], 0, _, _, _, h, _, _, _, _ => by omega
  | _ :: _, 0, _, _, _, h, _, _, _, _ => by omega
/-- a row of frames, then what is none -/
theorem frames_ok (k : Nat) (st : Sto) (L : List (List Int)) (post : List Int) (hx : octs (rowI L ++ post)) (hl : (rowI L ++ post).length ≤ 100000) (hL : L.length ≤ 90000) (hN : Fc (k + 3) "frame_at" [.tup (lo (rowI L ++ post)), .int ((rowI L).length : Int)] st = some (false, .non, st)) :
    Fc (k + 4) "frames" [.tup (lo (rowI L ++ post))] st = some (false, .tup [.tup (bods L), .int ((rowI L).length : Int)], st) := by
  have ex : ∃ td, Fc (k + 3) "frame_at" [.tup (lo (rowI L ++ post)), .int 0] st = some (false, td, st) := by
    cases L with
    | nil => exact ⟨_, by simpa [rowI] using hN⟩
    | cons c L =>
      have e : rowI (c :: L) ++ post = [] ++ frI c ++ (rowI L ++ post) := by rw [rowI_cons]; simp
      have fg := fat_good k st [] (rowI L ++ post) c (by rw [← e]; exact hx) (by rw [← e]; exact hl)
      rw [← e] at fg
      exact ⟨_, by simpa using fg⟩
  obtain ⟨td, ht⟩ := ex
  have lp := fr_loop k st (rowI L ++ post) post hx hl L fuel [] [] td (by unfold fuel; omega) (by simp; omega) (by simp) (by simpa using hN) (by simpa using ht)
  simp only [List.nil_append, List.length_nil, Int.natCast_zero] at lp
  generalize lo (rowI L ++ post) = OS at ht lp ⊢
  generalize bods L = B at lp ⊢
  generalize ((rowI L).length : Int) = q at lp ⊢
  rw [q_frames]
  refine run_rt (ρ1 := [.val (.tup OS), .val (.lst B), .val (.int q), .val .non]) (n := 3) rfl rfl ?_
  unfold b_frames
  refine (sq (ρ1 := [.val (.tup OS), .no, .no, .no]) (st1 := st) (by simp [exSs, exS, evE, evEs, evT, Pv.evI, evC, evTg, evTgs, evO, vv, up, one, retE, Option.bind_eq_bind, Option.bind_some, Option.map_some, Option.pure_def, List.getElem?_cons_zero, List.getElem?_cons_succ, List.set_cons_zero, List.set_cons_succ, asgN, asgSub, setIx, opD, addD, mulD, biD, cmpD, ixD, ixL, lenD, slotSeq, slotLst, truD, List.length_cons, List.length_nil, if_true, if_false, Bool.false_eq_true, reduceIte, mthHR, mthR, mtD, slD, seqOf, wipeE, Tgs.len, Pv.unpack, Option.map_none, Option.bind_none, augD, revD, List.map_cons, List.map_nil, isiD, ty, List.any_cons, List.any_nil])).trans ?_
  refine (sq (ρ1 := [.val (.tup OS), .own [], .val (.int 0), .no]) (st1 := st) (by simp [exSs, exS, evE, evEs, evT, Pv.evI, evC, evTg, evTgs, evO, vv, up, one, retE, Option.bind_eq_bind, Option.bind_some, Option.map_some, Option.pure_def, List.getElem?_cons_zero, List.getElem?_cons_succ, List.set_cons_zero, List.set_cons_succ, asgN, asgSub, setIx, opD, addD, mulD, biD, cmpD, ixD, ixL, lenD, slotSeq, slotLst, truD, List.length_cons, List.length_nil, if_true, if_false, Bool.false_eq_true, reduceIte, mthHR, mthR, mtD, slD, seqOf, wipeE, Tgs.len, Pv.unpack, Option.map_none, Option.bind_none, augD, revD, List.map_cons, List.map_nil, isiD, ty, List.any_cons, List.any_nil])).trans ?_
  refine (sq (ρ1 := [.val (.tup OS), .own [], .val (.int 0), .val td]) (st1 := st) (by simp [exSs, exS, evE, evEs, evT, Pv.evI, evC, evTg, evTgs, evO, vv, up, one, retE, Option.bind_eq_bind, Option.bind_some, Option.map_some, Option.pure_def, List.getElem?_cons_zero, List.getElem?_cons_succ, List.set_cons_zero, List.set_cons_succ, asgN, asgSub, setIx, opD, addD, mulD, biD, cmpD, ixD, ixL, lenD, slotSeq, slotLst, truD, List.length_cons, List.length_nil, if_true, if_false, Bool.false_eq_true, reduceIte, mthHR, mthR, mtD, slD, seqOf, wipeE, Tgs.len, Pv.unpack, Option.map_none, Option.bind_none, augD, revD, List.map_cons, List.map_nil, isiD, ty, List.any_cons, List.any_nil, ht])).trans ?_
  refine (sq (ex_whl lp)).trans ?_
  exact sqr (by simp [exSs, exS, evE, evEs, evT, Pv.evI, evC, evTg, evTgs, evO, vv, up, one, retE, Option.bind_eq_bind, Option.bind_some, Option.map_some, Option.pure_def, List.getElem?_cons_zero, List.getElem?_cons_succ, List.set_cons_zero, List.set_cons_succ, asgN, asgSub, setIx, opD, addD, mulD, biD, cmpD, ixD, ixL, lenD, slotSeq, slotLst, truD, List.length_cons, List.length_nil, if_true, if_false, Bool.false_eq_true, reduceIte, mthHR, mthR, mtD, slD, seqOf, wipeE, Tgs.len, Pv.unpack, Option.map_none, Option.bind_none, augD, revD, List.map_cons, List.map_nil, isiD, ty, List.any_cons, List.any_nil, show (2 : Nat) ≤ lim by decide])
end Lk69

namespace Lk69
open PySem PySem.Spec PyProof.Rows L2 Pv
theorem lo_get {xs : List Int} {i : Nat} {v : Int} (h : xs[i]? = some v) : (lo xs)[i]? = some (.int v) := by rw [List.getElem?_map, h]; rfl
/-- all octets from a place on say "more": no number there -/
theorem none_high (k : Nat) (st : Sto) (xs : List Int) (a : Nat) (hl : xs.length ≤ 100000) (ha : a ≤ 100000) (h : ∀ i, a ≤ i → i < xs.length → ∃ v, xs[i]? = some v ∧ 128 ≤ v) :
    Fc (k + 3) "frame_at" [.tup (lo xs), .int (a : Int)] st = some (false, .non, st) := by
  have ll : (lo xs).length = xs.length := by simp [lo]
  refine fat_non (k + 2) st _ _ (read_non k st _ _ (behind_none k st _ a (by omega) (by omega) fun i h1 h2 => ?_))
  obtain ⟨v, e, hv⟩ := h i h1 (by omega)
  exact ⟨v, lo_get e, hv⟩
theorem none_end (k : Nat) (st : Sto) (xs : List Int) (hl : xs.length ≤ 100000) : Fc (k + 3) "frame_at" [.tup (lo xs), .int (xs.length : Int)] st = some (false, .non, st) :=
  none_high k st xs xs.length hl hl fun i h1 h2 => by omega
theorem hd_high (n : Int) (h0 : 0 ≤ n) (i : Nat) (hi : i + 1 < (hdI n).length) : ∃ v, (hdI n)[i]? = some v ∧ 128 ≤ v := by
  unfold hdI at hi ⊢
  by_cases h2 : n < 128
  · rw [if_pos h2] at hi; simp at hi
  · rw [if_neg h2] at hi ⊢
    by_cases h3 : n < 16384
    · rw [if_pos h3] at hi ⊢
      simp at hi
      obtain rfl : i = 0 := by omega
      exact ⟨_, rfl, by omega⟩
    · rw [if_neg h3] at hi ⊢
      simp at hi
      rcases (show i = 0 ∨ i = 1 by omega) with rfl | rfl
      · exact ⟨_, rfl, by omega⟩
      · exact ⟨_, rfl, by omega⟩
/-- a frame that is cut short -/
theorem none_cut (k : Nat) (st : Sto) (pre b : List Int) (c : Nat) (hc : c < (frI b).length) (hl : (pre ++ (frI b).take c).length ≤ 100000) (hb : b.length ≤ 100000) :
    Fc (k + 3) "frame_at" [.tup (lo (pre ++ (frI b).take c)), .int (pre.length : Int)] st = some (false, .non, st) := by
  have lfr : (frI b).length = (hdI b.length).length + b.length + 2 := by simp [frI, sumI]; omega
  by_cases h : c < (hdI (b.length : Int)).length
  · refine none_high k st _ pre.length hl (by rw [List.length_append] at hl; omega) fun i h1 h2 => ?_
    rw [List.length_append, List.length_take] at h2
    obtain ⟨v, e, hv⟩ := hd_high (b.length : Int) (by omega) (i - pre.length) (by omega)
    refine ⟨v, ?_, hv⟩
    rw [List.getElem?_append_right h1, List.getElem?_take_of_lt (by omega)]
    unfold frI
    rw [List.append_assoc, List.getElem?_append_left (by omega)]
    exact e
  · have e0 : (frI b).take c = hdI (b.length : Int) ++ (b ++ sumI b).take (c - (hdI (b.length : Int)).length) := by
      unfold frI
      rw [List.append_assoc, List.take_append, List.take_of_length_le (by omega)]
    rw [e0, ← List.append_assoc] at hl ⊢
    have hh := in_head k st pre ((b ++ sumI b).take (c - (hdI (b.length : Int)).length)) (b.length : Int) (by omega) (by omega) hl
    refine fat_short (k + 2) st _ _ _ _ hh ?_
    have ll : ∀ zs : List Int, (lo zs).length = zs.length := fun zs => by simp [lo]
    have hs : (b ++ sumI b).length = b.length + 2 := by simp [sumI]
    rw [ll, List.length_append, List.length_append, List.length_take, hs]
    omega
/-- a head, so many octets, and two octets that are not their sum -/
theorem none_bent (k : Nat) (st : Sto) (pre xs ss post : List Int) (h2 : ss.length = 2) (hn : ss ≠ sumI xs) (hx : octs (pre ++ hdI xs.length ++ (xs ++ (ss ++ post)))) (hl : (pre ++ hdI xs.length ++ (xs ++ (ss ++ post))).length ≤ 100000) :
    Fc (k + 3) "frame_at" [.tup (lo (pre ++ hdI xs.length ++ (xs ++ (ss ++ post)))), .int (pre.length : Int)] st = some (false, .non, st) := by
  have hll := hl
  rw [List.length_append, List.length_append, List.length_append, List.length_append, h2] at hll
  have h := in_head k st pre (xs ++ (ss ++ post)) (xs.length : Int) (by omega) (by omega) hl
  rw [← Int.natCast_add] at h
  have r := fat_long k st _ (pre.length : Int) xs.length (pre.length + (hdI xs.length).length) h (by rw [List.length_append, List.length_append, List.length_append, List.length_append, h2]; omega) hx hl
  have d1 : ((pre ++ hdI (xs.length : Int) ++ (xs ++ (ss ++ post))).drop (pre.length + (hdI (xs.length : Int)).length)) = xs ++ (ss ++ post) := by
    rw [← List.length_append, List.drop_left]
  have d2 : ((pre ++ hdI (xs.length : Int) ++ (xs ++ (ss ++ post))).drop (xs.length + (pre.length + (hdI (xs.length : Int)).length))) = ss ++ post := by
    rw [Nat.add_comm, ← List.drop_drop, d1, List.drop_left]
  rw [d1, d2, List.take_left, ← h2, List.take_left, if_neg (show ¬ ss = [ws 0 xs % 65521 % 256, ws 0 xs % 65521 / 256] from hn)] at r
  exact r
end Lk69

namespace Lk69
open PySem PySem.Spec PyProof.Rows L2 Pv
theorem lno_ok (k : Nat) (st : Sto) (n : Int) (h1 : n < 2097152) : Fc (k + 1) "_law_number_octets" [.int n] st = some (false, .tup (lo (hdI n)), st) := by
  have l128 : Nat.log2 128 < 9000 := by decide
  have l16 : Nat.log2 16384 < 9000 := by decide
  have m1 : (1 : Nat) ≤ lim := by decide
  have m2 : (2 : Nat) ≤ lim := by decide
  have m3 : (3 : Nat) ≤ lim := by decide
  rw [q_law_number_octets]
  refine run_rt (ρ1 := [.val (.int n)]) (n := 0) rfl rfl ?_
  unfold b_law_number_octets hdI
  by_cases h2 : n < 128
  · rw [if_pos h2]
    exact sqr (ex_it (t := true) (ρ1 := [.val (.int n)]) (st1 := st) (by simp [exSs, exS, evE, evEs, evT, Pv.evI, evC, evTg, evTgs, evO, vv, up, one, retE, Option.bind_eq_bind, Option.bind_some, Option.map_some, Option.pure_def, List.getElem?_cons_zero, List.getElem?_cons_succ, List.set_cons_zero, List.set_cons_succ, asgN, asgSub, setIx, opD, addD, mulD, biD, cmpD, ixD, ixL, lenD, slotSeq, slotLst, truD, List.length_cons, List.length_nil, if_true, if_false, Bool.false_eq_true, reduceIte, mthHR, mthR, mtD, slD, seqOf, wipeE, Tgs.len, Pv.unpack, Option.map_none, Option.bind_none, augD, revD, List.map_cons, List.map_nil, isiD, ty, List.any_cons, List.any_nil, h2]) (by simp [exSs, exS, evE, evEs, evT, Pv.evI, evC, evTg, evTgs, evO, vv, up, one, retE, Option.bind_eq_bind, Option.bind_some, Option.map_some, Option.pure_def, List.getElem?_cons_zero, List.getElem?_cons_succ, List.set_cons_zero, List.set_cons_succ, asgN, asgSub, setIx, opD, addD, mulD, biD, cmpD, ixD, ixL, lenD, slotSeq, slotLst, truD, List.length_cons, List.length_nil, if_true, if_false, Bool.false_eq_true, reduceIte, mthHR, mthR, mtD, slD, seqOf, wipeE, Tgs.len, Pv.unpack, Option.map_none, Option.bind_none, augD, revD, List.map_cons, List.map_nil, isiD, ty, List.any_cons, List.any_nil, m1, lo]))
  · rw [if_neg h2]
    refine (sq (ex_it (t := false) (ρ1 := [.val (.int n)]) (st1 := st) (by simp [exSs, exS, evE, evEs, evT, Pv.evI, evC, evTg, evTgs, evO, vv, up, one, retE, Option.bind_eq_bind, Option.bind_some, Option.map_some, Option.pure_def, List.getElem?_cons_zero, List.getElem?_cons_succ, List.set_cons_zero, List.set_cons_succ, asgN, asgSub, setIx, opD, addD, mulD, biD, cmpD, ixD, ixL, lenD, slotSeq, slotLst, truD, List.length_cons, List.length_nil, if_true, if_false, Bool.false_eq_true, reduceIte, mthHR, mthR, mtD, slD, seqOf, wipeE, Tgs.len, Pv.unpack, Option.map_none, Option.bind_none, augD, revD, List.map_cons, List.map_nil, isiD, ty, List.any_cons, List.any_nil]; omega) (by simp [exSs, exS, evE, evEs, evT, Pv.evI, evC, evTg, evTgs, evO, vv, up, one, retE, Option.bind_eq_bind, Option.bind_some, Option.map_some, Option.pure_def, List.getElem?_cons_zero, List.getElem?_cons_succ, List.set_cons_zero, List.set_cons_succ, asgN, asgSub, setIx, opD, addD, mulD, biD, cmpD, ixD, ixL, lenD, slotSeq, slotLst, truD, List.length_cons, List.length_nil, if_true, if_false, Bool.false_eq_true, reduceIte, mthHR, mthR, mtD, slD, seqOf, wipeE, Tgs.len, Pv.unpack, Option.map_none, Option.bind_none, augD, revD, List.map_cons, List.map_nil, isiD, ty, List.any_cons, List.any_nil]; exact ⟨rfl, rfl⟩))).trans ?_
    by_cases h3 : n < 16384
    · rw [if_pos h3]
      exact sqr (ex_it (t := true) (ρ1 := [.val (.int n)]) (st1 := st) (by simp [exSs, exS, evE, evEs, evT, Pv.evI, evC, evTg, evTgs, evO, vv, up, one, retE, Option.bind_eq_bind, Option.bind_some, Option.map_some, Option.pure_def, List.getElem?_cons_zero, List.getElem?_cons_succ, List.set_cons_zero, List.set_cons_succ, asgN, asgSub, setIx, opD, addD, mulD, biD, cmpD, ixD, ixL, lenD, slotSeq, slotLst, truD, List.length_cons, List.length_nil, if_true, if_false, Bool.false_eq_true, reduceIte, mthHR, mthR, mtD, slD, seqOf, wipeE, Tgs.len, Pv.unpack, Option.map_none, Option.bind_none, augD, revD, List.map_cons, List.map_nil, isiD, ty, List.any_cons, List.any_nil, h3]) (by simp [exSs, exS, evE, evEs, evT, Pv.evI, evC, evTg, evTgs, evO, vv, up, one, retE, Option.bind_eq_bind, Option.bind_some, Option.map_some, Option.pure_def, List.getElem?_cons_zero, List.getElem?_cons_succ, List.set_cons_zero, List.set_cons_succ, asgN, asgSub, setIx, opD, addD, mulD, biD, cmpD, ixD, ixL, lenD, slotSeq, slotLst, truD, List.length_cons, List.length_nil, if_true, if_false, Bool.false_eq_true, reduceIte, mthHR, mthR, mtD, slD, seqOf, wipeE, Tgs.len, Pv.unpack, Option.map_none, Option.bind_none, augD, revD, List.map_cons, List.map_nil, isiD, ty, List.any_cons, List.any_nil, m2, l128, lo]))
    · rw [if_neg h3]
      refine (sq (ex_it (t := false) (ρ1 := [.val (.int n)]) (st1 := st) (by simp [exSs, exS, evE, evEs, evT, Pv.evI, evC, evTg, evTgs, evO, vv, up, one, retE, Option.bind_eq_bind, Option.bind_some, Option.map_some, Option.pure_def, List.getElem?_cons_zero, List.getElem?_cons_succ, List.set_cons_zero, List.set_cons_succ, asgN, asgSub, setIx, opD, addD, mulD, biD, cmpD, ixD, ixL, lenD, slotSeq, slotLst, truD, List.length_cons, List.length_nil, if_true, if_false, Bool.false_eq_true, reduceIte, mthHR, mthR, mtD, slD, seqOf, wipeE, Tgs.len, Pv.unpack, Option.map_none, Option.bind_none, augD, revD, List.map_cons, List.map_nil, isiD, ty, List.any_cons, List.any_nil]; omega) (by simp [exSs, exS, evE, evEs, evT, Pv.evI, evC, evTg, evTgs, evO, vv, up, one, retE, Option.bind_eq_bind, Option.bind_some, Option.map_some, Option.pure_def, List.getElem?_cons_zero, List.getElem?_cons_succ, List.set_cons_zero, List.set_cons_succ, asgN, asgSub, setIx, opD, addD, mulD, biD, cmpD, ixD, ixL, lenD, slotSeq, slotLst, truD, List.length_cons, List.length_nil, if_true, if_false, Bool.false_eq_true, reduceIte, mthHR, mthR, mtD, slD, seqOf, wipeE, Tgs.len, Pv.unpack, Option.map_none, Option.bind_none, augD, revD, List.map_cons, List.map_nil, isiD, ty, List.any_cons, List.any_nil]; exact ⟨rfl, rfl⟩))).trans ?_
      exact sqr (by simp [exSs, exS, evE, evEs, evT, Pv.evI, evC, evTg, evTgs, evO, vv, up, one, retE, Option.bind_eq_bind, Option.bind_some, Option.map_some, Option.pure_def, List.getElem?_cons_zero, List.getElem?_cons_succ, List.set_cons_zero, List.set_cons_succ, asgN, asgSub, setIx, opD, addD, mulD, biD, cmpD, ixD, ixL, lenD, slotSeq, slotLst, truD, List.length_cons, List.length_nil, if_true, if_false, Bool.false_eq_true, reduceIte, mthHR, mthR, mtD, slD, seqOf, wipeE, Tgs.len, Pv.unpack, Option.map_none, Option.bind_none, augD, revD, List.map_cons, List.map_nil, isiD, ty, List.any_cons, List.any_nil, m3, l128, l16, lo])
theorem fr_ok (k : Nat) (st : Sto) (xs : List Int) (hx : octs xs) (hl : xs.length ≤ 90000) : Fc (k + 3) "frame" [.tup (lo xs)] st = some (false, .tup (lo (frI xs)), st) := by
  obtain ⟨ys, y, e1, hf, hy, hyl, e2, e3⟩ := hd_rep (xs.length : Int) (by omega) (by omega)
  rw [frame_ok k st xs hx (by omega) ys y e1 hf hy hyl, ← e2]
  simp [frI, sumI, lo]
theorem lfr_ok (k : Nat) (st : Sto) (xs : List Int) (hx : octs xs) (hl : xs.length ≤ 90000) : Fc (k + 2) "_law_frame" [.tup (lo xs)] st = some (false, .tup (lo (frI xs)), st) := by
  have w := weigh_ok k st xs hx (by omega)
  have no := lno_ok k st (xs.length : Int) (by omega)
  have ll : (lo xs).length = xs.length := by simp [lo]
  have hl3 : (hdI (xs.length : Int)).length ≤ 3 := by
    obtain ⟨ys, y, e1, hf, hy, hyl, e2, e3⟩ := hd_rep (xs.length : Int) (by omega) (by omega)
    omega
  have lh : (lo (hdI (xs.length : Int))).length = (hdI (xs.length : Int)).length := by simp [lo]
  have e : lo (frI xs) = lo (hdI (xs.length : Int)) ++ lo xs ++ [.int (ws 0 xs % 65521 % 256), .int (ws 0 xs % 65521 / 256)] := by simp [frI, sumI, lo]
  rw [e]
  rw [← ll] at no ⊢
  generalize ws 0 xs = v at w ⊢
  have l1 : (lo (hdI ((lo xs).length : Int))).length + (lo xs).length ≤ lim := by rw [ll, lh]; unfold lim; omega
  have l2 : (lo (hdI ((lo xs).length : Int))).length + (lo xs).length + 2 ≤ lim := by rw [ll, lh]; unfold lim; omega
  generalize lo (hdI ((lo xs).length : Int)) = H at no l1 l2 ⊢
  generalize lo xs = X at w no l1 l2 ⊢
  rw [q_law_frame]
  refine run_rt (ρ1 := [.val (.tup X), .val (.int (v % 65521))]) (n := 1) rfl rfl ?_
  unfold b_law_frame
  refine (sq (ρ1 := [.val (.tup X), .val (.int (v % 65521))]) (st1 := st) (by simp [exSs, exS, evE, evEs, evT, Pv.evI, evC, evTg, evTgs, evO, vv, up, one, retE, Option.bind_eq_bind, Option.bind_some, Option.map_some, Option.pure_def, List.getElem?_cons_zero, List.getElem?_cons_succ, List.set_cons_zero, List.set_cons_succ, asgN, asgSub, setIx, opD, addD, mulD, biD, cmpD, ixD, ixL, lenD, slotSeq, slotLst, truD, List.length_cons, List.length_nil, if_true, if_false, Bool.false_eq_true, reduceIte, mthHR, mthR, mtD, slD, seqOf, wipeE, Tgs.len, Pv.unpack, Option.map_none, Option.bind_none, augD, revD, List.map_cons, List.map_nil, isiD, ty, List.any_cons, List.any_nil, w])).trans ?_
  exact sqr (by simp [exSs, exS, evE, evEs, evT, Pv.evI, evC, evTg, evTgs, evO, vv, up, one, retE, Option.bind_eq_bind, Option.bind_some, Option.map_some, Option.pure_def, List.getElem?_cons_zero, List.getElem?_cons_succ, List.set_cons_zero, List.set_cons_succ, asgN, asgSub, setIx, opD, addD, mulD, biD, cmpD, ixD, ixL, lenD, slotSeq, slotLst, truD, List.length_cons, List.length_nil, if_true, if_false, Bool.false_eq_true, reduceIte, mthHR, mthR, mtD, slD, seqOf, wipeE, Tgs.len, Pv.unpack, Option.map_none, Option.bind_none, augD, revD, List.map_cons, List.map_nil, isiD, ty, List.any_cons, List.any_nil, no, l1, l2, show Nat.log2 256 < 9000 by decide, show (2 : Nat) ≤ lim by decide])
theorem hd_octs {n : Int} (h0 : 0 ≤ n) (h1 : n < 2097152) : octs (hdI n) := fun x hx => by
  unfold hdI at hx
  split at hx
  · rw [List.mem_singleton.mp hx]; omega
  · split at hx
    · simp only [List.mem_cons, List.not_mem_nil, or_false] at hx
      rcases hx with rfl | rfl <;> omega
    · simp only [List.mem_cons, List.not_mem_nil, or_false] at hx
      rcases hx with rfl | rfl | rfl <;> omega
theorem sum_octs (xs : List Int) : octs (sumI xs) := fun x hx => by
  simp only [sumI, List.mem_cons, List.not_mem_nil, or_false] at hx
  rcases hx with rfl | rfl <;> omega
theorem octs_app {xs ys : List Int} (h : octs xs) (h' : octs ys) : octs (xs ++ ys) := fun x hx => (List.mem_append.mp hx).elim (h x) (h' x)
theorem fr_octs {xs : List Int} (h : octs xs) (hl : xs.length ≤ 90000) : octs (frI xs) := octs_app (octs_app (hd_octs (by omega) (by omega)) h) (sum_octs xs)
end Lk69

namespace Lk69
open PySem PySem.Spec PyProof.Rows L2 Pv
theorem bent_low (xs : List Int) (r b : Int) (r0 : 0 ≤ r) (r1 : r < 255) : [(ws 0 xs % 65521 % 256 + 1 + r) % 256, b] ≠ sumI xs := fun h => by
  have e := (List.cons.inj h).1
  omega
theorem bent_high (xs : List Int) (r a : Int) (r0 : 0 ≤ r) (r1 : r < 255) : [a, (ws 0 xs % 65521 / 256 + 1 + r) % 256] ≠ sumI xs := fun h => by
  have e := (List.cons.inj (List.cons.inj h).2).1
  omega
theorem bent_last (ys : List Int) (v r : Int) (v0 : 0 ≤ v) (v1 : v < 256) (r0 : 0 ≤ r) (r1 : r < 255) (hl : ys.length ≤ 255) : sumI (ys ++ [v]) ≠ sumI (ys ++ [(v + 1 + r) % 256]) := fun h => by
  have e1 := (List.cons.inj h).1
  have e2 := (List.cons.inj (List.cons.inj h).2).1
  have wa : ∀ u : Int, ws 0 (ys ++ [u]) = ws 0 ys + ((ys.length : Int) + 1) * u := fun u => by
    rw [ws_app]; simp [ws]
  rw [wa, wa] at e1 e2
  obtain ⟨d, hd⟩ : ∃ d, (v + 1 + r) % 256 = v + d := ⟨(v + 1 + r) % 256 - v, by omega⟩
  have d0 : d ≠ 0 := by omega
  have d1 : d.natAbs ≤ 255 := by omega
  rw [hd, Int.mul_add, ← Int.add_assoc] at e1 e2
  have m1 : (((ys.length : Int) + 1) * d).natAbs = (ys.length + 1) * d.natAbs := by rw [Int.natAbs_mul]; congr 1
  have m2 : (ys.length + 1) * d.natAbs ≤ 256 * 255 := Nat.mul_le_mul (by omega) d1
  have m3 : 1 * 1 ≤ (ys.length + 1) * d.natAbs := Nat.mul_le_mul (by omega) (by omega)
  generalize ((ys.length : Int) + 1) * d = D at e1 e2 m1
  generalize (ys.length + 1) * d.natAbs = M at m1 m2 m3
  generalize ws 0 ys + ((ys.length : Int) + 1) * v = W at e1 e2
  omega
end Lk69

namespace Lk69
open PySem PySem.Spec PyProof.Rows L2 Pv
theorem body_lc {k : Nat} (s1 s2 : Sl) (n : Int) (hn : n ≤ 1000) (st : Sto) (hst : Deal st) (it : I) (ρ0 : Pv.Env) (st0 : Sto) (hi0 : Pv.evI (T (k + 2)) it ρ0 st0 = some (rngL 0 n 1, [.val (.hd 1), s1, s2], st)) :
    ∃ (xs : List Int) (st' : Sto), evE (T (k + 2)) (.lc law_body_e0 (.n 2) it .no [("at", 2)]) ρ0 st0 = some (true, .lst (lo xs), [.val (.hd 1), s1, .no], st') ∧ octs xs ∧ xs.length = n.toNat ∧ Deal st' := by
  obtain ⟨acc, ρ', st', h, hj⟩ := lc_all (asg := evTg (T (k + 2)) (.n 2)) (c := evC (T (k + 2)) .no) (e := fun ρ st => vv (evE (T (k + 2)) law_body_e0 ρ st)) (vs := [2]) (fun ρ st => by simp only [evC]) (fun i acc ρ st' => (∃ xs : List Int, acc = lo xs ∧ octs xs ∧ xs.length = i) ∧ ρ = [.val (.hd 1), s1, .no] ∧ Deal st') (rngL 0 n 1) 0 [] [.val (.hd 1), s1, .no] st (by rw [rng_len]; unfold lim; simp; omega) (fun i d acc ρ st' hi hj => by
    obtain ⟨⟨fs, rfl, hf, hl⟩, rfl, hd⟩ := hj
    obtain ⟨r, st1, e1, r0, r1, hd1⟩ := anyF (k + 1) (b := 256) (by decide) (by decide) hd
    obtain ⟨x, st2, e2, hx, hd2⟩ := ofOk k hd1 (xs := [.int 0, .int 1, .int 2, .int 3, .int 127, .int 128, .int 255, .int r]) (by simp) (by simp)
    have hxi : ∃ v : Int, x = .int v ∧ 0 ≤ v ∧ v < 256 := by
      simp only [List.mem_cons, List.not_mem_nil, or_false] at hx
      rcases hx with rfl | rfl | rfl | rfl | rfl | rfl | rfl | rfl
      · exact ⟨_, rfl, by decide, by decide⟩
      · exact ⟨_, rfl, by decide, by decide⟩
      · exact ⟨_, rfl, by decide, by decide⟩
      · exact ⟨_, rfl, by decide, by decide⟩
      · exact ⟨_, rfl, by decide, by decide⟩
      · exact ⟨_, rfl, by decide, by decide⟩
      · exact ⟨_, rfl, by decide, by decide⟩
      · exact ⟨_, rfl, r0, r1⟩
    obtain ⟨v, rfl, v0, v1⟩ := hxi
    refine ⟨[.val (.hd 1), s1, .val d], st', by simp [exSs, exS, evE, evEs, evT, Pv.evI, evC, evTg, evTgs, evO, vv, up, one, retE, Option.bind_eq_bind, Option.bind_some, Option.map_some, Option.pure_def, List.getElem?_cons_zero, List.getElem?_cons_succ, List.set_cons_zero, List.set_cons_succ, asgN, asgSub, setIx, opD, addD, mulD, biD, cmpD, ixD, ixL, lenD, slotSeq, slotLst, truD, List.length_cons, List.length_nil, if_true, if_false, Bool.false_eq_true, reduceIte, mthHR, mthR, mtD, slD, seqOf, wipeE, Tgs.len, Pv.unpack, Option.map_none, Option.bind_none, augD, revD, List.map_cons, List.map_nil, isiD, ty, List.any_cons, List.any_nil], .int v, [.val (.hd 1), s1, .val d], st2, ?_, ⟨fs ++ [v], by simp [lo], fun f hf1 => (List.mem_append.mp hf1).elim (hf f) fun z => by rw [List.mem_singleton.mp z]; exact ⟨v0, v1⟩, by simp [hl]⟩, by simp [wipeE], hd2⟩
    simp [law_body_e0, exSs, exS, evE, evEs, evT, Pv.evI, evC, evTg, evTgs, evO, vv, up, one, retE, Option.bind_eq_bind, Option.bind_some, Option.map_some, Option.pure_def, List.getElem?_cons_zero, List.getElem?_cons_succ, List.set_cons_zero, List.set_cons_succ, asgN, asgSub, setIx, opD, addD, mulD, biD, cmpD, ixD, ixL, lenD, slotSeq, slotLst, truD, List.length_cons, List.length_nil, if_true, if_false, Bool.false_eq_true, reduceIte, mthHR, mthR, mtD, slD, seqOf, wipeE, Tgs.len, Pv.unpack, Option.map_none, Option.bind_none, augD, revD, List.map_cons, List.map_nil, isiD, ty, List.any_cons, List.any_nil, e1, e2, show (8 : Nat) ≤ lim by decide]) ⟨⟨[], rfl, (fun _ h => by cases h), rfl⟩, rfl, hst⟩
  obtain ⟨⟨fs, rfl, hf, hl⟩, rfl, hd⟩ := hj
  rw [rng_len] at hl
  exact ⟨fs, st', ev_lc hi0 h, hf, by omega, hd⟩
theorem body_ok (k : Nat) {st : Sto} (hst : Deal st) (most : Int) (h0 : 0 ≤ most) (h1 : most ≤ 300) : ∃ (xs : List Int) (st' : Sto), Fc (k + 3) "_law_body" [.hd 1, .int most] st = some (false, .tup (lo xs), st') ∧ octs xs ∧ (xs.length : Int) ≤ most ∧ Deal st' := by
  obtain ⟨r, st1, e1, r0, r1, hd1⟩ := anyF (k + 1) (b := most + 1) (by omega) (by omega) hst
  have rd := rngD1 (n := r) r0 (by omega)
  obtain ⟨xs, st2, lc, ox, hl, hd2⟩ := body_lc (k := k) (.val (.int most)) .no r (by omega) st1 hd1 (.rng (.cons (.call "_law_any" (.cons (.v 0) (.cons (.op .Add (.v 1) (.k (.int 1))) .nil))) .nil)) [.val (.hd 1), .val (.int most), .no] st (by simp [exSs, exS, evE, evEs, evT, Pv.evI, evC, evTg, evTgs, evO, vv, up, one, retE, Option.bind_eq_bind, Option.bind_some, Option.map_some, Option.pure_def, List.getElem?_cons_zero, List.getElem?_cons_succ, List.set_cons_zero, List.set_cons_succ, asgN, asgSub, setIx, opD, addD, mulD, biD, cmpD, ixD, ixL, lenD, slotSeq, slotLst, truD, List.length_cons, List.length_nil, if_true, if_false, Bool.false_eq_true, reduceIte, mthHR, mthR, mtD, slD, seqOf, wipeE, Tgs.len, Pv.unpack, Option.map_none, Option.bind_none, augD, revD, List.map_cons, List.map_nil, isiD, ty, List.any_cons, List.any_nil, e1, rd])
  refine ⟨xs, st2, ?_, ox, by omega, hd2⟩
  generalize lo xs = X at lc ⊢
  rw [q_law_body]
  refine run_rt (ρ1 := [.val (.hd 1), .val (.int most), .no]) (n := 1) rfl rfl ?_
  unfold b_law_body
  generalize E.lc law_body_e0 _ _ _ _ = LC at lc ⊢
  exact sqr (by simp [exSs, exS, evE, evEs, evT, Pv.evI, evC, evTg, evTgs, evO, vv, up, one, retE, Option.bind_eq_bind, Option.bind_some, Option.map_some, Option.pure_def, List.getElem?_cons_zero, List.getElem?_cons_succ, List.set_cons_zero, List.set_cons_succ, asgN, asgSub, setIx, opD, addD, mulD, biD, cmpD, ixD, ixL, lenD, slotSeq, slotLst, truD, List.length_cons, List.length_nil, if_true, if_false, Bool.false_eq_true, reduceIte, mthHR, mthR, mtD, slD, seqOf, wipeE, Tgs.len, Pv.unpack, Option.map_none, Option.bind_none, augD, revD, List.map_cons, List.map_nil, isiD, ty, List.any_cons, List.any_nil, lc])
end Lk69

namespace Lk69
open PySem PySem.Spec PyProof.Rows L2 Pv
theorem flat_loop {k : Nat} (a : Sl) (st : Sto) : ∀ (L : List (List Int)) (acc : List D) (s : Sl), acc.length + L.flatten.length ≤ 100000 →
    ∃ s', forL (evTg (T k) (.n 2)) (exSs (T k) law_flat_b0) (bods L) [a, .own acc, s] st = some (.nx, [a, .own (acc ++ lo L.flatten), s'], st)
  | [], acc, s, _ => ⟨s, by simp [forL, bods, lo]⟩
  | p :: r, acc, s, h => by
    rw [List.flatten_cons, List.length_append] at h
    have ll : (lo p).length = p.length := by simp [lo]
    obtain ⟨s', e⟩ := flat_loop (k := k) a st r (acc ++ lo p) (.val (.tup (lo p))) (by rw [List.length_append, ll]; omega)
    refine ⟨s', ?_⟩
    have e3 : lo (p :: r).flatten = lo p ++ lo r.flatten := by rw [List.flatten_cons, lo_app]
    have hlim : acc.length + (lo p).length ≤ lim := by rw [ll]; unfold lim; omega
    rw [e3, ← List.append_assoc, ← e]
    show forL _ _ (.tup (lo p) :: bods r) _ _ = _
    generalize lo p = q at hlim ⊢
    have t1 : evTg (T k) (.n 2) (.tup q) [a, .own acc, s] st = some ([a, .own acc, .val (.tup q)], st) := by simp [exSs, exS, evE, evEs, evT, Pv.evI, evC, evTg, evTgs, evO, vv, up, one, retE, Option.bind_eq_bind, Option.bind_some, Option.map_some, Option.pure_def, List.getElem?_cons_zero, List.getElem?_cons_succ, List.set_cons_zero, List.set_cons_succ, asgN, asgSub, setIx, opD, addD, mulD, biD, cmpD, ixD, ixL, lenD, slotSeq, slotLst, truD, List.length_cons, List.length_nil, if_true, if_false, Bool.false_eq_true, reduceIte, mthHR, mthR, mtD, slD, seqOf, wipeE, Tgs.len, Pv.unpack, Option.map_none, Option.bind_none, augD, revD, List.map_cons, List.map_nil, isiD, ty, List.any_cons, List.any_nil]
    have t2 : exSs (T k) law_flat_b0 [a, .own acc, .val (.tup q)] st = some (.nx, [a, .own (acc ++ q), .val (.tup q)], st) := by
      unfold law_flat_b0
      exact sq1 (by simp [exSs, exS, evE, evEs, evT, Pv.evI, evC, evTg, evTgs, evO, vv, up, one, retE, Option.bind_eq_bind, Option.bind_some, Option.map_some, Option.pure_def, List.getElem?_cons_zero, List.getElem?_cons_succ, List.set_cons_zero, List.set_cons_succ, asgN, asgSub, setIx, opD, addD, mulD, biD, cmpD, ixD, ixL, lenD, slotSeq, slotLst, truD, List.length_cons, List.length_nil, if_true, if_false, Bool.false_eq_true, reduceIte, mthHR, mthR, mtD, slD, seqOf, wipeE, Tgs.len, Pv.unpack, Option.map_none, Option.bind_none, augD, revD, List.map_cons, List.map_nil, isiD, ty, List.any_cons, List.any_nil, hlim])
    simp only [forL, t1, t2, Option.bind_eq_bind, Option.bind_some]
theorem flat_ok (k : Nat) (st : Sto) (L : List (List Int)) (hl : L.flatten.length ≤ 90000) : Fc (k + 1) "_law_flat" [.lst (bods L)] st = some (true, .lst (lo L.flatten), st) := by
  obtain ⟨s', e⟩ := flat_loop (k := k) (.val (.lst (bods L))) st L [] .no (by rw [List.length_nil]; omega)
  rw [List.nil_append] at e
  generalize bods L = xs at e ⊢
  generalize lo L.flatten = ys at e ⊢
  rw [q_law_flat]
  refine run_rt (ρ1 := [.val (.lst xs), .no, s']) (n := 2) rfl rfl ?_
  unfold b_law_flat
  refine (sq (ρ1 := [.val (.lst xs), .own [], .no]) (st1 := st) (by simp [exSs, exS, evE, evEs, evT, Pv.evI, evC, evTg, evTgs, evO, vv, up, one, retE, Option.bind_eq_bind, Option.bind_some, Option.map_some, Option.pure_def, List.getElem?_cons_zero, List.getElem?_cons_succ, List.set_cons_zero, List.set_cons_succ, asgN, asgSub, setIx, opD, addD, mulD, biD, cmpD, ixD, ixL, lenD, slotSeq, slotLst, truD, List.length_cons, List.length_nil, if_true, if_false, Bool.false_eq_true, reduceIte, mthHR, mthR, mtD, slD, seqOf, wipeE, Tgs.len, Pv.unpack, Option.map_none, Option.bind_none, augD, revD, List.map_cons, List.map_nil, isiD, ty, List.any_cons, List.any_nil])).trans ?_
  refine (sq (ex_for (xs := xs) (ρ1 := [.val (.lst xs), .own [], .no]) (st1 := st) (by simp [exSs, exS, evE, evEs, evT, Pv.evI, evC, evTg, evTgs, evO, vv, up, one, retE, Option.bind_eq_bind, Option.bind_some, Option.map_some, Option.pure_def, List.getElem?_cons_zero, List.getElem?_cons_succ, List.set_cons_zero, List.set_cons_succ, asgN, asgSub, setIx, opD, addD, mulD, biD, cmpD, ixD, ixL, lenD, slotSeq, slotLst, truD, List.length_cons, List.length_nil, if_true, if_false, Bool.false_eq_true, reduceIte, mthHR, mthR, mtD, slD, seqOf, wipeE, Tgs.len, Pv.unpack, Option.map_none, Option.bind_none, augD, revD, List.map_cons, List.map_nil, isiD, ty, List.any_cons, List.any_nil]) e)).trans ?_
  exact sqr (by simp [exSs, exS, evE, evEs, evT, Pv.evI, evC, evTg, evTgs, evO, vv, up, one, retE, Option.bind_eq_bind, Option.bind_some, Option.map_some, Option.pure_def, List.getElem?_cons_zero, List.getElem?_cons_succ, List.set_cons_zero, List.set_cons_succ, asgN, asgSub, setIx, opD, addD, mulD, biD, cmpD, ixD, ixL, lenD, slotSeq, slotLst, truD, List.length_cons, List.length_nil, if_true, if_false, Bool.false_eq_true, reduceIte, mthHR, mthR, mtD, slD, seqOf, wipeE, Tgs.len, Pv.unpack, Option.map_none, Option.bind_none, augD, revD, List.map_cons, List.map_nil, isiD, ty, List.any_cons, List.any_nil])
/-- dues: a row of bodies and a place -/
theorem ok_row (L : List (List Int)) (q : Int) (hl : L.flatten.length ≤ 60000) (hL : L.length ≤ 20000) : Ok (.tup [.tup (bods L), .int q]) := by
  have pl : ∀ b : List Int, Pl (.tup (lo b)) := fun b => .tup fun x hx => by
    obtain ⟨i, _, rfl⟩ := List.mem_map.mp hx; exact .int i
  have w : ∀ L : List (List Int), wtL (bods L) = L.length + L.flatten.length := fun L => by
    induction L with
    | nil => rfl
    | cons b L ih =>
      have hb : wtL (lo b) = b.length := by rw [wtL_ints (lo b) fun x hx => by obtain ⟨i, _, rfl⟩ := List.mem_map.mp hx; exact ⟨i, rfl⟩]; simp [lo]
      show wtL (.tup (lo b) :: bods L) = _
      simp only [wtL, wt, ih, hb, List.length_cons, List.flatten_cons, List.length_append]
      omega
  refine ⟨.tup fun x hx => ?_, ?_⟩
  · simp only [List.mem_cons, List.not_mem_nil, or_false] at hx
    rcases hx with rfl | rfl
    · exact .tup fun y hy => by obtain ⟨b, _, rfl⟩ := List.mem_map.mp hy; exact pl b
    · exact .int q
  · simp only [wt, wtL, w]
    omega
end Lk69

namespace Lk69
open PySem PySem.Spec PyProof.Rows L2 Pv
theorem atI_m2 (xs : List D) (u v : D) : atI (xs ++ [u, v]) (-2) = some u := by
  unfold atI ixN
  simp
  rw [show ((-2 : Int) + ((xs.length : Int) + 2)).toNat = xs.length by omega]
  rw [if_pos (by omega)]
  simp
theorem rowI_nil : rowI [] = [] := rfl
theorem rowI_app (a b : List (List Int)) : rowI (a ++ b) = rowI a ++ rowI b := by simp [rowI]
/-- a row of whole frames -/
theorem frames_all (k : Nat) (st : Sto) (L : List (List Int)) (hx : octs (rowI L)) (hl : (rowI L).length ≤ 100000) (hL : L.length ≤ 90000) :
    Fc (k + 4) "frames" [.tup (lo (rowI L))] st = some (false, .tup [.tup (bods L), .int ((rowI L).length : Int)], st) := by
  have h := frames_ok k st L [] (by rwa [List.append_nil]) (by rwa [List.append_nil]) hL (by rw [List.append_nil]; exact none_end k st _ hl)
  rwa [List.append_nil] at h
theorem frames_one (k : Nat) (st : Sto) (b : List Int) (hx : octs b) (hl : b.length ≤ 50000) :
    Fc (k + 4) "frames" [.tup (lo (frI b))] st = some (false, .tup [.tup [.tup (lo b)], .int ((lo (frI b)).length : Int)], st) := by
  have lfr : (frI b).length = (hdI b.length).length + b.length + 2 := by simp [frI, sumI]; omega
  obtain ⟨ys, y, e1, hf, hy, hyl, e2, e3⟩ := hd_rep (b.length : Int) (by omega) (by omega)
  have e : rowI [b] = frI b := by simp [rowI]
  have h := frames_all k st [b] (by rw [e]; exact fr_octs hx (by omega)) (by rw [e]; omega) (by simp)
  rw [e] at h
  rw [h]
  simp [lo]
theorem hd_len {n : Int} (h : n < 16384) : (hdI n).length ≤ 2 := by
  unfold hdI
  split
  · simp
  · simp
theorem hd_pos (n : Int) : 1 ≤ (hdI n).length := by
  unfold hdI
  split
  · simp
  · split <;> simp
theorem fr_len {xs : List Int} (h : xs.length < 16384) : (frI xs).length ≤ xs.length + 4 ∧ xs.length + 3 ≤ (frI xs).length := by
  have := hd_len (n := (xs.length : Int)) (by omega)
  have := hd_pos (xs.length : Int)
  simp [frI, sumI]; omega
/-! ### frames in frames -/
def nest (b : List Int) : Nat → List Int
  | 0 => b
  | n + 1 => frI (nest b n)
def lay (b : List Int) (n : Nat) : List D := (List.range (n + 1)).map fun j => .tup (lo (nest b j))
theorem lay_succ (b : List Int) (n : Nat) : lay b (n + 1) = lay b n ++ [.tup (lo (nest b (n + 1)))] := by simp [lay, List.range_succ]
theorem lay_len (b : List Int) (n : Nat) : (lay b n).length = n + 1 := by simp [lay]
theorem lay_get (b : List Int) {n j : Nat} (h : j ≤ n) : (lay b n)[j]? = some (.tup (lo (nest b j))) := by
  unfold lay
  rw [List.getElem?_map, List.getElem?_range (by omega)]; rfl
theorem lay_last (b : List Int) (n : Nat) : atI (lay b n) (-1) = some (.tup (lo (nest b n))) := by
  cases n with
  | zero => exact atI_lastD [] _
  | succ n => rw [lay_succ]; exact atI_lastD _ _
theorem lay_m2 (b : List Int) (n : Nat) : atI (lay b (n + 1)) (-2) = some (.tup (lo (nest b n))) := by
  cases n with
  | zero => rw [lay_succ]; exact atI_m2 [] _ _
  | succ n => rw [lay_succ, lay_succ, List.append_assoc]; exact atI_m2 _ _ _
theorem nest_len {b : List Int} (hb : b.length ≤ 30) : ∀ n, n ≤ 10 → (nest b n).length ≤ 30 + 4 * n
  | 0, _ => hb
  | n + 1, h => by
    have ih := nest_len hb n (by omega)
    have := fr_len (xs := nest b n) (by omega)
    show (frI (nest b n)).length ≤ _
    omega
theorem nest_octs {b : List Int} (hb : b.length ≤ 30) (hx : octs b) : ∀ n, n ≤ 10 → octs (nest b n)
  | 0, _ => hx
  | n + 1, h => by
    have := nest_len hb n (by omega)
    exact fr_octs (nest_octs hb hx n (by omega)) (by omega)
theorem deep_b1 (k : Nat) (s4 s5 s6 s7 tn : Sl) (st : Sto) (b : List Int) (hb : b.length ≤ 30) (hx : octs b) (i : Nat) (hi : i ≤ 8) (ps : List D) (hp : Good ps i) :
    ∃ ps', exSs (T (k + 4)) law_deep_pairs_b1 [.val (.hd 1), .own (lay b i), .own ps, .val (.int i), s4, s5, s6, s7] st = some (.nx, [.val (.hd 1), .own (lay b (i + 1)), .own ps', .val (.int i), s4, s5, s6, s7], st) ∧ Good ps' (i + 1) := by
  have hn := nest_len hb i (by omega)
  have hn1 := nest_len hb (i + 1) (by omega)
  have ho := nest_octs hb hx i (by omega)
  have e1 : Fc (k + 4) "_law_frame" [.tup (lo (nest b i))] st = some (false, .tup (lo (nest b (i + 1))), st) := lfr_ok (k + 2) st _ ho (by omega)
  have e2 : Fc (k + 4) "frame" [.tup (lo (nest b i))] st = some (false, .tup (lo (nest b (i + 1))), st) := fr_ok (k + 1) st _ ho (by omega)
  have a1 := lay_last b i
  have a2 := lay_last b (i + 1)
  have a3 := lay_m2 b i
  have ls := lay_succ b i
  have ll := lay_len b i
  have g := hp.app (ok_ints (xs := lo (nest b (i + 1))) (fun x hx => by obtain ⟨j, _, rfl⟩ := List.mem_map.mp hx; exact ⟨j, rfl⟩) (by simp [lo]; omega))
  have l1 : (lay b i).length < lim := by rw [ll]; unfold lim; omega
  have l2 := hp.lt (by omega)
  have m2 : (2 : Nat) ≤ lim := by decide
  refine ⟨_, ?_, g⟩
  generalize lay b (i + 1) = L2 at *
  generalize lay b i = L1 at *
  generalize lo (nest b (i + 1)) = Y at *
  generalize lo (nest b i) = X at *
  unfold law_deep_pairs_b1
  refine (sq (ρ1 := [.val (.hd 1), .own L2, .own ps, .val (.int i), s4, s5, s6, s7]) (st1 := st) (by simp [exSs, exS, evE, evEs, evT, Pv.evI, evC, evTg, evTgs, evO, vv, up, one, retE, Option.bind_eq_bind, Option.bind_some, Option.map_some, Option.pure_def, List.getElem?_cons_zero, List.getElem?_cons_succ, List.set_cons_zero, List.set_cons_succ, asgN, asgSub, setIx, opD, addD, mulD, biD, cmpD, ixD, ixL, lenD, slotSeq, slotLst, truD, List.length_cons, List.length_nil, if_true, if_false, Bool.false_eq_true, reduceIte, mthHR, mthR, mtD, slD, seqOf, wipeE, Tgs.len, Pv.unpack, Option.map_none, Option.bind_none, augD, revD, List.map_cons, List.map_nil, isiD, ty, List.any_cons, List.any_nil, a1, e1, l1, ls])).trans ?_
  by_cases h0 : i = 0
  · subst h0
    exact sq1 (by simp [exSs, exS, evE, evEs, evT, Pv.evI, evC, evTg, evTgs, evO, vv, up, one, retE, Option.bind_eq_bind, Option.bind_some, Option.map_some, Option.pure_def, List.getElem?_cons_zero, List.getElem?_cons_succ, List.set_cons_zero, List.set_cons_succ, asgN, asgSub, setIx, opD, addD, mulD, biD, cmpD, ixD, ixL, lenD, slotSeq, slotLst, truD, List.length_cons, List.length_nil, if_true, if_false, Bool.false_eq_true, reduceIte, mthHR, mthR, mtD, slD, seqOf, wipeE, Tgs.len, Pv.unpack, Option.map_none, Option.bind_none, augD, revD, List.map_cons, List.map_nil, isiD, ty, List.any_cons, List.any_nil, a2, a3, e2, l2, m2, pr])
  · have h1 : (0 : Int) < (i : Int) := by omega
    have h2 : 0 < i := by omega
    exact sq1 (by simp [exSs, exS, evE, evEs, evT, Pv.evI, evC, evTg, evTgs, evO, vv, up, one, retE, Option.bind_eq_bind, Option.bind_some, Option.map_some, Option.pure_def, List.getElem?_cons_zero, List.getElem?_cons_succ, List.set_cons_zero, List.set_cons_succ, asgN, asgSub, setIx, opD, addD, mulD, biD, cmpD, ixD, ixL, lenD, slotSeq, slotLst, truD, List.length_cons, List.length_nil, if_true, if_false, Bool.false_eq_true, reduceIte, mthHR, mthR, mtD, slD, seqOf, wipeE, Tgs.len, Pv.unpack, Option.map_none, Option.bind_none, augD, revD, List.map_cons, List.map_nil, isiD, ty, List.any_cons, List.any_nil, a2, a3, e2, l2, m2, pr, h1, h2])
theorem zipL_get : ∀ {xs ys : List D} {k : Nat} {d : D}, (zipL xs ys)[k]? = some d → ∃ x y, xs[k]? = some x ∧ ys[k]? = some y ∧ d = .tup [x, y]
  | [], _, k, d, h => by simp [zipL] at h
  | _ :: _, [], k, d, h => by simp [zipL] at h
  | x :: xs, y :: ys, 0, d, h => ⟨x, y, rfl, rfl, by simpa [zipL] using h.symm⟩
  | x :: xs, y :: ys, k + 1, d, h => zipL_get (xs := xs) (ys := ys) (k := k) (by simpa [zipL] using h)
theorem zipL_len : ∀ (xs ys : List D), (zipL xs ys).length ≤ xs.length
  | [], _ => by simp [zipL]
  | _ :: _, [] => by simp [zipL]
  | x :: xs, y :: ys => by simpa [zipL] using zipL_len xs ys
theorem cut_one (xs : List D) : Pv.cutD xs (some 1) none = xs.drop 1 := by
  unfold Pv.cutD
  rw [HT.sIx_none, show HT.sIx xs.length 0 (some 1) = min 1 xs.length from HT.sIx_nat _ _ 1, List.take_of_length_le (by simp)]
  cases xs with
  | nil => rfl
  | cons x xs => simp
theorem deep_b0 (k : Nat) (s1 s3 s6 s7 : Sl) (st : Sto) (b : List Int) (hb : b.length ≤ 50000) (hx : octs b) (ps : List D) (i : Nat) (hi : i ≤ 1000) (hp : Good ps i) :
    ∃ ps', exSs (T (k + 4)) law_deep_pairs_b0 [.val (.hd 1), s1, .own ps, s3, .val (.tup (lo (frI b))), .val (.tup (lo b)), s6, s7] st = some (.nx, [.val (.hd 1), s1, .own ps', s3, .val (.tup (lo (frI b))), .val (.tup (lo b)), s6, s7], st) ∧ Good ps' (i + 1) := by
  have f := frames_one k st b hx hb
  have ok := ok_row [b] ((lo (frI b)).length : Int) (by simp; omega) (by simp)
  have l2 := hp.lt (by omega)
  have m2 : (2 : Nat) ≤ lim := by decide
  have m1 : (1 : Nat) ≤ lim := by decide
  refine ⟨_, ?_, hp.app ok⟩
  simp only [bods, List.map_cons, List.map_nil] at f ⊢
  generalize lo (frI b) = F at *
  generalize lo b = B at *
  unfold law_deep_pairs_b0
  exact sq1 (by simp [exSs, exS, evE, evEs, evT, Pv.evI, evC, evTg, evTgs, evO, vv, up, one, retE, Option.bind_eq_bind, Option.bind_some, Option.map_some, Option.pure_def, List.getElem?_cons_zero, List.getElem?_cons_succ, List.set_cons_zero, List.set_cons_succ, asgN, asgSub, setIx, opD, addD, mulD, biD, cmpD, ixD, ixL, lenD, slotSeq, slotLst, truD, List.length_cons, List.length_nil, if_true, if_false, Bool.false_eq_true, reduceIte, mthHR, mthR, mtD, slD, seqOf, wipeE, Tgs.len, Pv.unpack, Option.map_none, Option.bind_none, augD, revD, List.map_cons, List.map_nil, isiD, ty, List.any_cons, List.any_nil, f, l2, m2, m1, pr])
end Lk69

namespace Lk69
open PySem PySem.Spec PyProof.Rows L2 Pv
theorem deep_run {k : Nat} {st st0 st1 st2 : Sto} {B0 LY P Q F C OU BT ps pq Z : List D} {n x y r : Int} {s3 s4 s5 : Sl}
    (eb : Fc k "_law_body" [.hd 1, .int 30] st = some (false, .tup B0, st0)) (en : Fc k "_law_any" [.hd 1, .int 5] st0 = some (false, .int n, st1)) (rn : rngD [.int (1 + n)] = some (rngL 0 (1 + n) 1))
    (l1 : forL (evTg (T k) (.n 3)) (exSs (T k) law_deep_pairs_b1) (rngL 0 (1 + n) 1) [.val (.hd 1), .own [.tup B0], .own [], .no, .no, .no, .no, .no] st1 = some (.nx, [.val (.hd 1), .own LY, .own ps, s3, .no, .no, .no, .no], st1))
    (z : Pv.cutD LY (some 1) none = Z)
    (l2 : forL (evTg (T k) (.tup (.cons (.n 4) (.cons (.n 5) .nil)))) (exSs (T k) law_deep_pairs_b0) (zipL Z LY) [.val (.hd 1), .val (.lst LY), .own ps, s3, .no, .no, .no, .no] st1 = some (.nx, [.val (.hd 1), .val (.lst LY), .own pq, s3, s4, s5, .no, .no], st1))
    (a1 : atI LY (-1) = some (.tup P)) (a2 : atI LY (-2) = some (.tup Q)) (a3 : atI LY 1 = some (.tup F)) (a0 : atI LY 0 = some (.tup B0))
    (c : Pv.cutD F none (some (-2)) = C) (x1 : atI F (-2) = some (.int x)) (y1 : atI F (-1) = some (.int y))
    (e1 : Fc k "_law_any" [.hd 1, .int 255] st1 = some (false, .int r, st2)) (hBT : C ++ [.int ((x + 1 + r) % 256), .int y] = BT)
    (e2 : Fc k "_law_frame" [.tup BT] st2 = some (false, .tup OU, st2))
    (f1 : Fc k "frames" [.tup P] st1 = some (false, .tup [.tup [.tup Q], .int (P.length : Int)], st1))
    (f2 : Fc k "frames" [.tup BT] st2 = some (false, .tup [.tup [], .int 0], st2))
    (f3 : Fc k "frames" [.tup OU] st2 = some (false, .tup [.tup [.tup BT], .int (OU.length : Int)], st2))
    (f4 : Fc k "frames" [.tup (F ++ OU)] st2 = some (false, .tup [.tup [.tup B0, .tup BT], .int ((F.length : Int) + OU.length)], st2))
    (m1 : C.length ≤ 1000) (m2 : F.length ≤ 1000) (m3 : OU.length ≤ 1000) (m4 : pq.length ≤ 1000) :
    Fc (k + 1) "_law_deep_pairs" [.hd 1] st = some (true, .lst (pq ++ [pr (.tup [.tup [.tup Q], .int (P.length : Int)])] ++ [pr (.tup [.tup [], .int 0])] ++ [pr (.tup [.tup [.tup BT], .int (OU.length : Int)])] ++ [pr (.tup [.tup [.tup B0, .tup BT], .int ((F.length : Int) + OU.length)])]), st2) := by
  have g1 : (1 : Nat) ≤ lim := by decide
  have g2 : (2 : Nat) ≤ lim := by decide
  have g3 : (3 : Nat) ≤ lim := by decide
  have h1 : pq.length < lim := by unfold lim; omega
  have h2 : pq.length + 4 ≤ lim := by unfold lim; omega
  have h3 : C.length + 2 ≤ lim := by unfold lim; omega
  have h4 : F.length + OU.length ≤ lim := by unfold lim; omega
  have h5 : pq.length + 1 + 3 ≤ lim := by unfold lim; omega
  rw [q_law_deep_pairs]
  refine run_rt (ρ1 := [.val (.hd 1), .val (.lst LY), .val (.lst (pq ++ [pr (.tup [.tup [.tup Q], .int (P.length : Int)])])), s3, .val (.tup OU), s5, .val (.tup F), .val (.tup BT)]) (n := 7) rfl rfl ?_
  unfold b_law_deep_pairs
  refine (sq (ρ1 := [.val (.hd 1), .own [.tup B0], .own [], .no, .no, .no, .no, .no]) (st1 := st0) (by simp [exSs, exS, evE, evEs, evT, Pv.evI, evC, evTg, evTgs, evO, vv, up, one, retE, Option.bind_eq_bind, Option.bind_some, Option.map_some, Option.pure_def, List.getElem?_cons_zero, List.getElem?_cons_succ, List.set_cons_zero, List.set_cons_succ, asgN, asgSub, setIx, opD, addD, mulD, biD, cmpD, ixD, ixL, lenD, slotSeq, slotLst, truD, List.length_cons, List.length_nil, if_true, if_false, Bool.false_eq_true, reduceIte, mthHR, mthR, mtD, slD, seqOf, wipeE, Tgs.len, Pv.unpack, Option.map_none, Option.bind_none, augD, revD, List.map_cons, List.map_nil, isiD, ty, List.any_cons, List.any_nil, eb, g1])).trans ?_
  refine (sq (ex_for (xs := rngL 0 (1 + n) 1) (ρ1 := [.val (.hd 1), .own [.tup B0], .own [], .no, .no, .no, .no, .no]) (st1 := st1) (by simp [exSs, exS, evE, evEs, evT, Pv.evI, evC, evTg, evTgs, evO, vv, up, one, retE, Option.bind_eq_bind, Option.bind_some, Option.map_some, Option.pure_def, List.getElem?_cons_zero, List.getElem?_cons_succ, List.set_cons_zero, List.set_cons_succ, asgN, asgSub, setIx, opD, addD, mulD, biD, cmpD, ixD, ixL, lenD, slotSeq, slotLst, truD, List.length_cons, List.length_nil, if_true, if_false, Bool.false_eq_true, reduceIte, mthHR, mthR, mtD, slD, seqOf, wipeE, Tgs.len, Pv.unpack, Option.map_none, Option.bind_none, augD, revD, List.map_cons, List.map_nil, isiD, ty, List.any_cons, List.any_nil, en, rn]) l1)).trans ?_
  refine (sq (ex_for (xs := zipL Z LY) (ρ1 := [.val (.hd 1), .val (.lst LY), .own ps, s3, .no, .no, .no, .no]) (st1 := st1) (by simp [exSs, exS, evE, evEs, evT, Pv.evI, evC, evTg, evTgs, evO, vv, up, one, retE, Option.bind_eq_bind, Option.bind_some, Option.map_some, Option.pure_def, List.getElem?_cons_zero, List.getElem?_cons_succ, List.set_cons_zero, List.set_cons_succ, asgN, asgSub, setIx, opD, addD, mulD, biD, cmpD, ixD, ixL, lenD, slotSeq, slotLst, truD, List.length_cons, List.length_nil, if_true, if_false, Bool.false_eq_true, reduceIte, mthHR, mthR, mtD, slD, seqOf, wipeE, Tgs.len, Pv.unpack, Option.map_none, Option.bind_none, augD, revD, List.map_cons, List.map_nil, isiD, ty, List.any_cons, List.any_nil, z]) l2)).trans ?_
  refine (sq (ρ1 := [.val (.hd 1), .val (.lst LY), .own (pq ++ [pr (.tup [.tup [.tup Q], .int (P.length : Int)])]), s3, s4, s5, .no, .no]) (st1 := st1) (by simp [exSs, exS, evE, evEs, evT, Pv.evI, evC, evTg, evTgs, evO, vv, up, one, retE, Option.bind_eq_bind, Option.bind_some, Option.map_some, Option.pure_def, List.getElem?_cons_zero, List.getElem?_cons_succ, List.set_cons_zero, List.set_cons_succ, asgN, asgSub, setIx, opD, addD, mulD, biD, cmpD, ixD, ixL, lenD, slotSeq, slotLst, truD, List.length_cons, List.length_nil, if_true, if_false, Bool.false_eq_true, reduceIte, mthHR, mthR, mtD, slD, seqOf, wipeE, Tgs.len, Pv.unpack, Option.map_none, Option.bind_none, augD, revD, List.map_cons, List.map_nil, isiD, ty, List.any_cons, List.any_nil, a1, a2, f1, g1, g2, h1, pr])).trans ?_
  refine (sq (ρ1 := [.val (.hd 1), .val (.lst LY), .own (pq ++ [pr (.tup [.tup [.tup Q], .int (P.length : Int)])]), s3, s4, s5, .val (.tup F), .no]) (st1 := st1) (by simp [exSs, exS, evE, evEs, evT, Pv.evI, evC, evTg, evTgs, evO, vv, up, one, retE, Option.bind_eq_bind, Option.bind_some, Option.map_some, Option.pure_def, List.getElem?_cons_zero, List.getElem?_cons_succ, List.set_cons_zero, List.set_cons_succ, asgN, asgSub, setIx, opD, addD, mulD, biD, cmpD, ixD, ixL, lenD, slotSeq, slotLst, truD, List.length_cons, List.length_nil, if_true, if_false, Bool.false_eq_true, reduceIte, mthHR, mthR, mtD, slD, seqOf, wipeE, Tgs.len, Pv.unpack, Option.map_none, Option.bind_none, augD, revD, List.map_cons, List.map_nil, isiD, ty, List.any_cons, List.any_nil, a3])).trans ?_
  refine (sq (ρ1 := [.val (.hd 1), .val (.lst LY), .own (pq ++ [pr (.tup [.tup [.tup Q], .int (P.length : Int)])]), s3, s4, s5, .val (.tup F), .val (.tup BT)]) (st1 := st2) (by simp [exSs, exS, evE, evEs, evT, Pv.evI, evC, evTg, evTgs, evO, vv, up, one, retE, Option.bind_eq_bind, Option.bind_some, Option.map_some, Option.pure_def, List.getElem?_cons_zero, List.getElem?_cons_succ, List.set_cons_zero, List.set_cons_succ, asgN, asgSub, setIx, opD, addD, mulD, biD, cmpD, ixD, ixL, lenD, slotSeq, slotLst, truD, List.length_cons, List.length_nil, if_true, if_false, Bool.false_eq_true, reduceIte, mthHR, mthR, mtD, slD, seqOf, wipeE, Tgs.len, Pv.unpack, Option.map_none, Option.bind_none, augD, revD, List.map_cons, List.map_nil, isiD, ty, List.any_cons, List.any_nil, c, x1, y1, e1, hBT, h3, g2])).trans ?_
  refine (sq (ρ1 := [.val (.hd 1), .val (.lst LY), .own (pq ++ [pr (.tup [.tup [.tup Q], .int (P.length : Int)])]), s3, .val (.tup OU), s5, .val (.tup F), .val (.tup BT)]) (st1 := st2) (by simp [exSs, exS, evE, evEs, evT, Pv.evI, evC, evTg, evTgs, evO, vv, up, one, retE, Option.bind_eq_bind, Option.bind_some, Option.map_some, Option.pure_def, List.getElem?_cons_zero, List.getElem?_cons_succ, List.set_cons_zero, List.set_cons_succ, asgN, asgSub, setIx, opD, addD, mulD, biD, cmpD, ixD, ixL, lenD, slotSeq, slotLst, truD, List.length_cons, List.length_nil, if_true, if_false, Bool.false_eq_true, reduceIte, mthHR, mthR, mtD, slD, seqOf, wipeE, Tgs.len, Pv.unpack, Option.map_none, Option.bind_none, augD, revD, List.map_cons, List.map_nil, isiD, ty, List.any_cons, List.any_nil, e2])).trans ?_
  exact sqr (by simp [exSs, exS, evE, evEs, evT, Pv.evI, evC, evTg, evTgs, evO, vv, up, one, retE, Option.bind_eq_bind, Option.bind_some, Option.map_some, Option.pure_def, List.getElem?_cons_zero, List.getElem?_cons_succ, List.set_cons_zero, List.set_cons_succ, asgN, asgSub, setIx, opD, addD, mulD, biD, cmpD, ixD, ixL, lenD, slotSeq, slotLst, truD, List.length_cons, List.length_nil, if_true, if_false, Bool.false_eq_true, reduceIte, mthHR, mthR, mtD, slD, seqOf, wipeE, Tgs.len, Pv.unpack, Option.map_none, Option.bind_none, augD, revD, List.map_cons, List.map_nil, isiD, ty, List.any_cons, List.any_nil, f2, f3, f4, a0, h4, h5, g1, g2, g3, pr])
/-- a frame with a sum that is wrong -/
def bentI (b : List Int) (r : Int) : List Int := hdI b.length ++ b ++ [(ws 0 b % 65521 % 256 + 1 + r) % 256, ws 0 b % 65521 / 256]
theorem bent_octs {b : List Int} {r : Int} (hx : octs b) (hl : b.length ≤ 90000) : octs (bentI b r) := octs_app (octs_app (hd_octs (by omega) (by omega)) hx) fun x hx => by
  simp only [List.mem_cons, List.not_mem_nil, or_false] at hx
  rcases hx with rfl | rfl <;> omega
theorem bent_none (k : Nat) (st : Sto) (b : List Int) (r : Int) (hx : octs b) (hl : b.length ≤ 50000) (r0 : 0 ≤ r) (r1 : r < 255) :
    Fc (k + 4) "frames" [.tup (lo (bentI b r))] st = some (false, .tup [.tup [], .int 0], st) := by
  have e : bentI b r = [] ++ hdI b.length ++ (b ++ ([(ws 0 b % 65521 % 256 + 1 + r) % 256, ws 0 b % 65521 / 256] ++ [])) := by simp [bentI]
  have hh : (hdI (b.length : Int)).length ≤ 3 := by
    obtain ⟨ys, y, e1, hf, hy, hyl, e2, e3⟩ := hd_rep (b.length : Int) (by omega) (by omega)
    omega
  have lb : (bentI b r).length ≤ 100000 := by simp [bentI]; omega
  have ob := bent_octs (r := r) hx (by omega)
  have n := none_bent k st [] b _ [] rfl (bent_low b r (ws 0 b % 65521 / 256) r0 r1) (by rw [← e]; exact ob) (by rw [← e]; exact lb)
  rw [← e] at n
  have h := frames_ok k st [] (bentI b r) ob lb (by simp) n
  exact h
theorem deep_ok (k : Nat) {st : Sto} (hst : Deal st) : ∃ ps st', Fc (k + 5) "_law_deep_pairs" [.hd 1] st = some (true, .lst ps, st') ∧ Good ps 16 ∧ Deal st' := by
  obtain ⟨b, st0, eb, hx, hb, d0⟩ := body_ok (k + 1) hst 30 (by decide) (by decide)
  obtain ⟨n, st1, en, n0, n1, d1⟩ := anyF (k + 3) (b := 5) (by decide) (by decide) d0
  obtain ⟨r, st2, er, r0, r1, d2⟩ := anyF (k + 3) (b := 255) (by decide) (by decide) d1
  obtain ⟨m, rfl⟩ := Int.eq_ofNat_of_zero_le n0
  have hb : b.length ≤ 30 := by omega
  have rn := rngD1 (n := 1 + (m : Int)) (by omega) (by omega)
  have rl : (rngL 0 (1 + (m : Int)) 1).length = m + 1 := by rw [rng_len]; omega
  obtain ⟨ρ1, st1', l1, ps, s3, rfl, rfl, g1⟩ := for_all (asg := evTg (T (k + 4)) (.n 3)) (b := exSs (T (k + 4)) law_deep_pairs_b1) (fun i ρ st => ∃ ps s3, ρ = [.val (.hd 1), .own (lay b i), .own ps, s3, .no, .no, .no, .no] ∧ st = st1 ∧ Good ps i) (rngL 0 (1 + (m : Int)) 1) 0 [.val (.hd 1), .own [.tup (lo b)], .own [], .no, .no, .no, .no, .no] st1 (fun i d ρ st hi hj => by
    obtain ⟨ps, s3, rfl, rfl, g⟩ := hj
    have hlt := rng_lt hi
    rw [rl] at hlt
    have hd := rng_at hi
    rw [Int.zero_add, Int.mul_one] at hd
    subst hd
    rw [Nat.zero_add] at g ⊢
    obtain ⟨ps', e, g'⟩ := deep_b1 k .no .no .no .no .no st b hb hx i (by omega) ps g
    exact ⟨_, st, by simp [exSs, exS, evE, evEs, evT, Pv.evI, evC, evTg, evTgs, evO, vv, up, one, retE, Option.bind_eq_bind, Option.bind_some, Option.map_some, Option.pure_def, List.getElem?_cons_zero, List.getElem?_cons_succ, List.set_cons_zero, List.set_cons_succ, asgN, asgSub, setIx, opD, addD, mulD, biD, cmpD, ixD, ixL, lenD, slotSeq, slotLst, truD, List.length_cons, List.length_nil, if_true, if_false, Bool.false_eq_true, reduceIte, mthHR, mthR, mtD, slD, seqOf, wipeE, Tgs.len, Pv.unpack, Option.map_none, Option.bind_none, augD, revD, List.map_cons, List.map_nil, isiD, ty, List.any_cons, List.any_nil], _, st, e, ps', _, rfl, rfl, g'⟩) ⟨[], .no, rfl, rfl, (fun _ h => by cases h), Nat.zero_le _⟩
  rw [rl, Nat.zero_add] at g1 l1
  obtain ⟨ρ2, st2', l2, ps2, s4, s5, rfl, rfl, g2⟩ := for_all (asg := evTg (T (k + 4)) (.tup (.cons (.n 4) (.cons (.n 5) .nil)))) (b := exSs (T (k + 4)) law_deep_pairs_b0) (fun i ρ st => ∃ ps s4 s5, ρ = [.val (.hd 1), .val (.lst (lay b (m + 1))), .own ps, s3, s4, s5, .no, .no] ∧ st = st1' ∧ Good ps (m + 1 + i)) (zipL ((lay b (m + 1)).drop 1) (lay b (m + 1))) 0 [.val (.hd 1), .val (.lst (lay b (m + 1))), .own ps, s3, .no, .no, .no, .no] st1' (fun i d ρ st hi hj => by
    obtain ⟨ps, s4, s5, rfl, rfl, g⟩ := hj
    obtain ⟨x, y, hx1, hy1, rfl⟩ := zipL_get hi
    rw [List.getElem?_drop] at hx1
    have hlt := (List.getElem?_eq_some_iff.mp hx1).1
    rw [lay_len] at hlt
    rw [lay_get b (by omega)] at hx1 hy1
    cases hx1
    cases hy1
    have hn := nest_len hb i (by omega)
    rw [Nat.add_comm 1 i, show nest b (i + 1) = frI (nest b i) from rfl]
    rw [Nat.zero_add] at g ⊢
    obtain ⟨ps', e, g'⟩ := deep_b0 k (.val (.lst (lay b (m + 1)))) s3 .no .no st (nest b i) (by omega) (nest_octs hb hx i (by omega)) ps (m + 1 + i) (by omega) g
    refine ⟨_, st, ?_, _, st, e, ps', _, _, rfl, rfl, by rw [← Nat.add_assoc]; exact g'⟩
    simp [exSs, exS, evE, evEs, evT, Pv.evI, evC, evTg, evTgs, evO, vv, up, one, retE, Option.bind_eq_bind, Option.bind_some, Option.map_some, Option.pure_def, List.getElem?_cons_zero, List.getElem?_cons_succ, List.set_cons_zero, List.set_cons_succ, asgN, asgSub, setIx, opD, addD, mulD, biD, cmpD, ixD, ixL, lenD, slotSeq, slotLst, truD, List.length_cons, List.length_nil, if_true, if_false, Bool.false_eq_true, reduceIte, mthHR, mthR, mtD, slD, seqOf, wipeE, Tgs.len, Pv.unpack, Option.map_none, Option.bind_none, augD, revD, List.map_cons, List.map_nil, isiD, ty, List.any_cons, List.any_nil, evTgs]) ⟨ps, .no, .no, rfl, rfl, g1⟩
  have zl := zipL_len ((lay b (m + 1)).drop 1) (lay b (m + 1))
  rw [List.length_drop, lay_len] at zl
  have nl := nest_len hb m (by omega)
  have no := nest_octs hb hx m (by omega)
  have fl := fr_len (xs := b) (by omega)
  have ob := bent_octs (r := r) hx (by omega)
  have hh := hd_len (n := (b.length : Int)) (by omega)
  have lb : (bentI b r).length ≤ 40 := by simp [bentI]; omega
  have fl2 := fr_len (xs := bentI b r) (by omega)
  have F1 := frames_one k st2' (nest b m) no (by omega)
  have F2 := bent_none k st2 b r hx (by omega) r0 r1
  have F3 := frames_one k st2 (bentI b r) ob (by omega)
  have rw2 : rowI [b, bentI b r] = frI b ++ frI (bentI b r) := by simp [rowI]
  have F4 := frames_all k st2 [b, bentI b r] (by rw [rw2]; exact octs_app (fr_octs hx (by omega)) (fr_octs ob (by omega))) (by rw [rw2, List.length_append]; omega) (by simp)
  rw [rw2, lo_app, List.length_append] at F4
  have L2 := lfr_ok (k + 2) st2 (bentI b r) ob (by omega)
  have o1 := ok_row [nest b m] ((lo (frI (nest b m))).length : Int) (by simp; omega) (by simp)
  have o2 := ok_row [] 0 (by simp) (by simp)
  have o3 := ok_row [bentI b r] ((lo (frI (bentI b r))).length : Int) (by simp; omega) (by simp)
  have o4 := ok_row [b, bentI b r] (((lo (frI b)).length : Int) + (lo (frI (bentI b r))).length) (by simp; omega) (by simp)
  have G := ((((g2.mono (show _ ≤ 12 by omega)).app o1).app o2).app o3).app o4
  have ef : lo (frI b) = lo (hdI b.length ++ b) ++ [.int (ws 0 b % 65521 % 256), .int (ws 0 b % 65521 / 256)] := by simp [frI, sumI, lo]
  refine ⟨_, st2, deep_run (k := k + 4) eb en rn l1 (cut_one _) l2 (lay_last b (m + 1)) (lay_m2 b m) (atI_nat (j := 1) (lay_get b (by omega))) (atI_nat (j := 0) (lay_get b (by omega))) (C := lo (hdI b.length ++ b)) (x := ws 0 b % 65521 % 256) (y := ws 0 b % 65521 / 256) ?_ ?_ ?_ er (BT := lo (bentI b r)) ?_ L2 F1 F2 F3 ?_ ?_ ?_ ?_ ?_, G, d2⟩
  · show Pv.cutD (lo (frI b)) _ _ = _
    rw [ef]
    unfold Pv.cutD HT.sIx
    simp
    rw [show ((-2 : Int) + ((hdI (b.length : Int)).length + (b.length + 2))).toNat = (lo (hdI (b.length : Int))).length + (lo b).length by simp [lo]; omega]
    rw [← List.append_assoc, ← List.length_append, List.take_left]
  · show atI (lo (frI b)) _ = _
    rw [ef]; exact atI_m2 _ _ _
  · show atI (lo (frI b)) _ = _
    rw [ef, show lo (hdI (b.length : Int) ++ b) ++ [D.int (ws 0 b % 65521 % 256), .int (ws 0 b % 65521 / 256)] = (lo (hdI (b.length : Int) ++ b) ++ [D.int (ws 0 b % 65521 % 256)]) ++ [.int (ws 0 b % 65521 / 256)] by simp]
    exact atI_lastD _ _
  · simp [bentI, lo]
  · refine F4.trans ?_
    show _ = some (false, D.tup [D.tup [D.tup (lo b), D.tup (lo (bentI b r))], D.int (((lo (frI b)).length : Int) + (lo (frI (bentI b r))).length)], st2)
    simp [lo]
  · simp [lo]; omega
  · show (lo (frI b)).length ≤ _
    simp [lo]; omega
  · simp [lo]; omega
  · have := g2.2; omega
end Lk69

namespace Lk69
open PySem PySem.Spec PyProof.Rows L2 Pv
/-! ### ends of frames in a row -/
def endF : Nat → List (List Int) → List Int
  | _, [] => []
  | p, b :: r => ((p + (frI b).length : Nat) : Int) :: endF (p + (frI b).length) r
theorem endF_ge : ∀ (L : List (List Int)) (p : Nat) (x : Int), x ∈ endF p L → (p : Int) ≤ x
  | [], _, _, h => by cases h
  | b :: r, p, x, h => by
    rcases List.mem_cons.mp h with rfl | h
    · omega
    · have := endF_ge r _ x h; omega
theorem endF_len : ∀ (L : List (List Int)) (p : Nat), (endF p L).length = L.length
  | [], _ => rfl
  | b :: r, p => by simp [endF, endF_len r]
theorem endF_get : ∀ (L : List (List Int)) (p i : Nat), i < L.length → (endF p L)[i]? = some ((p + (rowI (L.take (i + 1))).length : Nat) : Int)
  | [], _, _, h => by simp at h
  | b :: r, p, 0, h => by simp [endF, rowI]
  | b :: r, p, i + 1, h => by
    rw [List.take_succ_cons, rowI_cons, List.length_append]
    show (endF (p + (frI b).length) r)[i]? = _
    rw [endF_get r _ i (by simpa using h), Nat.add_assoc]
theorem endF_take : ∀ (L : List (List Int)) (p w : Nat), (endF p L).take w = endF p (L.take w)
  | [], _, _ => by simp [endF]
  | b :: r, p, 0 => by simp [endF]
  | b :: r, p, w + 1 => by simp [endF, endF_take r]
theorem cut_split : ∀ (L : List (List Int)) (p c : Nat), c ≤ (rowI L).length → ∃ w tl, w ≤ L.length ∧ (rowI L).take c = rowI (L.take w) ++ tl ∧ (tl = [] ∨ ∃ b c', b ∈ L ∧ c' < (frI b).length ∧ tl = (frI b).take c') ∧
    ((endF p L).filter fun x => decide (x ≤ ((p + c : Nat) : Int))) = endF p (L.take w)
  | [], p, c, h => ⟨0, [], Nat.le_refl _, by simp [rowI], .inl rfl, by simp [endF]⟩
  | b :: r, p, c, h => by
    by_cases hc : c < (frI b).length
    · refine ⟨0, (frI b).take c, Nat.zero_le _, ?_, .inr ⟨b, c, List.mem_cons_self, hc, rfl⟩, ?_⟩
      · rw [rowI_cons, List.take_append_of_le_length (by omega)]; simp [rowI]
      · rw [List.take_zero]
        show List.filter _ _ = []
        rw [List.filter_eq_nil_iff]
        intro x hx
        have : ((p + (frI b).length : Nat) : Int) ≤ x := by
          rcases List.mem_cons.mp hx with rfl | hx
          · exact Int.le_refl _
          · exact endF_ge r _ x hx
        simp; omega
    · rw [rowI_cons, List.length_append] at h
      obtain ⟨w, tl, hw, e, ht, ef⟩ := cut_split r (p + (frI b).length) (c - (frI b).length) (by omega)
      refine ⟨w + 1, tl, by simp; omega, ?_, ?_, ?_⟩
      · rw [rowI_cons, List.take_append, List.take_of_length_le (by omega), e, List.take_succ_cons, rowI_cons, List.append_assoc]
      · rcases ht with rfl | ⟨b', c', hb, hc', rfl⟩
        · exact .inl rfl
        · exact .inr ⟨b', c', List.mem_cons_of_mem _ hb, hc', rfl⟩
      · rw [show p + (frI b).length + (c - (frI b).length) = p + c by omega] at ef
        rw [List.take_succ_cons]
        show List.filter _ (((p + (frI b).length : Nat) : Int) :: endF (p + (frI b).length) r) = ((p + (frI b).length : Nat) : Int) :: endF (p + (frI b).length) (r.take w)
        rw [List.filter_cons_of_pos (by simp; omega), ef]
theorem octs_take {xs : List Int} (h : octs xs) (n : Nat) : octs (xs.take n) := fun x hx => h x (List.mem_of_mem_take hx)
theorem row_mem_len : ∀ {L : List (List Int)} {b : List Int}, b ∈ L → b.length ≤ (rowI L).length
  | c :: r, b, h => by
    rw [rowI_cons, List.length_append]
    rcases List.mem_cons.mp h with rfl | h
    · simp [frI]; omega
    · have := row_mem_len h; omega
theorem row_octs : ∀ {L : List (List Int)}, (∀ b ∈ L, octs b ∧ b.length ≤ 90000) → octs (rowI L)
  | [], _ => fun _ h => by cases h
  | b :: r, h => by
    rw [rowI_cons]
    exact octs_app (fr_octs (h b List.mem_cons_self).1 (h b List.mem_cons_self).2) (row_octs fun c hc => h c (List.mem_cons_of_mem _ hc))
/-- a row that is cut somewhere -/
theorem frames_cut (k : Nat) (st : Sto) (L : List (List Int)) (c w : Nat) (tl : List Int) (hx : octs (rowI L)) (hl : (rowI L).length ≤ 50000) (hL : L.length ≤ 50000) (e : (rowI L).take c = rowI (L.take w) ++ tl) (ht : tl = [] ∨ ∃ b c', b ∈ L ∧ c' < (frI b).length ∧ tl = (frI b).take c') :
    Fc (k + 4) "frames" [.tup (lo ((rowI L).take c))] st = some (false, .tup [.tup (bods (L.take w)), .int ((rowI (L.take w)).length : Int)], st) := by
  have o := octs_take hx c
  have ll : ((rowI L).take c).length ≤ 50000 := by rw [List.length_take]; omega
  rw [e] at o ll ⊢
  refine frames_ok k st _ tl o (by omega) (by rw [List.length_take]; omega) ?_
  rcases ht with rfl | ⟨b, c', hb, hc', rfl⟩
  · rw [List.append_nil] at ll ⊢
    exact none_end k st _ (by omega)
  · exact none_cut k st _ b c' hc' (by omega) (by have := row_mem_len hb; omega)
theorem set_split {A B xs : List Int} {v u : Int} {s : Nat} (h : xs = A ++ v :: B) (hs : s = A.length) : xs[s]? = some v ∧ xs.take s ++ [u] ++ xs.drop (s + 1) = A ++ u :: B := by
  subst h hs
  refine ⟨by simp, ?_⟩
  rw [List.take_left, ← List.drop_drop, List.drop_left]
  simp
/-- one octet of a row is changed: the last one of a body, or of an empty body's sum -/
theorem frames_bent (k : Nat) (st : Sto) (L : List (List Int)) (a : Nat) (b : List Int) (hb : L[a]? = some b) (hbl : b.length ≤ 255) (r : Int) (r0 : 0 ≤ r) (r1 : r < 255) (hx : octs (rowI L)) (hl : (rowI L).length ≤ 50000) (hL : L.length ≤ 50000) (s : Nat)
    (hs : s + (if b.length = 0 then 1 else 3) = (rowI (L.take (a + 1))).length) :
    ∃ v, (rowI L)[s]? = some v ∧ Fc (k + 4) "frames" [.tup (lo ((rowI L).take s ++ [(v + 1 + r) % 256] ++ (rowI L).drop (s + 1)))] st = some (false, .tup [.tup (bods (L.take a)), .int ((rowI (L.take a)).length : Int)], st) := by
  have ha : a < L.length := (List.getElem?_eq_some_iff.mp hb).1
  have e0 : L = L.take a ++ b :: L.drop (a + 1) := by
    have := (List.getElem?_eq_some_iff.mp hb).2
    rw [← this, List.getElem_cons_drop, List.take_append_drop]
  have e1 : rowI L = rowI (L.take a) ++ frI b ++ rowI (L.drop (a + 1)) := by
    conv => lhs; rw [e0]
    rw [rowI_app, rowI_cons, List.append_assoc]
  have e2 : (rowI (L.take (a + 1))).length = (rowI (L.take a)).length + (frI b).length := by
    rw [List.take_add_one, hb, rowI_app, List.length_append]
    simp [rowI]
  rw [e2] at hs
  have lfr : (frI b).length = (hdI b.length).length + b.length + 2 := by simp [frI, sumI]; omega
  rcases list_last b with rfl | ⟨ys, v, rfl⟩
  · rw [List.length_nil, if_pos rfl] at hs
    have f0 : frI [] = [0, 0] ++ [0] := rfl
    have l3 : (frI []).length = 3 := rfl
    obtain ⟨g, e3⟩ := set_split (A := rowI (L.take a) ++ [0, 0]) (v := 0) (B := rowI (L.drop (a + 1))) (u := (0 + 1 + r) % 256) (s := s) (xs := rowI L) (by rw [e1, f0]; simp) (by simp; omega)
    refine ⟨0, g, ?_⟩
    have e4 : (rowI L).take s ++ [(0 + 1 + r) % 256] ++ (rowI L).drop (s + 1) = rowI (L.take a) ++ ((0 : Int) :: 0 :: (0 + 1 + r) % 256 :: rowI (L.drop (a + 1))) := by rw [e3]; simp
    have o : octs ((rowI L).take s ++ [(0 + 1 + r) % 256] ++ (rowI L).drop (s + 1)) := octs_app (octs_app (octs_take hx s) fun x hx => by rw [List.mem_singleton.mp hx]; omega) fun x hx' => hx x (List.mem_of_mem_drop hx')
    have ll : ((rowI L).take s ++ [(0 + 1 + r) % 256] ++ (rowI L).drop (s + 1)).length ≤ 50001 := by simp; omega
    rw [e4] at o ll ⊢
    refine frames_ok k st _ _ o (by omega) (by rw [List.length_take]; omega) ?_
    have n := none_bent k st (rowI (L.take a)) [] [0, (ws 0 [] % 65521 / 256 + 1 + r) % 256] (rowI (L.drop (a + 1))) rfl (bent_high [] r 0 r0 r1)
    simp only [List.length_nil, List.nil_append, List.append_assoc] at n
    exact n o (Nat.le_trans ll (by decide))
  · rw [if_neg (by simp)] at hs
    have f0 : frI (ys ++ [v]) = hdI ((ys ++ [v]).length : Int) ++ ys ++ v :: sumI (ys ++ [v]) := by simp [frI]
    have l2 : (sumI (ys ++ [v])).length = 2 := rfl
    have vo : 0 ≤ v ∧ v < 256 := hx v (by rw [e1, f0]; simp)
    obtain ⟨g, e3⟩ := set_split (A := rowI (L.take a) ++ hdI ((ys ++ [v]).length : Int) ++ ys) (v := v) (B := sumI (ys ++ [v]) ++ rowI (L.drop (a + 1))) (u := (v + 1 + r) % 256) (s := s) (xs := rowI L) (by rw [e1, f0]; simp) (by rw [lfr] at hs; simp at hs ⊢; omega)
    refine ⟨v, g, ?_⟩
    have e4 : (rowI L).take s ++ [(v + 1 + r) % 256] ++ (rowI L).drop (s + 1) = rowI (L.take a) ++ (hdI ((ys ++ [(v + 1 + r) % 256]).length : Int) ++ ((ys ++ [(v + 1 + r) % 256]) ++ (sumI (ys ++ [v]) ++ rowI (L.drop (a + 1))))) := by rw [e3]; simp
    have o : octs ((rowI L).take s ++ [(v + 1 + r) % 256] ++ (rowI L).drop (s + 1)) := octs_app (octs_app (octs_take hx s) fun x hx => by rw [List.mem_singleton.mp hx]; omega) fun x hx' => hx x (List.mem_of_mem_drop hx')
    have ll : ((rowI L).take s ++ [(v + 1 + r) % 256] ++ (rowI L).drop (s + 1)).length ≤ 50001 := by simp; omega
    rw [e4] at o ll ⊢
    refine frames_ok k st _ _ o (by omega) (by rw [List.length_take]; omega) ?_
    have n := none_bent k st (rowI (L.take a)) (ys ++ [(v + 1 + r) % 256]) (sumI (ys ++ [v])) (rowI (L.drop (a + 1))) rfl (bent_last ys v r vo.1 vo.2 r0 r1 (by simp at hbl; omega))
    rw [List.append_assoc] at n
    exact n o (by omega)
end Lk69

namespace Lk69
open PySem PySem.Spec PyProof.Rows L2 Pv
theorem cut_to (xs : List D) (n : Nat) : Pv.cutD xs none (some (n : Int)) = xs.take n := by
  unfold Pv.cutD
  rw [HT.sIx_none, HT.sIx_nat, List.drop_zero, Nat.sub_zero]
  by_cases h : n ≤ xs.length
  · rw [Nat.min_eq_left h]
  · rw [Nat.min_eq_right (by omega), List.take_of_length_le (Nat.le_refl _), List.take_of_length_le (by omega)]
theorem cut_from (xs : List D) (n : Nat) : Pv.cutD xs (some (n : Int)) none = xs.drop n := by
  unfold Pv.cutD
  rw [HT.sIx_none, HT.sIx_nat]
  by_cases h : n ≤ xs.length
  · rw [Nat.min_eq_left h, List.take_of_length_le (by simp)]
  · rw [Nat.min_eq_right (by omega), List.drop_of_length_le (Nat.le_refl _), List.drop_of_length_le (by omega)]; simp
theorem cut_m1 (xs : List D) : Pv.cutD xs none (some (-1)) = xs.dropLast := by
  rcases list_last xs with rfl | ⟨ys, y, rfl⟩
  · rfl
  · rw [cut_init]; simp
theorem bods_take (L : List (List Int)) (n : Nat) : (bods L).take n = bods (L.take n) := by simp [bods, List.map_take]
theorem lo_take (xs : List Int) (n : Nat) : (lo xs).take n = lo (xs.take n) := by simp [lo, List.map_take]
section
variable {s0 s1 s2 s3 s4 s5 s6 s7 s8 s9 s10 s11 s12 s13 s14 s15 s16 : Sl}
theorem ends_lc {k : Nat} (st : Sto) (c : Int) : ∀ (E : List Int) (acc : List D), acc.length + E.length ≤ 1000 →
    lcL (evTg (T k) (.n 17)) (evC (T k) (.so law_c2)) (fun ρ st => vv (evE (T k) law_e1 ρ st)) [17] (lo E) acc [s0, s1, s2, s3, s4, s5, s6, s7, s8, s9, .val (.int c), s11, s12, s13, s14, s15, s16, .no] st = some (acc ++ lo (E.filter fun x => decide (x ≤ c)), [s0, s1, s2, s3, s4, s5, s6, s7, s8, s9, .val (.int c), s11, s12, s13, s14, s15, s16, .no], st)
  | [], acc, _ => by simp [lcL]
  | e :: r, acc, h => by
    simp only [List.length_cons] at h
    have t1 : evTg (T k) (.n 17) (.int e) [s0, s1, s2, s3, s4, s5, s6, s7, s8, s9, .val (.int c), s11, s12, s13, s14, s15, s16, .no] st = some ([s0, s1, s2, s3, s4, s5, s6, s7, s8, s9, .val (.int c), s11, s12, s13, s14, s15, s16, .val (.int e)], st) := by simp [exSs, exS, evE, evEs, evT, Pv.evI, evC, evTg, evTgs, evO, vv, up, one, retE, Option.bind_eq_bind, Option.bind_some, Option.map_some, Option.pure_def, List.getElem?_cons_zero, List.getElem?_cons_succ, List.set_cons_zero, List.set_cons_succ, asgN, asgSub, setIx, opD, addD, mulD, biD, cmpD, ixD, ixL, lenD, slotSeq, slotLst, truD, List.length_cons, List.length_nil, if_true, if_false, Bool.false_eq_true, reduceIte, mthHR, mthR, mtD, slD, seqOf, wipeE, Tgs.len, Pv.unpack, Option.map_none, Option.bind_none, augD, revD, List.map_cons, List.map_nil, isiD, ty, List.any_cons, List.any_nil]
    have t2 : evC (T k) (.so law_c2) [s0, s1, s2, s3, s4, s5, s6, s7, s8, s9, .val (.int c), s11, s12, s13, s14, s15, s16, .val (.int e)] st = some (decide (e ≤ c), [s0, s1, s2, s3, s4, s5, s6, s7, s8, s9, .val (.int c), s11, s12, s13, s14, s15, s16, .val (.int e)], st) := by simp [law_c2, exSs, exS, evE, evEs, evT, Pv.evI, evC, evTg, evTgs, evO, vv, up, one, retE, Option.bind_eq_bind, Option.bind_some, Option.map_some, Option.pure_def, List.getElem?_cons_zero, List.getElem?_cons_succ, List.set_cons_zero, List.set_cons_succ, asgN, asgSub, setIx, opD, addD, mulD, biD, cmpD, ixD, ixL, lenD, slotSeq, slotLst, truD, List.length_cons, List.length_nil, if_true, if_false, Bool.false_eq_true, reduceIte, mthHR, mthR, mtD, slD, seqOf, wipeE, Tgs.len, Pv.unpack, Option.map_none, Option.bind_none, augD, revD, List.map_cons, List.map_nil, isiD, ty, List.any_cons, List.any_nil]
    have t3 : vv (evE (T k) law_e1 [s0, s1, s2, s3, s4, s5, s6, s7, s8, s9, .val (.int c), s11, s12, s13, s14, s15, s16, .val (.int e)] st) = some (.int e, [s0, s1, s2, s3, s4, s5, s6, s7, s8, s9, .val (.int c), s11, s12, s13, s14, s15, s16, .val (.int e)], st) := by simp [law_e1, exSs, exS, evE, evEs, evT, Pv.evI, evC, evTg, evTgs, evO, vv, up, one, retE, Option.bind_eq_bind, Option.bind_some, Option.map_some, Option.pure_def, List.getElem?_cons_zero, List.getElem?_cons_succ, List.set_cons_zero, List.set_cons_succ, asgN, asgSub, setIx, opD, addD, mulD, biD, cmpD, ixD, ixL, lenD, slotSeq, slotLst, truD, List.length_cons, List.length_nil, if_true, if_false, Bool.false_eq_true, reduceIte, mthHR, mthR, mtD, slD, seqOf, wipeE, Tgs.len, Pv.unpack, Option.map_none, Option.bind_none, augD, revD, List.map_cons, List.map_nil, isiD, ty, List.any_cons, List.any_nil]
    have hlt : acc.length < lim := by unfold lim; omega
    show lcL _ _ _ _ (.int e :: lo r) _ _ _ = _
    by_cases hc : e ≤ c
    · have ih := ends_lc (k := k) st c r (acc ++ [.int e]) (by simp; omega)
      simp only [lcL, t1, t2, t3, decide_eq_true hc, Option.bind_eq_bind, Option.bind_some, if_true, hlt, wipeE, List.set_cons_zero, List.set_cons_succ]
      rw [ih, List.filter_cons_of_pos (by simpa using hc)]
      simp [lo]
    · have ih := ends_lc (k := k) st c r acc (by omega)
      simp only [lcL, t1, t2, decide_eq_false hc, Option.bind_eq_bind, Option.bind_some, Bool.false_eq_true, if_false, wipeE, List.set_cons_zero, List.set_cons_succ]
      rw [ih, List.filter_cons_of_neg (by simpa using hc)]
theorem b3_run {k : Nat} {st : Sto} {E8 : Sl} {BL BW EE F O OC ps : List D} {c q : Int} {w : Nat} {s17 : Sl}
    (h8 : E8 = .own EE ∨ E8 = .val (.lst EE))
    (lc : lcL (evTg (T k) (.n 17)) (evC (T k) (.so law_c2)) (fun ρ st => vv (evE (T k) law_e1 ρ st)) [17] EE [] [s0, .val (.hd 1), .own ps, s3, s4, s5, .val (.lst BL), .val (.tup O), .val (.lst EE), s9, .val (.int c), s11, s12, s13, s14, s15, s16, .no] st = some (F, [s0, .val (.hd 1), .own ps, s3, s4, s5, .val (.lst BL), .val (.tup O), .val (.lst EE), s9, .val (.int c), s11, s12, s13, s14, s15, s16, .no], st))
    (fl : F.length = w) (co : Pv.cutD O none (some c) = OC) (cb : Pv.cutD BL none (some (w : Int)) = BW)
    (fr : Fc k "frames" [.tup OC] st = some (false, .tup [.tup BW, .int q], st)) (q0 : w = 0 → q = 0) (qe : 0 < w → atI EE ((w : Int) - 1) = some (.int q)) (hp : ps.length < lim) :
    exSs (T k) law_b3 [s0, .val (.hd 1), .own ps, s3, s4, s5, .val (.lst BL), .val (.tup O), E8, s9, .val (.int c), s11, s12, s13, s14, s15, s16, s17] st = some (.nx, [s0, .val (.hd 1), .own (ps ++ [pr (.tup [.tup BW, .int q])]), s3, s4, s5, .val (.lst BL), .val (.tup O), .val (.lst EE), s9, .val (.int c), .val (.int w), s12, s13, s14, s15, s16, .no], st) := by
  have m2 : (2 : Nat) ≤ lim := by decide
  have L : evE (T k) (.lc law_e1 (.n 17) (.val (.v 8)) (.so law_c2) [("end", 17)]) [s0, .val (.hd 1), .own ps, s3, s4, s5, .val (.lst BL), .val (.tup O), E8, s9, .val (.int c), s11, s12, s13, s14, s15, s16, s17] st = some (true, .lst F, [s0, .val (.hd 1), .own ps, s3, s4, s5, .val (.lst BL), .val (.tup O), .val (.lst EE), s9, .val (.int c), s11, s12, s13, s14, s15, s16, .no], st) :=
    ev_lc (xs := EE) (ρ1 := [s0, .val (.hd 1), .own ps, s3, s4, s5, .val (.lst BL), .val (.tup O), .val (.lst EE), s9, .val (.int c), s11, s12, s13, s14, s15, s16, s17]) (st1 := st) (by rcases h8 with rfl | rfl <;> simp [exSs, exS, evE, evEs, evT, Pv.evI, evC, evTg, evTgs, evO, vv, up, one, retE, Option.bind_eq_bind, Option.bind_some, Option.map_some, Option.pure_def, List.getElem?_cons_zero, List.getElem?_cons_succ, List.set_cons_zero, List.set_cons_succ, asgN, asgSub, setIx, opD, addD, mulD, biD, cmpD, ixD, ixL, lenD, slotSeq, slotLst, truD, List.length_cons, List.length_nil, if_true, if_false, Bool.false_eq_true, reduceIte, mthHR, mthR, mtD, slD, seqOf, wipeE, Tgs.len, Pv.unpack, Option.map_none, Option.bind_none, augD, revD, List.map_cons, List.map_nil, isiD, ty, List.any_cons, List.any_nil]) lc
  unfold law_b3
  generalize E.lc law_e1 _ _ _ _ = LC at L ⊢
  refine (sq (ρ1 := [s0, .val (.hd 1), .own ps, s3, s4, s5, .val (.lst BL), .val (.tup O), .val (.lst EE), s9, .val (.int c), .val (.int w), s12, s13, s14, s15, s16, .no]) (st1 := st) (by simp [exSs, exS, evE, evEs, evT, Pv.evI, evC, evTg, evTgs, evO, vv, up, one, retE, Option.bind_eq_bind, Option.bind_some, Option.map_some, Option.pure_def, List.getElem?_cons_zero, List.getElem?_cons_succ, List.set_cons_zero, List.set_cons_succ, asgN, asgSub, setIx, opD, addD, mulD, biD, cmpD, ixD, ixL, lenD, slotSeq, slotLst, truD, List.length_cons, List.length_nil, if_true, if_false, Bool.false_eq_true, reduceIte, mthHR, mthR, mtD, slD, seqOf, wipeE, Tgs.len, Pv.unpack, Option.map_none, Option.bind_none, augD, revD, List.map_cons, List.map_nil, isiD, ty, List.any_cons, List.any_nil, L, fl])).trans ?_
  by_cases hw : w = 0
  · have := q0 hw
    subst hw this
    have cb0 : Pv.cutD BL none (some 0) = BW := cb
    exact sq1 (by simp [exSs, exS, evE, evEs, evT, Pv.evI, evC, evTg, evTgs, evO, vv, up, one, retE, Option.bind_eq_bind, Option.bind_some, Option.map_some, Option.pure_def, List.getElem?_cons_zero, List.getElem?_cons_succ, List.set_cons_zero, List.set_cons_succ, asgN, asgSub, setIx, opD, addD, mulD, biD, cmpD, ixD, ixL, lenD, slotSeq, slotLst, truD, List.length_cons, List.length_nil, if_true, if_false, Bool.false_eq_true, reduceIte, mthHR, mthR, mtD, slD, seqOf, wipeE, Tgs.len, Pv.unpack, Option.map_none, Option.bind_none, augD, revD, List.map_cons, List.map_nil, isiD, ty, List.any_cons, List.any_nil, co, cb0, fr, m2, hp, pr])
  · have h0 : 0 < w := by omega
    have h1 : (0 : Int) < (w : Int) := by omega
    have a := qe h0
    exact sq1 (by simp [exSs, exS, evE, evEs, evT, Pv.evI, evC, evTg, evTgs, evO, vv, up, one, retE, Option.bind_eq_bind, Option.bind_some, Option.map_some, Option.pure_def, List.getElem?_cons_zero, List.getElem?_cons_succ, List.set_cons_zero, List.set_cons_succ, asgN, asgSub, setIx, opD, addD, mulD, biD, cmpD, ixD, ixL, lenD, slotSeq, slotLst, truD, List.length_cons, List.length_nil, if_true, if_false, Bool.false_eq_true, reduceIte, mthHR, mthR, mtD, slD, seqOf, wipeE, Tgs.len, Pv.unpack, Option.map_none, Option.bind_none, augD, revD, List.map_cons, List.map_nil, isiD, ty, List.any_cons, List.any_nil, co, cb, fr, m2, hp, pr, h0, h1, a])
theorem b3_ok (k : Nat) (st : Sto) (L : List (List Int)) (hx : octs (rowI L)) (hl : (rowI L).length ≤ 50000) (hL : L.length ≤ 900) (hf : L.flatten.length ≤ 50000) (c : Nat) (hc : c ≤ (rowI L).length) (ps : List D) (n : Nat) (hn : n ≤ 50000) (hp : Good ps n) (E8 s17 : Sl)
    (h8 : E8 = .own (lo (endF 0 L)) ∨ E8 = .val (.lst (lo (endF 0 L)))) :
    ∃ ps' s11', exSs (T (k + 4)) law_b3 [s0, .val (.hd 1), .own ps, s3, s4, s5, .val (.lst (bods L)), .val (.tup (lo (rowI L))), E8, s9, .val (.int c), s11, s12, s13, s14, s15, s16, s17] st = some (.nx, [s0, .val (.hd 1), .own ps', s3, s4, s5, .val (.lst (bods L)), .val (.tup (lo (rowI L))), .val (.lst (lo (endF 0 L))), s9, .val (.int c), s11', s12, s13, s14, s15, s16, .no], st) ∧ Good ps' (n + 1) := by
  obtain ⟨w, tl, hw, e, ht, ef⟩ := cut_split L 0 c hc
  have fr := frames_cut k st L c w tl hx hl (by omega) e ht
  have lc := ends_lc (k := k + 4) (s0 := s0) (s1 := .val (.hd 1)) (s2 := .own ps) (s3 := s3) (s4 := s4) (s5 := s5) (s6 := .val (.lst (bods L))) (s7 := .val (.tup (lo (rowI L)))) (s8 := .val (.lst (lo (endF 0 L)))) (s9 := s9) (s11 := s11) (s12 := s12) (s13 := s13) (s14 := s14) (s15 := s15) (s16 := s16) st c (endF 0 L) [] (by rw [endF_len]; simp; omega)
  rw [Nat.zero_add] at ef
  rw [List.nil_append, ef] at lc
  have le : (lo (endF 0 (L.take w))).length = w := by simp [lo, endF_len]; omega
  have fs : (L.take w).flatten.length ≤ L.flatten.length := by
    conv => rhs; rw [← List.take_append_drop w L]
    rw [List.flatten_append, List.length_append]; omega
  have ok := ok_row (L.take w) ((rowI (L.take w)).length : Int) (by omega) (by rw [List.length_take]; omega)
  refine ⟨_, _, b3_run h8 lc le ((cut_to _ c).trans (lo_take _ c)) ((cut_to _ w).trans (bods_take L w)) fr (fun h0 => ?_) (fun h0 => ?_) (hp.lt (by omega)), hp.app ok⟩
  · subst h0; simp [rowI]
  · have := endF_get L 0 (w - 1) (by omega)
    rw [show w - 1 + 1 = w by omega, Nat.zero_add] at this
    rw [show (w : Int) - 1 = ((w - 1 : Nat) : Int) by omega]
    exact atI_nat (by rw [List.getElem?_map, this]; rfl)
theorem b4_loop {s17 : Sl} (k : Nat) (st : Sto) : ∀ (L pre : List (List Int)) (s9 : Sl), (∀ b ∈ L, octs b ∧ b.length ≤ 1000) → (rowI (pre ++ L)).length ≤ 50000 → (pre ++ L).length ≤ 900 → ∃ u9,
    forL (evTg (T (k + 2)) (.n 9)) (exSs (T (k + 2)) law_b4) (bods L) [s0, .val (.hd 1), s2, s3, s4, s5, s6, .val (.tup (lo (rowI pre))), .own (lo (endF 0 pre)), s9, s10, s11, s12, s13, s14, s15, s16, s17] st = some (.nx, [s0, .val (.hd 1), s2, s3, s4, s5, s6, .val (.tup (lo (rowI (pre ++ L)))), .own (lo (endF 0 (pre ++ L))), u9, s10, s11, s12, s13, s14, s15, s16, s17], st)
  | [], pre, s9, _, _, _ => ⟨s9, by simp [forL, bods]⟩
  | b :: r, pre, s9, h, hl, hL => by
    have e : pre ++ b :: r = (pre ++ [b]) ++ r := by simp
    rw [e] at hl hL ⊢
    obtain ⟨u9, ih⟩ := b4_loop k st r (pre ++ [b]) (.val (.tup (lo b))) (fun c hc => h c (List.mem_cons_of_mem _ hc)) hl hL
    refine ⟨u9, ?_⟩
    rw [← ih]
    have hb := h b List.mem_cons_self
    have lf := lfr_ok k st b hb.1 (by omega)
    have r1 : lo (rowI (pre ++ [b])) = lo (rowI pre) ++ lo (frI b) := by rw [rowI_app, lo_app]; simp [rowI]
    have en : ∀ (p : Nat) (A : List (List Int)), endF p (A ++ [b]) = endF p A ++ [((p + (rowI A).length + (frI b).length : Nat) : Int)] := fun p A => by
      induction A generalizing p with
      | nil => simp [endF, rowI]
      | cons a A ih =>
        rw [List.cons_append, endF, ih, rowI_cons, List.length_append]
        simp [endF, Nat.add_assoc]
    have e2 : lo (endF 0 (pre ++ [b])) = lo (endF 0 pre) ++ [.int (((lo (rowI pre)).length : Int) + (lo (frI b)).length)] := by
      rw [en]; simp [lo]
    have l1 : (lo (rowI pre)).length + (lo (frI b)).length ≤ lim := by
      rw [← List.length_append, ← r1]
      rw [rowI_app, List.length_append] at hl
      unfold lim; simp [lo]; omega
    have l2 : (lo (endF 0 pre)).length < lim := by
      simp at hL
      unfold lim; simp [lo, endF_len]; omega
    rw [r1, e2]
    show forL _ _ (.tup (lo b) :: bods r) _ _ = _
    generalize lo (rowI pre) = R at *
    generalize lo (endF 0 pre) = EE at *
    generalize lo (frI b) = FB at *
    generalize lo b = B at *
    have t1 : evTg (T (k + 2)) (.n 9) (.tup B) [s0, .val (.hd 1), s2, s3, s4, s5, s6, .val (.tup R), .own EE, s9, s10, s11, s12, s13, s14, s15, s16, s17] st = some ([s0, .val (.hd 1), s2, s3, s4, s5, s6, .val (.tup R), .own EE, .val (.tup B), s10, s11, s12, s13, s14, s15, s16, s17], st) := by simp [exSs, exS, evE, evEs, evT, Pv.evI, evC, evTg, evTgs, evO, vv, up, one, retE, Option.bind_eq_bind, Option.bind_some, Option.map_some, Option.pure_def, List.getElem?_cons_zero, List.getElem?_cons_succ, List.set_cons_zero, List.set_cons_succ, asgN, asgSub, setIx, opD, addD, mulD, biD, cmpD, ixD, ixL, lenD, slotSeq, slotLst, truD, List.length_cons, List.length_nil, if_true, if_false, Bool.false_eq_true, reduceIte, mthHR, mthR, mtD, slD, seqOf, wipeE, Tgs.len, Pv.unpack, Option.map_none, Option.bind_none, augD, revD, List.map_cons, List.map_nil, isiD, ty, List.any_cons, List.any_nil]
    have t2 : exSs (T (k + 2)) law_b4 [s0, .val (.hd 1), s2, s3, s4, s5, s6, .val (.tup R), .own EE, .val (.tup B), s10, s11, s12, s13, s14, s15, s16, s17] st = some (.nx, [s0, .val (.hd 1), s2, s3, s4, s5, s6, .val (.tup (R ++ FB)), .own (EE ++ [.int ((R.length : Int) + FB.length)]), .val (.tup B), s10, s11, s12, s13, s14, s15, s16, s17], st) := by
      unfold law_b4
      refine (sq (ρ1 := [s0, .val (.hd 1), s2, s3, s4, s5, s6, .val (.tup (R ++ FB)), .own EE, .val (.tup B), s10, s11, s12, s13, s14, s15, s16, s17]) (st1 := st) (by simp [exSs, exS, evE, evEs, evT, Pv.evI, evC, evTg, evTgs, evO, vv, up, one, retE, Option.bind_eq_bind, Option.bind_some, Option.map_some, Option.pure_def, List.getElem?_cons_zero, List.getElem?_cons_succ, List.set_cons_zero, List.set_cons_succ, asgN, asgSub, setIx, opD, addD, mulD, biD, cmpD, ixD, ixL, lenD, slotSeq, slotLst, truD, List.length_cons, List.length_nil, if_true, if_false, Bool.false_eq_true, reduceIte, mthHR, mthR, mtD, slD, seqOf, wipeE, Tgs.len, Pv.unpack, Option.map_none, Option.bind_none, augD, revD, List.map_cons, List.map_nil, isiD, ty, List.any_cons, List.any_nil, lf, l1])).trans ?_
      exact sq1 (by simp [exSs, exS, evE, evEs, evT, Pv.evI, evC, evTg, evTgs, evO, vv, up, one, retE, Option.bind_eq_bind, Option.bind_some, Option.map_some, Option.pure_def, List.getElem?_cons_zero, List.getElem?_cons_succ, List.set_cons_zero, List.set_cons_succ, asgN, asgSub, setIx, opD, addD, mulD, biD, cmpD, ixD, ixL, lenD, slotSeq, slotLst, truD, List.length_cons, List.length_nil, if_true, if_false, Bool.false_eq_true, reduceIte, mthHR, mthR, mtD, slD, seqOf, wipeE, Tgs.len, Pv.unpack, Option.map_none, Option.bind_none, augD, revD, List.map_cons, List.map_nil, isiD, ty, List.any_cons, List.any_nil, l2])
    have t1' := t1
    have t2' := t2
    simp only [forL, t1, t2, Option.bind_eq_bind, Option.bind_some]
end
end Lk69

namespace Lk69
open PySem PySem.Spec PyProof.Rows L2 Pv
section
variable {s0 s1 s2 s3 s4 s5 s6 s7 s8 s9 s10 s11 s12 s13 s14 s15 s16 s17 : Sl}
/-- drawn bodies -/
theorem inner_lc (k : Nat) (st0 st : Sto) (hst : Deal st) (n : Int) (hn : n ≤ 10) (it : I) (ρ0 : Pv.Env) (hi0 : Pv.evI (T (k + 3)) it ρ0 st0 = some (rngL 0 n 1, [s0, .val (.hd 1), s2, s3, s4, s5, s6, s7, s8, s9, s10, s11, s12, s13, s14, s15, s16, s17], st)) :
    ∃ (L : List (List Int)) (st' : Sto), evE (T (k + 3)) (.lc law_e6 (.n 9) it .no [("body", 9)]) ρ0 st0 = some (true, .lst (bods L), [s0, .val (.hd 1), s2, s3, s4, s5, s6, s7, s8, .no, s10, s11, s12, s13, s14, s15, s16, s17], st') ∧ L.length = n.toNat ∧ (∀ b ∈ L, octs b ∧ b.length ≤ 12) ∧ Deal st' := by
  obtain ⟨acc, ρ', st', h, hj⟩ := lc_all (asg := evTg (T (k + 3)) (.n 9)) (c := evC (T (k + 3)) .no) (e := fun ρ st => vv (evE (T (k + 3)) law_e6 ρ st)) (vs := [9]) (fun ρ st => by simp only [evC]) (fun i acc ρ st' => (∃ L : List (List Int), acc = bods L ∧ L.length = i ∧ ∀ b ∈ L, octs b ∧ b.length ≤ 12) ∧ ρ = [s0, .val (.hd 1), s2, s3, s4, s5, s6, s7, s8, .no, s10, s11, s12, s13, s14, s15, s16, s17] ∧ Deal st') (rngL 0 n 1) 0 [] [s0, .val (.hd 1), s2, s3, s4, s5, s6, s7, s8, .no, s10, s11, s12, s13, s14, s15, s16, s17] st (by rw [rng_len]; unfold lim; simp; omega) (fun i d acc ρ st' hi hj => by
    obtain ⟨⟨L, rfl, hl, hb⟩, rfl, hd⟩ := hj
    obtain ⟨b, st1, eb, hx, hbl, d1⟩ := body_ok k hd 12 (by decide) (by decide)
    refine ⟨[s0, .val (.hd 1), s2, s3, s4, s5, s6, s7, s8, .val d, s10, s11, s12, s13, s14, s15, s16, s17], st', by simp [exSs, exS, evE, evEs, evT, Pv.evI, evC, evTg, evTgs, evO, vv, up, one, retE, Option.bind_eq_bind, Option.bind_some, Option.map_some, Option.pure_def, List.getElem?_cons_zero, List.getElem?_cons_succ, List.set_cons_zero, List.set_cons_succ, asgN, asgSub, setIx, opD, addD, mulD, biD, cmpD, ixD, ixL, lenD, slotSeq, slotLst, truD, List.length_cons, List.length_nil, if_true, if_false, Bool.false_eq_true, reduceIte, mthHR, mthR, mtD, slD, seqOf, wipeE, Tgs.len, Pv.unpack, Option.map_none, Option.bind_none, augD, revD, List.map_cons, List.map_nil, isiD, ty, List.any_cons, List.any_nil], .tup (lo b), [s0, .val (.hd 1), s2, s3, s4, s5, s6, s7, s8, .val d, s10, s11, s12, s13, s14, s15, s16, s17], st1, ?_, ⟨L ++ [b], by simp [bods], by simp [hl], fun c hc => (List.mem_append.mp hc).elim (hb c) fun z => by rw [List.mem_singleton.mp z]; exact ⟨hx, by omega⟩⟩, by simp [wipeE], d1⟩
    generalize lo b = B at eb ⊢
    simp [law_e6, exSs, exS, evE, evEs, evT, Pv.evI, evC, evTg, evTgs, evO, vv, up, one, retE, Option.bind_eq_bind, Option.bind_some, Option.map_some, Option.pure_def, List.getElem?_cons_zero, List.getElem?_cons_succ, List.set_cons_zero, List.set_cons_succ, asgN, asgSub, setIx, opD, addD, mulD, biD, cmpD, ixD, ixL, lenD, slotSeq, slotLst, truD, List.length_cons, List.length_nil, if_true, if_false, Bool.false_eq_true, reduceIte, mthHR, mthR, mtD, slD, seqOf, wipeE, Tgs.len, Pv.unpack, Option.map_none, Option.bind_none, augD, revD, List.map_cons, List.map_nil, isiD, ty, List.any_cons, List.any_nil, eb]) ⟨⟨[], rfl, rfl, fun _ h => by cases h⟩, rfl, hst⟩
  obtain ⟨⟨L, rfl, hl, hb⟩, rfl, hd⟩ := hj
  rw [rng_len] at hl
  exact ⟨L, st', ev_lc hi0 h, by omega, hb, hd⟩
/-- their frames -/
theorem frm_lc (k : Nat) (st : Sto) (L : List (List Int)) (hb : ∀ b ∈ L, octs b ∧ b.length ≤ 1000) (hl : L.length ≤ 1000) (E4 : Sl) (h4 : E4 = .own (bods L) ∨ E4 = .val (.lst (bods L))) :
    evE (T (k + 2)) (.lc law_e5 (.n 9) (.val (.v 4)) .no [("body", 9)]) [s0, .val (.hd 1), s2, s3, E4, s5, s6, s7, s8, s9, s10, s11, s12, s13, s14, s15, s16, s17] st = some (true, .lst (bods (L.map frI)), [s0, .val (.hd 1), s2, s3, .val (.lst (bods L)), s5, s6, s7, s8, .no, s10, s11, s12, s13, s14, s15, s16, s17], st) := by
  obtain ⟨acc, ρ', st', h, hj⟩ := lc_all (asg := evTg (T (k + 2)) (.n 9)) (c := evC (T (k + 2)) .no) (e := fun ρ st => vv (evE (T (k + 2)) law_e5 ρ st)) (vs := [9]) (fun ρ st => by simp only [evC]) (fun i acc ρ st' => acc = bods ((L.take i).map frI) ∧ ρ = [s0, .val (.hd 1), s2, s3, .val (.lst (bods L)), s5, s6, s7, s8, .no, s10, s11, s12, s13, s14, s15, s16, s17] ∧ st' = st) (bods L) 0 [] [s0, .val (.hd 1), s2, s3, .val (.lst (bods L)), s5, s6, s7, s8, .no, s10, s11, s12, s13, s14, s15, s16, s17] st (by unfold lim; simp [bods]; omega) (fun i d acc ρ st' hi hj => by
    obtain ⟨rfl, rfl, rfl⟩ := hj
    rw [List.getElem?_map] at hi
    cases hg : L[i]? with
    | none => rw [hg] at hi; cases hi
    | some b =>
      rw [hg] at hi
      cases hi
      have hb := hb b (List.mem_of_getElem? hg)
      have lf := lfr_ok k st' b hb.1 (by omega)
      refine ⟨[s0, .val (.hd 1), s2, s3, .val (.lst (bods L)), s5, s6, s7, s8, .val (.tup (lo b)), s10, s11, s12, s13, s14, s15, s16, s17], st', by simp [exSs, exS, evE, evEs, evT, Pv.evI, evC, evTg, evTgs, evO, vv, up, one, retE, Option.bind_eq_bind, Option.bind_some, Option.map_some, Option.pure_def, List.getElem?_cons_zero, List.getElem?_cons_succ, List.set_cons_zero, List.set_cons_succ, asgN, asgSub, setIx, opD, addD, mulD, biD, cmpD, ixD, ixL, lenD, slotSeq, slotLst, truD, List.length_cons, List.length_nil, if_true, if_false, Bool.false_eq_true, reduceIte, mthHR, mthR, mtD, slD, seqOf, wipeE, Tgs.len, Pv.unpack, Option.map_none, Option.bind_none, augD, revD, List.map_cons, List.map_nil, isiD, ty, List.any_cons, List.any_nil], .tup (lo (frI b)), [s0, .val (.hd 1), s2, s3, .val (.lst (bods L)), s5, s6, s7, s8, .val (.tup (lo b)), s10, s11, s12, s13, s14, s15, s16, s17], st', ?_, ?_, by simp [wipeE], rfl⟩
      · generalize lo b = B at lf ⊢
        generalize lo (frI b) = FB at lf ⊢
        generalize bods L = LL
        simp [law_e5, exSs, exS, evE, evEs, evT, Pv.evI, evC, evTg, evTgs, evO, vv, up, one, retE, Option.bind_eq_bind, Option.bind_some, Option.map_some, Option.pure_def, List.getElem?_cons_zero, List.getElem?_cons_succ, List.set_cons_zero, List.set_cons_succ, asgN, asgSub, setIx, opD, addD, mulD, biD, cmpD, ixD, ixL, lenD, slotSeq, slotLst, truD, List.length_cons, List.length_nil, if_true, if_false, Bool.false_eq_true, reduceIte, mthHR, mthR, mtD, slD, seqOf, wipeE, Tgs.len, Pv.unpack, Option.map_none, Option.bind_none, augD, revD, List.map_cons, List.map_nil, isiD, ty, List.any_cons, List.any_nil, lf]
      · rw [Nat.zero_add, List.take_add_one, hg]; simp [bods]) ⟨by simp [bods], rfl, rfl⟩
  obtain ⟨rfl, rfl, rfl⟩ := hj
  rw [Nat.zero_add, List.take_of_length_le (by simp [bods])] at h
  exact ev_lc (xs := bods L) (ρ1 := [s0, .val (.hd 1), s2, s3, .val (.lst (bods L)), s5, s6, s7, s8, s9, s10, s11, s12, s13, s14, s15, s16, s17]) (st1 := st') (by
    generalize bods L = LL at h4 ⊢
    rcases h4 with rfl | rfl <;> simp [exSs, exS, evE, evEs, evT, Pv.evI, evC, evTg, evTgs, evO, vv, up, one, retE, Option.bind_eq_bind, Option.bind_some, Option.map_some, Option.pure_def, List.getElem?_cons_zero, List.getElem?_cons_succ, List.set_cons_zero, List.set_cons_succ, asgN, asgSub, setIx, opD, addD, mulD, biD, cmpD, ixD, ixL, lenD, slotSeq, slotLst, truD, List.length_cons, List.length_nil, if_true, if_false, Bool.false_eq_true, reduceIte, mthHR, mthR, mtD, slD, seqOf, wipeE, Tgs.len, Pv.unpack, Option.map_none, Option.bind_none, augD, revD, List.map_cons, List.map_nil, isiD, ty, List.any_cons, List.any_nil]) h
/-- drawn cuts -/
theorem cuts_lc (k : Nat) (st : Sto) (hst : Deal st) (O : List D) (hO : O.length ≤ 100000) (r4 : rngD [.int 4] = some (rngL 0 4 1)) :
    ∃ (cs : List Int) (st' : Sto), evE (T (k + 1)) (.lc law_e0 (.n 16) (.rng (.cons (.k (.int 4)) .nil)) .no [("more", 16)]) [s0, .val (.hd 1), s2, s3, s4, s5, s6, .val (.tup O), s8, s9, s10, s11, s12, s13, s14, s15, s16, s17] st = some (true, .lst (lo cs), [s0, .val (.hd 1), s2, s3, s4, s5, s6, .val (.tup O), s8, s9, s10, s11, s12, s13, s14, s15, .no, s17], st') ∧ cs.length = 4 ∧ (∀ c ∈ cs, 0 ≤ c ∧ c ≤ (O.length : Int)) ∧ Deal st' := by
  obtain ⟨acc, ρ', st', h, hj⟩ := lc_all (asg := evTg (T (k + 1)) (.n 16)) (c := evC (T (k + 1)) .no) (e := fun ρ st => vv (evE (T (k + 1)) law_e0 ρ st)) (vs := [16]) (fun ρ st => by simp only [evC]) (fun i acc ρ st' => (∃ cs : List Int, acc = lo cs ∧ cs.length = i ∧ ∀ c ∈ cs, 0 ≤ c ∧ c ≤ (O.length : Int)) ∧ ρ = [s0, .val (.hd 1), s2, s3, s4, s5, s6, .val (.tup O), s8, s9, s10, s11, s12, s13, s14, s15, .no, s17] ∧ Deal st') (rngL 0 4 1) 0 [] [s0, .val (.hd 1), s2, s3, s4, s5, s6, .val (.tup O), s8, s9, s10, s11, s12, s13, s14, s15, .no, s17] st (by rw [rng_len]; unfold lim; simp) (fun i d acc ρ st' hi hj => by
    obtain ⟨⟨cs, rfl, hl, hb⟩, rfl, hd⟩ := hj
    obtain ⟨r, st1, er, r0, r1, d1⟩ := anyF k (b := (O.length : Int) + 1) (by omega) (by omega) hd
    refine ⟨[s0, .val (.hd 1), s2, s3, s4, s5, s6, .val (.tup O), s8, s9, s10, s11, s12, s13, s14, s15, .val d, s17], st', by simp [exSs, exS, evE, evEs, evT, Pv.evI, evC, evTg, evTgs, evO, vv, up, one, retE, Option.bind_eq_bind, Option.bind_some, Option.map_some, Option.pure_def, List.getElem?_cons_zero, List.getElem?_cons_succ, List.set_cons_zero, List.set_cons_succ, asgN, asgSub, setIx, opD, addD, mulD, biD, cmpD, ixD, ixL, lenD, slotSeq, slotLst, truD, List.length_cons, List.length_nil, if_true, if_false, Bool.false_eq_true, reduceIte, mthHR, mthR, mtD, slD, seqOf, wipeE, Tgs.len, Pv.unpack, Option.map_none, Option.bind_none, augD, revD, List.map_cons, List.map_nil, isiD, ty, List.any_cons, List.any_nil], .int r, [s0, .val (.hd 1), s2, s3, s4, s5, s6, .val (.tup O), s8, s9, s10, s11, s12, s13, s14, s15, .val d, s17], st1, ?_, ⟨cs ++ [r], by simp [lo], by simp [hl], fun c hc => (List.mem_append.mp hc).elim (hb c) fun z => by rw [List.mem_singleton.mp z]; exact ⟨r0, by omega⟩⟩, by simp [wipeE], d1⟩
    simp [law_e0, exSs, exS, evE, evEs, evT, Pv.evI, evC, evTg, evTgs, evO, vv, up, one, retE, Option.bind_eq_bind, Option.bind_some, Option.map_some, Option.pure_def, List.getElem?_cons_zero, List.getElem?_cons_succ, List.set_cons_zero, List.set_cons_succ, asgN, asgSub, setIx, opD, addD, mulD, biD, cmpD, ixD, ixL, lenD, slotSeq, slotLst, truD, List.length_cons, List.length_nil, if_true, if_false, Bool.false_eq_true, reduceIte, mthHR, mthR, mtD, slD, seqOf, wipeE, Tgs.len, Pv.unpack, Option.map_none, Option.bind_none, augD, revD, List.map_cons, List.map_nil, isiD, ty, List.any_cons, List.any_nil, er]) ⟨⟨[], rfl, rfl, fun _ h => by cases h⟩, rfl, hst⟩
  obtain ⟨⟨cs, rfl, hl, hb⟩, rfl, hd⟩ := hj
  rw [rng_len] at hl
  exact ⟨cs, st', ev_lc (xs := rngL 0 4 1) (ρ1 := [s0, .val (.hd 1), s2, s3, s4, s5, s6, .val (.tup O), s8, s9, s10, s11, s12, s13, s14, s15, s16, s17]) (st1 := st) (by simp [exSs, exS, evE, evEs, evT, Pv.evI, evC, evTg, evTgs, evO, vv, up, one, retE, Option.bind_eq_bind, Option.bind_some, Option.map_some, Option.pure_def, List.getElem?_cons_zero, List.getElem?_cons_succ, List.set_cons_zero, List.set_cons_succ, asgN, asgSub, setIx, opD, addD, mulD, biD, cmpD, ixD, ixL, lenD, slotSeq, slotLst, truD, List.length_cons, List.length_nil, if_true, if_false, Bool.false_eq_true, reduceIte, mthHR, mthR, mtD, slD, seqOf, wipeE, Tgs.len, Pv.unpack, Option.map_none, Option.bind_none, augD, revD, List.map_cons, List.map_nil, isiD, ty, List.any_cons, List.any_nil, r4]) h, hl, hb, hd⟩
theorem b7_run {st st1 st2 st3 st4 st5 st6 st7 : Sto} {ps dp INL FRS R R' B0 B2 O EE X FX INd p9 C8 B V BW CA CB : List D} {e0 e2 q q' v r : Int} {a s : Nat} {u9 u10 u11 : Sl}
    (hd : Fc 11 "_law_deep_pairs" [.hd 1] st = some (true, .lst dp, st1))
    (eI : evE (T 11) (.lc law_e6 (.n 9) (.rng (.cons (.op .Add (.k (.int 2)) (.call "_law_any" (.cons (.v 1) (.cons (.k (.int 2)) .nil)))) .nil)) .no [("body", 9)]) [s0, .val (.hd 1), .own (ps ++ dp), s3, s4, s5, s6, s7, s8, s9, s10, s11, s12, s13, s14, s15, s16, s17] st1 = some (true, .lst INL, [s0, .val (.hd 1), .own (ps ++ dp), s3, s4, s5, s6, s7, s8, .no, s10, s11, s12, s13, s14, s15, s16, s17], st2))
    (eF : evE (T 11) (.lc law_e5 (.n 9) (.val (.v 4)) .no [("body", 9)]) [s0, .val (.hd 1), .own (ps ++ dp), s3, .own INL, s5, s6, s7, s8, .no, s10, s11, s12, s13, s14, s15, s16, s17] st2 = some (true, .lst FRS, [s0, .val (.hd 1), .own (ps ++ dp), s3, .val (.lst INL), s5, s6, s7, s8, .no, s10, s11, s12, s13, s14, s15, s16, s17], st2))
    (fl : Fc 11 "_law_flat" [.lst FRS] st2 = some (true, .lst R, st2))
    (c1 : Fc 11 "_law_body" [.hd 1, .int 9] st2 = some (false, .tup B0, st3)) (c2 : Fc 11 "_law_body" [.hd 1, .int 200] st3 = some (false, .tup B2, st4)) (cR : Pv.cutD R none (some (-1)) = R')
    (l4 : forL (evTg (T 11) (.n 9)) (exSs (T 11) law_b4) [.tup B0, .tup R, .tup B2, .tup R'] [s0, .val (.hd 1), .own (ps ++ dp), s3, .val (.lst INL), .val (.tup R), .val (.lst [.tup B0, .tup R, .tup B2, .tup R']), .val (.tup []), .own [], .no, s10, s11, s12, s13, s14, s15, s16, s17] st4 = some (.nx, [s0, .val (.hd 1), .own (ps ++ dp), s3, .val (.lst INL), .val (.tup R), .val (.lst [.tup B0, .tup R, .tup B2, .tup R']), .val (.tup O), .own EE, u9, s10, s11, s12, s13, s14, s15, s16, s17], st4))
    (f1 : Fc 11 "frames" [.tup O] st4 = some (false, .tup [.tup [.tup B0, .tup R, .tup B2, .tup R'], .int (O.length : Int)], st4))
    (f2 : Fc 11 "frames" [.tup R] st4 = some (false, .tup [.tup INL, .int (R.length : Int)], st4))
    (cI : Pv.cutD INL none (some (-1)) = INd) (aI : atI INL (-1) = some (.tup X)) (f4 : Fc 11 "_law_frame" [.tup X] st4 = some (false, .tup FX, st4))
    (f3 : Fc 11 "frames" [.tup R'] st4 = some (false, .tup [.tup INd, .int ((R.length : Int) - FX.length)], st4))
    (a0 : atI EE 0 = some (.int e0)) (a2 : atI EE 2 = some (.int e2))
    (eC : evE (T 11) (.lc law_e0 (.n 16) (.rng (.cons (.k (.int 4)) .nil)) .no [("more", 16)]) [s0, .val (.hd 1), .own (ps ++ dp ++ [pr (.tup [.tup [.tup B0, .tup R, .tup B2, .tup R'], .int (O.length : Int)])] ++ [pr (.tup [.tup INL, .int (R.length : Int)])] ++ [pr (.tup [.tup INd, .int ((R.length : Int) - FX.length)])]), s3, .val (.lst INL), .val (.tup R), .val (.lst [.tup B0, .tup R, .tup B2, .tup R']), .val (.tup O), .own EE, u9, s10, s11, s12, s13, s14, s15, s16, s17] st4 = some (true, .lst C8, [s0, .val (.hd 1), .own (ps ++ dp ++ [pr (.tup [.tup [.tup B0, .tup R, .tup B2, .tup R'], .int (O.length : Int)])] ++ [pr (.tup [.tup INL, .int (R.length : Int)])] ++ [pr (.tup [.tup INd, .int ((R.length : Int) - FX.length)])]), s3, .val (.lst INL), .val (.tup R), .val (.lst [.tup B0, .tup R, .tup B2, .tup R']), .val (.tup O), .own EE, u9, s10, s11, s12, s13, s14, s15, .no, s17], st5))
    (l3 : forL (evTg (T 11) (.n 10)) (exSs (T 11) law_b3) ([.int e0, .int (e0 - 1), .int (e2 - 1), .int e2] ++ C8) [s0, .val (.hd 1), .own (ps ++ dp ++ [pr (.tup [.tup [.tup B0, .tup R, .tup B2, .tup R'], .int (O.length : Int)])] ++ [pr (.tup [.tup INL, .int (R.length : Int)])] ++ [pr (.tup [.tup INd, .int ((R.length : Int) - FX.length)])]), s3, .val (.lst INL), .val (.tup R), .val (.lst [.tup B0, .tup R, .tup B2, .tup R']), .val (.tup O), .own EE, u9, s10, s11, s12, s13, s14, s15, .no, s17] st5 = some (.nx, [s0, .val (.hd 1), .own p9, s3, .val (.lst INL), .val (.tup R), .val (.lst [.tup B0, .tup R, .tup B2, .tup R']), .val (.tup O), .val (.lst EE), u9, u10, u11, s12, s13, s14, s15, .no, .no], st5))
    (ea : Fc 11 "_law_any" [.hd 1, .int 4] st5 = some (false, .int a, st6))
    (aB : atI [D.tup B0, .tup R, .tup B2, .tup R'] (a : Int) = some (.tup B)) (aE : atI EE (a : Int) = some (.int q)) (hs : q - (if B.length = 0 then 1 else 3) = (s : Int))
    (aO : atI O (s : Int) = some (.int v)) (er : Fc 11 "_law_any" [.hd 1, .int 255] st6 = some (false, .int r, st7))
    (hA : Pv.cutD O none (some (s : Int)) = CA) (hB : Pv.cutD O (some ((s : Int) + 1)) none = CB) (hV : CA ++ [.int ((v + 1 + r) % 256)] ++ CB = V)
    (cB : Pv.cutD [D.tup B0, .tup R, .tup B2, .tup R'] none (some (a : Int)) = BW)
    (f5 : Fc 11 "frames" [.tup V] st7 = some (false, .tup [.tup BW, .int q'], st7)) (q0 : a = 0 → q' = 0) (qe : 0 < a → atI EE ((a : Int) - 1) = some (.int q'))
    (m1 : ps.length ≤ 10000) (m2 : dp.length ≤ 100) (m3 : R.length ≤ 10000) (m4 : O.length ≤ 50000) (m5 : C8.length ≤ 100) (m6 : p9.length ≤ 20000) (m7 : INL.length ≤ 100) (m8 : CA.length ≤ 50000) (m9 : CB.length ≤ 50000) :
    ∃ w4 w5 w6 w7 w8 w9 w10 w11 w12 w13 w14, exSs (T 11) law_b7 [s0, .val (.hd 1), .own ps, s3, s4, s5, s6, s7, s8, s9, s10, s11, s12, s13, s14, s15, s16, s17] st = some (.nx, [s0, .val (.hd 1), .own (p9 ++ [pr (.tup [.tup BW, .int q'])]), s3, w4, w5, w6, w7, w8, w9, w10, w11, w12, w13, w14, s15, .no, .no], st7) := by
  have g1 : (1 : Nat) ≤ lim := by decide
  have g2 : (2 : Nat) ≤ lim := by decide
  have g4 : (4 : Nat) ≤ lim := by decide
  have h1 : ps.length + dp.length ≤ lim := by unfold lim; omega
  have hP : (ps ++ dp).length ≤ 10100 := by rw [List.length_append]; omega
  unfold law_b7
  refine ⟨.val (.lst INL), .val (.tup R), .val (.lst [.tup B0, .tup R, .tup B2, .tup R']), .val (.tup O), .val (.lst EE), u9, u10, u11, .val (.int a), .val (.int s), .val (.tup V), ?_⟩
  refine (sq (ρ1 := [s0, .val (.hd 1), .own (ps ++ dp), s3, s4, s5, s6, s7, s8, s9, s10, s11, s12, s13, s14, s15, s16, s17]) (st1 := st1) (by simp [exSs, exS, evE, evEs, evT, Pv.evI, evC, evTg, evTgs, evO, vv, up, one, retE, Option.bind_eq_bind, Option.bind_some, Option.map_some, Option.pure_def, List.getElem?_cons_zero, List.getElem?_cons_succ, List.set_cons_zero, List.set_cons_succ, asgN, asgSub, setIx, opD, addD, mulD, biD, cmpD, ixD, ixL, lenD, slotSeq, slotLst, truD, List.length_cons, List.length_nil, if_true, if_false, Bool.false_eq_true, reduceIte, mthHR, mthR, mtD, slD, seqOf, wipeE, Tgs.len, Pv.unpack, Option.map_none, Option.bind_none, augD, revD, List.map_cons, List.map_nil, isiD, ty, List.any_cons, List.any_nil, hd, h1])).trans ?_
  generalize ps ++ dp = P at *
  generalize E.lc law_e6 _ _ _ _ = LC6 at eI ⊢
  generalize E.lc law_e5 _ _ _ _ = LC5 at eF ⊢
  generalize E.lc law_e0 _ _ _ _ = LC0 at eC ⊢
  refine (sq (ρ1 := [s0, .val (.hd 1), .own P, s3, .own INL, s5, s6, s7, s8, .no, s10, s11, s12, s13, s14, s15, s16, s17]) (st1 := st2) (by simp [exSs, exS, evE, evEs, evT, Pv.evI, evC, evTg, evTgs, evO, vv, up, one, retE, Option.bind_eq_bind, Option.bind_some, Option.map_some, Option.pure_def, List.getElem?_cons_zero, List.getElem?_cons_succ, List.set_cons_zero, List.set_cons_succ, asgN, asgSub, setIx, opD, addD, mulD, biD, cmpD, ixD, ixL, lenD, slotSeq, slotLst, truD, List.length_cons, List.length_nil, if_true, if_false, Bool.false_eq_true, reduceIte, mthHR, mthR, mtD, slD, seqOf, wipeE, Tgs.len, Pv.unpack, Option.map_none, Option.bind_none, augD, revD, List.map_cons, List.map_nil, isiD, ty, List.any_cons, List.any_nil, eI])).trans ?_
  refine (sq (ρ1 := [s0, .val (.hd 1), .own P, s3, .val (.lst INL), .val (.tup R), s6, s7, s8, .no, s10, s11, s12, s13, s14, s15, s16, s17]) (st1 := st2) (by simp [exSs, exS, evE, evEs, evT, Pv.evI, evC, evTg, evTgs, evO, vv, up, one, retE, Option.bind_eq_bind, Option.bind_some, Option.map_some, Option.pure_def, List.getElem?_cons_zero, List.getElem?_cons_succ, List.set_cons_zero, List.set_cons_succ, asgN, asgSub, setIx, opD, addD, mulD, biD, cmpD, ixD, ixL, lenD, slotSeq, slotLst, truD, List.length_cons, List.length_nil, if_true, if_false, Bool.false_eq_true, reduceIte, mthHR, mthR, mtD, slD, seqOf, wipeE, Tgs.len, Pv.unpack, Option.map_none, Option.bind_none, augD, revD, List.map_cons, List.map_nil, isiD, ty, List.any_cons, List.any_nil, eF, fl])).trans ?_
  refine (sq (ρ1 := [s0, .val (.hd 1), .own P, s3, .val (.lst INL), .val (.tup R), .own [.tup B0, .tup R, .tup B2, .tup R'], s7, s8, .no, s10, s11, s12, s13, s14, s15, s16, s17]) (st1 := st4) (by simp [exSs, exS, evE, evEs, evT, Pv.evI, evC, evTg, evTgs, evO, vv, up, one, retE, Option.bind_eq_bind, Option.bind_some, Option.map_some, Option.pure_def, List.getElem?_cons_zero, List.getElem?_cons_succ, List.set_cons_zero, List.set_cons_succ, asgN, asgSub, setIx, opD, addD, mulD, biD, cmpD, ixD, ixL, lenD, slotSeq, slotLst, truD, List.length_cons, List.length_nil, if_true, if_false, Bool.false_eq_true, reduceIte, mthHR, mthR, mtD, slD, seqOf, wipeE, Tgs.len, Pv.unpack, Option.map_none, Option.bind_none, augD, revD, List.map_cons, List.map_nil, isiD, ty, List.any_cons, List.any_nil, c1, c2, cR, g4])).trans ?_
  refine (sq (ρ1 := [s0, .val (.hd 1), .own P, s3, .val (.lst INL), .val (.tup R), .own [.tup B0, .tup R, .tup B2, .tup R'], .val (.tup []), .own [], .no, s10, s11, s12, s13, s14, s15, s16, s17]) (st1 := st4) (by simp [exSs, exS, evE, evEs, evT, Pv.evI, evC, evTg, evTgs, evO, vv, up, one, retE, Option.bind_eq_bind, Option.bind_some, Option.map_some, Option.pure_def, List.getElem?_cons_zero, List.getElem?_cons_succ, List.set_cons_zero, List.set_cons_succ, asgN, asgSub, setIx, opD, addD, mulD, biD, cmpD, ixD, ixL, lenD, slotSeq, slotLst, truD, List.length_cons, List.length_nil, if_true, if_false, Bool.false_eq_true, reduceIte, mthHR, mthR, mtD, slD, seqOf, wipeE, Tgs.len, Pv.unpack, Option.map_none, Option.bind_none, augD, revD, List.map_cons, List.map_nil, isiD, ty, List.any_cons, List.any_nil])).trans ?_
  refine (sq (ex_for (xs := [.tup B0, .tup R, .tup B2, .tup R']) (ρ1 := [s0, .val (.hd 1), .own P, s3, .val (.lst INL), .val (.tup R), .val (.lst [.tup B0, .tup R, .tup B2, .tup R']), .val (.tup []), .own [], .no, s10, s11, s12, s13, s14, s15, s16, s17]) (st1 := st4) (by simp [exSs, exS, evE, evEs, evT, Pv.evI, evC, evTg, evTgs, evO, vv, up, one, retE, Option.bind_eq_bind, Option.bind_some, Option.map_some, Option.pure_def, List.getElem?_cons_zero, List.getElem?_cons_succ, List.set_cons_zero, List.set_cons_succ, asgN, asgSub, setIx, opD, addD, mulD, biD, cmpD, ixD, ixL, lenD, slotSeq, slotLst, truD, List.length_cons, List.length_nil, if_true, if_false, Bool.false_eq_true, reduceIte, mthHR, mthR, mtD, slD, seqOf, wipeE, Tgs.len, Pv.unpack, Option.map_none, Option.bind_none, augD, revD, List.map_cons, List.map_nil, isiD, ty, List.any_cons, List.any_nil]) l4)).trans ?_
  generalize [D.tup B0, D.tup R, D.tup B2, D.tup R'] = BL at *
  have h2 : P.length + 2 ≤ lim := by unfold lim; omega
  have h3 : P.length + 1 + 1 < lim := by unfold lim; omega
  refine (sq (ρ1 := [s0, .val (.hd 1), .own (P ++ [pr (.tup [.tup BL, .int (O.length : Int)])] ++ [pr (.tup [.tup INL, .int (R.length : Int)])]), s3, .val (.lst INL), .val (.tup R), .val (.lst BL), .val (.tup O), .own EE, u9, s10, s11, s12, s13, s14, s15, s16, s17]) (st1 := st4) (by simp [exSs, exS, evE, evEs, evT, Pv.evI, evC, evTg, evTgs, evO, vv, up, one, retE, Option.bind_eq_bind, Option.bind_some, Option.map_some, Option.pure_def, List.getElem?_cons_zero, List.getElem?_cons_succ, List.set_cons_zero, List.set_cons_succ, asgN, asgSub, setIx, opD, addD, mulD, biD, cmpD, ixD, ixL, lenD, slotSeq, slotLst, truD, List.length_cons, List.length_nil, if_true, if_false, Bool.false_eq_true, reduceIte, mthHR, mthR, mtD, slD, seqOf, wipeE, Tgs.len, Pv.unpack, Option.map_none, Option.bind_none, augD, revD, List.map_cons, List.map_nil, isiD, ty, List.any_cons, List.any_nil, f1, f2, h2, g2, pr])).trans ?_
  refine (sq (ρ1 := [s0, .val (.hd 1), .own (P ++ [pr (.tup [.tup BL, .int (O.length : Int)])] ++ [pr (.tup [.tup INL, .int (R.length : Int)])] ++ [pr (.tup [.tup INd, .int ((R.length : Int) - FX.length)])]), s3, .val (.lst INL), .val (.tup R), .val (.lst BL), .val (.tup O), .own EE, u9, s10, s11, s12, s13, s14, s15, s16, s17]) (st1 := st4) (by simp [exSs, exS, evE, evEs, evT, Pv.evI, evC, evTg, evTgs, evO, vv, up, one, retE, Option.bind_eq_bind, Option.bind_some, Option.map_some, Option.pure_def, List.getElem?_cons_zero, List.getElem?_cons_succ, List.set_cons_zero, List.set_cons_succ, asgN, asgSub, setIx, opD, addD, mulD, biD, cmpD, ixD, ixL, lenD, slotSeq, slotLst, truD, List.length_cons, List.length_nil, if_true, if_false, Bool.false_eq_true, reduceIte, mthHR, mthR, mtD, slD, seqOf, wipeE, Tgs.len, Pv.unpack, Option.map_none, Option.bind_none, augD, revD, List.map_cons, List.map_nil, isiD, ty, List.any_cons, List.any_nil, cR, f3, f4, cI, aI, h3, g2, pr])).trans ?_
  generalize P ++ [pr (.tup [.tup BL, .int (O.length : Int)])] ++ [pr (.tup [.tup INL, .int (R.length : Int)])] ++ [pr (.tup [.tup INd, .int ((R.length : Int) - FX.length)])] = P2 at *
  have h4 : C8.length + 4 ≤ lim := by unfold lim; omega
  have h5 : 4 + C8.length ≤ lim := by unfold lim; omega
  refine (sq (ex_for (xs := [.int e0, .int (e0 - 1), .int (e2 - 1), .int e2] ++ C8) (ρ1 := [s0, .val (.hd 1), .own P2, s3, .val (.lst INL), .val (.tup R), .val (.lst BL), .val (.tup O), .own EE, u9, s10, s11, s12, s13, s14, s15, .no, s17]) (st1 := st5) (by simp [exSs, exS, evE, evEs, evT, Pv.evI, evC, evTg, evTgs, evO, vv, up, one, retE, Option.bind_eq_bind, Option.bind_some, Option.map_some, Option.pure_def, List.getElem?_cons_zero, List.getElem?_cons_succ, List.set_cons_zero, List.set_cons_succ, asgN, asgSub, setIx, opD, addD, mulD, biD, cmpD, ixD, ixL, lenD, slotSeq, slotLst, truD, List.length_cons, List.length_nil, if_true, if_false, Bool.false_eq_true, reduceIte, mthHR, mthR, mtD, slD, seqOf, wipeE, Tgs.len, Pv.unpack, Option.map_none, Option.bind_none, augD, revD, List.map_cons, List.map_nil, isiD, ty, List.any_cons, List.any_nil, a0, a2, eC, h4, h5, g4]) l3)).trans ?_
  refine (sq (ρ1 := [s0, .val (.hd 1), .own p9, s3, .val (.lst INL), .val (.tup R), .val (.lst BL), .val (.tup O), .val (.lst EE), u9, u10, u11, .val (.int a), s13, s14, s15, .no, .no]) (st1 := st6) (by simp [exSs, exS, evE, evEs, evT, Pv.evI, evC, evTg, evTgs, evO, vv, up, one, retE, Option.bind_eq_bind, Option.bind_some, Option.map_some, Option.pure_def, List.getElem?_cons_zero, List.getElem?_cons_succ, List.set_cons_zero, List.set_cons_succ, asgN, asgSub, setIx, opD, addD, mulD, biD, cmpD, ixD, ixL, lenD, slotSeq, slotLst, truD, List.length_cons, List.length_nil, if_true, if_false, Bool.false_eq_true, reduceIte, mthHR, mthR, mtD, slD, seqOf, wipeE, Tgs.len, Pv.unpack, Option.map_none, Option.bind_none, augD, revD, List.map_cons, List.map_nil, isiD, ty, List.any_cons, List.any_nil, ea])).trans ?_
  refine (sq (ρ1 := [s0, .val (.hd 1), .own p9, s3, .val (.lst INL), .val (.tup R), .val (.lst BL), .val (.tup O), .val (.lst EE), u9, u10, u11, .val (.int a), .val (.int s), s14, s15, .no, .no]) (st1 := st6) (by
    by_cases hb : B.length = 0
    · rw [if_pos hb] at hs
      have hb2 : B = [] := List.length_eq_zero_iff.mp hb
      subst hb2
      simp [exSs, exS, evE, evEs, evT, Pv.evI, evC, evTg, evTgs, evO, vv, up, one, retE, Option.bind_eq_bind, Option.bind_some, Option.map_some, Option.pure_def, List.getElem?_cons_zero, List.getElem?_cons_succ, List.set_cons_zero, List.set_cons_succ, asgN, asgSub, setIx, opD, addD, mulD, biD, cmpD, ixD, ixL, lenD, slotSeq, slotLst, truD, List.length_cons, List.length_nil, if_true, if_false, Bool.false_eq_true, reduceIte, mthHR, mthR, mtD, slD, seqOf, wipeE, Tgs.len, Pv.unpack, Option.map_none, Option.bind_none, augD, revD, List.map_cons, List.map_nil, isiD, ty, List.any_cons, List.any_nil, aB, aE, hs]
    · rw [if_neg hb] at hs
      have hb2 : (0 : Int) < B.length := by omega
      have hb3 : 0 < B.length := by omega
      simp [exSs, exS, evE, evEs, evT, Pv.evI, evC, evTg, evTgs, evO, vv, up, one, retE, Option.bind_eq_bind, Option.bind_some, Option.map_some, Option.pure_def, List.getElem?_cons_zero, List.getElem?_cons_succ, List.set_cons_zero, List.set_cons_succ, asgN, asgSub, setIx, opD, addD, mulD, biD, cmpD, ixD, ixL, lenD, slotSeq, slotLst, truD, List.length_cons, List.length_nil, if_true, if_false, Bool.false_eq_true, reduceIte, mthHR, mthR, mtD, slD, seqOf, wipeE, Tgs.len, Pv.unpack, Option.map_none, Option.bind_none, augD, revD, List.map_cons, List.map_nil, isiD, ty, List.any_cons, List.any_nil, aB, aE, hs, hb2, hb3])).trans ?_
  have h6 : CA.length + 1 ≤ lim := by unfold lim; omega
  have h7 : CA.length + 1 + CB.length ≤ lim := by unfold lim; omega
  refine (sq (ρ1 := [s0, .val (.hd 1), .own p9, s3, .val (.lst INL), .val (.tup R), .val (.lst BL), .val (.tup O), .val (.lst EE), u9, u10, u11, .val (.int a), .val (.int s), .val (.tup V), s15, .no, .no]) (st1 := st7) (by
    rw [← hV]
    simp [exSs, exS, evE, evEs, evT, Pv.evI, evC, evTg, evTgs, evO, vv, up, one, retE, Option.bind_eq_bind, Option.bind_some, Option.map_some, Option.pure_def, List.getElem?_cons_zero, List.getElem?_cons_succ, List.set_cons_zero, List.set_cons_succ, asgN, asgSub, setIx, opD, addD, mulD, biD, cmpD, ixD, ixL, lenD, slotSeq, slotLst, truD, List.length_cons, List.length_nil, if_true, if_false, Bool.false_eq_true, reduceIte, mthHR, mthR, mtD, slD, seqOf, wipeE, Tgs.len, Pv.unpack, Option.map_none, Option.bind_none, augD, revD, List.map_cons, List.map_nil, isiD, ty, List.any_cons, List.any_nil, aO, er, hA, hB, h6, h7, g1])).trans ?_
  have h8 : p9.length < lim := by unfold lim; omega
  by_cases ha : a = 0
  · have := q0 ha
    subst ha this
    have cB0 : Pv.cutD BL none (some 0) = BW := cB
    exact sq1 (by simp [exSs, exS, evE, evEs, evT, Pv.evI, evC, evTg, evTgs, evO, vv, up, one, retE, Option.bind_eq_bind, Option.bind_some, Option.map_some, Option.pure_def, List.getElem?_cons_zero, List.getElem?_cons_succ, List.set_cons_zero, List.set_cons_succ, asgN, asgSub, setIx, opD, addD, mulD, biD, cmpD, ixD, ixL, lenD, slotSeq, slotLst, truD, List.length_cons, List.length_nil, if_true, if_false, Bool.false_eq_true, reduceIte, mthHR, mthR, mtD, slD, seqOf, wipeE, Tgs.len, Pv.unpack, Option.map_none, Option.bind_none, augD, revD, List.map_cons, List.map_nil, isiD, ty, List.any_cons, List.any_nil, f5, cB0, h8, g2, pr])
  · have i0 : 0 < a := by omega
    have i1 : (0 : Int) < (a : Int) := by omega
    have aq := qe i0
    exact sq1 (by simp [exSs, exS, evE, evEs, evT, Pv.evI, evC, evTg, evTgs, evO, vv, up, one, retE, Option.bind_eq_bind, Option.bind_some, Option.map_some, Option.pure_def, List.getElem?_cons_zero, List.getElem?_cons_succ, List.set_cons_zero, List.set_cons_succ, asgN, asgSub, setIx, opD, addD, mulD, biD, cmpD, ixD, ixL, lenD, slotSeq, slotLst, truD, List.length_cons, List.length_nil, if_true, if_false, Bool.false_eq_true, reduceIte, mthHR, mthR, mtD, slD, seqOf, wipeE, Tgs.len, Pv.unpack, Option.map_none, Option.bind_none, augD, revD, List.map_cons, List.map_nil, isiD, ty, List.any_cons, List.any_nil, f5, cB, h8, g2, pr, i0, i1, aq])
end
end Lk69

namespace Lk69
open PySem PySem.Spec PyProof.Rows L2 Pv
theorem Good.cat {ps qs : List D} {n m : Nat} (h : Good ps n) (h' : Good qs m) : Good (ps ++ qs) (n + m) :=
  ⟨fun x hx => (List.mem_append.mp hx).elim (h.1 x) (h'.1 x), by have := h.2; have := h'.2; rw [List.length_append]; omega⟩
theorem row_len : ∀ (L : List (List Int)) (m : Nat), m < 16000 → (∀ b ∈ L, b.length ≤ m) → (rowI L).length ≤ L.length * (m + 4)
  | [], _, _, _ => by simp [rowI]
  | b :: r, m, hm, h => by
    have ih := row_len r m hm fun c hc => h c (List.mem_cons_of_mem _ hc)
    have hb := h b List.mem_cons_self
    have := fr_len (xs := b) (by omega)
    rw [rowI_cons, List.length_append, List.length_cons, Nat.succ_mul]
    omega
theorem lo_dropLast (xs : List Int) : (lo xs).dropLast = lo xs.dropLast := by simp [lo, List.map_dropLast]
theorem lo_len (xs : List Int) : (lo xs).length = xs.length := by simp [lo]
theorem b7_ok (s0 s3 s4 s5 s6 s7 s8 s9 s10 s11 s12 s13 s14 s15 s16 s17 : Sl) (st : Sto) (hst : Deal st) (ps : List D) (n : Nat) (hg : Good ps n) (hn : n ≤ 5000) :
    ∃ ps' st' w4 w5 w6 w7 w8 w9 w10 w11 w12 w13 w14, exSs (T 11) law_b7 [s0, .val (.hd 1), .own ps, s3, s4, s5, s6, s7, s8, s9, s10, s11, s12, s13, s14, s15, s16, s17] st = some (.nx, [s0, .val (.hd 1), .own ps', s3, w4, w5, w6, w7, w8, w9, w10, w11, w12, w13, w14, s15, .no, .no], st') ∧ Good ps' (n + 28) ∧ Deal st' := by
  obtain ⟨dp, st1, hd, gd, d1⟩ := deep_ok 6 hst
  obtain ⟨ri, stn, ei, ri0, ri1, dn⟩ := anyF 10 (b := 2) (by decide) (by decide) d1
  simp only [Nat.reduceAdd] at ei hd
  have rd := rngD1 (n := 2 + ri) (by omega) (by omega)
  obtain ⟨IN, st2, eI, lI, bI, d2⟩ := inner_lc (s0 := s0) (s2 := .own (ps ++ dp)) (s3 := s3) (s4 := s4) (s5 := s5) (s6 := s6) (s7 := s7) (s8 := s8) (s9 := s9) (s10 := s10) (s11 := s11) (s12 := s12) (s13 := s13) (s14 := s14) (s15 := s15) (s16 := s16) (s17 := s17) 8 st1 stn dn (2 + ri) (by omega) (.rng (.cons (.op .Add (.k (.int 2)) (.call "_law_any" (.cons (.v 1) (.cons (.k (.int 2)) .nil)))) .nil)) [s0, .val (.hd 1), .own (ps ++ dp), s3, s4, s5, s6, s7, s8, s9, s10, s11, s12, s13, s14, s15, s16, s17] (by simp [exSs, exS, evE, evEs, evT, Pv.evI, evC, evTg, evTgs, evO, vv, up, one, retE, Option.bind_eq_bind, Option.bind_some, Option.map_some, Option.pure_def, List.getElem?_cons_zero, List.getElem?_cons_succ, List.set_cons_zero, List.set_cons_succ, asgN, asgSub, setIx, opD, addD, mulD, biD, cmpD, ixD, ixL, lenD, slotSeq, slotLst, truD, List.length_cons, List.length_nil, if_true, if_false, Bool.false_eq_true, reduceIte, mthHR, mthR, mtD, slD, seqOf, wipeE, Tgs.len, Pv.unpack, Option.map_none, Option.bind_none, augD, revD, List.map_cons, List.map_nil, isiD, ty, List.any_cons, List.any_nil, ei, rd])
  have eF := frm_lc (s0 := s0) (s2 := .own (ps ++ dp)) (s3 := s3) (s5 := s5) (s6 := s6) (s7 := s7) (s8 := s8) (s9 := .no) (s10 := s10) (s11 := s11) (s12 := s12) (s13 := s13) (s14 := s14) (s15 := s15) (s16 := s16) (s17 := s17) 9 st2 IN (fun b hb => ⟨(bI b hb).1, by have := (bI b hb).2; omega⟩) (by omega) (.own (bods IN)) (.inl rfl)
  have rl := row_len IN 12 (by decide) fun b hb => (bI b hb).2
  have rlI : (rowI IN).length ≤ 48 := by omega
  have fl : Fc 11 "_law_flat" [.lst (bods (IN.map frI))] st2 = some (true, .lst (lo (rowI IN)), st2) := flat_ok 10 st2 (IN.map frI) (by have : (IN.map frI).flatten.length ≤ 48 := rlI; omega)
  obtain ⟨b0, st3, c1, x0, l0, d3⟩ := body_ok 8 d2 9 (by decide) (by decide)
  obtain ⟨b2, st4, c2, x2, l2, d4⟩ := body_ok 8 d3 200 (by decide) (by decide)
  have xI : octs (rowI IN) := row_octs fun b hb => ⟨(bI b hb).1, by have := (bI b hb).2; omega⟩
  have xD : octs (rowI IN).dropLast := fun x hx => xI x (List.dropLast_subset _ hx)
  have lD : (rowI IN).dropLast.length ≤ 47 := by rw [List.length_dropLast]; omega
  obtain ⟨BL, hBL⟩ : ∃ BL : List (List Int), BL = [b0, rowI IN, b2, (rowI IN).dropLast] := ⟨_, rfl⟩
  have bBL : ∀ b ∈ BL, octs b ∧ b.length ≤ 200 := by
    rw [hBL]
    intro b hb
    simp only [List.mem_cons, List.not_mem_nil, or_false] at hb
    rcases hb with rfl | rfl | rfl | rfl
    · exact ⟨x0, by omega⟩
    · exact ⟨xI, by omega⟩
    · exact ⟨x2, by omega⟩
    · exact ⟨xD, by omega⟩
  have lBL : BL.length = 4 := by rw [hBL]; rfl
  have rlB := row_len BL 200 (by decide) fun b hb => (bBL b hb).2
  rw [lBL] at rlB
  have xB : octs (rowI BL) := row_octs fun b hb => ⟨(bBL b hb).1, by have := (bBL b hb).2; omega⟩
  have hbods : bods BL = [.tup (lo b0), .tup (lo (rowI IN)), .tup (lo b2), .tup (lo (rowI IN).dropLast)] := by rw [hBL]; rfl
  have flB : BL.flatten.length ≤ 1000 := by
    rw [hBL]; simp; simp at lD; omega
  have f1 := frames_all 7 st4 BL xB (by omega) (by omega)
  have f2 := frames_all 7 st4 IN xI (by omega) (by omega)
  obtain ⟨INd, x, rfl⟩ : ∃ INd x, IN = INd ++ [x] := by
    rcases list_last IN with rfl | ⟨a, b, rfl⟩
    · simp at lI; omega
    · exact ⟨a, b, rfl⟩
  have bx := bI x (by simp)
  have f4 := lfr_ok 9 st4 x bx.1 (by omega)
  have fx := fr_len (xs := x) (by omega)
  have rI : rowI (INd ++ [x]) = rowI INd ++ frI x := by rw [rowI_app]; simp [rowI]
  have rDe : (rowI (INd ++ [x])).dropLast = rowI INd ++ (frI x).take ((frI x).length - 1) := by
    rw [rI, List.dropLast_append_of_ne_nil (by intro z; rw [z] at fx; simp at fx), List.dropLast_eq_take]
  have f3 := frames_ok 7 st4 INd ((frI x).take ((frI x).length - 1)) (by rw [← rDe]; exact xD) (by rw [← rDe]; omega) (by simp at lI; omega) (none_cut 7 st4 _ x _ (by omega) (by rw [← rDe]; omega) (by omega))
  rw [← rDe] at f3
  have rq : ((rowI INd).length : Int) = ((lo (rowI (INd ++ [x]))).length : Int) - (lo (frI x)).length := by
    rw [lo_len, lo_len, rI, List.length_append]; omega
  have fI : INd.flatten.length ≤ 1000 ∧ INd.length ≤ 100 ∧ (INd ++ [x]).flatten.length ≤ 1000 := by
    have h1 : (INd ++ [x]).flatten.length ≤ (rowI (INd ++ [x])).length := by
      have : ∀ L : List (List Int), L.flatten.length ≤ (rowI L).length := fun L => by
        induction L with
        | nil => simp
        | cons b r ih => rw [List.flatten_cons, rowI_cons, List.length_append, List.length_append]; simp only [frI, List.length_append]; omega
      exact this _
    have h2 : INd.flatten.length ≤ (INd ++ [x]).flatten.length := by rw [List.flatten_append, List.length_append]; omega
    have h3 : INd.length ≤ 100 := by rw [List.length_append] at lI; simp at lI; omega
    omega
  obtain ⟨u9, l4⟩ := b4_loop (s0 := s0) (s2 := .own (ps ++ dp)) (s3 := s3) (s4 := .val (.lst (bods (INd ++ [x])))) (s5 := .val (.tup (lo (rowI (INd ++ [x]))))) (s6 := .val (.lst (bods BL))) (s10 := s10) (s11 := s11) (s12 := s12) (s13 := s13) (s14 := s14) (s15 := s15) (s16 := s16) (s17 := s17) 9 st4 BL [] .no (fun b hb => ⟨(bBL b hb).1, by have := (bBL b hb).2; omega⟩) (by rw [List.nil_append]; omega) (by rw [List.nil_append]; omega)
  rw [List.nil_append, rowI_nil, show endF 0 [] = [] from rfl, show lo [] = ([] : List D) from rfl] at l4
  rw [hbods] at f1 l4
  have cI : Pv.cutD (bods (INd ++ [x])) none (some (-1)) = bods INd := by rw [cut_m1]; simp [bods]
  have aI : atI (bods (INd ++ [x])) (-1) = some (.tup (lo x)) := by
    rw [show bods (INd ++ [x]) = bods INd ++ [.tup (lo x)] by simp [bods]]; exact atI_lastD _ _
  have ge : ∀ i : Nat, i < 4 → atI (lo (endF 0 BL)) (i : Int) = some (.int ((rowI (BL.take (i + 1))).length : Int)) := fun i hi => atI_nat (by rw [List.getElem?_map, endF_get BL 0 i (by omega), Nat.zero_add]; rfl)
  have tk : ∀ i : Nat, (rowI (BL.take i)).length ≤ (rowI BL).length := fun i => by
    conv => rhs; rw [← List.take_append_drop i BL, rowI_app, List.length_append]
    omega
  have tp : ∀ i : Nat, 3 ≤ (rowI (BL.take (i + 1))).length := fun i => by
    rw [hBL, List.take_succ_cons, rowI_cons, List.length_append]
    have := fr_len (xs := b0) (by omega)
    omega
  have o1 := ok_row BL ((lo (rowI BL)).length : Int) (by omega) (by omega)
  rw [hbods] at o1
  have o2 := ok_row (INd ++ [x]) ((lo (rowI (INd ++ [x]))).length : Int) (by omega) (by simp; omega)
  have o3 := ok_row INd (((lo (rowI (INd ++ [x]))).length : Int) - (lo (frI x)).length) (by omega) (by omega)
  have g1 := (((hg.cat gd).app o1).app o2).app o3
  have r4 := rngD1 (n := 4) (by decide) (by decide)
  rw [rq] at f3
  rw [← lo_len] at f1 f2
  obtain ⟨cs, st5, eC, lC, bC, d5⟩ := cuts_lc (s0 := s0) (s2 := .own (ps ++ dp ++ [pr (.tup [.tup [.tup (lo b0), .tup (lo (rowI (INd ++ [x]))), .tup (lo b2), .tup (lo (rowI (INd ++ [x])).dropLast)], .int ((lo (rowI BL)).length : Int)])] ++ [pr (.tup [.tup (bods (INd ++ [x])), .int ((lo (rowI (INd ++ [x]))).length : Int)])] ++ [pr (.tup [.tup (bods INd), .int (((lo (rowI (INd ++ [x]))).length : Int) - (lo (frI x)).length)])])) (s3 := s3) (s4 := .val (.lst (bods (INd ++ [x])))) (s5 := .val (.tup (lo (rowI (INd ++ [x]))))) (s6 := .val (.lst [.tup (lo b0), .tup (lo (rowI (INd ++ [x]))), .tup (lo b2), .tup (lo (rowI (INd ++ [x])).dropLast)])) (s8 := .own (lo (endF 0 BL))) (s9 := u9) (s10 := s10) (s11 := s11) (s12 := s12) (s13 := s13) (s14 := s14) (s15 := s15) (s16 := s16) (s17 := s17) 10 st4 d4 (lo (rowI BL)) (by rw [lo_len]; omega) r4
  rw [lo_len] at bC
  have e0e := ge 0 (by decide)
  have e2e := ge 2 (by decide)
  have t1 := tk 1
  have t3 := tk 3
  have p1 : 3 ≤ (rowI (BL.take 1)).length := tp 0
  have p3 : 3 ≤ (rowI (BL.take 3)).length := tp 2
  have lC4 : (lo cs).length = 4 := by rw [lo_len, lC]
  obtain ⟨ρ3, st5', l3, p9, E8, u10, u11, u17, rfl, rfl, g9, hE⟩ := for_all (asg := evTg (T 11) (.n 10)) (b := exSs (T 11) law_b3) (fun i ρ st => ∃ ps E8 u10 u11 u17, ρ = [s0, .val (.hd 1), .own ps, s3, .val (.lst (bods (INd ++ [x]))), .val (.tup (lo (rowI (INd ++ [x])))), .val (.lst (bods BL)), .val (.tup (lo (rowI BL))), E8, u9, u10, u11, s12, s13, s14, s15, .no, u17] ∧ st = st5 ∧ Good ps (n + 19 + i) ∧ ((i = 0 ∧ E8 = .own (lo (endF 0 BL))) ∨ (E8 = .val (.lst (lo (endF 0 BL))) ∧ u17 = .no))) ([.int ((rowI (BL.take 1)).length : Int), .int (((rowI (BL.take 1)).length : Int) - 1), .int (((rowI (BL.take 3)).length : Int) - 1), .int ((rowI (BL.take 3)).length : Int)] ++ lo cs) 0 [s0, .val (.hd 1), .own (ps ++ dp ++ [pr (.tup [.tup [.tup (lo b0), .tup (lo (rowI (INd ++ [x]))), .tup (lo b2), .tup (lo (rowI (INd ++ [x])).dropLast)], .int ((lo (rowI BL)).length : Int)])] ++ [pr (.tup [.tup (bods (INd ++ [x])), .int ((lo (rowI (INd ++ [x]))).length : Int)])] ++ [pr (.tup [.tup (bods INd), .int (((lo (rowI (INd ++ [x]))).length : Int) - (lo (frI x)).length)])]), s3, .val (.lst (bods (INd ++ [x]))), .val (.tup (lo (rowI (INd ++ [x])))), .val (.lst (bods BL)), .val (.tup (lo (rowI BL))), .own (lo (endF 0 BL)), u9, s10, s11, s12, s13, s14, s15, .no, s17] st5 (fun i d ρ st hi hj => by
    obtain ⟨ps, E8, u10, u11, u17, rfl, rfl, g, hE⟩ := hj
    have hi8 := (List.getElem?_eq_some_iff.mp hi).1
    rw [List.length_append, lC4] at hi8
    simp only [List.length_cons, List.length_nil] at hi8
    have hc : ∃ c : Nat, d = .int (c : Int) ∧ c ≤ (rowI BL).length := by
      rcases List.mem_append.mp (List.mem_of_getElem? hi) with h | h
      · simp only [List.mem_cons, List.not_mem_nil, or_false] at h
        rcases h with rfl | rfl | rfl | rfl
        · exact ⟨_, rfl, t1⟩
        · exact ⟨(rowI (BL.take 1)).length - 1, by congr 1; omega, by omega⟩
        · exact ⟨(rowI (BL.take 3)).length - 1, by congr 1; omega, by omega⟩
        · exact ⟨_, rfl, t3⟩
      · obtain ⟨c, hc, rfl⟩ := List.mem_map.mp h
        have := bC c hc
        exact ⟨c.toNat, by congr 1; omega, by omega⟩
    obtain ⟨c, rfl, hc⟩ := hc
    rw [Nat.zero_add] at g ⊢
    obtain ⟨ps', s11', e, g'⟩ := b3_ok (s0 := s0) (s3 := s3) (s4 := .val (.lst (bods (INd ++ [x])))) (s5 := .val (.tup (lo (rowI (INd ++ [x]))))) (s9 := u9) (s11 := u11) (s12 := s12) (s13 := s13) (s14 := s14) (s15 := s15) (s16 := .no) 7 st BL xB (by omega) (by omega) (by omega) c hc ps (n + 19 + i) (by omega) g E8 u17 (hE.elim (fun h => .inl h.2) fun h => .inr h.1)
    exact ⟨_, st, by simp [exSs, exS, evE, evEs, evT, Pv.evI, evC, evTg, evTgs, evO, vv, up, one, retE, Option.bind_eq_bind, Option.bind_some, Option.map_some, Option.pure_def, List.getElem?_cons_zero, List.getElem?_cons_succ, List.set_cons_zero, List.set_cons_succ, asgN, asgSub, setIx, opD, addD, mulD, biD, cmpD, ixD, ixL, lenD, slotSeq, slotLst, truD, List.length_cons, List.length_nil, if_true, if_false, Bool.false_eq_true, reduceIte, mthHR, mthR, mtD, slD, seqOf, wipeE, Tgs.len, Pv.unpack, Option.map_none, Option.bind_none, augD, revD, List.map_cons, List.map_nil, isiD, ty, List.any_cons, List.any_nil], _, st, e, ps', _, _, _, _, rfl, rfl, g', .inr ⟨rfl, rfl⟩⟩) ⟨_, _, _, _, _, rfl, rfl, g1.mono (by omega), .inl ⟨rfl, rfl⟩⟩
  have l8 : ([D.int ((rowI (BL.take 1)).length : Int), .int (((rowI (BL.take 1)).length : Int) - 1), .int (((rowI (BL.take 3)).length : Int) - 1), .int ((rowI (BL.take 3)).length : Int)] ++ lo cs).length = 8 := by rw [List.length_append, lC4]; rfl
  rw [l8, Nat.zero_add] at hE g9
  obtain ⟨h, _⟩ | ⟨rfl, rfl⟩ := hE
  · cases h
  obtain ⟨a0, st6, ea, a00, a01, d6⟩ := anyF 10 (b := 4) (by decide) (by decide) d5
  obtain ⟨a, rfl⟩ := Int.eq_ofNat_of_zero_le a00
  obtain ⟨r, st7, er, r0, r1, d7⟩ := anyF 10 (b := 255) (by decide) (by decide) d6
  have ha : a < BL.length := by omega
  have hb := List.getElem?_eq_getElem ha
  have bb := bBL BL[a] (List.getElem_mem ha)
  have pa := tp a
  obtain ⟨s, hs⟩ : ∃ s, s + (if BL[a].length = 0 then 1 else 3) = (rowI (BL.take (a + 1))).length := ⟨(rowI (BL.take (a + 1))).length - (if BL[a].length = 0 then 1 else 3), by split <;> omega⟩
  obtain ⟨v, gv, f5⟩ := frames_bent 7 st7 BL a BL[a] hb (by omega) r r0 r1 xB (by omega) (by omega) s hs
  have o5 := ok_row (BL.take a) ((rowI (BL.take a)).length : Int) (by
    have : (BL.take a).flatten.length ≤ BL.flatten.length := by
      conv => rhs; rw [← List.take_append_drop a BL, List.flatten_append, List.length_append]
      omega
    omega) (by rw [List.length_take]; omega)
  simp only [Nat.reduceAdd] at eI eF fl c1 c2 l4 f1 f2 f3 f4 eC l3 ea er f5
  rw [hbods] at l3
  have hV : (lo (rowI BL)).take s ++ [D.int ((v + 1 + r) % 256)] ++ (lo (rowI BL)).drop (s + 1) = lo ((rowI BL).take s ++ [(v + 1 + r) % 256] ++ (rowI BL).drop (s + 1)) := by simp [lo, List.map_take, List.map_drop]
  obtain ⟨w4, w5, w6, w7, w8, w9, w10, w11, w12, w13, w14, e⟩ := b7_run (q' := ((rowI (BL.take a)).length : Int)) hd eI eF fl c1 c2 ((cut_m1 _).trans (lo_dropLast _)) l4 f1 f2 cI aI f4 f3 e0e e2e eC l3 ea (B := lo BL[a]) (by rw [← hbods]; exact atI_nat (by rw [List.getElem?_map, hb]; rfl)) (ge a (by omega)) (s := s) (by
    rw [lo_len]
    by_cases h : BL[a].length = 0
    · rw [if_pos h] at hs ⊢; omega
    · rw [if_neg h] at hs ⊢; omega) (atI_nat (lo_get gv)) er (cut_to _ s) (cut_from _ (s + 1)) hV (by rw [← hbods]; exact (cut_to _ a).trans (bods_take BL a)) f5 (fun h => by subst h; simp [rowI]) (fun h => by
    have := ge (a - 1) (by omega)
    rw [show (a : Int) - 1 = ((a - 1 : Nat) : Int) by omega, this, show a - 1 + 1 = a by omega]) (by have := hg.2; omega) (by have := gd.2; omega) (by rw [lo_len]; omega) (by rw [lo_len]; omega) (by omega) (by have := g9.2; omega) (by have := lI; simp at this ⊢; omega) (by simp [lo]; omega) (by simp [lo]; omega)
  exact ⟨_, st7, w4, w5, w6, w7, w8, w9, w10, w11, w12, w13, w14, e, (g9.app o5).mono (by omega), d7⟩
end Lk69

namespace Lk69
open PySem PySem.Spec PyProof.Rows L2 Pv
theorem row_zeros : ∀ w : Nat, rowI (List.replicate w []) = List.replicate (3 * w) 0
  | 0 => rfl
  | w + 1 => by
    rw [List.replicate_succ, rowI_cons, row_zeros w, show frI [] = [0, 0, 0] from rfl, show 3 * (w + 1) = 3 * w + 3 by omega]
    simp [List.replicate_succ]
theorem zeros_ok (st : Sto) (m : Nat) (hm : m ≤ 1000) : Fc 11 "frames" [.tup (List.replicate m (D.int 0))] st = some (false, .tup [.tup (List.replicate (m / 3) (.tup [])), .int (3 * ((m / 3 : Nat) : Int))], st) := by
  have e : rowI (List.replicate (m / 3) []) ++ (frI []).take (m % 3) = List.replicate m 0 := by
    rw [row_zeros, show frI [] = List.replicate 3 0 from rfl, List.take_replicate, List.replicate_append_replicate]
    congr 1
    omega
  have o : octs (List.replicate m 0) := fun x hx => by rw [(List.mem_replicate.mp hx).2]; decide
  have h := frames_ok 7 st (List.replicate (m / 3) []) ((frI []).take (m % 3)) (by rw [e]; exact o) (by rw [e]; simp; omega) (by simp; omega) (none_cut 7 st _ [] _ (by rw [show (frI []).length = 3 from rfl]; omega) (by rw [e]; simp; omega) (by simp))
  rw [e, row_zeros, List.length_replicate] at h
  simp only [Nat.reduceAdd] at h
  have e1 : lo (List.replicate m 0) = List.replicate m (D.int 0) := by simp [lo]
  have e2 : bods (List.replicate (m / 3) []) = List.replicate (m / 3) (.tup []) := by simp [bods]
  rw [e1, e2] at h
  rw [h, Int.natCast_mul]; rfl
theorem law_run {st0 st1 st2 : Sto} {ns : List Int} {ps Z3 Z : List D} {m w : Nat} {u3 u4 u5 u6 u7 u8 u9 u10 u11 u12 u13 u14 u16 u17 : Sl}
    (e0 : Fc 11 "_law_deal" [.scr ns, .int 6969] [] = some (false, .hd 1, st0)) (r4 : rngD [.int 4] = some (rngL 0 4 1))
    (l : forL (evTg (T 11) (.n 3)) (exSs (T 11) law_b7) (rngL 0 4 1) [.val (.scr ns), .val (.hd 1), .own [], .no, .no, .no, .no, .no, .no, .no, .no, .no, .no, .no, .no, .no, .no, .no] st0 = some (.nx, [.val (.scr ns), .val (.hd 1), .own ps, u3, u4, u5, u6, u7, u8, u9, u10, u11, u12, u13, u14, .no, u16, u17], st1))
    (em : Fc 11 "_law_any" [.hd 1, .int 40] st1 = some (false, .int m, st2)) (hw : (m : Int) / 3 = (w : Int)) (hm : m ≤ 1000)
    (hz : (List.replicate m (D.int 0)) = Z) (hz3 : List.replicate w (D.tup []) = Z3) (f0 : Fc 11 "frames" [.tup Z] st2 = some (false, .tup [.tup Z3, .int (3 * (w : Int))], st2))
    (f1 : Fc 11 "frames" [.tup []] st2 = some (false, .tup [.tup [], .int 0], st2))
    (f2 : Fc 11 "frames" [.tup [.int 1, .int 9, .int 9, .int 0]] st2 = some (false, .tup [.tup [.tup [.int 9]], .int 4], st2))
    (f3 : Fc 11 "frames" [.tup [.int 1, .int 9, .int 9, .int 1]] st2 = some (false, .tup [.tup [], .int 0], st2))
    (f4 : Fc 11 "frames" [.tup [.int 1, .int 9, .int 9, .int 0, .int 0, .int 0, .int 0, .int 5]] st2 = some (false, .tup [.tup [.tup [.int 9], .tup []], .int 7], st2))
    (f5 : Fc 11 "frames" [.tup [.int 4, .int 1, .int 9, .int 9, .int 0, .int 46, .int 0]] st2 = some (false, .tup [.tup [.tup [.int 1, .int 9, .int 9, .int 0]], .int 7], st2))
    (al : Fc 11 "_law_all" [.lst (ps ++ [pr (.tup [.tup Z3, .int (3 * (w : Int))])] ++ [pr (.tup [.tup [], .int 0])] ++ [pr (.tup [.tup [.tup [.int 9]], .int 4])] ++ [pr (.tup [.tup [], .int 0])] ++ [pr (.tup [.tup [.tup [.int 9], .tup []], .int 7])] ++ [pr (.tup [.tup [.tup [.int 1, .int 9, .int 9, .int 0]], .int 7])])] st2 = some (false, .bl true, st2))
    (hp : ps.length ≤ 10000) : Fc 12 "law" [.scr ns] [] = some (false, .bl true, st2) := by
  have lm : ∀ j : Nat, j ≤ 10000 → j ≤ lim := fun j hj => Nat.le_trans hj (by decide)
  have h1 : ps.length < lim := by unfold lim; omega
  have h2 : ps.length + 1 + 3 ≤ lim := by unfold lim; omega
  have h3 : ps.length + 1 + 3 + 2 ≤ lim := by unfold lim; omega
  have hm1 : (m : Int) ≤ 1000000000 := by omega
  have hm2 : (-1000000000 : Int) ≤ (m : Int) := by omega
  have hm3 : m ≤ lim := lm m (by omega)
  have hw1 : (w : Int) ≤ 1000000000 := by omega
  have hw2 : (-1000000000 : Int) ≤ (w : Int) := by omega
  have hw3 : w ≤ lim := lm w (by omega)
  have b3 : Big 3 := by decide
  have bw : Big (w : Int) := big_small (by omega)
  have d3 : Nat.log2 3 < 9000 := by decide
  rw [show Fc 12 "law" = runF ⟨Fc 11, gOf cs⟩ ⟨["script"], 18, b_law⟩ from q_law 11]
  refine run_rt (ρ1 := [.val (.scr ns), .val (.hd 1), .val (.lst (ps ++ [pr (.tup [.tup Z3, .int (3 * (w : Int))])] ++ [pr (.tup [.tup [], .int 0])] ++ [pr (.tup [.tup [.tup [.int 9]], .int 4])] ++ [pr (.tup [.tup [], .int 0])])), u3, u4, u5, u6, u7, u8, u9, u10, u11, u12, u13, u14, .val (.int m), u16, u17]) (n := 17) rfl rfl ?_
  unfold b_law
  refine (sq (ρ1 := [.val (.scr ns), .val (.hd 1), .own [], .no, .no, .no, .no, .no, .no, .no, .no, .no, .no, .no, .no, .no, .no, .no]) (st1 := st0) (by simp [exSs, exS, evE, evEs, evT, Pv.evI, evC, evTg, evTgs, evO, vv, up, one, retE, Option.bind_eq_bind, Option.bind_some, Option.map_some, Option.pure_def, List.getElem?_cons_zero, List.getElem?_cons_succ, List.set_cons_zero, List.set_cons_succ, asgN, asgSub, setIx, opD, addD, mulD, biD, cmpD, ixD, ixL, lenD, slotSeq, slotLst, truD, List.length_cons, List.length_nil, if_true, if_false, Bool.false_eq_true, reduceIte, mthHR, mthR, mtD, slD, seqOf, wipeE, Tgs.len, Pv.unpack, Option.map_none, Option.bind_none, augD, revD, List.map_cons, List.map_nil, isiD, ty, List.any_cons, List.any_nil, e0])).trans ?_
  refine (sq (ex_for (xs := rngL 0 4 1) (ρ1 := [.val (.scr ns), .val (.hd 1), .own [], .no, .no, .no, .no, .no, .no, .no, .no, .no, .no, .no, .no, .no, .no, .no]) (st1 := st0) (by simp [exSs, exS, evE, evEs, evT, Pv.evI, evC, evTg, evTgs, evO, vv, up, one, retE, Option.bind_eq_bind, Option.bind_some, Option.map_some, Option.pure_def, List.getElem?_cons_zero, List.getElem?_cons_succ, List.set_cons_zero, List.set_cons_succ, asgN, asgSub, setIx, opD, addD, mulD, biD, cmpD, ixD, ixL, lenD, slotSeq, slotLst, truD, List.length_cons, List.length_nil, if_true, if_false, Bool.false_eq_true, reduceIte, mthHR, mthR, mtD, slD, seqOf, wipeE, Tgs.len, Pv.unpack, Option.map_none, Option.bind_none, augD, revD, List.map_cons, List.map_nil, isiD, ty, List.any_cons, List.any_nil, r4]) l)).trans ?_
  refine (sq (ρ1 := [.val (.scr ns), .val (.hd 1), .own ps, u3, u4, u5, u6, u7, u8, u9, u10, u11, u12, u13, u14, .val (.int m), u16, u17]) (st1 := st2) (by simp [exSs, exS, evE, evEs, evT, Pv.evI, evC, evTg, evTgs, evO, vv, up, one, retE, Option.bind_eq_bind, Option.bind_some, Option.map_some, Option.pure_def, List.getElem?_cons_zero, List.getElem?_cons_succ, List.set_cons_zero, List.set_cons_succ, asgN, asgSub, setIx, opD, addD, mulD, biD, cmpD, ixD, ixL, lenD, slotSeq, slotLst, truD, List.length_cons, List.length_nil, if_true, if_false, Bool.false_eq_true, reduceIte, mthHR, mthR, mtD, slD, seqOf, wipeE, Tgs.len, Pv.unpack, Option.map_none, Option.bind_none, augD, revD, List.map_cons, List.map_nil, isiD, ty, List.any_cons, List.any_nil, em])).trans ?_
  refine (sq (ρ1 := [.val (.scr ns), .val (.hd 1), .own (ps ++ [pr (.tup [.tup Z3, .int (3 * (w : Int))])]), u3, u4, u5, u6, u7, u8, u9, u10, u11, u12, u13, u14, .val (.int m), u16, u17]) (st1 := st2) (by simp [exSs, exS, evE, evEs, evT, Pv.evI, evC, evTg, evTgs, evO, vv, up, one, retE, Option.bind_eq_bind, Option.bind_some, Option.map_some, Option.pure_def, List.getElem?_cons_zero, List.getElem?_cons_succ, List.set_cons_zero, List.set_cons_succ, asgN, asgSub, setIx, opD, addD, mulD, biD, cmpD, ixD, ixL, lenD, slotSeq, slotLst, truD, List.length_cons, List.length_nil, if_true, if_false, Bool.false_eq_true, reduceIte, mthHR, mthR, mtD, slD, seqOf, wipeE, Tgs.len, Pv.unpack, Option.map_none, Option.bind_none, augD, revD, List.map_cons, List.map_nil, isiD, ty, List.any_cons, List.any_nil, hw, hm1, hm2, hm3, hw1, hw2, hw3, b3, bw, d3, hz, hz3, f0, lm, h1, pr])).trans ?_
  refine (sq (ρ1 := [.val (.scr ns), .val (.hd 1), .own (ps ++ [pr (.tup [.tup Z3, .int (3 * (w : Int))])] ++ [pr (.tup [.tup [], .int 0])] ++ [pr (.tup [.tup [.tup [.int 9]], .int 4])] ++ [pr (.tup [.tup [], .int 0])]), u3, u4, u5, u6, u7, u8, u9, u10, u11, u12, u13, u14, .val (.int m), u16, u17]) (st1 := st2) (by simp [exSs, exS, evE, evEs, evT, Pv.evI, evC, evTg, evTgs, evO, vv, up, one, retE, Option.bind_eq_bind, Option.bind_some, Option.map_some, Option.pure_def, List.getElem?_cons_zero, List.getElem?_cons_succ, List.set_cons_zero, List.set_cons_succ, asgN, asgSub, setIx, opD, addD, mulD, biD, cmpD, ixD, ixL, lenD, slotSeq, slotLst, truD, List.length_cons, List.length_nil, if_true, if_false, Bool.false_eq_true, reduceIte, mthHR, mthR, mtD, slD, seqOf, wipeE, Tgs.len, Pv.unpack, Option.map_none, Option.bind_none, augD, revD, List.map_cons, List.map_nil, isiD, ty, List.any_cons, List.any_nil, f1, f2, f3, lm, h2, pr])).trans ?_
  simp only [pr, List.append_assoc, List.singleton_append, List.cons_append, List.nil_append] at al
  exact sqr (by simp [exSs, exS, evE, evEs, evT, Pv.evI, evC, evTg, evTgs, evO, vv, up, one, retE, Option.bind_eq_bind, Option.bind_some, Option.map_some, Option.pure_def, List.getElem?_cons_zero, List.getElem?_cons_succ, List.set_cons_zero, List.set_cons_succ, asgN, asgSub, setIx, opD, addD, mulD, biD, cmpD, ixD, ixL, lenD, slotSeq, slotLst, truD, List.length_cons, List.length_nil, if_true, if_false, Bool.false_eq_true, reduceIte, mthHR, mthR, mtD, slD, seqOf, wipeE, Tgs.len, Pv.unpack, Option.map_none, Option.bind_none, augD, revD, List.map_cons, List.map_nil, isiD, ty, List.any_cons, List.any_nil, f4, f5, lm, h3, al, pr])
theorem law_true (ns : List Int) (h : ns.length ≤ 63) : ∃ st, Fc 12 "law" [.scr ns] [] = some (false, .bl true, st) := by
  obtain ⟨st0, e0, d0⟩ := dealOk 10 ns h
  simp only [Nat.reduceAdd] at e0
  have r4 := rngD1 (n := 4) (by decide) (by decide)
  obtain ⟨ρ1, st1, l, ps, g, d1, u3, u4, u5, u6, u7, u8, u9, u10, u11, u12, u13, u14, u16, u17, rfl⟩ := for_all (asg := evTg (T 11) (.n 3)) (b := exSs (T 11) law_b7) (fun i ρ st => ∃ ps, Good ps (28 * i) ∧ Deal st ∧ ∃ u3 u4 u5 u6 u7 u8 u9 u10 u11 u12 u13 u14 u16 u17, ρ = [.val (.scr ns), .val (.hd 1), .own ps, u3, u4, u5, u6, u7, u8, u9, u10, u11, u12, u13, u14, .no, u16, u17]) (rngL 0 4 1) 0 [.val (.scr ns), .val (.hd 1), .own [], .no, .no, .no, .no, .no, .no, .no, .no, .no, .no, .no, .no, .no, .no, .no] st0 (fun i d ρ st hi hj => by
    obtain ⟨ps, g, dd, u3, u4, u5, u6, u7, u8, u9, u10, u11, u12, u13, u14, u16, u17, rfl⟩ := hj
    have hlt := rng_lt hi
    rw [rng_len] at hlt
    obtain ⟨ps', st', w4, w5, w6, w7, w8, w9, w10, w11, w12, w13, w14, e, g', d'⟩ := b7_ok (.val (.scr ns)) (.val d) u4 u5 u6 u7 u8 u9 u10 u11 u12 u13 u14 .no u16 u17 st dd ps _ g (by omega)
    exact ⟨_, st, by simp [exSs, exS, evE, evEs, evT, Pv.evI, evC, evTg, evTgs, evO, vv, up, one, retE, Option.bind_eq_bind, Option.bind_some, Option.map_some, Option.pure_def, List.getElem?_cons_zero, List.getElem?_cons_succ, List.set_cons_zero, List.set_cons_succ, asgN, asgSub, setIx, opD, addD, mulD, biD, cmpD, ixD, ixL, lenD, slotSeq, slotLst, truD, List.length_cons, List.length_nil, if_true, if_false, Bool.false_eq_true, reduceIte, mthHR, mthR, mtD, slD, seqOf, wipeE, Tgs.len, Pv.unpack, Option.map_none, Option.bind_none, augD, revD, List.map_cons, List.map_nil, isiD, ty, List.any_cons, List.any_nil], _, st', e, ps', g'.mono (by omega), d', _, _, _, _, _, _, _, _, _, _, _, _, _, _, rfl⟩) ⟨[], ⟨(fun _ h => by cases h), Nat.zero_le _⟩, d0, _, _, _, _, _, _, _, _, _, _, _, _, _, _, rfl⟩
  rw [rng_len] at g
  have g := g.mono (show 28 * (0 + ((4 : Int) - 0).toNat) ≤ 112 by decide)
  obtain ⟨m0, st2, em, m00, m01, d2⟩ := anyF 10 (b := 40) (by decide) (by decide) d1
  obtain ⟨m, rfl⟩ := Int.eq_ofNat_of_zero_le m00
  simp only [Nat.reduceAdd] at em
  have f0 := zeros_ok st2 m (by omega)
  have f1 : Fc 11 "frames" [.tup []] st2 = some (false, .tup [.tup [], .int 0], st2) := frames_all 7 st2 [] (fun _ h => by cases h) (by decide) (by decide)
  have o9 : octs [9] := by unfold octs; decide
  have o19 : octs [1, 9, 9, 0] := by unfold octs; decide
  have f2 : Fc 11 "frames" [.tup [.int 1, .int 9, .int 9, .int 0]] st2 = some (false, .tup [.tup [.tup [.int 9]], .int 4], st2) := frames_all 7 st2 [[9]] o19 (by decide) (by decide)
  have f3 : Fc 11 "frames" [.tup [.int 1, .int 9, .int 9, .int 1]] st2 = some (false, .tup [.tup [], .int 0], st2) :=
    frames_ok 7 st2 [] [1, 9, 9, 1] (by unfold octs; decide) (by decide) (by decide) (none_bent 7 st2 [] [9] [9, 1] [] rfl (by decide) (by unfold octs; decide) (by decide))
  have f4 : Fc 11 "frames" [.tup [.int 1, .int 9, .int 9, .int 0, .int 0, .int 0, .int 0, .int 5]] st2 = some (false, .tup [.tup [.tup [.int 9], .tup []], .int 7], st2) :=
    frames_ok 7 st2 [[9], []] [5] (by unfold octs; decide) (by decide) (by decide) (none_cut 7 st2 (rowI [[9], []]) [0, 0, 0, 0, 0] 1 (by decide) (by decide) (by decide))
  have f5 : Fc 11 "frames" [.tup [.int 4, .int 1, .int 9, .int 9, .int 0, .int 46, .int 0]] st2 = some (false, .tup [.tup [.tup [.int 1, .int 9, .int 9, .int 0]], .int 7], st2) := frames_all 7 st2 [[1, 9, 9, 0]] (by unfold octs; decide) (by decide) (by decide)
  have z3 : bods (List.replicate (m / 3) []) = List.replicate (m / 3) (.tup []) := by simp [bods]
  have oz := ok_row (List.replicate (m / 3) []) (3 * ((m / 3 : Nat) : Int)) (by simp) (by simp; omega)
  rw [z3] at oz
  have G := (((((g.app oz).app (ok_row [] 0 (by simp) (by simp))).app (ok_row [[9]] 4 (by simp) (by simp))).app (ok_row [] 0 (by simp) (by simp))).app (ok_row [[9], []] 7 (by simp) (by simp))).app (ok_row [[1, 9, 9, 0]] 7 (by simp) (by simp))
  have al := allOk 8 st2 G.1
  simp only [Nat.reduceAdd] at al
  have gl := g.2
  exact ⟨st2, law_run e0 r4 l em (w := m / 3) (by omega) (by omega) rfl rfl f0 f1 f2 f3 f4 f5 al (by omega)⟩
end Lk69

namespace Lk69
open PySem PySem.Spec PyProof.Rows L2 Pv
theorem ch_octets_of_number : chD ds cs ks d_octets_of_number = true := by decide +kernel
theorem ch_number_of : chD ds cs ks d_number_of = true := by decide +kernel
theorem ch_behind_number : chD ds cs ks d_behind_number = true := by decide +kernel
theorem ch_number_in : chD ds cs ks d_number_in = true := by decide +kernel
theorem ch_number_octets : chD ds cs ks d_number_octets = true := by decide +kernel
theorem ch_sum_of_octets : chD ds cs ks d_sum_of_octets = true := by decide +kernel
theorem ch_sum_pair : chD ds cs ks d_sum_pair = true := by decide +kernel
theorem ch_frame : chD ds cs ks d_frame = true := by decide +kernel
theorem ch_frame_at : chD ds cs ks d_frame_at = true := by decide +kernel
theorem ch_frames : chD ds cs ks d_frames = true := by decide +kernel
theorem ch_law_deal : chD ds cs ks d_law_deal = true := by decide +kernel
theorem ch_law_any : chD ds cs ks d_law_any = true := by decide +kernel
theorem ch_law_of : chD ds cs ks d_law_of = true := by decide +kernel
theorem ch_law_is_kind : chD ds cs ks d_law_is_kind = true := by decide +kernel
theorem ch_law_same : chD ds cs ks d_law_same = true := by decide +kernel
theorem ch_law_all : chD ds cs ks d_law_all = true := by decide +kernel
theorem ch_law_flat : chD ds cs ks d_law_flat = true := by decide +kernel
theorem ch_law_number_octets : chD ds cs ks d_law_number_octets = true := by decide +kernel
theorem ch_law_weigh : chD ds cs ks d_law_weigh = true := by decide +kernel
theorem ch_law_frame : chD ds cs ks d_law_frame = true := by decide +kernel
theorem ch_law_body : chD ds cs ks d_law_body = true := by decide +kernel
theorem ch_law_deep_pairs : chD ds cs ks d_law_deep_pairs = true := by decide +kernel
theorem ch_law : chD ds cs ks d_law = true := by decide +kernel
theorem ch_all : ∀ d ∈ ds, chD ds cs ks d = true := List.forall_mem_cons.mpr ⟨ch_octets_of_number, List.forall_mem_cons.mpr ⟨ch_number_of, List.forall_mem_cons.mpr ⟨ch_behind_number, List.forall_mem_cons.mpr ⟨ch_number_in, List.forall_mem_cons.mpr ⟨ch_number_octets, List.forall_mem_cons.mpr ⟨ch_sum_of_octets, List.forall_mem_cons.mpr ⟨ch_sum_pair, List.forall_mem_cons.mpr ⟨ch_frame, List.forall_mem_cons.mpr ⟨ch_frame_at, List.forall_mem_cons.mpr ⟨ch_frames, List.forall_mem_cons.mpr ⟨ch_law_deal, List.forall_mem_cons.mpr ⟨ch_law_any, List.forall_mem_cons.mpr ⟨ch_law_of, List.forall_mem_cons.mpr ⟨ch_law_is_kind, List.forall_mem_cons.mpr ⟨ch_law_same, List.forall_mem_cons.mpr ⟨ch_law_all, List.forall_mem_cons.mpr ⟨ch_law_flat, List.forall_mem_cons.mpr ⟨ch_law_number_octets, List.forall_mem_cons.mpr ⟨ch_law_weigh, List.forall_mem_cons.mpr ⟨ch_law_frame, List.forall_mem_cons.mpr ⟨ch_law_body, List.forall_mem_cons.mpr ⟨ch_law_deep_pairs, List.forall_mem_cons.mpr ⟨ch_law, fun _ h => by cases h⟩⟩⟩⟩⟩⟩⟩⟩⟩⟩⟩⟩⟩⟩⟩⟩⟩⟩⟩⟩⟩⟩⟩
theorem facts {K : PySem.W.Frag} {mg : Str → Option Value} (f0 : FF K mg d_octets_of_number) (f1 : FF K mg d_number_of) (f2 : FF K mg d_behind_number) (f3 : FF K mg d_number_in) (f4 : FF K mg d_number_octets) (f5 : FF K mg d_sum_of_octets) (f6 : FF K mg d_sum_pair) (f7 : FF K mg d_frame) (f8 : FF K mg d_frame_at) (f9 : FF K mg d_frames) (f10 : FF K mg d_law_deal) (f11 : FF K mg d_law_any) (f12 : FF K mg d_law_of) (f13 : FF K mg d_law_is_kind) (f14 : FF K mg d_law_same) (f15 : FF K mg d_law_all) (f16 : FF K mg d_law_flat) (f17 : FF K mg d_law_number_octets) (f18 : FF K mg d_law_weigh) (f19 : FF K mg d_law_frame) (f20 : FF K mg d_law_body) (f21 : FF K mg d_law_deep_pairs) (f22 : FF K mg d_law) (g0 : ∃ u v, mg "BASE" = some u ∧ RelV v u ∧ ∀ A B, Ho K A B v (.int 128)) (g1 : ∃ u v, mg "OCTET" = some u ∧ RelV v u ∧ ∀ A B, Ho K A B v (.int 256)) (g2 : ∃ u v, mg "PRIME" = some u ∧ RelV v u ∧ ∀ A B, Ho K A B v (.int 65521)) (g3 : ∃ u v, mg "SUM_OCTETS" = some u ∧ RelV v u ∧ ∀ A B, Ho K A B v (.int 2)) (hz : ∀ x, x ∈ blts → mg x = none) : Facts K mg ds cs ks where
  ff := List.forall_mem_cons.mpr ⟨f0, List.forall_mem_cons.mpr ⟨f1, List.forall_mem_cons.mpr ⟨f2, List.forall_mem_cons.mpr ⟨f3, List.forall_mem_cons.mpr ⟨f4, List.forall_mem_cons.mpr ⟨f5, List.forall_mem_cons.mpr ⟨f6, List.forall_mem_cons.mpr ⟨f7, List.forall_mem_cons.mpr ⟨f8, List.forall_mem_cons.mpr ⟨f9, List.forall_mem_cons.mpr ⟨f10, List.forall_mem_cons.mpr ⟨f11, List.forall_mem_cons.mpr ⟨f12, List.forall_mem_cons.mpr ⟨f13, List.forall_mem_cons.mpr ⟨f14, List.forall_mem_cons.mpr ⟨f15, List.forall_mem_cons.mpr ⟨f16, List.forall_mem_cons.mpr ⟨f17, List.forall_mem_cons.mpr ⟨f18, List.forall_mem_cons.mpr ⟨f19, List.forall_mem_cons.mpr ⟨f20, List.forall_mem_cons.mpr ⟨f21, List.forall_mem_cons.mpr ⟨f22, fun _ h => by cases h⟩⟩⟩⟩⟩⟩⟩⟩⟩⟩⟩⟩⟩⟩⟩⟩⟩⟩⟩⟩⟩⟩⟩
  nd := nd_all
  ch := ch_all
  blt := hz
  glob := List.forall_mem_cons.mpr ⟨g0, List.forall_mem_cons.mpr ⟨g1, List.forall_mem_cons.mpr ⟨g2, List.forall_mem_cons.mpr ⟨g3, fun _ h => by cases h⟩⟩⟩⟩
  kws := List.forall_mem_cons.mpr ⟨⟨d_frame, List.mem_of_getElem? (i := 7) rfl, rfl, by decide, fun f fd F s us ws h1 h2 => by
    obtain ⟨oc, od, kV, doc, pm, an, cdv, ct, osl, rfl, lk, hcd⟩ := F.ex
    match us, ws, h1, h2 with
    | [], [b0], _, _ => exact ⟨.of_eq rfl, rfl⟩⟩, List.forall_mem_cons.mpr ⟨⟨d_frames, List.mem_of_getElem? (i := 9) rfl, rfl, by decide, fun f fd F s us ws h1 h2 => by
    obtain ⟨oc, od, kV, doc, pm, an, cdv, ct, osl, rfl, lk, hcd⟩ := F.ex
    match us, ws, h1, h2 with
    | [], [b0], _, _ => exact ⟨.of_eq rfl, rfl⟩⟩, fun _ h => by cases h⟩⟩
theorem all_mk {l : PySem.W.OpenLaw} {w : World} {K : PySem.W.Frag} {h : Heap} {mg : Str → Option Value} {fa : Addr} (X : K.In h) (G : h.Ns mainGlobals mg) (hfa : mg "law" = some (.ref fa)) {f0 f1 f2 f3 f4 f5 f6 f7 f8 f9 f10 f11 f12 f13 f14 f15 f16 f17 f18 f19 f20 f21 f22 : Addr} {od0 an0 od1 an1 od2 an2 od3 an3 od4 an4 od5 an5 od6 an6 od7 an7 od8 an8 od9 an9 od10 an10 od11 an11 od12 an12 od13 an13 od14 an14 od15 an15 od16 an16 od17 an17 od18 an18 od19 an19 od20 an20 od21 an21 od22 an22 : Option Addr} {sl0 sl1 sl2 sl3 sl4 sl5 sl6 sl7 sl8 sl9 sl10 sl11 sl12 sl13 sl14 sl15 sl16 sl17 sl18 sl19 sl20 sl21 sl22 : Array (Option Value)} {oc0 kV0 dc0 pm0 cd0 ct0 oc1 kV1 dc1 pm1 cd1 ct1 oc2 kV2 dc2 pm2 cd2 ct2 oc3 kV3 dc3 pm3 cd3 ct3 oc4 kV4 dc4 pm4 cd4 ct4 oc5 kV5 dc5 pm5 cd5 ct5 oc6 kV6 dc6 pm6 cd6 ct6 oc7 kV7 dc7 pm7 cd7 ct7 oc8 kV8 dc8 pm8 cd8 ct8 oc9 kV9 dc9 pm9 cd9 ct9 oc10 kV10 dc10 pm10 cd10 ct10 oc11 kV11 dc11 pm11 cd11 ct11 oc12 kV12 dc12 pm12 cd12 ct12 oc13 kV13 dc13 pm13 cd13 ct13 oc14 kV14 dc14 pm14 cd14 ct14 oc15 kV15 dc15 pm15 cd15 ct15 oc16 kV16 dc16 pm16 cd16 ct16 oc17 kV17 dc17 pm17 cd17 ct17 oc18 kV18 dc18 pm18 cd18 ct18 oc19 kV19 dc19 pm19 cd19 ct19 oc20 kV20 dc20 pm20 cd20 ct20 oc21 kV21 dc21 pm21 cd21 ct21 oc22 kV22 dc22 pm22 cd22 ct22 : Value} {u0 u1 u2 u3 : Tok}
    (a0 : PySem.W.nsIn K mainGlobals "octets_of_number" = some (some (.ref f0))) (l0 : K.lookup f0 = some ⟨oc0, od0, .func (PySem.W.fnOf "octets_of_number" "octets_of_number" (defArgs (topS 5)) (defBody (topS 5)) (defScope (topS 5)) .none kV0 dc0 pm0 an0 cd0 ct0), sl0⟩) (c0 : PySem.W.codeIn K cd0 "octets_of_number" = true) (k0 : PySem.W.keepIn K (.ref f0) = true)
    (a1 : PySem.W.nsIn K mainGlobals "number_of" = some (some (.ref f1))) (l1 : K.lookup f1 = some ⟨oc1, od1, .func (PySem.W.fnOf "number_of" "number_of" (defArgs (topS 6)) (defBody (topS 6)) (defScope (topS 6)) .none kV1 dc1 pm1 an1 cd1 ct1), sl1⟩) (c1 : PySem.W.codeIn K cd1 "number_of" = true) (k1 : PySem.W.keepIn K (.ref f1) = true)
    (a2 : PySem.W.nsIn K mainGlobals "behind_number" = some (some (.ref f2))) (l2 : K.lookup f2 = some ⟨oc2, od2, .func (PySem.W.fnOf "behind_number" "behind_number" (defArgs (topS 7)) (defBody (topS 7)) (defScope (topS 7)) .none kV2 dc2 pm2 an2 cd2 ct2), sl2⟩) (c2 : PySem.W.codeIn K cd2 "behind_number" = true) (k2 : PySem.W.keepIn K (.ref f2) = true)
    (a3 : PySem.W.nsIn K mainGlobals "number_in" = some (some (.ref f3))) (l3 : K.lookup f3 = some ⟨oc3, od3, .func (PySem.W.fnOf "number_in" "number_in" (defArgs (topS 8)) (defBody (topS 8)) (defScope (topS 8)) .none kV3 dc3 pm3 an3 cd3 ct3), sl3⟩) (c3 : PySem.W.codeIn K cd3 "number_in" = true) (k3 : PySem.W.keepIn K (.ref f3) = true)
    (a4 : PySem.W.nsIn K mainGlobals "number_octets" = some (some (.ref f4))) (l4 : K.lookup f4 = some ⟨oc4, od4, .func (PySem.W.fnOf "number_octets" "number_octets" (defArgs (topS 9)) (defBody (topS 9)) (defScope (topS 9)) .none kV4 dc4 pm4 an4 cd4 ct4), sl4⟩) (c4 : PySem.W.codeIn K cd4 "number_octets" = true) (k4 : PySem.W.keepIn K (.ref f4) = true)
    (a5 : PySem.W.nsIn K mainGlobals "sum_of_octets" = some (some (.ref f5))) (l5 : K.lookup f5 = some ⟨oc5, od5, .func (PySem.W.fnOf "sum_of_octets" "sum_of_octets" (defArgs (topS 10)) (defBody (topS 10)) (defScope (topS 10)) .none kV5 dc5 pm5 an5 cd5 ct5), sl5⟩) (c5 : PySem.W.codeIn K cd5 "sum_of_octets" = true) (k5 : PySem.W.keepIn K (.ref f5) = true)
    (a6 : PySem.W.nsIn K mainGlobals "sum_pair" = some (some (.ref f6))) (l6 : K.lookup f6 = some ⟨oc6, od6, .func (PySem.W.fnOf "sum_pair" "sum_pair" (defArgs (topS 11)) (defBody (topS 11)) (defScope (topS 11)) .none kV6 dc6 pm6 an6 cd6 ct6), sl6⟩) (c6 : PySem.W.codeIn K cd6 "sum_pair" = true) (k6 : PySem.W.keepIn K (.ref f6) = true)
    (a7 : PySem.W.nsIn K mainGlobals "frame" = some (some (.ref f7))) (l7 : K.lookup f7 = some ⟨oc7, od7, .func (PySem.W.fnOf "frame" "frame" (defArgs (topS 12)) (defBody (topS 12)) (defScope (topS 12)) .none kV7 dc7 pm7 an7 cd7 ct7), sl7⟩) (c7 : PySem.W.codeIn K cd7 "frame" = true) (k7 : PySem.W.keepIn K (.ref f7) = true)
    (a8 : PySem.W.nsIn K mainGlobals "frame_at" = some (some (.ref f8))) (l8 : K.lookup f8 = some ⟨oc8, od8, .func (PySem.W.fnOf "frame_at" "frame_at" (defArgs (topS 13)) (defBody (topS 13)) (defScope (topS 13)) .none kV8 dc8 pm8 an8 cd8 ct8), sl8⟩) (c8 : PySem.W.codeIn K cd8 "frame_at" = true) (k8 : PySem.W.keepIn K (.ref f8) = true)
    (a9 : PySem.W.nsIn K mainGlobals "frames" = some (some (.ref f9))) (l9 : K.lookup f9 = some ⟨oc9, od9, .func (PySem.W.fnOf "frames" "frames" (defArgs (topS 14)) (defBody (topS 14)) (defScope (topS 14)) .none kV9 dc9 pm9 an9 cd9 ct9), sl9⟩) (c9 : PySem.W.codeIn K cd9 "frames" = true) (k9 : PySem.W.keepIn K (.ref f9) = true)
    (a10 : PySem.W.nsIn K mainGlobals "_law_deal" = some (some (.ref f10))) (l10 : K.lookup f10 = some ⟨oc10, od10, .func (PySem.W.fnOf "_law_deal" "_law_deal" (defArgs (topS 16)) (defBody (topS 16)) (defScope (topS 16)) .none kV10 dc10 pm10 an10 cd10 ct10), sl10⟩) (c10 : PySem.W.codeIn K cd10 "_law_deal" = true) (k10 : PySem.W.keepIn K (.ref f10) = true)
    (a11 : PySem.W.nsIn K mainGlobals "_law_any" = some (some (.ref f11))) (l11 : K.lookup f11 = some ⟨oc11, od11, .func (PySem.W.fnOf "_law_any" "_law_any" (defArgs (topS 17)) (defBody (topS 17)) (defScope (topS 17)) .none kV11 dc11 pm11 an11 cd11 ct11), sl11⟩) (c11 : PySem.W.codeIn K cd11 "_law_any" = true) (k11 : PySem.W.keepIn K (.ref f11) = true)
    (a12 : PySem.W.nsIn K mainGlobals "_law_of" = some (some (.ref f12))) (l12 : K.lookup f12 = some ⟨oc12, od12, .func (PySem.W.fnOf "_law_of" "_law_of" (defArgs (topS 18)) (defBody (topS 18)) (defScope (topS 18)) .none kV12 dc12 pm12 an12 cd12 ct12), sl12⟩) (c12 : PySem.W.codeIn K cd12 "_law_of" = true) (k12 : PySem.W.keepIn K (.ref f12) = true)
    (a13 : PySem.W.nsIn K mainGlobals "_law_is_kind" = some (some (.ref f13))) (l13 : K.lookup f13 = some ⟨oc13, od13, .func (PySem.W.fnOf "_law_is_kind" "_law_is_kind" (defArgs (topS 19)) (defBody (topS 19)) (defScope (topS 19)) .none kV13 dc13 pm13 an13 cd13 ct13), sl13⟩) (c13 : PySem.W.codeIn K cd13 "_law_is_kind" = true) (k13 : PySem.W.keepIn K (.ref f13) = true)
    (a14 : PySem.W.nsIn K mainGlobals "_law_same" = some (some (.ref f14))) (l14 : K.lookup f14 = some ⟨oc14, od14, .func (PySem.W.fnOf "_law_same" "_law_same" (defArgs (topS 20)) (defBody (topS 20)) (defScope (topS 20)) .none kV14 dc14 pm14 an14 cd14 ct14), sl14⟩) (c14 : PySem.W.codeIn K cd14 "_law_same" = true) (k14 : PySem.W.keepIn K (.ref f14) = true)
    (a15 : PySem.W.nsIn K mainGlobals "_law_all" = some (some (.ref f15))) (l15 : K.lookup f15 = some ⟨oc15, od15, .func (PySem.W.fnOf "_law_all" "_law_all" (defArgs (topS 21)) (defBody (topS 21)) (defScope (topS 21)) .none kV15 dc15 pm15 an15 cd15 ct15), sl15⟩) (c15 : PySem.W.codeIn K cd15 "_law_all" = true) (k15 : PySem.W.keepIn K (.ref f15) = true)
    (a16 : PySem.W.nsIn K mainGlobals "_law_flat" = some (some (.ref f16))) (l16 : K.lookup f16 = some ⟨oc16, od16, .func (PySem.W.fnOf "_law_flat" "_law_flat" (defArgs (topS 22)) (defBody (topS 22)) (defScope (topS 22)) .none kV16 dc16 pm16 an16 cd16 ct16), sl16⟩) (c16 : PySem.W.codeIn K cd16 "_law_flat" = true) (k16 : PySem.W.keepIn K (.ref f16) = true)
    (a17 : PySem.W.nsIn K mainGlobals "_law_number_octets" = some (some (.ref f17))) (l17 : K.lookup f17 = some ⟨oc17, od17, .func (PySem.W.fnOf "_law_number_octets" "_law_number_octets" (defArgs (topS 23)) (defBody (topS 23)) (defScope (topS 23)) .none kV17 dc17 pm17 an17 cd17 ct17), sl17⟩) (c17 : PySem.W.codeIn K cd17 "_law_number_octets" = true) (k17 : PySem.W.keepIn K (.ref f17) = true)
    (a18 : PySem.W.nsIn K mainGlobals "_law_weigh" = some (some (.ref f18))) (l18 : K.lookup f18 = some ⟨oc18, od18, .func (PySem.W.fnOf "_law_weigh" "_law_weigh" (defArgs (topS 24)) (defBody (topS 24)) (defScope (topS 24)) .none kV18 dc18 pm18 an18 cd18 ct18), sl18⟩) (c18 : PySem.W.codeIn K cd18 "_law_weigh" = true) (k18 : PySem.W.keepIn K (.ref f18) = true)
    (a19 : PySem.W.nsIn K mainGlobals "_law_frame" = some (some (.ref f19))) (l19 : K.lookup f19 = some ⟨oc19, od19, .func (PySem.W.fnOf "_law_frame" "_law_frame" (defArgs (topS 25)) (defBody (topS 25)) (defScope (topS 25)) .none kV19 dc19 pm19 an19 cd19 ct19), sl19⟩) (c19 : PySem.W.codeIn K cd19 "_law_frame" = true) (k19 : PySem.W.keepIn K (.ref f19) = true)
    (a20 : PySem.W.nsIn K mainGlobals "_law_body" = some (some (.ref f20))) (l20 : K.lookup f20 = some ⟨oc20, od20, .func (PySem.W.fnOf "_law_body" "_law_body" (defArgs (topS 26)) (defBody (topS 26)) (defScope (topS 26)) .none kV20 dc20 pm20 an20 cd20 ct20), sl20⟩) (c20 : PySem.W.codeIn K cd20 "_law_body" = true) (k20 : PySem.W.keepIn K (.ref f20) = true)
    (a21 : PySem.W.nsIn K mainGlobals "_law_deep_pairs" = some (some (.ref f21))) (l21 : K.lookup f21 = some ⟨oc21, od21, .func (PySem.W.fnOf "_law_deep_pairs" "_law_deep_pairs" (defArgs (topS 27)) (defBody (topS 27)) (defScope (topS 27)) .none kV21 dc21 pm21 an21 cd21 ct21), sl21⟩) (c21 : PySem.W.codeIn K cd21 "_law_deep_pairs" = true) (k21 : PySem.W.keepIn K (.ref f21) = true)
    (a22 : PySem.W.nsIn K mainGlobals "law" = some (some (.ref f22))) (l22 : K.lookup f22 = some ⟨oc22, od22, .func (PySem.W.fnOf "law" "law" (defArgs (topS 28)) (defBody (topS 28)) (defScope (topS 28)) .none kV22 dc22 pm22 an22 cd22 ct22), sl22⟩) (c22 : PySem.W.codeIn K cd22 "law" = true) (k22 : PySem.W.keepIn K (.ref f22) = true)
    (y0 : PySem.W.nsIn K mainGlobals "BASE" = some (some (.int 128 u0)))
    (y1 : PySem.W.nsIn K mainGlobals "OCTET" = some (some (.int 256 u1)))
    (y2 : PySem.W.nsIn K mainGlobals "PRIME" = some (some (.int 65521 u2)))
    (y3 : PySem.W.nsIn K mainGlobals "SUM_OCTETS" = some (some (.int 2 u3)))
    (z0 : PySem.W.nsIn K mainGlobals "abs" = some none)
    (z1 : PySem.W.nsIn K mainGlobals "int" = some none)
    (z2 : PySem.W.nsIn K mainGlobals "len" = some none)
    (z3 : PySem.W.nsIn K mainGlobals "sum" = some none)
    (z4 : PySem.W.nsIn K mainGlobals "min" = some none)
    (z5 : PySem.W.nsIn K mainGlobals "max" = some none)
    (z6 : PySem.W.nsIn K mainGlobals "tuple" = some none)
    (z7 : PySem.W.nsIn K mainGlobals "list" = some none)
    (z8 : PySem.W.nsIn K mainGlobals "sorted" = some none)
    (z9 : PySem.W.nsIn K mainGlobals "range" = some none)
    (z10 : PySem.W.nsIn K mainGlobals "enumerate" = some none)
    (z11 : PySem.W.nsIn K mainGlobals "zip" = some none)
    (z12 : PySem.W.nsIn K mainGlobals "reversed" = some none)
    (z13 : PySem.W.nsIn K mainGlobals "isinstance" = some none)
    (z14 : PySem.W.nsIn K mainGlobals "str" = some none)
    (z15 : PySem.W.nsIn K mainGlobals "bool" = some none)
    (z16 : PySem.W.nsIn K mainGlobals "dict" = some none)
    : ∃ fd : FuncData, (∀ (s : Shared) (v : Value), BindsTo s fd ⟨[v], []⟩ [("script", v)]) ∧ ∀ base : Heap, K.In base → base.Ns mainGlobals mg → FnOk l.prog w K mg base CX0 12 fa fd ["script"] (Pv.spLaw K (Fc 12 "law")) := by
  have e := hfa.symm.trans (PySem.W.mg_of X G a22)
  cases e
  have Fa : Facts K mg ds cs ks := facts (ff_mk X G (fun _ _ _ _ _ _ us hl => match us, hl with | [_], _ => rfl) a0 l0 c0 k0) (ff_mk X G (fun _ _ _ _ _ _ us hl => match us, hl with | [_], _ => rfl) a1 l1 c1 k1) (ff_mk X G (fun _ _ _ _ _ _ us hl => match us, hl with | [_, _], _ => rfl) a2 l2 c2 k2) (ff_mk X G (fun _ _ _ _ _ _ us hl => match us, hl with | [_, _], _ => rfl) a3 l3 c3 k3) (ff_mk X G (fun _ _ _ _ _ _ us hl => match us, hl with | [_], _ => rfl) a4 l4 c4 k4) (ff_mk X G (fun _ _ _ _ _ _ us hl => match us, hl with | [_], _ => rfl) a5 l5 c5 k5) (ff_mk X G (fun _ _ _ _ _ _ us hl => match us, hl with | [_], _ => rfl) a6 l6 c6 k6) (ff_mk X G (fun _ _ _ _ _ _ us hl => match us, hl with | [_], _ => rfl) a7 l7 c7 k7) (ff_mk X G (fun _ _ _ _ _ _ us hl => match us, hl with | [_, _], _ => rfl) a8 l8 c8 k8) (ff_mk X G (fun _ _ _ _ _ _ us hl => match us, hl with | [_], _ => rfl) a9 l9 c9 k9) (ff_mk X G (fun _ _ _ _ _ _ us hl => match us, hl with | [_, _], _ => rfl) a10 l10 c10 k10) (ff_mk X G (fun _ _ _ _ _ _ us hl => match us, hl with | [_, _], _ => rfl) a11 l11 c11 k11) (ff_mk X G (fun _ _ _ _ _ _ us hl => match us, hl with | [_, _], _ => rfl) a12 l12 c12 k12) (ff_mk X G (fun _ _ _ _ _ _ us hl => match us, hl with | [_, _], _ => rfl) a13 l13 c13 k13) (ff_mk X G (fun _ _ _ _ _ _ us hl => match us, hl with | [_, _], _ => rfl) a14 l14 c14 k14) (ff_mk X G (fun _ _ _ _ _ _ us hl => match us, hl with | [_], _ => rfl) a15 l15 c15 k15) (ff_mk X G (fun _ _ _ _ _ _ us hl => match us, hl with | [_], _ => rfl) a16 l16 c16 k16) (ff_mk X G (fun _ _ _ _ _ _ us hl => match us, hl with | [_], _ => rfl) a17 l17 c17 k17) (ff_mk X G (fun _ _ _ _ _ _ us hl => match us, hl with | [_], _ => rfl) a18 l18 c18 k18) (ff_mk X G (fun _ _ _ _ _ _ us hl => match us, hl with | [_], _ => rfl) a19 l19 c19 k19) (ff_mk X G (fun _ _ _ _ _ _ us hl => match us, hl with | [_, _], _ => rfl) a20 l20 c20 k20) (ff_mk X G (fun _ _ _ _ _ _ us hl => match us, hl with | [_], _ => rfl) a21 l21 c21 k21) (ff_mk X G (fun _ _ _ _ _ _ us hl => match us, hl with | [_], _ => rfl) a22 l22 c22 k22) ⟨_, .int 128, PySem.W.mg_of X G y0, ⟨_, rfl⟩, fun _ _ => .int _⟩ ⟨_, .int 256, PySem.W.mg_of X G y1, ⟨_, rfl⟩, fun _ _ => .int _⟩ ⟨_, .int 65521, PySem.W.mg_of X G y2, ⟨_, rfl⟩, fun _ _ => .int _⟩ ⟨_, .int 2, PySem.W.mg_of X G y3, ⟨_, rfl⟩, fun _ _ => .int _⟩ (List.forall_mem_cons.mpr ⟨PySem.W.mg_none_of X G z0, List.forall_mem_cons.mpr ⟨PySem.W.mg_none_of X G z1, List.forall_mem_cons.mpr ⟨PySem.W.mg_none_of X G z2, List.forall_mem_cons.mpr ⟨PySem.W.mg_none_of X G z3, List.forall_mem_cons.mpr ⟨PySem.W.mg_none_of X G z4, List.forall_mem_cons.mpr ⟨PySem.W.mg_none_of X G z5, List.forall_mem_cons.mpr ⟨PySem.W.mg_none_of X G z6, List.forall_mem_cons.mpr ⟨PySem.W.mg_none_of X G z7, List.forall_mem_cons.mpr ⟨PySem.W.mg_none_of X G z8, List.forall_mem_cons.mpr ⟨PySem.W.mg_none_of X G z9, List.forall_mem_cons.mpr ⟨PySem.W.mg_none_of X G z10, List.forall_mem_cons.mpr ⟨PySem.W.mg_none_of X G z11, List.forall_mem_cons.mpr ⟨PySem.W.mg_none_of X G z12, List.forall_mem_cons.mpr ⟨PySem.W.mg_none_of X G z13, List.forall_mem_cons.mpr ⟨PySem.W.mg_none_of X G z14, List.forall_mem_cons.mpr ⟨PySem.W.mg_none_of X G z15, List.forall_mem_cons.mpr ⟨PySem.W.mg_none_of X G z16, fun _ h => by cases h⟩⟩⟩⟩⟩⟩⟩⟩⟩⟩⟩⟩⟩⟩⟩⟩⟩)
  exact ⟨_, fun s v => .of_eq rfl, fun base _ _ => tab_ok Fa 12 d_law (List.mem_of_getElem? (i := 22) rfl) fa _ (fun_mk l22 c22 k22)⟩
end Lk69
open PySem PySem.W PyProof.Rows
set_option maxHeartbeats 0 in
theorem PySem.Challenge.cw_liarschange_k69_frames_within_frames_holds : PySem.Challenge.rw_liarschange_k69_frames_within_frames.Holds := by
  w_on; o_law; k_head; (case hw => w_witness2)
  k_fill
  refine L2.walk_of (l := PySem.Challenge.rw_liarschange_k69_frames_within_frames) (n := 63) (k := 12) (x := "script") (CX := fun _ => L2.CX0) (sp := fun w => Pv.spLaw _ (Lk69.Fc 12 "law")) rfl (by decide) rfl ⟨rfl, by decide, by decide⟩ (fun w h Y => PySem.W.kIn_of Y) ?F (fun _ _ a ns hl _ hS => (Lk69.law_true ns hl).elim fun _ e => Pv.law_end hS e) (fun _ _ _ _ _ h => h)
  case F =>
    intro w mg fa h KX G hmg
    refine' Lk69.all_mk KX G hmg ?a0 ?l0 ?c0 ?k0 ?a1 ?l1 ?c1 ?k1 ?a2 ?l2 ?c2 ?k2 ?a3 ?l3 ?c3 ?k3 ?a4 ?l4 ?c4 ?k4 ?a5 ?l5 ?c5 ?k5 ?a6 ?l6 ?c6 ?k6 ?a7 ?l7 ?c7 ?k7 ?a8 ?l8 ?c8 ?k8 ?a9 ?l9 ?c9 ?k9 ?a10 ?l10 ?c10 ?k10 ?a11 ?l11 ?c11 ?k11 ?a12 ?l12 ?c12 ?k12 ?a13 ?l13 ?c13 ?k13 ?a14 ?l14 ?c14 ?k14 ?a15 ?l15 ?c15 ?k15 ?a16 ?l16 ?c16 ?k16 ?a17 ?l17 ?c17 ?k17 ?a18 ?l18 ?c18 ?k18 ?a19 ?l19 ?c19 ?k19 ?a20 ?l20 ?c20 ?k20 ?a21 ?l21 ?c21 ?k21 ?a22 ?l22 ?c22 ?k22 ?y0 ?y1 ?y2 ?y3 ?z0 ?z1 ?z2 ?z3 ?z4 ?z5 ?z6 ?z7 ?z8 ?z9 ?z10 ?z11 ?z12 ?z13 ?z14 ?z15 ?z16
    (case a0 => k_is)
    (case l0 => k_is)
    (case c0 => k_is)
    (case k0 => k_is)
    (case a1 => k_is)
    (case l1 => k_is)
    (case c1 => k_is)
    (case k1 => k_is)
    (case a2 => k_is)
    (case l2 => k_is)
    (case c2 => k_is)
    (case k2 => k_is)
    (case a3 => k_is)
    (case l3 => k_is)
    (case c3 => k_is)
    (case k3 => k_is)
    (case a4 => k_is)
    (case l4 => k_is)
    (case c4 => k_is)
    (case k4 => k_is)
    (case a5 => k_is)
    (case l5 => k_is)
    (case c5 => k_is)
    (case k5 => k_is)
    (case a6 => k_is)
    (case l6 => k_is)
    (case c6 => k_is)
    (case k6 => k_is)
    (case a7 => k_is)
    (case l7 => k_is)
    (case c7 => k_is)
    (case k7 => k_is)
    (case a8 => k_is)
    (case l8 => k_is)
    (case c8 => k_is)
    (case k8 => k_is)
    (case a9 => k_is)
    (case l9 => k_is)
    (case c9 => k_is)
    (case k9 => k_is)
    (case a10 => k_is)
    (case l10 => k_is)
    (case c10 => k_is)
    (case k10 => k_is)
    (case a11 => k_is)
    (case l11 => k_is)
    (case c11 => k_is)
    (case k11 => k_is)
    (case a12 => k_is)
    (case l12 => k_is)
    (case c12 => k_is)
    (case k12 => k_is)
    (case a13 => k_is)
    (case l13 => k_is)
    (case c13 => k_is)
    (case k13 => k_is)
    (case a14 => k_is)
    (case l14 => k_is)
    (case c14 => k_is)
    (case k14 => k_is)
    (case a15 => k_is)
    (case l15 => k_is)
    (case c15 => k_is)
    (case k15 => k_is)
    (case a16 => k_is)
    (case l16 => k_is)
    (case c16 => k_is)
    (case k16 => k_is)
    (case a17 => k_is)
    (case l17 => k_is)
    (case c17 => k_is)
    (case k17 => k_is)
    (case a18 => k_is)
    (case l18 => k_is)
    (case c18 => k_is)
    (case k18 => k_is)
    (case a19 => k_is)
    (case l19 => k_is)
    (case c19 => k_is)
    (case k19 => k_is)
    (case a20 => k_is)
    (case l20 => k_is)
    (case c20 => k_is)
    (case k20 => k_is)
    (case a21 => k_is)
    (case l21 => k_is)
    (case c21 => k_is)
    (case k21 => k_is)
    (case a22 => k_is)
    (case l22 => k_is)
    (case c22 => k_is)
    (case k22 => k_is)
    (case y0 => k_is)
    (case y1 => k_is)
    (case y2 => k_is)
    (case y3 => k_is)
    (case z0 => k_is)
    (case z1 => k_is)
    (case z2 => k_is)
    (case z3 => k_is)
    (case z4 => k_is)
    (case z5 => k_is)
    (case z6 => k_is)
    (case z7 => k_is)
    (case z8 => k_is)
    (case z9 => k_is)
    (case z10 => k_is)
    (case z11 => k_is)
    (case z12 => k_is)
    (case z13 => k_is)
    (case z14 => k_is)
    (case z15 => k_is)
    (case z16 => k_is)

