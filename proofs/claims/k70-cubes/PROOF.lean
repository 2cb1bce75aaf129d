import PyProof.Rows.All
import Wide.All
import OpenK.AllK
import Wide.FinOn
import HandS.ForMost
import HandS.Wide
import HandS.TupAny
import HandS.SortInts
import HandS.Gcd
import HandS.Zip
import HandS.Style
import HandS.RaiseMore
import PySem.Challenge.RW_wholefours_k70_whole_points_of_cubes_cou
import HandS.Deep
import HandS.More
import HandS.Star
import HandS.TupMul
set_option Elab.async false
set_option linter.all false
set_option maxRecDepth 100000
set_option maxHeartbeats 8000000
/-! Fe: a layer of our own: what an expression or a statement computes, as a plain function over data. -/
namespace Fe
open PySem PySem.Spec PyProof.Rows L2

/-! ## data in the heap -/
mutual
inductive Dq (K : PySem.W.Frag) (H : Hp) : V → PyData → Prop
  | non : Dq K H .non .none
  | bl (b : Bool) : Dq K H (.bl b) (.bool b)
  | int (i : Int) : Dq K H (.int i) (.int i)
  | str (x : Str) : Dq K H (.str x) (.str x)
  | lst {a : Addr} {xs : List V} {ds : List PyData} : H a = some (.lst xs) → DqA K H xs ds → Dq K H (.ref a) (.list ds)
  | tup {a : Addr} {xs : List V} {ds : List PyData} : SqT K H a xs → DqA K H xs ds → Dq K H (.ref a) (.tuple ds)
inductive DqA (K : PySem.W.Frag) (H : Hp) : List V → List PyData → Prop
  | nil : DqA K H [] []
  | cons {v : V} {vs : List V} {d : PyData} {ds : List PyData} : Dq K H v d → DqA K H vs ds → DqA K H (v :: vs) (d :: ds)
end
section
variable {K : PySem.W.Frag} {G H H' : Hp}
theorem sqT_up (e : Same H H') {a : Addr} {xs : List V} (h : SqT K H a xs) : SqT K H' a xs := by
  obtain (q | ⟨o, q⟩) | q := h
  · exact Or.inl (Or.inl (e a _ q))
  · exact Or.inl (Or.inr ⟨o, e a _ q⟩)
  · exact Or.inr q
mutual
theorem Dq.up (e : Same H H') : ∀ {d : PyData} {v : V}, Dq K H v d → Dq K H' v d
  | .none, _, h => by cases h; exact .non
  | .bool _, _, h => by cases h; exact .bl _
  | .int _, _, h => by cases h; exact .int _
  | .str _, _, h => by cases h; exact .str _
  | .list _, _, h => by cases h with | lst q r => exact .lst (e _ _ q) (DqA.up e r)
  | .tuple _, _, h => by cases h with | tup q r => exact .tup (sqT_up e q) (DqA.up e r)
  | .dict _, _, h => by cases h
theorem DqA.up (e : Same H H') : ∀ {ds : List PyData} {vs : List V}, DqA K H vs ds → DqA K H' vs ds
  | [], _, h => by cases h; exact .nil
  | _ :: _, _, h => by cases h with | cons q r => exact .cons (Dq.up e q) (DqA.up e r)
end
mutual
theorem Dq.dp : ∀ {d : PyData} {v : V}, Dq K H v d → Dp K H v d
  | .none, _, h => by cases h; exact .non
  | .bool _, _, h => by cases h; exact .bl _
  | .int _, _, h => by cases h; exact .int _
  | .str _, _, h => by cases h; exact .str _
  | .list _, _, h => by cases h with | lst q r => exact .lst (Or.inl (Or.inl q)) (DqA.dp r)
  | .tuple _, _, h => by cases h with | tup q r => exact .tup q (DqA.dp r)
  | .dict _, _, h => by cases h
theorem DqA.dp : ∀ {ds : List PyData} {vs : List V}, DqA K H vs ds → DpAll K H vs ds
  | [], _, h => by cases h; exact .nil
  | _ :: _, _, h => by cases h with | cons q r => exact .cons (Dq.dp q) (DqA.dp r)
end
theorem DqA.len : ∀ {ds : List PyData} {vs : List V}, DqA K H vs ds → vs.length = ds.length
  | [], _, h => by cases h; rfl
  | _ :: _, _, h => by cases h with | cons q r => exact congrArg (· + 1) (DqA.len r)
theorem DqA.get : ∀ {ds : List PyData} {vs : List V} {i : Nat} {d : PyData}, DqA K H vs ds → ds[i]? = some d → ∃ v, vs[i]? = some v ∧ Dq K H v d
  | [], _, _, _, _, h => by simp at h
  | _ :: _, _, 0, _, r, h => by
    cases r with | cons q r => exact ⟨_, rfl, by simp at h; exact h ▸ q⟩
  | _ :: _, _, i + 1, _, r, h => by
    cases r with | cons q r => simpa using DqA.get r (by simpa using h)
theorem DqA.app : ∀ {ds es : List PyData} {vs us : List V}, DqA K H vs ds → DqA K H us es → DqA K H (vs ++ us) (ds ++ es)
  | [], _, _, _, h, k => by cases h; exact k
  | _ :: _, _, _, _, h, k => by cases h with | cons q r => exact .cons q (DqA.app r k)
theorem DqA.one {v : V} {d : PyData} (h : Dq K H v d) : DqA K H [v] [d] := .cons h .nil
theorem DqA.tk : ∀ {ds : List PyData} {vs : List V} (n : Nat), DqA K H vs ds → DqA K H (vs.take n) (ds.take n)
  | [], _, n, h => by cases h; simp; exact .nil
  | _ :: _, _, 0, _ => by simp; exact .nil
  | _ :: _, _, n + 1, h => by cases h with | cons q r => exact .cons q (DqA.tk n r)
theorem DqA.dr : ∀ {ds : List PyData} {vs : List V} (n : Nat), DqA K H vs ds → DqA K H (vs.drop n) (ds.drop n)
  | [], _, n, h => by cases h; simp; exact .nil
  | _ :: _, _, 0, h => by simpa using h
  | _ :: _, _, n + 1, h => by cases h with | cons q r => exact DqA.dr n r
theorem DqA.st {v : V} {d : PyData} (k : Dq K H v d) : ∀ {ds : List PyData} {vs : List V} (n : Nat), DqA K H vs ds → DqA K H (vs.set n v) (ds.set n d)
  | [], _, n, h => by cases h; simp; exact .nil
  | _ :: _, _, 0, h => by cases h with | cons q r => exact .cons k r
  | _ :: _, _, n + 1, h => by cases h with | cons q r => exact .cons q (DqA.st k n r)
theorem DqA.ints : ∀ (ns : List Int), DqA K H (ns.map V.int) (ns.map PyData.int)
  | [] => .nil
  | n :: r => .cons (.int n) (DqA.ints r)
end

/-! ## the draws' source -/
structure Src where
  cells : List Int
  left : Int
  mixed : Int
  turn : Int
def SrcAt (H : Hp) (a c : Addr) (s : Src) : Prop :=
  H a = some (.dK [(.inr "cells", .ref c), (.inr "left", .int s.left), (.inr "mixed", .int s.mixed), (.inr "turn", .int s.turn)]) ∧ H c = some (.lst (s.cells.map V.int))

/-! ## environments -/
/-- a slot: unknown, a value that stays, a list of one's own, the draws' source -/
inductive Sl where
  | un
  | v (d : PyData)
  | own (ds : List PyData)
  | src (s : Src)
abbrev En := List Sl

def SlOk (K : PySem.W.Frag) (A : Option Addr) (G H : Hp) (x : Option V) : Sl → List Addr → Prop
  | .un, R => R = []
  | .v d, R => R = [] ∧ ∃ v, x = some v ∧ Dq K G v d
  | .own ds, R => ∃ a xs, R = [a] ∧ x = some (.ref a) ∧ H a = some (.lst xs) ∧ DqA K G xs ds
  | .src s, R => ∃ a c, R = [a, c] ∧ A = some a ∧ x = some (.ref a) ∧ SrcAt H a c s

/-- the slots' own objects, one slot changed -/
def Rg (R : Nat → List Addr) (i : Nat) (r : List Addr) : Nat → List Addr := fun j => if j = i then r else R j
theorem rg_same {R : Nat → List Addr} {i : Nat} {r : List Addr} : Rg R i r i = r := if_pos rfl
theorem rg_ne {R : Nat → List Addr} {i j : Nat} {r : List Addr} (h : j ≠ i) : Rg R i r j = R j := if_neg h
/-- F: what others own; G: what stays as it is; H: the whole -/
structure Rel (K : PySem.W.Frag) (A : Option Addr) (F G H : Hp) (ρ : En) (σ : L2.St) : Prop where
  gh : Same G H
  fh : Same F H
  fg : ∀ a o, F a = some o → G a = none
  len : ρ.length = σ.length
  rg : ∃ R : Nat → List Addr, (∀ i s, ρ[i]? = some s → ∃ x, σ[i]? = some x ∧ SlOk K A G H x s (R i)) ∧ (∀ i j a, a ∈ R i → a ∈ R j → i = j) ∧ (∀ i a, a ∈ R i → F a = none ∧ G a = none ∧ ∃ o, H a = some o)

section
variable {K : PySem.W.Frag} {A : Option Addr} {F G G' H H' : Hp} {ρ ρ' : En} {σ : L2.St} {p : Addr} {o : HO} {x : Option V} {s : Sl} {R : List Addr}
theorem same_new (h : H p = none) : Same H (upd H p o) := fun b u e => (upd_ne (ne_of_none e h)).trans e
theorem same_two {H1 : Hp} (h : Same G H1) : Same (upd G p o) (upd H1 p o) := fun b u e => by
  by_cases hb : b = p
  · subst hb
    rw [upd_same] at e ⊢
    exact e
  · rw [upd_ne hb] at e ⊢
    exact h b u e
theorem none_of (h : Same G H) (e : H p = none) : G p = none := h.free e
theorem SlOk.up (g : Same G G') (h : ∀ a ∈ R, H' a = H a) (k : SlOk K A G H x s R) : SlOk K A G' H' x s R := by
  cases s with
  | un => exact k
  | v d => obtain ⟨e, v, q, r⟩ := k; exact ⟨e, v, q, r.up g⟩
  | own ds =>
    obtain ⟨a, xs, e, q, r, t⟩ := k
    exact ⟨a, xs, e, q, (h a (by rw [e]; simp)).trans r, t.up g⟩
  | src s =>
    obtain ⟨a, c, e, q1, q, r, t⟩ := k
    exact ⟨a, c, e, q1, q, (h a (by rw [e]; simp)).trans r, (h c (by rw [e]; simp)).trans t⟩
/-- the general step: G grows, H changes away from the slots' own objects -/
theorem Rel.to {F' : Hp} (k : Rel K A F G H ρ σ) (g : Same G G') (gh : Same G' H') (fh : Same F' H') (fg : ∀ a o, F' a = some o → G' a = none)
    (ow : ∀ a o, F a = none → G a = none → H a = some o → H' a = some o) (fn : ∀ a, F a = none → G a = none → H a ≠ none → F' a = none ∧ G' a = none) : Rel K A F' G' H' ρ σ := by
  obtain ⟨R, r1, r2, r3⟩ := k.rg
  refine ⟨gh, fh, fg, k.len, R, fun i s h => ?_, r2, fun i a h => ?_⟩
  · obtain ⟨x, h1, h2⟩ := r1 i s h
    refine ⟨x, h1, h2.up g fun a ha => ?_⟩
    obtain ⟨f1, f2, o, f3⟩ := r3 i a ha
    rw [f3]
    exact ow a o f1 f2 f3
  · obtain ⟨f1, f2, o, f3⟩ := r3 i a h
    obtain ⟨g1, g2⟩ := fn a f1 f2 (by rw [f3]; simp)
    exact ⟨g1, g2, o, ow a o f1 f2 f3⟩
/-- a new object that stays -/
theorem Rel.new (k : Rel K A F G H ρ σ) (hp : H p = none) : Rel K A F (upd G p o) (upd H p o) ρ σ :=
  k.to (same_new (none_of k.gh hp)) (same_two k.gh) (k.fh.trans (same_new hp)) (fun a u e => by
    rw [upd_ne (ne_of_none (k.fh _ _ e) hp)]
    exact k.fg a u e) (fun a u _ _ e => same_new hp _ _ e) fun a f g e => ⟨f, by
      have : a ≠ p := fun z => e (z ▸ hp)
      rw [upd_ne this]
      exact g⟩
/-- a new object of no one's -/
theorem Rel.newF (k : Rel K A F G H ρ σ) (hp : H p = none) : Rel K A (upd F p o) G (upd H p o) ρ σ :=
  k.to (Same.refl G) (k.gh.trans (same_new hp)) (same_two k.fh) (fun a u e => by
    by_cases ha : a = p
    · subst ha
      exact none_of k.gh hp
    · rw [upd_ne ha] at e
      exact k.fg a u e) (fun a u _ _ e => same_new hp _ _ e) fun a f g e => ⟨by
      have : a ≠ p := fun z => e (z ▸ hp)
      rw [upd_ne this]
      exact f, g⟩
/-- what is no one's is to stay -/
theorem Rel.keepF (k : Rel K A (upd F p o) G H ρ σ) (hf : F p = none) : Rel K A F (upd G p o) H ρ σ := by
  have hp : H p = some o := k.fh p o upd_same
  have gp : G p = none := k.fg p o upd_same
  refine k.to (same_new gp) (fun b u e => ?_) (fun b u e => ?_) (fun a u e => ?_) (fun a u _ _ e => e) fun a f g e => ?_
  · by_cases hb : b = p
    · subst hb
      rw [upd_same] at e
      exact hp.trans e
    · rw [upd_ne hb] at e
      exact k.gh b u e
  · refine k.fh b u ?_
    rw [upd_ne (ne_of_none e hf)]
    exact e
  · have : a ≠ p := ne_of_none e hf
    rw [upd_ne this]
    refine k.fg a u ?_
    rw [upd_ne this]
    exact e
  · have : a ≠ p := fun z => by
      subst z
      rw [upd_same] at f
      cases f
    rw [upd_ne this] at f ⊢
    exact ⟨f, g⟩
/-- an object of no one's changes -/
theorem Rel.chgF {o' : HO} (k : Rel K A (upd F p o) G H ρ σ) : Rel K A (upd F p o') G (upd H p o') ρ σ := by
  have gp : G p = none := k.fg p o upd_same
  refine k.to (Same.refl G) (fun b u e => ?_) (fun b u e => ?_) (fun a u e => ?_) (fun a u f g e => ?_) fun a f g e => ?_
  · rw [upd_ne (ne_of_none e gp)]
    exact k.gh b u e
  · by_cases hb : b = p
    · subst hb
      rw [upd_same] at e ⊢
      exact e
    · rw [upd_ne hb] at e ⊢
      refine k.fh b u ?_
      rw [upd_ne hb]
      exact e
  · by_cases ha : a = p
    · subst ha
      exact gp
    · rw [upd_ne ha] at e
      refine k.fg a u ?_
      rw [upd_ne ha]
      exact e
  · have : a ≠ p := fun z => by
      subst z
      rw [upd_same] at f
      cases f
    rw [upd_ne this]
    exact e
  · have : a ≠ p := fun z => by
      subst z
      rw [upd_same] at f
      cases f
    rw [upd_ne this] at f ⊢
    exact ⟨f, g⟩
/-- what no one needs is forgotten -/
theorem Rel.dropF (k : Rel K A (upd F p o) G H ρ σ) (hf : F p = none) : Rel K A F G H ρ σ := by
  have gp : G p = none := k.fg p o upd_same
  refine k.to (Same.refl G) k.gh (fun b u e => k.fh b u ?_) (fun a u e => k.fg a u ?_) (fun a u f g e => e) fun a f g e => ?_
  · rw [upd_ne (ne_of_none e hf)]
    exact e
  · rw [upd_ne (ne_of_none e hf)]
    exact e
  · by_cases ha : a = p
    · subst ha
      exact ⟨hf, gp⟩
    · rw [upd_ne ha] at f
      exact ⟨f, g⟩
theorem Rel.at (k : Rel K A F G H ρ σ) {i : Nat} {d : PyData} (h : ρ[i]? = some (.v d)) : ∃ v, σ[i]? = some (some v) ∧ Dq K G v d := by
  obtain ⟨R, r1, _⟩ := k.rg
  obtain ⟨x, h1, _, v, rfl, h2⟩ := r1 i _ h
  exact ⟨v, h1, h2⟩
theorem Rel.atOwn (k : Rel K A F G H ρ σ) {i : Nat} {ds : List PyData} (h : ρ[i]? = some (.own ds)) : ∃ a xs, σ[i]? = some (some (.ref a)) ∧ H a = some (.lst xs) ∧ DqA K G xs ds ∧ F a = none ∧ G a = none := by
  obtain ⟨R, r1, _, r3⟩ := k.rg
  obtain ⟨x, h1, a, xs, e, rfl, h2, h3⟩ := r1 i _ h
  obtain ⟨f1, f2, _⟩ := r3 i a (by rw [e]; simp)
  exact ⟨a, xs, h1, h2, h3, f1, f2⟩
/-- a slot is set -/
theorem Rel.put (k : Rel K A F G H ρ σ) {i : Nat} {y : Option V} {t : Sl} (h : SlOk K A G H y t []) : Rel K A F G H (ρ.set i t) (σ.set i y) := by
  obtain ⟨R, r1, r2, r3⟩ := k.rg
  refine ⟨k.gh, k.fh, k.fg, by simp [k.len], Rg R i [], fun j u e => ?_, fun j l a e1 e2 => ?_, fun j a e => ?_⟩
  · by_cases hj : j = i
    · subst hj
      rw [rg_same]
      rw [List.getElem?_set_self'] at e ⊢
      have hl := k.len
      by_cases hlt : j < ρ.length
      · rw [List.getElem?_eq_getElem hlt] at e
        rw [List.getElem?_eq_getElem (by omega)]
        simp at e ⊢
        exact e ▸ h
      · rw [List.getElem?_eq_none (by omega)] at e
        simp at e
    · rw [rg_ne hj]
      rw [List.getElem?_set_ne (Ne.symm hj)] at e ⊢
      exact r1 j u e
  · by_cases hj : j = i
    · rw [hj, rg_same] at e1
      cases e1
    · rw [rg_ne hj] at e1
      by_cases hl : l = i
      · rw [hl, rg_same] at e2
        cases e2
      · rw [rg_ne hl] at e2
        exact r2 j l a e1 e2
  · by_cases hj : j = i
    · rw [hj, rg_same] at e
      cases e
    · rw [rg_ne hj] at e
      exact r3 j a e
theorem Rel.putV (k : Rel K A F G H ρ σ) (i : Nat) {v : V} {d : PyData} (h : Dq K G v d) : Rel K A F G H (ρ.set i (.v d)) (σ.set i (some v)) := k.put ⟨rfl, v, rfl, h⟩
theorem Rel.putU (k : Rel K A F G H ρ σ) (i : Nat) (y : Option V) : Rel K A F G H (ρ.set i .un) (σ.set i y) := k.put rfl
/-- a list of no one's becomes the slot's own -/
theorem Rel.putOwn {a : Addr} {xs : List V} {ds : List PyData} (k : Rel K A (upd F a (.lst xs)) G H ρ σ) (hf : F a = none) (i : Nat) (h : DqA K G xs ds) : Rel K A F G H (ρ.set i (.own ds)) (σ.set i (some (.ref a))) := by
  have ha : H a = some (.lst xs) := k.fh a _ upd_same
  have ga : G a = none := k.fg a _ upd_same
  obtain ⟨R, r1, r2, r3⟩ := k.rg
  have nR : ∀ j, a ∉ R j := fun j z => by
    have := (r3 j a z).1
    rw [upd_same] at this
    cases this
  refine ⟨k.gh, (k.dropF hf).fh, (k.dropF hf).fg, by simp [k.len], Rg R i [a], fun j u e => ?_, fun j l b e1 e2 => ?_, fun j b e => ?_⟩
  · by_cases hj : j = i
    · subst hj
      rw [rg_same]
      rw [List.getElem?_set_self'] at e ⊢
      have hl := k.len
      by_cases hlt : j < ρ.length
      · rw [List.getElem?_eq_getElem hlt] at e
        rw [List.getElem?_eq_getElem (by omega)]
        simp at e ⊢
        subst e
        exact ⟨a, xs, rfl, rfl, ha, h⟩
      · rw [List.getElem?_eq_none (by omega)] at e
        simp at e
    · rw [rg_ne hj]
      rw [List.getElem?_set_ne (Ne.symm hj)] at e ⊢
      exact r1 j u e
  · by_cases hj : j = i
    · rw [hj, rg_same] at e1
      by_cases hl : l = i
      · rw [hj, hl]
      · rw [rg_ne hl] at e2
        have : b = a := by simpa using e1
        exact absurd (this ▸ e2) (nR l)
    · rw [rg_ne hj] at e1
      by_cases hl : l = i
      · rw [hl, rg_same] at e2
        have : b = a := by simpa using e2
        exact absurd (this ▸ e1) (nR j)
      · rw [rg_ne hl] at e2
        exact r2 j l b e1 e2
  · by_cases hj : j = i
    · rw [hj, rg_same] at e
      have : b = a := by simpa using e
      subst this
      exact ⟨hf, ga, _, ha⟩
    · rw [rg_ne hj] at e
      obtain ⟨f1, f2, f3⟩ := r3 j b e
      rw [upd_ne (show b ≠ a from fun z => nR j (z ▸ e))] at f1
      exact ⟨f1, f2, f3⟩
/-- a slot's own list changes -/
theorem Rel.chgOwn (k : Rel K A F G H ρ σ) {i : Nat} {a : Addr} {ds es : List PyData} {ys : List V} (h : ρ[i]? = some (.own ds)) (hσ : σ[i]? = some (some (.ref a))) (hy : DqA K G ys es) : Rel K A F G (upd H a (.lst ys)) (ρ.set i (.own es)) σ := by
  obtain ⟨R, r1, r2, r3⟩ := k.rg
  obtain ⟨x, h1, b, xs, eR, rfl, h2, h3⟩ := r1 i _ h
  have eb : b = a := by
    rw [hσ] at h1
    cases h1
    rfl
  subst eb
  have bR : b ∈ R i := by rw [eR]; simp
  obtain ⟨fb, gb, _⟩ := r3 i b bR
  refine ⟨fun c u e => ?_, fun c u e => ?_, k.fg, by simp [k.len], R, fun j u e => ?_, r2, fun j c e => ?_⟩
  · rw [upd_ne (ne_of_none e gb)]
    exact k.gh c u e
  · rw [upd_ne (ne_of_none e fb)]
    exact k.fh c u e
  · by_cases hj : j = i
    · subst hj
      rw [List.getElem?_set_self (List.getElem?_eq_some_iff.mp h).1] at e
      cases e
      exact ⟨_, h1, b, ys, eR, rfl, upd_same, hy⟩
    · rw [List.getElem?_set_ne (Ne.symm hj)] at e
      obtain ⟨x, q1, q2⟩ := r1 j u e
      refine ⟨x, q1, q2.up (Same.refl G) fun c hc => upd_ne fun z => hj ?_⟩
      exact r2 j i b (z ▸ hc) bR
  · obtain ⟨f1, f2, u, f3⟩ := r3 j c e
    by_cases hc : c = b
    · subst hc
      exact ⟨f1, f2, _, upd_same⟩
    · exact ⟨f1, f2, u, (upd_ne hc).trans f3⟩
/-- a slot's own list is to stay -/
theorem Rel.frz (k : Rel K A F G H ρ σ) {i : Nat} {ds : List PyData} (h : ρ[i]? = some (.own ds)) : ∃ G', Same G G' ∧ Rel K A F G' H (ρ.set i (.v (.list ds))) σ := by
  obtain ⟨R, r1, r2, r3⟩ := k.rg
  obtain ⟨x, h1, b, xs, eR, rfl, h2, h3⟩ := r1 i _ h
  have bR : b ∈ R i := by rw [eR]; simp
  obtain ⟨fb, gb, _⟩ := r3 i b bR
  have gg : Same G (upd G b (.lst xs)) := same_new gb
  refine ⟨upd G b (.lst xs), gg, fun c u e => ?_, k.fh, fun c u e => ?_, by simp [k.len], Rg R i [], fun j u e => ?_, fun j l c e1 e2 => ?_, fun j c e => ?_⟩
  · by_cases hc : c = b
    · subst hc
      rw [upd_same] at e
      exact h2.trans e
    · rw [upd_ne hc] at e
      exact k.gh c u e
  · rw [upd_ne (ne_of_none e fb)]
    exact k.fg c u e
  · by_cases hj : j = i
    · subst hj
      rw [List.getElem?_set_self (List.getElem?_eq_some_iff.mp h).1] at e
      cases e
      rw [rg_same]
      exact ⟨_, h1, rfl, _, rfl, .lst upd_same (h3.up gg)⟩
    · rw [List.getElem?_set_ne (Ne.symm hj)] at e
      rw [rg_ne hj]
      obtain ⟨x, q1, q2⟩ := r1 j u e
      exact ⟨x, q1, q2.up gg fun c hc => rfl⟩
  · by_cases hj : j = i
    · rw [hj, rg_same] at e1
      cases e1
    · rw [rg_ne hj] at e1
      by_cases hl : l = i
      · rw [hl, rg_same] at e2
        cases e2
      · rw [rg_ne hl] at e2
        exact r2 j l c e1 e2
  · by_cases hj : j = i
    · rw [hj, rg_same] at e
      cases e
    · rw [rg_ne hj] at e
      obtain ⟨f1, f2, f3⟩ := r3 j c e
      refine ⟨f1, ?_, f3⟩
      rw [upd_ne (show c ≠ b from fun z => hj (r2 j i b (z ▸ e) bR))]
      exact f2
end
end Fe
namespace Fe
open PySem PySem.Spec PyProof.Rows L2

/-! ## what an expression computes -/
abbrev EF := En → Option (PyData × En)
abbrev BF := En → Option (Bool × En)
abbrev LF := En → Option (List PyData × En)
/-- a value that stays -/
def FE (X : Cx) (e : Expr) (f : EF) : Prop := ∃ t, PE X e t ∧ ∀ ρ d ρ', f ρ = some (d, ρ') → ∀ A F G H σ Q, Rel X.K A F G H ρ σ →
  (∀ x G' H', Same G G' → Rel X.K A F G' H' ρ' σ → Dq X.K G' x d → Q x H') → t σ H Q
/-- a test -/
def FT (X : Cx) (e : Expr) (f : BF) : Prop := ∃ t, PT X e t ∧ ∀ ρ d ρ', f ρ = some (d, ρ') → ∀ A F G H σ Q, Rel X.K A F G H ρ σ →
  (∀ G' H', Same G G' → Rel X.K A F G' H' ρ' σ → Q d H') → t σ H Q
/-- a new list -/
def FL (X : Cx) (e : Expr) (f : LF) : Prop := ∃ t, PE X e t ∧ ∀ ρ ds ρ', f ρ = some (ds, ρ') → ∀ A F G H σ Q, Rel X.K A F G H ρ σ →
  (∀ a xs G' H', F a = none → Same G G' → Rel X.K A (upd F a (.lst xs)) G' H' ρ' σ → DqA X.K G' xs ds → xs.length ≤ sizeLine → Q (.ref a) H') → t σ H Q
/-- several values -/
def FA (X : Cx) (es : List Expr) (f : LF) : Prop := ∃ t, PA X es t ∧ ∀ ρ ds ρ', f ρ = some (ds, ρ') → ∀ A F G H σ Q, Rel X.K A F G H ρ σ →
  (∀ xs G' H', Same G G' → Rel X.K A F G' H' ρ' σ → DqA X.K G' xs ds → Q xs H') → t σ H Q
/-- a value to be read: a value that stays, or a list that may change later -/
def Dr (K : PySem.W.Frag) (G H : Hp) (x : V) (d : PyData) : Prop := Dq K G x d ∨ ∃ a xs ds, x = .ref a ∧ d = .list ds ∧ H a = some (.lst xs) ∧ DqA K G xs ds
inductive Rf where
  | val (d : PyData)
  | slot (i : Nat)
@[simp] def rdS : Option Sl → Option PyData
  | some (.v d) => some d
  | some (.own ds) => some (.list ds)
  | _ => none
@[simp] def Rf.get (ρ : En) : Rf → Option PyData
  | .val d => some d
  | .slot i => rdS ρ[i]?
def RfOk (K : PySem.W.Frag) (G : Hp) (σ : L2.St) (x : V) : Rf → Prop
  | .val d => Dq K G x d
  | .slot i => σ[i]? = some (some x)
theorem RfOk.up {K : PySem.W.Frag} {G G' : Hp} {σ : L2.St} {x : V} {r : Rf} (h : RfOk K G σ x r) (s : Same G G') : RfOk K G' σ x r := by
  cases r with
  | val d => exact Dq.up s h
  | slot i => exact h
theorem RfOk.dr {K : PySem.W.Frag} {A : Option Addr} {F G H : Hp} {ρ : En} {σ : L2.St} {x : V} {r : Rf} {d : PyData} (h : RfOk K G σ x r) (R : Rel K A F G H ρ σ) (e : r.get ρ = some d) : Dr K G H x d := by
  cases r with
  | val d' =>
    cases e
    exact Or.inl h
  | slot i =>
    have h' : σ[i]? = some (some x) := h
    have e' : rdS ρ[i]? = some d := e
    unfold rdS at e'
    split at e'
    · rename_i d' q
      cases e'
      obtain ⟨v, h1, h2⟩ := R.at q
      rw [h'] at h1
      cases h1
      exact Or.inl h2
    · rename_i ds q
      cases e'
      obtain ⟨a, xs, h1, h2, h3, _⟩ := R.atOwn q
      rw [h'] at h1
      cases h1
      exact Or.inr ⟨a, xs, ds, rfl, rfl, h2, h3⟩
    · cases e'
def FR (X : Cx) (e : Expr) (f : En → Option (Rf × En)) : Prop := ∃ t, PE X e t ∧ ∀ ρ d ρ', f ρ = some (d, ρ') → ∀ A F G H σ Q, Rel X.K A F G H ρ σ →
  (∀ x G' H', Same G G' → Rel X.K A F G' H' ρ' σ → RfOk X.K G' σ x d → Q x H') → t σ H Q

/-! ### the functions -/
@[simp] def fC (d : PyData) : EF := fun ρ => some (d, ρ)
@[simp] def fVar (i : Nat) : EF := fun ρ => match ρ[i]? with
  | some (.v d) => some (d, ρ)
  | _ => none
@[simp] def fRd (i : Nat) : En → Option (Rf × En) := fun ρ => match rdS ρ[i]? with
  | some _ => some (.slot i, ρ)
  | none => none
@[simp] def bnd {α β : Type} (x : Option (α × En)) (k : α → En → Option β) : Option β := match x with
  | none => none
  | some (a, ρ) => k a ρ
@[simp] def ret {α : Type} (ρ : En) : Option α → Option (α × En)
  | none => none
  | some a => some (a, ρ)
@[simp] def fOp (o : PyData → PyData → Option PyData) (f g : EF) : EF := fun ρ => bnd (f ρ) fun x ρ1 => bnd (g ρ1) fun y ρ2 => ret ρ2 (o x y)
@[simp] def fUn (o : PyData → Option PyData) (f : EF) : EF := fun ρ => bnd (f ρ) fun x ρ1 => ret ρ1 (o x)
@[simp] def fTst (f : EF) : BF := fun ρ => bnd (f ρ) fun x ρ1 => match x with
  | .bool b => some (b, ρ1)
  | _ => none
@[simp] def fNot (f : BF) : BF := fun ρ => bnd (f ρ) fun b ρ1 => some (!b, ρ1)
@[simp] def fAnd (f g : BF) : BF := fun ρ => bnd (f ρ) fun b ρ1 => if b = true then g ρ1 else some (false, ρ1)
@[simp] def fOr (f g : BF) : BF := fun ρ => bnd (f ρ) fun b ρ1 => if b = true then some (true, ρ1) else g ρ1
@[simp] def fIf {α : Type} (c : BF) (f g : En → Option α) : En → Option α := fun ρ => bnd (c ρ) fun b ρ1 => if b = true then f ρ1 else g ρ1
@[simp] def fBool (f : BF) : EF := fun ρ => bnd (f ρ) fun b ρ1 => some (.bool b, ρ1)
@[simp] def fNil : LF := fun ρ => some ([], ρ)
@[simp] def fCons (f : EF) (g : LF) : LF := fun ρ => bnd (f ρ) fun x ρ1 => bnd (g ρ1) fun xs ρ2 => some (x :: xs, ρ2)
@[simp] def fTup (f : LF) : EF := fun ρ => bnd (f ρ) fun xs ρ1 => if Nat.ble xs.length 16777216 = true then some (.tuple xs, ρ1) else none
@[simp] def fLst (f : LF) : LF := fun ρ => bnd (f ρ) fun xs ρ1 => if Nat.ble xs.length 16777216 = true then some (xs, ρ1) else none
@[simp] def fAsL (f : LF) : EF := fun ρ => bnd (f ρ) fun xs ρ1 => some (.list xs, ρ1)
@[simp] def fVal (f : EF) : En → Option (Rf × En) := fun ρ => bnd (f ρ) fun x ρ1 => some (.val x, ρ1)
theorem bnd_some {α β : Type} {x : Option (α × En)} {k : α → En → Option β} {b : β} (h : bnd x k = some b) : ∃ a ρ, x = some (a, ρ) ∧ k a ρ = some b := by
  unfold bnd at h
  split at h
  · cases h
  · exact ⟨_, _, rfl, h⟩
theorem ret_some {α : Type} {ρ ρ' : En} {o : Option α} {a : α} (h : ret ρ o = some (a, ρ')) : o = some a ∧ ρ = ρ' := by
  unfold ret at h
  split at h
  · cases h
  · cases h
    exact ⟨rfl, rfl⟩
theorem ble_line {n : Nat} (h : Nat.ble n 16777216 = true) : n ≤ sizeLine := by
  rw [sizeLine_eq]
  exact Nat.le_of_ble_eq_true h

section
variable {X : Cx} {e a b : Expr} {es : List Expr} {pos : Pos} {f g : EF} {c : BF} {l : LF}

theorem FE.rd (h : FE X e f) : FR X e (fVal f) := by
  obtain ⟨t, p, q⟩ := h
  refine ⟨t, p, fun ρ d ρ' h A F G H σ Q R k => ?_⟩
  obtain ⟨x, ρ1, h1, h2⟩ := bnd_some h
  cases h2
  exact q ρ x _ h1 A F G H σ Q R fun x G' H' s r z => k x G' H' s r z
/-- a new list is handed on: it stays -/
theorem FL.fe (h : FL X e l) : FE X e (fAsL l) := by
  obtain ⟨t, p, q⟩ := h
  refine ⟨t, p, fun ρ d ρ' h A F G H σ Q R k => ?_⟩
  obtain ⟨xs, ρ1, h1, h2⟩ := bnd_some h
  cases h2
  refine q ρ _ _ h1 A F G H σ Q R fun a xs G' H' fa s r z _ => ?_
  have g0 : G' a = none := r.fg a _ upd_same
  exact k _ _ H' (s.trans (same_new g0)) (r.keepF fa) (.lst upd_same (z.up (same_new g0)))
theorem fe_c {d : PyData} {v : V} (h : PE X e (tC v)) (hd : ∀ H, Dq X.K H v d) : FE X e (fC d) := by
  refine ⟨_, h, fun ρ d ρ' h A F G H σ Q R k => ?_⟩
  cases h
  exact k v G H (Same.refl G) R (hd G)
theorem fe_int {i : Int} {j} : FE X (.Constant (.int i) j pos) (fC (.int i)) := fe_c pe_int fun _ => .int i
theorem fe_bl {b : Bool} {j} : FE X (.Constant (.bool b) j pos) (fC (.bool b)) := fe_c pe_bl fun _ => .bl b
theorem fe_non {j} : FE X (.Constant .none j pos) (fC .none) := fe_c pe_non fun _ => .non
theorem fe_str {x : Str} {j} : FE X (.Constant (.str x) j pos) (fC (.str x)) := fe_c pe_str fun _ => .str x
theorem fe_v (i : Nat) (h : PE X e (tVar i)) : FE X e (fVar i) := by
  refine ⟨_, h, fun ρ d ρ' h A F G H σ Q R k => ?_⟩
  unfold fVar at h
  split at h
  · rename_i d' e
    cases h
    obtain ⟨v, h1, h2⟩ := R.at e
    exact ⟨v, h1, k v G H (Same.refl G) R h2⟩
  · cases h
theorem fr_v (i : Nat) (h : PE X e (tVar i)) : FR X e (fRd i) := by
  refine ⟨_, h, fun ρ d ρ' h A F G H σ Q R k => ?_⟩
  unfold fRd at h
  split at h
  · rename_i d' e
    cases h
    have : ∃ v, σ[i]? = some (some v) := by
      unfold rdS at e
      split at e
      · rename_i q
        obtain ⟨v, h1, _⟩ := R.at q
        exact ⟨v, h1⟩
      · rename_i q
        obtain ⟨a, xs, h1, _⟩ := R.atOwn q
        exact ⟨_, h1⟩
      · cases e
    obtain ⟨v, h1⟩ := this
    exact ⟨v, h1, k v G H (Same.refl G) R h1⟩
  · cases h

/-! ### operators -/
def OpF (K : PySem.W.Frag) (r : R2) (o : PyData → PyData → Option PyData) : Prop := ∀ x y d e c, o d e = some c → ∀ A F G H ρ σ Q, Rel K A F G H ρ σ → Dq K G x d → Dq K G y e →
  (∀ z G' H', Same G G' → Rel K A F G' H' ρ σ → Dq K G' z c → Q z H') → r x y H Q
def oOr (o o' : PyData → PyData → Option PyData) : PyData → PyData → Option PyData := fun d e => match o d e with
  | some c => some c
  | none => o' d e
theorem OpF.or {K : PySem.W.Frag} {r r' : R2} {o o' : PyData → PyData → Option PyData} (h : OpF K r o) (h' : OpF K r' o') : OpF K (fun x y H Q => r x y H Q ∨ r' x y H Q) (oOr o o') := by
  intro x y d e c q A F G H ρ σ Q R hx hy k
  unfold oOr at q
  split at q
  · cases q
    rename_i q
    exact Or.inl (h x y d e _ q A F G H ρ σ Q R hx hy k)
  · exact Or.inr (h' x y d e c q A F G H ρ σ Q R hx hy k)
theorem two {ta tb : TE} {r : R2} {o : PyData → PyData → Option PyData} (ho : OpF X.K r o)
    (ha : ∀ ρ d ρ', f ρ = some (d, ρ') → ∀ A F G H σ Q, Rel X.K A F G H ρ σ → (∀ x G' H', Same G G' → Rel X.K A F G' H' ρ' σ → Dq X.K G' x d → Q x H') → ta σ H Q)
    (hb : ∀ ρ d ρ', g ρ = some (d, ρ') → ∀ A F G H σ Q, Rel X.K A F G H ρ σ → (∀ x G' H', Same G G' → Rel X.K A F G' H' ρ' σ → Dq X.K G' x d → Q x H') → tb σ H Q) :
    ∀ ρ d ρ', fOp o f g ρ = some (d, ρ') → ∀ A F G H σ Q, Rel X.K A F G H ρ σ → (∀ x G' H', Same G G' → Rel X.K A F G' H' ρ' σ → Dq X.K G' x d → Q x H') → tOp r ta tb σ H Q := by
  intro ρ d ρ' h A F G H σ Q R k
  obtain ⟨x, ρ1, h1, h2⟩ := bnd_some h
  obtain ⟨y, ρ2, h3, h4⟩ := bnd_some h2
  obtain ⟨h5, rfl⟩ := ret_some h4
  refine ha ρ x ρ1 h1 A F G H σ _ R fun u G1 H1 s1 R1 d1 => ?_
  refine hb ρ1 y _ h3 A F G1 H1 σ _ R1 fun v G2 H2 s2 R2 d2 => ?_
  exact ho u v x y d h5 A F G2 H2 _ σ Q R2 (d1.up s2) d2 fun z G3 H3 s3 R3 d3 => k z G3 H3 ((s1.trans s2).trans s3) R3 d3
theorem fe_op {op : Operator} {r : R2} {o : PyData → PyData → Option PyData} (ho : OpR X (binaryOp op) r) (hf : OpF X.K r o) (ha : FE X a f) (hb : FE X b g) : FE X (.BinOp a op b pos) (fOp o f g) := by
  obtain ⟨ta, pa, qa⟩ := ha
  obtain ⟨tb, pb, qb⟩ := hb
  exact ⟨_, pe_op ho pa pb, two hf qa qb⟩
theorem fe_cmp {op : CmpOp} {r : R2} {o : PyData → PyData → Option PyData} (ho : OpR X (compareOp op) r) (hf : OpF X.K r o) (ha : FE X a f) (hb : FE X b g) (hm : behindInMarks op b = false) : FE X (.Compare a [op] [b] pos) (fOp o f g) := by
  obtain ⟨ta, pa, qa⟩ := ha
  obtain ⟨tb, pb, qb⟩ := hb
  exact ⟨_, pe_cmpR ho pa pb hm, two hf qa qb⟩
theorem tst {t : TE} (ha : ∀ ρ d ρ', f ρ = some (d, ρ') → ∀ A F G H σ Q, Rel X.K A F G H ρ σ → (∀ x G' H', Same G G' → Rel X.K A F G' H' ρ' σ → Dq X.K G' x d → Q x H') → t σ H Q) :
    ∀ ρ d ρ', fTst f ρ = some (d, ρ') → ∀ A F G H σ Q, Rel X.K A F G H ρ σ → (∀ G' H', Same G G' → Rel X.K A F G' H' ρ' σ → Q d H') → tTest t σ H Q := by
  intro ρ d ρ' h A F G H σ Q R k
  obtain ⟨x, ρ1, h1, h2⟩ := bnd_some h
  split at h2
  · cases h2
    refine ha ρ _ _ h1 A F G H σ _ R fun x G' H' s r z => ?_
    cases z
    exact ⟨_, rfl, k G' H' s r⟩
  · cases h2
theorem ft_cmp {op : CmpOp} {r : R2} {o : PyData → PyData → Option PyData} (ho : OpR X (compareOp op) r) (hf : OpF X.K r o) (ha : FE X a f) (hb : FE X b g) (hm : behindInMarks op b = false) : FT X (.Compare a [op] [b] pos) (fTst (fOp o f g)) := by
  obtain ⟨ta, pa, qa⟩ := ha
  obtain ⟨tb, pb, qb⟩ := hb
  exact ⟨_, pt_cmpR ho pa pb hm, tst (two hf qa qb)⟩
/-- a bool's value as a test -/
theorem ft_val (h : FE X e f) (he : ∀ whole, isTrue e X.env whole = (do let v ← whole; standAt e.pos; holding [v] (truthy v)) := by intro _; rfl) : FT X e (fTst f) := by
  obtain ⟨t, p, q⟩ := h
  refine ⟨_, pt_val p he, fun ρ d ρ' h A F G H σ Q R k => ?_⟩
  exact tst q ρ d ρ' h A F G H σ Q R k
theorem ft_not (h : FT X a c) : FT X (.UnaryOp .Not a pos) (fNot c) := by
  obtain ⟨t, p, q⟩ := h
  refine ⟨_, pt_not p, fun ρ d ρ' h A F G H σ Q R k => ?_⟩
  obtain ⟨x, ρ1, h1, h2⟩ := bnd_some h
  cases h2
  exact q ρ x _ h1 A F G H σ _ R fun G' H' s r => k G' H' s r
def FW (X : Cx) (e : Expr) (f : BF) : Prop := ∃ t, PW X e t ∧ ∀ ρ d ρ', f ρ = some (d, ρ') → ∀ A F G H σ Q, Rel X.K A F G H ρ σ →
  (∀ G' H', Same G G' → Rel X.K A F G' H' ρ' σ → Q d H') → t σ H Q
theorem FW.ft (h : FW X e c) : FT X e c := by
  obtain ⟨t, p, q⟩ := h
  exact ⟨t, p.pt, q⟩
variable {c1 c2 : BF} {rest : List Expr}
theorem fw_and1 (h : FT X a c) : FW X (.BoolOp .And [a] pos) c := by
  obtain ⟨t, p, q⟩ := h
  exact ⟨t, pw_and1 p, q⟩
theorem fw_or1 (h : FT X a c) : FW X (.BoolOp .Or [a] pos) c := by
  obtain ⟨t, p, q⟩ := h
  exact ⟨t, pw_or1 p, q⟩
theorem fw_and (h1 : FT X a c1) (h2 : FW X (.BoolOp .And (b :: rest) pos) c2) : FW X (.BoolOp .And (a :: b :: rest) pos) (fAnd c1 c2) := by
  obtain ⟨t, p, q⟩ := h1
  obtain ⟨t2, p2, q2⟩ := h2
  refine ⟨_, pw_and p p2, fun ρ d ρ' h A F G H σ Q R k => ?_⟩
  obtain ⟨x, ρ1, h3, h4⟩ := bnd_some h
  refine q ρ x _ h3 A F G H σ _ R fun G' H' s r => ?_
  cases x with
  | true => exact q2 _ _ _ h4 A F G' H' σ _ r fun G2 H2 s2 r2 => k G2 H2 (s.trans s2) r2
  | false =>
    cases h4
    exact k G' H' s r
theorem fw_or (h1 : FT X a c1) (h2 : FW X (.BoolOp .Or (b :: rest) pos) c2) : FW X (.BoolOp .Or (a :: b :: rest) pos) (fOr c1 c2) := by
  obtain ⟨t, p, q⟩ := h1
  obtain ⟨t2, p2, q2⟩ := h2
  refine ⟨_, pw_or p p2, fun ρ d ρ' h A F G H σ Q R k => ?_⟩
  obtain ⟨x, ρ1, h3, h4⟩ := bnd_some h
  refine q ρ x _ h3 A F G H σ _ R fun G' H' s r => ?_
  cases x with
  | true =>
    cases h4
    exact k G' H' s r
  | false => exact q2 _ _ _ h4 A F G' H' σ _ r fun G2 H2 s2 r2 => k G2 H2 (s.trans s2) r2
theorem fe_ifExp (hc : FT X e c) (ha : FE X a f) (hb : FE X b g) : FE X (.IfExp e a b pos) (fIf c f g) := by
  obtain ⟨t, p, q⟩ := hc
  obtain ⟨ta, pa, qa⟩ := ha
  obtain ⟨tb, pb, qb⟩ := hb
  refine ⟨_, pe_ifExp p pa pb, fun ρ d ρ' h A F G H σ Q R k => ?_⟩
  obtain ⟨x, ρ1, h3, h4⟩ := bnd_some h
  refine q ρ x _ h3 A F G H σ _ R fun G' H' s r => ?_
  cases x with
  | true => exact qa _ _ _ h4 A F G' H' σ _ r fun x G2 H2 s2 r2 => k x G2 H2 (s.trans s2) r2
  | false => exact qb _ _ _ h4 A F G' H' σ _ r fun x G2 H2 s2 r2 => k x G2 H2 (s.trans s2) r2

/-! ### values of bools: and, or, not -/
@[simp] def fAndV (f g : EF) : EF := fun ρ => bnd (f ρ) fun x ρ1 => match x with
  | .bool true => bnd (g ρ1) fun y ρ2 => match y with
    | .bool b => some (.bool b, ρ2)
    | _ => none
  | .bool false => some (.bool false, ρ1)
  | _ => none
@[simp] def fOrV (f g : EF) : EF := fun ρ => bnd (f ρ) fun x ρ1 => match x with
  | .bool true => some (.bool true, ρ1)
  | .bool false => bnd (g ρ1) fun y ρ2 => match y with
    | .bool b => some (.bool b, ρ2)
    | _ => none
  | _ => none
@[simp] def fNotV (f : EF) : EF := fun ρ => bnd (f ρ) fun x ρ1 => match x with
  | .bool b => some (.bool (!b), ρ1)
  | _ => none
theorem fe_one {op : BoolOp} (h : FE X a f) : FE X (.BoolOp op [a] pos) f := by
  obtain ⟨t, p, q⟩ := h
  exact ⟨t, pe_one p, q⟩
theorem fe_and (h1 : FE X a f) (h2 : FE X (.BoolOp .And (b :: rest) pos) g) : FE X (.BoolOp .And (a :: b :: rest) pos) (fAndV f g) := by
  obtain ⟨t, p, q⟩ := h1
  obtain ⟨t2, p2, q2⟩ := h2
  refine ⟨_, pe_and p p2, fun ρ d ρ' h A F G H σ Q R k => ?_⟩
  obtain ⟨x, ρ1, h3, h4⟩ := bnd_some h
  refine q ρ x _ h3 A F G H σ _ R fun y G' H' s r z => ?_
  split at h4
  · obtain ⟨u, ρ2, h5, h6⟩ := bnd_some h4
    cases z
    refine ⟨true, rfl, ?_⟩
    split at h6
    · cases h6
      exact q2 _ _ _ h5 A F G' H' σ _ r fun x G2 H2 s2 r2 => k x G2 H2 (s.trans s2) r2
    · cases h6
  · cases h4
    cases z
    exact ⟨false, rfl, k _ G' H' s r (.bl false)⟩
  · cases h4
theorem fe_or (h1 : FE X a f) (h2 : FE X (.BoolOp .Or (b :: rest) pos) g) : FE X (.BoolOp .Or (a :: b :: rest) pos) (fOrV f g) := by
  obtain ⟨t, p, q⟩ := h1
  obtain ⟨t2, p2, q2⟩ := h2
  refine ⟨_, pe_or p p2, fun ρ d ρ' h A F G H σ Q R k => ?_⟩
  obtain ⟨x, ρ1, h3, h4⟩ := bnd_some h
  refine q ρ x _ h3 A F G H σ _ R fun y G' H' s r z => ?_
  split at h4
  · cases h4
    cases z
    exact ⟨true, rfl, k _ G' H' s r (.bl true)⟩
  · obtain ⟨u, ρ2, h5, h6⟩ := bnd_some h4
    cases z
    refine ⟨false, rfl, ?_⟩
    split at h6
    · cases h6
      exact q2 _ _ _ h5 A F G' H' σ _ r fun x G2 H2 s2 r2 => k x G2 H2 (s.trans s2) r2
    · cases h6
  · cases h4
theorem fe_not (h1 : FE X a f) : FE X (.UnaryOp .Not a pos) (fNotV f) := by
  obtain ⟨t, p, q⟩ := h1
  refine ⟨_, pe_not p, fun ρ d ρ' h A F G H σ Q R k => ?_⟩
  obtain ⟨x, ρ1, h3, h4⟩ := bnd_some h
  refine q ρ x _ h3 A F G H σ _ R fun y G' H' s r z => ?_
  split at h4
  · cases h4
    cases z
    exact ⟨_, rfl, k _ G' H' s r (.bl _)⟩
  · cases h4

/-! ### argument lists, displays -/
theorem fa_nil : FA X [] fNil := by
  refine ⟨_, pa_nil, fun ρ d ρ' h A F G H σ Q R k => ?_⟩
  cases h
  exact k _ G H (Same.refl G) R .nil
theorem fa_cons (h1 : FE X e f) (h2 : FA X es l) (hs : starEach (e :: es) X.env = (false, eval e X.env) :: starEach es X.env := by rfl) : FA X (e :: es) (fCons f l) := by
  obtain ⟨t, p, q⟩ := h1
  obtain ⟨t2, p2, q2⟩ := h2
  refine ⟨_, pa_cons p p2 hs, fun ρ d ρ' h A F G H σ Q R k => ?_⟩
  obtain ⟨x, ρ1, h3, h4⟩ := bnd_some h
  obtain ⟨xs, ρ2, h5, h6⟩ := bnd_some h4
  cases h6
  refine q ρ x _ h3 A F G H σ _ R fun y G' H' s r z => ?_
  exact q2 _ _ _ h5 A F G' H' σ _ r fun ys G2 H2 s2 r2 z2 => k _ G2 H2 (s.trans s2) r2 (.cons (z.up s2) z2)
theorem fe_tup {x1} (h : FA X es l) : FE X (.Tuple es x1 pos) (fTup l) := by
  obtain ⟨t, p, q⟩ := h
  refine ⟨_, pe_tup p, fun ρ d ρ' h A F G H σ Q R k => ?_⟩
  obtain ⟨xs, ρ1, h3, h4⟩ := bnd_some h
  split at h4
  · rename_i hz
    cases h4
    refine q ρ xs _ h3 A F G H σ _ R fun ys G' H' s r z => ⟨?_, fun p hp => ?_⟩
    · rw [z.len]
      exact ble_line hz
    · have g0 := none_of r.gh hp
      exact k _ _ _ (s.trans (same_new g0)) (r.new hp) (.tup (Or.inl (Or.inl upd_same)) (z.up (same_new g0)))
  · cases h4
theorem fl_lst (h : FA X es l) : FL X (.List es pos) (fLst l) := by
  obtain ⟨t, p, q⟩ := h
  refine ⟨_, pe_lst p, fun ρ d ρ' h A F G H σ Q R k => ?_⟩
  obtain ⟨xs, ρ1, h3, h4⟩ := bnd_some h
  split at h4
  · rename_i hz
    cases h4
    have hz' := ble_line hz
    refine q ρ _ _ h3 A F G H σ _ R fun ys G' H' s r z => ⟨by rw [z.len]; exact hz', fun p hp => ?_⟩
    exact k p ys G' _ (none_of r.fh hp) s (r.newF hp) z (by rw [z.len]; exact hz')
  · cases h4
end
end Fe
namespace Fe
open PySem PySem.Spec PyProof.Rows L2

/-! ## values: operators -/
@[simp] def oI (f : Int → Int → PyData) : PyData → PyData → Option PyData
  | .int i, .int j => some (f i j)
  | _, _ => none
@[simp] def oIc (c : Int → Int → Bool) (f : Int → Int → PyData) : PyData → PyData → Option PyData
  | .int i, .int j => if c i j = true then some (f i j) else none
  | _, _ => none
section
variable {K : PySem.W.Frag}
theorem of_I0 {g : Int → Int → V} {f : Int → Int → PyData} (h : ∀ i j H, Dq K H (g i j) (f i j)) : OpF K (rI0 g) (oI f) := by
  intro x y d e c q A F G H ρ σ Q R hx hy k
  unfold oI at q
  split at q
  · cases q
    cases hx
    cases hy
    exact ⟨_, _, rfl, rfl, k _ G H (Same.refl G) R (h _ _ _)⟩
  · cases q
theorem of_I {C : Int → Int → Prop} {cb : Int → Int → Bool} {g : Int → Int → V} {f : Int → Int → PyData} (hc : ∀ i j, cb i j = true → C i j) (h : ∀ i j H, Dq K H (g i j) (f i j)) : OpF K (rI C g) (oIc cb f) := by
  intro x y d e c q A F G H ρ σ Q R hx hy k
  unfold oIc at q
  split at q
  · split at q
    · rename_i hcc
      cases q
      cases hx
      cases hy
      exact ⟨_, _, rfl, rfl, hc _ _ hcc, k _ G H (Same.refl G) R (h _ _ _)⟩
    · cases q
  · cases q
end
abbrev oAdd := oI fun i j => .int (i + j)
abbrev oSub := oI fun i j => .int (i - j)
abbrev oLt := oI fun i j => .bool (decide (i < j))
abbrev oLe := oI fun i j => .bool (decide (i ≤ j))
abbrev oGt := oI fun i j => .bool (decide (j < i))
abbrev oGe := oI fun i j => .bool (decide (j ≤ i))
def mulOk (i j : Int) : Bool := Nat.blt (i.natAbs.log2 + j.natAbs.log2) 1000000
def divOk (j : Int) : Bool := decide (0 < j) && Nat.blt j.natAbs.log2 9000
def modOk (j : Int) : Bool := decide (0 < j)
abbrev oMul := oIc mulOk fun i j => .int (i * j)
abbrev oDiv := oIc (fun _ j => divOk j) fun i j => .int (i / j)
abbrev oMod := oIc (fun _ j => modOk j) fun i j => .int (i % j)
section
variable {X : Cx} {e a b : Expr} {pos : Pos} {f g : EF}
theorem fe_add (ha : FE X a f) (hb : FE X b g) : FE X (.BinOp a .Add b pos) (fOp oAdd f g) := fe_op op_add (of_I0 fun i j _ => .int _) ha hb
theorem fe_sub (ha : FE X a f) (hb : FE X b g) : FE X (.BinOp a .Sub b pos) (fOp oSub f g) := fe_op op_sub (of_I0 fun i j _ => .int _) ha hb
theorem fe_mul (ha : FE X a f) (hb : FE X b g) : FE X (.BinOp a .Mult b pos) (fOp oMul f g) := fe_op op_mulW (of_I (fun i j h => Nat.le_of_ble_eq_true h) fun i j _ => .int _) ha hb
theorem fe_fdiv (ha : FE X a f) (hb : FE X b g) : FE X (.BinOp a .FloorDiv b pos) (fOp oDiv f g) := fe_op op_fdivW (of_I (fun i j h => by
  have h' := Bool.and_eq_true_iff.mp h
  exact ⟨of_decide_eq_true h'.1, Nat.le_of_ble_eq_true h'.2⟩) fun i j _ => .int _) ha hb
theorem fe_mod (ha : FE X a f) (hb : FE X b g) : FE X (.BinOp a .Mod b pos) (fOp oMod f g) := fe_op op_mod (of_I (fun i j h => of_decide_eq_true h) fun i j _ => .int _) ha hb
theorem fe_lt (ha : FE X a f) (hb : FE X b g) : FE X (.Compare a [.Lt] [b] pos) (fOp oLt f g) := fe_cmp op_lt (of_I0 fun i j _ => .bl _) ha hb (nobehind _ (by decide) (by decide))
theorem fe_le (ha : FE X a f) (hb : FE X b g) : FE X (.Compare a [.LtE] [b] pos) (fOp oLe f g) := fe_cmp op_le (of_I0 fun i j _ => .bl _) ha hb (nobehind _ (by decide) (by decide))
theorem fe_gt (ha : FE X a f) (hb : FE X b g) : FE X (.Compare a [.Gt] [b] pos) (fOp oGt f g) := fe_cmp op_gt (of_I0 fun i j _ => .bl _) ha hb (nobehind _ (by decide) (by decide))
theorem fe_ge (ha : FE X a f) (hb : FE X b g) : FE X (.Compare a [.GtE] [b] pos) (fOp oGe f g) := fe_cmp op_ge (of_I0 fun i j _ => .bl _) ha hb (nobehind _ (by decide) (by decide))
theorem ft_lt (ha : FE X a f) (hb : FE X b g) : FT X (.Compare a [.Lt] [b] pos) (fTst (fOp oLt f g)) := ft_cmp op_lt (of_I0 fun i j _ => .bl _) ha hb (nobehind _ (by decide) (by decide))
theorem ft_le (ha : FE X a f) (hb : FE X b g) : FT X (.Compare a [.LtE] [b] pos) (fTst (fOp oLe f g)) := ft_cmp op_le (of_I0 fun i j _ => .bl _) ha hb (nobehind _ (by decide) (by decide))
theorem ft_gt (ha : FE X a f) (hb : FE X b g) : FT X (.Compare a [.Gt] [b] pos) (fTst (fOp oGt f g)) := ft_cmp op_gt (of_I0 fun i j _ => .bl _) ha hb (nobehind _ (by decide) (by decide))
theorem ft_ge (ha : FE X a f) (hb : FE X b g) : FT X (.Compare a [.GtE] [b] pos) (fTst (fOp oGe f g)) := ft_cmp op_ge (of_I0 fun i j _ => .bl _) ha hb (nobehind _ (by decide) (by decide))
@[simp] def oNeg : PyData → Option PyData
  | .int i => some (.int (-i))
  | _ => none
theorem fe_neg (ha : FE X a f) : FE X (.UnaryOp .USub a pos) (fUn oNeg f) := by
  obtain ⟨t, p, q⟩ := ha
  refine ⟨_, pe_un un_neg p, fun ρ d ρ' h A F G H σ Q R k => ?_⟩
  obtain ⟨x, ρ1, h1, h2⟩ := bnd_some h
  obtain ⟨h3, rfl⟩ := ret_some h2
  refine q ρ x _ h1 A F G H σ _ R fun y G' H' s r z => ?_
  unfold oNeg at h3
  split at h3
  · cases h3
    cases z
    exact ⟨_, rfl, k _ G' H' s r (.int _)⟩
  · cases h3
/-! ### == and != -/
def oEq (d e : PyData) : Option PyData := if (SeqAt.shaped d && SeqAt.shaped e) = true then some (.bool (PyData.eqv d e)) else none
def oNe (d e : PyData) : Option PyData := if (SeqAt.shaped d && SeqAt.shaped e) = true then some (.bool (!PyData.eqv d e)) else none
theorem of_eq {K : PySem.W.Frag} : OpF K (rEqD K) oEq := by
  intro x y d e c q A F G H ρ σ Q R hx hy k
  unfold oEq at q
  split at q
  · rename_i hs
    cases q
    have hs' := Bool.and_eq_true_iff.mp hs
    exact ⟨d, e, (hx.up R.gh).dp, (hy.up R.gh).dp, hs'.1, hs'.2, k _ G H (Same.refl G) R (.bl _)⟩
  · cases q
theorem of_ne {K : PySem.W.Frag} : OpF K (rNeD K) oNe := by
  intro x y d e c q A F G H ρ σ Q R hx hy k
  unfold oNe at q
  split at q
  · rename_i hs
    cases q
    have hs' := Bool.and_eq_true_iff.mp hs
    exact ⟨d, e, (hx.up R.gh).dp, (hy.up R.gh).dp, hs'.1, hs'.2, k _ G H (Same.refl G) R (.bl _)⟩
  · cases q
theorem fe_eq (hu : X.A.units + 64 < cLine) (ha : FE X a f) (hb : FE X b g) : FE X (.Compare a [.Eq] [b] pos) (fOp oEq f g) := fe_cmp (op_eqD hu) of_eq ha hb (nobehind _ (by decide) (by decide))
theorem fe_ne (hu : X.A.units + 64 < cLine) (ha : FE X a f) (hb : FE X b g) : FE X (.Compare a [.NotEq] [b] pos) (fOp oNe f g) := fe_cmp (op_neD hu) of_ne ha hb (nobehind _ (by decide) (by decide))
theorem ft_eq (hu : X.A.units + 64 < cLine) (ha : FE X a f) (hb : FE X b g) : FT X (.Compare a [.Eq] [b] pos) (fTst (fOp oEq f g)) := ft_cmp (op_eqD hu) of_eq ha hb (nobehind _ (by decide) (by decide))
theorem ft_ne (hu : X.A.units + 64 < cLine) (ha : FE X a f) (hb : FE X b g) : FT X (.Compare a [.NotEq] [b] pos) (fTst (fOp oNe f g)) := ft_cmp (op_neD hu) of_ne ha hb (nobehind _ (by decide) (by decide))
/-! ### is None -/
@[simp] def oIsN : PyData → Option PyData
  | .none => some (.bool true)
  | _ => some (.bool false)
@[simp] def oNotN : PyData → Option PyData
  | .none => some (.bool false)
  | _ => some (.bool true)
theorem fe_isN {j pos'} (ha : FE X a f) : FE X (.Compare a [.Is] [.Constant .none j pos'] pos) (fUn oIsN f) := by
  obtain ⟨t, p, q⟩ := ha
  refine ⟨_, pe_cmp (pc_isN p), fun ρ d ρ' h A F G H σ Q R k => ?_⟩
  obtain ⟨x, ρ1, h1, h2⟩ := bnd_some h
  obtain ⟨h3, rfl⟩ := ret_some h2
  refine q ρ x _ h1 A F G H σ _ R fun y G' H' s r z => ?_
  cases z <;> (cases h3; exact k _ G' H' s r (.bl _))
theorem fe_notN {j pos'} (ha : FE X a f) : FE X (.Compare a [.IsNot] [.Constant .none j pos'] pos) (fUn oNotN f) := by
  obtain ⟨t, p, q⟩ := ha
  refine ⟨_, pe_cmp (pc_notN p), fun ρ d ρ' h A F G H σ Q R k => ?_⟩
  obtain ⟨x, ρ1, h1, h2⟩ := bnd_some h
  obtain ⟨h3, rfl⟩ := ret_some h2
  refine q ρ x _ h1 A F G H σ _ R fun y G' H' s r z => ?_
  cases z <;> (cases h3; exact k _ G' H' s r (.bl _))
theorem ft_isN {j pos'} (ha : FE X a f) : FT X (.Compare a [.Is] [.Constant .none j pos'] pos) (fTst (fUn oIsN f)) := by
  obtain ⟨t, p, q⟩ := ha
  refine ⟨_, pt_cmp (pc_isN p), tst fun ρ d ρ' h A F G H σ Q R k => ?_⟩
  obtain ⟨x, ρ1, h1, h2⟩ := bnd_some h
  obtain ⟨h3, rfl⟩ := ret_some h2
  refine q ρ x _ h1 A F G H σ _ R fun y G' H' s r z => ?_
  cases z <;> (cases h3; exact k _ G' H' s r (.bl _))
theorem ft_notN {j pos'} (ha : FE X a f) : FT X (.Compare a [.IsNot] [.Constant .none j pos'] pos) (fTst (fUn oNotN f)) := by
  obtain ⟨t, p, q⟩ := ha
  refine ⟨_, pt_cmp (pc_notN p), tst fun ρ d ρ' h A F G H σ Q R k => ?_⟩
  obtain ⟨x, ρ1, h1, h2⟩ := bnd_some h
  obtain ⟨h3, rfl⟩ := ret_some h2
  refine q ρ x _ h1 A F G H σ _ R fun y G' H' s r z => ?_
  cases z <;> (cases h3; exact k _ G' H' s r (.bl _))

/-! ### items -/
/-- the place of an index -/
def ixD (ds : List PyData) (i : Int) : Option PyData := match i with
  | .ofNat n => ds[n]?
  | .negSucc n => if Nat.blt n ds.length = true then ds[ds.length - (n + 1)]? else none
theorem ixD_at {K : PySem.W.Frag} {H : Hp} {vs : List V} {ds : List PyData} {i : Int} {d : PyData} (h : DqA K H vs ds) (k : ixD ds i = some d) : ∃ v, atI vs i = some v ∧ Dq K H v d := by
  have hl := h.len
  unfold ixD at k
  split at k
  · rename_i n
    obtain ⟨v, h1, h2⟩ := h.get k
    refine ⟨v, ?_, h2⟩
    have hn : n < vs.length := (List.getElem?_eq_some_iff.mp h1).1
    unfold atI ixN
    rw [if_pos (show (0 : Int) ≤ Int.ofNat n from Int.natCast_nonneg n), if_pos (show Int.ofNat n < (vs.length : Int) from Int.ofNat_lt.mpr hn)]
    exact h1
  · rename_i n
    split at k
    · rename_i hn
      have hn : n + 1 ≤ ds.length := Nat.le_of_ble_eq_true hn
      obtain ⟨v, h1, h2⟩ := h.get k
      refine ⟨v, ?_, h2⟩
      unfold atI ixN
      rw [if_neg (by omega), if_pos (by omega)]
      have e : (Int.negSucc n + (vs.length : Int)).toNat = ds.length - (n + 1) := by omega
      show (some (Int.negSucc n + (vs.length : Int)).toNat).bind (fun j => vs[j]?) = some v
      rw [e]
      exact h1
    · cases k
@[simp] def oIx : PyData → PyData → Option PyData
  | .list ds, .int i => ixD ds i
  | .tuple ds, .int i => ixD ds i
  | _, _ => none
@[simp] def fIx (f : En → Option (Rf × En)) (g : EF) : EF := fun ρ => bnd (f ρ) fun r ρ1 => bnd (g ρ1) fun y ρ2 => match r.get ρ2 with
  | some x => ret ρ2 (oIx x y)
  | none => none
theorem Dr.sq {K : PySem.W.Frag} {G H : Hp} {x : V} {ds : List PyData} (g : Same G H) (h : Dr K G H x (.list ds)) : ∃ a xs, x = .ref a ∧ H a = some (.lst xs) ∧ DqA K G xs ds := by
  rcases h with h | ⟨a, xs, es, e1, e2, h1, h2⟩
  · cases h with | lst q r => exact ⟨_, _, rfl, g _ _ q, r⟩
  · cases e2
    exact ⟨a, xs, e1, h1, h2⟩
theorem Dr.st {K : PySem.W.Frag} {G H : Hp} {x : V} {ds : List PyData} (g : Same G H) (h : Dr K G H x (.tuple ds)) : ∃ a xs, x = .ref a ∧ SqT K H a xs ∧ DqA K G xs ds := by
  rcases h with h | ⟨a, xs, es, e1, e2, h1, h2⟩
  · cases h with | tup q r => exact ⟨_, _, rfl, sqT_up g q, r⟩
  · cases e2
theorem fe_ix {r : En → Option (Rf × En)} (ha : FR X a r) (hb : FE X b g) (hs : PlainIx b := by exact fun _ _ => rfl) : FE X (.Subscript a b pos) (fIx r g) := by
  obtain ⟨ta, pa, qa⟩ := ha
  obtain ⟨tb, pb, qb⟩ := hb
  refine ⟨_, pe_ix ix_seq pa pb hs, fun ρ d ρ' h A F G H σ Q R k => ?_⟩
  obtain ⟨u, ρ1, h1, h2⟩ := bnd_some h
  obtain ⟨y, ρ2, h3, h4⟩ := bnd_some h2
  refine qa ρ u ρ1 h1 A F G H σ _ R fun x G1 H1 s1 R1 z1 => ?_
  refine qb ρ1 y ρ2 h3 A F G1 H1 σ _ R1 fun w G2 H2 s2 R2 z2 => ?_
  split at h4
  · rename_i dx hx
    obtain ⟨h5, rfl⟩ := ret_some h4
    have z3 := (z1.up s2).dr R2 hx
    unfold oIx at h5
    split at h5
    · cases z2
      obtain ⟨p, xs, e1, q1, q2⟩ := z3.sq R2.gh
      obtain ⟨v, q3, q4⟩ := ixD_at q2 h5
      exact Or.inl ⟨p, xs, _, v, e1, rfl, Or.inl (Or.inl q1), q3, k v G2 H2 (s1.trans s2) R2 q4⟩
    · cases z2
      obtain ⟨p, xs, e1, q1, q2⟩ := z3.st R2.gh
      obtain ⟨v, q3, q4⟩ := ixD_at q2 h5
      exact Or.inr (Or.inl ⟨p, xs, _, v, e1, rfl, q1, q3, k v G2 H2 (s1.trans s2) R2 q4⟩)
    · cases h5
  · cases h4

/-! ### built-ins of one value that is read -/
/-- what a built-in makes of a value -/
@[simp] def fR1 (o : PyData → Option PyData) (f : En → Option (Rf × En)) : EF := fun ρ => bnd (f ρ) fun r ρ1 => match r.get ρ1 with
  | some x => ret ρ1 (o x)
  | none => none
theorem fe_r1 {r : En → Option (Rf × En)} {cr : List V → Hp → VK → Prop} {o : PyData → Option PyData} {e' : Expr} (mk : ∀ t, PE X a t → PE X e' (tCB cr (tCons t tNil))) (ha : FR X a r)
    (hr : ∀ x d c, o d = some c → ∀ A F G H ρ σ Q, Rel X.K A F G H ρ σ → Dr X.K G H x d → (∀ z G' H', Same G G' → Rel X.K A F G' H' ρ σ → Dq X.K G' z c → Q z H') → cr [x] H Q) : FE X e' (fR1 o r) := by
  obtain ⟨ta, pa, qa⟩ := ha
  refine ⟨_, mk _ pa, fun ρ d ρ' h A F G H σ Q R k => ?_⟩
  obtain ⟨u, ρ1, h1, h2⟩ := bnd_some h
  refine qa ρ u ρ1 h1 A F G H σ _ R fun x G1 H1 s1 R1 z1 => ?_
  split at h2
  · rename_i dx hx
    obtain ⟨h5, rfl⟩ := ret_some h2
    exact hr x dx d h5 A F G1 H1 _ σ Q R1 (z1.dr R1 hx) fun z G' H' s r w => k z G' H' (s1.trans s) r w
  · cases h2
/-- .. a new list -/
@[simp] def fR1L (o : PyData → Option (List PyData)) (f : En → Option (Rf × En)) : LF := fun ρ => bnd (f ρ) fun r ρ1 => match r.get ρ1 with
  | some x => ret ρ1 (o x)
  | none => none
theorem fl_r1 {r : En → Option (Rf × En)} {cr : List V → Hp → VK → Prop} {o : PyData → Option (List PyData)} {e' : Expr} (mk : ∀ t, PE X a t → PE X e' (tCB cr (tCons t tNil))) (ha : FR X a r)
    (hr : ∀ x d c, o d = some c → ∀ A F G H ρ σ Q, Rel X.K A F G H ρ σ → Dr X.K G H x d →
      (∀ a xs G' H', F a = none → Same G G' → Rel X.K A (upd F a (.lst xs)) G' H' ρ σ → DqA X.K G' xs c → xs.length ≤ sizeLine → Q (.ref a) H') → cr [x] H Q) : FL X e' (fR1L o r) := by
  obtain ⟨ta, pa, qa⟩ := ha
  refine ⟨_, mk _ pa, fun ρ d ρ' h A F G H σ Q R k => ?_⟩
  obtain ⟨u, ρ1, h1, h2⟩ := bnd_some h
  refine qa ρ u ρ1 h1 A F G H σ _ R fun x G1 H1 s1 R1 z1 => ?_
  split at h2
  · rename_i dx hx
    obtain ⟨h5, rfl⟩ := ret_some h2
    exact hr x dx d h5 A F G1 H1 _ σ Q R1 (z1.dr R1 hx) fun a xs G' H' fa s r w hl => k a xs G' H' fa (s1.trans s) r w hl
  · cases h2
@[simp] def oLen : PyData → Option PyData
  | .list ds => some (.int ds.length)
  | .tuple ds => some (.int ds.length)
  | _ => none
variable {p : Pos} {r : En → Option (Rf × En)}
theorem fe_len (ha : FR X a r) (hg : Gl X "len") (hm : X.mg "len" = none) (hs : starEach (a :: []) X.env = (false, eval a X.env) :: starEach [] X.env := by rfl) : FE X (.Call (.Name "len" p) [a] [] pos) (fR1 oLen r) := by
  refine fe_r1 (fun t h => pe_callB call_len_seq hg hm PySem.boot_len (pa_cons h pa_nil hs) (he := hs)) ha fun x d c h A F G H ρ σ Q R z k => ?_
  unfold oLen at h
  split at h
  · cases h
    obtain ⟨q, xs, rfl, h1, h2⟩ := z.sq R.gh
    rw [← h2.len] at k
    exact ⟨q, xs, rfl, Or.inl (Or.inl (Or.inl h1)), k _ G H (Same.refl G) R (.int _)⟩
  · cases h
    obtain ⟨q, xs, rfl, h1, h2⟩ := z.st R.gh
    rw [← h2.len] at k
    exact ⟨q, xs, rfl, Or.inr h1, k _ G H (Same.refl G) R (.int _)⟩
  · cases h
/-- list(..) -/
@[simp] def oList : PyData → Option (List PyData)
  | .list ds => if Nat.ble ds.length 16777216 = true then some ds else none
  | .tuple ds => if Nat.ble ds.length 16777216 = true then some ds else none
  | _ => none
theorem fl_list (ha : FR X a r) (hg : Gl X "list") (hm : X.mg "list" = none) (hs : starEach (a :: []) X.env = (false, eval a X.env) :: starEach [] X.env := by rfl) : FL X (.Call (.Name "list" p) [a] [] pos) (fR1L oList r) := by
  refine fl_r1 (fun t h => pe_callTy call_list_of hg hm (by decide +kernel) (pa_cons h pa_nil hs) (he := hs)) ha fun x d c h A F G H ρ σ Q R z k => ?_
  unfold oList at h
  split at h
  · split at h
    · rename_i hz
      cases h
      obtain ⟨q, xs, rfl, h1, h2⟩ := z.sq R.gh
      exact ⟨q, xs, rfl, Or.inl (Or.inl (Or.inl h1)), fun l hl => k l xs G _ (none_of R.fh hl) (Same.refl G) (R.newF hl) h2 (by rw [h2.len]; exact ble_line hz)⟩
    · cases h
  · split at h
    · rename_i hz
      cases h
      obtain ⟨q, xs, rfl, h1, h2⟩ := z.st R.gh
      exact ⟨q, xs, rfl, Or.inr h1, fun l hl => k l xs G _ (none_of R.fh hl) (Same.refl G) (R.newF hl) h2 (by rw [h2.len]; exact ble_line hz)⟩
    · cases h
  · cases h
/-- tuple(..) -/
@[simp] def oTuple : PyData → Option PyData
  | .list ds => some (.tuple ds)
  | .tuple ds => some (.tuple ds)
  | _ => none
theorem fe_tuple (ha : FR X a r) (hg : Gl X "tuple") (hm : X.mg "tuple" = none) (hs : starEach (a :: []) X.env = (false, eval a X.env) :: starEach [] X.env := by rfl) : FE X (.Call (.Name "tuple" p) [a] [] pos) (fR1 oTuple r) := by
  refine fe_r1 (fun t h => pe_callTy call_tuple_of hg hm (by decide +kernel) (pa_cons h pa_nil hs) (he := hs)) ha fun x d c h A F G H ρ σ Q R z k => ?_
  unfold oTuple at h
  split at h
  · cases h
    obtain ⟨q, xs, rfl, h1, h2⟩ := z.sq R.gh
    exact ⟨q, xs, rfl, Or.inl ⟨Or.inl (Or.inl h1), fun l hl => k _ _ _ (same_new (none_of R.gh hl)) (R.new hl) (.tup (Or.inl (Or.inl upd_same)) (h2.up (same_new (none_of R.gh hl))))⟩⟩
  · cases h
    rcases z with z | ⟨_, _, _, _, e, _⟩
    · cases z with | tup h1 h2 => exact ⟨_, _, rfl, Or.inr ⟨sqT_up R.gh h1, k _ G H (Same.refl G) R (.tup h1 h2)⟩⟩
    · cases e
  · cases h
/-- sum of a list of ints -/
def intsD : List PyData → Option (List Int)
  | [] => some []
  | .int i :: r => match intsD r with
    | some l => some (i :: l)
    | none => none
  | _ :: _ => none
theorem intsD_ok {K : PySem.W.Frag} {H : Hp} : ∀ {ds : List PyData} {vs : List V} {ns : List Int}, DqA K H vs ds → intsD ds = some ns → vs = ns.map V.int
  | [], _, _, h, e => by
    cases h
    cases e
    rfl
  | d :: r, _, _, h, e => by
    cases h with | cons q w =>
    cases d with
    | int i =>
      unfold intsD at e
      split at e
      · rename_i l hl
        cases e
        cases q
        rw [intsD_ok w hl]
        rfl
      · cases e
    | none => cases e
    | bool b => cases e
    | str s => cases e
    | list l => cases e
    | tuple l => cases e
    | dict l => cases e
def sumI : List Int → Int
  | [] => 0
  | i :: r => i + sumI r
theorem sumI_eq : ∀ l : List Int, sumI l = l.sum
  | [] => rfl
  | i :: r => by rw [List.sum_cons, ← sumI_eq r]; rfl
def oSum : PyData → Option PyData
  | .list ds => match intsD ds with
    | some l => some (.int l.sum)
    | none => none
  | _ => none
theorem fe_sum (hc : X.calm = true) (ha : FR X a r) (hg : Gl X "sum") (hm : X.mg "sum" = none) (hs : starEach (a :: []) X.env = (false, eval a X.env) :: starEach [] X.env := by rfl) : FE X (.Call (.Name "sum" p) [a] [] pos) (fR1 oSum r) := by
  refine fe_r1 (fun t h => pe_callB (cr_sum hc) hg hm (by decide +kernel) (pa_cons h pa_nil hs) (he := hs)) ha fun x d c h A F G H ρ σ Q R z k => ?_
  unfold oSum at h
  split at h
  · split at h
    · rename_i l hl
      cases h
      obtain ⟨q, xs, rfl, h1, h2⟩ := z.sq R.gh
      have e := intsD_ok h2 hl
      subst e
      exact ⟨q, l, rfl, Or.inl (Or.inl h1), k _ G H (Same.refl G) R (.int _)⟩
    · cases h
  · cases h
def boolsD : List PyData → Option (List Bool)
  | [] => some []
  | .bool i :: r => match boolsD r with
    | some l => some (i :: l)
    | none => none
  | _ :: _ => none
theorem boolsD_ok {K : PySem.W.Frag} {H : Hp} : ∀ {ds : List PyData} {vs : List V} {ns : List Bool}, DqA K H vs ds → boolsD ds = some ns → vs = ns.map V.bl
  | [], _, _, h, e => by
    cases h
    cases e
    rfl
  | d :: r, _, _, h, e => by
    cases h with | cons q w =>
    cases d with
    | bool i =>
      unfold boolsD at e
      split at e
      · rename_i l hl
        cases e
        cases q
        rw [boolsD_ok w hl]
        rfl
      · cases e
    | none => cases e
    | int b => cases e
    | str s => cases e
    | list l => cases e
    | tuple l => cases e
    | dict l => cases e
def oAny : PyData → Option PyData
  | .list ds => match boolsD ds with
    | some l => some (.bool (l.any id))
    | none => none
  | _ => none
def oAll : PyData → Option PyData
  | .list ds => match boolsD ds with
    | some l => some (.bool (l.all id))
    | none => none
  | _ => none
theorem fe_any (hc : X.calm = true) (ha : FR X a r) (hg : Gl X "any") (hm : X.mg "any" = none) (hs : starEach (a :: []) X.env = (false, eval a X.env) :: starEach [] X.env := by rfl) : FE X (.Call (.Name "any" p) [a] [] pos) (fR1 oAny r) := by
  refine fe_r1 (fun t h => pe_callB (cr_any hc) hg hm (by decide +kernel) (pa_cons h pa_nil hs) (he := hs)) ha fun x d c h A F G H ρ σ Q R z k => ?_
  unfold oAny at h
  split at h
  · split at h
    · rename_i l hl
      cases h
      obtain ⟨q, xs, rfl, h1, h2⟩ := z.sq R.gh
      have e := boolsD_ok h2 hl
      subst e
      exact ⟨q, l, rfl, Or.inl (Or.inl h1), k _ G H (Same.refl G) R (.bl _)⟩
    · cases h
  · cases h
theorem fe_all (hc : X.calm = true) (ha : FR X a r) (hg : Gl X "all") (hm : X.mg "all" = none) (hs : starEach (a :: []) X.env = (false, eval a X.env) :: starEach [] X.env := by rfl) : FE X (.Call (.Name "all" p) [a] [] pos) (fR1 oAll r) := by
  refine fe_r1 (fun t h => pe_callB (cr_all hc) hg hm (by decide +kernel) (pa_cons h pa_nil hs) (he := hs)) ha fun x d c h A F G H ρ σ Q R z k => ?_
  unfold oAll at h
  split at h
  · split at h
    · rename_i l hl
      cases h
      obtain ⟨q, xs, rfl, h1, h2⟩ := z.sq R.gh
      have e := boolsD_ok h2 hl
      subst e
      exact ⟨q, l, rfl, Or.inl (Or.inl h1), k _ G H (Same.refl G) R (.bl _)⟩
    · cases h
  · cases h
/-- int(..), abs(..) -/
@[simp] def oInt : PyData → Option PyData
  | .int i => some (.int i)
  | .bool b => some (.int (if b = true then 1 else 0))
  | _ => none
theorem fe_intC (ha : FR X a r) (hg : Gl X "int") (hm : X.mg "int" = none) (hs : starEach (a :: []) X.env = (false, eval a X.env) :: starEach [] X.env := by rfl) : FE X (.Call (.Name "int" p) [a] [] pos) (fR1 oInt r) := by
  refine fe_r1 (fun t h => pe_callTy call_int1 hg hm (by decide +kernel) (pa_cons h pa_nil hs) (he := hs)) ha fun x d c h A F G H ρ σ Q R z k => ?_
  unfold oInt at h
  rcases z with z | ⟨_, _, _, _, e, _⟩
  · split at h
    · cases h
      cases z
      exact Or.inl ⟨_, rfl, k _ G H (Same.refl G) R (.int _)⟩
    · cases h
      cases z
      exact Or.inr ⟨_, rfl, k _ G H (Same.refl G) R (.int _)⟩
    · cases h
  · subst e
    cases h
@[simp] def oAbs : PyData → Option PyData
  | .int i => some (.int (if i < 0 then -i else i))
  | _ => none
theorem fe_abs (ha : FR X a r) (hg : Gl X "abs") (hm : X.mg "abs" = none) (hs : starEach (a :: []) X.env = (false, eval a X.env) :: starEach [] X.env := by rfl) : FE X (.Call (.Name "abs" p) [a] [] pos) (fR1 oAbs r) := by
  refine fe_r1 (fun t h => pe_callB call_abs hg hm (by decide +kernel) (pa_cons h pa_nil hs) (he := hs)) ha fun x d c h A F G H ρ σ Q R z k => ?_
  unfold oAbs at h
  rcases z with z | ⟨_, _, _, _, e, _⟩
  · split at h
    · cases h
      cases z
      exact ⟨_, rfl, k _ G H (Same.refl G) R (.int _)⟩
    · cases h
  · subst e
    cases h
/-! ### built-ins of two ints -/
theorem fe_cb2 {cr : List V → Hp → VK → Prop} {o : PyData → PyData → Option PyData} {e' : Expr} (mk : ∀ t u, PE X a t → PE X b u → PE X e' (tCB cr (tCons t (tCons u tNil)))) (ha : FE X a f) (hb : FE X b g)
    (hr : ∀ x y d e c, o d e = some c → ∀ A F G H ρ σ Q, Rel X.K A F G H ρ σ → Dq X.K G x d → Dq X.K G y e → (∀ z G' H', Same G G' → Rel X.K A F G' H' ρ σ → Dq X.K G' z c → Q z H') → cr [x, y] H Q) : FE X e' (fOp o f g) := by
  obtain ⟨ta, pa, qa⟩ := ha
  obtain ⟨tb, pb, qb⟩ := hb
  refine ⟨_, mk _ _ pa pb, fun ρ d ρ' h A F G H σ Q R k => ?_⟩
  exact two (r := fun x y H Q => cr [x, y] H Q) hr qa qb ρ d ρ' h A F G H σ Q R k
abbrev oMin := oI fun i j => .int (if j < i then j else i)
abbrev oMax := oI fun i j => .int (if j > i then j else i)
theorem fe_min2 (hc : X.calm = true) (ha : FE X a f) (hb : FE X b g) (hg : Gl X "min") (hm : X.mg "min" = none) (hs : starEach (a :: [b]) X.env = (false, eval a X.env) :: starEach [b] X.env := by rfl) (hs2 : starEach (b :: []) X.env = (false, eval b X.env) :: starEach [] X.env := by rfl) (h3 : (backTo pos (starEach [b] X.env)).any (·.1) = false := by rfl) :
    FE X (.Call (.Name "min" p) [a, b] [] pos) (fOp oMin f g) := by
  refine fe_cb2 (fun t u h h' => pe_callB (call_min2 hc) hg hm (by decide +kernel) (pa_cons h (pa_cons h' pa_nil hs2) hs) (he := hs) (hpl := h3)) ha hb fun x y d e c h A F G H ρ σ Q R z z' k => ?_
  unfold oMin oI at h
  split at h
  · cases h
    cases z
    cases z'
    exact ⟨_, _, rfl, k _ G H (Same.refl G) R (.int _)⟩
  · cases h
theorem fe_max2 (hc : X.calm = true) (ha : FE X a f) (hb : FE X b g) (hg : Gl X "max") (hm : X.mg "max" = none) (hs : starEach (a :: [b]) X.env = (false, eval a X.env) :: starEach [b] X.env := by rfl) (hs2 : starEach (b :: []) X.env = (false, eval b X.env) :: starEach [] X.env := by rfl) (h3 : (backTo pos (starEach [b] X.env)).any (·.1) = false := by rfl) :
    FE X (.Call (.Name "max" p) [a, b] [] pos) (fOp oMax f g) := by
  refine fe_cb2 (fun t u h h' => pe_callB (call_max2 hc) hg hm (by decide +kernel) (pa_cons h (pa_cons h' pa_nil hs2) hs) (he := hs) (hpl := h3)) ha hb fun x y d e c h A F G H ρ σ Q R z z' k => ?_
  unfold oMax oI at h
  split at h
  · cases h
    cases z
    cases z'
    exact ⟨_, _, rfl, k _ G H (Same.refl G) R (.int _)⟩
  · cases h
/-! ### lists: * and +, slices -/
@[simp] def fRep (f g : EF) : LF := fun ρ => bnd (f ρ) fun x ρ1 => bnd (g ρ1) fun y ρ2 => match x, y with
  | .list ds, .int k => if (Nat.ble (ds.length * k.toNat) 16777216 && Nat.ble k.natAbs 16777216) = true then some ((List.replicate k.toNat ds).flatten, ρ2) else none
  | _, _ => none
theorem DqA.rep {K : PySem.W.Frag} {H : Hp} {ds : List PyData} {vs : List V} (h : DqA K H vs ds) : ∀ n : Nat, DqA K H (List.replicate n vs).flatten (List.replicate n ds).flatten
  | 0 => .nil
  | n + 1 => by
    rw [List.replicate_succ, List.replicate_succ, List.flatten_cons, List.flatten_cons]
    exact h.app (DqA.rep h n)
theorem fl_rep (ha : FE X a f) (hb : FE X b g) : FL X (.BinOp a .Mult b pos) (fRep f g) := by
  obtain ⟨ta, pa, qa⟩ := ha
  obtain ⟨tb, pb, qb⟩ := hb
  refine ⟨_, pe_op op_rep pa pb, fun ρ d ρ' h A F G H σ Q R k => ?_⟩
  obtain ⟨u, ρ1, h1, h2⟩ := bnd_some h
  obtain ⟨y, ρ2, h3, h4⟩ := bnd_some h2
  refine qa ρ u ρ1 h1 A F G H σ _ R fun x G1 H1 s1 R1 z1 => ?_
  refine qb ρ1 y ρ2 h3 A F G1 H1 σ _ R1 fun w G2 H2 s2 R2 z2 => ?_
  split at h4
  · split at h4
    · rename_i ds n hz
      cases h4
      have hz' := Bool.and_eq_true_iff.mp hz
      have hz1 := ble_line hz'.1
      have hz2 : n.natAbs ≤ 16777216 := Nat.le_of_ble_eq_true hz'.2
      cases z2
      have z3 := z1.up s2
      cases z3 with | lst q1 q2 =>
      have hl := q2.len
      refine ⟨_, n, _, rfl, rfl, R2.gh _ _ q1, by omega, by omega, by rw [hl]; exact hz1, fun p hp => ?_⟩
      have q3 := q2.rep n.toNat
      refine k p _ G2 _ (none_of R2.fh hp) (s1.trans s2) (R2.newF hp) q3 ?_
      rw [List.length_flatten, List.map_replicate, List.sum_replicate_nat, hl, Nat.mul_comm]
      exact hz1
    · cases h4
  · cases h4
@[simp] def fCat (f g : EF) : LF := fun ρ => bnd (f ρ) fun x ρ1 => bnd (g ρ1) fun y ρ2 => match x, y with
  | .list ds, .list es => if Nat.ble (ds.length + es.length) 16777216 = true then some (ds ++ es, ρ2) else none
  | _, _ => none
theorem fl_cat (ha : FE X a f) (hb : FE X b g) : FL X (.BinOp a .Add b pos) (fCat f g) := by
  obtain ⟨ta, pa, qa⟩ := ha
  obtain ⟨tb, pb, qb⟩ := hb
  refine ⟨_, pe_op op_cat pa pb, fun ρ d ρ' h A F G H σ Q R k => ?_⟩
  obtain ⟨u, ρ1, h1, h2⟩ := bnd_some h
  obtain ⟨y, ρ2, h3, h4⟩ := bnd_some h2
  refine qa ρ u ρ1 h1 A F G H σ _ R fun x G1 H1 s1 R1 z1 => ?_
  refine qb ρ1 y ρ2 h3 A F G1 H1 σ _ R1 fun w G2 H2 s2 R2 z2 => ?_
  split at h4
  · split at h4
    · rename_i ds es hz
      cases h4
      have hz1 := ble_line hz
      have z3 := z1.up s2
      cases z3 with | lst q1 q2 =>
      cases z2 with | lst w1 w2 =>
      have hl := q2.len
      have hl2 := w2.len
      refine ⟨_, _, _, _, rfl, rfl, R2.gh _ _ q1, R2.gh _ _ w1, by rw [hl, hl2]; exact hz1, fun p hp => ?_⟩
      exact k p _ G2 _ (none_of R2.fh hp) (s1.trans s2) (R2.newF hp) (q2.app w2) (by rw [List.length_append, hl, hl2]; exact hz1)
    · cases h4
  · cases h4
end
end Fe
namespace Fe
open PySem PySem.Spec PyProof.Rows L2

/-! ## statements -/
inductive Out where
  | nx (ρ : En)
  | rt (d : PyData) (ρ : En)
  | bk (ρ : En)
  | ct (ρ : En)
abbrev SF := En → Option Out
def OutOk (K : PySem.W.Frag) (A : Option Addr) (F G : Hp) (D : Ends) : Out → Prop
  | .nx ρ => ∀ σ G' H, Same G G' → Rel K A F G' H ρ σ → D.nx σ H
  | .rt d ρ => ∀ x σ G' H, Same G G' → Rel K A F G' H ρ σ → Dq K G' x d → D.rt x H
  | .bk ρ => ∀ σ G' H, Same G G' → Rel K A F G' H ρ σ → D.bk σ H
  | .ct ρ => ∀ σ G' H, Same G G' → Rel K A F G' H ρ σ → D.ct σ H
theorem OutOk.up {K : PySem.W.Frag} {A : Option Addr} {F G G' : Hp} {D : Ends} {o : Out} (h : OutOk K A F G D o) (s : Same G G') : OutOk K A F G' D o := by
  cases o with
  | nx ρ => exact fun σ G2 H s2 => h σ G2 H (s.trans s2)
  | rt d ρ => exact fun x σ G2 H s2 => h x σ G2 H (s.trans s2)
  | bk ρ => exact fun σ G2 H s2 => h σ G2 H (s.trans s2)
  | ct ρ => exact fun σ G2 H s2 => h σ G2 H (s.trans s2)
def FS (X : Cx) (st : Stmt) (f : SF) : Prop := ∃ t, PS X st t ∧ ∀ ρ o, f ρ = some o → ∀ A F G H σ D, Rel X.K A F G H ρ σ → OutOk X.K A F G D o → t D σ H
def FSs (X : Cx) (sts : List Stmt) (f : SF) : Prop := ∃ t, PSs X sts t ∧ ∀ ρ o, f ρ = some o → ∀ A F G H σ D, Rel X.K A F G H ρ σ → OutOk X.K A F G D o → t D σ H
/-- what a target does with a value; the slots that it sets -/
def FG (X : Cx) (tg : Expr) (is : List Nat) (g : PyData → En → Option En) : Prop := ∃ t, PG X tg t ∧ ∀ d ρ ρ', g d ρ = some ρ' → ∀ A F G H σ x Q, Rel X.K A F G H ρ σ → Dq X.K G x d →
  (∀ σ', Rel X.K A F G H ρ' σ' → (∀ vs, (∀ i ∈ is, i ∈ vs) → wipe σ' vs = wipe σ vs) → Q σ' H) → t x σ H Q
def FGs (X : Cx) (tgs : List Expr) (is : List Nat) (g : List PyData → En → Option En) : Prop := ∃ t, PGs X tgs t ∧ ∀ ds ρ ρ', g ds ρ = some ρ' → ∀ A F G H σ xs Q, Rel X.K A F G H ρ σ → DqA X.K G xs ds →
  (∀ σ', Rel X.K A F G H ρ' σ' → (∀ vs, (∀ i ∈ is, i ∈ vs) → wipe σ' vs = wipe σ vs) → Q σ' H) → t xs σ H Q
/-- what a for walks, as a list -/
structure Yld (K : PySem.W.Frag) (J : It) (G0 : Hp) (ds : List PyData) : Prop where
  go : ∀ i H, Same G0 H → i < ds.length → J.go i H
  stop : ∀ H, Same G0 H → J.stop ds.length H
  yl : ∀ i H x H' d, J.yld i H x H' → ds[i]? = some d → ∀ A F G ρ σ, Same G0 G → Rel K A F G H ρ σ → ∃ G', Same G G' ∧ Rel K A F G' H' ρ σ ∧ Dq K G' x d
def FI (X : Cx) (tg e : Expr) (f : LF) : Prop := ∃ wi, PI X tg e wi ∧ ∀ ρ ds ρ', f ρ = some (ds, ρ') → ∀ A F G H σ R, Rel X.K A F G H ρ σ →
  (∀ J G' H', Same G G' → Rel X.K A F G' H' ρ' σ → Yld X.K J G' ds → R J H') → wi σ H R

/-! ### the functions -/
@[simp] def sNil : SF := fun ρ => some (.nx ρ)
@[simp] def sThen (o : Option Out) (g : SF) : Option Out := match o with
  | some (.nx ρ) => g ρ
  | o => o
@[simp] def sSeq (f g : SF) : SF := fun ρ => sThen (f ρ) g
@[simp] def sSet (i : Nat) (f : EF) : SF := fun ρ => bnd (f ρ) fun d ρ1 => some (.nx (ρ1.set i (.v d)))
@[simp] def sOwn (i : Nat) (f : LF) : SF := fun ρ => bnd (f ρ) fun d ρ1 => some (.nx (ρ1.set i (.own d)))
@[simp] def sRet (f : EF) : SF := fun ρ => bnd (f ρ) fun d ρ1 => some (.rt d ρ1)
@[simp] def sRetN : SF := fun ρ => some (.rt .none ρ)
@[simp] def sDrop (f : EF) : SF := fun ρ => bnd (f ρ) fun _ ρ1 => some (.nx ρ1)
@[simp] def sIf (c : BF) (f g : SF) : SF := fIf c f g
@[simp] def sTg (f : EF) (g : PyData → En → Option En) : SF := fun ρ => bnd (f ρ) fun d ρ1 => match g d ρ1 with
  | some ρ2 => some (.nx ρ2)
  | none => none
@[simp] def gNm (i : Nat) : PyData → En → Option En := fun d ρ => some (ρ.set i (.v d))
@[simp] def gNil' : List PyData → En → Option En := fun ds ρ => match ds with
  | [] => some ρ
  | _ => none
@[simp] def gCons' (g : PyData → En → Option En) (h : List PyData → En → Option En) : List PyData → En → Option En := fun ds ρ => match ds with
  | d :: r => match g d ρ with
    | some ρ1 => h r ρ1
    | none => none
  | [] => none
@[simp] def gTp (n : Nat) (g : List PyData → En → Option En) : PyData → En → Option En := fun d ρ => match d with
  | .tuple ds => if (ds.length == n) = true then g ds ρ else none
  | _ => none
def lp (g : PyData → En → Option En) (b : SF) : List PyData → SF
  | [], ρ => some (.nx ρ)
  | d :: r, ρ => match g d ρ with
    | none => none
    | some ρ1 => match b ρ1 with
      | some (.nx ρ2) => lp g b r ρ2
      | some (.ct ρ2) => lp g b r ρ2
      | some (.bk ρ2) => some (.nx ρ2)
      | some (.rt d ρ2) => some (.rt d ρ2)
      | none => none
@[simp] def sFor (f : LF) (g : PyData → En → Option En) (b : SF) : SF := fun ρ => bnd (f ρ) fun ds ρ1 => lp g b ds ρ1
def whl (c : BF) (b : SF) : Nat → SF
  | 0, _ => none
  | n + 1, ρ => bnd (c ρ) fun k ρ1 => if k = true then (match b ρ1 with
      | some (.nx ρ2) => whl c b n ρ2
      | some (.ct ρ2) => whl c b n ρ2
      | some (.bk ρ2) => some (.nx ρ2)
      | some (.rt d ρ2) => some (.rt d ρ2)
      | none => none) else some (.nx ρ1)
section
variable {X : Cx} {e a b : Expr} {pos : Pos} {f g : EF} {c : BF} {l : LF} {st : Stmt} {sts : List Stmt} {s1 s2 : SF}

theorem fss_nil : FSs X [] sNil := by
  refine ⟨_, pss_nil, fun ρ o h A F G H σ D R k => ?_⟩
  cases h
  exact k σ G H (Same.refl G) R
theorem fss_one (h : FS X st s1) : FSs X [st] s1 := by
  obtain ⟨t, p, q⟩ := h
  exact ⟨t, pss_one p, q⟩
theorem fss_cons (h : FS X st s1) (h2 : FSs X sts s2) : FSs X (st :: sts) (sSeq s1 s2) := by
  obtain ⟨t, p, q⟩ := h
  obtain ⟨t2, p2, q2⟩ := h2
  refine ⟨_, pss_cons p p2, fun ρ o h A F G H σ D R k => ?_⟩
  unfold sSeq sThen at h
  split at h
  · rename_i ρ1 h1
    exact q ρ _ h1 A F G H σ _ R fun σ' G' H' s r => q2 ρ1 o h A F G' H' σ' D r (k.up s)
  · rename_i o1 h1
    refine q ρ o h A F G H σ _ R ?_
    cases o with
    | nx ρ' => exact (h1 ρ' h).elim
    | rt d ρ' => exact k
    | bk ρ' => exact k
    | ct ρ' => exact k
theorem fs_tg {tg : Expr} {is : List Nat} {gg : PyData → En → Option En} (he : FE X e f) (hg : FG X tg is gg) (hs : swapsWithSole [tg] e pos.line X.env = pure false := by rfl) (hw : swappedStores [tg] e X.env = pure none := by rfl)
    (h1 : (assignEach [tg] X.env).map (·.2) = [assign tg X.env] := by rfl) : FS X (.Assign [tg] e pos) (sTg f gg) := by
  obtain ⟨t, p, q⟩ := he
  obtain ⟨t2, p2, q2⟩ := hg
  refine ⟨_, ps_asg p p2 hs hw h1, fun ρ o h A F G H σ D R k => ?_⟩
  obtain ⟨d, ρ1, h3, h4⟩ := bnd_some h
  split at h4
  · rename_i ρ2 h5
    cases h4
    exact q ρ d ρ1 h3 A F G H σ _ R fun x G' H' s r z => q2 d ρ1 ρ2 h5 A F G' H' σ x _ r z fun σ' r' _ => k σ' G' H' s r'
  · cases h4
theorem fs_set {i : Nat} {x : Str} {pos' : Pos} (hN : X.N.Nodup) (hi : X.N[i]? = some x) (hx : Loc X.env.scope x) (he : FE X e f) (hs : swapsWith e (some (.Name x pos')) pos.line X.env = pure false := by rfl) (hf : X.fn x = true ∨ X.env.scope.names.lookup x = some .local := by first | exact .inl rfl | exact .inr rfl | assumption) :
    FS X (.Assign [.Name x pos'] e pos) (sSet i f) := by
  obtain ⟨t, p, q⟩ := he
  refine ⟨_, ps_set hN hi hx p hs hf, fun ρ o h A F G H σ D R k => ?_⟩
  obtain ⟨d, ρ1, h3, h4⟩ := bnd_some h
  cases h4
  exact q ρ d ρ1 h3 A F G H σ _ R fun x G' H' s r z => k _ G' H' s (r.putV i z)
theorem fs_own {i : Nat} {x : Str} {pos' : Pos} (hN : X.N.Nodup) (hi : X.N[i]? = some x) (hx : Loc X.env.scope x) (he : FL X e l) (hs : swapsWith e (some (.Name x pos')) pos.line X.env = pure false := by rfl) (hf : X.fn x = true ∨ X.env.scope.names.lookup x = some .local := by first | exact .inl rfl | exact .inr rfl | assumption) :
    FS X (.Assign [.Name x pos'] e pos) (sOwn i l) := by
  obtain ⟨t, p, q⟩ := he
  refine ⟨_, ps_set hN hi hx p hs hf, fun ρ o h A F G H σ D R k => ?_⟩
  obtain ⟨d, ρ1, h3, h4⟩ := bnd_some h
  cases h4
  exact q ρ d ρ1 h3 A F G H σ _ R fun a xs G' H' fa s r z _ => k _ G' H' s (r.putOwn fa i z)
theorem fs_ret (he : FE X e f) : FS X (.Return (some e) pos) (sRet f) := by
  obtain ⟨t, p, q⟩ := he
  refine ⟨_, ps_ret p, fun ρ o h A F G H σ D R k => ?_⟩
  obtain ⟨d, ρ1, h3, h4⟩ := bnd_some h
  cases h4
  exact q ρ d ρ1 h3 A F G H σ _ R fun x G' H' s r z => k x σ G' H' s r z
theorem fs_retN : FS X (.Return none pos) sRetN := by
  refine ⟨_, ps_retN, fun ρ o h A F G H σ D R k => ?_⟩
  cases h
  exact k .non σ G H (Same.refl G) R .non
theorem fs_drop (he : FE X e f) (hs : swapsWith e none pos.line X.env = pure false := by rfl) : FS X (.Expr e pos) (sDrop f) := by
  obtain ⟨t, p, q⟩ := he
  refine ⟨_, ps_expr p hs, fun ρ o h A F G H σ D R k => ?_⟩
  obtain ⟨d, ρ1, h3, h4⟩ := bnd_some h
  cases h4
  exact q ρ d ρ1 h3 A F G H σ _ R fun x G' H' s r z => k σ G' H' s r
theorem fs_doc {x j pos'} : FS X (.Expr (.Constant (.str x) j pos) pos') sNil := by
  refine ⟨_, ps_doc, fun ρ o h A F G H σ D R k => ?_⟩
  cases h
  exact k σ G H (Same.refl G) R
theorem fs_if {p q : List Stmt} (hc : FT X e c) (ha : FSs X p s1) (hb : FSs X q s2) : FS X (.If e p q pos) (sIf c s1 s2) := by
  obtain ⟨t, hp, hq⟩ := hc
  obtain ⟨t1, p1, q1⟩ := ha
  obtain ⟨t2, p2, q2⟩ := hb
  refine ⟨_, ps_if hp p1 p2, fun ρ o h A F G H σ D R k => ?_⟩
  obtain ⟨d, ρ1, h3, h4⟩ := bnd_some h
  refine hq ρ d ρ1 h3 A F G H σ _ R fun G' H' s r => ?_
  cases d with
  | true => exact q1 _ o h4 A F G' H' σ D r (k.up s)
  | false => exact q2 _ o h4 A F G' H' σ D r (k.up s)
@[simp] def sBk : SF := fun ρ => some (.bk ρ)
@[simp] def sCt : SF := fun ρ => some (.ct ρ)
theorem fs_break : FS X (.Break pos) sBk := by
  refine ⟨_, ps_break, fun ρ o h A F G H σ D R k => ?_⟩
  cases h
  exact k σ G H (Same.refl G) R
theorem fs_continue : FS X (.Continue pos) sCt := by
  refine ⟨_, ps_continue, fun ρ o h A F G H σ D R k => ?_⟩
  cases h
  exact k σ G H (Same.refl G) R
/-- a statement that the proof never comes to -/
def sNo : SF := fun _ => none
theorem fs_no : FS X st sNo := ⟨_, ps_never, fun _ _ h => nomatch h⟩
theorem fss_no : FSs X sts sNo := ⟨_, pss_never, fun _ _ h => nomatch h⟩
/-- a list of one's own is to stay from here on -/
@[simp] def frzS (i : Nat) (ρ : En) : En := match ρ[i]? with
  | some (.own ds) => ρ.set i (.v (.list ds))
  | _ => ρ
theorem Rel.frzS {K : PySem.W.Frag} {A : Option Addr} {F G H : Hp} {ρ : En} {σ : L2.St} (k : Rel K A F G H ρ σ) (i : Nat) : ∃ G', Same G G' ∧ Rel K A F G' H (Fe.frzS i ρ) σ := by
  unfold Fe.frzS
  split
  · rename_i ds h
    exact k.frz h
  · exact ⟨G, Same.refl G, k⟩
theorem fs_frz (i : Nat) (h : FS X st s1) : FS X st (fun ρ => s1 (Fe.frzS i ρ)) := by
  obtain ⟨t, p, q⟩ := h
  refine ⟨t, p, fun ρ o h A F G H σ D R k => ?_⟩
  obtain ⟨G', s, r⟩ := R.frzS i
  exact q _ o h A F G' H σ D r (k.up s)

/-! ### targets -/
theorem wipe_set {σ : L2.St} {i : Nat} {v : Option V} : ∀ {vs : List Nat}, i ∈ vs → wipe (σ.set i v) vs = wipe σ vs
  | [], h => nomatch h
  | j :: r, h => by
    show (wipe (σ.set i v) r).set j none = (wipe σ r).set j none
    by_cases hr : i ∈ r
    · rw [wipe_set hr]
    · have e : i = j := by
        rcases List.mem_cons.mp h with e | e
        · exact e
        · exact absurd e hr
      subst e
      have aux : ∀ {vs : List Nat}, i ∉ vs → wipe (σ.set i v) vs = (wipe σ vs).set i v := by
        intro vs
        induction vs with
        | nil => intro _; rfl
        | cons u w ih =>
          intro hu
          show (wipe (σ.set i v) w).set u none = ((wipe σ w).set u none).set i v
          rw [ih fun z => hu (List.mem_cons_of_mem _ z), List.set_comm _ _ (show i ≠ u from fun z => hu (List.mem_cons.mpr (Or.inl z)))]
      rw [aux hr, List.set_set]
theorem fg_name {i : Nat} {x : Str} (hN : X.N.Nodup) (hi : X.N[i]? = some x) (hx : Loc X.env.scope x) (hf : X.fn x = true ∨ X.env.scope.names.lookup x = some .local := by first | exact .inl rfl | exact .inr rfl | assumption) : FG X (.Name x pos) [i] (gNm i) := by
  refine ⟨_, pg_name hN hi hx hf, fun d ρ ρ' h A F G H σ x Q R z k => ?_⟩
  cases h
  exact k _ (R.putV i z) fun vs hv => wipe_set (hv i (by simp))
theorem fgs_nil : FGs X [] [] gNil' := by
  refine ⟨_, pgs_nil, fun ds ρ ρ' h A F G H σ xs Q R z k => ?_⟩
  unfold gNil' at h
  split at h
  · cases h
    cases z
    exact ⟨rfl, k σ R fun _ _ => rfl⟩
  · cases h
theorem fgs_cons {es : List Expr} {is js : List Nat} {gg : PyData → En → Option En} {hh : List PyData → En → Option En} (h1 : FG X e is gg) (h2 : FGs X es js hh)
    (hs : (assignEach (e :: es) X.env).map (·.2) = assign e X.env :: (assignEach es X.env).map (·.2) := by rfl) : FGs X (e :: es) (is ++ js) (gCons' gg hh) := by
  obtain ⟨t, p, q⟩ := h1
  obtain ⟨t2, p2, q2⟩ := h2
  refine ⟨_, pgs_cons p p2 hs, fun ds ρ ρ' h A F G H σ xs Q R z k => ?_⟩
  unfold gCons' at h
  split at h
  · split at h
    · rename_i ρ1 h3
      cases z with | cons z1 z2 =>
      refine ⟨_, _, rfl, q _ ρ ρ1 h3 A F G H σ _ _ R z1 fun σ1 r1 w1 => ?_⟩
      exact q2 _ ρ1 ρ' h A F G H σ1 _ _ r1 z2 fun σ2 r2 w2 => k σ2 r2 fun vs hv => (w2 vs fun i hi => hv i (List.mem_append_right _ hi)).trans (w1 vs fun i hi => hv i (List.mem_append_left _ hi))
    · cases h
  · cases h
theorem fg_tup {es : List Expr} {k' : Nat} {is : List Nat} {hh : List PyData → En → Option En} {n : Nat} (hc : X.calm = true) (h : FGs X es is hh) (hn : (assignEach es X.env).length = n := by rfl) (hst : (assignEach es X.env).findIdx? (·.1) = none := by rfl) :
    FG X (.Tuple es k' pos) is (gTp n hh) := by
  obtain ⟨t, p, q⟩ := h
  refine ⟨_, pg_tup hc p hn hst, fun d ρ ρ' h A F G H σ x Q R z k => ?_⟩
  unfold gTp at h
  split at h
  · split at h
    · rename_i ds hl
      have hl' : ds.length = n := by simpa using hl
      cases z with | tup z1 z2 =>
      refine ⟨_, _, rfl, sqT_up R.gh z1, by rw [z2.len]; exact hl', ?_⟩
      exact q ds ρ ρ' h A F G H σ _ Q R z2 k
    · cases h
  · cases h

/-! ### for -/
theorem fs_for {tg iter : Expr} {body : List Stmt} {is : List Nat} {gg : PyData → En → Option En} (hc : X.calm = true) (hi : FI X tg iter l) (hg : FG X tg is gg) (hb : FSs X body s1) (hp : PassesOwn (model X.prog X.w) X.A X.env X.xe := by exact PassesOwn.never)
    (hs : ∀ x, foldedSetIterable iter X.env x = pure x := by intro _; rfl) : FS X (.For tg iter body [] pos) (sFor l gg s1) := by
  obtain ⟨wi, p, q⟩ := hi
  obtain ⟨tg', p2, q2⟩ := hg
  obtain ⟨tb, p3, q3⟩ := hb
  refine ⟨_, ps_for hp hc p p2 p3 hs, fun ρ o h A F G H σ D R k => ?_⟩
  obtain ⟨ds, ρ1, h1, h2⟩ := bnd_some h
  refine q ρ ds ρ1 h1 A F G H σ _ R fun J G1 H1 sG r1 Y => ?_
  refine ⟨fun i m τ H2 => m = ds.length - i ∧ i ≤ ds.length ∧ ∃ ρi Gi, Same G1 Gi ∧ Rel X.K A F Gi H2 ρi τ ∧ lp gg s1 (ds.drop i) ρi = some o, ⟨ds.length, by simp, by simp, ρ1, G1, Same.refl _, r1, by simpa using h2⟩, ?_⟩
  rintro i m τ H2 ⟨rfl, hi, ρi, Gi, si, ri, hl⟩
  by_cases hlt : i < ds.length
  · have hd : ds.drop i = ds[i] :: ds.drop (i + 1) := List.drop_eq_getElem_cons hlt
    rw [hd] at hl
    refine .inr ⟨Y.go i H2 (si.trans ri.gh) hlt, _, fun σ' H' hN => ⟨ds.length - (i + 1), by omega, hN⟩, fun x H' hy => ?_⟩
    obtain ⟨G', s', r', z⟩ := Y.yl i H2 x H' ds[i] hy (List.getElem?_eq_getElem hlt) A F Gi ρi τ si ri
    unfold lp at hl
    split at hl
    · cases hl
    · rename_i ρ2 hg2
      refine q2 ds[i] ρi ρ2 hg2 A F G' H' τ x _ r' z fun σ2 r2 _ => ?_
      split at hl
      · rename_i ρ3 hb3
        exact q3 ρ2 _ hb3 A F G' H' σ2 _ r2 fun σ3 G3 H3 s3 r3 => ⟨rfl, by omega, ρ3, G3, (si.trans s').trans s3, r3, hl⟩
      · rename_i ρ3 hb3
        exact q3 ρ2 _ hb3 A F G' H' σ2 _ r2 fun σ3 G3 H3 s3 r3 => ⟨rfl, by omega, ρ3, G3, (si.trans s').trans s3, r3, hl⟩
      · rename_i ρ3 hb3
        cases hl
        exact q3 ρ2 _ hb3 A F G' H' σ2 _ r2 fun σ3 G3 H3 s3 r3 => k σ3 G3 H3 (((sG.trans si).trans s').trans s3) r3
      · rename_i d3 ρ3 hb3
        cases hl
        exact q3 ρ2 _ hb3 A F G' H' σ2 _ r2 fun x σ3 G3 H3 s3 r3 => k x σ3 G3 H3 (((sG.trans si).trans s').trans s3) r3
      · cases hl
  · have e : i = ds.length := by omega
    subst e
    rw [List.drop_length] at hl
    unfold lp at hl
    cases hl
    exact .inl ⟨Y.stop H2 (si.trans ri.gh), k τ Gi H2 (sG.trans si) ri⟩
/-! ### while -/
theorem fs_while {n : Nat} {body : List Stmt} (hc : FT X e c) (hb : FSs X body s1) (hp : PassesOwn (model X.prog X.w) X.A X.env X.xe := by exact PassesOwn.never) : FS X (.While e body [] pos) (whl c s1 n) := by
  obtain ⟨t, p, q⟩ := hc
  obtain ⟨tb, p3, q3⟩ := hb
  refine ⟨_, ps_while hp p p3, fun ρ o h A F G H σ D R k => ?_⟩
  refine ⟨fun m τ H2 => ∃ ρi Gi, Same G Gi ∧ Rel X.K A F Gi H2 ρi τ ∧ whl c s1 m ρi = some o, ⟨n, ρ, G, Same.refl _, R, h⟩, ?_⟩
  rintro m τ H2 ⟨ρi, Gi, si, ri, hl⟩
  cases m with
  | zero => cases hl
  | succ m =>
    unfold whl at hl
    obtain ⟨b, ρ1, h1, h2⟩ := bnd_some hl
    refine q ρi b ρ1 h1 A F Gi H2 τ _ ri fun G' H' s' r' => ?_
    cases b with
    | true =>
      rw [if_pos rfl]
      rw [if_pos rfl] at h2
      refine ⟨_, fun σ' H' hN => ⟨m, by omega, hN⟩, ?_⟩
      split at h2
      · rename_i ρ3 hb3
        exact q3 ρ1 _ hb3 A F G' H' τ _ r' fun σ3 G3 H3 s3 r3 => ⟨ρ3, G3, (si.trans s').trans s3, r3, h2⟩
      · rename_i ρ3 hb3
        exact q3 ρ1 _ hb3 A F G' H' τ _ r' fun σ3 G3 H3 s3 r3 => ⟨ρ3, G3, (si.trans s').trans s3, r3, h2⟩
      · rename_i ρ3 hb3
        cases h2
        exact q3 ρ1 _ hb3 A F G' H' τ _ r' fun σ3 G3 H3 s3 r3 => k σ3 G3 H3 ((si.trans s').trans s3) r3
      · rename_i d3 ρ3 hb3
        cases h2
        exact q3 ρ1 _ hb3 A F G' H' τ _ r' fun x σ3 G3 H3 s3 r3 => k x σ3 G3 H3 ((si.trans s').trans s3) r3
      · cases h2
    | false =>
      rw [if_neg (by decide)]
      rw [if_neg (by decide)] at h2
      cases h2
      exact k τ G' H' (si.trans s') r'
end
end Fe
namespace Fe
open PySem PySem.Spec PyProof.Rows L2 RZ

/-! ## one reading for each function -/
def TF (K : PySem.W.Frag) (f : EF) : TE := fun σ H Q => ∃ ρ d ρ' A F G, f ρ = some (d, ρ') ∧ Rel K A F G H ρ σ ∧ ∀ x G' H', Same G G' → Rel K A F G' H' ρ' σ → Dq K G' x d → Q x H'
def TB (K : PySem.W.Frag) (f : BF) : TT := fun σ H Q => ∃ ρ d ρ' A F G, f ρ = some (d, ρ') ∧ Rel K A F G H ρ σ ∧ ∀ G' H', Same G G' → Rel K A F G' H' ρ' σ → Q d H'
def TGt (K : PySem.W.Frag) (is : List Nat) (g : PyData → En → Option En) : TG := fun x σ H Q => ∃ d ρ ρ' A F G, g d ρ = some ρ' ∧ Rel K A F G H ρ σ ∧ Dq K G x d ∧ ∀ σ', Rel K A F G H ρ' σ' → (∀ vs, (∀ i ∈ is, i ∈ vs) → wipe σ' vs = wipe σ vs) → Q σ' H
section
variable {X : Cx} {e a b : Expr} {pos : Pos} {f g : EF} {c : BF} {l : LF} {st : Stmt} {sts : List Stmt} {s1 s2 : SF}
theorem FE.can (h : FE X e f) : PE X e (TF X.K f) := by
  obtain ⟨t, p, q⟩ := h
  refine ⟨fun pins s σ H Q I w => p.run pins s σ H Q I ?_⟩
  obtain ⟨ρ, d, ρ', A, F, G, h1, h2, h3⟩ := w
  exact q ρ d ρ' h1 A F G H σ Q h2 h3
theorem FT.can (h : FT X e c) : PT X e (TB X.K c) := by
  obtain ⟨t, p, q⟩ := h
  refine ⟨fun pins s σ H Q I w => p.run pins s σ H Q I ?_⟩
  obtain ⟨ρ, d, ρ', A, F, G, h1, h2, h3⟩ := w
  exact q ρ d ρ' h1 A F G H σ Q h2 h3
theorem FG.can {is : List Nat} {gg : PyData → En → Option En} (h : FG X e is gg) : PG X e (TGt X.K is gg) := by
  obtain ⟨t, p, q⟩ := h
  refine ⟨fun pins s σ H v u Q I r w => p.run pins s σ H v u Q I r ?_⟩
  obtain ⟨d, ρ, ρ', A, F, G, h1, h2, h3, h4⟩ := w
  exact q d ρ ρ' h1 A F G H σ v Q h2 h3 h4

/-! ### what is walked -/
def rngL (lo : Int) (n : Nat) : List PyData := (List.range n).map fun k => .int (lo + (k : Nat))
theorem rngL_len {lo : Int} {n : Nat} : (rngL lo n).length = n := by simp [rngL]
theorem rngL_get {lo : Int} {n i : Nat} {d : PyData} (h : (rngL lo n)[i]? = some d) : d = .int (lo + (i : Nat)) := by
  unfold rngL at h
  rw [List.getElem?_map] at h
  by_cases hi : i < n
  · rw [List.getElem?_range hi] at h
    exact (Option.some.inj h).symm
  · rw [List.getElem?_eq_none (by simpa using hi)] at h
    cases h
theorem yld_rng {K : PySem.W.Frag} {lo : Int} {n : Nat} {G : Hp} : Yld K (Itr lo n) G (rngL lo n) where
  go := fun i H _ h => by
    rw [rngL_len] at h
    exact h
  stop := fun H _ => by
    rw [rngL_len]
    exact Nat.le_refl n
  yl := fun i H x H' d hy hd A F G ρ σ _ R => by
    obtain ⟨e1, e2⟩ := hy
    subst e1
    rw [rngL_get hd, e2]
    exact ⟨G, Same.refl G, R, .int _⟩
theorem yld_lst {K : PySem.W.Frag} {a : Addr} {xs : List V} {ds : List PyData} {G : Hp} (h : G a = some (.lst xs)) (k : DqA K G xs ds) : Yld K (Itl K a) G ds where
  go := fun i H s hi => by
    obtain ⟨v, h1, _⟩ := k.get (List.getElem?_eq_getElem hi)
    exact ⟨xs, v, Or.inl (Or.inl (s _ _ h)), h1⟩
  stop := fun H s => ⟨xs, Or.inl (Or.inl (s _ _ h)), Nat.le_of_eq k.len⟩
  yl := fun i H x H' d hy hd A F G2 ρ σ s R => by
    obtain ⟨rfl, hx⟩ := hy
    have h1 := hx xs (Or.inl (Or.inl (R.gh _ _ (s _ _ h))))
    obtain ⟨v, h2, h3⟩ := k.get hd
    rw [h1] at h2
    cases h2
    exact ⟨G2, Same.refl _, R, h3.up s⟩
theorem yld_tup {K : PySem.W.Frag} {a : Addr} {xs : List V} {ds : List PyData} {G : Hp} (h : SqT K G a xs) (k : DqA K G xs ds) : Yld K (Itt K a) G ds where
  go := fun i H s hi => by
    obtain ⟨v, h1, _⟩ := k.get (List.getElem?_eq_getElem hi)
    exact ⟨xs, v, sqT_up s h, h1⟩
  stop := fun H s => ⟨xs, sqT_up s h, Nat.le_of_eq k.len⟩
  yl := fun i H x H' d hy hd A F G2 ρ σ s R => by
    obtain ⟨rfl, hx⟩ := hy
    have h1 := hx xs (sqT_up (s.trans R.gh) h)
    obtain ⟨v, h2, h3⟩ := k.get hd
    rw [h1] at h2
    cases h2
    exact ⟨G2, Same.refl _, R, h3.up s⟩
/-- a list or a tuple -/
theorem pi_seqAny {tg : Expr} {tl : TE} (hl : PE X e tl) : PI X tg e (fun σ H R => tl σ H fun x H1 => ∃ a, x = .ref a ∧ ((∃ xs, SqL X.K H1 a xs ∧ R (Itl X.K a) H1) ∨ (∃ xs, SqT X.K H1 a xs ∧ R (Itt X.K a) H1))) := by
  constructor
  intro pins s σ H R I w
  refine thn (hl.run pins s σ H _ I w) ?_
  rintro v s1 ⟨x, H1, J, rx, a, ex, (⟨xs, hq, q⟩ | ⟨xs, hq, q⟩)⟩ <;> subst ex <;> cases rx
  · obtain ⟨its, _, pl, _⟩ := J.list hq
    refine wpAny_pyIter_list pl.isList ⟨s1.heap.objs.size, [s1.heap.objs.size], _, _, H1, rfl, J.kept (t' := s1.toks) (fun _ _ z => Heap.get?_push_of_some _ z), turn_list a _, ⟨_, Heap.get?_push_size _ rfl, rfl, rfl⟩, ?_, q⟩
    intro c hc
    obtain rfl := List.mem_singleton.mp hc
    exact J.fpOk (Nat.le_refl _) (J.hok.fresh (Nat.le_refl _))
  · obtain ⟨its, _, pt, _⟩ := J.tuple hq
    refine wpAny_pyIter_tuple (show s1.heap.IsTuple a its.toArray from pt) ⟨s1.heap.objs.size, [s1.heap.objs.size], _, _, H1, rfl, J.kept (t' := s1.toks) (fun _ _ z => Heap.get?_push_of_some _ z), turn_tuple a _, ⟨_, Heap.get?_push_size _ rfl, rfl, rfl⟩, ?_, q⟩
    intro c hc
    obtain rfl := List.mem_singleton.mp hc
    exact J.fpOk (Nat.le_refl _) (J.hok.fresh (Nat.le_refl _))
@[simp] def fSeq (f : EF) : LF := fun ρ => bnd (f ρ) fun d ρ1 => match d with
  | .list ds => some (ds, ρ1)
  | .tuple ds => some (ds, ρ1)
  | _ => none
variable {tg : Expr}
theorem fi_seq (h : FE X e f) : FI X tg e (fSeq f) := by
  obtain ⟨t, p, q⟩ := h
  refine ⟨_, pi_seqAny p, fun ρ ds ρ' h A F G H σ R r k => ?_⟩
  obtain ⟨d, ρ1, h1, h2⟩ := bnd_some h
  refine q ρ d ρ1 h1 A F G H σ _ r fun x G' H' s r' z => ?_
  split at h2
  · cases h2
    cases z with | lst z1 z2 => exact ⟨_, rfl, Or.inl ⟨_, Or.inl (Or.inl (r'.gh _ _ z1)), k _ G' H' s r' (yld_lst z1 z2)⟩⟩
  · cases h2
    cases z with | tup z1 z2 => exact ⟨_, rfl, Or.inr ⟨_, sqT_up r'.gh z1, k _ G' H' s r' (yld_tup z1 z2)⟩⟩
  · cases h2
/-- range(n), range(m, n) -/
def inB (j : Int) : Bool := Nat.ble j.natAbs 4611686018427387903
theorem inB_ok {j : Int} (h : inB j = true) : -(2 ^ 62) ≤ j ∧ j < 2 ^ 62 := by
  have := Nat.le_of_ble_eq_true h
  omega
@[simp] def fRng1 (l : LF) : LF := fun ρ => bnd (l ρ) fun ds ρ1 => match ds with
  | [.int j] => if inB j = true then some (rngL 0 j.toNat, ρ1) else none
  | _ => none
@[simp] def fRng2 (l : LF) : LF := fun ρ => bnd (l ρ) fun ds ρ1 => match ds with
  | [.int i, .int j] => if (inB i && inB j) = true then some (rngL i (j - i).toNat, ρ1) else none
  | _ => none
variable {pp : Pos}
theorem fi_rng1 (ha : FA X [a] l) (hg : Gl X "range") (hm : X.mg "range" = none) (hs : starEach [a] X.env = [(false, eval a X.env)] := by rfl) : FI X tg (.Call (.Name "range" pp) [a] [] pos) (fRng1 l) := by
  obtain ⟨t, p, q⟩ := ha
  refine ⟨_, pi_range1 hg hm p hs, fun ρ ds ρ' h A F G H σ R r k => ?_⟩
  obtain ⟨d, ρ1, h1, h2⟩ := bnd_some h
  refine q ρ d ρ1 h1 A F G H σ _ r fun x G' H' s r' z => ?_
  split at h2
  · split at h2
    · rename_i j hj
      cases h2
      have hb := inB_ok hj
      cases z with | cons z1 z2 =>
      cases z1
      cases z2
      exact ⟨j, rfl, hb.1, hb.2, k _ G' H' s r' yld_rng⟩
    · cases h2
  · cases h2
theorem fi_rng2 (ha : FA X [a, b] l) (hg : Gl X "range") (hm : X.mg "range" = none) (hs : starEach [a, b] X.env = [(false, eval a X.env), (false, eval b X.env)] := by rfl) (hs2 : starEach [b] X.env = [(false, eval b X.env)] := by rfl) : FI X tg (.Call (.Name "range" pp) [a, b] [] pos) (fRng2 l) := by
  obtain ⟨t, p, q⟩ := ha
  refine ⟨_, pi_range2 hg hm p hs hs2, fun ρ ds ρ' h A F G H σ R r k => ?_⟩
  obtain ⟨d, ρ1, h1, h2⟩ := bnd_some h
  refine q ρ d ρ1 h1 A F G H σ _ r fun x G' H' s r' z => ?_
  split at h2
  · split at h2
    · rename_i i j hj
      cases h2
      have hj' := Bool.and_eq_true_iff.mp hj
      have hb := inB_ok hj'.1
      have hc := inB_ok hj'.2
      cases z with | cons z1 z2 =>
      cases z2 with | cons z2 z3 =>
      cases z1
      cases z2
      cases z3
      exact ⟨i, j, rfl, ⟨hb.1, hb.2, hc.1, hc.2⟩, k _ G' H' s r' yld_rng⟩
    · cases h2
  · cases h2
def rngC (lo c : Int) (n : Nat) : List PyData := (List.range n).map fun (k : Nat) => PyData.int (lo + (k : Nat) * c)
def rcOk (i j c : Int) : Bool := Nat.ble (i.natAbs + j.natAbs) 16777216 && (decide (c ≠ 0) && (Nat.blt c.natAbs 1073741824 && (Builtin.Range.small i j c && decide (0 ≤ Builtin.Range.rangeSize i j c))))
def fRng3 (l : LF) : LF := fun ρ => bnd (l ρ) fun ds ρ1 => match ds with
  | [.int i, .int j, .int c] => if rcOk i j c = true then some (rngC i c (Builtin.Range.rangeSize i j c).toNat, ρ1) else none
  | _ => none
theorem yld_rngC {K : PySem.W.Frag} {lo c : Int} {n : Nat} {G : Hp} : Yld K (Itc lo c n) G (rngC lo c n) where
  go := fun i H _ h => by
    have e : (rngC lo c n).length = n := by simp [rngC]
    rw [e] at h
    exact h
  stop := fun H _ => by
    have e : (rngC lo c n).length = n := by simp [rngC]
    rw [e]
    exact Nat.le_refl n
  yl := fun i H x H' d hy hd A F G ρ σ _ R => by
    obtain ⟨e1, e2⟩ := hy
    subst e1
    unfold rngC at hd
    rw [List.getElem?_map] at hd
    by_cases hi : i < n
    · rw [List.getElem?_range hi] at hd
      cases hd
      rw [e2]
      exact ⟨G, Same.refl G, R, .int _⟩
    · rw [List.getElem?_eq_none (by simpa using hi)] at hd
      cases hd
theorem fi_rng3 {d : Expr} (ha : FA X [a, b, d] l) (hg : Gl X "range") (hm : X.mg "range" = none) (hs : starEach [a, b, d] X.env = (false, eval a X.env) :: starEach [b, d] X.env := by rfl) (hpl : (backTo pos (starEach [b, d] X.env)).any (·.1) = false := by rfl) : FI X tg (.Call (.Name "range" pp) [a, b, d] [] pos) (fRng3 l) := by
  obtain ⟨t, p, q⟩ := ha
  refine ⟨_, pi_range3 hg hm p hs hpl, fun ρ ds ρ' h A F G H σ R r k => ?_⟩
  obtain ⟨d, ρ1, h1, h2⟩ := bnd_some h
  refine q ρ d ρ1 h1 A F G H σ _ r fun x G' H' s r' z => ?_
  split at h2
  · split at h2
    · rename_i i j c hj
      cases h2
      unfold rcOk at hj
      simp only [Bool.and_eq_true, decide_eq_true_eq] at hj
      obtain ⟨_, g1, g2, g3, g4⟩ := hj
      cases z with | cons z1 z2 =>
      cases z2 with | cons z2 z3 =>
      cases z3 with | cons z3 z4 =>
      cases z1
      cases z2
      cases z3
      cases z4
      exact ⟨i, j, c, _, rfl, ⟨g1, Nat.le_of_ble_eq_true g2, g3, (Int.toNat_of_nonneg g4).symm⟩, k _ G' H' s r' yld_rngC⟩
    · cases h2
  · cases h2
/-- enumerate(a list) -/
def enumD : Nat → List PyData → List PyData
  | _, [] => []
  | n, d :: r => .tuple [.int n, d] :: enumD (n + 1) r
theorem enumD_get : ∀ {ds : List PyData} {n i : Nat} {t : PyData}, (enumD n ds)[i]? = some t → ∃ d, ds[i]? = some d ∧ t = .tuple [.int (n + i : Nat), d]
  | [], _, _, _, h => by simp [enumD] at h
  | d :: r, n, 0, t, h => by
    simp [enumD] at h
    exact ⟨d, rfl, h.symm⟩
  | d :: r, n, i + 1, t, h => by
    obtain ⟨d', h1, h2⟩ := enumD_get (ds := r) (n := n + 1) (i := i) (by simpa [enumD] using h)
    refine ⟨d', by simpa using h1, ?_⟩
    rw [h2, show n + 1 + i = n + (i + 1) by omega]
theorem enumD_len : ∀ {ds : List PyData} {n : Nat}, (enumD n ds).length = ds.length
  | [], _ => rfl
  | _ :: r, n => congrArg (· + 1) (enumD_len (ds := r) (n := n + 1))
theorem yld_enum {K : PySem.W.Frag} {a : Addr} {xs : List V} {ds : List PyData} {G : Hp} (h : G a = some (.lst xs)) (k : DqA K G xs ds) : Yld K (Ite K a) G (enumD 0 ds) where
  go := fun i H s hi => by
    rw [enumD_len] at hi
    obtain ⟨v, h1, _⟩ := k.get (List.getElem?_eq_getElem hi)
    exact ⟨xs, v, Or.inl (Or.inl (s _ _ h)), h1⟩
  stop := fun H s => ⟨xs, Or.inl (Or.inl (s _ _ h)), by rw [enumD_len]; exact Nat.le_of_eq k.len⟩
  yl := fun i H x H' d hy hd A F G2 ρ σ s R => by
    obtain ⟨T, y, rfl, hT, rfl, hx⟩ := hy
    obtain ⟨d', hd', rfl⟩ := enumD_get hd
    have h1 := hx xs (Or.inl (Or.inl (R.gh _ _ (s _ _ h))))
    obtain ⟨v, h2, h3⟩ := k.get hd'
    rw [h1] at h2
    cases h2
    have gT := none_of R.gh hT
    refine ⟨_, same_new gT, R.new hT, .tup (Or.inl (Or.inl upd_same)) (.cons ?_ (.cons (h3.up (s.trans (same_new gT))) .nil))⟩
    rw [Nat.zero_add]
    exact .int _
@[simp] def fEnum (f : EF) : LF := fun ρ => bnd (f ρ) fun d ρ1 => match d with
  | .list ds => some (enumD 0 ds, ρ1)
  | _ => none
theorem fi_enum {elts : List Expr} {kk : Nat} {tpos : Pos} (h : FE X e f) (hg : Gl X "enumerate") (hm : X.mg "enumerate" = none) (hs : starEach [e] X.env = [(false, eval e X.env)] := by rfl) (hs2 : starEach (e :: []) X.env = (false, eval e X.env) :: starEach [] X.env := by rfl) :
    FI X (.Tuple elts kk tpos) (.Call (.Name "enumerate" pp) [e] [] pos) (fEnum f) := by
  obtain ⟨t, p, q⟩ := h
  refine ⟨_, pi_enum hg hm (pa_cons p pa_nil hs2) hs, fun ρ ds ρ' h A F G H σ R r k => ?_⟩
  obtain ⟨d, ρ1, h1, h2⟩ := bnd_some h
  refine q ρ d ρ1 h1 A F G H σ _ r fun x G' H' s r' z => ?_
  split at h2
  · cases h2
    cases z with | lst z1 z2 => exact ⟨_, _, rfl, Or.inl (Or.inl (r'.gh _ _ z1)), k _ G' H' s r' (yld_enum z1 z2)⟩
  · cases h2
/-- zip of two lists, of two tuples -/
def zipD : List PyData → List PyData → List PyData
  | x :: r, y :: w => .tuple [x, y] :: zipD r w
  | _, _ => []
theorem zipD_get : ∀ {ds es : List PyData} {i : Nat} {t : PyData}, (zipD ds es)[i]? = some t → ∃ d e, ds[i]? = some d ∧ es[i]? = some e ∧ t = .tuple [d, e]
  | [], _, _, _, h => by simp [zipD] at h
  | _ :: _, [], _, _, h => by simp [zipD] at h
  | x :: r, y :: w, 0, t, h => by
    simp [zipD] at h
    exact ⟨x, y, rfl, rfl, h.symm⟩
  | x :: r, y :: w, i + 1, t, h => by
    obtain ⟨d, e, h1, h2, h3⟩ := zipD_get (ds := r) (es := w) (i := i) (by simpa [zipD] using h)
    exact ⟨d, e, by simpa using h1, by simpa using h2, h3⟩
theorem zipD_len : ∀ {ds es : List PyData}, (zipD ds es).length = min ds.length es.length
  | [], _ => by simp [zipD]
  | _ :: _, [] => by simp [zipD]
  | _ :: r, _ :: w => by simp [zipD, zipD_len (ds := r) (es := w)]
theorem yld_zip {K : PySem.W.Frag} {a b : Addr} {xs ys : List V} {ds es : List PyData} {G : Hp} (h : G a = some (.lst xs)) (k : DqA K G xs ds) (h' : G b = some (.lst ys)) (k' : DqA K G ys es) : Yld K (Itz K a b) G (zipD ds es) where
  go := fun i H s hi => by
    rw [zipD_len] at hi
    obtain ⟨v, h1, _⟩ := k.get (List.getElem?_eq_getElem (show i < ds.length by omega))
    obtain ⟨u, h2, _⟩ := k'.get (List.getElem?_eq_getElem (show i < es.length by omega))
    exact ⟨xs, ys, v, u, Or.inl (Or.inl (s _ _ h)), Or.inl (Or.inl (s _ _ h')), h1, h2⟩
  stop := fun H s => ⟨xs, ys, Or.inl (Or.inl (s _ _ h)), Or.inl (Or.inl (s _ _ h')), by
    have e1 := k.len
    have e2 := k'.len
    rw [zipD_len]
    omega⟩
  yl := fun i H x H' d hy hd A F G2 ρ σ s R => by
    obtain ⟨T, y, u, rfl, hT, rfl, hx, hu⟩ := hy
    obtain ⟨d', e', hd', he', rfl⟩ := zipD_get hd
    have h1 := hx xs (Or.inl (Or.inl (R.gh _ _ (s _ _ h))))
    have h4 := hu ys (Or.inl (Or.inl (R.gh _ _ (s _ _ h'))))
    obtain ⟨v, h2, h3⟩ := k.get hd'
    obtain ⟨v', h5, h6⟩ := k'.get he'
    rw [h1] at h2
    cases h2
    rw [h4] at h5
    cases h5
    have gT := none_of R.gh hT
    exact ⟨_, same_new gT, R.new hT, .tup (Or.inl (Or.inl upd_same)) (.cons (h3.up (s.trans (same_new gT))) (.cons (h6.up (s.trans (same_new gT))) .nil))⟩
theorem yld_zipT {K : PySem.W.Frag} {a b : Addr} {xs ys : List V} {ds es : List PyData} {G : Hp} (h : SqT K G a xs) (k : DqA K G xs ds) (h' : SqT K G b ys) (k' : DqA K G ys es) : Yld K (ItzT K a b) G (zipD ds es) where
  go := fun i H s hi => by
    rw [zipD_len] at hi
    obtain ⟨v, h1, _⟩ := k.get (List.getElem?_eq_getElem (show i < ds.length by omega))
    obtain ⟨u, h2, _⟩ := k'.get (List.getElem?_eq_getElem (show i < es.length by omega))
    exact ⟨xs, ys, v, u, sqT_up s h, sqT_up s h', h1, h2⟩
  stop := fun H s => ⟨xs, ys, sqT_up s h, sqT_up s h', by
    have e1 := k.len
    have e2 := k'.len
    rw [zipD_len]
    omega⟩
  yl := fun i H x H' d hy hd A F G2 ρ σ s R => by
    obtain ⟨T, y, u, rfl, hT, rfl, hx, hu⟩ := hy
    obtain ⟨d', e', hd', he', rfl⟩ := zipD_get hd
    have h1 := hx xs (sqT_up (s.trans R.gh) h)
    have h4 := hu ys (sqT_up (s.trans R.gh) h')
    obtain ⟨v, h2, h3⟩ := k.get hd'
    obtain ⟨v', h5, h6⟩ := k'.get he'
    rw [h1] at h2
    cases h2
    rw [h4] at h5
    cases h5
    have gT := none_of R.gh hT
    exact ⟨_, same_new gT, R.new hT, .tup (Or.inl (Or.inl upd_same)) (.cons (h3.up (s.trans (same_new gT))) (.cons (h6.up (s.trans (same_new gT))) .nil))⟩
@[simp] def fZip (l : LF) : LF := fun ρ => bnd (l ρ) fun ds ρ1 => match ds with
  | [.list xs, .list ys] => some (zipD xs ys, ρ1)
  | [.tuple xs, .tuple ys] => some (zipD xs ys, ρ1)
  | _ => none
theorem fi_zip {elts : List Expr} {kk : Nat} {tpos : Pos} (ha : FA X [a, b] l) (hg : Gl X "zip") (hm : X.mg "zip" = none) (hs : starEach [a, b] X.env = (false, eval a X.env) :: starEach [b] X.env := by rfl) (hpl : (backTo pos (starEach [b] X.env)).any (·.1) = false := by rfl) :
    FI X (.Tuple elts kk tpos) (.Call (.Name "zip" pp) [a, b] [] pos) (fZip l) := by
  obtain ⟨t, p, q⟩ := ha
  refine ⟨_, pi_zipA hg hm p hs hpl, fun ρ ds ρ' h A F G H σ R r k => ?_⟩
  obtain ⟨d, ρ1, h1, h2⟩ := bnd_some h
  refine q ρ d ρ1 h1 A F G H σ _ r fun x G' H' s r' z => ?_
  split at h2
  · cases h2
    cases z with | cons z1 z2 =>
    cases z2 with | cons z2 z3 =>
    cases z3
    cases z1 with | lst u1 u2 =>
    cases z2 with | lst w1 w2 =>
    exact ⟨_, _, _, _, rfl, Or.inl ⟨Or.inl (Or.inl (r'.gh _ _ u1)), Or.inl (Or.inl (r'.gh _ _ w1)), k _ G' H' s r' (yld_zip u1 u2 w1 w2)⟩⟩
  · cases h2
    cases z with | cons z1 z2 =>
    cases z2 with | cons z2 z3 =>
    cases z3
    cases z1 with | tup u1 u2 =>
    cases z2 with | tup w1 w2 =>
    exact ⟨_, _, _, _, rfl, Or.inr ⟨sqT_up r'.gh u1, sqT_up r'.gh w1, k _ G' H' s r' (yld_zipT u1 u2 w1 w2)⟩⟩
  · cases h2
end
end Fe
namespace Fe
open PySem PySem.Spec PyProof.Rows L2

/-! ## comprehensions -/
@[simp] def wipeE (ρ : En) : List Nat → En
  | [] => ρ
  | v :: vs => (wipeE ρ vs).set v .un
section
variable {K : PySem.W.Frag} {A : Option Addr} {F G G' H H' : Hp} {ρ ρ' : En} {σ τ : L2.St}
theorem Rel.wipe (R : Rel K A F G H ρ σ) : ∀ vs : List Nat, Rel K A F G H (wipeE ρ vs) (L2.wipe σ vs)
  | [] => R
  | v :: vs => (R.wipe vs).putU v none
/-- other values where nothing is known -/
theorem Rel.other (R : Rel K A F G H ρ τ) (hl : σ.length = τ.length) (h : ∀ (i : Nat) (s : Sl), ρ[i]? = some s → s ≠ Sl.un → σ[i]? = τ[i]?) : Rel K A F G H ρ σ := by
  obtain ⟨P, r1, r2, r3⟩ := R.rg
  refine ⟨R.gh, R.fh, R.fg, R.len.trans hl.symm, P, fun i s e => ?_, r2, r3⟩
  obtain ⟨x, e1, e2⟩ := r1 i s e
  by_cases hs : s = Sl.un
  · subst hs
    have hi : i < σ.length := by
      have := (List.getElem?_eq_some_iff.mp e1).1
      omega
    exact ⟨σ[i], List.getElem?_eq_getElem hi, e2⟩
  · exact ⟨x, (h i s e hs).trans e1, e2⟩
theorem wipeE_in {i : Nat} : ∀ {vs : List Nat} {s : Sl}, i ∈ vs → (wipeE ρ vs)[i]? = some s → s = .un
  | v :: vs, s, h, e => by
    unfold wipeE at e
    by_cases hi : v = i
    · subst hi
      rw [List.getElem?_set_self'] at e
      cases q : (wipeE ρ vs)[v]? with
      | none => rw [q] at e; cases e
      | some u =>
        rw [q] at e
        exact (Option.some.inj e).symm
    · rw [List.getElem?_set_ne hi] at e
      rcases List.mem_cons.mp h with z | z
      · exact absurd z.symm hi
      · exact wipeE_in z e
theorem Rel.unwipe {vs : List Nat} (R : Rel K A F G H (wipeE ρ vs) (L2.wipe σ vs)) : Rel K A F G H (wipeE ρ vs) σ :=
  R.other (wipe_length σ vs).symm fun i s e hs => (wipe_out fun hi => hs (wipeE_in hi e)).symm
theorem wipe_idem : ∀ {vs : List Nat}, L2.wipe (L2.wipe σ vs) vs = L2.wipe σ vs := by
  have aux : ∀ us vs : List Nat, (∀ i ∈ us, i ∈ vs) → L2.wipe (L2.wipe σ us) vs = L2.wipe σ vs := by
    intro us
    induction us with
    | nil => intro vs _; rfl
    | cons u w ih =>
      intro vs h
      show L2.wipe ((L2.wipe σ w).set u none) vs = _
      rw [wipe_set (h u List.mem_cons_self)]
      exact ih vs fun i hi => h i (List.mem_cons_of_mem _ hi)
  exact fun {vs} => aux vs vs fun _ h => h
end
def cl (vs : List Nat) (g : PyData → En → Option En) (c : BF) (e : EF) : List PyData → LF
  | [], ρ => some ([], wipeE ρ vs)
  | d :: r, ρ => match g d (wipeE ρ vs) with
    | none => none
    | some ρ1 => bnd (c ρ1) fun k ρ2 => if k = true then bnd (e ρ2) fun y ρ3 => bnd (cl vs g c e r ρ3) fun ys ρ4 => some (y :: ys, ρ4) else cl vs g c e r ρ2
@[simp] def fComp (vs : List Nat) (fi : LF) (g : PyData → En → Option En) (c : BF) (e : EF) : LF := fun ρ => bnd (fi ρ) fun ds ρ1 => if Nat.ble ds.length 16777216 = true then cl vs g c e ds ρ1 else none
@[simp] def fYes : BF := fun ρ => some (true, ρ)
section
variable {X : Cx} {elt tg iter : Expr} {ifs : List Expr} {scope : Scope} {own : List (Str × Nat)} {pos : Pos} {fi : LF} {gg : PyData → En → Option En} {c : BF} {f : EF} {is : List Nat}
/-- a comprehension's test list -/
def FTs (X : Cx) (es : List Expr) (f : BF) : Prop := ∃ t, PTs X es t ∧ ∀ ρ d ρ', f ρ = some (d, ρ') → ∀ A F G H σ Q, Rel X.K A F G H ρ σ →
  (∀ G' H', Same G G' → Rel X.K A F G' H' ρ' σ → Q d H') → t σ H Q
theorem fts_nil : FTs X [] fYes := by
  refine ⟨_, pts_nil, fun ρ d ρ' h A F G H σ Q R k => ?_⟩
  cases h
  exact k G H (Same.refl G) R
theorem fts_one {e : Expr} (h : FT X e c) : FTs X [e] c := by
  obtain ⟨t, p, q⟩ := h
  exact ⟨t, pts_one p, q⟩
theorem FTs.can {es : List Expr} (h : FTs X es c) : PTs X es (TB X.K c) := by
  obtain ⟨t, p, q⟩ := h
  refine ⟨fun pins s σ H Q I w => p.run pins s σ H Q I ?_⟩
  obtain ⟨ρ, d, ρ', A, F, G, h1, h2, h3⟩ := w
  exact q ρ d ρ' h1 A F G H σ Q h2 h3
theorem lc_spec {K : PySem.W.Frag} {wi : TI} {vs : List Nat} (hv : ∀ i ∈ is, i ∈ vs)
    (q : ∀ ρ ds ρ', fi ρ = some (ds, ρ') → ∀ A F G H σ R, Rel K A F G H ρ σ → (∀ J G' H', Same G G' → Rel K A F G' H' ρ' σ → Yld K J G' ds → R J H') → wi σ H R) :
    ∀ ρ ds ρ', fComp vs fi gg c f ρ = some (ds, ρ') → ∀ A F G H σ (Q : VK), Rel K A F G H ρ σ →
      (∀ a xs G' H', F a = none → Same G G' → Rel K A (upd F a (.lst xs)) G' H' ρ' σ → DqA K G' xs ds → xs.length ≤ sizeLine → Q (.ref a) H') → tLc wi (TGt K is gg) (TB K c) (TF K f) vs σ H Q := by
  intro ρ es ρ' h A F G H σ Q R k
  obtain ⟨ds, ρ1, h1, h2⟩ := bnd_some h
  split at h2
  · rename_i hz
    have hz' := ble_line hz
    refine q ρ ds ρ1 h1 A F G H σ _ R fun J G1 H1 s1 r1 Y D hD => ?_
    have fD := none_of r1.fh hD
    refine ⟨fun i m H2 => m = ds.length - i ∧ i ≤ ds.length ∧ ∃ τ ρi Gi acc da rest, L2.wipe τ vs = L2.wipe σ vs ∧ Same G1 Gi ∧ Rel K A (upd F D (.lst acc)) Gi H2 ρi τ ∧ DqA K Gi acc da ∧ acc.length ≤ i ∧ cl vs gg c f (ds.drop i) ρi = some (rest, ρ') ∧ da ++ rest = es,
      ⟨ds.length, by simp, by simp, σ, ρ1, G1, [], [], es, rfl, Same.refl _, r1.newF hD, .nil, Nat.le_refl _, by simpa using h2, rfl⟩, ?_⟩
    rintro i m H2 ⟨rfl, hi, τ, ρi, Gi, acc, da, rest, hw, si, ri, ha, hal, hl, hes⟩
    by_cases hlt : i < ds.length
    · rw [List.drop_eq_getElem_cons hlt] at hl
      refine .inr ⟨Y.go i H2 (si.trans ri.gh) hlt, _, fun H' hN => ⟨ds.length - (i + 1), by omega, hN⟩, fun x H' hy => ?_⟩
      obtain ⟨G', s', r', z⟩ := Y.yl i H2 x H' ds[i] hy (List.getElem?_eq_getElem hlt) A _ Gi ρi τ si ri
      have rw' : Rel K A (upd F D (.lst acc)) G' H' (wipeE ρi vs) (L2.wipe σ vs) := hw ▸ r'.wipe vs
      unfold cl at hl
      split at hl
      · cases hl
      · rename_i ρ2 hg2
        obtain ⟨b, ρ3, hc3, hl⟩ := bnd_some hl
        refine ⟨ds[i], _, ρ2, A, _, G', hg2, rw', z, fun σ2 r2 w2 => ⟨(w2 vs hv).trans wipe_idem, ?_⟩⟩
        have w2' : L2.wipe σ2 vs = L2.wipe σ vs := (w2 vs hv).trans wipe_idem
        refine ⟨ρ2, b, ρ3, A, _, G', hc3, r2, fun G3 H3 s3 r3 => ?_⟩
        cases b with
        | true =>
          rw [if_pos rfl] at hl
          rw [if_pos rfl]
          obtain ⟨y, ρ4, he4, hl⟩ := bnd_some hl
          obtain ⟨ys, ρ5, he5, hl⟩ := bnd_some hl
          cases hl
          refine ⟨ρ3, y, ρ4, A, _, G3, he4, r3, fun v G4 H4 s4 r4 z4 => ?_⟩
          have s04 : Same Gi G4 := (s'.trans s3).trans s4
          refine ⟨acc, r4.fh D _ upd_same, by omega, rfl, by omega, σ2, ρ4, G4, acc ++ [v], da ++ [y], ys, w2', si.trans s04, r4.chgF, (ha.up s04).app (.one z4), ?_, he5, ?_⟩
          · rw [List.length_append]
            exact Nat.add_le_add_right hal 1
          · rw [List.append_assoc]
            exact hes
        | false =>
          rw [if_neg (by decide)] at hl
          rw [if_neg (by decide)]
          exact ⟨rfl, by omega, σ2, ρ3, G3, acc, da, rest, w2', si.trans (s'.trans s3), r3, ha.up (s'.trans s3), by omega, hl, hes⟩
    · have e : i = ds.length := by omega
      subst e
      rw [List.drop_length] at hl
      unfold cl at hl
      cases hl
      rw [List.append_nil] at hes
      subst hes
      refine .inl ⟨Y.stop H2 (si.trans ri.gh), k D acc Gi H2 fD (s1.trans si) ?_ ha (by omega)⟩
      exact Rel.unwipe (hw ▸ ri.wipe vs)
  · cases h2
theorem fl_lc (own : List (Str × Nat)) (hc : X.calm = true) (hN : X.N.Nodup) (hi : FI X tg iter fi) (ok : BlkOk X.N X.env.scope scope own)
    (hg : ∀ s H C cl fp, FG (X.blk s H scope (compEnvC scope cl C X.env) fp) tg is gg) (ht : ∀ s H C cl fp, FTs (X.blk s H scope (compEnvC scope cl C X.env) fp) ifs c)
    (he : ∀ s H C cl fp, FE (X.blk s H scope (compEnvC scope cl C X.env) fp) elt f) (hv : ∀ i ∈ is, i ∈ own.map (·.2) := by decide) (hs : ∀ x, foldedSetIterable iter X.env x = pure x := by intro _; rfl) :
    FL X (.ListComp elt [⟨tg, iter, ifs, 0⟩] scope pos) (fComp (own.map (·.2)) fi gg c f) := by
  obtain ⟨wi, p, q⟩ := hi
  exact ⟨_, pe_lc hc hN p ok (fun s H C cl fp => (show PG _ tg (TGt X.K is gg) from (hg s H C cl fp).can)) (fun s H C cl fp => (show PTs _ ifs (TB X.K c) from (ht s H C cl fp).can)) (fun s H C cl fp => (show PE _ elt (TF X.K f) from (he s H C cl fp).can)) hs, lc_spec hv q⟩
/-- y = [..], kept -/
theorem fs_lcV {i : Nat} {y : Str} {py spos : Pos} (own : List (Str × Nat)) (hc : X.calm = true) (hN : X.N.Nodup) (hy : X.N[i]? = some y) (hyl : X.env.scope.names.lookup y = some .local) (hsw : swapsWith (.ListComp elt [⟨tg, iter, ifs, 0⟩] scope pos) (some (.Name y py)) spos.line X.env = pure true)
    (hi : FI X tg iter fi) (ok : BlkOk X.N X.env.scope scope own) (hg : ∀ s H C cl fp, FG (X.blk s H scope (compEnvC scope cl C X.env) fp) tg is gg) (ht : ∀ s H C cl fp, FTs (X.blk s H scope (compEnvC scope cl C X.env) fp) ifs c)
    (he : ∀ s H C cl fp, FE (X.blk s H scope (compEnvC scope cl C X.env) fp) elt f) (hv : ∀ i ∈ is, i ∈ own.map (·.2) := by decide) (hs : ∀ x, foldedSetIterable iter X.env x = pure x := by intro _; rfl) :
    FS X (.Assign [.Name y py] (.ListComp elt [⟨tg, iter, ifs, 0⟩] scope pos) spos) (sSet i (fAsL (fComp (own.map (·.2)) fi gg c f))) := by
  obtain ⟨wi, p, q⟩ := hi
  refine ⟨_, ps_setLc hc hN hy hyl hsw p ok (fun s H C cl fp => (show PG _ tg (TGt X.K is gg) from (hg s H C cl fp).can)) (fun s H C cl fp => (show PTs _ ifs (TB X.K c) from (ht s H C cl fp).can)) (fun s H C cl fp => (show PE _ elt (TF X.K f) from (he s H C cl fp).can)) hs, fun ρ o h A F G H σ D R k => ?_⟩
  obtain ⟨d, ρ1, h3, h4⟩ := bnd_some h
  obtain ⟨es, ρ2, h5, h6⟩ := bnd_some h3
  cases h6
  cases h4
  refine lc_spec hv q ρ es _ h5 A F G H σ _ R fun a xs G' H' fa s r z _ => ?_
  have g0 : G' a = none := r.fg a _ upd_same
  exact k _ _ H' (s.trans (same_new g0)) ((r.keepF fa).putV i (.lst upd_same (z.up (same_new g0))))
/-- y = [..], one's own -/
theorem fs_lcO {i : Nat} {y : Str} {py spos : Pos} (own : List (Str × Nat)) (hc : X.calm = true) (hN : X.N.Nodup) (hy : X.N[i]? = some y) (hyl : X.env.scope.names.lookup y = some .local) (hsw : swapsWith (.ListComp elt [⟨tg, iter, ifs, 0⟩] scope pos) (some (.Name y py)) spos.line X.env = pure true)
    (hi : FI X tg iter fi) (ok : BlkOk X.N X.env.scope scope own) (hg : ∀ s H C cl fp, FG (X.blk s H scope (compEnvC scope cl C X.env) fp) tg is gg) (ht : ∀ s H C cl fp, FTs (X.blk s H scope (compEnvC scope cl C X.env) fp) ifs c)
    (he : ∀ s H C cl fp, FE (X.blk s H scope (compEnvC scope cl C X.env) fp) elt f) (hv : ∀ i ∈ is, i ∈ own.map (·.2) := by decide) (hs : ∀ x, foldedSetIterable iter X.env x = pure x := by intro _; rfl) :
    FS X (.Assign [.Name y py] (.ListComp elt [⟨tg, iter, ifs, 0⟩] scope pos) spos) (sOwn i (fComp (own.map (·.2)) fi gg c f)) := by
  obtain ⟨wi, p, q⟩ := hi
  refine ⟨_, ps_setLc hc hN hy hyl hsw p ok (fun s H C cl fp => (show PG _ tg (TGt X.K is gg) from (hg s H C cl fp).can)) (fun s H C cl fp => (show PTs _ ifs (TB X.K c) from (ht s H C cl fp).can)) (fun s H C cl fp => (show PE _ elt (TF X.K f) from (he s H C cl fp).can)) hs, fun ρ o h A F G H σ D R k => ?_⟩
  obtain ⟨es, ρ2, h5, h6⟩ := bnd_some h
  cases h6
  exact lc_spec hv q ρ es _ h5 A F G H σ _ R fun a xs G' H' fa s r z _ => k _ G' H' s (r.putOwn fa i z)
end

/-! ## changing a list of one's own -/
section
variable {X : Cx} {e o a b : Expr} {st : Stmt} {f g : EF} {i : Nat}
@[simp] def sApp (i : Nat) (f : EF) : SF := fun ρ => match ρ[i]? with
  | some (.own _) => bnd (f ρ) fun d ρ1 => match ρ1[i]? with
    | some (.own ds) => if Nat.blt ds.length 16777216 = true then some (.nx (ρ1.set i (.own (ds ++ [d])))) else none
    | _ => none
  | _ => none
theorem blt_line {n : Nat} (h : Nat.blt n 16777216 = true) : n < sizeLine := by
  rw [sizeLine_eq]
  exact Nat.le_of_ble_eq_true h
theorem fs_app (mk : ∀ t, PE X e t → PS X st (tDrop (tBM X.K "list" rAppend (tVar i) (tCons t tNil)))) (he : FE X e f) : FS X st (sApp i f) := by
  obtain ⟨t, p, q⟩ := he
  refine ⟨_, mk t p, fun ρ o h A F G H σ D R k => ?_⟩
  unfold sApp at h
  split at h
  · rename_i ds0 hi0
    obtain ⟨d, ρ1, h1, h2⟩ := bnd_some h
    obtain ⟨p0, xs0, e0, e1, e2, _⟩ := R.atOwn hi0
    refine ⟨_, e0, Or.inl ⟨rfl, _, Or.inl (Or.inl e1)⟩, q ρ d ρ1 h1 A F G H σ _ R fun x G' H' s r z => ?_⟩
    split at h2
    · rename_i ds hi
      split at h2
      · rename_i hz
        cases h2
        obtain ⟨p1, xs, e3, e4, e5, _⟩ := r.atOwn hi
        rw [e0] at e3
        cases e3
        refine ⟨_, xs, x, rfl, rfl, e4, by rw [e5.len]; exact blt_line hz, ?_⟩
        exact k σ G' _ s (r.chgOwn hi e0 (e5.app (.one z)))
      · cases h2
    · cases h2
  · cases h
/-- xs.extend(a list) -/
@[simp] def sExt (i : Nat) (f : EF) : SF := fun ρ => match ρ[i]? with
  | some (.own _) => bnd (f ρ) fun d ρ1 => match d, ρ1[i]? with
    | .list es, some (.own ds) => if Nat.ble (ds.length + es.length) 16777216 = true then some (.nx (ρ1.set i (.own (ds ++ es)))) else none
    | _, _ => none
  | _ => none
theorem fs_ext (mk : ∀ t, PE X e t → PS X st (tDrop (tBM X.K "list" rExtend (tVar i) (tCons t tNil)))) (he : FE X e f) : FS X st (sExt i f) := by
  obtain ⟨t, p, q⟩ := he
  refine ⟨_, mk t p, fun ρ o h A F G H σ D R k => ?_⟩
  unfold sExt at h
  split at h
  · rename_i ds0 hi0
    obtain ⟨d, ρ1, h1, h2⟩ := bnd_some h
    obtain ⟨p0, xs0, e0, e1, e2, _⟩ := R.atOwn hi0
    refine ⟨_, e0, Or.inl ⟨rfl, _, Or.inl (Or.inl e1)⟩, q ρ d ρ1 h1 A F G H σ _ R fun x G' H' s r z => ?_⟩
    split at h2
    · rename_i es ds hi
      split at h2
      · rename_i hz
        cases h2
        obtain ⟨p1, xs, e3, e4, e5, _⟩ := r.atOwn hi
        rw [e0] at e3
        cases e3
        cases z with | lst z1 z2 =>
        refine ⟨_, _, xs, _, rfl, rfl, e4, r.gh _ _ z1, by rw [e5.len, z2.len]; exact ble_line hz, ?_⟩
        exact k σ G' _ s (r.chgOwn hi e0 (e5.app z2))
      · cases h2
    · cases h2
  · cases h
/-- xs[j] = e -/
def ixP (n : Nat) (i : Int) : Option Nat := match i with
  | .ofNat k => if Nat.blt k n = true then some k else none
  | .negSucc k => if Nat.blt k n = true then some (n - (k + 1)) else none
theorem ixP_ok {n : Nat} {i : Int} {j : Nat} (h : ixP n i = some j) : ixN n i = some j := by
  unfold ixN
  cases i with
  | ofNat k =>
    have h' : (if Nat.blt k n = true then some k else none) = some j := h
    by_cases hk : Nat.blt k n = true
    · rw [if_pos hk] at h'
      have e : k = j := Option.some.inj h'
      subst e
      have hk' : k + 1 ≤ n := Nat.le_of_ble_eq_true hk
      rw [if_pos (show (0 : Int) ≤ Int.ofNat k from Int.natCast_nonneg k), if_pos (show Int.ofNat k < (n : Int) from Int.ofNat_lt.mpr (by omega))]
      rfl
    · rw [if_neg hk] at h'
      cases h'
  | negSucc k =>
    have h' : (if Nat.blt k n = true then some (n - (k + 1)) else none) = some j := h
    by_cases hk : Nat.blt k n = true
    · rw [if_pos hk] at h'
      cases h'
      have hk' : k + 1 ≤ n := Nat.le_of_ble_eq_true hk
      rw [if_neg (show ¬ (0 : Int) ≤ Int.negSucc k by omega), if_pos (show -(n : Int) ≤ Int.negSucc k by omega)]
      congr 1
      omega
    · rw [if_neg hk] at h'
      cases h'
@[simp] def sIx (i : Nat) (f g : EF) : SF := fun ρ => bnd (f ρ) fun d ρ1 => match ρ1[i]? with
  | some (.own _) => bnd (g ρ1) fun j ρ2 => match j, ρ2[i]? with
    | .int j, some (.own ds) => match ixP ds.length j with
      | some n => some (.nx (ρ2.set i (.own (ds.set n d))))
      | none => none
    | _, _ => none
  | _ => none
theorem fs_ix (mk : ∀ t u, PE X e t → PE X b u → PS X st (tAsg t (gSub (tVar i) u rSetL))) (hi : FE X b g) (he : FE X e f) : FS X st (sIx i f g) := by
  obtain ⟨t, p, q⟩ := he
  obtain ⟨t2, p2, q2⟩ := hi
  refine ⟨_, mk t t2 p p2, fun ρ o h A F G H σ D R k => ?_⟩
  obtain ⟨d, ρ1, h3, h4⟩ := bnd_some h
  refine q ρ d ρ1 h3 A F G H σ _ R fun x G1 H1 s1 r1 z1 => ?_
  split at h4
  · rename_i ds0 hi0
    obtain ⟨j, ρ2, h5, h6⟩ := bnd_some h4
    obtain ⟨p0, xs0, e0, e1, e2, _⟩ := r1.atOwn hi0
    refine ⟨_, e0, q2 ρ1 j ρ2 h5 A F G1 H1 σ _ r1 fun y G2 H2 s2 r2 z2 => ?_⟩
    split at h6
    · rename_i j ds hi
      split at h6
      · rename_i n hn
        cases h6
        obtain ⟨p1, xs, e3, e4, e5, _⟩ := r2.atOwn hi
        rw [e0] at e3
        cases e3
        cases z2
        refine ⟨_, xs, j, n, rfl, rfl, e4, by rw [e5.len]; exact ixP_ok hn, ?_⟩
        exact k σ G2 _ (s1.trans s2) (r2.chgOwn hi e0 (e5.st (z1.up s2) n))
      · cases h6
    · cases h6
  · cases h4
/-- xs.pop() -/
@[simp] def fPop (i : Nat) : EF := fun ρ => match ρ[i]? with
  | some (.own ds) => match ds[ds.length - 1]? with
    | some d => some (d, ρ.set i (.own ds.dropLast))
    | none => none
  | _ => none
theorem DqA.dl {K : PySem.W.Frag} {H : Hp} {ds : List PyData} {vs : List V} (h : DqA K H vs ds) : DqA K H vs.dropLast ds.dropLast := by
  rw [List.dropLast_eq_take, List.dropLast_eq_take, h.len]
  exact h.tk _
theorem fe_pop (h : PE X e (tBM0 X.K "list" rPop (tVar i))) : FE X e (fPop i) := by
  refine ⟨_, h, fun ρ d ρ' h A F G H σ Q R k => ?_⟩
  unfold fPop at h
  split at h
  · rename_i ds hi
    split at h
    · rename_i d' hd
      cases h
      obtain ⟨p0, xs, e0, e1, e2, _⟩ := R.atOwn hi
      obtain ⟨v, h1, h2⟩ := e2.get hd
      rw [← e2.len] at h1
      exact ⟨_, e0, Or.inl ⟨rfl, _, Or.inl (Or.inl e1)⟩, _, xs, v, rfl, rfl, e1, h1, k v G _ (Same.refl G) (R.chgOwn hi e0 e2.dl) h2⟩
    · cases h
  · cases h
/-- xs.pop(j), j from 0 on -/
@[simp] def fPopAt (i : Nat) (g : EF) : EF := fun ρ => match ρ[i]? with
  | some (.own _) => bnd (g ρ) fun j ρ1 => match j, ρ1[i]? with
    | .int (.ofNat n), some (.own ds) => match ds[n]? with
      | some d => if Nat.ble ds.length 16777216 = true then some (d, ρ1.set i (.own (ds.eraseIdx n))) else none
      | none => none
    | _, _ => none
  | _ => none
theorem DqA.er {K : PySem.W.Frag} {H : Hp} : ∀ {ds : List PyData} {vs : List V} (n : Nat), DqA K H vs ds → DqA K H (vs.eraseIdx n) (ds.eraseIdx n)
  | [], _, n, h => by cases h; simp; exact .nil
  | _ :: _, _, 0, h => by cases h with | cons q r => exact r
  | _ :: _, _, n + 1, h => by cases h with | cons q r => exact .cons q (DqA.er n r)
theorem fe_popAt (mk : ∀ t, PE X e t → PE X o (tBM X.K "list" rPopAt (tVar i) (tCons t tNil))) (he : FE X e f) : FE X o (fPopAt i f) := by
  obtain ⟨t, p, q⟩ := he
  refine ⟨_, mk t p, fun ρ d ρ' h A F G H σ Q R k => ?_⟩
  unfold fPopAt at h
  split at h
  · rename_i ds0 hi0
    obtain ⟨j, ρ1, h1, h2⟩ := bnd_some h
    obtain ⟨p0, xs0, e0, e1, e2, _⟩ := R.atOwn hi0
    refine ⟨_, e0, Or.inl ⟨rfl, _, Or.inl (Or.inl e1)⟩, q ρ j ρ1 h1 A F G H σ _ R fun x G' H' s r z => ?_⟩
    split at h2
    · rename_i n ds hi
      split at h2
      · rename_i d' hd
        split at h2
        · rename_i hz
          cases h2
          obtain ⟨p1, xs, e3, e4, e5, _⟩ := r.atOwn hi
          rw [e0] at e3
          cases e3
          cases z
          obtain ⟨v, h3, h4⟩ := e5.get hd
          have hn : n < xs.length := (List.getElem?_eq_some_iff.mp h3).1
          have hl := e5.len
          have hz' : ds.length ≤ 16777216 := Nat.le_of_ble_eq_true hz
          have hk : ixN xs.length (Int.ofNat n) = some n := by
            unfold ixN
            rw [if_pos (show (0 : Int) ≤ Int.ofNat n from Int.natCast_nonneg n), if_pos (show Int.ofNat n < (xs.length : Int) from Int.ofNat_lt.mpr hn)]
            rfl
          refine ⟨_, xs, Int.ofNat n, n, v, rfl, rfl, e4, ?_, ?_, (ixN_seq hk).1, h3, k v G' _ s (r.chgOwn hi e0 (e5.er n)) h4⟩
          · show -(2 ^ 63) ≤ ((n : Nat) : Int)
            omega
          · show ((n : Nat) : Int) < 2 ^ 63
            omega
        · cases h2
      · cases h2
    · cases h2
  · cases h
end
/-! ## a, b = x, y -/
section
variable {X : Cx} {a b : Expr} {f g : EF}
@[simp] def sPar (i j : Nat) (f g : EF) : SF := fun ρ => bnd (f ρ) fun x ρ1 => bnd (g ρ1) fun y ρ2 => some (.nx ((ρ2.set i (.v x)).set j (.v y)))
theorem fs_par {st : Stmt} {i j : Nat} (mk : ∀ t u, PE X a t → PE X b u → PS X st (tPar i j (tCons t (tCons u tNil)))) (ha : FE X a f) (hb : FE X b g) : FS X st (sPar i j f g) := by
  obtain ⟨ta, pa, qa⟩ := ha
  obtain ⟨tb, pb, qb⟩ := hb
  refine ⟨_, mk ta tb pa pb, fun ρ o h A F G H σ D R k => ?_⟩
  obtain ⟨d, ρ1, h3, h4⟩ := bnd_some h
  obtain ⟨d2, ρ2, h5, h6⟩ := bnd_some h4
  cases h6
  refine qa ρ d ρ1 h3 A F G H σ _ R fun u G1 H1 s1 r1 z1 => qb ρ1 d2 ρ2 h5 A F G1 H1 σ _ r1 fun v G2 H2 s2 r2 z2 => ⟨u, v, rfl, ?_⟩
  exact k _ G2 H2 (s1.trans s2) ((r2.putV i (z1.up s2)).putV j z2)
end
end Fe
namespace Fe
open PySem PySem.Spec PyProof.Rows L2

/-! ## defs -/
/-- a promise: arguments, heap, what is wanted -/
abbrev Pr := List V → Hp → VK → Prop
/-- the def at f keeps the promise, called where nothing is being shown and no exception leaves -/
structure FnG (P : Program) (w : World) (K : PySem.W.Frag) (mg : Str → Option Value) (base : Heap) (k : Nat) (f : Addr) (fd : FuncData) (ps : List Str) (sp : Pr) : Prop where
  len : ∀ vs H Q, sp vs H Q → vs.length = ps.length
  run : ∀ (A : Around) (outer : List Env) (s : Shared) (H : Hp) (args : Args) (us : List Value) (vs : List V) (Q : VK), Room k A → A.guards = some [] → Env0 P w K mg base A outer s H → BindsTo s fd args (ps.zip us) → Vals vs us → sp vs H Q →
    codeAny (model P w) A (.call (.ref f) args) (CR CX0 outer P w H s Q E0) s
section
variable {P : Program} {w : World} {K : PySem.W.Frag} {mg : Str → Option Value} {base : Heap}
theorem FnG.up {j k : Nat} {f : Addr} {fd : FuncData} {ps : List Str} {sp : Pr} (F : FnG P w K mg base j f fd ps sp) (h : j ≤ k) : FnG P w K mg base k f fd ps sp :=
  ⟨F.len, fun A outer s H args us vs Q r => F.run A outer s H args us vs Q (r.mono h)⟩
end
section
variable {X : Cx} {k : Nat} {f : Addr} {fd : FuncData} {ps : List Str} {sp : Pr} {x : Str} {p pos : Pos} {e : Expr} {es : List Expr} {t : TA}
theorem callG {pins : List (Addr × Obj)} {σ : L2.St} {H : Hp} {s : Shared} {Q : VK} {us : List Value} {vs : List V} (F : FnG X.prog X.w X.K X.mg X.base k f fd ps sp) (hr : Room k X.A) (hG : X.A.guards = some []) (hb : Binds X.K fd ps [])
    (I : Inv X pins σ H s) (rv : Vals vs us) (q : sp vs H Q) : wpAny (model X.prog X.w) X.A (call (.ref f) us) (EP X pins σ Q) X.xe s := by
  have hl : (us ++ []).length = ps.length := by
    rw [List.append_nil, ← rv.length]
    exact F.len _ _ _ q
  have hb' : BindsTo s fd ⟨us, []⟩ (ps.zip us) := by
    have z := hb s us I.kIn hl
    rwa [List.append_nil] at z
  refine wpAny_call (codeAny_mono (F.run X.A X.stack s H ⟨us, []⟩ us vs Q hr hG I.env0 hb' rv q) ?_)
  rintro (e | fl) s' z
  · exact False.elim z
  · cases fl with
    | ret u => exact I.after z
    | next => exact False.elim z
    | brk => exact False.elim z
    | cont => exact False.elim z
theorem pe_callG (F : FnG X.prog X.w X.K X.mg X.base k f fd ps sp) (hr : Room k X.A) (hG : X.A.guards = some []) (hg : Gl X x) (hm : X.mg x = some (.ref f)) (hk : PySem.W.keepIn X.K (.ref f) = true) (hb : Binds X.K fd ps [])
    (ha : PA X (e :: es) t) (hdb : (x == ("__debug__" : Str)) = false := by decide) (he : starEach (e :: es) X.env = (false, eval e X.env) :: starEach es X.env := by rfl) (hpl : (backTo pos (starEach es X.env)).any (·.1) = false := by rfl) :
    PE X (.Call (.Name x p) (e :: es) [] pos) (fun σ H Q => t σ H fun vs H1 => sp vs H1 Q) := by
  constructor
  intro pins s σ H Q I q
  exact wpAny_Call_Name_kw (ld_glob I hg hm (PySem.W.callWith_K (h₀ := X.base) I.ok.mod.kin hk (thn (ha.run pos pins s σ H _ I q) fun us s1 ⟨vs, H1, J, rv, z⟩ => ⟨J.kIn, callG F hr hG hb J rv z⟩) he hpl) hdb)
theorem pe_callG0 (F : FnG X.prog X.w X.K X.mg X.base k f fd ps sp) (hr : Room k X.A) (hG : X.A.guards = some []) (hg : Gl X x) (hm : X.mg x = some (.ref f)) (hk : PySem.W.keepIn X.K (.ref f) = true) (hb : Binds X.K fd ps []) (hdb : (x == ("__debug__" : Str)) = false := by decide) :
    PE X (.Call (.Name x p) [] [] pos) (fun σ H Q => sp [] H Q) := by
  constructor
  intro pins s σ H Q I q
  exact wpAny_Call_Name_kw (ld_glob I hg hm (PySem.W.callWith_K0 I.kIn hk (callG (us := []) F hr hG hb I .nil q)) hdb)
end
/-- the context of a def's body -/
abbrev cx (P : Program) (w : World) (K : PySem.W.Frag) (mg : Str → Option Value) (base : Heap) (N : List Str) (qual : Str) (scope : Scope) (f : Addr) (cdv : Value) (A : Around) (outer : List Env) (s : Shared) (H : Hp) : Cx :=
  (cxOf CX0 P w K mg base N qual scope f cdv A outer s H E0).nox
/-- what a def's body is asked for -/
def BodyAt (P : Program) (w : World) (K : PySem.W.Frag) (mg : Str → Option Value) (base : Heap) (k : Nat) (N : List Str) (qual : Str) (st : Stmt) (f : Addr) (fb : SF) : Prop :=
  ∀ (cdv : Value) (A : Around) (outer : List Env) (s : Shared) (H : Hp), Room k (cx P w K mg base N qual (defScope st) f cdv A outer s H).A → (cx P w K mg base N qual (defScope st) f cdv A outer s H).A.guards = some [] →
    FSs (cx P w K mg base N qual (defScope st) f cdv A outer s H) (defBody st) fb
section
variable {P : Program} {w : World} {K : PySem.W.Frag} {mg : Str → Option Value} {base : Heap}
theorem fnG_of {x qual : Str} {st : Stmt} {f : Addr} {fd : FuncData} {N ps : List Str} {k : Nat} {sp : Pr} (D : Fun K x qual st f fd) (S : FnScope N ps (defScope st)) (len : ∀ vs H Q, sp vs H Q → vs.length = ps.length)
    (hb : ∀ (cdv : Value) (A : Around) (outer : List Env) (s : Shared) (H : Hp) (vs : List V) (Q : VK), Room k (cx P w K mg base N qual (defScope st) f cdv A outer s H).A → (cx P w K mg base N qual (defScope st) f cdv A outer s H).A.guards = some [] → sp vs H Q →
      ∃ t, PSs (cx P w K mg base N qual (defScope st) f cdv A outer s H) (defBody st) t ∧ t { nx := fun _ H' => Q .non H', rt := Q } (L2.start N vs) H) : FnG P w K mg base (k + 1) f fd ps sp := by
  obtain ⟨oc, od, kV, doc, pm, an, cdv, ct, osl, hfd, lk, hcd⟩ := D.ex
  subst hfd
  refine ⟨len, ?_⟩
  intro A outer s H args us vs Q hr hG e0 hbind rv q
  have hlen := len vs H Q q
  have KX : K.In s.heap := e0.mod.kin.keeps fun b o z => (e0.bs b o z).1
  have hkind : ∀ y ∈ ps.zip us, (defScope st).names.lookup y.1 = some .local ∨ ((defScope st).names.lookup y.1 = some .cell ∧ ((cellsFrom (s.heap.objs.size + 1) (defScope st).names []).lookup y.1).isSome = true) := by
    rintro ⟨n, v⟩ hy
    rcases S.par n (List.of_mem_zip hy).1 with z | z
    · exact Or.inl z
    · exact Or.inr ⟨z, PySem.W.cellsFrom_some _ _ _ (Or.inl z)⟩
  refine codeAny_call_function hr.depth (KX _ _ lk) rfl S.co S.gen rfl (PySem.W.codeRec_of KX hcd) (hbind _ _ _ _ (wpAny_newFunctionEnv_cells S.kind hkind ?_))
  intro env he s1 y
  subst he
  refine ⟨(e0.mod.nolimit.keeps fun b o z => (e0.bs b o z).1).keeps y.toInCall.keep, codeAny_func ?_⟩
  obtain ⟨t, ht, hq⟩ := hb cdv A outer s H vs Q (hr.deeper _) hG q
  have J := inv_start (CX := CX0) (E := E0) S hr.hd e0 hlen rv y
  refine wpAny_mono (ht.nox.run [] s1 (L2.start N vs) H _ J hq) ?_ fun _ _ z => z
  intro fl s' z
  cases fl with
  | ret u =>
    obtain ⟨v, σ', H', J', r', z⟩ := z
    exact ⟨v, H', J'.os, J'.bare, J'.base, J'.hok, r', z⟩
  | next =>
    obtain ⟨σ', H', J', z⟩ := z
    exact ⟨.non, H', J'.os, J'.bare, J'.base, J'.hok, rfl, z⟩
  | brk =>
    obtain ⟨_, _, _, z⟩ := z
    exact z.elim
  | cont =>
    obtain ⟨_, _, _, z⟩ := z
    exact z.elim
end

/-! ### a def that computes a function -/
/-- what is not in G -/
def off (G H : Hp) : Hp := fun a => match G a with
  | some _ => none
  | none => H a
theorem off_none {G H : Hp} {a : Addr} (h : G a = none) : off G H a = H a := by
  unfold off
  rw [h]
theorem off_some {G H : Hp} {a : Addr} {o : HO} (h : off G H a = some o) : G a = none ∧ H a = some o := by
  unfold off at h
  split at h
  · cases h
  · rename_i e
    exact ⟨e, h⟩
def spF (K : PySem.W.Frag) (F : List PyData → Option PyData) : Pr := fun vs H Q => ∃ G ds r, Same G H ∧ DqA K G vs ds ∧ F ds = some r ∧
  ∀ x G' H', Same G G' → Same G' H' → Same H H' → (∀ a o, H a = some o → G a = none → G' a = none) → Dq K G' x r → Q x H'
@[simp] def fCall (F : List PyData → Option PyData) (l : LF) : EF := fun ρ => bnd (l ρ) fun ds ρ1 => ret ρ1 (F ds)
theorem rel_call {K : PySem.W.Frag} {A : Option Addr} {F G G' H H' : Hp} {ρ : En} {σ : L2.St} (R : Rel K A F G H ρ σ) (s : Same G G') (g : Same G' H') (h : Same H H') (n : ∀ a o, H a = some o → G a = none → G' a = none) : Rel K A F G' H' ρ σ :=
  R.to s g (R.fh.trans h) (fun a o e => n a o (R.fh a o e) (R.fg a o e)) (fun a o _ _ e => h a o e) fun a f g' e => ⟨f, by
    cases q : H a with
    | none => exact absurd q e
    | some o => exact n a o q g'⟩
section
variable {X : Cx} {k : Nat} {f : Addr} {fd : FuncData} {ps : List Str} {x : Str} {p pos : Pos} {e : Expr} {es : List Expr} {l : LF} {Fn : List PyData → Option PyData}
theorem fe_call (D : FnG X.prog X.w X.K X.mg X.base k f fd ps (spF X.K Fn)) (hr : Room k X.A) (hG : X.A.guards = some []) (hg : Gl X x) (hm : X.mg x = some (.ref f)) (hk : PySem.W.keepIn X.K (.ref f) = true) (hb : Binds X.K fd ps [])
    (ha : FA X (e :: es) l) (hdb : (x == ("__debug__" : Str)) = false := by decide) (he : starEach (e :: es) X.env = (false, eval e X.env) :: starEach es X.env := by rfl) (hpl : (backTo pos (starEach es X.env)).any (·.1) = false := by rfl) :
    FE X (.Call (.Name x p) (e :: es) [] pos) (fCall Fn l) := by
  obtain ⟨t, pt, q⟩ := ha
  refine ⟨_, pe_callG D hr hG hg hm hk hb pt hdb he hpl, fun ρ d ρ' h A F G H σ Q R kk => ?_⟩
  obtain ⟨ds, ρ1, h1, h2⟩ := bnd_some h
  obtain ⟨h3, rfl⟩ := ret_some h2
  refine q ρ ds _ h1 A F G H σ _ R fun xs G1 H1 s1 R1 z1 => ?_
  exact ⟨G1, ds, d, R1.gh, z1, h3, fun x G' H' s g h n z => kk x G' H' (s1.trans s) (rel_call R1 s g h n) z⟩
theorem fe_call0 (D : FnG X.prog X.w X.K X.mg X.base k f fd ps (spF X.K Fn)) (hr : Room k X.A) (hG : X.A.guards = some []) (hg : Gl X x) (hm : X.mg x = some (.ref f)) (hk : PySem.W.keepIn X.K (.ref f) = true) (hb : Binds X.K fd ps []) (hdb : (x == ("__debug__" : Str)) = false := by decide) :
    FE X (.Call (.Name x p) [] [] pos) (fCall Fn fNil) := by
  refine ⟨_, pe_callG0 D hr hG hg hm hk hb hdb, fun ρ d ρ' h A F G H σ Q R kk => ?_⟩
  obtain ⟨ds, ρ1, h1, h2⟩ := bnd_some h
  obtain ⟨h3, rfl⟩ := ret_some h2
  cases h1
  exact ⟨G, [], d, R.gh, .nil, h3, fun x G' H' s g h n z => kk x G' H' s (rel_call R s g h n) z⟩
end
@[simp] def outV : Out → PyData
  | .rt d _ => d
  | _ => .none
@[simp] def outE : Out → Bool
  | .rt _ _ => true
  | .nx _ => true
  | _ => false
@[simp] def start1 (m : Nat) (ds : List PyData) : En := ds.map Sl.v ++ List.replicate (m - ds.length) Sl.un
abbrev start0 (N : List Str) (ds : List PyData) : En := start1 N.length ds
theorem rel_start {K : PySem.W.Frag} {A : Option Addr} {G H : Hp} {N : List Str} {vs : List V} {ds : List PyData} (s : Same G H) (h : DqA K G vs ds) : Rel K A (off G H) G H (start0 N ds) (L2.start N vs) := by
  have hl := h.len
  refine ⟨s, fun a o e => (off_some e).2, fun a o e => (off_some e).1, by simp [start0, start1, L2.start, hl], fun _ => [], fun i u e => ?_, fun i j a e => (nomatch e), fun i a e => (nomatch e)⟩
  unfold start0 start1 at e
  unfold L2.start
  by_cases hi : i < ds.length
  · rw [List.getElem?_append_left (by simpa using hi), List.getElem?_map, List.getElem?_eq_getElem hi] at e
    cases e
    obtain ⟨v, h1, h2⟩ := h.get (List.getElem?_eq_getElem hi)
    refine ⟨some v, ?_, rfl, v, rfl, h2⟩
    rw [List.getElem?_append_left (by simpa [hl] using hi), List.getElem?_map, h1]
    rfl
  · rw [List.getElem?_append_right (by simpa using Nat.le_of_not_lt hi), List.getElem?_replicate] at e
    split at e
    · rename_i hj
      cases e
      refine ⟨none, ?_, rfl⟩
      rw [List.getElem?_append_right (by simpa [hl] using Nat.le_of_not_lt hi), List.getElem?_replicate]
      rw [if_pos (by simpa [hl] using hj)]
    · cases e
section
variable {P : Program} {w : World} {K : PySem.W.Frag} {mg : Str → Option Value} {base : Heap}
theorem fnF {x qual : Str} {st : Stmt} {f : Addr} {fd : FuncData} {N ps : List Str} {k : Nat} {fb : SF} {Fn : List PyData → Option PyData} (D : Fun K x qual st f fd) (S : FnScope N ps (defScope st))
    (hb : BodyAt P w K mg base k N qual st f fb) (hF : ∀ ds r, Fn ds = some r → ds.length = ps.length ∧ ∃ o, fb (start0 N ds) = some o ∧ outE o = true ∧ outV o = r) : FnG P w K mg base (k + 1) f fd ps (spF K Fn) := by
  refine fnG_of D S (fun vs H Q h => ?_) fun cdv A outer s H vs Q hr hG h => ?_
  · obtain ⟨G, ds, r, _, h1, h2, _⟩ := h
    rw [h1.len]
    exact (hF ds r h2).1
  · obtain ⟨G, ds, r, h0, h1, h2, h3⟩ := h
    obtain ⟨_, o, h4, h5, h6⟩ := hF ds r h2
    obtain ⟨t, pt, q⟩ := hb cdv A outer s H hr hG
    refine ⟨t, pt, q _ o h4 none _ G H _ _ (rel_start h0 h1) ?_⟩
    have fin : ∀ {ρ' : En} {σ' : L2.St} {G' H' : Hp} {v : V}, Same G G' → Rel K none (off G H) G' H' ρ' σ' → Dq K G' v r → Q v H' := by
      intro ρ' σ' G' H' v s' R' z
      refine h3 v G' H' s' R'.gh (fun a u e => ?_) (fun a u e g => R'.fg a u ((off_none g).trans e)) z
      cases g : G a with
      | none => exact R'.fh a u ((off_none g).trans e)
      | some u' =>
        have := h0 a u' g
        rw [e] at this
        cases this
        exact R'.gh a u (s' a u g)
    cases o with
    | nx ρ' =>
      have h6 : PyData.none = r := h6
      subst h6
      exact fun σ' G' H' s' R' => fin s' R' .non
    | rt d ρ' =>
      have h6 : d = r := h6
      subst h6
      exact fun v σ' G' H' s' R' z => fin s' R' z
    | bk ρ' => cases h5
    | ct ρ' => cases h5
/-- the def's function: its body, run -/
def runF (n m : Nat) (fb : SF) : List PyData → Option PyData := fun ds => if (ds.length == n) = true then (match fb (start1 m ds) with
  | some (.rt d _) => some d
  | some (.nx _) => some .none
  | _ => none) else none
theorem fnRun {x qual : Str} {st : Stmt} {f : Addr} {fd : FuncData} {N ps : List Str} {k n m : Nat} {fb : SF} (D : Fun K x qual st f fd) (S : FnScope N ps (defScope st)) (hb : BodyAt P w K mg base k N qual st f fb)
    (hn : ps.length = n := by rfl) (hm : N.length = m := by rfl) : FnG P w K mg base (k + 1) f fd ps (spF K (runF n m fb)) := by
  subst hn
  subst hm
  refine fnF D S hb fun ds r h => ?_
  unfold runF at h
  split at h
  · rename_i hl
    refine ⟨by simpa using hl, ?_⟩
    split at h
    · rename_i e
      cases h
      exact ⟨_, e, rfl, rfl⟩
    · rename_i e
      cases h
      exact ⟨_, e, rfl, rfl⟩
    · cases h
  · cases h
end
end Fe
namespace Fe
open PySem PySem.Spec PyProof.Rows L2

/-! ## the draws' source, handed on -/
def srcKv (c : Addr) (s : Src) : List (Key × V) := [(.inr "cells", .ref c), (.inr "left", .int s.left), (.inr "mixed", .int s.mixed), (.inr "turn", .int s.turn)]
def spS (K : PySem.W.Frag) (F : Src → List PyData → Option (PyData × Src)) : Pr := fun vs H Q => ∃ a c us G s ds r s', vs = .ref a :: us ∧ Same G H ∧ SrcAt H a c s ∧ G a = none ∧ G c = none ∧ DqA K G us ds ∧ F s ds = some (r, s') ∧
  ∀ x c' G' H', Same G G' → Same G' H' → (∀ b o, H b = some o → b ≠ a → b ≠ c → H' b = some o) → (∀ b o, H b = some o → b ≠ a → b ≠ c → G b = none → G' b = none) → SrcAt H' a c' s' → (c' = c ∨ H c' = none) → G' a = none → G' c' = none → Dq K G' x r → Q x H'
@[simp] def fCallS (i : Nat) (F : Src → List PyData → Option (PyData × Src)) (l : LF) : EF := fun ρ => match ρ[i]? with
  | some (.src _) => bnd (l ρ) fun ds ρ1 => match ρ1[i]? with
    | some (.src s) => match F s ds with
      | some (r, s') => some (r, ρ1.set i (.src s'))
      | none => none
    | _ => none
  | _ => none
section
variable {K : PySem.W.Frag} {A : Option Addr} {F G G' H H' : Hp} {ρ : En} {σ : L2.St}
theorem Rel.atSrc (k : Rel K A F G H ρ σ) {i : Nat} {s : Src} (h : ρ[i]? = some (.src s)) : ∃ a c, A = some a ∧ σ[i]? = some (some (.ref a)) ∧ SrcAt H a c s ∧ F a = none ∧ F c = none ∧ G a = none ∧ G c = none := by
  obtain ⟨R, r1, _, r3⟩ := k.rg
  obtain ⟨x, h1, a, c, e, q1, rfl, h2⟩ := r1 i _ h
  obtain ⟨f1, f2, _⟩ := r3 i a (by rw [e]; simp)
  obtain ⟨f3, f4, _⟩ := r3 i c (by rw [e]; simp)
  exact ⟨a, c, q1, h1, h2, f1, f3, f2, f4⟩
theorem Rel.chgSrc (k : Rel K A F G H ρ σ) {i : Nat} {s s' : Src} {a c c' : Addr} (h : ρ[i]? = some (.src s)) (hA : A = some a) (hs : SrcAt H a c s) (g : Same G G') (gh : Same G' H') (kp : ∀ b o, H b = some o → b ≠ a → b ≠ c → H' b = some o)
    (n : ∀ b o, H b = some o → b ≠ a → b ≠ c → G b = none → G' b = none) (hs' : SrcAt H' a c' s') (hc : c' = c ∨ H c' = none) (hga : G' a = none) (hg : G' c' = none) : Rel K A F G' H' (ρ.set i (.src s')) σ := by
  obtain ⟨R, r1, r2, r3⟩ := k.rg
  obtain ⟨x, h1, a0, c0, e0, q0, rfl, h2⟩ := r1 i _ h
  have ea : a0 = a := by
    rw [hA] at q0
    exact (Option.some.inj q0).symm
  subst ea
  have ec : c0 = c := by
    have z := h2.1.symm.trans hs.1
    injection z with z
    injection z with z
    simp at z
    exact z
  subst ec
  have aR : a0 ∈ R i := by rw [e0]; simp
  have cR : c0 ∈ R i := by rw [e0]; simp
  obtain ⟨fa, ga, _⟩ := r3 i a0 aR
  obtain ⟨fc, gc, _⟩ := r3 i c0 cR
  have fF : ∀ b o, F b = some o → H' b = some o := fun b o e => kp b o (k.fh b o e) (fun z => by
    subst z
    rw [fa] at e
    cases e) fun z => by
    subst z
    rw [fc] at e
    cases e
  have notF : ∀ b o, F b = some o → b ≠ a0 ∧ b ≠ c0 := fun b o e => by
    constructor
    · intro z
      subst z
      rw [fa] at e
      cases e
    · intro z
      subst z
      rw [fc] at e
      cases e
  have notR : ∀ j, j ≠ i → ∀ b ∈ R j, b ≠ a0 ∧ b ≠ c0 := fun j hj b hb => ⟨fun z => hj (r2 j i b hb (z ▸ aR)), fun z => hj (r2 j i b hb (z ▸ cR))⟩
  refine ⟨gh, fF, fun b o e => n b o (k.fh b o e) (notF b o e).1 (notF b o e).2 (k.fg b o e), by simp [k.len], Rg R i [a0, c'], fun j u e => ?_, fun j l b e1 e2 => ?_, fun j b e => ?_⟩
  · by_cases hj : j = i
    · subst hj
      rw [List.getElem?_set_self (List.getElem?_eq_some_iff.mp h).1] at e
      cases e
      rw [rg_same]
      exact ⟨_, h1, a0, c', rfl, hA, rfl, hs'⟩
    · rw [List.getElem?_set_ne (Ne.symm hj)] at e
      rw [rg_ne hj]
      obtain ⟨x, q1, q2⟩ := r1 j u e
      refine ⟨x, q1, q2.up g fun b hb => ?_⟩
      obtain ⟨_, _, o, f3⟩ := r3 j b hb
      obtain ⟨n1, n2⟩ := notR j hj b hb
      rw [f3]
      exact kp b o f3 n1 n2
  · have out : ∀ m, m ≠ i → b ∈ R m → b ≠ a0 ∧ b ≠ c' := fun m hm hb => by
      obtain ⟨n1, n2⟩ := notR m hm b hb
      refine ⟨n1, fun z => ?_⟩
      rcases hc with hc | hc
      · exact n2 (z.trans hc)
      · obtain ⟨_, _, o, f3⟩ := r3 m b hb
        rw [z, hc] at f3
        cases f3
    by_cases hj : j = i
    · by_cases hl : l = i
      · rw [hj, hl]
      · rw [hj, rg_same] at e1
        rw [rg_ne hl] at e2
        obtain ⟨n1, n2⟩ := out l hl e2
        simp at e1
        rcases e1 with e1 | e1
        · exact absurd e1 n1
        · exact absurd e1 n2
    · rw [rg_ne hj] at e1
      by_cases hl : l = i
      · rw [hl, rg_same] at e2
        obtain ⟨n1, n2⟩ := out j hj e1
        simp at e2
        rcases e2 with e2 | e2
        · exact absurd e2 n1
        · exact absurd e2 n2
      · rw [rg_ne hl] at e2
        exact r2 j l b e1 e2
  · by_cases hj : j = i
    · rw [hj, rg_same] at e
      simp at e
      rcases e with e | e
      · subst e
        exact ⟨fa, hga, _, hs'.1⟩
      · subst e
        refine ⟨?_, hg, _, hs'.2⟩
        rcases hc with hc | hc
        · rw [hc]
          exact fc
        · exact none_of k.fh hc
    · rw [rg_ne hj] at e
      obtain ⟨f1, f2, o, f3⟩ := r3 j b e
      obtain ⟨n1, n2⟩ := notR j hj b e
      exact ⟨f1, n b o f3 n1 n2 f2, o, kp b o f3 n1 n2⟩
end
section
variable {X : Cx} {e : Expr} {es : List Expr} {l : LF} {Fn : Src → List PyData → Option (PyData × Src)} {i : Nat}
theorem fe_callS (mk : ∀ t, PA X es t → PE X e (fun σ H Q => tCons (tVar i) t σ H fun vs H1 => spS X.K Fn vs H1 Q)) (ha : FA X es l) : FE X e (fCallS i Fn l) := by
  obtain ⟨t, p, q⟩ := ha
  refine ⟨_, mk t p, fun ρ d ρ' h A F G H σ Q R k => ?_⟩
  unfold fCallS at h
  split at h
  · rename_i s0 hi0
    obtain ⟨ds, ρ1, h1, h2⟩ := bnd_some h
    obtain ⟨a, c, hA, hσ, _⟩ := R.atSrc hi0
    refine ⟨_, hσ, q ρ ds ρ1 h1 A F G H σ _ R fun xs G1 H1 s1 R1 z1 => ?_⟩
    split at h2
    · rename_i s hi
      split at h2
      · rename_i r s' hF
        cases h2
        obtain ⟨a', c', hA', hσ', hs, f1, f2, g1, g2⟩ := R1.atSrc hi
        rw [hσ] at hσ'
        cases hσ'
        exact ⟨a, c', xs, G1, s, ds, d, s', rfl, R1.gh, hs, g1, g2, z1, hF, fun x c2 G' H' u1 u2 u3 u4 u5 u6 u7 u8 u9 => k x G' H' (s1.trans u1) (R1.chgSrc hi hA hs u1 u2 u3 u4 u5 u6 u7 u8) u9⟩
      · cases h2
    · cases h2
  · cases h
end
/-! ### a def that draws and computes -/
@[simp] def startS (m : Nat) (s : Src) (ds : List PyData) : En := .src s :: start1 (m - 1) ds
def runS (n m : Nat) (fb : SF) : Src → List PyData → Option (PyData × Src) := fun s ds => if (ds.length + 1 == n) = true then (match fb (startS m s ds) with
  | some (.rt d (.src s' :: _)) => some (d, s')
  | some (.nx (.src s' :: _)) => some (.none, s')
  | _ => none) else none
/-- what belongs to the callers: neither ours nor the source's -/
def offS (G H : Hp) (a c : Addr) : Hp := fun b => if b = a then none else if b = c then none else off G H b
theorem rel_startS {K : PySem.W.Frag} {G H : Hp} {N : List Str} {us : List V} {ds : List PyData} {a c : Addr} {s : Src} (hN : 1 ≤ N.length) (g : Same G H) (h : DqA K G us ds) (hs : SrcAt H a c s) (ga : G a = none) (gc : G c = none) :
    Rel K (some a) (offS G H a c) G H (startS N.length s ds) (L2.start N (.ref a :: us)) := by
  have hl := h.len
  have r0 := rel_start (K := K) (A := none) (N := N.tail) g h
  obtain ⟨R, r1, _, _⟩ := r0.rg
  have eN : N.tail.length = N.length - 1 := by simp
  have e1 : start0 N.tail ds = start1 (N.length - 1) ds := by
    unfold start0
    rw [eN]
  have e2 : L2.start N (.ref a :: us) = some (.ref a) :: L2.start N.tail us := by
    unfold L2.start
    rw [eN]
    simp [Nat.sub_sub, Nat.add_comm]
  have off1 : ∀ b o, offS G H a c b = some o → b ≠ a ∧ b ≠ c ∧ G b = none ∧ H b = some o := fun b o e => by
    unfold offS at e
    split at e
    · cases e
    · rename_i n1
      split at e
      · cases e
      · rename_i n2
        obtain ⟨z1, z2⟩ := off_some e
        exact ⟨n1, n2, z1, z2⟩
  refine ⟨g, fun b o e => (off1 b o e).2.2.2, fun b o e => (off1 b o e).2.2.1, ?_, Rg (fun _ => []) 0 [a, c], fun i u e => ?_, fun i j b e1 e2 => ?_, fun i b e => ?_⟩
  · rw [e2]
    unfold startS
    rw [← e1]
    exact congrArg (· + 1) r0.len
  · unfold startS at e
    rw [e2]
    cases i with
    | zero =>
      cases e
      rw [rg_same]
      exact ⟨_, rfl, a, c, rfl, rfl, rfl, hs⟩
    | succ i =>
      rw [rg_ne (by omega)]
      rw [List.getElem?_cons_succ, ← e1] at e
      obtain ⟨x, q1, q2⟩ := r1 i u e
      refine ⟨x, by rw [List.getElem?_cons_succ]; exact q1, ?_⟩
      have ev : u = .un ∨ ∃ d, u = .v d := by
        unfold start0 start1 at e
        have hm := List.mem_of_getElem? e
        rcases List.mem_append.mp hm with z | z
        · obtain ⟨d, _, hd⟩ := List.mem_map.mp z
          exact Or.inr ⟨d, hd.symm⟩
        · exact Or.inl (List.eq_of_mem_replicate z)
      rcases ev with ev | ⟨d, ev⟩
      · subst ev
        rfl
      · subst ev
        exact ⟨rfl, q2.2⟩
  · by_cases hi : i = 0
    · by_cases hj : j = 0
      · rw [hi, hj]
      · rw [rg_ne hj] at e2
        cases e2
    · rw [rg_ne hi] at e1
      cases e1
  · by_cases hi : i = 0
    · rw [hi, rg_same] at e
      simp at e
      rcases e with e | e
      · subst e
        exact ⟨if_pos rfl, ga, _, hs.1⟩
      · subst e
        refine ⟨?_, gc, _, hs.2⟩
        unfold offS
        split
        · rfl
        · rw [if_pos rfl]
    · rw [rg_ne hi] at e
      cases e
section
variable {P : Program} {w : World} {K : PySem.W.Frag} {mg : Str → Option Value} {base : Heap}
theorem fnRunS {x qual : Str} {st : Stmt} {f : Addr} {fd : FuncData} {N ps : List Str} {k n m : Nat} {fb : SF} (D : Fun K x qual st f fd) (S : FnScope N ps (defScope st)) (hb : BodyAt P w K mg base k N qual st f fb)
    (hn : ps.length = n := by rfl) (hm : N.length = m := by rfl) (hm1 : 1 ≤ m := by decide) : FnG P w K mg base (k + 1) f fd ps (spS K (runS n m fb)) := by
  subst hn
  subst hm
  refine fnG_of D S (fun vs H Q h => ?_) fun cdv A outer s0 H vs Q hr hG h => ?_
  · obtain ⟨a, c, us, G, s, ds, r, s', rfl, _, _, _, _, h1, h2, _⟩ := h
    unfold runS at h2
    split at h2
    · rename_i hl
      have hl' : ds.length + 1 = ps.length := by simpa using hl
      rw [List.length_cons, h1.len]
      exact hl'
    · cases h2
  · obtain ⟨a, c, us, G, s, ds, r, s', rfl, h0, hs, ga, gc, h1, h2, h3⟩ := h
    obtain ⟨t, pt, q⟩ := hb cdv A outer s0 H hr hG
    refine ⟨t, pt, ?_⟩
    unfold runS at h2
    split at h2
    · have fin : ∀ {ρ' : En} {σ' : L2.St} {G' H' : Hp} {v : V}, Same G G' → Rel K (some a) (offS G H a c) G' H' (.src s' :: ρ') σ' → Dq K G' v r → Q v H' := by
        intro ρ' σ' G' H' v s1 R' z
        obtain ⟨a', c', hA, _, hs', f1, f2, g1, g2⟩ := R'.atSrc (i := 0) rfl
        cases hA
        have off2 : ∀ b o, H b = some o → b ≠ a → b ≠ c → G b = none → offS G H a c b = some o := fun b o e n1 n2 g => by
          unfold offS
          rw [if_neg n1, if_neg n2, off_none g]
          exact e
        refine h3 v c' G' H' s1 R'.gh (fun b o e n1 n2 => ?_) (fun b o e n1 n2 g => R'.fg b o (off2 b o e n1 n2 g)) hs' ?_ g1 g2 z
        · cases g : G b with
          | none => exact R'.fh b o (off2 b o e n1 n2 g)
          | some u =>
            have := h0 b u g
            rw [e] at this
            cases this
            exact R'.gh b o (s1 b o g)
        · by_cases hcc : c' = c
          · exact Or.inl hcc
          · refine Or.inr ?_
            cases q : H c' with
            | none => rfl
            | some u =>
              exfalso
              have n1 : c' ≠ a := fun z => by
                rw [z] at hs'
                have := hs'.1.symm.trans hs'.2
                cases this
              have gn : G c' = none := by
                cases g : G c' with
                | none => rfl
                | some u' =>
                  rw [s1 _ _ g] at g2
                  cases g2
              have := off2 c' u q n1 hcc gn
              rw [f2] at this
              cases this
      split at h2
      · rename_i d s1 ρ1 ho
        cases h2
        exact q _ _ ho (some a) _ G H _ _ (rel_startS hm1 h0 h1 hs ga gc) fun v σ' G' H' s1 R' z => fin s1 R' z
      · rename_i s1 ρ1 ho
        cases h2
        exact q _ _ ho (some a) _ G H _ _ (rel_startS hm1 h0 h1 hs ga gc) fun σ' G' H' s1 R' => fin s1 R' .non
      · cases h2
    · cases h2
end
end Fe
namespace Fe
open PySem PySem.Spec PyProof.Rows L2

/-! ## the law's own def -/
def spLaw (K : PySem.W.Frag) : Pr := fun vs H Q => ∃ (a : Addr) (ns : List Int), vs = [.ref a] ∧ SqL K H a (ns.map V.int) ∧ ns.length ≤ 63 ∧ ∀ H', Q (.bl true) H'
/-- what makes the source of the script -/
def spMk (K : PySem.W.Frag) : Pr := fun vs H Q => ∃ (p : Addr) (ns : List Int), vs = [.ref p] ∧ SqL K H p (ns.map V.int) ∧ ns.length ≤ 63 ∧ ∀ a c s H', Same H H' → H a = none → H c = none → SrcAt H' a c s → Q (.ref a) H'
abbrev tMk (K : PySem.W.Frag) : TS := tAsg (fun σ H Q => tCons (tVar 0) tNil σ H fun vs H1 => spMk K vs H1 Q) (gName 1)
@[simp] def startL (m : Nat) (s : Src) : En := .un :: .src s :: List.replicate (m - 2) .un
section
variable {P : Program} {w : World} {K : PySem.W.Frag} {mg : Str → Option Value} {base : Heap}
theorem rel_law {H H' : Hp} {m : Nat} {v0 : Option V} {a c : Addr} {s : Src} {τ : L2.St} (hl : τ.length = m) (hm : 2 ≤ m) (e : Same H H') (ha : H a = none) (hc : H c = none) (hs : SrcAt H' a c s) :
    Rel K (some a) H (fun _ => none) H' (startL m s) (τ.set 1 (some (.ref a))) := by
  refine ⟨fun b o z => (nomatch z), e, fun b o z => rfl, by simp [startL, hl]; omega, Rg (fun _ => []) 1 [a, c], fun i u z => ?_, fun i j b e1 e2 => ?_, fun i b z => ?_⟩
  · by_cases hi : i = 1
    · subst hi
      cases z
      rw [rg_same, List.getElem?_set_self (by omega)]
      exact ⟨_, rfl, a, c, rfl, rfl, rfl, hs⟩
    · rw [rg_ne hi, List.getElem?_set_ne (Ne.symm hi)]
      have hu : u = .un := by
        cases i with
        | zero => exact (Option.some.inj z).symm
        | succ i =>
          cases i with
          | zero => exact absurd rfl hi
          | succ i =>
            unfold startL at z
            rw [List.getElem?_cons_succ, List.getElem?_cons_succ, List.getElem?_replicate] at z
            split at z
            · exact (Option.some.inj z).symm
            · cases z
      subst hu
      have hlt : i < τ.length := by
        have := (List.getElem?_eq_some_iff.mp z).1
        simp [startL] at this
        omega
      exact ⟨τ[i], List.getElem?_eq_getElem hlt, rfl⟩
  · by_cases hi : i = 1
    · by_cases hj : j = 1
      · rw [hi, hj]
      · rw [rg_ne hj] at e2
        cases e2
    · rw [rg_ne hi] at e1
      cases e1
  · by_cases hi : i = 1
    · rw [hi, rg_same] at z
      simp at z
      rcases z with z | z
      · subst z
        exact ⟨ha, rfl, _, hs.1⟩
      · subst z
        exact ⟨hc, rfl, _, hs.2⟩
    · rw [rg_ne hi] at z
      cases z
theorem fnLaw {x qual : Str} {st st0 : Stmt} {rest : List Stmt} {f : Addr} {fd : FuncData} {N ps : List Str} {k m : Nat} {fb : SF} (D : Fun K x qual st f fd) (S : FnScope N ps (defScope st)) (hd : defBody st = st0 :: rest) (hps : ps.length = 1 := by rfl) (hm : N.length = m := by rfl) (hm2 : 2 ≤ m := by decide)
    (hb : ∀ (cdv : Value) (A : Around) (outer : List Env) (s : Shared) (H : Hp), Room k (cx P w K mg base N qual (defScope st) f cdv A outer s H).A → (cx P w K mg base N qual (defScope st) f cdv A outer s H).A.guards = some [] →
      PS (cx P w K mg base N qual (defScope st) f cdv A outer s H) st0 (tMk K) ∧ FSs (cx P w K mg base N qual (defScope st) f cdv A outer s H) rest fb)
    (hF : ∀ s : Src, ∃ ρ', fb (startL m s) = some (.rt (.bool true) ρ')) : FnG P w K mg base (k + 1) f fd ps (spLaw K) := by
  subst hm
  refine fnG_of D S (fun vs H Q h => ?_) fun cdv A outer s0 H vs Q hr hG h => ?_
  · obtain ⟨a, ns, rfl, _⟩ := h
    exact hps.symm
  · obtain ⟨a, ns, rfl, h1, h2, h3⟩ := h
    obtain ⟨p1, t, pt, q⟩ := hb cdv A outer s0 H hr hG
    rw [hd]
    refine ⟨_, pss_cons p1 pt, .ref a, rfl, a, ns, rfl, h1, h2, fun a' c s H' e ha hc hs => ?_⟩
    obtain ⟨ρ', hq⟩ := hF s
    have hlen : (L2.start N [V.ref a]).length = N.length := by
      simp [L2.start]
      omega
    refine q _ _ hq (some a') H (fun _ => none) H' _ _ (rel_law (v0 := none) hlen hm2 e ha hc hs) fun v σ' G' H2 _ _ z => ?_
    cases z
    exact h3 H2
end
/-! ## the end of a law's row -/
theorem run_law {P : Program} {w : World} {K : PySem.W.Frag} {mg mb : Str → Option Value} {k : Nat} {fa a : Addr} {fd : FuncData} {x : Str} {sp : Pr} {s : Shared} {vs : List Value} {ns : List Int}
    (KX : K.In s.heap) (hns : s.heap.Ns mainGlobals mg) (hb : s.heap.Ns builtinsNs mb) (hbb : ∀ x : Str, x ≠ "__name__" → mb x = bootBuiltins x) (hlim : s.heap.NoLimit) (hg : s.gens = #[])
    (ha : s.heap.get? a = some { cls := .type "list", data := .seq vs.toArray }) (hi : IntsAre vs ns) (hl : ns.length ≤ sizeLine) (hr : Room k callerA)
    (F : ∀ base : Heap, K.In base → base.Ns mainGlobals mg → FnG P w K mg base k fa fd [x] sp) (hbind : ∀ (s : Shared) (u : Value), BindsTo s fd ⟨[u], []⟩ [(x, u)])
    (hsp : ∀ H : Hp, Only H → SqL K H a (ns.map V.int) → sp [.ref a] H (fun v _ => v = .bl true)) :
    codeAny (model P w) callerA (.call (.ref fa) ⟨[.ref a], []⟩) (fun r s' => r = .ok (.ret (.bool true)) ∧ OldK s.heap s'.heap ∧ s'.os = s.os ∧ AllBare s'.gens) s := by
  have rv := vals_ints hi
  suffices main : ∀ H : Hp, Only H → SqL K H a (ns.map V.int) → HOk P w H s.heap → (∀ b, H b ≠ none → b = a) → (H a ≠ none → K.lookup a = none) →
      codeAny (model P w) callerA (.call (.ref fa) ⟨[.ref a], []⟩) (fun r s' => r = .ok (.ret (.bool true)) ∧ OldK s.heap s'.heap ∧ s'.os = s.os ∧ AllBare s'.gens) s by
    cases hk : K.lookup a with
    | some o =>
      have z := KX a o hk
      rw [ha] at z
      cases z
      refine main (fun _ => none) (fun _ => .inl rfl) (.inr ⟨_, vs.toArray, _, hk, rfl, rfl, rfl, ?_, by simpa using rv⟩) (fun b u q => ?_) (fun b q => absurd rfl q) fun q => absurd rfl q
      · rw [List.size_toArray, hi.length]
        exact hl
      · have q' : (none : Option HO) = some u := q
        cases q'
    | none =>
      let o : HO := .frz { cls := .type "list", data := .seq vs.toArray } (.lst (ns.map V.int))
      have at_a : (fun b => if b = a then some o else none : Hp) a = some o := if_pos rfl
      have off_a : ∀ b, b ≠ a → (fun b => if b = a then some o else none : Hp) b = none := fun b hb => if_neg hb
      refine main (fun b => if b = a then some o else none) (fun b => ?_) (.inl (.inr ⟨_, at_a⟩)) (fun b u q => ?_) (fun b q => ?_) fun _ => hk
      · by_cases hba : b = a
        · subst hba
          exact .inr ⟨_, _, at_a⟩
        · exact .inl (off_a b hba)
      · by_cases hba : b = a
        · subst hba
          have q' := at_a.symm.trans q
          cases q'
          exact ⟨ha, by rw [List.length_map]; exact hl, vs, _, rv, ha⟩
        · have q' := (off_a b hba).symm.trans q
          cases q'
      · by_cases hba : b = a
        · exact hba
        · exact absurd (off_a b hba) q
  intro H hO hS hok hA hK
  have keepH : ∀ {b : Addr} {o : Obj}, s.heap.get? b = some o → H b = none → (hidT s.heap H).get? b = some o := fun e n => hidT_get e n
  have notA : ∀ {b : Addr} {o : Obj} {es : Array DictEntry} {ep : Nat}, s.heap.get? b = some o → o.data = .dict es ep → H b = none := by
    intro b o es ep e d
    cases q : H b with
    | none => rfl
    | some u =>
      obtain rfl : b = a := hA b (by rw [q]; simp)
      rw [ha] at e
      cases e
      exact nomatch (show Data.seq vs.toArray _ = Data.dict es ep from d)
  have nsH : ∀ {b : Addr} {m : Str → Option Value}, s.heap.Ns b m → (hidT s.heap H).Ns b m := by
    rintro b m ⟨o, es, ep, e, d, r⟩
    exact ⟨o, es, ep, keepH e (notA e d), d, r⟩
  have kH : K.In (hidT s.heap H) := by
    intro b o e
    refine keepH (KX b o e) ?_
    cases q : H b with
    | none => rfl
    | some u =>
      obtain rfl : b = a := hA b (by rw [q]; simp)
      rw [hK (by rw [q]; simp)] at e
      cases e
  have lim : (hidT s.heap H).NoLimit := by
    obtain ⟨mc, h1, h2⟩ := hlim
    exact ⟨mc, nsH h1, h2⟩
  have env : Env0 P w K mg (hidT s.heap H) callerA [] s H := by
    refine ⟨rfl, ⟨kH, nsH hns, ⟨mb, nsH hb, hbb⟩, lim⟩, fun b o e => of_hidT e, Nat.le_of_eq (hidT_size _ _), trivial, fun b z => ?_, hok, .of_eq hg⟩
    exact absurd (show b ∈ ([] : List Addr) from z) (by simp)
  refine codeAny_mono ((F _ kH (nsH hns)).run callerA [] s H ⟨[.ref a], []⟩ [.ref a] [.ref a] _ hr rfl env (hbind s (.ref a)) (.cons rfl .nil) (hsp H hO hS)) ?_
  rintro (e | fl) s' z
  · exact False.elim z
  cases fl with
  | next => exact False.elim z
  | brk => exact False.elim z
  | cont => exact False.elim z
  | ret u =>
    obtain ⟨v, H', os, bare, un, hok', r', q⟩ := z
    obtain rfl : v = .bl true := q
    obtain rfl : u = Value.bool true := r'
    refine ⟨rfl, OldK.of_keep fun b o e => ?_, os, bare⟩
    rcases hO b with q | ⟨ob, xs, q⟩
    · exact un.keep b o e q (fun z => absurd (show b ∈ ([] : List Addr) from z) (by simp)) (by simp)
    · obtain ⟨e1, _⟩ := hok b _ q
      obtain ⟨e2, _⟩ := hok' b _ (un.frzs b ob _ q)
      rw [e] at e1
      cases e1
      exact e2
theorem walkG {l : PySem.W.OpenLaw} {k : Nat} {q : Program} {loose : List Str} {XP : (Str → Option Value) → Heap → Prop} {YP : World → Heap → Prop} {d : DefRec} {K : Params → PySem.W.Frag} {x : Str}
    (hn : l.most = some 63) (hdf : d.params.defaults = []) (hr : Room k callerA) (hY : ∀ (w : World) (h : Heap), YP w h → (K w.params).In h)
    (F : ∀ (w : World) (mg : Str → Option Value) (fa : Addr) (h : Heap), (K w.params).In h → h.Ns mainGlobals mg → mg d.name = some (.ref fa) →
      ∃ fd : FuncData, (∀ (s : Shared) (u : Value), BindsTo s fd ⟨[u], []⟩ [(x, u)]) ∧ ∀ base : Heap, (K w.params).In base → base.Ns mainGlobals mg → FnG l.prog w (K w.params) mg base k fa fd [x] (spLaw (K w.params))) :
    PySem.W.WalkO q loose XP YP l.row.toRowW d [] (fun f vs => PySem.call f vs) := by
  refine Att.attach_call hn hdf ?_
  intro w s₀ s₁ mg mb fa o pm cd doc a vs ns G Y ho hd hcd hmg hobj hints hlen hg
  obtain ⟨fd, hb, hF⟩ := F w mg fa _ (hY w _ Y) G.T.g hmg
  exact run_law (hY w _ Y) G.T.g G.T.b G.T.builtins G.T.nolimit hg hobj hints (Nat.le_trans hlen (by decide)) hr hF hb fun H _ hS => ⟨a, ns, rfl, hS, hlen, fun _ => rfl⟩
end Fe
namespace Fe
open PySem PySem.Spec PyProof.Rows L2

/-! ## drawing -/
def popT : Nat → Int → List Int → Int × List Int
  | 0, l, cs => (l, cs)
  | n + 1, l, cs => if l < 2 ∧ 0 < cs.length then popT n (cs.getLastD 0) cs.dropLast else (l, cs)
theorem popT_step {n : Nat} {l : Int} {cs : List Int} (h : l < 2 ∧ 0 < cs.length) : popT (n + 1) l cs = popT n (cs.getLastD 0) cs.dropLast := if_pos h
def popA (s : Src) : Int × List Int := popT s.cells.length s.left s.cells
def turnA (s : Src) (k1 k2 : Int) : Int := ((((s.mixed + (s.turn + 1) * k1) % 998244353) * ((s.mixed + (s.turn + 1) * k1) % 998244353)) + (s.turn + 1) * k2) % 2147483647
/-- the pick that keeps mixed -/
def pickA (s : Src) (m : Int) : Int × Src :=
  if m < 2 then (0, s) else if 1 < (popA s).1 then ((popA s).1 % m, ⟨(popA s).2, (popA s).1 / m, s.mixed, s.turn⟩) else (turnA s 104729 17 / 16 % m, ⟨(popA s).2, (popA s).1, s.mixed, s.turn + 1⟩)
/-- the pick that stores mixed -/
def pickB (k1 k2 : Int) (s : Src) (m : Int) : Int × Src :=
  if m < 2 then (0, s) else if 1 < (popA s).1 then ((popA s).1 % m, ⟨(popA s).2, (popA s).1 / m, s.mixed, s.turn⟩) else (turnA s k1 k2 / 16 % m, ⟨(popA s).2, (popA s).1, turnA s k1 k2, s.turn + 1⟩)
def fPick (p : Src → Int → Int × Src) : Src → List PyData → Option (PyData × Src) := fun s ds => match ds with
  | [.int m] => if Nat.blt m.natAbs.log2 9000 = true then some (.int (p s m).1, (p s m).2) else none
  | _ => none
theorem pickA_rng (s : Src) {m : Int} (h : 0 < m) : 0 ≤ (pickA s m).1 ∧ (pickA s m).1 < m := by
  unfold pickA
  split
  · exact ⟨Int.le_refl 0, h⟩
  · split <;> exact ⟨Int.emod_nonneg _ (by omega), Int.emod_lt_of_pos _ h⟩
theorem pickB_rng (k1 k2 : Int) (s : Src) {m : Int} (h : 0 < m) : 0 ≤ (pickB k1 k2 s m).1 ∧ (pickB k1 k2 s m).1 < m := by
  unfold pickB
  split
  · exact ⟨Int.le_refl 0, h⟩
  · split <;> exact ⟨Int.emod_nonneg _ (by omega), Int.emod_lt_of_pos _ h⟩
def Away (H H' : Hp) (a c : Addr) : Prop := ∀ b o, H b = some o → b ≠ a → b ≠ c → H' b = some o
theorem Away.refl (H : Hp) (a c : Addr) : Away H H a c := fun _ _ h _ _ => h
theorem Away.upA {H H' : Hp} {a c : Addr} {o : HO} (h : Away H H' a c) : Away H (upd H' a o) a c := fun b u e n1 n2 => by
  rw [upd_ne n1]
  exact h b u e n1 n2
theorem Away.upC {H H' : Hp} {a c : Addr} {o : HO} (h : Away H H' a c) : Away H (upd H' c o) a c := fun b u e n1 n2 => by
  rw [upd_ne n2]
  exact h b u e n1 n2
theorem SrcAt.ne {H : Hp} {a c : Addr} {s : Src} (h : SrcAt H a c s) : a ≠ c := fun e => by
  have z := h.1
  rw [e, h.2] at z
  cases z
theorem SrcAt.left {H : Hp} {a c : Addr} {s : Src} (h : SrcAt H a c s) : DGet H a (.str "left") (some (.int s.left)) := by
  have z := DGet.k (k := Sum.inr "left") h.1
  exact z
theorem SrcAt.mixed {H : Hp} {a c : Addr} {s : Src} (h : SrcAt H a c s) : DGet H a (.str "mixed") (some (.int s.mixed)) := DGet.k (k := Sum.inr "mixed") h.1
theorem SrcAt.turn {H : Hp} {a c : Addr} {s : Src} (h : SrcAt H a c s) : DGet H a (.str "turn") (some (.int s.turn)) := DGet.k (k := Sum.inr "turn") h.1
theorem SrcAt.cells {H : Hp} {a c : Addr} {s : Src} (h : SrcAt H a c s) : DGet H a (.str "cells") (some (.ref c)) := DGet.k (k := Sum.inr "cells") h.1
theorem SrcAt.putLeft {H : Hp} {a c : Addr} {s : Src} (h : SrcAt H a c s) (i : Int) : ∃ H', DPut H a (.str "left") (.int i) H' ∧ H' = upd H a (.dK (srcKv c { s with left := i })) ∧ SrcAt H' a c { s with left := i } := by
  have e : putK (srcKv c s) (Sum.inr "left") (.int i) = srcKv c { s with left := i } := by rfl
  refine ⟨_, DPut.k (k := Sum.inr "left") h.1 (by show 4 < sizeLine; decide), congrArg (fun z => upd H a (.dK z)) e, ?_, ?_⟩
  · exact upd_same.trans (congrArg (fun z => some (HO.dK z)) e)
  · rw [upd_ne h.ne.symm]
    exact h.2
theorem SrcAt.putTurn {H : Hp} {a c : Addr} {s : Src} (h : SrcAt H a c s) (i : Int) : ∃ H', DPut H a (.str "turn") (.int i) H' ∧ H' = upd H a (.dK (srcKv c { s with turn := i })) ∧ SrcAt H' a c { s with turn := i } := by
  have e : putK (srcKv c s) (Sum.inr "turn") (.int i) = srcKv c { s with turn := i } := by rfl
  refine ⟨_, DPut.k (k := Sum.inr "turn") h.1 (by show 4 < sizeLine; decide), congrArg (fun z => upd H a (.dK z)) e, ?_, ?_⟩
  · exact upd_same.trans (congrArg (fun z => some (HO.dK z)) e)
  · rw [upd_ne h.ne.symm]
    exact h.2
theorem SrcAt.putMixed {H : Hp} {a c : Addr} {s : Src} (h : SrcAt H a c s) (i : Int) : ∃ H', DPut H a (.str "mixed") (.int i) H' ∧ H' = upd H a (.dK (srcKv c { s with mixed := i })) ∧ SrcAt H' a c { s with mixed := i } := by
  have e : putK (srcKv c s) (Sum.inr "mixed") (.int i) = srcKv c { s with mixed := i } := by rfl
  refine ⟨_, DPut.k (k := Sum.inr "mixed") h.1 (by show 4 < sizeLine; decide), congrArg (fun z => upd H a (.dK z)) e, ?_, ?_⟩
  · exact upd_same.trans (congrArg (fun z => some (HO.dK z)) e)
  · rw [upd_ne h.ne.symm]
    exact h.2
theorem SrcAt.setCells {H : Hp} {a c : Addr} {s : Src} (h : SrcAt H a c s) (cs : List Int) : SrcAt (upd H c (.lst (cs.map V.int))) a c { s with cells := cs } :=
  ⟨(upd_ne h.ne).trans h.1, upd_same⟩
end Fe
namespace Fe
open PySem PySem.Spec PyProof.Rows L2

/-! ## repr of two things, compared -/
mutual
def shB : PyData → Nat
  | .int i => i.natAbs.log2 + 3
  | .bool _ => 5
  | .none => 4
  | .list xs => shBA xs + 3
  | .tuple xs => shBA xs + 3
  | .str _ => 99999999
  | .dict _ => 99999999
def shBA : List PyData → Nat
  | [] => 0
  | x :: r => shB x + 2 + shBA r
end
mutual
def plainD : PyData → Bool
  | .int i => Nat.blt i.natAbs.log2 1920
  | .bool _ => true
  | .none => true
  | .list xs => plainA xs
  | .tuple xs => plainA xs
  | .str _ => false
  | .dict _ => false
def plainA : List PyData → Bool
  | [] => true
  | x :: r => plainD x && plainA r
end
theorem int_len (i : Int) : (toString i : String).length ≤ i.natAbs.log2 + 3 := by
  have := int_text_length_le (a := i) (k := i.natAbs.log2 + 1) (by omega) (by omega)
  omega
mutual
theorem shown_le : ∀ d : PyData, plainD d = true → d.shown.length ≤ shB d ∧ d.showable = true ∧ d.hasDict = false
  | .int i, h => by
    refine ⟨?_, by unfold PyData.showable; exact decide_eq_true (Nat.le_of_ble_eq_true h), rfl⟩
    show (Str.ofString (toString i)).length ≤ _
    rw [PySem.ofString_length]
    exact int_len i
  | .bool b, _ => by
    refine ⟨?_, rfl, rfl⟩
    cases b <;> decide
  | .none, _ => ⟨by decide, rfl, rfl⟩
  | .list xs, h => by
    obtain ⟨h1, h2, h3⟩ := shownA_le xs (by simpa [plainD] using h)
    refine ⟨?_, by simpa [PyData.showable] using h2, by simpa [PyData.hasDict] using h3⟩
    have z := listText_len_le (PyData.shownAll xs)
    show (listText (PyData.shownAll xs)).length ≤ shBA xs + 3
    omega
  | .tuple xs, h => by
    obtain ⟨h1, h2, h3⟩ := shownA_le xs (by simpa [plainD] using h)
    refine ⟨?_, by simpa [PyData.showable] using h2, by simpa [PyData.hasDict] using h3⟩
    have z := tupleText_len_le (PyData.shownAll xs)
    show (tupleText (PyData.shownAll xs)).length ≤ shBA xs + 3
    omega
  | .str _, h => by simp [plainD] at h
  | .dict _, h => by simp [plainD] at h
theorem shownA_le : ∀ ds : List PyData, plainA ds = true → ((PyData.shownAll ds).map (·.length)).sum + 2 * (PyData.shownAll ds).length ≤ shBA ds ∧ PyData.showableAll ds = true ∧ PyData.hasDictAll ds = false
  | [], _ => ⟨by simp [PyData.shownAll, shBA], rfl, rfl⟩
  | x :: r, h => by
    have h' : plainD x = true ∧ plainA r = true := by simpa [plainA] using h
    obtain ⟨a1, a2, a3⟩ := shown_le x h'.1
    obtain ⟨b1, b2, b3⟩ := shownA_le r h'.2
    refine ⟨?_, by simp [PyData.showableAll, a2, b2], by simp [PyData.hasDictAll, a3, b3]⟩
    simp only [PyData.shownAll, List.map_cons, List.sum_cons, List.length_cons, shBA]
    omega
end
mutual
def sm : PyData → PyData → Bool
  | .int i, .int j => i == j
  | .bool a, .bool b => a == b
  | .none, .none => true
  | .list xs, .list ys => smA xs ys
  | .tuple xs, .tuple ys => smA xs ys
  | _, _ => false
def smA : List PyData → List PyData → Bool
  | [], [] => true
  | x :: r, y :: w => sm x y && smA r w
  | _, _ => false
end
mutual
theorem sm_eq : ∀ (d e : PyData), sm d e = true → d = e
  | .int i, e, h => by
    cases e with
    | int j => simp [sm] at h; rw [h]
    | _ => simp [sm] at h
  | .bool i, e, h => by
    cases e with
    | bool j => simp [sm] at h; rw [h]
    | _ => simp [sm] at h
  | .none, e, h => by
    cases e with
    | none => rfl
    | _ => simp [sm] at h
  | .list xs, e, h => by
    cases e with
    | list ys => rw [smA_eq xs ys (by simpa [sm] using h)]
    | _ => simp [sm] at h
  | .tuple xs, e, h => by
    cases e with
    | tuple ys => rw [smA_eq xs ys (by simpa [sm] using h)]
    | _ => simp [sm] at h
  | .str _, e, h => by cases e <;> simp [sm] at h
  | .dict _, e, h => by cases e <;> simp [sm] at h
theorem smA_eq : ∀ (ds es : List PyData), smA ds es = true → ds = es
  | [], [], _ => rfl
  | [], _ :: _, h => by simp [smA] at h
  | _ :: _, [], h => by simp [smA] at h
  | x :: r, y :: w, h => by
    have h' : sm x y = true ∧ smA r w = true := by simpa [smA] using h
    rw [sm_eq x y h'.1, smA_eq r w h'.2]
end
mutual
theorem sm_rfl : ∀ d : PyData, plainD d = true → sm d d = true
  | .int i, _ => by simp [sm]
  | .bool i, _ => by simp [sm]
  | .none, _ => rfl
  | .list xs, h => by simpa [sm] using smA_rfl xs (by simpa [plainD] using h)
  | .tuple xs, h => by simpa [sm] using smA_rfl xs (by simpa [plainD] using h)
  | .str _, h => by simp [plainD] at h
  | .dict _, h => by simp [plainD] at h
theorem smA_rfl : ∀ ds : List PyData, plainA ds = true → smA ds ds = true
  | [], _ => rfl
  | x :: r, h => by
    have h' : plainD x = true ∧ plainA r = true := by simpa [plainA] using h
    simp [smA, sm_rfl x h'.1, smA_rfl r h'.2]
end
/-- fit to be shown -/
def repOk (d : PyData) : Bool := plainD d && (Nat.ble (shB d) 16777216 && Nat.ble d.depth 60)
def rRep (K : PySem.W.Frag) : List V → Hp → VK → Prop := fun xs H Q => ∃ x d, xs = [x] ∧ Dp K H x d ∧ repOk d = true ∧ Q (.str d.shown) H
section
variable {X : Cx}
theorem repOk_ok {d : PyData} (h : repOk d = true) : plainD d = true ∧ d.shown.length ≤ sizeLine ∧ d.showable = true ∧ d.hasDict = false ∧ d.depth ≤ 60 := by
  unfold repOk at h
  have h' := Bool.and_eq_true_iff.mp h
  have h2 := Bool.and_eq_true_iff.mp h'.2
  obtain ⟨a1, a2, a3⟩ := shown_le d h'.1
  exact ⟨h'.1, Nat.le_trans a1 (ble_line h2.1), a2, a3, Nat.le_of_ble_eq_true h2.2⟩
theorem call_rep (hu : X.A.units + 64 < cLine) (hG : X.A.guards = some []) : CallR X (.builtin "repr") (rRep X.K) := by
  intro pins s σ H xs us Q I r h
  obtain ⟨x, d, rfl, hd, hok, q⟩ := h
  obtain ⟨h1, h2, h3, h4, h5⟩ := repOk_ok hok
  cases r with | cons r0 r1 =>
  cases r1
  cases d with
  | int i =>
    cases hd
    obtain ⟨t, rfl⟩ := r0
    exact PySem.P.repr_of_int (by simpa [PyData.showable] using h3) ⟨.str _, H, I.tok _, ⟨_, rfl⟩, q⟩
  | bool b =>
    cases hd
    cases r0
    exact PySem.P.repr_of_bool ⟨.str _, H, I.tok _, ⟨_, rfl⟩, by cases b <;> exact q⟩
  | none =>
    cases hd
    cases r0
    exact PySem.P.repr_of_none ⟨.str _, H, I.tok _, ⟨_, rfl⟩, q⟩
  | list ds =>
    obtain ⟨as, hr⟩ := Dp.reads I _ _ _ hd r0
    cases hd with | lst z1 z2 =>
    cases r0
    exact repr_of_reads' hr h3 (PyData.noDict_hsm h4) hG (by omega) (fun _ _ e => e) (fun h' u tk k => ⟨.str _, H, I.kept (t' := tk) k, ⟨u, rfl⟩, q⟩) h2
  | tuple ds =>
    obtain ⟨as, hr⟩ := Dp.reads I _ _ _ hd r0
    cases hd with | tup z1 z2 =>
    cases r0
    exact repr_of_reads' hr h3 (PyData.noDict_hsm h4) hG (by omega) (fun _ _ e => e) (fun h' u tk k => ⟨.str _, H, I.kept (t' := tk) k, ⟨u, rfl⟩, q⟩) h2
  | str x => simp [plainD] at h1
  | dict x => simp [plainD] at h1
theorem Dr.dp {K : PySem.W.Frag} {G H : Hp} {x : V} {d : PyData} (g : Same G H) (h : Dr K G H x d) : Dp K H x d := by
  rcases h with h | ⟨a, xs, ds, rfl, rfl, h1, h2⟩
  · exact (h.up g).dp
  · exact .lst (Or.inl (Or.inl h1)) (h2.up g).dp
variable {a b : Expr} {pos p1 p2 q1 q2 : Pos} {r1 r2 : En → Option (Rf × En)}
/-- both are the same thing: nothing else is served -/
@[simp] def fRep2 (v : Bool) (f g : En → Option (Rf × En)) : EF := fun ρ => bnd (f ρ) fun x ρ1 => match x.get ρ1 with
  | some d => bnd (g ρ1) fun y ρ2 => match y.get ρ2 with
    | some e => if (sm d e && repOk d) = true then some (.bool v, ρ2) else none
    | none => none
  | none => none
abbrev fRepNe := fRep2 false
abbrev fRepEq := fRep2 true
theorem rep_two {ta tb : TE} {r : R2} {v : Bool} (hr : ∀ (z : Str) (H : Hp) (Q : VK), Q (.bl v) H → r (.str z) (.str z) H Q)
    (qa : ∀ ρ d ρ', r1 ρ = some (d, ρ') → ∀ A F G H σ Q, Rel X.K A F G H ρ σ → (∀ x G' H', Same G G' → Rel X.K A F G' H' ρ' σ → RfOk X.K G' σ x d → Q x H') → ta σ H Q)
    (qb : ∀ ρ d ρ', r2 ρ = some (d, ρ') → ∀ A F G H σ Q, Rel X.K A F G H ρ σ → (∀ x G' H', Same G G' → Rel X.K A F G' H' ρ' σ → RfOk X.K G' σ x d → Q x H') → tb σ H Q) :
    ∀ ρ d ρ', fRep2 v r1 r2 ρ = some (d, ρ') → ∀ A F G H σ Q, Rel X.K A F G H ρ σ → (∀ x G' H', Same G G' → Rel X.K A F G' H' ρ' σ → Dq X.K G' x d → Q x H') →
      tOp r (tCB (rRep X.K) (tCons ta tNil)) (tCB (rRep X.K) (tCons tb tNil)) σ H Q := by
  intro ρ d ρ' h A F G H σ Q R k
  obtain ⟨x, ρ1, h1, h2⟩ := bnd_some h
  split at h2
  · rename_i dx hx
    obtain ⟨y, ρ2, h3, h4⟩ := bnd_some h2
    split at h4
    · rename_i dy hy
      split at h4
      · rename_i hs
        cases h4
        have hs' := Bool.and_eq_true_iff.mp hs
        have e := sm_eq _ _ hs'.1
        subst e
        refine qa ρ x ρ1 h1 A F G H σ _ R fun u G1 H1 s1 R1 z1 => ⟨u, dx, rfl, (z1.dr R1 hx).dp R1.gh, hs'.2, ?_⟩
        refine qb ρ1 y _ h3 A F G1 H1 σ _ R1 fun w G2 H2 s2 R2 z2 => ⟨w, dx, rfl, (z2.dr R2 hy).dp R2.gh, hs'.2, ?_⟩
        exact hr _ _ _ (k _ G2 H2 (s1.trans s2) R2 (.bl v))
      · cases h4
    · cases h4
  · cases h2
theorem pe_rep {t : TE} (hu : X.A.units + 64 < cLine) (hG : X.A.guards = some []) (h : PE X a t) (hg : Gl X "repr") (hm : X.mg "repr" = none) (hs : starEach (a :: []) X.env = (false, eval a X.env) :: starEach [] X.env := by rfl) :
    PE X (.Call (.Name "repr" q1) [a] [] p1) (tCB (rRep X.K) (tCons t tNil)) := pe_callB (call_rep hu hG) hg hm (by decide +kernel) (pa_cons h pa_nil hs) (he := hs)
theorem fe_repNe (hu : X.A.units + 64 < cLine) (hG : X.A.guards = some []) (ha : FR X a r1) (hb : FR X b r2) (hg : Gl X "repr") (hm : X.mg "repr" = none) (hs : starEach (a :: []) X.env = (false, eval a X.env) :: starEach [] X.env := by rfl) (hs2 : starEach (b :: []) X.env = (false, eval b X.env) :: starEach [] X.env := by rfl) :
    FE X (.Compare (.Call (.Name "repr" q1) [a] [] p1) [.NotEq] [.Call (.Name "repr" q2) [b] [] p2] pos) (fRepNe r1 r2) := by
  obtain ⟨ta, pa, qa⟩ := ha
  obtain ⟨tb, pb, qb⟩ := hb
  exact ⟨_, pe_cmpR op_ne (pe_rep hu hG pa hg hm hs) (pe_rep hu hG pb hg hm hs2) (nobehind _ (by decide) (by decide)), rep_two (fun z H Q q => ⟨rfl, by simpa using q⟩) qa qb⟩
theorem ft_repNe (hu : X.A.units + 64 < cLine) (hG : X.A.guards = some []) (ha : FR X a r1) (hb : FR X b r2) (hg : Gl X "repr") (hm : X.mg "repr" = none) (hs : starEach (a :: []) X.env = (false, eval a X.env) :: starEach [] X.env := by rfl) (hs2 : starEach (b :: []) X.env = (false, eval b X.env) :: starEach [] X.env := by rfl) :
    FT X (.Compare (.Call (.Name "repr" q1) [a] [] p1) [.NotEq] [.Call (.Name "repr" q2) [b] [] p2] pos) (fTst (fRepNe r1 r2)) := by
  obtain ⟨ta, pa, qa⟩ := ha
  obtain ⟨tb, pb, qb⟩ := hb
  exact ⟨_, pt_cmpR op_ne (pe_rep hu hG pa hg hm hs) (pe_rep hu hG pb hg hm hs2) (nobehind _ (by decide) (by decide)), tst (rep_two (fun z H Q q => ⟨rfl, by simpa using q⟩) qa qb)⟩
theorem ft_repEq (hu : X.A.units + 64 < cLine) (hG : X.A.guards = some []) (ha : FR X a r1) (hb : FR X b r2) (hg : Gl X "repr") (hm : X.mg "repr" = none) (hs : starEach (a :: []) X.env = (false, eval a X.env) :: starEach [] X.env := by rfl) (hs2 : starEach (b :: []) X.env = (false, eval b X.env) :: starEach [] X.env := by rfl) :
    FT X (.Compare (.Call (.Name "repr" q1) [a] [] p1) [.Eq] [.Call (.Name "repr" q2) [b] [] p2] pos) (fTst (fRepEq r1 r2)) := by
  obtain ⟨ta, pa, qa⟩ := ha
  obtain ⟨tb, pb, qb⟩ := hb
  exact ⟨_, pt_cmpR op_eq (pe_rep hu hG pa hg hm hs) (pe_rep hu hG pb hg hm hs2) (nobehind _ (by decide) (by decide)), tst (rep_two (fun z H Q q => ⟨rfl, by simpa using q⟩) qa qb)⟩
theorem fe_repEq (hu : X.A.units + 64 < cLine) (hG : X.A.guards = some []) (ha : FR X a r1) (hb : FR X b r2) (hg : Gl X "repr") (hm : X.mg "repr" = none) (hs : starEach (a :: []) X.env = (false, eval a X.env) :: starEach [] X.env := by rfl) (hs2 : starEach (b :: []) X.env = (false, eval b X.env) :: starEach [] X.env := by rfl) :
    FE X (.Compare (.Call (.Name "repr" q1) [a] [] p1) [.Eq] [.Call (.Name "repr" q2) [b] [] p2] pos) (fRepEq r1 r2) := by
  obtain ⟨ta, pa, qa⟩ := ha
  obtain ⟨tb, pb, qb⟩ := hb
  exact ⟨_, pe_cmpR op_eq (pe_rep hu hG pa hg hm hs) (pe_rep hu hG pb hg hm hs2) (nobehind _ (by decide) (by decide)), rep_two (fun z H Q q => ⟨rfl, by simpa using q⟩) qa qb⟩
/-! ## powers -/
def powOk (i j : Int) : Bool := decide (0 ≤ j) && (decide (j ≤ 1000000) && Nat.blt i.natAbs 18446744073709551616)
abbrev oPow := oIc powOk fun i j => .int (i ^ j.toNat)
variable {f g : EF}
theorem fe_pow (ha : FE X a f) (hb : FE X b g) : FE X (.BinOp a .Pow b pos) (fOp oPow f g) := fe_op op_pow (of_I (fun i j h => by
  unfold powOk at h
  simp only [Bool.and_eq_true, decide_eq_true_eq] at h
  exact ⟨h.1, h.2.1, Nat.le_of_ble_eq_true h.2.2⟩) fun i j _ => .int _) ha hb
end
end Fe
namespace Fe
open PySem

/-! ## loops, as plain functions -/
def lp1 (g : PyData → En → Option En) (b : SF) (d : PyData) (ρ : En) : Option En := match g d ρ with
  | none => none
  | some ρ1 => match b ρ1 with
    | some (.nx ρ2) => some ρ2
    | some (.ct ρ2) => some ρ2
    | _ => none
theorem lp_cons {g : PyData → En → Option En} {b : SF} {d : PyData} {r : List PyData} {ρ ρ' : En} (h : lp1 g b d ρ = some ρ') : lp g b (d :: r) ρ = lp g b r ρ' := by
  unfold lp1 at h
  show (match g d ρ with | none => none | some ρ1 => match b ρ1 with | some (.nx ρ2) => lp g b r ρ2 | some (.ct ρ2) => lp g b r ρ2 | some (.bk ρ2) => some (.nx ρ2) | some (.rt d ρ2) => some (.rt d ρ2) | none => none) = _
  split at h
  · cases h
  · split at h <;> first | (cases h; simp [*]) | cases h
theorem lp_ind {g : PyData → En → Option En} {b : SF} (P : Nat → En → Prop) : ∀ (ds : List PyData) (k : Nat) (ρ : En), P k ρ →
    (∀ i d ρ, ds[i]? = some d → P (k + i) ρ → ∃ ρ', lp1 g b d ρ = some ρ' ∧ P (k + i + 1) ρ') → ∃ ρ', lp g b ds ρ = some (.nx ρ') ∧ P (k + ds.length) ρ'
  | [], k, ρ, h0, _ => ⟨ρ, rfl, h0⟩
  | d :: r, k, ρ, h0, hs => by
    obtain ⟨ρ1, h1, h2⟩ := hs 0 d ρ rfl h0
    obtain ⟨ρ2, h3, h4⟩ := lp_ind P r (k + 1) ρ1 h2 fun i d ρ e p => by
      have := hs (i + 1) d ρ (by simpa using e) (by rw [show k + (i + 1) = k + 1 + i by omega]; exact p)
      rwa [show k + (i + 1) + 1 = k + 1 + i + 1 by omega] at this
    refine ⟨ρ2, by rw [lp_cons h1]; exact h3, ?_⟩
    rw [List.length_cons, show k + (r.length + 1) = k + 1 + r.length by omega]
    exact h4
theorem lp_list {g : PyData → En → Option En} {b : SF} (P : Nat → En → Prop) {ds : List PyData} {ρ : En} (h0 : P 0 ρ)
    (hs : ∀ i d ρ, ds[i]? = some d → P i ρ → ∃ ρ', lp1 g b d ρ = some ρ' ∧ P (i + 1) ρ') : ∃ ρ', lp g b ds ρ = some (.nx ρ') ∧ P ds.length ρ' := by
  obtain ⟨ρ', h1, h2⟩ := lp_ind P ds 0 ρ h0 fun i d ρ e p => by
    rw [Nat.zero_add] at p ⊢
    exact hs i d ρ e p
  exact ⟨ρ', h1, by rwa [Nat.zero_add] at h2⟩
theorem lp_rng {g : PyData → En → Option En} {b : SF} (P : Nat → En → Prop) {lo : Int} {n : Nat} {ρ : En} (h0 : P 0 ρ)
    (hs : ∀ i ρ, i < n → P i ρ → ∃ ρ', lp1 g b (.int (lo + (i : Nat))) ρ = some ρ' ∧ P (i + 1) ρ') : ∃ ρ', lp g b (rngL lo n) ρ = some (.nx ρ') ∧ P n ρ' := by
  have z := lp_list (g := g) (b := b) P (ds := rngL lo n) h0 fun i d ρ e p => by
    have hi : i < n := by
      have := (List.getElem?_eq_some_iff.mp e).1
      rwa [rngL_len] at this
    rw [rngL_get e]
    exact hs i ρ hi p
  rwa [rngL_len] at z
/-- a comprehension without a test, its element a value by place, nothing drawn -/
theorem cl_map {vs : List Nat} {g : PyData → En → Option En} {e : EF} {ρ : En} : ∀ (ds : List PyData) (f : PyData → PyData), (∀ d ∈ ds, ∃ ρ1 ρ2, g d (wipeE ρ vs) = some ρ1 ∧ e ρ1 = some (f d, ρ2) ∧ wipeE ρ2 vs = wipeE ρ vs) → ∀ ρ0, wipeE ρ0 vs = wipeE ρ vs →
    cl vs g fYes e ds ρ0 = some (ds.map f, wipeE ρ vs)
  | [], f, _, ρ0, h0 => by
    show some ([], wipeE ρ0 vs) = _
    rw [h0]
    rfl
  | d :: r, f, h, ρ0, h0 => by
    obtain ⟨ρ1, ρ2, h1, h2, h3⟩ := h d List.mem_cons_self
    have ih := cl_map r f (fun d hd => h d (List.mem_cons_of_mem _ hd)) ρ2 h3
    show (match g d (wipeE ρ0 vs) with | none => none | some ρ1 => bnd (fYes ρ1) fun k ρ2 => if k = true then bnd (e ρ2) fun y ρ3 => bnd (cl vs g fYes e r ρ3) fun ys ρ4 => some (y :: ys, ρ4) else cl vs g fYes e r ρ2) = _
    rw [h0, h1]
    simp only [fYes, bnd, h2, ih, if_true, List.map_cons]
theorem runF_rt {n m : Nat} {fb : SF} {ds : List PyData} {d : PyData} {ρ : En} (h : fb (start1 m ds) = some (.rt d ρ)) (hn : ds.length = n := by rfl) : runF n m fb ds = some d := by
  subst hn
  unfold runF
  rw [if_pos (beq_self_eq_true _), h]
theorem runS_rt {n m : Nat} {fb : SF} {s s' : Src} {ds : List PyData} {d : PyData} {ρ : En} (h : fb (startS m s ds) = some (.rt d (.src s' :: ρ))) (hn : ds.length + 1 = n := by rfl) : runS n m fb s ds = some (d, s') := by
  subst hn
  unfold runS
  rw [if_pos (beq_self_eq_true _), h]
/-! ## small facts -/
theorem log2_lt {i : Int} {k : Nat} (hk : k ≠ 0) (h : i.natAbs < 2 ^ k) : i.natAbs.log2 < k := by
  by_cases h0 : i.natAbs = 0
  · rw [h0]
    simp
    omega
  · exact (Nat.log2_lt h0).mpr h
theorem mulOk_of {i j : Int} {a b : Nat} (h1 : i.natAbs.log2 ≤ a) (h2 : j.natAbs.log2 ≤ b) (h : a + b < 1000000) : mulOk i j = true := by
  unfold mulOk
  exact Nat.ble_eq_true_of_le (by omega)
theorem divOk_of {j : Int} (h0 : 0 < j) (h : j.natAbs.log2 < 9000) : divOk j = true := by
  unfold divOk
  rw [decide_eq_true h0]
  exact Nat.ble_eq_true_of_le h
theorem modOk_of {j : Int} (h0 : 0 < j) : modOk j = true := decide_eq_true h0
theorem inB_of {j : Int} (h1 : -4611686018427387903 ≤ j) (h2 : j ≤ 4611686018427387903) : inB j = true := Nat.ble_eq_true_of_le (by omega)
@[simp] theorem oEq_int {a b : Int} : oEq (.int a) (.int b) = some (.bool (decide (a = b))) := by
  have e : PyData.eqv (.int a) (.int b) = decide (a = b) := by
    rw [← Bool.beq_eq_decide_eq]
    rfl
  have s : (SeqAt.shaped (.int a) && SeqAt.shaped (.int b)) = true := rfl
  unfold oEq
  rw [if_pos s, e]
@[simp] theorem oNe_int {a b : Int} : oNe (.int a) (.int b) = some (.bool (!decide (a = b))) := by
  have e : PyData.eqv (.int a) (.int b) = decide (a = b) := by
    rw [← Bool.beq_eq_decide_eq]
    rfl
  have s : (SeqAt.shaped (.int a) && SeqAt.shaped (.int b)) = true := rfl
  unfold oNe
  rw [if_pos s, e]
@[simp] theorem intsD_map : ∀ ns : List Int, intsD (ns.map PyData.int) = some ns
  | [] => rfl
  | n :: r => by
    show (match intsD (r.map PyData.int) with | some l => some (n :: l) | none => none) = _
    rw [intsD_map r]
@[simp] theorem boolsD_map : ∀ ns : List Bool, boolsD (ns.map PyData.bool) = some ns
  | [] => rfl
  | n :: r => by
    show (match boolsD (r.map PyData.bool) with | some l => some (n :: l) | none => none) = _
    rw [boolsD_map r]
theorem ixD_nat {ds : List PyData} {n : Nat} : ixD ds (n : Int) = ds[n]? := rfl
theorem ixP_nat {n k : Nat} (h : k < n) : ixP n (k : Int) = some k := by
  show (if Nat.blt k n = true then some k else none) = _
  rw [if_pos (show Nat.blt k n = true from Nat.ble_eq_true_of_le h)]
/-- an item of a list of ints, 0 beyond -/
def iat (l : List Int) (i : Nat) : Int := l.getD i 0
theorem iat_some {l : List Int} {i : Nat} {v : Int} (h : l[i]? = some v) : iat l i = v := by
  unfold iat
  rw [List.getD_eq_getElem?_getD, h]
  rfl
theorem ixD_map {l : List Int} {n : Nat} {z : Int} (hz : z = n) (h : n < l.length) : ixD (l.map PyData.int) z = some (.int (iat l n)) := by
  subst hz
  rw [ixD_nat, List.getElem?_map, List.getElem?_eq_getElem h, iat_some (List.getElem?_eq_getElem h)]
  rfl
theorem ixP_map {l : List Int} {n : Nat} {z : Int} (hz : z = n) (h : n < l.length) : ixP (l.map PyData.int).length z = some n := by
  subst hz
  exact ixP_nat (by rw [List.length_map]; exact h)
theorem setI_map {l : List Int} {n : Nat} {v : Int} : (l.map PyData.int).set n (.int v) = (l.set n v).map PyData.int := by rw [List.map_set]
theorem rep_map {n : Nat} {v : Int} : List.replicate n (PyData.int v) = (List.replicate n v).map PyData.int := by rw [List.map_replicate]
theorem enum_map {row : List Int} {i : Nat} {d : PyData} (h : (enumD 0 (row.map PyData.int))[i]? = some d) : i < row.length ∧ d = .tuple [.int (i : Nat), .int (iat row i)] := by
  obtain ⟨d', h1, h2⟩ := enumD_get h
  rw [List.getElem?_map] at h1
  cases e : row[i]? with
  | none =>
    rw [e] at h1
    cases h1
  | some v =>
    rw [e] at h1
    cases h1
    refine ⟨(List.getElem?_eq_some_iff.mp e).1, ?_⟩
    rw [h2, iat_some e, Nat.zero_add]
/-- a function of natural numbers on ints -/
def mI (f : Nat → Int) : PyData → PyData
  | .int i => .int (f i.toNat)
  | d => d
theorem mI_nat {f : Nat → Int} {i : Nat} : mI f (.int (i : Nat)) = .int (f i) := rfl
theorem mI_rng {n : Nat} {f : Nat → Int} : (rngL 0 n).map (mI f) = ((List.range n).map f).map .int := by
  unfold rngL
  rw [List.map_map, List.map_map]
  refine List.map_congr_left fun i hi => ?_
  show PyData.int (f ((0 : Int) + (i : Nat)).toNat) = PyData.int (f i)
  congr 2
  omega
theorem mem_rng0 {n : Nat} {d : PyData} (h : d ∈ rngL 0 n) : ∃ i : Nat, i < n ∧ d = .int (i : Nat) := by
  unfold rngL at h
  obtain ⟨i, hi, rfl⟩ := List.mem_map.mp h
  exact ⟨i, List.mem_range.mp hi, by rw [Int.zero_add]⟩
end Fe
namespace Fe
theorem bleN0 : Nat.ble 0 16777216 = true := rfl
theorem bleN1 : Nat.ble 1 16777216 = true := rfl
theorem bleN2 : Nat.ble 2 16777216 = true := rfl
theorem bleN3 : Nat.ble 3 16777216 = true := rfl
theorem bleN4 : Nat.ble 4 16777216 = true := rfl
theorem bleN5 : Nat.ble 5 16777216 = true := rfl
theorem bleN6 : Nat.ble 6 16777216 = true := rfl
theorem bleN7 : Nat.ble 7 16777216 = true := rfl
theorem bleN8 : Nat.ble 8 16777216 = true := rfl
theorem bleN9 : Nat.ble 9 16777216 = true := rfl
theorem bleN10 : Nat.ble 10 16777216 = true := rfl
theorem bleN11 : Nat.ble 11 16777216 = true := rfl
theorem bleN12 : Nat.ble 12 16777216 = true := rfl
theorem bleN13 : Nat.ble 13 16777216 = true := rfl
theorem bleN14 : Nat.ble 14 16777216 = true := rfl
theorem bleN15 : Nat.ble 15 16777216 = true := rfl
theorem bleN16 : Nat.ble 16 16777216 = true := rfl
end Fe
namespace Fe
open PySem PySem.Spec PyProof.Rows L2
/-! ## tuples: + and * -/
@[simp] def oCatT : PyData → PyData → Option PyData
  | .tuple ds, .tuple es => if Nat.ble (ds.length + es.length) 16777216 = true then some (.tuple (ds ++ es)) else none
  | _, _ => none
theorem of_catT {K : PySem.W.Frag} : OpF K (rCatA K) oCatT := by
  intro x y d e c q A F G H ρ σ Q R hx hy k
  unfold oCatT at q
  split at q
  · split at q
    · rename_i ds es hz
      cases q
      have hz1 := ble_line hz
      cases hx with | tup q1 q2 =>
      cases hy with | tup w1 w2 =>
      have hl := q2.len
      have hl2 := w2.len
      refine ⟨_, _, _, _, rfl, rfl, sqT_up R.gh q1, sqT_up R.gh w1, by rw [hl, hl2]; exact hz1, fun e0 => ?_, fun _ e0 => ?_, fun _ _ p hp => ?_⟩
      · subst e0
        cases q2
        exact k _ G H (Same.refl G) R (.tup w1 w2)
      · subst e0
        cases w2
        rw [List.append_nil] at k
        exact k _ G H (Same.refl G) R (.tup q1 q2)
      · have g0 := none_of R.gh hp
        exact k _ _ _ (same_new g0) (R.new hp) (.tup (Or.inl (Or.inl upd_same)) ((q2.app w2).up (same_new g0)))
    · cases q
  · cases q
@[simp] def oRepT : PyData → PyData → Option PyData
  | .tuple ds, .int k => if (Nat.blt 0 ds.length && Nat.ble ds.length 1000 && decide (2 ≤ k) && decide (k ≤ 1000)) = true then some (.tuple (List.replicate k.toNat ds).flatten) else none
  | _, _ => none
theorem of_repT {K : PySem.W.Frag} : OpF K (rRepT K) oRepT := by
  intro x y d e c q A F G H ρ σ Q R hx hy k
  unfold oRepT at q
  split at q
  · split at q
    · rename_i ds n hz
      cases q
      simp only [Bool.and_eq_true, decide_eq_true_eq] at hz
      obtain ⟨⟨⟨h1, h2⟩, h3⟩, h4⟩ := hz
      cases hy
      cases hx with | tup q1 q2 =>
      have hl := q2.len
      have h1' : 0 < ds.length := Nat.le_of_ble_eq_true h1
      have h2' : ds.length ≤ 1000 := Nat.le_of_ble_eq_true h2
      refine ⟨_, n, _, rfl, rfl, sqT_up R.gh q1, fun e0 => ?_, h3, h4, by rw [hl]; exact h2', fun p hp => ?_⟩
      · subst e0
        rw [← hl] at h1'
        exact absurd h1' (by simp)
      · have g0 := none_of R.gh hp
        exact k _ _ _ (same_new g0) (R.new hp) (.tup (Or.inl (Or.inl upd_same)) ((q2.rep n.toNat).up (same_new g0)))
    · cases q
  · cases q
section
variable {X : Cx} {e a b c : Expr} {es : List Expr} {pos p p2 : Pos} {f g h : EF} {l : LF} {r r' : En → Option (Rf × En)}
theorem fe_catT (ha : FE X a f) (hb : FE X b g) : FE X (.BinOp a .Add b pos) (fOp oCatT f g) := fe_op op_catA of_catT ha hb
theorem fe_repT (ha : FE X a f) (hb : FE X b g) : FE X (.BinOp a .Mult b pos) (fOp oRepT f g) := fe_op op_repT of_repT ha hb
/-! ## a star in a display -/
@[simp] def fStar (f : En → Option (Rf × En)) (l : LF) : LF := fun ρ => bnd (f ρ) fun x ρ1 => match x.get ρ1 with
  | some (.list ds) => bnd (l ρ1) fun xs ρ2 => some (ds ++ xs, ρ2)
  | some (.tuple ds) => bnd (l ρ1) fun xs ρ2 => some (ds ++ xs, ρ2)
  | _ => none
theorem DqA.app' {K : PySem.W.Frag} {H : Hp} {ds es : List PyData} {vs ws : List V} (h : DqA K H vs ds) (k : DqA K H ws es) : DqA K H (vs ++ ws) (ds ++ es) := h.app k
theorem fa_star (h1 : FR X e r) (h2 : FA X es l) (hs : starEach (.Starred e p :: es) X.env = (true, eval e X.env) :: starEach es X.env := by rfl) : FA X (.Starred e p :: es) (fStar r l) := by
  obtain ⟨t, p, q⟩ := h1
  obtain ⟨t2, p2, q2⟩ := h2
  refine ⟨_, StX.pa_star p p2 hs, fun ρ d ρ' h A F G H σ Q R k => ?_⟩
  obtain ⟨x, ρ1, h3, h4⟩ := bnd_some h
  refine q ρ x _ h3 A F G H σ _ R fun y G' H' s r z => ?_
  split at h4
  · rename_i ds hd
    obtain ⟨xs, ρ2, h5, h6⟩ := bnd_some h4
    cases h6
    obtain ⟨a, vs, rfl, w1, w2⟩ := (z.dr r hd).sq r.gh
    exact ⟨a, vs, rfl, Or.inr (Or.inl (Or.inl w1)), q2 _ _ _ h5 A F G' H' σ _ r fun ys G2 H2 s2 r2 z2 => k _ G2 H2 (s.trans s2) r2 ((w2.up s2).app z2)⟩
  · rename_i ds hd
    obtain ⟨xs, ρ2, h5, h6⟩ := bnd_some h4
    cases h6
    obtain ⟨a, vs, rfl, w1, w2⟩ := (z.dr r hd).st r.gh
    exact ⟨a, vs, rfl, Or.inl w1, q2 _ _ _ h5 A F G' H' σ _ r fun ys G2 H2 s2 r2 z2 => k _ G2 H2 (s.trans s2) r2 ((w2.up s2).app z2)⟩
  · cases h4
/-! ## slices -/
abbrev OF := En → Option (Option Int × En)
def FO (X : Cx) (e : Option Expr) (f : OF) : Prop := ∃ t, PO X e t ∧ ∀ ρ d ρ', f ρ = some (d, ρ') → ∀ A F G H σ Q, Rel X.K A F G H ρ σ →
  (∀ G' H', Same G G' → Rel X.K A F G' H' ρ' σ → Q d H') → t σ H Q
@[simp] def oNn : OF := fun ρ => some (none, ρ)
@[simp] def oSm (f : EF) : OF := fun ρ => bnd (f ρ) fun x ρ1 => match x with
  | .int i => some (some i, ρ1)
  | _ => none
theorem fo_none : FO X none oNn := by
  refine ⟨_, po_none, fun ρ d ρ' h A F G H σ Q R k => ?_⟩
  cases h
  exact k G H (Same.refl G) R
theorem fo_some (h : FE X e f) : FO X (some e) (oSm f) := by
  obtain ⟨t, p, q⟩ := h
  refine ⟨_, po_some p, fun ρ d ρ' h A F G H σ Q R k => ?_⟩
  obtain ⟨x, ρ1, h3, h4⟩ := bnd_some h
  split at h4
  · cases h4
    refine q ρ _ _ h3 A F G H σ _ R fun y G' H' s r z => ?_
    cases z
    exact ⟨_, rfl, k G' H' s r⟩
  · cases h4
@[simp] def sIxD (n d : Nat) : Option Int → Nat
  | none => d
  | some v => if v < 0 then (v + (n : Int)).toNat else min v.toNat n
@[simp] def cutD (ds : List PyData) (lo hi : Option Int) : List PyData := (ds.drop (sIxD ds.length 0 lo)).take (sIxD ds.length ds.length hi - sIxD ds.length 0 lo)
theorem sIxD_eq (n d : Nat) (o : Option Int) : sIxD n d o = HT.sIx n d o := by
  cases o <;> rfl
theorem DqA.dropN {K : PySem.W.Frag} {H : Hp} : ∀ {ds : List PyData} {vs : List V} (n : Nat), DqA K H vs ds → DqA K H (vs.drop n) (ds.drop n)
  | _, _, 0, h => h
  | [], _, n + 1, h => by
    cases h
    exact .nil
  | d :: r, _, n + 1, h => by
    cases h with | cons q w => exact DqA.dropN n w
theorem DqA.takeN {K : PySem.W.Frag} {H : Hp} : ∀ {ds : List PyData} {vs : List V} (n : Nat), DqA K H vs ds → DqA K H (vs.take n) (ds.take n)
  | _, _, 0, h => .nil
  | [], _, n + 1, h => by
    cases h
    exact .nil
  | d :: r, _, n + 1, h => by
    cases h with | cons q w => exact .cons q (DqA.takeN n w)
theorem DqA.cut {K : PySem.W.Frag} {H : Hp} {ds : List PyData} {vs : List V} (h : DqA K H vs ds) (lo hi : Option Int) : DqA K H (cutV vs lo hi) (cutD ds lo hi) := by
  unfold cutV cutD
  rw [sIxD_eq, sIxD_eq, ← h.len]
  exact (h.dropN _).takeN _
theorem DqA.rev {K : PySem.W.Frag} {H : Hp} : ∀ {ds : List PyData} {vs : List V}, DqA K H vs ds → DqA K H vs.reverse ds.reverse
  | [], _, h => by
    cases h
    exact .nil
  | d :: r, _, h => by
    cases h with | cons q w =>
    rw [List.reverse_cons, List.reverse_cons]
    exact (DqA.rev w).app (.cons q .nil)
@[simp] def fSlL (f : En → Option (Rf × En)) (lo hi : OF) : LF := fun ρ => bnd (f ρ) fun x ρ1 => bnd (lo ρ1) fun i ρ2 => bnd (hi ρ2) fun j ρ3 => match x.get ρ3 with
  | some (.list ds) => if Nat.ble ds.length 16777216 = true then some (cutD ds i j, ρ3) else none
  | _ => none
@[simp] def fSlT (f : En → Option (Rf × En)) (lo hi : OF) : EF := fun ρ => bnd (f ρ) fun x ρ1 => bnd (lo ρ1) fun i ρ2 => bnd (hi ρ2) fun j ρ3 => match x.get ρ3 with
  | some (.tuple ds) => if (Nat.beq (sIxD ds.length 0 i) 0 && Nat.beq (sIxD ds.length ds.length j) ds.length) = true then none else some (.tuple (cutD ds i j), ρ3)
  | _ => none
variable {lo hi : Option Expr} {fl fh : OF}
theorem fl_sl (he : FR X e r) (h1 : FO X lo fl) (h2 : FO X hi fh) : FL X (.Subscript e (.Slice lo hi none p2) pos) (fSlL r fl fh) := by
  obtain ⟨t, p, q⟩ := he
  obtain ⟨t1, p1, q1⟩ := h1
  obtain ⟨t2, p2, q2⟩ := h2
  refine ⟨_, pe_slice sl_list p p1 p2, fun ρ d ρ' h A F G H σ Q R k => ?_⟩
  obtain ⟨x, ρ1, h3, h4⟩ := bnd_some h
  obtain ⟨i, ρ2, h5, h6⟩ := bnd_some h4
  obtain ⟨j, ρ3, h7, h8⟩ := bnd_some h6
  refine q ρ x _ h3 A F G H σ _ R fun y G1 H1 s1 r1 z1 => ?_
  refine q1 _ _ _ h5 A F G1 H1 σ _ r1 fun G2 H2 s2 r2 => ?_
  refine q2 _ _ _ h7 A F G2 H2 σ _ r2 fun G3 H3 s3 r3 => ?_
  split at h8
  · rename_i ds hd
    split at h8
    · rename_i hz
      cases h8
      obtain ⟨a, vs, rfl, w1, w2⟩ := (((z1.up s2).up s3).dr r3 hd).sq r3.gh
      refine ⟨a, vs, rfl, Or.inl (Or.inl w1), fun l hl => ?_⟩
      refine k l _ G3 _ (none_of r3.fh hl) ((s1.trans s2).trans s3) (r3.newF hl) (w2.cut _ _) ?_
      have := cutV_length vs i j
      have hl2 := w2.len
      have := ble_line hz
      omega
    · cases h8
  · cases h8
theorem fe_slT (he : FR X e r) (h1 : FO X lo fl) (h2 : FO X hi fh) : FE X (.Subscript e (.Slice lo hi none p2) pos) (fSlT r fl fh) := by
  obtain ⟨t, p, q⟩ := he
  obtain ⟨t1, p1, q1⟩ := h1
  obtain ⟨t2, p2, q2⟩ := h2
  refine ⟨_, pe_slice sl_tup p p1 p2, fun ρ d ρ' h A F G H σ Q R k => ?_⟩
  obtain ⟨x, ρ1, h3, h4⟩ := bnd_some h
  obtain ⟨i, ρ2, h5, h6⟩ := bnd_some h4
  obtain ⟨j, ρ3, h7, h8⟩ := bnd_some h6
  refine q ρ x _ h3 A F G H σ _ R fun y G1 H1 s1 r1 z1 => ?_
  refine q1 _ _ _ h5 A F G1 H1 σ _ r1 fun G2 H2 s2 r2 => ?_
  refine q2 _ _ _ h7 A F G2 H2 σ _ r2 fun G3 H3 s3 r3 => ?_
  split at h8
  · rename_i ds hd
    split at h8
    · cases h8
    · rename_i hz
      cases h8
      obtain ⟨a, vs, rfl, w1, w2⟩ := (((z1.up s2).up s3).dr r3 hd).st r3.gh
      refine ⟨a, vs, rfl, w1, fun z => hz ?_, fun p hp => ?_⟩
      · rw [sIxD_eq, sIxD_eq, ← w2.len, z.1, z.2, Nat.beq_refl, Nat.beq_refl]
        rfl
      · have g0 := none_of r3.gh hp
        exact k _ _ _ (((s1.trans s2).trans s3).trans (same_new g0)) (r3.new hp) (.tup (Or.inl (Or.inl upd_same)) ((w2.cut _ _).up (same_new g0)))
  · cases h8
@[simp] def fRev (f : En → Option (Rf × En)) : LF := fun ρ => bnd (f ρ) fun x ρ1 => match x.get ρ1 with
  | some (.list ds) => if Nat.ble ds.length 16777216 = true then some (ds.reverse, ρ1) else none
  | _ => none
theorem fl_rev {k1 : Nat} {p1 p3 p4 : Pos} (he : FR X e r) : FL X (.Subscript e (.Slice none none (some (.UnaryOp .USub (.Constant (.int 1) k1 p1) p2)) p3) pos) (fRev r) := by
  obtain ⟨t, p, q⟩ := he
  refine ⟨_, pe_revL p, fun ρ d ρ' h A F G H σ Q R k => ?_⟩
  obtain ⟨x, ρ1, h3, h8⟩ := bnd_some h
  refine q ρ x _ h3 A F G H σ _ R fun y G1 H1 s1 r1 z1 => ?_
  split at h8
  · rename_i ds hd
    split at h8
    · rename_i hz
      cases h8
      obtain ⟨a, vs, rfl, w1, w2⟩ := (z1.dr r1 hd).sq r1.gh
      refine ⟨a, vs, rfl, Or.inl (Or.inl w1), fun l hl => ?_⟩
      exact k l _ G1 _ (none_of r1.fh hl) s1 (r1.newF hl) w2.rev (by rw [List.length_reverse, w2.len]; exact ble_line hz)
    · cases h8
  · cases h8
/-! ## in, not in -/
/-- an operator of two values that are read: the second may be a list that changes later -/
@[simp] def fOpR (o : PyData → PyData → Option PyData) (f g : En → Option (Rf × En)) : EF := fun ρ => bnd (f ρ) fun x ρ1 => bnd (g ρ1) fun y ρ2 => match x.get ρ2, y.get ρ2 with
  | some d, some e => ret ρ2 (o d e)
  | _, _ => none
def OpFR (K : PySem.W.Frag) (r : R2) (o : PyData → PyData → Option PyData) : Prop := ∀ x y d e c, o d e = some c → ∀ A F G H ρ σ Q, Rel K A F G H ρ σ → Dr K G H x d → Dr K G H y e →
  (∀ z G' H', Same G G' → Rel K A F G' H' ρ σ → Dq K G' z c → Q z H') → r x y H Q
theorem twoR {ta tb : TE} {rr : R2} {o : PyData → PyData → Option PyData} (ho : OpFR X.K rr o)
    (ha : ∀ ρ d ρ', r ρ = some (d, ρ') → ∀ A F G H σ Q, Rel X.K A F G H ρ σ → (∀ x G' H', Same G G' → Rel X.K A F G' H' ρ' σ → RfOk X.K G' σ x d → Q x H') → ta σ H Q)
    (hb : ∀ ρ d ρ', r' ρ = some (d, ρ') → ∀ A F G H σ Q, Rel X.K A F G H ρ σ → (∀ x G' H', Same G G' → Rel X.K A F G' H' ρ' σ → RfOk X.K G' σ x d → Q x H') → tb σ H Q) :
    ∀ ρ d ρ', fOpR o r r' ρ = some (d, ρ') → ∀ A F G H σ Q, Rel X.K A F G H ρ σ → (∀ x G' H', Same G G' → Rel X.K A F G' H' ρ' σ → Dq X.K G' x d → Q x H') → tOp rr ta tb σ H Q := by
  intro ρ d ρ' h A F G H σ Q R k
  obtain ⟨x, ρ1, h1, h2⟩ := bnd_some h
  obtain ⟨y, ρ2, h3, h4⟩ := bnd_some h2
  refine ha ρ x ρ1 h1 A F G H σ _ R fun u G1 H1 s1 R1 d1 => ?_
  refine hb ρ1 y _ h3 A F G1 H1 σ _ R1 fun v G2 H2 s2 R2 d2 => ?_
  split at h4
  · rename_i dx dy hx hy
    obtain ⟨h5, rfl⟩ := ret_some h4
    exact ho u v _ _ d h5 A F G2 H2 _ σ Q R2 ((d1.up s2).dr R2 hx) (d2.dr R2 hy) fun z G3 H3 s3 R3 d3 => k z G3 H3 ((s1.trans s2).trans s3) R3 d3
  · cases h4
theorem fe_opR {op : CmpOp} {rr : R2} {o : PyData → PyData → Option PyData} (ho : OpR X (compareOp op) rr) (hf : OpFR X.K rr o) (ha : FR X a r) (hb : FR X b r') (hm : behindInMarks op b = false) : FE X (.Compare a [op] [b] pos) (fOpR o r r') := by
  obtain ⟨ta, pa, qa⟩ := ha
  obtain ⟨tb, pb, qb⟩ := hb
  exact ⟨_, pe_cmpR ho pa pb hm, twoR hf qa qb⟩
theorem ft_opR {op : CmpOp} {rr : R2} {o : PyData → PyData → Option PyData} (ho : OpR X (compareOp op) rr) (hf : OpFR X.K rr o) (ha : FR X a r) (hb : FR X b r') (hm : behindInMarks op b = false) : FT X (.Compare a [op] [b] pos) (fTst (fOpR o r r')) := by
  obtain ⟨ta, pa, qa⟩ := ha
  obtain ⟨tb, pb, qb⟩ := hb
  exact ⟨_, pt_cmpR ho pa pb hm, tst (twoR hf qa qb)⟩
theorem ofr_eq {K : PySem.W.Frag} : OpFR K (rEqD K) oEq := by
  intro x y d e c q A F G H ρ σ Q R hx hy k
  unfold oEq at q
  split at q
  · rename_i hs
    cases q
    have hs' := Bool.and_eq_true_iff.mp hs
    exact ⟨d, e, hx.dp R.gh, hy.dp R.gh, hs'.1, hs'.2, k _ G H (Same.refl G) R (.bl _)⟩
  · cases q
theorem ofr_ne {K : PySem.W.Frag} : OpFR K (rNeD K) oNe := by
  intro x y d e c q A F G H ρ σ Q R hx hy k
  unfold oNe at q
  split at q
  · rename_i hs
    cases q
    have hs' := Bool.and_eq_true_iff.mp hs
    exact ⟨d, e, hx.dp R.gh, hy.dp R.gh, hs'.1, hs'.2, k _ G H (Same.refl G) R (.bl _)⟩
  · cases q
theorem fe_eqR (hu : X.A.units + 64 < cLine) (ha : FR X a r) (hb : FR X b r') : FE X (.Compare a [.Eq] [b] pos) (fOpR oEq r r') := fe_opR (op_eqD hu) ofr_eq ha hb (nobehind _ (by decide) (by decide))
theorem fe_neR (hu : X.A.units + 64 < cLine) (ha : FR X a r) (hb : FR X b r') : FE X (.Compare a [.NotEq] [b] pos) (fOpR oNe r r') := fe_opR (op_neD hu) ofr_ne ha hb (nobehind _ (by decide) (by decide))
theorem ft_eqR (hu : X.A.units + 64 < cLine) (ha : FR X a r) (hb : FR X b r') : FT X (.Compare a [.Eq] [b] pos) (fTst (fOpR oEq r r')) := ft_opR (op_eqD hu) ofr_eq ha hb (nobehind _ (by decide) (by decide))
theorem ft_neR (hu : X.A.units + 64 < cLine) (ha : FR X a r) (hb : FR X b r') : FT X (.Compare a [.NotEq] [b] pos) (fTst (fOpR oNe r r')) := ft_opR (op_neD hu) ofr_ne ha hb (nobehind _ (by decide) (by decide))
end
end Fe
namespace Fe
open PySem PySem.Spec PyProof.Rows L2
/-! ## in, not in -/
def flatD : PyData → Bool
  | .none => true
  | .bool _ => true
  | .int _ => true
  | .str _ => true
  | _ => false
def oIn (d e : PyData) : Option PyData := match e with
  | .list ds => if (SeqAt.shaped d && SeqAt.shaped (.list ds)) = true then some (.bool (ds.any fun z => PyData.eqv z d)) else none
  | .tuple ds => if (flatD d && ds.all flatD) = true then some (.bool (ds.any fun z => PyData.eqv z d)) else none
  | _ => none
def oNotIn (d e : PyData) : Option PyData := match e with
  | .list ds => if (SeqAt.shaped d && SeqAt.shaped (.list ds)) = true then some (.bool (!ds.any fun z => PyData.eqv z d)) else none
  | .tuple ds => if (flatD d && ds.all flatD) = true then some (.bool (!ds.any fun z => PyData.eqv z d)) else none
  | _ => none
section
variable {K : PySem.W.Frag} {G H : Hp}
theorem Dq.flat {x : V} {d : PyData} (h : Dq K H x d) (e : flatD d = true) : flatV x = true := by
  cases h <;> first | rfl | cases e
theorem DqA.flats : ∀ {ds : List PyData} {vs : List V}, DqA K H vs ds → ds.all flatD = true → vs.all flatV = true
  | [], _, h, _ => by
    cases h
    rfl
  | d :: r, _, h, e => by
    cases h with | cons q w =>
    rw [List.all_cons, Bool.and_eq_true] at e ⊢
    exact ⟨q.flat e.1, DqA.flats w e.2⟩
theorem eqv_flat {x y : V} {d e : PyData} (h : Dq K H x d) (k : Dq K H y e) (f : flatD d = true) (g : flatD e = true) : eqV x y = PyData.eqv d e := by
  cases h <;> cases k <;> first | (cases f; done) | (cases g; done) | rfl
theorem inV_flat {x : V} {d : PyData} (h : Dq K H x d) (f : flatD d = true) : ∀ {ds : List PyData} {vs : List V}, DqA K H vs ds → ds.all flatD = true → inV x vs = ds.any fun z => PyData.eqv z d
  | [], _, h', _ => by
    cases h'
    rfl
  | e :: r, _, h', k => by
    cases h' with | cons q w =>
    rw [List.all_cons, Bool.and_eq_true] at k
    show (eqV _ x || inV x _) = (PyData.eqv e d || _)
    rw [eqv_flat q h k.1 f, inV_flat h f w k.2]
end
section
variable {X : Cx} {e a b c : Expr} {pos p p2 : Pos} {f g h : EF} {r r' : En → Option (Rf × En)}
theorem ofr_in {K : PySem.W.Frag} : OpFR K (fun x y H Q => rInD K x y H Q ∨ rIn K false x y H Q) oIn := by
  intro x y d e c q A F G H ρ σ Q R hx hy k
  unfold oIn at q
  split at q
  · split at q
    · rename_i ds hs
      cases q
      have hs' := Bool.and_eq_true_iff.mp hs
      exact Or.inl ⟨d, ds, hx.dp R.gh, hy.dp R.gh, hs'.1, hs'.2, k _ G H (Same.refl G) R (.bl _)⟩
    · cases q
  · split at q
    · rename_i ds hs
      cases q
      have hs' := Bool.and_eq_true_iff.mp hs
      obtain ⟨p, xs, rfl, h1, h2⟩ := hy.st R.gh
      have hx' : Dq K G x d := by
        rcases hx with hx | ⟨_, _, _, _, rfl, _⟩
        · exact hx
        · cases hs'.1
      refine Or.inr ⟨p, xs, rfl, Or.inr h1, hx'.flat hs'.1, h2.flats hs'.2, ?_⟩
      rw [if_neg (by decide), inV_flat hx' hs'.1 h2 hs'.2]
      exact k _ G H (Same.refl G) R (.bl _)
    · cases q
  · cases q
theorem ofr_notIn {K : PySem.W.Frag} : OpFR K (fun x y H Q => rNotInD K x y H Q ∨ rIn K true x y H Q) oNotIn := by
  intro x y d e c q A F G H ρ σ Q R hx hy k
  unfold oNotIn at q
  split at q
  · split at q
    · rename_i ds hs
      cases q
      have hs' := Bool.and_eq_true_iff.mp hs
      exact Or.inl ⟨d, ds, hx.dp R.gh, hy.dp R.gh, hs'.1, hs'.2, k _ G H (Same.refl G) R (.bl _)⟩
    · cases q
  · split at q
    · rename_i ds hs
      cases q
      have hs' := Bool.and_eq_true_iff.mp hs
      obtain ⟨p, xs, rfl, h1, h2⟩ := hy.st R.gh
      have hx' : Dq K G x d := by
        rcases hx with hx | ⟨_, _, _, _, rfl, _⟩
        · exact hx
        · cases hs'.1
      refine Or.inr ⟨p, xs, rfl, Or.inr h1, hx'.flat hs'.1, h2.flats hs'.2, ?_⟩
      rw [if_pos rfl, inV_flat hx' hs'.1 h2 hs'.2]
      exact k _ G H (Same.refl G) R (.bl _)
    · cases q
  · cases q
theorem op_inF (hu : X.A.units + 65 < cLine) : OpR X (compareOp .In) (fun x y H Q => rInD X.K x y H Q ∨ rIn X.K false x y H Q) := (op_inD hu).or op_in_seq
theorem op_notInF (hu : X.A.units + 65 < cLine) : OpR X (compareOp .NotIn) (fun x y H Q => rNotInD X.K x y H Q ∨ rIn X.K true x y H Q) := (op_notInD hu).or op_notIn_seq
theorem fe_in (hu : X.A.units + 65 < cLine) (ha : FR X a r) (hb : FR X b r') (hm : behindInMarks .In b = false := by rfl) : FE X (.Compare a [.In] [b] pos) (fOpR oIn r r') := fe_opR (op_inF hu) ofr_in ha hb hm
theorem ft_in (hu : X.A.units + 65 < cLine) (ha : FR X a r) (hb : FR X b r') (hm : behindInMarks .In b = false := by rfl) : FT X (.Compare a [.In] [b] pos) (fTst (fOpR oIn r r')) := ft_opR (op_inF hu) ofr_in ha hb hm
theorem fe_notIn (hu : X.A.units + 65 < cLine) (ha : FR X a r) (hb : FR X b r') (hm : behindInMarks .NotIn b = false := by rfl) : FE X (.Compare a [.NotIn] [b] pos) (fOpR oNotIn r r') := fe_opR (op_notInF hu) ofr_notIn ha hb hm
theorem ft_notIn (hu : X.A.units + 65 < cLine) (ha : FR X a r) (hb : FR X b r') (hm : behindInMarks .NotIn b = false := by rfl) : FT X (.Compare a [.NotIn] [b] pos) (fTst (fOpR oNotIn r r')) := ft_opR (op_notInF hu) ofr_notIn ha hb hm
/-! ## is True, is False -/
@[simp] def oIsB : PyData → PyData → Option PyData
  | .bool i, .bool j => some (.bool (decide (i = j)))
  | _, _ => none
@[simp] def oNotB : PyData → PyData → Option PyData
  | .bool i, .bool j => some (.bool (!decide (i = j)))
  | _, _ => none
theorem of_isB {K : PySem.W.Frag} : OpF K rIsB oIsB := by
  intro x y d e c q A F G H ρ σ Q R hx hy k
  unfold oIsB at q
  split at q
  · cases q
    cases hx
    cases hy
    exact ⟨_, _, rfl, rfl, k _ G H (Same.refl G) R (.bl _)⟩
  · cases q
theorem of_notB {K : PySem.W.Frag} : OpF K rNotB oNotB := by
  intro x y d e c q A F G H ρ σ Q R hx hy k
  unfold oNotB at q
  split at q
  · cases q
    cases hx
    cases hy
    exact ⟨_, _, rfl, rfl, k _ G H (Same.refl G) R (.bl _)⟩
  · cases q
theorem fe_isB (ha : FE X a f) (hb : FE X b g) : FE X (.Compare a [.Is] [b] pos) (fOp oIsB f g) := fe_cmp op_isBl of_isB ha hb (nobehind _ (by decide) (by decide))
theorem fe_notB (ha : FE X a f) (hb : FE X b g) : FE X (.Compare a [.IsNot] [b] pos) (fOp oNotB f g) := fe_cmp op_notBl of_notB ha hb (nobehind _ (by decide) (by decide))
theorem ft_isB (ha : FE X a f) (hb : FE X b g) : FT X (.Compare a [.Is] [b] pos) (fTst (fOp oIsB f g)) := ft_cmp op_isBl of_isB ha hb (nobehind _ (by decide) (by decide))
theorem ft_notB (ha : FE X a f) (hb : FE X b g) : FT X (.Compare a [.IsNot] [b] pos) (fTst (fOp oNotB f g)) := ft_cmp op_notBl of_notB ha hb (nobehind _ (by decide) (by decide))
/-! ## a < b < c -/
@[simp] def fChain (o o' : PyData → PyData → Option PyData) (f g h : EF) : EF := fun ρ => bnd (f ρ) fun x ρ1 => bnd (g ρ1) fun y ρ2 => match o x y with
  | some (.bool true) => bnd (h ρ2) fun z ρ3 => ret ρ3 (o' y z)
  | some (.bool false) => some (.bool false, ρ2)
  | _ => none
theorem chn {ta tb tc : TE} {r1 r2 : R2} {o o' : PyData → PyData → Option PyData} (ho : OpF X.K r1 o) (ho' : OpF X.K r2 o')
    (ha : ∀ ρ d ρ', f ρ = some (d, ρ') → ∀ A F G H σ Q, Rel X.K A F G H ρ σ → (∀ x G' H', Same G G' → Rel X.K A F G' H' ρ' σ → Dq X.K G' x d → Q x H') → ta σ H Q)
    (hb : ∀ ρ d ρ', g ρ = some (d, ρ') → ∀ A F G H σ Q, Rel X.K A F G H ρ σ → (∀ x G' H', Same G G' → Rel X.K A F G' H' ρ' σ → Dq X.K G' x d → Q x H') → tb σ H Q)
    (hc : ∀ ρ d ρ', h ρ = some (d, ρ') → ∀ A F G H σ Q, Rel X.K A F G H ρ σ → (∀ x G' H', Same G G' → Rel X.K A F G' H' ρ' σ → Dq X.K G' x d → Q x H') → tc σ H Q) :
    ∀ ρ d ρ', fChain o o' f g h ρ = some (d, ρ') → ∀ A F G H σ Q, Rel X.K A F G H ρ σ → (∀ x G' H', Same G G' → Rel X.K A F G' H' ρ' σ → Dq X.K G' x d → Q x H') → tChain r1 r2 ta tb tc σ H Q := by
  intro ρ d ρ' h A F G H σ Q R k
  obtain ⟨x, ρ1, h1, h2⟩ := bnd_some h
  obtain ⟨y, ρ2, h3, h4⟩ := bnd_some h2
  refine ha ρ x ρ1 h1 A F G H σ _ R fun u G1 H1 s1 R1 d1 => ?_
  refine hb ρ1 y _ h3 A F G1 H1 σ _ R1 fun v G2 H2 s2 R2 d2 => ?_
  split at h4
  · rename_i h5
    refine ho u v x y _ h5 A F G2 H2 _ σ _ R2 (d1.up s2) d2 fun z G3 H3 s3 R3 d3 => ?_
    cases d3
    refine ⟨true, rfl, ?_⟩
    rw [if_pos rfl]
    obtain ⟨z, ρ3, h6, h7⟩ := bnd_some h4
    obtain ⟨h8, rfl⟩ := ret_some h7
    refine hc ρ2 z _ h6 A F G3 H3 σ _ R3 fun w G4 H4 s4 R4 d4 => ?_
    exact ho' v w y z d h8 A F G4 H4 _ σ Q R4 ((d2.up s3).up s4) d4 fun z G5 H5 s5 R5 d5 => k z G5 H5 ((((s1.trans s2).trans s3).trans s4).trans s5) R5 d5
  · rename_i h5
    cases h4
    refine ho u v x y _ h5 A F G2 H2 _ σ _ R2 (d1.up s2) d2 fun z G3 H3 s3 R3 d3 => ?_
    cases d3
    refine ⟨false, rfl, ?_⟩
    rw [if_neg (by decide)]
    exact k _ G3 H3 ((s1.trans s2).trans s3) R3 (.bl false)
  · cases h4
theorem fe_chain {op op' : CmpOp} {r1 r2 : R2} {o o' : PyData → PyData → Option PyData} (ho : OpR X (compareOp op) r1) (hf : OpF X.K r1 o) (ho' : OpR X (compareOp op') r2) (hf' : OpF X.K r2 o') (ha : FE X a f) (hb : FE X b g) (hc : FE X c h)
    (hm : lastMarks [op, op'] [b, c] = false := by with_unfolding_all rfl) : FE X (.Compare a [op, op'] [b, c] pos) (fChain o o' f g h) := by
  obtain ⟨ta, pa, qa⟩ := ha
  obtain ⟨tb, pb, qb⟩ := hb
  obtain ⟨tc, pc, qc⟩ := hc
  exact ⟨_, pe_chain ho ho' pa pb pc hm, chn hf hf' qa qb qc⟩
theorem ft_chain {op op' : CmpOp} {r1 r2 : R2} {o o' : PyData → PyData → Option PyData} (ho : OpR X (compareOp op) r1) (hf : OpF X.K r1 o) (ho' : OpR X (compareOp op') r2) (hf' : OpF X.K r2 o') (ha : FE X a f) (hb : FE X b g) (hc : FE X c h)
    (hm : lastMarks [op, op'] [b, c] = false := by with_unfolding_all rfl) : FT X (.Compare a [op, op'] [b, c] pos) (fTst (fChain o o' f g h)) := by
  obtain ⟨ta, pa, qa⟩ := ha
  obtain ⟨tb, pb, qb⟩ := hb
  obtain ⟨tc, pc, qc⟩ := hc
  exact ⟨_, pt_chain ho ho' pa pb pc hm, tst (chn hf hf' qa qb qc)⟩
theorem of_lt {K : PySem.W.Frag} : OpF K (rI0 fun i j => .bl (decide (i < j))) oLt := of_I0 fun i j _ => .bl _
theorem of_le {K : PySem.W.Frag} : OpF K (rI0 fun i j => .bl (decide (i ≤ j))) oLe := of_I0 fun i j _ => .bl _
theorem of_gt {K : PySem.W.Frag} : OpF K (rI0 fun i j => .bl (decide (j < i))) oGt := of_I0 fun i j _ => .bl _
theorem of_ge {K : PySem.W.Frag} : OpF K (rI0 fun i j => .bl (decide (j ≤ i))) oGe := of_I0 fun i j _ => .bl _
end
end Fe
namespace Fe
open PySem PySem.Spec PyProof.Rows L2
/-- the pick with other numbers that keeps mixed -/
def pickC (k1 k2 : Int) (s : Src) (m : Int) : Int × Src :=
  if m < 2 then (0, s) else if 1 < (popA s).1 then ((popA s).1 % m, ⟨(popA s).2, (popA s).1 / m, s.mixed, s.turn⟩) else (turnA s k1 k2 / 16 % m, ⟨(popA s).2, (popA s).1, s.mixed, s.turn + 1⟩)
theorem pickC_rng (k1 k2 : Int) (s : Src) {m : Int} (h : 0 < m) : 0 ≤ (pickC k1 k2 s m).1 ∧ (pickC k1 k2 s m).1 < m := by
  unfold pickC
  split
  · exact ⟨Int.le_refl 0, h⟩
  · split <;> exact ⟨Int.emod_nonneg _ (by omega), Int.emod_lt_of_pos _ h⟩
theorem int_at {ns : List Int} {i : Nat} {y : V} (h : (ns.map V.int)[i]? = some y) : ∃ z, y = V.int z := by
  rw [List.getElem?_map] at h
  cases e : ns[i]? with
  | none =>
    rw [e] at h
    cases h
  | some z =>
    rw [e] at h
    exact ⟨z, (Option.some.inj h).symm⟩
/-! ## a, b = x, y with lists of their own -/
section
variable {X : Cx} {a b : Expr} {f g : EF} {l m : LF}
@[simp] def sParO1 (i j : Nat) (l : LF) (g : EF) : SF := fun ρ => bnd (l ρ) fun x ρ1 => bnd (g ρ1) fun y ρ2 => some (.nx ((ρ2.set i (.own x)).set j (.v y)))
@[simp] def sParO2 (i j : Nat) (f : EF) (m : LF) : SF := fun ρ => bnd (f ρ) fun x ρ1 => bnd (m ρ1) fun y ρ2 => some (.nx ((ρ2.set i (.v x)).set j (.own y)))
@[simp] def sParO3 (i j : Nat) (l m : LF) : SF := fun ρ => bnd (l ρ) fun x ρ1 => bnd (m ρ1) fun y ρ2 => some (.nx ((ρ2.set j (.own y)).set i (.own x)))
theorem fs_parO1 {st : Stmt} {i j : Nat} (mk : ∀ t u, PE X a t → PE X b u → PS X st (tPar i j (tCons t (tCons u tNil)))) (ha : FL X a l) (hb : FE X b g) : FS X st (sParO1 i j l g) := by
  obtain ⟨ta, pa, qa⟩ := ha
  obtain ⟨tb, pb, qb⟩ := hb
  refine ⟨_, mk ta tb pa pb, fun ρ o h A F G H σ D R k => ?_⟩
  obtain ⟨d, ρ1, h3, h4⟩ := bnd_some h
  obtain ⟨d2, ρ2, h5, h6⟩ := bnd_some h4
  cases h6
  refine qa ρ d ρ1 h3 A F G H σ _ R fun u xs G1 H1 fu s1 r1 z1 _ => qb ρ1 d2 ρ2 h5 A _ G1 H1 σ _ r1 fun v G2 H2 s2 r2 z2 => ⟨_, v, rfl, ?_⟩
  exact k _ G2 H2 (s1.trans s2) ((r2.putOwn fu i (z1.up s2)).putV j z2)
theorem fs_parO2 {st : Stmt} {i j : Nat} (mk : ∀ t u, PE X a t → PE X b u → PS X st (tPar i j (tCons t (tCons u tNil)))) (ha : FE X a f) (hb : FL X b m) : FS X st (sParO2 i j f m) := by
  obtain ⟨ta, pa, qa⟩ := ha
  obtain ⟨tb, pb, qb⟩ := hb
  refine ⟨_, mk ta tb pa pb, fun ρ o h A F G H σ D R k => ?_⟩
  obtain ⟨d, ρ1, h3, h4⟩ := bnd_some h
  obtain ⟨d2, ρ2, h5, h6⟩ := bnd_some h4
  cases h6
  refine qa ρ d ρ1 h3 A F G H σ _ R fun u G1 H1 s1 r1 z1 => qb ρ1 d2 ρ2 h5 A F G1 H1 σ _ r1 fun v xs G2 H2 fv s2 r2 z2 _ => ⟨u, _, rfl, ?_⟩
  exact k _ G2 H2 (s1.trans s2) ((r2.putV i (z1.up s2)).putOwn fv j z2)
theorem fs_parO3 {st : Stmt} {i j : Nat} (mk : ∀ t u, PE X a t → PE X b u → PS X st (tPar i j (tCons t (tCons u tNil)))) (ha : FL X a l) (hb : FL X b m) (hij : i ≠ j := by decide) : FS X st (sParO3 i j l m) := by
  obtain ⟨ta, pa, qa⟩ := ha
  obtain ⟨tb, pb, qb⟩ := hb
  refine ⟨_, mk ta tb pa pb, fun ρ o h A F G H σ D R k => ?_⟩
  obtain ⟨d, ρ1, h3, h4⟩ := bnd_some h
  obtain ⟨d2, ρ2, h5, h6⟩ := bnd_some h4
  cases h6
  refine qa ρ d ρ1 h3 A F G H σ _ R fun u xs G1 H1 fu s1 r1 z1 _ => qb ρ1 d2 ρ2 h5 A _ G1 H1 σ _ r1 fun v ys G2 H2 fv s2 r2 z2 _ => ⟨_, _, rfl, ?_⟩
  have z := (r2.putOwn fv j z2).putOwn fu i (z1.up s2)
  rw [List.set_comm _ _ (Ne.symm hij), List.set_comm _ _ (Ne.symm hij)] at z
  rw [List.set_comm _ _ (Ne.symm hij)] at k
  exact k _ G2 H2 (s1.trans s2) z
end
theorem _root_.L2.Room.units65 {k : Nat} {A : Around} (r : Room k A) : A.units + 65 < cLine := by
  have := r.un
  omega
theorem lk_rel {env : Env} {x : Str} : ∀ {names : List (Str × NameKind)} {k : NameKind}, names.lookup x = some k → k = .cell ∨ k = .free →
    (names.map fun (n, k) => if (k == NameKind.free && env.scope.kind == .function && env.kindOf n == some .cell) then (n, NameKind.cell) else (n, k)).lookup x = some .cell ∨
    (names.map fun (n, k) => if (k == NameKind.free && env.scope.kind == .function && env.kindOf n == some .cell) then (n, NameKind.cell) else (n, k)).lookup x = some .free
  | [], _, h, _ => by cases h
  | (n, j) :: r, k, h, hk => by
    by_cases hx : x = n
    · subst hx
      rw [List.lookup_cons_self] at h
      cases h
      rw [List.map_cons]
      dsimp only
      split
      · exact Or.inl List.lookup_cons_self
      · rcases hk with rfl | rfl
        · exact Or.inl List.lookup_cons_self
        · exact Or.inr List.lookup_cons_self
    · have hb : (x == n) = false := by simpa using hx
      rw [List.lookup_cons, hb] at h
      have ih := lk_rel (env := env) h hk
      rw [List.map_cons]
      dsimp only
      split <;> (rw [List.lookup_cons, hb]; exact ih)
theorem blkOk_rel {N : List Str} {sc scope : Scope} {env : Env} {own : List (Str × Nat)} (h : BlkOk N sc scope own) : BlkOk N (relabel sc env) scope own :=
  ⟨h.kind, h.uniq, h.ix, fun y hy e => by
    rcases h.free y hy e with z | z
    · exact lk_rel z (Or.inl rfl)
    · exact lk_rel z (Or.inr rfl), h.own⟩
/-! ## (a, b) = (x, y), the names cells -/
section
variable {X : Cx} {a b : Expr} {f g : EF} {l m : LF}
abbrev gTwo (K : PySem.W.Frag) (i j : Nat) : TG := gTup K 2 (gCons (gName i) (gCons (gName j) gNil))
theorem two_tg {K : PySem.W.Frag} {i j : Nat} {u v : V} {σ : L2.St} {H : Hp} {Q : L2.St → Hp → Prop} (h : ∀ p, H p = none → Q ((σ.set i (some u)).set j (some v)) (upd H p (.tup [u, v]))) :
    ([u, v].length ≤ sizeLine ∧ ∀ p, H p = none → gTwo K i j (.ref p) σ (upd H p (.tup [u, v])) Q) :=
  ⟨by show 2 ≤ sizeLine; decide, fun p hp => ⟨p, _, rfl, Or.inl (Or.inl upd_same), rfl, _, _, rfl, _, _, rfl, rfl, h p hp⟩⟩
theorem fs_tgO1 {st : Stmt} {i j : Nat} (mk : ∀ t u, PE X a t → PE X b u → PS X st (tAsg (tTup (tCons t (tCons u tNil))) (gTwo X.K i j))) (ha : FL X a l) (hb : FE X b g) : FS X st (sParO1 i j l g) := by
  obtain ⟨ta, pa, qa⟩ := ha
  obtain ⟨tb, pb, qb⟩ := hb
  refine ⟨_, mk ta tb pa pb, fun ρ o h A F G H σ D R k => ?_⟩
  obtain ⟨d, ρ1, h3, h4⟩ := bnd_some h
  obtain ⟨d2, ρ2, h5, h6⟩ := bnd_some h4
  cases h6
  refine qa ρ d ρ1 h3 A F G H σ _ R fun u xs G1 H1 fu s1 r1 z1 _ => qb ρ1 d2 ρ2 h5 A _ G1 H1 σ _ r1 fun v G2 H2 s2 r2 z2 => two_tg fun p hp => ?_
  have r3 := (r2.newF (o := .tup [.ref u, v]) hp).dropF (none_of r2.fh hp)
  exact k _ G2 _ (s1.trans s2) ((r3.putOwn fu i (z1.up s2)).putV j z2)
theorem fs_tgO2 {st : Stmt} {i j : Nat} (mk : ∀ t u, PE X a t → PE X b u → PS X st (tAsg (tTup (tCons t (tCons u tNil))) (gTwo X.K i j))) (ha : FE X a f) (hb : FL X b m) : FS X st (sParO2 i j f m) := by
  obtain ⟨ta, pa, qa⟩ := ha
  obtain ⟨tb, pb, qb⟩ := hb
  refine ⟨_, mk ta tb pa pb, fun ρ o h A F G H σ D R k => ?_⟩
  obtain ⟨d, ρ1, h3, h4⟩ := bnd_some h
  obtain ⟨d2, ρ2, h5, h6⟩ := bnd_some h4
  cases h6
  refine qa ρ d ρ1 h3 A F G H σ _ R fun u G1 H1 s1 r1 z1 => qb ρ1 d2 ρ2 h5 A F G1 H1 σ _ r1 fun v xs G2 H2 fv s2 r2 z2 _ => two_tg fun p hp => ?_
  have f0 := none_of r2.fh hp
  have r3 := (r2.newF (o := .tup [u, .ref v]) hp).dropF f0
  exact k _ G2 _ (s1.trans s2) ((r3.putV i (z1.up s2)).putOwn fv j z2)
theorem fs_tgO3 {st : Stmt} {i j : Nat} (mk : ∀ t u, PE X a t → PE X b u → PS X st (tAsg (tTup (tCons t (tCons u tNil))) (gTwo X.K i j))) (ha : FL X a l) (hb : FL X b m) (hij : i ≠ j := by decide) : FS X st (sParO3 i j l m) := by
  obtain ⟨ta, pa, qa⟩ := ha
  obtain ⟨tb, pb, qb⟩ := hb
  refine ⟨_, mk ta tb pa pb, fun ρ o h A F G H σ D R k => ?_⟩
  obtain ⟨d, ρ1, h3, h4⟩ := bnd_some h
  obtain ⟨d2, ρ2, h5, h6⟩ := bnd_some h4
  cases h6
  refine qa ρ d ρ1 h3 A F G H σ _ R fun u xs G1 H1 fu s1 r1 z1 _ => qb ρ1 d2 ρ2 h5 A _ G1 H1 σ _ r1 fun v ys G2 H2 fv s2 r2 z2 _ => two_tg fun p hp => ?_
  have r3 := (r2.newF (o := .tup [.ref u, .ref v]) hp).dropF (none_of r2.fh hp)
  have z := (r3.putOwn fv j z2).putOwn fu i (z1.up s2)
  rw [List.set_comm _ _ (Ne.symm hij), List.set_comm _ _ (Ne.symm hij)] at z
  rw [List.set_comm _ _ (Ne.symm hij)] at k
  exact k _ G2 _ (s1.trans s2) z
end
end Fe
namespace Fe
open PySem
/-! ## small numbers -/
abbrev Sm (i : Int) : Prop := i.natAbs.log2 < 1000
def smB (i : Int) : Bool := Nat.blt i.natAbs.log2 1000
theorem smB_ok {i : Int} (h : smB i = true) : Sm i := Nat.le_of_ble_eq_true h
theorem Sm_mul {i j : Int} (h : Sm i) (k : Sm j) : mulOk i j = true := mulOk_of (a := 1000) (b := 1000) (Nat.le_of_lt h) (Nat.le_of_lt k) (by decide)
theorem Sm_of {i : Int} (h1 : -(2 ^ 200) < i) (h2 : i < 2 ^ 200) : Sm i := by
  have h : i.natAbs < 2 ^ 200 := by omega
  exact Nat.lt_trans (log2_lt (by decide) h) (by decide)
theorem iat_sm {row : List Int} (h : ∀ x ∈ row, Sm x) (i : Nat) : Sm (iat row i) := by
  cases e : row[i]? with
  | none =>
    unfold iat
    rw [List.getD_eq_getElem?_getD, e]
    decide
  | some v =>
    rw [iat_some e]
    exact h v (List.mem_of_getElem? e)
theorem iat_smB {row : List Int} (h : row.all smB = true) (i : Nat) : Sm (iat row i) := iat_sm (fun x hx => smB_ok (List.all_eq_true.mp h x hx)) i
theorem repOk_int {i : Int} (h : i.natAbs.log2 < 1900) : repOk (.int i) = true := by
  have h1 : plainD (.int i) = true := Nat.ble_eq_true_of_le (by omega)
  have h2 : Nat.ble (shB (.int i)) 16777216 = true := Nat.ble_eq_true_of_le (by show i.natAbs.log2 + 3 ≤ _; omega)
  unfold repOk
  rw [h1, h2]
  rfl
theorem repI {i : Int} (h : Sm i) : (sm (.int i) (.int i) && repOk (.int i)) = true := by
  rw [sm_rfl _ (repOk_ok (repOk_int (by omega))).1, repOk_int (by omega)]
  rfl
theorem repT {d : PyData} (h : repOk d = true) : (sm d d && repOk d) = true := by
  rw [sm_rfl _ (repOk_ok h).1, h]
  rfl
/-! ## ranges of ints -/
def irg (lo : Int) (n : Nat) : List Int := (List.range n).map fun k => lo + (k : Nat)
def irgC (lo c : Int) (n : Nat) : List Int := (List.range n).map fun k => lo + (k : Nat) * c
theorem rngL_eq (lo : Int) (n : Nat) : rngL lo n = (irg lo n).map .int := by
  unfold rngL irg
  rw [List.map_map]
  rfl
theorem rngC_eq (lo c : Int) (n : Nat) : rngC lo c n = (irgC lo c n).map .int := by
  unfold rngC irgC
  rw [List.map_map]
  rfl
theorem mem_irg {lo i : Int} {n : Nat} (h : i ∈ irg lo n) : ∃ k : Nat, k < n ∧ i = lo + (k : Nat) := by
  unfold irg at h
  obtain ⟨k, hk, rfl⟩ := List.mem_map.mp h
  exact ⟨k, List.mem_range.mp hk, rfl⟩
theorem mem_irgC {lo c i : Int} {n : Nat} (h : i ∈ irgC lo c n) : ∃ k : Nat, k < n ∧ i = lo + (k : Nat) * c := by
  unfold irgC at h
  obtain ⟨k, hk, rfl⟩ := List.mem_map.mp h
  exact ⟨k, List.mem_range.mp hk, rfl⟩
theorem irg_len {lo : Int} {n : Nat} : (irg lo n).length = n := by simp [irg]
theorem ble_of {a b : Nat} (h : a ≤ b) : Nat.ble a b = true := Nat.ble_eq_true_of_le h
theorem rngL_ble {lo : Int} {n : Nat} (h : n ≤ 16777216) : Nat.ble (rngL lo n).length 16777216 = true := by
  rw [rngL_len]
  exact ble_of h
theorem rngC_ble {lo c : Int} {n : Nat} (h : n ≤ 16777216) : Nat.ble (rngC lo c n).length 16777216 = true := by
  rw [show (rngC lo c n).length = n by simp [rngC]]
  exact ble_of h
/-! ## comprehensions over ints -/
theorem wipe_wipe : ∀ (vs : List Nat) (ρ : En), wipeE (wipeE ρ vs) vs = wipeE ρ vs
  | [], ρ => rfl
  | v :: vs, ρ => by
    have key : ∀ (us : List Nat) (ρ : En), wipeE (ρ.set v .un) us = (wipeE ρ us).set v .un := by
      intro us
      induction us with
      | nil => intro ρ; rfl
      | cons u us ih =>
        intro ρ
        show (wipeE (ρ.set v .un) us).set u .un = ((wipeE ρ us).set u .un).set v .un
        rw [ih]
        by_cases h : u = v
        · rw [h]
        · exact List.set_comm _ _ (fun e => h e.symm)
    show (wipeE ((wipeE ρ vs).set v .un) vs).set v .un = (wipeE ρ vs).set v .un
    rw [key, wipe_wipe vs ρ, List.set_set, ]
theorem cl_gen {α : Type} (en : α → PyData) {vs : List Nat} {g : PyData → En → Option En} {c : BF} {e : EF} {ρ : En} (p : α → Bool) (f : α → PyData) : ∀ (ns : List α), (∀ n ∈ ns, ∃ ρ1 ρ2, g (en n) (wipeE ρ vs) = some ρ1 ∧ c ρ1 = some (p n, ρ2) ∧ (p n = true → ∃ ρ3, e ρ2 = some (f n, ρ3) ∧ wipeE ρ3 vs = wipeE ρ vs) ∧ (p n = false → wipeE ρ2 vs = wipeE ρ vs)) → ∀ ρ0, wipeE ρ0 vs = wipeE ρ vs →
    cl vs g c e (ns.map en) ρ0 = some ((ns.filter p).map f, wipeE ρ vs)
  | [], _, ρ0, h0 => by
    show some ([], wipeE ρ0 vs) = _
    rw [h0]
    rfl
  | n :: r, h, ρ0, h0 => by
    obtain ⟨ρ1, ρ2, h1, h2, h3, h4⟩ := h n List.mem_cons_self
    have ih := cl_gen en (vs := vs) (g := g) (c := c) (e := e) (ρ := ρ) p f r fun d hd => h d (List.mem_cons_of_mem _ hd)
    show (match g (en n) (wipeE ρ0 vs) with | none => none | some ρ1 => bnd (c ρ1) fun k ρ2 => if k = true then bnd (e ρ2) fun y ρ3 => bnd (cl vs g c e (r.map en) ρ3) fun ys ρ4 => some (y :: ys, ρ4) else cl vs g c e (r.map en) ρ2) = _
    rw [h0, h1]
    cases hp : p n with
    | true =>
      obtain ⟨ρ3, h5, h6⟩ := h3 hp
      simp only [bnd, h2, hp, h5, ih ρ3 h6, if_true, List.filter_cons, List.map_cons]
    | false =>
      simp only [bnd, h2, hp, ih ρ2 (h4 hp), Bool.false_eq_true, if_false, List.filter_cons]
/-- ints to ints, with a test -/
theorem cl_fI {vs : List Nat} {g : PyData → En → Option En} {c : BF} {e : EF} {ρ : En} (p : Int → Bool) (f : Int → Int) {ns : List Int} (h : ∀ n ∈ ns, ∃ ρ1, g (.int n) (wipeE ρ vs) = some ρ1 ∧ c ρ1 = some (p n, ρ1) ∧ (p n = true → e ρ1 = some (.int (f n), ρ1)) ∧ wipeE ρ1 vs = wipeE ρ vs) :
    cl vs g c e (ns.map .int) ρ = some (((ns.filter p).map f).map .int, wipeE ρ vs) := by
  rw [cl_gen .int (ρ := ρ) p (fun n => .int (f n)) ns (fun n hn => ?_) ρ rfl, List.map_map]
  · rfl
  · obtain ⟨ρ1, h1, h2, h3, h4⟩ := h n hn
    exact ⟨ρ1, ρ1, h1, h2, fun hp => ⟨ρ1, h3 hp, h4⟩, fun _ => h4⟩
/-- ints to ints, no test -/
theorem cl_mI {vs : List Nat} {g : PyData → En → Option En} {e : EF} {ρ : En} (f : Int → Int) {ns : List Int} (h : ∀ n ∈ ns, ∃ ρ1 ρ2, g (.int n) (wipeE ρ vs) = some ρ1 ∧ e ρ1 = some (.int (f n), ρ2) ∧ wipeE ρ2 vs = wipeE ρ vs) :
    cl vs g fYes e (ns.map .int) ρ = some ((ns.map f).map .int, wipeE ρ vs) := by
  rw [cl_gen .int (ρ := ρ) (fun _ => true) (fun n => .int (f n)) ns (fun n hn => ?_) ρ rfl, List.filter_eq_self.mpr (fun _ _ => rfl), List.map_map]
  · rfl
  · obtain ⟨ρ1, ρ2, h1, h2, h3⟩ := h n hn
    exact ⟨ρ1, ρ1, h1, rfl, fun _ => ⟨ρ2, h2, h3⟩, fun z => by cases z⟩
theorem map_sq_eq {α β : Type} {f g : α → β} {l : List α} (h : ∀ x ∈ l, f x = g x) : l.map f = l.map g := List.map_congr_left h
/-! ## a function's value against a table -/
def isI (o : Option PyData) (v : Int) : Bool := match o with
  | some (.int i) => decide (i = v)
  | _ => false
theorem isI_ok {o : Option PyData} {v : Int} (h : isI o v = true) : o = some (.int v) := by
  unfold isI at h
  split at h
  · rw [of_decide_eq_true h]
  · cases h
theorem all_range {n : Nat} {p : Nat → Bool} (h : (List.range n).all p = true) {i : Nat} (hi : i < n) : p i = true := List.all_eq_true.mp h i (List.mem_range.mpr hi)
def intsB : List PyData → List Int → Bool
  | [], [] => true
  | .int i :: r, v :: l => decide (i = v) && intsB r l
  | _, _ => false
theorem intsB_ok : ∀ {ds : List PyData} {l : List Int}, intsB ds l = true → ds = l.map .int
  | [], [], _ => rfl
  | .int i :: r, v :: l, h => by
    have h' := Bool.and_eq_true_iff.mp h
    rw [of_decide_eq_true h'.1, intsB_ok h'.2]
    rfl
  | [], _ :: _, h => by cases h
  | .none :: _, _, h => by cases h
  | .bool _ :: _, _, h => by cases h
  | .str _ :: _, _, h => by cases h
  | .list _ :: _, _, h => by cases h
  | .tuple _ :: _, _, h => by cases h
  | .dict _ :: _, _, h => by cases h
  | .int _ :: _, [], h => by cases h
def isTI (o : Option PyData) (l : List Int) : Bool := match o with
  | some (.tuple ds) => intsB ds l
  | _ => false
theorem isTI_ok {o : Option PyData} {l : List Int} (h : isTI o l = true) : o = some (.tuple (l.map .int)) := by
  unfold isTI at h
  split at h
  · rw [intsB_ok h]
  · cases h
def isLI (o : Option PyData) (l : List Int) : Bool := match o with
  | some (.list ds) => intsB ds l
  | _ => false
theorem isLI_ok {o : Option PyData} {l : List Int} (h : isLI o l = true) : o = some (.list (l.map .int)) := by
  unfold isLI at h
  split at h
  · rw [intsB_ok h]
  · cases h
theorem pick_at {p : Src → Int → Int × Src} (hr : ∀ (s : Src) {m : Int}, 0 < m → 0 ≤ (p s m).1 ∧ (p s m).1 < m) (s : Src) {m : Int} (h : 0 < m) (h2 : m.natAbs.log2 < 9000) : ∃ (k : Nat) (s' : Src), (k : Int) < m ∧ fPick p s [.int m] = some (.int (k : Nat), s') := by
  obtain ⟨h3, h4⟩ := hr s h
  refine ⟨(p s m).1.toNat, (p s m).2, by omega, ?_⟩
  show (if Nat.blt m.natAbs.log2 9000 = true then some (PyData.int (p s m).1, (p s m).2) else none) = _
  rw [if_pos (show Nat.blt m.natAbs.log2 9000 = true from Nat.ble_eq_true_of_le h2), Int.toNat_of_nonneg h3]
end Fe
namespace Fe
open PySem
theorem eqvAll_ints : ∀ l m : List Int, PyData.eqvAll (l.map .int) (m.map .int) = decide (l = m)
  | [], [] => rfl
  | [], _ :: _ => rfl
  | _ :: _, [] => rfl
  | a :: l, b :: m => by
    rw [List.map_cons, List.map_cons, PyData.eqvAll, eqvAll_ints l m]
    show (a == b && decide (l = m)) = _
    by_cases h : a = b
    · by_cases h2 : l = m
      · simp [h, h2]
      · simp [h, h2]
    · simp [h]
theorem depthAll_ints : ∀ l : List Int, PyData.depthAll (l.map .int) = 0
  | [] => rfl
  | a :: l => by
    rw [List.map_cons, PyData.depthAll, depthAll_ints l]
    rfl
theorem canLayAll_ints : ∀ l : List Int, PyData.canLayAll0 (l.map .int) = true
  | [] => rfl
  | a :: l => by
    rw [List.map_cons, PyData.canLayAll0, canLayAll_ints l]
    rfl
theorem shaped_lI (l : List Int) : SeqAt.shaped (.list (l.map .int)) = true := by
  unfold SeqAt.shaped
  rw [PyData.canLay0, canLayAll_ints, PyData.depth, depthAll_ints]
  rfl
theorem shaped_tI (l : List Int) : SeqAt.shaped (.tuple (l.map .int)) = true := by
  unfold SeqAt.shaped
  rw [PyData.canLay0, canLayAll_ints, PyData.depth, depthAll_ints]
  rfl
theorem oNe_lI (l m : List Int) : oNe (.list (l.map .int)) (.list (m.map .int)) = some (.bool (!decide (l = m))) := by
  unfold oNe
  rw [shaped_lI, shaped_lI]
  show some (PyData.bool (!PyData.eqv (.list (l.map .int)) (.list (m.map .int)))) = _
  rw [PyData.eqv, eqvAll_ints]
theorem oEq_lI (l m : List Int) : oEq (.list (l.map .int)) (.list (m.map .int)) = some (.bool (decide (l = m))) := by
  unfold oEq
  rw [shaped_lI, shaped_lI]
  show some (PyData.bool (PyData.eqv (.list (l.map .int)) (.list (m.map .int)))) = _
  rw [PyData.eqv, eqvAll_ints]
theorem oNe_tI (l m : List Int) : oNe (.tuple (l.map .int)) (.tuple (m.map .int)) = some (.bool (!decide (l = m))) := by
  unfold oNe
  rw [shaped_tI, shaped_tI]
  show some (PyData.bool (!PyData.eqv (.tuple (l.map .int)) (.tuple (m.map .int)))) = _
  rw [PyData.eqv, eqvAll_ints]
theorem oEq_tI (l m : List Int) : oEq (.tuple (l.map .int)) (.tuple (m.map .int)) = some (.bool (decide (l = m))) := by
  unfold oEq
  rw [shaped_tI, shaped_tI]
  show some (PyData.bool (PyData.eqv (.tuple (l.map .int)) (.tuple (m.map .int)))) = _
  rw [PyData.eqv, eqvAll_ints]
/-- a turn, its first statement apart -/
theorem lp1_seq {g : PyData → En → Option En} {b a r : SF} {d : PyData} {ρ ρ1 ρ2 ρ3 : En} (hb : b = sSeq a r) (h1 : g d ρ = some ρ1) (h2 : a ρ1 = some (.nx ρ2)) (h3 : r ρ2 = some (.nx ρ3)) : lp1 g b d ρ = some ρ3 := by
  subst hb
  have h4 : sSeq a r ρ1 = some (.nx ρ3) := by
    unfold sSeq sThen
    rw [h2]
    exact h3
  unfold lp1
  rw [h1]
  dsimp only
  rw [h4]
theorem sSeq_nx {a r : SF} {ρ ρ2 : En} {o : Option Out} (h2 : a ρ = some (.nx ρ2)) (h3 : r ρ2 = o) : sSeq a r ρ = o := by
  unfold sSeq sThen
  rw [h2]
  exact h3
end Fe
namespace Fe
open PySem PySem.Spec PyProof.Rows L2
/-! ## what is never reached: no rule is asked -/
section
variable {X : Cx} {e : Expr} {es : List Expr} {st : Stmt}
theorem fe_no : FE X e (fun _ => none) := ⟨fun _ _ _ => False, ⟨fun _ _ _ _ _ _ h => h.elim⟩, fun _ _ _ h => nomatch h⟩
theorem ft_no : FT X e (fun _ => none) := ⟨fun _ _ _ => False, ⟨fun _ _ _ _ _ _ h => h.elim⟩, fun _ _ _ h => nomatch h⟩
theorem fs_nope : FS X st (fun _ => none) := ⟨fun _ _ _ => False, ⟨fun _ _ _ _ _ _ h => h.elim⟩, fun _ _ h => nomatch h⟩
end
/-! ## constants of the module -/
mutual
def ckD (K : PySem.W.Frag) : PyData → Value → Bool
  | .none, .none => true
  | .bool b, .bool c => b == c
  | .int i, .int j _ => decide (i = j)
  | .tuple ds, .ref a => match K.lookup a with
    | some ⟨.type "tuple", _, .seq its _, _⟩ => Nat.ble its.size 16777216 && ckA K ds its.toList
    | _ => false
  | _, _ => false
def ckA (K : PySem.W.Frag) : List PyData → List Value → Bool
  | [], [] => true
  | d :: r, v :: s => ckD K d v && ckA K r s
  | _, _ => false
end
mutual
theorem ckD_ok {K : PySem.W.Frag} {H : Hp} : ∀ (d : PyData) (v : Value), ckD K d v = true → ∃ x, RelV x v ∧ Dq K H x d
  | .none, v, h => by
    cases v <;> first | (exact ⟨.non, rfl, .non⟩) | (simp [ckD] at h)
  | .bool b, v, h => by
    cases v <;> first | (simp [ckD] at h; subst h; exact ⟨.bl _, rfl, .bl _⟩) | (simp [ckD] at h)
  | .int i, v, h => by
    cases v <;> first | (simp [ckD] at h; subst h; exact ⟨.int _, ⟨_, rfl⟩, .int _⟩) | (simp [ckD] at h)
  | .str x, v, h => by simp [ckD] at h
  | .list x, v, h => by simp [ckD] at h
  | .dict x, v, h => by simp [ckD] at h
  | .tuple ds, v, h => by
    cases v with
    | ref a =>
      rw [ckD] at h
      split at h
      · rename_i od its n sl e
        obtain ⟨h1, h2⟩ := Bool.and_eq_true_iff.mp h
        obtain ⟨xs, r, q⟩ := ckA_ok (H := H) ds its.toList h2
        exact ⟨.ref a, rfl, .tup (Or.inr ⟨_, its, n, e, rfl, rfl, ble_line h1, r⟩) q⟩
      · cases h
    | _ => simp [ckD] at h
theorem ckA_ok {K : PySem.W.Frag} {H : Hp} : ∀ (ds : List PyData) (vs : List Value), ckA K ds vs = true → ∃ xs, Vals xs vs ∧ DqA K H xs ds
  | [], [], _ => ⟨[], .nil, .nil⟩
  | d :: r, v :: s, h => by
    rw [ckA] at h
    obtain ⟨h1, h2⟩ := Bool.and_eq_true_iff.mp h
    obtain ⟨x, r1, q1⟩ := ckD_ok (H := H) d v h1
    obtain ⟨xs, r2, q2⟩ := ckA_ok (H := H) r s h2
    exact ⟨x :: xs, .cons r1 r2, .cons q1 q2⟩
  | [], _ :: _, h => by simp [ckA] at h
  | _ :: _, [], h => by simp [ckA] at h
end
section
variable {X : Cx} {x : Str} {pos : Pos} {d : PyData}
theorem fe_con (hg : Gl X x) (h : ∃ u, X.mg x = some u ∧ ckD X.K d u = true) (hd : (x == ("__debug__" : Str)) = false := by decide) : FE X (.Name x pos) (fC d) := by
  obtain ⟨u, h1, h2⟩ := h
  obtain ⟨v, h3, h4⟩ := ckD_ok (H := fun _ => none) d u h2
  exact fe_c (pe_glob hg h1 h3 hd) fun H => h4.up fun _ _ z => by cases z
end
/-! ## sorting ints -/
def insI (a : Int) : List Int → List Int
  | [] => [a]
  | b :: r => if a ≤ b then a :: b :: r else b :: insI a r
def isortI : List Int → List Int
  | [] => []
  | a :: r => insI a (isortI r)
theorem insI_perm (a : Int) : ∀ l : List Int, (insI a l).Perm (a :: l)
  | [] => List.Perm.refl _
  | b :: r => by
    unfold insI
    split
    · exact List.Perm.refl _
    · exact ((insI_perm a r).cons b).trans (List.Perm.swap a b r)
theorem insI_sorted (a : Int) : ∀ {l : List Int}, l.Pairwise (· ≤ ·) → (insI a l).Pairwise (· ≤ ·)
  | [], _ => List.pairwise_singleton _ _
  | b :: r, h => by
    obtain ⟨h1, h2⟩ := List.pairwise_cons.mp h
    unfold insI
    split
    · rename_i hab
      refine List.pairwise_cons.mpr ⟨fun c hc => ?_, h⟩
      rcases List.mem_cons.mp hc with rfl | hc
      · exact hab
      · exact Int.le_trans hab (h1 c hc)
    · rename_i hab
      refine List.pairwise_cons.mpr ⟨fun c hc => ?_, insI_sorted a h2⟩
      rcases List.mem_cons.mp ((insI_perm a r).mem_iff.mp hc) with rfl | hc
      · omega
      · exact h1 c hc
theorem isortI_perm : ∀ l : List Int, (isortI l).Perm l
  | [] => List.Perm.refl _
  | a :: r => (insI_perm a _).trans ((isortI_perm r).cons a)
theorem isortI_sorted : ∀ l : List Int, (isortI l).Pairwise (· ≤ ·)
  | [] => List.Pairwise.nil
  | a :: r => insI_sorted a (isortI_sorted r)
theorem isortI_eq {l m : List Int} (h : m.Perm l) (k : m.Pairwise (· ≤ ·)) : m = isortI l :=
  List.Perm.eq_of_pairwise (fun a b _ _ h1 h2 => Int.le_antisymm h1 h2) k (isortI_sorted l) (h.trans (isortI_perm l).symm)
def oSortI : PyData → Option (List PyData)
  | .list ds => if Nat.ble ds.length 16777216 = true then (match intsD ds with
    | some l => some ((isortI l).map .int)
    | none => none) else none
  | _ => none
section
variable {X : Cx} {a : Expr} {p pos : Pos} {r : En → Option (Rf × En)}
theorem fl_sortI (ha : FR X a r) (hg : Gl X "sorted") (hm : X.mg "sorted" = none) (hs : starEach (a :: []) X.env = (false, eval a X.env) :: starEach [] X.env := by rfl) : FL X (.Call (.Name "sorted" p) [a] [] pos) (fR1L oSortI r) := by
  refine fl_r1 (fun t h => pe_callB cr_sortedI hg hm (by decide +kernel) (pa_cons h pa_nil hs) (he := hs)) ha fun x d c h A F G H ρ σ Q R z k => ?_
  unfold oSortI at h
  split at h
  · split at h
    · rename_i hz
      split at h
      · rename_i l hl
        cases h
        obtain ⟨q, xs, rfl, h1, h2⟩ := z.sq R.gh
        have e := intsD_ok h2 hl
        have hlen := h2.len
        subst e
        refine ⟨q, l, rfl, Or.inl (Or.inl h1), fun ns' p' e1 e2 hp => ?_⟩
        have e3 := isortI_eq e1 e2
        subst e3
        refine k p' _ G _ (none_of R.fh hp) (Same.refl G) (R.newF hp) (DqA.ints _) ?_
        rw [List.length_map] at hlen
        rw [List.length_map, (isortI_perm l).length_eq, hlen]
        exact ble_line hz
      · cases h
    · cases h
  · cases h
end
/-! ## sorted(dict([(k, v), ..])), the keys ints -/
/-- each once, by the first place -/
def onceI : List Int → List Int → List Int
  | acc, [] => acc
  | acc, k :: r => if acc.contains k = true then onceI acc r else onceI (acc ++ [k]) r
def keysI : List PyData → Option (List Int)
  | [] => some []
  | .tuple [.int k, _] :: r => match keysI r with
    | some l => some (k :: l)
    | none => none
  | _ :: _ => none
theorem onceI_mem : ∀ (l acc : List Int) (x : Int), x ∈ onceI acc l ↔ x ∈ acc ∨ x ∈ l
  | [], acc, x => by simp [onceI]
  | k :: r, acc, x => by
    unfold onceI
    split
    · rename_i h
      rw [onceI_mem r acc x, List.mem_cons]
      have h' : k ∈ acc := by simpa using h
      constructor
      · rintro (h1 | h1)
        · exact Or.inl h1
        · exact Or.inr (Or.inr h1)
      · rintro (h1 | h1 | h1)
        · exact Or.inl h1
        · exact Or.inl (h1 ▸ h')
        · exact Or.inr h1
    · rw [onceI_mem r _ x, List.mem_append, List.mem_singleton, or_assoc, List.mem_cons]
theorem onceI_nodup : ∀ (l acc : List Int), acc.Nodup → (onceI acc l).Nodup
  | [], acc, h => h
  | k :: r, acc, h => by
    unfold onceI
    split
    · exact onceI_nodup r acc h
    · rename_i hk
      refine onceI_nodup r _ (List.nodup_append.mpr ⟨h, List.nodup_cons.mpr ⟨List.not_mem_nil, List.nodup_nil⟩, fun a ha b hb e => hk ?_⟩)
      rw [List.mem_singleton] at hb
      subst hb
      subst e
      simpa using ha
theorem onceI_len : ∀ (l acc : List Int), (onceI acc l).length ≤ acc.length + l.length
  | [], acc => Nat.le_refl _
  | k :: r, acc => by
    unfold onceI
    split
    · have := onceI_len r acc
      rw [List.length_cons]
      omega
    · have := onceI_len r (acc ++ [k])
      rw [List.length_append, List.length_singleton] at this
      rw [List.length_cons]
      omega
theorem putK_keys {kvs : List (Key × V)} {k : Int} {v : V} {acc : List Int} (h : kvs.map (·.1) = acc.map Sum.inl) : (putK kvs (Sum.inl k) v).map (·.1) = (if acc.contains k = true then acc else acc ++ [k]).map Sum.inl := by
  have hiff : (kvs.any fun kv => decide (kv.1 = Sum.inl k)) = acc.contains k := by
    have : (kvs.any fun kv => decide (kv.1 = Sum.inl k)) = (kvs.map (·.1)).any fun q => decide (q = (Sum.inl k : Key)) := by rw [List.any_map]; rfl
    rw [this, h, List.any_map]
    induction acc with
    | nil => rfl
    | cons a r ih =>
      have hr : (r.map Sum.inl : List Key).any (fun q => decide (q = (Sum.inl k : Key))) = r.any ((fun q => decide (q = (Sum.inl k : Key))) ∘ Sum.inl) := by rw [List.any_map]
      have e : ∀ l : List Int, l.any ((fun q => decide (q = (Sum.inl k : Key))) ∘ Sum.inl) = l.contains k := by
        intro l
        induction l with
        | nil => rfl
        | cons b s ih2 =>
          rw [List.any_cons, List.contains_cons, ih2]
          congr 1
          show decide ((Sum.inl b : Key) = Sum.inl k) = (k == b)
          by_cases hb : k = b
          · subst hb
            simp
          · rw [show (k == b) = false by simpa using hb]
            exact decide_eq_false fun z => hb (Sum.inl.inj z).symm
      exact e (a :: r)
  unfold putK
  rw [hiff]
  split
  · rw [← h, List.map_map]
    refine List.map_congr_left fun kv _ => ?_
    show (if kv.1 = Sum.inl k then (kv.1, v) else kv).1 = kv.1
    split <;> rfl
  · rw [List.map_append, h, List.map_append]
    rfl
theorem mergeK_keys : ∀ (ps : List (Key × V)) (l : List Int) (kvs : List (Key × V)) (acc : List Int), ps.map (·.1) = l.map Sum.inl → kvs.map (·.1) = acc.map Sum.inl → (mergeK kvs ps).map (·.1) = (onceI acc l).map Sum.inl
  | [], l, kvs, acc, h, h2 => by
    cases l with
    | nil => exact h2
    | cons _ _ => cases h
  | p :: ps, l, kvs, acc, h, h2 => by
    cases l with
    | nil => cases h
    | cons k l =>
      rw [List.map_cons, List.map_cons] at h
      injection h with h3 h4
      have h5 := putK_keys (v := p.2) (k := k) h2
      rw [← h3] at h5
      have z := mergeK_keys ps l (putK kvs p.1 p.2) (if acc.contains k = true then acc else acc ++ [k]) h4 h5
      show (mergeK (putK kvs p.1 p.2) ps).map (·.1) = _
      rw [z]
      show _ = (onceI acc (k :: l)).map Sum.inl
      rw [onceI]
      split <;> rfl
section
variable {X : Cx}
/-- sorted of a dict whose keys are ints, however many -/
theorem cr_sortedDA (hcalm : X.calm = true) : CallR X (.builtin "sorted") (fun xs H Q => ∃ (a : Addr) (kvs : List (Key × V)) (ks : List Int), xs = [.ref a] ∧ Rd H a (.dK kvs) ∧ kvs.map (·.1) = ks.map Sum.inl ∧
    ∀ (p : Addr), H p = none → Q (.ref p) (upd H p (.lst ((isortI ks).map V.int)))) := by
  intro pins s σ H xs us Q I r h
  obtain ⟨a, kvs, ks, rfl, hd, hks, q⟩ := h
  obtain ⟨u, rfl, ru⟩ := vals1 r
  cases ru
  obtain ⟨hz, lo, vs, rel, dd⟩ := dk_rd I.hok hd
  obtain ⟨ep, hat⟩ := dd.dictAt
  have e1 : vs.map (·.1) = ks.map Sum.inl := rel.keys.symm.trans hks
  have e2 : vs.length = ks.length := by simpa using congrArg List.length e1
  have e2' : kvs.length = ks.length := by simpa using congrArg List.length hks
  have e3 : vs.length ≤ sizeLine := by omega
  refine Calls.call_function_entry PyProof.Rows.kind_sorted PyProof.Rows.plain_sorted PyProof.Rows.entry_sorted (PyProof.Rows.args_sorted1 _) ?_
  unfold Builtin.«sorted»
  refine wpAny_bind (m := checkCount "sorted" 1 1 _) (wpAny_pure ?_)
  refine wpAny_bind (PySem.W.kdu_collect (A := X.A.in1)
    (PySem.W.kdl_dict (knd := mixKind X.prog X.w) (kvs := vs) (ep := ep) lo) (I.ok.hd hcalm) hat e3 fun hp tk arr keep items => ?_)
  have e4 : arr.toList.length = ks.length := by rw [Array.length_toList, items.1, e2]
  have hI : IntsAre arr.toList ks := ints_each e4 fun j v ej => by
    obtain ⟨k, y, g1, g2⟩ := items.2 j v (by rw [← Array.getElem?_toList]; exact ej)
    have g3 : (vs.map (·.1))[j]? = some k := by rw [List.getElem?_map, g1]; rfl
    rw [e1, List.getElem?_map] at g3
    cases g4 : ks[j]? with
    | none =>
      rw [g4] at g3
      cases g3
    | some z =>
      rw [g4] at g3
      have g5 : Sum.inl z = k := Option.some.inj g3
      subst g5
      rcases keyIs_shape (show keyIs (Sum.inl z) v = true from g2) with ⟨i, t, ek, ev⟩ | ⟨i, t, ek, ev⟩
      · cases ek
        exact ⟨z, t, rfl, ev⟩
      · cases ek
  have I1 : Inv X pins σ H { s with heap := hp, toks := tk } := I.kept keep
  have e5 : arr.toList.length ≤ sizeLine := by omega
  refine wpAny_bind (wpAny_newList ?_ e5)
  have hL : (hp.push (seqObj "list" arr.toList.toArray 0)).get? hp.objs.size = some (seqObj "list" arr.toList.toArray 0) :=
    Heap.get?_push_size _ rfl
  show wpAny _ _ _ _ _ { s with heap := hp.push (seqObj "list" arr.toList.toArray 0), toks := tk }
  refine wpAny_bind (wpAny_holding (wpAny_call_entry PyProof.Rows.slot_list_sort ⟨_, hL, rfl⟩ PyProof.Rows.entry_list_sort
    (SrtO.list_sort_ord SrtO.swo_int (s := { s with heap := hp.push (seqObj "list" arr.toList.toArray 0), toks := tk }) hL e5
      (fun h2 => SrtO.ints_sortable hI h2) fun out o1 o2 => ⟨_, rfl, ?_⟩) (PyProof.Rows.args_list_sort _)))
  obtain ⟨k1, k2, k3⟩ := SrtO.ints_out hI o1 o2
  have k4 := isortI_eq k2 k3
  rw [k4] at k1
  obtain ⟨ep2, hs2⟩ := PyProof.Rows.sortedHeap_at (vs := arr.toList) (out := out.toArray) hL
  have e6 : ((isortI ks).map V.int).length ≤ sizeLine := by
    rw [List.length_map, (isortI_perm ks).length_eq]
    omega
  refine wpAny_pure ⟨_, rfl, .ref hp.objs.size, upd H hp.objs.size (.lst ((isortI ks).map V.int)),
    I1.laid (t' := tk) (fun b u e => ?_) (Nat.le_refl _) ⟨e6, out, ep2, vals_of_ints k1, hs2⟩, rfl, q _ (I1.hok.fresh (Nat.le_refl _))⟩
  have hb : b < hp.objs.size := Heap.lt_size e
  rw [PyProof.Rows.sortedHeap_old (Nat.ne_of_lt hb) (by rw [size_push']; exact Nat.lt_succ_of_lt hb)]
  exact Heap.get?_push_of_some _ e
end
section
variable {X : Cx} {a : Expr} {p p2 pos pos2 : Pos} {r : En → Option (Rf × En)}
theorem keysI_at {K : PySem.W.Frag} {G H : Hp} (g : Same G H) : ∀ {ds : List PyData} {xs : List V} {ks : List Int}, DqA K G xs ds → keysI ds = some ks → ∃ (ps : List Addr) (kvs : List (Key × V)), xs = ps.map V.ref ∧ Paired (fun p kv => SqT K H p [kV kv.1, kv.2]) ps kvs ∧ kvs.map (·.1) = ks.map Sum.inl
  | [], _, _, h, e => by
    cases h
    cases e
    exact ⟨[], [], rfl, .nil, rfl⟩
  | d :: t, _, _, h, e => by
    cases h with | cons q w =>
    unfold keysI at e
    split at e
    · rename_i heq
      cases heq
    · rename_i k y r' heq
      cases heq
      split at e
      · rename_i l hl
        cases e
        obtain ⟨ps, kvs, rfl, e2, e3⟩ := keysI_at g w hl
        cases q with | tup q1 q2 =>
        cases q2 with | cons u1 u2 =>
        cases u2 with | cons u2 u3 =>
        cases u3
        cases u1
        refine ⟨_ :: ps, (Sum.inl k, _) :: kvs, rfl, .cons (sqT_up g q1) e2, ?_⟩
        rw [List.map_cons, List.map_cons, e3]
      · cases e
    · cases e
def oSortDict : PyData → Option (List PyData)
  | .list ds => if Nat.ble ds.length 16777216 = true then (match keysI ds with
    | some l => some ((isortI (onceI [] l)).map .int)
    | none => none) else none
  | _ => none
theorem keysI_len : ∀ {ds : List PyData} {ks : List Int}, keysI ds = some ks → ks.length = ds.length
  | [], _, e => by
    cases e
    rfl
  | d :: t, _, e => by
    unfold keysI at e
    split at e
    · rename_i heq
      cases heq
    · rename_i k y r' heq
      cases heq
      split at e
      · rename_i l hl
        cases e
        rw [List.length_cons, List.length_cons, keysI_len hl]
      · cases e
    · cases e
/-- sorted(dict(e)) -/
theorem fl_sortDict (hc : X.calm = true) (ha : FR X a r) (hg : Gl X "sorted") (hm : X.mg "sorted" = none) (hg2 : Gl X "dict") (hm2 : X.mg "dict" = none) (hs : starEach (a :: []) X.env = (false, eval a X.env) :: starEach [] X.env := by rfl)
    (hs2 : starEach (.Call (.Name "dict" p2) [a] [] pos2 :: []) X.env = (false, eval (.Call (.Name "dict" p2) [a] [] pos2) X.env) :: starEach [] X.env := by rfl) :
    FL X (.Call (.Name "sorted" p) [.Call (.Name "dict" p2) [a] [] pos2] [] pos) (fR1L oSortDict r) := by
  obtain ⟨t, pt, q⟩ := ha
  refine ⟨_, pe_callB (cr_sortedDA hc) hg hm (by decide +kernel) (pa_cons (pe_callTy (call_dictP hc) hg2 hm2 (by decide +kernel) (pa_cons pt pa_nil hs) (he := hs)) pa_nil hs2) (he := hs2), fun ρ d ρ' h A F G H σ Q R k => ?_⟩
  obtain ⟨u, ρ1, h1, h2⟩ := bnd_some h
  refine q ρ u ρ1 h1 A F G H σ _ R fun x G1 H1 s1 R1 z1 => ?_
  split at h2
  · rename_i dx hx
    obtain ⟨h5, rfl⟩ := ret_some h2
    have z2 := z1.dr R1 hx
    unfold oSortDict at h5
    split at h5
    · split at h5
      · rename_i hz
        split at h5
        · rename_i l hl
          cases h5
          obtain ⟨b, xs, rfl, w1, w2⟩ := z2.sq R1.gh
          obtain ⟨ps, kvs, rfl, e2, e3⟩ := keysI_at R1.gh w2 hl
          refine ⟨b, ps, kvs, rfl, Or.inl (Or.inl w1), e2, fun p' hp => ?_⟩
          have f1 := none_of R1.fh hp
          have R2 := (R1.newF (o := .dK (mergeK [] kvs)) hp).dropF f1
          refine ⟨p', mergeK [] kvs, onceI [] l, rfl, Or.inl upd_same, mergeK_keys kvs l [] [] e3 rfl, fun p3 hp3 => ?_⟩
          refine k p3 _ G1 _ (none_of R2.fh hp3) s1 (R2.newF hp3) (DqA.ints _) ?_
          have e6 := onceI_len l []
          have e7 := keysI_len hl
          have e8 := ble_line hz
          rw [List.length_map, (isortI_perm _).length_eq]
          rw [List.length_nil] at e6
          omega
        · cases h5
      · cases h5
    · cases h5
  · cases h2
end
end Fe
namespace Fe
open PySem
/-! ## bounds -/
abbrev Bd (k : Nat) (z : Int) : Prop := z.natAbs < 2 ^ k
theorem Bd.sm {k : Nat} {z : Int} (h : Bd k z) (hk : k < 1000 := by decide) : Sm z := by
  have h2 : z.natAbs < 2 ^ 999 := Nat.lt_of_lt_of_le h (Nat.pow_le_pow_right (by decide) (by omega))
  exact Nat.lt_trans (log2_lt (k := 999) (by decide) h2) (by decide)
theorem Bd.mono {k l : Nat} {z : Int} (h : Bd k z) (hk : k ≤ l := by decide) : Bd l z := Nat.lt_of_lt_of_le h (Nat.pow_le_pow_right (by decide) hk)
theorem Bd.mul {k l : Nat} {x y : Int} (h : Bd k x) (g : Bd l y) : Bd (k + l) (x * y) := by
  show (x * y).natAbs < _
  rw [Int.natAbs_mul, Nat.pow_add]
  exact Nat.mul_lt_mul'' h g
theorem Bd.add {k l : Nat} {x y : Int} (h : Bd k x) (g : Bd l y) : Bd (max k l + 1) (x + y) := by
  have h1 : x.natAbs < 2 ^ (max k l) := Nat.lt_of_lt_of_le h (Nat.pow_le_pow_right (by decide) (Nat.le_max_left _ _))
  have h2 : y.natAbs < 2 ^ (max k l) := Nat.lt_of_lt_of_le g (Nat.pow_le_pow_right (by decide) (Nat.le_max_right _ _))
  have h3 := Int.natAbs_add_le x y
  show (x + y).natAbs < _
  rw [Nat.pow_succ]
  omega
theorem Bd.neg {k : Nat} {x : Int} (h : Bd k x) : Bd k (-x) := by
  show (-x).natAbs < _
  rw [Int.natAbs_neg]
  exact h
theorem Bd.sub {k l : Nat} {x y : Int} (h : Bd k x) (g : Bd l y) : Bd (max k l + 1) (x - y) := by
  rw [Int.sub_eq_add_neg]
  exact h.add g.neg
theorem Bd.div {k : Nat} {x y : Int} (h : Bd k x) : Bd k (x / y) := Nat.lt_of_le_of_lt (Int.natAbs_ediv_le_natAbs x y) h
theorem Bd.mulOk {k l : Nat} {x y : Int} (h : Bd k x) (g : Bd l y) (hk : k < 1000 := by decide) (hl : l < 1000 := by decide) : mulOk x y = true := Sm_mul (h.sm hk) (g.sm hl)
theorem Bd.of {k : Nat} {z : Int} {c : Nat} (h1 : -(c : Int) ≤ z) (h2 : z ≤ c) (h : c < 2 ^ k := by decide) : Bd k z := by
  show z.natAbs < _
  omega
/-! ## while -/
theorem whl_go {c : BF} {b : SF} {n : Nat} {ρ ρ1 ρ2 : En} (hc : c ρ = some (true, ρ1)) (hb : b ρ1 = some (.nx ρ2)) : whl c b (n + 1) ρ = whl c b n ρ2 := by
  conv => lhs; unfold whl
  rw [hc]
  dsimp only [bnd]
  rw [if_pos rfl, hb]
theorem whl_end {c : BF} {b : SF} {n : Nat} {ρ ρ1 : En} (hc : c ρ = some (false, ρ1)) : whl c b (n + 1) ρ = some (.nx ρ1) := by
  unfold whl
  rw [hc]
  dsimp only [bnd]
  rw [if_neg (by decide)]
theorem whl_rt {c : BF} {b : SF} {n : Nat} {ρ ρ1 ρ2 : En} {d : PyData} (hc : c ρ = some (true, ρ1)) (hb : b ρ1 = some (.rt d ρ2)) : whl c b (n + 1) ρ = some (.rt d ρ2) := by
  unfold whl
  rw [hc]
  dsimp only [bnd]
  rw [if_pos rfl, hb]
end Fe
namespace Ei
/-! a + b w, w w + w + 1 = 0: rests by a prime of norm p, as numbers by p -/
structure M (p a b r : Int) : Prop where
  hp : 0 < p
  hn : a * a - a * b + b * b = p
  h1 : ∃ s, a + b * r = p * s
  h2 : ∃ w, r * r + r + 1 = p * w
def near (u n : Int) : Int := (2 * u + n) / (2 * n)
def u0 (a b x y : Int) : Int := x * (a - b) - y * (0 - b)
def u1 (a b x y : Int) : Int := x * (0 - b) + y * (a - b) - y * (0 - b)
def r0 (p a b x y : Int) : Int := x - (near (u0 a b x y) p * a - near (u1 a b x y) p * b)
def r1 (p a b x y : Int) : Int := y - (near (u0 a b x y) p * b + near (u1 a b x y) p * a - near (u1 a b x y) p * b)
theorem near_shift {p : Int} (hp : 0 < p) (u k : Int) : near (u + p * k) p = near u p + k := by
  unfold near
  rw [show 2 * (u + p * k) + p = (2 * u + p) + (2 * p) * k by grind]
  exact Int.add_mul_ediv_left _ _ (by omega)
theorem u0_shift {p a b : Int} (hn : a * a - a * b + b * b = p) (x y k l : Int) : u0 a b (x + (k * a - l * b)) (y + (k * b + l * a - l * b)) = u0 a b x y + p * k := by
  unfold u0
  grind
theorem u1_shift {p a b : Int} (hn : a * a - a * b + b * b = p) (x y k l : Int) : u1 a b (x + (k * a - l * b)) (y + (k * b + l * a - l * b)) = u1 a b x y + p * l := by
  unfold u1
  grind
theorem r_shift {p a b : Int} (hp : 0 < p) (hn : a * a - a * b + b * b = p) (x y k l : Int) :
    r0 p a b (x + (k * a - l * b)) (y + (k * b + l * a - l * b)) = r0 p a b x y ∧ r1 p a b (x + (k * a - l * b)) (y + (k * b + l * a - l * b)) = r1 p a b x y := by
  unfold r0 r1
  rw [u0_shift hn, u1_shift hn, near_shift hp, near_shift hp]
  constructor <;> grind
/-- what is 0 by the prime is a multiple -/
theorem mult {p a b r : Int} (m : M p a b r) {x y : Int} (h : ∃ s, x + y * r = p * s) : ∃ k l, x = k * a - l * b ∧ y = k * b + l * a - l * b := by
  obtain ⟨s, hs⟩ := h
  obtain ⟨s1, h1⟩ := m.h1
  obtain ⟨w, h2⟩ := m.h2
  have hn := m.hn
  have hp := m.hp
  have e0 : p * (s * (a - b) - y * r * s1 + y * b * w) = x * (a - b) + y * b := by grind
  have e1 : p * (y * s1 - s * b) = y * a - x * b := by grind
  refine ⟨s * (a - b) - y * r * s1 + y * b * w, y * s1 - s * b, ?_, ?_⟩
  · refine Int.eq_of_mul_eq_mul_left (show p ≠ 0 by omega) ?_
    grind
  · refine Int.eq_of_mul_eq_mul_left (show p ≠ 0 by omega) ?_
    grind
/-- the rest hangs on the number by p alone -/
theorem r_cls {p a b r : Int} (m : M p a b r) {x y z u : Int} (h : ∃ s, (x - z) + (y - u) * r = p * s) : r0 p a b x y = r0 p a b z u ∧ r1 p a b x y = r1 p a b z u := by
  obtain ⟨k, l, e1, e2⟩ := mult m h
  have := r_shift m.hp m.hn z u k l
  rw [← e1, ← e2, show z + (x - z) = x by omega, show u + (y - u) = y by omega] at this
  exact this
/-- the rest is the number again -/
theorem r_phi {p a b r : Int} (m : M p a b r) (x y : Int) : ∃ s, r0 p a b x y + r1 p a b x y * r - (x + y * r) = p * s := by
  obtain ⟨s1, h1⟩ := m.h1
  obtain ⟨w, h2⟩ := m.h2
  unfold r0 r1
  generalize near (u0 a b x y) p = n
  generalize near (u1 a b x y) p = k
  refine ⟨-(n * s1) - k * r * s1 + k * b * w, ?_⟩
  grind
theorem phi_mul {p a b r : Int} (m : M p a b r) {x0 x1 y0 y1 f h : Int} (hx : ∃ s, x0 + x1 * r - f = p * s) (hy : ∃ s, y0 + y1 * r - h = p * s) : ∃ s, (x0 * y0 - x1 * y1) + (x0 * y1 + x1 * y0 - x1 * y1) * r - f * h = p * s := by
  obtain ⟨s, hs⟩ := hx
  obtain ⟨t, ht⟩ := hy
  obtain ⟨w, h2⟩ := m.h2
  refine ⟨f * t + h * s + p * s * t - w * x1 * y1, ?_⟩
  grind
theorem near0 {p : Int} (hp : 0 < p) : near 0 p = 0 := Int.ediv_eq_zero_of_lt (by omega) (by omega)
theorem r_zero {p a b : Int} (hp : 0 < p) : r0 p a b 0 0 = 0 ∧ r1 p a b 0 0 = 0 := by
  unfold r0 r1
  have e0 : u0 a b 0 0 = 0 := by
    unfold u0
    grind
  have e1 : u1 a b 0 0 = 0 := by
    unfold u1
    grind
  rw [e0, e1, near0 hp]
  constructor <;> grind
/-- 0 is left just if the number by p is 0 -/
theorem r_iff {p a b r : Int} (m : M p a b r) (x y : Int) : (r0 p a b x y = 0 ∧ r1 p a b x y = 0) ↔ ∃ s, x + y * r = p * s := by
  constructor
  · rintro ⟨h0, h1⟩
    obtain ⟨s, hs⟩ := r_phi m x y
    rw [h0, h1] at hs
    exact ⟨-s, by grind⟩
  · rintro ⟨s, hs⟩
    have z := r_cls m (x := x) (y := y) (z := 0) (u := 0) ⟨s, by grind⟩
    rw [z.1, z.2]
    exact r_zero m.hp
theorem near_b {p : Int} (hp : 0 < p) (u : Int) : (2 * (u - p * near u p)).natAbs ≤ p.natAbs := by
  have h1 := Int.mul_ediv_self_le (x := 2 * u + p) (k := 2 * p) (by omega)
  have h2 := Int.lt_mul_ediv_self_add (x := 2 * u + p) (k := 2 * p) (by omega)
  have e : 2 * (u - p * near u p) = 2 * u - 2 * p * ((2 * u + p) / (2 * p)) := by
    unfold near
    grind
  rw [e]
  omega
theorem r_bd {p a b : Int} (hp : 0 < p) (hn : a * a - a * b + b * b = p) (x y : Int) : 2 * (r0 p a b x y).natAbs ≤ a.natAbs + b.natAbs ∧ 2 * (r1 p a b x y).natAbs ≤ a.natAbs + 2 * b.natAbs := by
  have b0 := near_b hp (u0 a b x y)
  have b1 := near_b hp (u1 a b x y)
  have e0 : 2 * (p * r0 p a b x y) = 2 * (u0 a b x y - p * near (u0 a b x y) p) * a - 2 * (u1 a b x y - p * near (u1 a b x y) p) * b := by
    unfold r0
    generalize hu : near (u0 a b x y) p = n
    generalize hv : near (u1 a b x y) p = k
    unfold u0 u1
    grind
  have e1 : 2 * (p * r1 p a b x y) = 2 * (u0 a b x y - p * near (u0 a b x y) p) * b + 2 * (u1 a b x y - p * near (u1 a b x y) p) * a - 2 * (u1 a b x y - p * near (u1 a b x y) p) * b := by
    unfold r1
    generalize hu : near (u0 a b x y) p = n
    generalize hv : near (u1 a b x y) p = k
    unfold u0 u1
    grind
  generalize 2 * (u0 a b x y - p * near (u0 a b x y) p) = v at *
  generalize 2 * (u1 a b x y - p * near (u1 a b x y) p) = w at *
  have hp' : 0 < p.natAbs := by omega
  have va := Nat.mul_le_mul_right a.natAbs b0
  have vb := Nat.mul_le_mul_right b.natAbs b0
  have wa := Nat.mul_le_mul_right a.natAbs b1
  have wb := Nat.mul_le_mul_right b.natAbs b1
  rw [← Int.natAbs_mul] at va vb wa wb
  constructor
  · have h : p.natAbs * (2 * (r0 p a b x y).natAbs) ≤ p.natAbs * (a.natAbs + b.natAbs) := by
      have q : (2 * (p * r0 p a b x y)).natAbs = p.natAbs * (2 * (r0 p a b x y).natAbs) := by
        rw [Int.natAbs_mul, Int.natAbs_mul, Nat.mul_left_comm]
        rfl
      rw [← q, e0, Nat.mul_add]
      have := Int.natAbs_sub_le (v * a) (w * b)
      omega
    exact Nat.le_of_mul_le_mul_left h hp'
  · have h : p.natAbs * (2 * (r1 p a b x y).natAbs) ≤ p.natAbs * (a.natAbs + 2 * b.natAbs) := by
      have q : (2 * (p * r1 p a b x y)).natAbs = p.natAbs * (2 * (r1 p a b x y).natAbs) := by
        rw [Int.natAbs_mul, Int.natAbs_mul, Nat.mul_left_comm]
        rfl
      rw [← q, e1, Nat.mul_add, Nat.two_mul, Nat.mul_add]
      have := Int.natAbs_sub_le (v * b + w * a) (w * b)
      have := Int.natAbs_add_le (v * b) (w * a)
      omega
    exact Nat.le_of_mul_le_mul_left h hp'
end Ei
namespace K70
open PySem PySem.Spec PyProof.Rows L2 Fe
def top (i : Nat) : Stmt := PySem.Challenge.pw_wholefours_k70_whole_points_of_cubes_cou.main.body.getD i (.Pass ⟨0, 0, 0, 0⟩)
def fuel : Nat := 1048576
theorem sc0 : FnScope ["x", "y", "a", "b", "c", "d"] ["x", "y"] (defScope (top 2)) := ⟨rfl, rfl, rfl, by decide +kernel, rfl, by decide +kernel, by decide +kernel⟩
def b_cube_times : SF := (sSeq (sTg (fTup (fCons (fVar 0) (fCons (fVar 1) fNil))) (gTp 2 (gCons' (gTp 2 (gCons' (gNm 2) (gCons' (gNm 3) gNil'))) (gCons' (gTp 2 (gCons' (gNm 4) (gCons' (gNm 5) gNil'))) gNil'))))
    (sRet (fTup (fCons (fOp oSub (fOp oMul (fVar 2) (fVar 4)) (fOp oMul (fVar 3) (fVar 5))) (fCons (fOp oSub (fOp oAdd (fOp oMul (fVar 2) (fVar 5)) (fOp oMul (fVar 3) (fVar 4))) (fOp oMul (fVar 3) (fVar 5))) fNil)))))
def F_cube_times : List PyData → Option PyData := runF 2 6 b_cube_times
theorem sc1 : FnScope ["x"] ["x"] (defScope (top 3)) := ⟨rfl, rfl, rfl, by decide +kernel, rfl, by decide +kernel, by decide +kernel⟩
def b_cube_norm : SF := (sRet (fOp oAdd (fOp oSub (fOp oMul (fIx (fRd 0) (fC (.int 0))) (fIx (fRd 0) (fC (.int 0)))) (fOp oMul (fIx (fRd 0) (fC (.int 0))) (fIx (fRd 0) (fC (.int 1))))) (fOp oMul (fIx (fRd 0) (fC (.int 1))) (fIx (fRd 0) (fC (.int 1))))))
def F_cube_norm : List PyData → Option PyData := runF 1 1 b_cube_norm
theorem sc2 : FnScope ["x"] ["x"] (defScope (top 4)) := ⟨rfl, rfl, rfl, by decide +kernel, rfl, by decide +kernel, by decide +kernel⟩
def b_cube_conjugate : SF := (sRet (fTup (fCons (fOp oSub (fIx (fRd 0) (fC (.int 0))) (fIx (fRd 0) (fC (.int 1)))) (fCons (fOp oSub (fC (.int 0)) (fIx (fRd 0) (fC (.int 1)))) fNil))))
def F_cube_conjugate : List PyData → Option PyData := runF 1 1 b_cube_conjugate
theorem sc3 : FnScope ["above", "below"] ["above", "below"] (defScope (top 5)) := ⟨rfl, rfl, rfl, by decide +kernel, rfl, by decide +kernel, by decide +kernel⟩
def b_nearest_whole : SF := (sRet (fOp oDiv (fOp oAdd (fOp oMul (fC (.int 2)) (fVar 0)) (fVar 1)) (fOp oMul (fC (.int 2)) (fVar 1))))
def F_nearest_whole : List PyData → Option PyData := runF 2 2 b_nearest_whole
theorem sc4 : FnScope ["x", "m", "n", "q", "by"] ["x", "m"] (defScope (top 6)) := ⟨rfl, rfl, rfl, by decide +kernel, rfl, by decide +kernel, by decide +kernel⟩
def b_cube_rest : SF := (sSeq (sPar 2 3 (fCall F_cube_norm (fCons (fVar 1) fNil)) (fCall F_cube_times (fCons (fVar 0) (fCons (fCall F_cube_conjugate (fCons (fVar 1) fNil)) fNil))))
    (sSeq (sSet 4 (fCall F_cube_times (fCons (fTup (fCons (fCall F_nearest_whole (fCons (fIx (fRd 3) (fC (.int 0))) (fCons (fVar 2) fNil))) (fCons (fCall F_nearest_whole (fCons (fIx (fRd 3) (fC (.int 1))) (fCons (fVar 2) fNil))) fNil))) (fCons (fVar 1) fNil))))
    (sRet (fTup (fCons (fOp oSub (fIx (fRd 0) (fC (.int 0))) (fIx (fRd 4) (fC (.int 0)))) (fCons (fOp oSub (fIx (fRd 0) (fC (.int 1))) (fIx (fRd 4) (fC (.int 1)))) fNil))))))
def F_cube_rest : List PyData → Option PyData := runF 2 5 b_cube_rest
theorem sc5 : FnScope ["x"] ["x"] (defScope (top 7)) := ⟨rfl, rfl, rfl, by decide +kernel, rfl, by decide +kernel, by decide +kernel⟩
def b_is_primary : SF := (sRet (fAndV (fOp oEq (fOp oMod (fIx (fRd 0) (fC (.int 0))) (fC (.int 3))) (fC (.int 2))) (fOp oEq (fOp oMod (fIx (fRd 0) (fC (.int 1))) (fC (.int 3))) (fC (.int 0)))))
def F_is_primary : List PyData → Option PyData := runF 1 1 b_is_primary
theorem sc6 : FnScope ["x", "e", "m", "found", "here"] ["x", "e", "m"] (defScope (top 8)) := ⟨rfl, rfl, rfl, by decide +kernel, rfl, by decide +kernel, by decide +kernel⟩
def c_cube_power_0 : BF := (fTst (fOp oGt (fVar 1) (fC (.int 0))))
def b_cube_power_1 : SF := (sSeq (sIf (fTst (fOp oEq (fOp oMod (fVar 1) (fC (.int 2))) (fC (.int 1)))) (sSet 3 (fCall F_cube_rest (fCons (fCall F_cube_times (fCons (fVar 3) (fCons (fVar 4) fNil))) (fCons (fVar 2) fNil)))) sNil)
    (sPar 4 1 (fCall F_cube_rest (fCons (fCall F_cube_times (fCons (fVar 4) (fCons (fVar 4) fNil))) (fCons (fVar 2) fNil))) (fOp oDiv (fVar 1) (fC (.int 2)))))
def b_cube_power : SF := (sSeq (sPar 3 4 (fTup (fCons (fC (.int 1)) (fCons (fC (.int 0)) fNil))) (fCall F_cube_rest (fCons (fVar 0) (fCons (fVar 2) fNil))))
    (sSeq (whl c_cube_power_0 b_cube_power_1 fuel)
    (sRet (fVar 3))))
def F_cube_power : List PyData → Option PyData := runF 3 5 b_cube_power
theorem sc7 : FnScope ["x", "m", "here", "k", "unit"] ["x", "m"] (defScope (top 9)) := ⟨rfl, rfl, rfl, by decide +kernel, rfl, by decide +kernel, by decide +kernel⟩
def b_cube_sign_0 : SF := (sSeq (sSet 4 (fIx (fVal (fC (.tuple [(.tuple [(.int 1), (.int 0)]), (.tuple [(.int 0), (.int 1)]), (.tuple [(.int (-1)), (.int (-1))]), (.tuple [(.int (-1)), (.int 0)]), (.tuple [(.int 0), (.int (-1))]), (.tuple [(.int 1), (.int 1)])]))) (fVar 3)))
    (sIf (fTst (fOp oEq (fCall F_cube_rest (fCons (fTup (fCons (fOp oSub (fIx (fRd 2) (fC (.int 0))) (fIx (fRd 4) (fC (.int 0)))) (fCons (fOp oSub (fIx (fRd 2) (fC (.int 1))) (fIx (fRd 4) (fC (.int 1)))) fNil))) (fCons (fVar 1) fNil))) (fTup (fCons (fC (.int 0)) (fCons (fC (.int 0)) fNil))))) (sRet (fVar 3)) sNil))
def b_cube_sign : SF := (sSeq (sIf (fTst (fOp oEq (fCall F_cube_rest (fCons (fVar 0) (fCons (fVar 1) fNil))) (fTup (fCons (fC (.int 0)) (fCons (fC (.int 0)) fNil))))) (sRet (fC .none)) sNil)
    (sSeq (sSet 2 (fCall F_cube_power (fCons (fVar 0) (fCons (fOp oDiv (fOp oSub (fCall F_cube_norm (fCons (fVar 1) fNil)) (fC (.int 1))) (fC (.int 3))) (fCons (fVar 1) fNil)))))
    (sSeq (sFor (fRng1 (fCons (fC (.int 3)) fNil)) (gNm 3) b_cube_sign_0)
    (sRet (fC .none)))))
def F_cube_sign : List PyData → Option PyData := runF 2 5 b_cube_sign
theorem sc8 : FnScope ["p", "b", "root", "some", "a"] ["p"] (defScope (top 10)) := ⟨rfl, rfl, rfl, by decide +kernel, rfl, by decide +kernel, by decide +kernel⟩
def c_primary_prime_0 : BF := (fTst (fC (.bool true)))
def c_primary_prime_1 : BF := (fTst (fOp oLe (fOp oMul (fOp oAdd (fVar 2) (fC (.int 1))) (fOp oAdd (fVar 2) (fC (.int 1)))) (fOp oSub (fOp oMul (fC (.int 4)) (fVar 0)) (fOp oMul (fOp oMul (fC (.int 3)) (fVar 1)) (fVar 1)))))
def b_primary_prime_2 : SF := (sSet 2 (fOp oAdd (fVar 2) (fC (.int 1))))
def c_primary_prime_3 : BF := (fAnd (fTst (fCall F_is_primary (fCons (fTup (fCons (fVar 4) (fCons (fVar 1) fNil))) fNil))) (fTst (fOp oEq (fCall F_cube_norm (fCons (fTup (fCons (fVar 4) (fCons (fVar 1) fNil))) fNil)) (fVar 0))))
def e_primary_prime_4 : EF := (fTup (fCons (fVar 4) (fCons (fVar 1) fNil)))
def b_primary_prime_5 : SF := (sSeq (sSet 2 (fC (.int 0)))
    (sSeq (whl c_primary_prime_1 b_primary_prime_2 fuel)
    (sSeq (sIf (fTst (fOp oEq (fOp oMul (fVar 2) (fVar 2)) (fOp oSub (fOp oMul (fC (.int 4)) (fVar 0)) (fOp oMul (fOp oMul (fC (.int 3)) (fVar 1)) (fVar 1))))) (sSeq (sSet 3 (fAsL (fLst (fCons (fOp oDiv (fOp oAdd (fVar 1) (fVar 2)) (fC (.int 2))) (fCons (fOp oDiv (fOp oSub (fVar 1) (fVar 2)) (fC (.int 2))) fNil)))))
    (sSeq (sSet 3 (fAsL (fComp [4] (fSeq (fVar 3)) (gNm 4) c_primary_prime_3 e_primary_prime_4)))
    (sIf (fTst (fOp oNe (fVar 3) (fAsL (fLst fNil)))) (sRet (fIx (fRd 3) (fC (.int 0)))) sNil))) sNil)
    (sSet 1 (fOp oAdd (fVar 1) (fC (.int 3)))))))
def b_primary_prime : SF := (sSeq (sSet 1 (fC (.int 3)))
    (whl c_primary_prime_0 b_primary_prime_5 fuel))
def F_primary_prime : List PyData → Option PyData := runF 1 5 b_primary_prime
theorem sc9 : FnScope ["p", "t"] ["p"] (defScope (top 12)) := ⟨rfl, rfl, rfl, by decide +kernel, rfl, by decide +kernel, by decide +kernel⟩
def e_cube_rests_0 : EF := (fTup (fCons (fOp oMod (fOp oMul (fOp oMul (fVar 1) (fVar 1)) (fVar 1)) (fVar 0)) (fCons (fC (.bool true)) fNil)))
def b_cube_rests : SF := (sRet (fR1 oTuple (fVal (fAsL (fR1L oSortDict (fVal (fAsL (fComp [1] (fRng2 (fCons (fC (.int 1)) (fCons (fVar 0) fNil))) (gNm 1) fYes e_cube_rests_0))))))))
def F_cube_rests : List PyData → Option PyData := runF 1 2 b_cube_rests
theorem sc10 : FnScope ["p", "a", "t"] ["p", "a"] (defScope (top 13)) := ⟨rfl, rfl, rfl, by decide +kernel, rfl, by decide +kernel, by decide +kernel⟩
def c_cube_roots_0 : BF := (fTst (fOp oEq (fOp oMod (fOp oSub (fOp oMul (fOp oMul (fVar 2) (fVar 2)) (fVar 2)) (fVar 1)) (fVar 0)) (fC (.int 0))))
def e_cube_roots_1 : EF := (fVar 2)
def b_cube_roots : SF := (sRet (fR1 oTuple (fVal (fAsL (fComp [2] (fRng1 (fCons (fVar 0) fNil)) (gNm 2) c_cube_roots_0 e_cube_roots_1)))))
def F_cube_roots : List PyData → Option PyData := runF 2 3 b_cube_roots
theorem sc11 : FnScope ["m", "t"] ["m"] (defScope (top 14)) := ⟨rfl, rfl, rfl, by decide +kernel, rfl, by decide +kernel, by decide +kernel⟩
def e_cube_sign_row_0 : EF := (fCall F_cube_sign (fCons (fTup (fCons (fVar 1) (fCons (fC (.int 0)) fNil))) (fCons (fVar 0) fNil)))
def b_cube_sign_row : SF := (sRet (fAsL (fComp [1] (fRng1 (fCons (fCall F_cube_norm (fCons (fVar 0) fNil)) fNil)) (gNm 1) fYes e_cube_sign_row_0)))
def F_cube_sign_row : List PyData → Option PyData := runF 1 2 b_cube_sign_row
theorem sc12 : FnScope ["m", "p", "signs", "found", "t", "unit"] ["m"] (defScope (top 15)) := ⟨rfl, rfl, rfl, by decide +kernel, rfl, by decide +kernel, by decide +kernel⟩
def b_cube_sum_0 : SF := (sSeq (sSet 5 (fIx (fVal (fC (.tuple [(.tuple [(.int 1), (.int 0)]), (.tuple [(.int 0), (.int 1)]), (.tuple [(.int (-1)), (.int (-1))]), (.tuple [(.int (-1)), (.int 0)]), (.tuple [(.int 0), (.int (-1))]), (.tuple [(.int 1), (.int 1)])]))) (fOp oMod (fOp oAdd (fIx (fRd 2) (fVar 4)) (fIx (fRd 2) (fOp oMod (fOp oSub (fC (.int 1)) (fVar 4)) (fVar 1)))) (fC (.int 3)))))
    (sSet 3 (fTup (fCons (fOp oAdd (fIx (fRd 3) (fC (.int 0))) (fIx (fRd 5) (fC (.int 0)))) (fCons (fOp oAdd (fIx (fRd 3) (fC (.int 1))) (fIx (fRd 5) (fC (.int 1)))) fNil)))))
def b_cube_sum : SF := (sSeq (sPar 1 2 (fCall F_cube_norm (fCons (fVar 0) fNil)) (fCall F_cube_sign_row (fCons (fVar 0) fNil)))
    (sSeq (sSet 3 (fTup (fCons (fC (.int 0)) (fCons (fC (.int 0)) fNil))))
    (sSeq (sFor (fRng2 (fCons (fC (.int 2)) (fCons (fVar 1) fNil))) (gNm 4) b_cube_sum_0)
    (sRet (fVar 3)))))
def F_cube_sum : List PyData → Option PyData := runF 1 6 b_cube_sum
theorem sc13 : FnScope ["x", "root"] ["x"] (defScope (top 16)) := ⟨rfl, rfl, rfl, by decide +kernel, rfl, by decide +kernel, by decide +kernel⟩
def c_whole_root_of_0 : BF := (fTst (fOp oLe (fOp oMul (fOp oAdd (fVar 1) (fC (.int 1))) (fOp oAdd (fVar 1) (fC (.int 1)))) (fVar 0)))
def b_whole_root_of_1 : SF := (sSet 1 (fOp oAdd (fVar 1) (fC (.int 1))))
def b_whole_root_of : SF := (sSeq (sSet 1 (fC (.int 0)))
    (sSeq (whl c_whole_root_of_0 b_whole_root_of_1 fuel)
    (sRet (fIf (fTst (fOp oEq (fOp oMul (fVar 1) (fVar 1)) (fVar 0))) (fVar 1) (fC .none)))))
def F_whole_root_of : List PyData → Option PyData := runF 1 2 b_whole_root_of
theorem sc14 : FnScope ["p", "y", "x"] ["p"] (defScope (top 17)) := ⟨rfl, rfl, rfl, by decide +kernel, rfl, by decide +kernel, by decide +kernel⟩
def c_cube_way_0 : BF := (fTst (fOp oLt (fOp oMul (fOp oMul (fC (.int 27)) (fVar 1)) (fVar 1)) (fVar 0)))
def b_cube_way_1 : SF := (sSeq (sSet 2 (fCall F_whole_root_of (fCons (fOp oSub (fVar 0) (fOp oMul (fOp oMul (fC (.int 27)) (fVar 1)) (fVar 1))) fNil)))
    (sSeq (sIf (fTst (fUn oNotN (fVar 2))) (sRet (fTup (fCons (fVar 2) (fCons (fVar 1) fNil)))) sNil)
    (sSet 1 (fOp oAdd (fVar 1) (fC (.int 1))))))
def b_cube_way : SF := (sSeq (sSet 1 (fC (.int 1)))
    (sSeq (whl c_cube_way_0 b_cube_way_1 fuel)
    (sRet (fC .none))))
def F_cube_way : List PyData → Option PyData := runF 1 3 b_cube_way
theorem sc15 : FnScope ["p"] ["p"] (defScope (top 18)) := ⟨rfl, rfl, rfl, by decide +kernel, rfl, by decide +kernel, by decide +kernel⟩
def b_is_two_cube : SF := (sRet (fOp oGt (fR1 oLen (fVal (fCall F_cube_roots (fCons (fVar 0) (fCons (fC (.int 2)) fNil))))) (fC (.int 0))))
def F_is_two_cube : List PyData → Option PyData := runF 1 1 b_is_two_cube
theorem sc18 : FnScope ["n", "d"] ["n"] (defScope (top 22)) := ⟨rfl, rfl, rfl, by decide +kernel, rfl, by decide +kernel, by decide +kernel⟩
def c_law_is_prime_0 : BF := (fTst (fOp oLe (fOp oMul (fVar 1) (fVar 1)) (fVar 0)))
def e_law_is_prime_1 : EF := (fOp oEq (fOp oMod (fR1 oInt (fRd 0)) (fVar 1)) (fC (.int 0)))
def b_law_is_prime : SF := (sRet (fAndV (fOp oGt (fVar 0) (fC (.int 1))) (fNotV (fR1 oAny (fVal (fAsL (fComp [1] (fRng2 (fCons (fC (.int 2)) (fCons (fVar 0) fNil))) (gNm 1) c_law_is_prime_0 e_law_is_prime_1)))))))
def F_law_is_prime : List PyData → Option PyData := runF 1 2 b_law_is_prime
theorem sc20 : FnScope ["p", "k", "found", "x", "power", "turn"] ["p", "k"] (defScope (top 24)) := ⟨rfl, rfl, rfl, by decide +kernel, rfl, by decide +kernel, by decide +kernel⟩
def b_law_ways_0 : SF := (sSet 4 (fOp oMod (fR1 oInt (fVal (fOp oMul (fVar 4) (fVar 3)))) (fVar 0)))
def b_law_ways_1 : SF := (sSeq (sSet 4 (fC (.int 1)))
    (sSeq (sFor (fRng1 (fCons (fVar 1) fNil)) (gNm 5) b_law_ways_0)
    (sIx 2 (fOp oAdd (fIx (fRd 2) (fVar 4)) (fC (.int 1))) (fVar 4))))
def b_law_ways : SF := (sSeq (sOwn 2 (fRep (fAsL (fLst (fCons (fC (.int 0)) fNil))) (fVar 0)))
    (sSeq (sFor (fRng1 (fCons (fVar 0) fNil)) (gNm 3) b_law_ways_1)
    (fun ρ => (sRet (fVar 2)) (frzS 2 ρ))))
def F_law_ways : List PyData → Option PyData := runF 2 6 b_law_ways
theorem sc21 : FnScope ["n", "x"] ["n"] (defScope (top 25)) := ⟨rfl, rfl, rfl, by decide +kernel, rfl, by decide +kernel, by decide +kernel⟩
def c_law_root_0 : BF := (fTst (fOp oLt (fOp oMul (fVar 1) (fVar 1)) (fVar 0)))
def b_law_root_1 : SF := (sSet 1 (fOp oAdd (fVar 1) (fC (.int 1))))
def b_law_root : SF := (sSeq (sSet 1 (fC (.int 0)))
    (sSeq (whl c_law_root_0 b_law_root_1 fuel)
    (sRet (fIf (fTst (fOp oEq (fOp oMul (fVar 1) (fVar 1)) (fVar 0))) (fVar 1) (fC .none)))))
def F_law_root : List PyData → Option PyData := runF 1 2 b_law_root
theorem sc22 : FnScope ["p", "many", "y"] ["p", "many"] (defScope (top 26)) := ⟨rfl, rfl, rfl, by decide +kernel, rfl, by decide +kernel, by decide +kernel⟩
def c_law_four_way_0 : BF := (fTst (fOp oLt (fOp oMul (fOp oMul (fVar 1) (fVar 2)) (fVar 2)) (fOp oMul (fC (.int 4)) (fVar 0))))
def e_law_four_way_1 : EF := (fUn oNotN (fCall F_law_root (fCons (fOp oSub (fOp oMul (fC (.int 4)) (fVar 0)) (fOp oMul (fOp oMul (fVar 1) (fVar 2)) (fVar 2))) fNil)))
def b_law_four_way : SF := (sRet (fR1 oAny (fVal (fAsL (fComp [2] (fRng2 (fCons (fC (.int 1)) (fCons (fVar 0) fNil))) (gNm 2) c_law_four_way_0 e_law_four_way_1)))))
def F_law_four_way : List PyData → Option PyData := runF 2 3 b_law_four_way
structure Tx (K : PySem.W.Frag) (mg : Str → Option Value) (ad : Nat → Addr) (fd : Nat → FuncData) : Prop where
  F0 : Fun K "cube_times" "cube_times" (top 2) (ad 0) (fd 0)
  g0 : mg "cube_times" = some (.ref (ad 0))
  b0 : Binds K (fd 0) ["x", "y"] []
  F1 : Fun K "cube_norm" "cube_norm" (top 3) (ad 1) (fd 1)
  g1 : mg "cube_norm" = some (.ref (ad 1))
  b1 : Binds K (fd 1) ["x"] []
  F2 : Fun K "cube_conjugate" "cube_conjugate" (top 4) (ad 2) (fd 2)
  g2 : mg "cube_conjugate" = some (.ref (ad 2))
  b2 : Binds K (fd 2) ["x"] []
  F3 : Fun K "nearest_whole" "nearest_whole" (top 5) (ad 3) (fd 3)
  g3 : mg "nearest_whole" = some (.ref (ad 3))
  b3 : Binds K (fd 3) ["above", "below"] []
  F4 : Fun K "cube_rest" "cube_rest" (top 6) (ad 4) (fd 4)
  g4 : mg "cube_rest" = some (.ref (ad 4))
  b4 : Binds K (fd 4) ["x", "m"] []
  F5 : Fun K "is_primary" "is_primary" (top 7) (ad 5) (fd 5)
  g5 : mg "is_primary" = some (.ref (ad 5))
  b5 : Binds K (fd 5) ["x"] []
  F6 : Fun K "cube_power" "cube_power" (top 8) (ad 6) (fd 6)
  g6 : mg "cube_power" = some (.ref (ad 6))
  b6 : Binds K (fd 6) ["x", "e", "m"] []
  F7 : Fun K "cube_sign" "cube_sign" (top 9) (ad 7) (fd 7)
  g7 : mg "cube_sign" = some (.ref (ad 7))
  b7 : Binds K (fd 7) ["x", "m"] []
  F8 : Fun K "primary_prime" "primary_prime" (top 10) (ad 8) (fd 8)
  g8 : mg "primary_prime" = some (.ref (ad 8))
  b8 : Binds K (fd 8) ["p"] []
  F9 : Fun K "cube_rests" "cube_rests" (top 12) (ad 9) (fd 9)
  g9 : mg "cube_rests" = some (.ref (ad 9))
  b9 : Binds K (fd 9) ["p"] []
  F10 : Fun K "cube_roots" "cube_roots" (top 13) (ad 10) (fd 10)
  g10 : mg "cube_roots" = some (.ref (ad 10))
  b10 : Binds K (fd 10) ["p", "a"] []
  F11 : Fun K "cube_sign_row" "cube_sign_row" (top 14) (ad 11) (fd 11)
  g11 : mg "cube_sign_row" = some (.ref (ad 11))
  b11 : Binds K (fd 11) ["m"] []
  F12 : Fun K "cube_sum" "cube_sum" (top 15) (ad 12) (fd 12)
  g12 : mg "cube_sum" = some (.ref (ad 12))
  b12 : Binds K (fd 12) ["m"] []
  F13 : Fun K "whole_root_of" "whole_root_of" (top 16) (ad 13) (fd 13)
  g13 : mg "whole_root_of" = some (.ref (ad 13))
  b13 : Binds K (fd 13) ["x"] []
  F14 : Fun K "cube_way" "cube_way" (top 17) (ad 14) (fd 14)
  g14 : mg "cube_way" = some (.ref (ad 14))
  b14 : Binds K (fd 14) ["p"] []
  F15 : Fun K "is_two_cube" "is_two_cube" (top 18) (ad 15) (fd 15)
  g15 : mg "is_two_cube" = some (.ref (ad 15))
  b15 : Binds K (fd 15) ["p"] []
  F16 : Fun K "_law_open_cells" "_law_open_cells" (top 20) (ad 16) (fd 16)
  g16 : mg "_law_open_cells" = some (.ref (ad 16))
  b16 : Binds K (fd 16) ["script"] []
  F17 : Fun K "_law_pick" "_law_pick" (top 21) (ad 17) (fd 17)
  g17 : mg "_law_pick" = some (.ref (ad 17))
  b17 : Binds K (fd 17) ["source", "most"] []
  F18 : Fun K "_law_is_prime" "_law_is_prime" (top 22) (ad 18) (fd 18)
  g18 : mg "_law_is_prime" = some (.ref (ad 18))
  b18 : Binds K (fd 18) ["n"] []
  F19 : Fun K "_law_prime" "_law_prime" (top 23) (ad 19) (fd 19)
  g19 : mg "_law_prime" = some (.ref (ad 19))
  b19 : Binds K (fd 19) ["source", "most", "by"] []
  F20 : Fun K "_law_ways" "_law_ways" (top 24) (ad 20) (fd 20)
  g20 : mg "_law_ways" = some (.ref (ad 20))
  b20 : Binds K (fd 20) ["p", "k"] []
  F21 : Fun K "_law_root" "_law_root" (top 25) (ad 21) (fd 21)
  g21 : mg "_law_root" = some (.ref (ad 21))
  b21 : Binds K (fd 21) ["n"] []
  F22 : Fun K "_law_four_way" "_law_four_way" (top 26) (ad 22) (fd 22)
  g22 : mg "_law_four_way" = some (.ref (ad 22))
  b22 : Binds K (fd 22) ["p", "many"] []
  F23 : Fun K "law" "law" (top 27) (ad 23) (fd 23)
  g23 : mg "law" = some (.ref (ad 23))
  b23 : Binds K (fd 23) ["script"] []
  m_abs : mg "abs" = none
  m_any : mg "any" = none
  m_dict : mg "dict" = none
  m_int : mg "int" = none
  m_len : mg "len" = none
  m_list : mg "list" = none
  m_range : mg "range" = none
  m_repr : mg "repr" = none
  m_sorted : mg "sorted" = none
  m_sum : mg "sum" = none
  m_tuple : mg "tuple" = none
  c_CUBE_UNITS : ∃ u, mg "CUBE_UNITS" = some u ∧ ckD K (.tuple [(.tuple [(.int 1), (.int 0)]), (.tuple [(.int 0), (.int 1)]), (.tuple [(.int (-1)), (.int (-1))]), (.tuple [(.int (-1)), (.int 0)]), (.tuple [(.int 0), (.int (-1))]), (.tuple [(.int 1), (.int 1)])]) u = true
section
variable {P : Program} {w : World} {K : PySem.W.Frag} {mg : Str → Option Value} {base : Heap} {ad : Nat → Addr} {fd : Nat → FuncData}
theorem d_cube_times (T : Tx K mg ad fd) : FnG P w K mg base 1 (ad 0) (fd 0) ["x", "y"] (spF K F_cube_times) := by
  refine fnRun (fb := b_cube_times) T.F0 sc0 (fun cdv A outer s H hr hG => ?_)
  exact (fss_cons (fs_tg (fe_tup (fa_cons (fe_v 0 (pv 0)) (fa_cons (fe_v 1 (pv 1)) fa_nil))) (fg_tup rfl (fgs_cons (fg_tup rfl (fgs_cons (fg_name (i := 2) sc0.nd rfl (by first | exact Or.inl rfl | exact Or.inr rfl)) (fgs_cons (fg_name (i := 3) sc0.nd rfl (by first | exact Or.inl rfl | exact Or.inr rfl)) fgs_nil))) (fgs_cons (fg_tup rfl (fgs_cons (fg_name (i := 4) sc0.nd rfl (by first | exact Or.inl rfl | exact Or.inr rfl)) (fgs_cons (fg_name (i := 5) sc0.nd rfl (by first | exact Or.inl rfl | exact Or.inr rfl)) fgs_nil))) fgs_nil))))
    (fss_one (fs_ret (fe_tup (fa_cons (fe_sub (fe_mul (fe_v 2 (pv 2)) (fe_v 4 (pv 4))) (fe_mul (fe_v 3 (pv 3)) (fe_v 5 (pv 5)))) (fa_cons (fe_sub (fe_add (fe_mul (fe_v 2 (pv 2)) (fe_v 5 (pv 5))) (fe_mul (fe_v 3 (pv 3)) (fe_v 4 (pv 4)))) (fe_mul (fe_v 3 (pv 3)) (fe_v 5 (pv 5)))) fa_nil))))))
theorem d_cube_norm (T : Tx K mg ad fd) : FnG P w K mg base 1 (ad 1) (fd 1) ["x"] (spF K F_cube_norm) := by
  refine fnRun (fb := b_cube_norm) T.F1 sc1 (fun cdv A outer s H hr hG => ?_)
  exact (fss_one (fs_ret (fe_add (fe_sub (fe_mul (fe_ix (fr_v 0 (pv 0)) fe_int) (fe_ix (fr_v 0 (pv 0)) fe_int)) (fe_mul (fe_ix (fr_v 0 (pv 0)) fe_int) (fe_ix (fr_v 0 (pv 0)) fe_int))) (fe_mul (fe_ix (fr_v 0 (pv 0)) fe_int) (fe_ix (fr_v 0 (pv 0)) fe_int)))))
theorem d_cube_conjugate (T : Tx K mg ad fd) : FnG P w K mg base 1 (ad 2) (fd 2) ["x"] (spF K F_cube_conjugate) := by
  refine fnRun (fb := b_cube_conjugate) T.F2 sc2 (fun cdv A outer s H hr hG => ?_)
  exact (fss_one (fs_ret (fe_tup (fa_cons (fe_sub (fe_ix (fr_v 0 (pv 0)) fe_int) (fe_ix (fr_v 0 (pv 0)) fe_int)) (fa_cons (fe_sub fe_int (fe_ix (fr_v 0 (pv 0)) fe_int)) fa_nil)))))
theorem d_nearest_whole (T : Tx K mg ad fd) : FnG P w K mg base 1 (ad 3) (fd 3) ["above", "below"] (spF K F_nearest_whole) := by
  refine fnRun (fb := b_nearest_whole) T.F3 sc3 (fun cdv A outer s H hr hG => ?_)
  exact (fss_one (fs_ret (fe_fdiv (fe_add (fe_mul fe_int (fe_v 0 (pv 0))) (fe_v 1 (pv 1))) (fe_mul fe_int (fe_v 1 (pv 1))))))
theorem d_cube_rest (T : Tx K mg ad fd) : FnG P w K mg base 2 (ad 4) (fd 4) ["x", "m"] (spF K F_cube_rest) := by
  have D1 : FnG P w K mg base 1 (ad 1) (fd 1) _ (spF K F_cube_norm) := d_cube_norm T
  have D0 : FnG P w K mg base 1 (ad 0) (fd 0) _ (spF K F_cube_times) := d_cube_times T
  have D2 : FnG P w K mg base 1 (ad 2) (fd 2) _ (spF K F_cube_conjugate) := d_cube_conjugate T
  have D3 : FnG P w K mg base 1 (ad 3) (fd 3) _ (spF K F_nearest_whole) := d_nearest_whole T
  refine fnRun (fb := b_cube_rest) T.F4 sc4 (fun cdv A outer s H hr hG => ?_)
  exact (fss_cons (fs_par (i := 2) (j := 3) (fun _ _ h h2 => ps_par rfl sc4.nd rfl rfl (by decide) rfl rfl (pa_cons h (pa_cons h2 pa_nil)) rfl) (fe_call D1 (hr.mono (by decide)) hG rfl T.g1 T.F1.kp T.b1 (fa_cons (fe_v 1 (pv 1)) fa_nil)) (fe_call D0 (hr.mono (by decide)) hG rfl T.g0 T.F0.kp T.b0 (fa_cons (fe_v 0 (pv 0)) (fa_cons (fe_call D2 (hr.mono (by decide)) hG rfl T.g2 T.F2.kp T.b2 (fa_cons (fe_v 1 (pv 1)) fa_nil)) fa_nil))))
    (fss_cons (fs_set (i := 4) sc4.nd rfl (by first | exact Or.inl rfl | exact Or.inr rfl) (fe_call D0 (hr.mono (by decide)) hG rfl T.g0 T.F0.kp T.b0 (fa_cons (fe_tup (fa_cons (fe_call D3 (hr.mono (by decide)) hG rfl T.g3 T.F3.kp T.b3 (fa_cons (fe_ix (fr_v 3 (pv 3)) fe_int) (fa_cons (fe_v 2 (pv 2)) fa_nil))) (fa_cons (fe_call D3 (hr.mono (by decide)) hG rfl T.g3 T.F3.kp T.b3 (fa_cons (fe_ix (fr_v 3 (pv 3)) fe_int) (fa_cons (fe_v 2 (pv 2)) fa_nil))) fa_nil))) (fa_cons (fe_v 1 (pv 1)) fa_nil))))
    (fss_one (fs_ret (fe_tup (fa_cons (fe_sub (fe_ix (fr_v 0 (pv 0)) fe_int) (fe_ix (fr_v 4 (pv 4)) fe_int)) (fa_cons (fe_sub (fe_ix (fr_v 0 (pv 0)) fe_int) (fe_ix (fr_v 4 (pv 4)) fe_int)) fa_nil)))))))
theorem d_is_primary (T : Tx K mg ad fd) : FnG P w K mg base 1 (ad 5) (fd 5) ["x"] (spF K F_is_primary) := by
  refine fnRun (fb := b_is_primary) T.F5 sc5 (fun cdv A outer s H hr hG => ?_)
  exact (fss_one (fs_ret (fe_and (fe_eq hr.units (fe_mod (fe_ix (fr_v 0 (pv 0)) fe_int) fe_int) fe_int) (fe_one (fe_eq hr.units (fe_mod (fe_ix (fr_v 0 (pv 0)) fe_int) fe_int) fe_int)))))
theorem d_cube_power (T : Tx K mg ad fd) : FnG P w K mg base 3 (ad 6) (fd 6) ["x", "e", "m"] (spF K F_cube_power) := by
  have D4 : FnG P w K mg base 2 (ad 4) (fd 4) _ (spF K F_cube_rest) := d_cube_rest T
  have D0 : FnG P w K mg base 1 (ad 0) (fd 0) _ (spF K F_cube_times) := d_cube_times T
  refine fnRun (fb := b_cube_power) T.F6 sc6 (fun cdv A outer s H hr hG => ?_)
  exact (fss_cons (fs_par (i := 3) (j := 4) (fun _ _ h h2 => ps_par rfl sc6.nd rfl rfl (by decide) rfl rfl (pa_cons h (pa_cons h2 pa_nil)) rfl) (fe_tup (fa_cons fe_int (fa_cons fe_int fa_nil))) (fe_call D4 (hr.mono (by decide)) hG rfl T.g4 T.F4.kp T.b4 (fa_cons (fe_v 0 (pv 0)) (fa_cons (fe_v 2 (pv 2)) fa_nil))))
    (fss_cons (fs_while (n := fuel) (ft_gt (fe_v 1 (pv 1)) fe_int) (fss_cons (fs_if (ft_eq hr.units (fe_mod (fe_v 1 (pv 1)) fe_int) fe_int) (fss_one (fs_set (i := 3) sc6.nd rfl (by first | exact Or.inl rfl | exact Or.inr rfl) (fe_call D4 (hr.mono (by decide)) hG rfl T.g4 T.F4.kp T.b4 (fa_cons (fe_call D0 (hr.mono (by decide)) hG rfl T.g0 T.F0.kp T.b0 (fa_cons (fe_v 3 (pv 3)) (fa_cons (fe_v 4 (pv 4)) fa_nil))) (fa_cons (fe_v 2 (pv 2)) fa_nil))))) fss_nil)
    (fss_one (fs_par (i := 4) (j := 1) (fun _ _ h h2 => ps_par rfl sc6.nd rfl rfl (by decide) rfl rfl (pa_cons h (pa_cons h2 pa_nil)) rfl) (fe_call D4 (hr.mono (by decide)) hG rfl T.g4 T.F4.kp T.b4 (fa_cons (fe_call D0 (hr.mono (by decide)) hG rfl T.g0 T.F0.kp T.b0 (fa_cons (fe_v 4 (pv 4)) (fa_cons (fe_v 4 (pv 4)) fa_nil))) (fa_cons (fe_v 2 (pv 2)) fa_nil))) (fe_fdiv (fe_v 1 (pv 1)) fe_int)))))
    (fss_one (fs_ret (fe_v 3 (pv 3))))))
theorem d_cube_sign (T : Tx K mg ad fd) : FnG P w K mg base 4 (ad 7) (fd 7) ["x", "m"] (spF K F_cube_sign) := by
  have D4 : FnG P w K mg base 2 (ad 4) (fd 4) _ (spF K F_cube_rest) := d_cube_rest T
  have D6 : FnG P w K mg base 3 (ad 6) (fd 6) _ (spF K F_cube_power) := d_cube_power T
  have D1 : FnG P w K mg base 1 (ad 1) (fd 1) _ (spF K F_cube_norm) := d_cube_norm T
  refine fnRun (fb := b_cube_sign) T.F7 sc7 (fun cdv A outer s H hr hG => ?_)
  exact (fss_cons (fs_if (ft_eq hr.units (fe_call D4 (hr.mono (by decide)) hG rfl T.g4 T.F4.kp T.b4 (fa_cons (fe_v 0 (pv 0)) (fa_cons (fe_v 1 (pv 1)) fa_nil))) (fe_tup (fa_cons fe_int (fa_cons fe_int fa_nil)))) (fss_one (fs_ret fe_non)) fss_nil)
    (fss_cons (fs_set (i := 2) sc7.nd rfl (by first | exact Or.inl rfl | exact Or.inr rfl) (fe_call D6 (hr.mono (by decide)) hG rfl T.g6 T.F6.kp T.b6 (fa_cons (fe_v 0 (pv 0)) (fa_cons (fe_fdiv (fe_sub (fe_call D1 (hr.mono (by decide)) hG rfl T.g1 T.F1.kp T.b1 (fa_cons (fe_v 1 (pv 1)) fa_nil)) fe_int) fe_int) (fa_cons (fe_v 1 (pv 1)) fa_nil)))))
    (fss_cons (fs_for rfl (fi_rng1 (fa_cons fe_int fa_nil) rfl T.m_range) (fg_name (i := 3) sc7.nd rfl (by first | exact Or.inl rfl | exact Or.inr rfl)) (fss_cons (fs_set (i := 4) sc7.nd rfl (by first | exact Or.inl rfl | exact Or.inr rfl) (fe_ix (FE.rd (fe_con rfl T.c_CUBE_UNITS)) (fe_v 3 (pv 3))))
    (fss_one (fs_if (ft_eq hr.units (fe_call D4 (hr.mono (by decide)) hG rfl T.g4 T.F4.kp T.b4 (fa_cons (fe_tup (fa_cons (fe_sub (fe_ix (fr_v 2 (pv 2)) fe_int) (fe_ix (fr_v 4 (pv 4)) fe_int)) (fa_cons (fe_sub (fe_ix (fr_v 2 (pv 2)) fe_int) (fe_ix (fr_v 4 (pv 4)) fe_int)) fa_nil))) (fa_cons (fe_v 1 (pv 1)) fa_nil))) (fe_tup (fa_cons fe_int (fa_cons fe_int fa_nil)))) (fss_one (fs_ret (fe_v 3 (pv 3)))) fss_nil))))
    (fss_one (fs_ret fe_non)))))
theorem d_primary_prime (T : Tx K mg ad fd) : FnG P w K mg base 2 (ad 8) (fd 8) ["p"] (spF K F_primary_prime) := by
  have D1 : FnG P w K mg base 1 (ad 1) (fd 1) _ (spF K F_cube_norm) := d_cube_norm T
  have D5 : FnG P w K mg base 1 (ad 5) (fd 5) _ (spF K F_is_primary) := d_is_primary T
  refine fnRun (fb := b_primary_prime) T.F8 sc8 (fun cdv A outer s H hr hG => ?_)
  exact (fss_cons (fs_set (i := 1) sc8.nd rfl (by first | exact Or.inl rfl | exact Or.inr rfl) fe_int)
    (fss_one (fs_while (n := fuel) (ft_val fe_bl) (fss_cons (fs_set (i := 2) sc8.nd rfl (by first | exact Or.inl rfl | exact Or.inr rfl) fe_int)
    (fss_cons (fs_while (n := fuel) (ft_le (fe_mul (fe_add (fe_v 2 (pv 2)) fe_int) (fe_add (fe_v 2 (pv 2)) fe_int)) (fe_sub (fe_mul fe_int (fe_v 0 (pv 0))) (fe_mul (fe_mul fe_int (fe_v 1 (pv 1))) (fe_v 1 (pv 1))))) (fss_one (fs_set (i := 2) sc8.nd rfl (by first | exact Or.inl rfl | exact Or.inr rfl) (fe_add (fe_v 2 (pv 2)) fe_int))))
    (fss_cons (fs_if (ft_eq hr.units (fe_mul (fe_v 2 (pv 2)) (fe_v 2 (pv 2))) (fe_sub (fe_mul fe_int (fe_v 0 (pv 0))) (fe_mul (fe_mul fe_int (fe_v 1 (pv 1))) (fe_v 1 (pv 1))))) (fss_cons (fs_set (i := 3) sc8.nd rfl (by first | exact Or.inl rfl | exact Or.inr rfl) (FL.fe (fl_lst (fa_cons (fe_fdiv (fe_add (fe_v 1 (pv 1)) (fe_v 2 (pv 2))) fe_int) (fa_cons (fe_fdiv (fe_sub (fe_v 1 (pv 1)) (fe_v 2 (pv 2))) fe_int) fa_nil)))))
    (fss_cons (fs_lcV (i := 3) [("a", 4)] rfl sc8.nd rfl rfl (sw_true rfl rfl rfl (by decide +kernel)) (fi_seq (fe_v 3 (pv 3))) (blkOk_by (N := ["p", "b", "root", "some", "a"]) (sc := defScope (top 10)) (by decide +kernel)) (fun _ _ _ _ _ => (fg_name (i := 4) sc8.nd rfl (by first | exact Or.inl rfl | exact Or.inr rfl))) (fun _ _ _ _ _ => (fts_one (FW.ft (fw_and (ft_val (fe_call D5 (hr.mono (by decide)) hG rfl T.g5 T.F5.kp T.b5 (fa_cons (fe_tup (fa_cons (fe_v 4 (pv 4)) (fa_cons (fe_v 1 (pv 1)) fa_nil))) fa_nil))) (fw_and1 (ft_eq hr.units (fe_call D1 (hr.mono (by decide)) hG rfl T.g1 T.F1.kp T.b1 (fa_cons (fe_tup (fa_cons (fe_v 4 (pv 4)) (fa_cons (fe_v 1 (pv 1)) fa_nil))) fa_nil)) (fe_v 0 (pv 0)))))))) (fun _ _ _ _ _ => (fe_tup (fa_cons (fe_v 4 (pv 4)) (fa_cons (fe_v 1 (pv 1)) fa_nil)))))
    (fss_one (fs_if (ft_ne hr.units (fe_v 3 (pv 3)) (FL.fe (fl_lst fa_nil))) (fss_one (fs_ret (fe_ix (fr_v 3 (pv 3)) fe_int))) fss_nil)))) fss_nil)
    (fss_one (fs_set (i := 1) sc8.nd rfl (by first | exact Or.inl rfl | exact Or.inr rfl) (fe_add (fe_v 1 (pv 1)) fe_int)))))))))
theorem d_cube_rests (T : Tx K mg ad fd) : FnG P w K mg base 1 (ad 9) (fd 9) ["p"] (spF K F_cube_rests) := by
  refine fnRun (fb := b_cube_rests) T.F9 sc9 (fun cdv A outer s H hr hG => ?_)
  exact (fss_one (fs_ret (fe_tuple (FE.rd (FL.fe (fl_sortDict rfl (FE.rd (FL.fe (fl_lc [("t", 1)] rfl sc9.nd (fi_rng2 (fa_cons fe_int (fa_cons (fe_v 0 (pv 0)) fa_nil)) rfl T.m_range) (blkOk_by (N := ["p", "t"]) (sc := defScope (top 12)) (by decide +kernel)) (fun _ _ _ _ _ => (fg_name (i := 1) sc9.nd rfl (by first | exact Or.inl rfl | exact Or.inr rfl))) (fun _ _ _ _ _ => fts_nil) (fun _ _ _ _ _ => (fe_tup (fa_cons (fe_mod (fe_mul (fe_mul (fe_v 1 (pv 1)) (fe_v 1 (pv 1))) (fe_v 1 (pv 1))) (fe_v 0 (pv 0))) (fa_cons fe_bl fa_nil))))))) rfl T.m_sorted rfl T.m_dict))) rfl T.m_tuple)))
theorem d_cube_roots (T : Tx K mg ad fd) : FnG P w K mg base 1 (ad 10) (fd 10) ["p", "a"] (spF K F_cube_roots) := by
  refine fnRun (fb := b_cube_roots) T.F10 sc10 (fun cdv A outer s H hr hG => ?_)
  exact (fss_one (fs_ret (fe_tuple (FE.rd (FL.fe (fl_lc [("t", 2)] rfl sc10.nd (fi_rng1 (fa_cons (fe_v 0 (pv 0)) fa_nil) rfl T.m_range) (blkOk_by (N := ["p", "a", "t"]) (sc := defScope (top 13)) (by decide +kernel)) (fun _ _ _ _ _ => (fg_name (i := 2) sc10.nd rfl (by first | exact Or.inl rfl | exact Or.inr rfl))) (fun _ _ _ _ _ => (fts_one (ft_eq hr.units (fe_mod (fe_sub (fe_mul (fe_mul (fe_v 2 (pv 2)) (fe_v 2 (pv 2))) (fe_v 2 (pv 2))) (fe_v 1 (pv 1))) (fe_v 0 (pv 0))) fe_int))) (fun _ _ _ _ _ => (fe_v 2 (pv 2)))))) rfl T.m_tuple)))
theorem d_cube_sign_row (T : Tx K mg ad fd) : FnG P w K mg base 5 (ad 11) (fd 11) ["m"] (spF K F_cube_sign_row) := by
  have D1 : FnG P w K mg base 1 (ad 1) (fd 1) _ (spF K F_cube_norm) := d_cube_norm T
  have D7 : FnG P w K mg base 4 (ad 7) (fd 7) _ (spF K F_cube_sign) := d_cube_sign T
  refine fnRun (fb := b_cube_sign_row) T.F11 sc11 (fun cdv A outer s H hr hG => ?_)
  exact (fss_one (fs_ret (FL.fe (fl_lc [("t", 1)] rfl sc11.nd (fi_rng1 (fa_cons (fe_call D1 (hr.mono (by decide)) hG rfl T.g1 T.F1.kp T.b1 (fa_cons (fe_v 0 (pv 0)) fa_nil)) fa_nil) rfl T.m_range) (blkOk_by (N := ["m", "t"]) (sc := defScope (top 14)) (by decide +kernel)) (fun _ _ _ _ _ => (fg_name (i := 1) sc11.nd rfl (by first | exact Or.inl rfl | exact Or.inr rfl))) (fun _ _ _ _ _ => fts_nil) (fun _ _ _ _ _ => (fe_call D7 (hr.mono (by decide)) hG rfl T.g7 T.F7.kp T.b7 (fa_cons (fe_tup (fa_cons (fe_v 1 (pv 1)) (fa_cons fe_int fa_nil))) (fa_cons (fe_v 0 (pv 0)) fa_nil))))))))
theorem d_cube_sum (T : Tx K mg ad fd) : FnG P w K mg base 6 (ad 12) (fd 12) ["m"] (spF K F_cube_sum) := by
  have D1 : FnG P w K mg base 1 (ad 1) (fd 1) _ (spF K F_cube_norm) := d_cube_norm T
  have D11 : FnG P w K mg base 5 (ad 11) (fd 11) _ (spF K F_cube_sign_row) := d_cube_sign_row T
  refine fnRun (fb := b_cube_sum) T.F12 sc12 (fun cdv A outer s H hr hG => ?_)
  exact (fss_cons (fs_par (i := 1) (j := 2) (fun _ _ h h2 => ps_par rfl sc12.nd rfl rfl (by decide) rfl rfl (pa_cons h (pa_cons h2 pa_nil)) rfl) (fe_call D1 (hr.mono (by decide)) hG rfl T.g1 T.F1.kp T.b1 (fa_cons (fe_v 0 (pv 0)) fa_nil)) (fe_call D11 (hr.mono (by decide)) hG rfl T.g11 T.F11.kp T.b11 (fa_cons (fe_v 0 (pv 0)) fa_nil)))
    (fss_cons (fs_set (i := 3) sc12.nd rfl (by first | exact Or.inl rfl | exact Or.inr rfl) (fe_tup (fa_cons fe_int (fa_cons fe_int fa_nil))))
    (fss_cons (fs_for rfl (fi_rng2 (fa_cons fe_int (fa_cons (fe_v 1 (pv 1)) fa_nil)) rfl T.m_range) (fg_name (i := 4) sc12.nd rfl (by first | exact Or.inl rfl | exact Or.inr rfl)) (fss_cons (fs_set (i := 5) sc12.nd rfl (by first | exact Or.inl rfl | exact Or.inr rfl) (fe_ix (FE.rd (fe_con rfl T.c_CUBE_UNITS)) (fe_mod (fe_add (fe_ix (fr_v 2 (pv 2)) (fe_v 4 (pv 4))) (fe_ix (fr_v 2 (pv 2)) (fe_mod (fe_sub fe_int (fe_v 4 (pv 4))) (fe_v 1 (pv 1))))) fe_int)))
    (fss_one (fs_set (i := 3) sc12.nd rfl (by first | exact Or.inl rfl | exact Or.inr rfl) (fe_tup (fa_cons (fe_add (fe_ix (fr_v 3 (pv 3)) fe_int) (fe_ix (fr_v 5 (pv 5)) fe_int)) (fa_cons (fe_add (fe_ix (fr_v 3 (pv 3)) fe_int) (fe_ix (fr_v 5 (pv 5)) fe_int)) fa_nil)))))))
    (fss_one (fs_ret (fe_v 3 (pv 3)))))))
theorem d_whole_root_of (T : Tx K mg ad fd) : FnG P w K mg base 1 (ad 13) (fd 13) ["x"] (spF K F_whole_root_of) := by
  refine fnRun (fb := b_whole_root_of) T.F13 sc13 (fun cdv A outer s H hr hG => ?_)
  exact (fss_cons (fs_set (i := 1) sc13.nd rfl (by first | exact Or.inl rfl | exact Or.inr rfl) fe_int)
    (fss_cons (fs_while (n := fuel) (ft_le (fe_mul (fe_add (fe_v 1 (pv 1)) fe_int) (fe_add (fe_v 1 (pv 1)) fe_int)) (fe_v 0 (pv 0))) (fss_one (fs_set (i := 1) sc13.nd rfl (by first | exact Or.inl rfl | exact Or.inr rfl) (fe_add (fe_v 1 (pv 1)) fe_int))))
    (fss_one (fs_ret (fe_ifExp (ft_eq hr.units (fe_mul (fe_v 1 (pv 1)) (fe_v 1 (pv 1))) (fe_v 0 (pv 0))) (fe_v 1 (pv 1)) fe_non)))))
theorem d_cube_way (T : Tx K mg ad fd) : FnG P w K mg base 2 (ad 14) (fd 14) ["p"] (spF K F_cube_way) := by
  have D13 : FnG P w K mg base 1 (ad 13) (fd 13) _ (spF K F_whole_root_of) := d_whole_root_of T
  refine fnRun (fb := b_cube_way) T.F14 sc14 (fun cdv A outer s H hr hG => ?_)
  exact (fss_cons (fs_set (i := 1) sc14.nd rfl (by first | exact Or.inl rfl | exact Or.inr rfl) fe_int)
    (fss_cons (fs_while (n := fuel) (ft_lt (fe_mul (fe_mul fe_int (fe_v 1 (pv 1))) (fe_v 1 (pv 1))) (fe_v 0 (pv 0))) (fss_cons (fs_set (i := 2) sc14.nd rfl (by first | exact Or.inl rfl | exact Or.inr rfl) (fe_call D13 (hr.mono (by decide)) hG rfl T.g13 T.F13.kp T.b13 (fa_cons (fe_sub (fe_v 0 (pv 0)) (fe_mul (fe_mul fe_int (fe_v 1 (pv 1))) (fe_v 1 (pv 1)))) fa_nil)))
    (fss_cons (fs_if (ft_notN (fe_v 2 (pv 2))) (fss_one (fs_ret (fe_tup (fa_cons (fe_v 2 (pv 2)) (fa_cons (fe_v 1 (pv 1)) fa_nil))))) fss_nil)
    (fss_one (fs_set (i := 1) sc14.nd rfl (by first | exact Or.inl rfl | exact Or.inr rfl) (fe_add (fe_v 1 (pv 1)) fe_int))))))
    (fss_one (fs_ret fe_non))))
theorem d_is_two_cube (T : Tx K mg ad fd) : FnG P w K mg base 2 (ad 15) (fd 15) ["p"] (spF K F_is_two_cube) := by
  have D10 : FnG P w K mg base 1 (ad 10) (fd 10) _ (spF K F_cube_roots) := d_cube_roots T
  refine fnRun (fb := b_is_two_cube) T.F15 sc15 (fun cdv A outer s H hr hG => ?_)
  exact (fss_one (fs_ret (fe_gt (fe_len (FE.rd (fe_call D10 (hr.mono (by decide)) hG rfl T.g10 T.F10.kp T.b10 (fa_cons (fe_v 0 (pv 0)) (fa_cons fe_int fa_nil)))) rfl T.m_len) fe_int)))
theorem d_law_is_prime (T : Tx K mg ad fd) : FnG P w K mg base 1 (ad 18) (fd 18) ["n"] (spF K F_law_is_prime) := by
  refine fnRun (fb := b_law_is_prime) T.F18 sc18 (fun cdv A outer s H hr hG => ?_)
  exact (fss_one (fs_ret (fe_and (fe_gt (fe_v 0 (pv 0)) fe_int) (fe_one (fe_not (fe_any rfl (FE.rd (FL.fe (fl_lc [("d", 1)] rfl sc18.nd (fi_rng2 (fa_cons fe_int (fa_cons (fe_v 0 (pv 0)) fa_nil)) rfl T.m_range) (blkOk_by (N := ["n", "d"]) (sc := defScope (top 22)) (by decide +kernel)) (fun _ _ _ _ _ => (fg_name (i := 1) sc18.nd rfl (by first | exact Or.inl rfl | exact Or.inr rfl))) (fun _ _ _ _ _ => (fts_one (ft_le (fe_mul (fe_v 1 (pv 1)) (fe_v 1 (pv 1))) (fe_v 0 (pv 0))))) (fun _ _ _ _ _ => (fe_eq hr.units (fe_mod (fe_intC (fr_v 0 (pv 0)) rfl T.m_int) (fe_v 1 (pv 1))) fe_int))))) rfl T.m_any))))))
theorem d_law_ways (T : Tx K mg ad fd) : FnG P w K mg base 1 (ad 20) (fd 20) ["p", "k"] (spF K F_law_ways) := by
  refine fnRun (fb := b_law_ways) T.F20 sc20 (fun cdv A outer s H hr hG => ?_)
  exact (fss_cons (fs_own (i := 2) sc20.nd rfl (by first | exact Or.inl rfl | exact Or.inr rfl) (fl_rep (FL.fe (fl_lst (fa_cons fe_int fa_nil))) (fe_v 0 (pv 0))))
    (fss_cons (fs_for rfl (fi_rng1 (fa_cons (fe_v 0 (pv 0)) fa_nil) rfl T.m_range) (fg_name (i := 3) sc20.nd rfl (by first | exact Or.inl rfl | exact Or.inr rfl)) (fss_cons (fs_set (i := 4) sc20.nd rfl (by first | exact Or.inl rfl | exact Or.inr rfl) fe_int)
    (fss_cons (fs_for rfl (fi_rng1 (fa_cons (fe_v 1 (pv 1)) fa_nil) rfl T.m_range) (fg_name (i := 5) sc20.nd rfl (by first | exact Or.inl rfl | exact Or.inr rfl)) (fss_one (fs_set (i := 4) sc20.nd rfl (by first | exact Or.inl rfl | exact Or.inr rfl) (fe_mod (fe_intC (FE.rd (fe_mul (fe_v 4 (pv 4)) (fe_v 3 (pv 3)))) rfl T.m_int) (fe_v 0 (pv 0))))))
    (fss_one (fs_ix (i := 2) (fun _ _ h h2 => ps_asg h (pg_sub (pv 2) h2 set_list)) (fe_v 4 (pv 4)) (fe_add (fe_ix (fr_v 2 (pv 2)) (fe_v 4 (pv 4))) fe_int))))))
    (fss_one (fs_frz 2 (fs_ret (fe_v 2 (pv 2)))))))
theorem d_law_root (T : Tx K mg ad fd) : FnG P w K mg base 1 (ad 21) (fd 21) ["n"] (spF K F_law_root) := by
  refine fnRun (fb := b_law_root) T.F21 sc21 (fun cdv A outer s H hr hG => ?_)
  exact (fss_cons (fs_set (i := 1) sc21.nd rfl (by first | exact Or.inl rfl | exact Or.inr rfl) fe_int)
    (fss_cons (fs_while (n := fuel) (ft_lt (fe_mul (fe_v 1 (pv 1)) (fe_v 1 (pv 1))) (fe_v 0 (pv 0))) (fss_one (fs_set (i := 1) sc21.nd rfl (by first | exact Or.inl rfl | exact Or.inr rfl) (fe_add (fe_v 1 (pv 1)) fe_int))))
    (fss_one (fs_ret (fe_ifExp (ft_eq hr.units (fe_mul (fe_v 1 (pv 1)) (fe_v 1 (pv 1))) (fe_v 0 (pv 0))) (fe_v 1 (pv 1)) fe_non)))))
theorem d_law_four_way (T : Tx K mg ad fd) : FnG P w K mg base 2 (ad 22) (fd 22) ["p", "many"] (spF K F_law_four_way) := by
  have D21 : FnG P w K mg base 1 (ad 21) (fd 21) _ (spF K F_law_root) := d_law_root T
  refine fnRun (fb := b_law_four_way) T.F22 sc22 (fun cdv A outer s H hr hG => ?_)
  exact (fss_one (fs_ret (fe_any rfl (FE.rd (FL.fe (fl_lc [("y", 2)] rfl sc22.nd (fi_rng2 (fa_cons fe_int (fa_cons (fe_v 0 (pv 0)) fa_nil)) rfl T.m_range) (blkOk_by (N := ["p", "many", "y"]) (sc := defScope (top 26)) (by decide +kernel)) (fun _ _ _ _ _ => (fg_name (i := 2) sc22.nd rfl (by first | exact Or.inl rfl | exact Or.inr rfl))) (fun _ _ _ _ _ => (fts_one (ft_lt (fe_mul (fe_mul (fe_v 1 (pv 1)) (fe_v 2 (pv 2))) (fe_v 2 (pv 2))) (fe_mul fe_int (fe_v 0 (pv 0)))))) (fun _ _ _ _ _ => (fe_notN (fe_call D21 (hr.mono (by decide)) hG rfl T.g21 T.F21.kp T.b21 (fa_cons (fe_sub (fe_mul fe_int (fe_v 0 (pv 0))) (fe_mul (fe_mul (fe_v 1 (pv 1)) (fe_v 2 (pv 2))) (fe_v 2 (pv 2)))) fa_nil))))))) rfl T.m_any)))
end
end K70
namespace K70
open PySem PySem.Spec PyProof.Rows L2 Fe
theorem sc16 : FnScope ["script", "stirred", "cell", "cells"] ["script"] (defScope (top 20)) := ⟨rfl, rfl, rfl, by decide +kernel, rfl, by decide +kernel, by decide +kernel⟩
section
variable {P : Program} {w : World} {K : PySem.W.Frag} {mg : Str → Option Value} {base : Heap} {ad : Nat → Addr} {fd : Nat → FuncData}
theorem d_mk (T : Tx K mg ad fd) : FnG P w K mg base 1 (ad 16) (fd 16) ["script"] (spMk K) := by
  refine fnG_of T.F16 sc16 (fun vs H Q h => ?_) fun cdv A outer s H vs Q hr hG h => ?_
  · obtain ⟨p, ns, rfl, _⟩ := h
    rfl
  · obtain ⟨a, ns, rfl, hS, hlen, k⟩ := h
    refine ⟨_, pss_cons (ps_set (i := 1) sc16.nd rfl (Or.inl rfl) pe_int)
      (pss_cons (ps_for PassesOwn.never rfl (pi_list (pv 0)) (pg_name (i := 2) sc16.nd rfl (Or.inl rfl)) (pss_one (ps_set (i := 1) sc16.nd rfl (Or.inl rfl)
        (pe_op op_mod (pe_callTy call_int1 rfl T.m_int (by decide +kernel) (pa_cons (pe_op op_add (pe_op op_add (pe_op op_mul (pv 1) pe_int) (pe_op op_mul (pv 2) pe_int)) pe_int) pa_nil)) pe_int))))
      (pss_cons (ps_setLc (i := 3) (own := [("cell", 2)]) (g := gName 2) (tt := tYes) rfl sc16.nd rfl rfl (sw_true rfl rfl rfl (by decide +kernel)) (pi_list (pv 0)) (blkOk_by (N := ["script", "stirred", "cell", "cells"]) (sc := defScope (top 20)) (by decide +kernel))
        (fun _ _ _ _ _ => pg_name (i := 2) sc16.nd rfl (Or.inl rfl)) (fun _ _ _ _ _ => pts_nil) (fun _ _ _ _ _ => pe_callB call_abs rfl T.m_abs (by decide +kernel) (pa_cons (pv 2) pa_nil)))
      (pss_one (ps_ret (pe_disp (pps_cons pe_str (pe_revL (pv 3)) (pps_cons pe_str pe_int (pps_cons pe_str (pv 1) (pps_cons pe_str pe_int pps_nil)))) (by decide) rfl (by simp) (by decide)))))), ?_⟩
    refine ⟨_, rfl, a, rfl, ⟨_, hS⟩, for_list (K := K) (a := a) (xs := ns.map V.int) (fun i σ H2 => ∃ (m : Int) (v : Option V), σ = [some (.ref a), some (.int m), v, none] ∧ H2 = H) ⟨_, none, rfl, rfl⟩ (fun i σ H2 _ ⟨_, _, _, e⟩ => by rw [e]; exact hS) ?_ ?_⟩
    · rintro i y σ H2 hi ⟨m, v, rfl, rfl⟩
      obtain ⟨z, rfl⟩ := int_at hi
      exact ⟨_, rfl, _, _, rfl, rfl, Or.inr ⟨by decide, by decide⟩, _, rfl, _, _, rfl, rfl, Or.inr ⟨by decide, by decide⟩, _, _, rfl, rfl, _, _, rfl, rfl, Or.inl ⟨_, rfl, _, _, rfl, rfl, by show (0 : Int) < 2147483629; decide, _, _, rfl, rfl⟩⟩
    · rintro σ H2 ⟨m, v, rfl, rfl⟩
      refine ⟨_, rfl, a, rfl, ⟨_, hS⟩, fun D hD => ?_⟩
      refine lc_list (K := K) (a := a) (xs := ns.map V.int) (fun i H3 => ∃ acc : List Int, acc.length = i ∧ H3 = upd H2 D (.lst (acc.map V.int))) ⟨[], rfl, rfl⟩ (fun i H3 _ ⟨acc, _, e⟩ => by rw [e]; exact (same_new hD).seq hS) ?_ ?_
      · rintro i y H3 hi ⟨acc, hl, rfl⟩
        obtain ⟨z, rfl⟩ := int_at hi
        have hi' := (List.getElem?_eq_some_iff.mp hi).1
        rw [List.length_map] at hi'
        refine ⟨rfl, ?_⟩
        refine ⟨_, rfl, z, rfl, acc.map V.int, upd_same, by rw [List.length_map, hl]; exact Nat.lt_of_lt_of_le (show i < 64 by omega) (by decide), acc ++ [if z < 0 then -z else z], by simp [hl], ?_⟩
        rw [upd_upd, List.map_append]
        rfl
      · rintro H3 ⟨acc, hl, rfl⟩
        intro p hp
        refine ⟨_, rfl, D, _, rfl, Or.inl (Or.inl (by rw [upd_ne (show D ≠ p from fun e => by rw [← e, upd_same] at hp; cases hp)]; exact upd_same)), fun c hc => ?_⟩
        have npc : p ≠ c := fun e => by
          rw [← e, upd_same] at hc
          cases hc
        have hc2 : upd H2 D (.lst (acc.map V.int)) c = none := by
          rw [upd_ne npc.symm] at hc
          exact hc
        refine ⟨_, rfl, ?_⟩
        refine ⟨by rw [upd_ne npc]; exact upd_same, [(.inr "cells", .ref c), (.inr "left", .int _), (.inr "mixed", .int m), (.inr "turn", .int _)], rfl, (by show 4 ≤ 15; decide), ?_⟩
        have s1 : Same H2 (upd H2 D (.lst (acc.map V.int))) := same_new hD
        refine k p c ⟨acc.reverse, 1, m, 0⟩ _ (fun b o e => ?_) (s1.free hp) (s1.free hc2) ⟨?_, ?_⟩
        · have n1 : b ≠ D := ne_of_none e hD
          have n2 : b ≠ p := ne_of_none (s1 _ _ e) hp
          have n3 : b ≠ c := ne_of_none (s1 _ _ e) hc2
          rw [upd_ne n2, upd_ne n3, upd_ne n2, upd_ne n1]
          exact e
        · exact upd_same.trans (by rfl)
        · rw [upd_ne npc.symm, upd_same, List.map_reverse]
end
abbrev F_law_pick := fPick pickA
theorem sc17 : FnScope ["source", "most", "cells", "others", "lap", "stirred"] ["source", "most"] (defScope (top 21)) := ⟨rfl, rfl, rfl, by decide +kernel, rfl, by decide +kernel, by decide +kernel⟩
section
variable {P : Program} {w : World} {K : PySem.W.Frag} {mg : Str → Option Value} {base : Heap} {ad : Nat → Addr} {fd : Nat → FuncData}
theorem d_law_pick (T : Tx K mg ad fd) : FnG P w K mg base 1 (ad 17) (fd 17) ["source", "most"] (spS K (fPick pickA)) := by
  refine fnG_of T.F17 sc17 (fun vs H Q h => ?_) fun cdv A outer s0 H vs Q hr hG h => ?_
  · obtain ⟨a, c, us, G, s, ds, r, s', rfl, _, _, _, _, h1, h2, _⟩ := h
    unfold fPick at h2
    split at h2
    · rw [List.length_cons, h1.len]
      rfl
    · cases h2
  · obtain ⟨a, c, us, G, s, ds, r, s', rfl, h0, hs, ga, gc, h1, h2, h3⟩ := h
    unfold fPick at h2
    split at h2
    · rename_i m
      split at h2
      · rename_i hm
        cases h2
        have hm' : m.natAbs.log2 < 9000 := Nat.le_of_ble_eq_true hm
        cases h1 with | cons z1 z2 =>
        cases z1
        cases z2
        have fin : ∀ {H2 : Hp} {i : Int} {s2 : Src}, (i, s2) = pickA s m → Away H H2 a c → SrcAt H2 a c s2 → Q (.int i) H2 := by
          intro H2 i s2 e aw h2
          rw [← e] at h3
          exact h3 (.int i) c G H2 (Same.refl G) (fun b o z => aw b o (h0 b o z) (fun q => by rw [q, ga] at z; cases z) (fun q => by rw [q, gc] at z; cases z)) aw (fun b o _ _ _ z => z) h2 (Or.inl rfl) ga gc (.int i)
        refine ⟨_, pss_cons (ps_if (pt_cmpR op_lt (pv 1) pe_int (nomark _)) (pss_one (ps_ret pe_int)) pss_nil)
          (pss_cons (ps_set (i := 2) sc17.nd rfl (Or.inl rfl) (pe_dget (hu_of hr) (pv 0) pe_str (fun _ _ => rfl)))
          (pss_cons (ps_while PassesOwn.never (PW.pt (pw_and (pt_cmpR op_lt (pe_dget (hu_of hr) (pv 0) pe_str (fun _ _ => rfl)) pe_int (nomark _)) (pw_and1 (pt_cmpR op_gt (pe_callB call_len_seq rfl T.m_len PySem.boot_len (pa_cons (pv 2) pa_nil)) pe_int (nomark _)))))
            (pss_one (ps_dput (hu_of hr) (pv 0) pe_str (pe_bm0 PySem.F.plainAttrs_list PySem.F.slot_list_pop PySem.F.type_list_pop mt_pop (pv 2)) rfl)))
          (pss_cons (ps_set (i := 3) sc17.nd rfl (Or.inl rfl) (pe_dget (hu_of hr) (pv 0) pe_str (fun _ _ => rfl)))
          (pss_cons (ps_if (pt_cmpR op_gt (pv 3) pe_int (nomark _))
            (pss_cons (ps_dput (hu_of hr) (pv 0) pe_str (pe_op op_fdivW (pv 3) (pv 1)) rfl) (pss_one (ps_ret (pe_op op_mod (pe_callTy call_int1 rfl T.m_int (by decide +kernel) (pa_cons (pv 3) pa_nil)) (pv 1))))) pss_nil)
          (pss_cons (ps_dput (hu_of hr) (pv 0) pe_str (pe_op op_add (pe_dget (hu_of hr) (pv 0) pe_str (fun _ _ => rfl)) pe_int) rfl)
          (pss_cons (ps_set (i := 4) sc17.nd rfl (Or.inl rfl) (pe_dget (hu_of hr) (pv 0) pe_str (fun _ _ => rfl)))
          (pss_cons (ps_set (i := 5) sc17.nd rfl (Or.inl rfl) (pe_op op_mod (pe_callTy call_int1 rfl T.m_int (by decide +kernel) (pa_cons (pe_op op_add (pe_dget (hu_of hr) (pv 0) pe_str (fun _ _ => rfl)) (pe_op op_mul (pv 4) pe_int)) pa_nil)) pe_int))
          (pss_cons (ps_set (i := 5) sc17.nd rfl (Or.inl rfl) (pe_op op_mod (pe_callTy call_int1 rfl T.m_int (by decide +kernel) (pa_cons (pe_op op_add (pe_op op_mul (pv 5) (pv 5)) (pe_op op_mul (pv 4) pe_int)) pa_nil)) pe_int))
          (pss_one (ps_ret (pe_op op_mod (pe_callTy call_int1 rfl T.m_int (by decide +kernel) (pa_cons (pe_op op_fdiv (pv 5) pe_int) pa_nil)) (pv 1)))))))))))), ?_⟩
        refine ⟨_, rfl, _, _, rfl, rfl, _, rfl, ite2 (fun e => ?_) fun e => ?_⟩
        · have e' : m < 2 := of_decide_eq_true e
          exact fin (by unfold pickA; rw [if_pos e']) (Away.refl H a c) hs
        · have e' : ¬ m < 2 := fun z => e (decide_eq_true z)
          refine ⟨_, rfl, a, _, rfl, hs.cells, ?_⟩
          refine ⟨fun n σ H2 => ∃ l cs, σ = [some (.ref a), some (.int m), some (.ref c), none, none, none] ∧ n = cs.length ∧ SrcAt H2 a c ⟨cs, l, s.mixed, s.turn⟩ ∧ Away H H2 a c ∧ popT cs.length l cs = popA s, ⟨_, s.left, s.cells, rfl, rfl, hs, Away.refl H a c, rfl⟩, ?_⟩
          rintro n σ H2 ⟨l, cs, rfl, rfl, h4, h5, h6⟩
          refine ⟨_, rfl, a, _, rfl, h4.left, _, _, rfl, rfl, _, rfl, ite2 (fun c1 => ?_) fun c1 => ?_⟩
          · have c1' : l < 2 := of_decide_eq_true c1
            refine ⟨_, rfl, c, _, rfl, Or.inl (Or.inl (Or.inl h4.2)), _, _, rfl, rfl, _, rfl, ite2 (fun c2 => ?_) fun c2 => ?_⟩
            · have c2' : (0 : Int) < ((cs.map V.int).length : Nat) := of_decide_eq_true c2
              have c3 : 0 < cs.length := by
                rw [List.length_map] at c2'
                omega
              refine ⟨_, fun σ' H' hN => ⟨cs.length - 1, by omega, hN⟩, ?_⟩
              have gl : (cs.map V.int)[(cs.map V.int).length - 1]? = some (.int (cs.getLastD 0)) := by
                rw [List.length_map, List.getElem?_map, ← List.getLast?_eq_getElem?]
                cases cs with
                | nil => exact absurd c3 (by simp)
                | cons z w => simp [List.getLastD_eq_getLast?, List.getLast?_cons]
              have hsC := h4.setCells cs.dropLast
              have eD : (cs.map V.int).dropLast = cs.dropLast.map V.int := by rw [List.map_dropLast]
              obtain ⟨H4, hp, eH, hs4⟩ := hsC.putLeft (cs.getLastD 0)
              refine ⟨_, rfl, Or.inl ⟨rfl, _, Or.inl (Or.inl h4.2)⟩, c, _, _, rfl, rfl, h4.2, gl, _, rfl, a, H4, rfl, ?_, cs.getLastD 0, cs.dropLast, rfl, by simp, hs4, ?_, ?_⟩
              · rw [eD]
                exact hp
              · rw [eH]
                exact h5.upC.upA
              · rw [← h6]
                obtain ⟨n, hn⟩ : ∃ n, cs.length = n + 1 := ⟨cs.length - 1, by omega⟩
                rw [List.length_dropLast, hn, popT_step ⟨c1', c3⟩, Nat.add_sub_cancel]
            · have c3 : cs.length = 0 := by
                have : ¬ (0 : Int) < ((cs.map V.int).length : Nat) := fun z => c2 (decide_eq_true z)
                rw [List.length_map] at this
                omega
              have hp : popA s = (l, cs) := by
                rw [← h6, c3]
                rfl
              have m0 : 0 < m := by omega
              refine ⟨_, rfl, a, _, rfl, h4.left, ?_⟩
              refine ⟨_, rfl, _, _, rfl, rfl, _, rfl, ite2 (fun c4 => ?_) fun c4 => ?_⟩
              · have c4' : 1 < l := of_decide_eq_true c4
                obtain ⟨H4, hq, eH, hs4⟩ := h4.putLeft (l / m)
                refine ⟨_, rfl, _, rfl, _, _, rfl, rfl, ⟨m0, hm'⟩, _, rfl, a, H4, rfl, hq, ?_⟩
                refine ⟨_, rfl, Or.inl ⟨_, rfl, _, rfl, _, _, rfl, rfl, m0, fin ?_ (by rw [eH]; exact h5.upA) hs4⟩⟩
                unfold pickA
                rw [if_neg e', hp, if_pos c4']
              · have c4' : ¬ 1 < l := fun z => c4 (decide_eq_true z)
                obtain ⟨H4, hq, eH, hs4⟩ := h4.putTurn (s.turn + 1)
                refine ⟨_, rfl, a, _, rfl, h4.turn, _, _, rfl, rfl, _, rfl, a, H4, rfl, hq, ?_⟩
                refine ⟨_, rfl, a, _, rfl, hs4.turn, ?_⟩
                refine ⟨_, rfl, a, _, rfl, hs4.mixed, _, rfl, _, _, rfl, rfl, Or.inr ⟨by decide, by decide⟩, _, _, rfl, rfl, Or.inl ⟨_, rfl, _, _, rfl, rfl, by show (0 : Int) < 998244353; decide, ?_⟩⟩
                have b0 : ∀ z : Int, -(2 ^ 64) < z % 998244353 ∧ z % 998244353 < 2 ^ 64 := fun z => ⟨by have := Int.emod_nonneg z (show (998244353 : Int) ≠ 0 by decide); omega, by have := Int.emod_lt_of_pos z (show (0 : Int) < 998244353 by decide); omega⟩
                refine ⟨_, rfl, _, rfl, _, _, rfl, rfl, Or.inl (b0 _), _, rfl, _, _, rfl, rfl, Or.inr ⟨by decide, by decide⟩, _, _, rfl, rfl, Or.inl ⟨_, rfl, _, _, rfl, rfl, by show (0 : Int) < 2147483647; decide, ?_⟩⟩
                refine ⟨_, rfl, _, _, rfl, rfl, ⟨by decide, by decide⟩, Or.inl ⟨_, rfl, _, rfl, _, _, rfl, rfl, m0, fin ?_ (by rw [eH]; exact h5.upA) hs4⟩⟩
                unfold pickA
                rw [if_neg e', hp, if_neg c4']
                rfl
          · have c1' : ¬ l < 2 := fun z => c1 (decide_eq_true z)
            have hp : popA s = (l, cs) := by
              rw [← h6]
              cases cs.length with
              | zero => rfl
              | succ n =>
                unfold popT
                rw [if_neg fun z => c1' z.1]
            have m0 : 0 < m := by omega
            refine ⟨_, rfl, a, _, rfl, h4.left, ?_⟩
            refine ⟨_, rfl, _, _, rfl, rfl, _, rfl, ite2 (fun c4 => ?_) fun c4 => ?_⟩
            · have c4' : 1 < l := of_decide_eq_true c4
              obtain ⟨H4, hq, eH, hs4⟩ := h4.putLeft (l / m)
              refine ⟨_, rfl, _, rfl, _, _, rfl, rfl, ⟨m0, hm'⟩, _, rfl, a, H4, rfl, hq, ?_⟩
              refine ⟨_, rfl, Or.inl ⟨_, rfl, _, rfl, _, _, rfl, rfl, m0, fin ?_ (by rw [eH]; exact h5.upA) hs4⟩⟩
              unfold pickA
              rw [if_neg e', hp, if_pos c4']
            · have c4' : ¬ 1 < l := fun z => c4 (decide_eq_true z)
              obtain ⟨H4, hq, eH, hs4⟩ := h4.putTurn (s.turn + 1)
              refine ⟨_, rfl, a, _, rfl, h4.turn, _, _, rfl, rfl, _, rfl, a, H4, rfl, hq, ?_⟩
              refine ⟨_, rfl, a, _, rfl, hs4.turn, ?_⟩
              refine ⟨_, rfl, a, _, rfl, hs4.mixed, _, rfl, _, _, rfl, rfl, Or.inr ⟨by decide, by decide⟩, _, _, rfl, rfl, Or.inl ⟨_, rfl, _, _, rfl, rfl, by show (0 : Int) < 998244353; decide, ?_⟩⟩
              have b0 : ∀ z : Int, -(2 ^ 64) < z % 998244353 ∧ z % 998244353 < 2 ^ 64 := fun z => ⟨by have := Int.emod_nonneg z (show (998244353 : Int) ≠ 0 by decide); omega, by have := Int.emod_lt_of_pos z (show (0 : Int) < 998244353 by decide); omega⟩
              refine ⟨_, rfl, _, rfl, _, _, rfl, rfl, Or.inl (b0 _), _, rfl, _, _, rfl, rfl, Or.inr ⟨by decide, by decide⟩, _, _, rfl, rfl, Or.inl ⟨_, rfl, _, _, rfl, rfl, by show (0 : Int) < 2147483647; decide, ?_⟩⟩
              refine ⟨_, rfl, _, _, rfl, rfl, ⟨by decide, by decide⟩, Or.inl ⟨_, rfl, _, rfl, _, _, rfl, rfl, m0, fin ?_ (by rw [eH]; exact h5.upA) hs4⟩⟩
              unfold pickA
              rw [if_neg e', hp, if_neg c4']
              rfl
      · cases h2
    · cases h2
end
section
variable {P : Program} {w : World} {K : PySem.W.Frag} {mg : Str → Option Value} {base : Heap} {ad : Nat → Addr} {fd : Nat → FuncData}
theorem sc19 : FnScope ["source", "most", "by", "some", "p"] ["source", "most", "by"] (defScope (top 23)) := ⟨rfl, rfl, rfl, by decide +kernel, rfl, by decide +kernel, by decide +kernel⟩
def c_law_prime_0 : BF := (fTst (fCall F_law_is_prime (fCons (fVar 4) fNil)))
def e_law_prime_1 : EF := (fVar 4)
def b_law_prime : SF := (sSeq (sSet 3 (fAsL (fComp [4] (fRng3 (fCons (fOp oAdd (fVar 2) (fC (.int 1))) (fCons (fVar 1) (fCons (fVar 2) fNil)))) (gNm 4) c_law_prime_0 e_law_prime_1)))
    (sRet (fIx (fRd 3) (fCallS 0 F_law_pick (fCons (fR1 oLen (fRd 3)) fNil)))))
def F_law_prime : Src → List PyData → Option (PyData × Src) := runS 3 5 b_law_prime
theorem d_law_prime (T : Tx K mg ad fd) : FnG P w K mg base 2 (ad 19) (fd 19) ["source", "most", "by"] (spS K F_law_prime) := by
  have D18 := d_law_is_prime (P := P) (w := w) (base := base) T
  have D17 := d_law_pick (P := P) (w := w) (base := base) T
  refine fnRunS (fb := b_law_prime) T.F19 sc19 (fun cdv A outer s H hr hG => ?_)
  exact (fss_cons (fs_lcV (i := 3) [("p", 4)] rfl sc19.nd rfl rfl (sw_true rfl rfl rfl (by decide +kernel)) (fi_rng3 (fa_cons (fe_add (fe_v 2 (pv 2)) fe_int) (fa_cons (fe_v 1 (pv 1)) (fa_cons (fe_v 2 (pv 2)) fa_nil))) rfl T.m_range) (blkOk_by (N := ["source", "most", "by", "some", "p"]) (sc := defScope (top 23)) (by decide +kernel)) (fun _ _ _ _ _ => (fg_name (i := 4) sc19.nd rfl (by first | exact Or.inl rfl | exact Or.inr rfl))) (fun _ _ _ _ _ => (fts_one (ft_val (fe_call D18 (hr.mono (by decide)) hG rfl T.g18 T.F18.kp T.b18 (fa_cons (fe_v 4 (pv 4)) fa_nil))))) (fun _ _ _ _ _ => (fe_v 4 (pv 4))))
    (fss_one (fs_ret (fe_ix (fr_v 3 (pv 3)) (fe_callS (i := 0) (fun _ h => pe_callG D17 (hr.mono (by decide)) hG rfl T.g17 T.F17.kp T.b17 (pa_cons (pv 0) h)) (fa_cons (fe_len (fr_v 3 (pv 3)) rfl T.m_len) fa_nil))))))
theorem sc23 : FnScope ["script", "source", "lap", "p", "cubes", "many", "m", "a", "b", "trace", "third", "turn", "three", "two", "x", "sign", "far"] ["script"] (defScope (top 27)) := ⟨rfl, rfl, rfl, by decide +kernel, rfl, by decide +kernel, by decide +kernel⟩
def e_law_0 : EF := (fOp oMul (fIx (fRd 4) (fVar 14)) (fIx (fRd 4) (fOp oMod (fR1 oInt (fVal (fOp oSub (fC (.int 1)) (fVar 14)))) (fVar 3))))
def c_law_1 : BF := (fTst (fOp oGt (fIx (fRd 4) (fVar 14)) (fC (.int 0))))
def e_law_2 : EF := (fVar 14)
def b_law_3 : SF := (sSeq (sSet 14 (fOp oAdd (fC (.int 1)) (fCallS 1 F_law_pick (fCons (fOp oSub (fVar 3) (fC (.int 1))) fNil))))
    (sSeq (sPar 15 16 (fCall F_cube_sign (fCons (fTup (fCons (fVar 14) (fCons (fC (.int 0)) fNil))) (fCons (fVar 6) fNil))) (fCall F_cube_sign (fCons (fTup (fCons (fVar 14) (fCons (fC (.int 0)) fNil))) (fCons (fCall F_cube_conjugate (fCons (fVar 6) fNil)) fNil))))
    (sIf (fOr (fTst (fOp oNe (fOp oEq (fVar 15) (fC (.int 0))) (fOp oGt (fIx (fRd 4) (fVar 14)) (fC (.int 0))))) (fOr (fTst (fOp oNe (fOp oMod (fR1 oInt (fVal (fOp oAdd (fVar 15) (fVar 16)))) (fC (.int 3))) (fC (.int 0)))) (fTst (fOp oNe (fR1 oLen (fVal (fCall F_cube_roots (fCons (fVar 3) (fCons (fVar 14) fNil))))) (fIx (fRd 4) (fVar 14)))))) (sRet (fC (.bool false))) sNil)))
def b_law_4 : SF := (sSeq (sSet 3 (fCallS 1 F_law_prime (fCons (fC (.int 400)) (fCons (fC (.int 3)) fNil))))
    (sSeq (sSet 4 (fCall F_law_ways (fCons (fVar 3) (fCons (fC (.int 3)) fNil))))
    (sSeq (sSet 5 (fR1 oSum (fVal (fAsL (fComp [14] (fRng1 (fCons (fVar 3) fNil)) (gNm 14) fYes e_law_0)))))
    (sSeq (sSet 6 (fCall F_primary_prime (fCons (fVar 3) fNil)))
    (sSeq (sTg (fVar 6) (gTp 2 (gCons' (gNm 7) (gCons' (gNm 8) gNil'))))
    (sSeq (sIf (fOr (fTst (fOp oNe (fCall F_cube_norm (fCons (fVar 6) fNil)) (fVar 3))) (fOr (fTst (fOp oNotB (fCall F_is_primary (fCons (fVar 6) fNil)) (fC (.bool true)))) (fTst (fOp oNe (fCall F_cube_times (fCons (fVar 6) (fCons (fCall F_cube_conjugate (fCons (fVar 6) fNil)) fNil))) (fTup (fCons (fVar 3) (fCons (fC (.int 0)) fNil))))))) (sRet (fC (.bool false))) sNil)
    (sSeq (sPar 9 10 (fOp oSub (fOp oMul (fC (.int 2)) (fVar 7)) (fVar 8)) (fOp oDiv (fVar 8) (fC (.int 3))))
    (sSeq (sIf (fOr (fTst (fOp oNe (fVar 5) (fOp oAdd (fOp oSub (fVar 3) (fC (.int 2))) (fVar 9)))) (fOr (fTst (fOp oNe (fOp oAdd (fOp oMul (fVar 9) (fVar 9)) (fOp oMul (fOp oMul (fC (.int 27)) (fVar 10)) (fVar 10))) (fOp oMul (fC (.int 4)) (fVar 3)))) (fTst (fOp oNe (fOp oMod (fR1 oInt (fRd 9)) (fC (.int 3))) (fC (.int 1)))))) (sRet (fC (.bool false))) sNil)
    (sSeq (sIf (fOr (fTst (fOp oNe (fCall F_cube_sum (fCons (fVar 6) fNil)) (fVar 6))) (fTst (fOp oNe (fCall F_cube_sum (fCons (fCall F_cube_conjugate (fCons (fVar 6) fNil)) fNil)) (fCall F_cube_conjugate (fCons (fVar 6) fNil))))) (sRet (fC (.bool false))) sNil)
    (sSeq (sIf (fTst (fOp oNe (fAsL (fR1L oList (fVal (fCall F_cube_rests (fCons (fVar 3) fNil))))) (fAsL (fComp [14] (fRng2 (fCons (fC (.int 1)) (fCons (fVar 3) fNil))) (gNm 14) c_law_1 e_law_2)))) (sRet (fC (.bool false))) sNil)
    (sSeq (sFor (fRng1 (fCons (fC (.int 4)) fNil)) (gNm 11) b_law_3)
    (sSeq (sSet 12 (fOp oEq (fCall F_cube_sign (fCons (fTup (fCons (fC (.int 3)) (fCons (fC (.int 0)) fNil))) (fCons (fVar 6) fNil))) (fC (.int 0))))
    (sSeq (sIf (fOr (fTst (fOp oNe (fVar 12) (fOp oGt (fIx (fRd 4) (fC (.int 3))) (fC (.int 0))))) (fTst (fOp oNe (fVar 12) (fCall F_law_four_way (fCons (fVar 3) (fCons (fC (.int 243)) fNil)))))) (sRet (fC (.bool false))) sNil)
    (sSeq (sSet 13 (fCall F_is_two_cube (fCons (fVar 3) fNil)))
    (sIf (fOr (fTst (fOp oNe (fVar 13) (fOp oGt (fIx (fRd 4) (fC (.int 2))) (fC (.int 0))))) (fOr (fTst (fOp oNe (fVar 13) (fCall F_law_four_way (fCons (fVar 3) (fCons (fC (.int 108)) fNil))))) (fTst (fOp oNe (fVar 13) (fUn oNotN (fCall F_cube_way (fCons (fVar 3) fNil))))))) (sRet (fC (.bool false))) sNil)))))))))))))))
def b_law : SF := (sSeq (sFor (fRng1 (fCons (fC (.int 2)) fNil)) (gNm 2) b_law_4)
    (sRet (fC (.bool true))))
theorem d_law (hF : ∀ s : Src, ∃ ρ', b_law (startL 17 s) = some (.rt (.bool true) ρ')) (T : Tx K mg ad fd) : FnG P w K mg base 7 (ad 23) (fd 23) ["script"] (spLaw K) := by
  have DM := d_mk (P := P) (w := w) (base := base) T
  have D19 := d_law_prime (P := P) (w := w) (base := base) T
  have D20 := d_law_ways (P := P) (w := w) (base := base) T
  have D8 := d_primary_prime (P := P) (w := w) (base := base) T
  have D0 := d_cube_times (P := P) (w := w) (base := base) T
  have D2 := d_cube_conjugate (P := P) (w := w) (base := base) T
  have D5 := d_is_primary (P := P) (w := w) (base := base) T
  have D1 := d_cube_norm (P := P) (w := w) (base := base) T
  have D12 := d_cube_sum (P := P) (w := w) (base := base) T
  have D9 := d_cube_rests (P := P) (w := w) (base := base) T
  have D17 := d_law_pick (P := P) (w := w) (base := base) T
  have D7 := d_cube_sign (P := P) (w := w) (base := base) T
  have D10 := d_cube_roots (P := P) (w := w) (base := base) T
  have D22 := d_law_four_way (P := P) (w := w) (base := base) T
  have D15 := d_is_two_cube (P := P) (w := w) (base := base) T
  have D14 := d_cube_way (P := P) (w := w) (base := base) T
  refine fnLaw (fb := b_law) T.F23 sc23 rfl (hb := fun cdv A outer s H hr hG => ⟨?_, ?_⟩) (hF := hF)
  · exact ps_set (i := 1) sc23.nd rfl (by first | exact Or.inl rfl | exact Or.inr rfl) (pe_callG DM (hr.mono (by decide)) hG rfl T.g16 T.F16.kp T.b16 (pa_cons (pv 0) pa_nil))
  exact (fss_cons (fs_for rfl (fi_rng1 (fa_cons fe_int fa_nil) rfl T.m_range) (fg_name (i := 2) sc23.nd rfl (by first | exact Or.inl rfl | exact Or.inr rfl)) (fss_cons (fs_set (i := 3) sc23.nd rfl (by first | exact Or.inl rfl | exact Or.inr rfl) (fe_callS (i := 1) (fun _ h => pe_callG D19 (hr.mono (by decide)) hG rfl T.g19 T.F19.kp T.b19 (pa_cons (pv 1) h)) (fa_cons fe_int (fa_cons fe_int fa_nil))))
    (fss_cons (fs_set (i := 4) sc23.nd rfl (by first | exact Or.inl rfl | exact Or.inr rfl) (fe_call D20 (hr.mono (by decide)) hG rfl T.g20 T.F20.kp T.b20 (fa_cons (fe_v 3 (pv 3)) (fa_cons fe_int fa_nil))))
    (fss_cons (fs_set (i := 5) sc23.nd rfl (by first | exact Or.inl rfl | exact Or.inr rfl) (fe_sum rfl (FE.rd (FL.fe (fl_lc [("x", 14)] rfl sc23.nd (fi_rng1 (fa_cons (fe_v 3 (pv 3)) fa_nil) rfl T.m_range) (blkOk_by (N := ["script", "source", "lap", "p", "cubes", "many", "m", "a", "b", "trace", "third", "turn", "three", "two", "x", "sign", "far"]) (sc := defScope (top 27)) (by decide +kernel)) (fun _ _ _ _ _ => (fg_name (i := 14) sc23.nd rfl (by first | exact Or.inl rfl | exact Or.inr rfl))) (fun _ _ _ _ _ => fts_nil) (fun _ _ _ _ _ => (fe_mul (fe_ix (fr_v 4 (pv 4)) (fe_v 14 (pv 14))) (fe_ix (fr_v 4 (pv 4)) (fe_mod (fe_intC (FE.rd (fe_sub fe_int (fe_v 14 (pv 14)))) rfl T.m_int) (fe_v 3 (pv 3))))))))) rfl T.m_sum))
    (fss_cons (fs_set (i := 6) sc23.nd rfl (by first | exact Or.inl rfl | exact Or.inr rfl) (fe_call D8 (hr.mono (by decide)) hG rfl T.g8 T.F8.kp T.b8 (fa_cons (fe_v 3 (pv 3)) fa_nil)))
    (fss_cons (fs_tg (fe_v 6 (pv 6)) (fg_tup rfl (fgs_cons (fg_name (i := 7) sc23.nd rfl (by first | exact Or.inl rfl | exact Or.inr rfl)) (fgs_cons (fg_name (i := 8) sc23.nd rfl (by first | exact Or.inl rfl | exact Or.inr rfl)) fgs_nil))))
    (fss_cons (fs_if (FW.ft (fw_or (ft_ne hr.units (fe_call D1 (hr.mono (by decide)) hG rfl T.g1 T.F1.kp T.b1 (fa_cons (fe_v 6 (pv 6)) fa_nil)) (fe_v 3 (pv 3))) (fw_or (ft_notB (fe_call D5 (hr.mono (by decide)) hG rfl T.g5 T.F5.kp T.b5 (fa_cons (fe_v 6 (pv 6)) fa_nil)) fe_bl) (fw_or1 (ft_ne hr.units (fe_call D0 (hr.mono (by decide)) hG rfl T.g0 T.F0.kp T.b0 (fa_cons (fe_v 6 (pv 6)) (fa_cons (fe_call D2 (hr.mono (by decide)) hG rfl T.g2 T.F2.kp T.b2 (fa_cons (fe_v 6 (pv 6)) fa_nil)) fa_nil))) (fe_tup (fa_cons (fe_v 3 (pv 3)) (fa_cons fe_int fa_nil)))))))) (fss_one (fs_ret fe_bl)) fss_nil)
    (fss_cons (fs_par (i := 9) (j := 10) (fun _ _ h h2 => ps_par rfl sc23.nd rfl rfl (by decide) rfl rfl (pa_cons h (pa_cons h2 pa_nil)) rfl) (fe_sub (fe_mul fe_int (fe_v 7 (pv 7))) (fe_v 8 (pv 8))) (fe_fdiv (fe_v 8 (pv 8)) fe_int))
    (fss_cons (fs_if (FW.ft (fw_or (ft_ne hr.units (fe_v 5 (pv 5)) (fe_add (fe_sub (fe_v 3 (pv 3)) fe_int) (fe_v 9 (pv 9)))) (fw_or (ft_ne hr.units (fe_add (fe_mul (fe_v 9 (pv 9)) (fe_v 9 (pv 9))) (fe_mul (fe_mul fe_int (fe_v 10 (pv 10))) (fe_v 10 (pv 10)))) (fe_mul fe_int (fe_v 3 (pv 3)))) (fw_or1 (ft_ne hr.units (fe_mod (fe_intC (fr_v 9 (pv 9)) rfl T.m_int) fe_int) fe_int))))) (fss_one (fs_ret fe_bl)) fss_nil)
    (fss_cons (fs_if (FW.ft (fw_or (ft_ne hr.units (fe_call D12 (hr.mono (by decide)) hG rfl T.g12 T.F12.kp T.b12 (fa_cons (fe_v 6 (pv 6)) fa_nil)) (fe_v 6 (pv 6))) (fw_or1 (ft_ne hr.units (fe_call D12 (hr.mono (by decide)) hG rfl T.g12 T.F12.kp T.b12 (fa_cons (fe_call D2 (hr.mono (by decide)) hG rfl T.g2 T.F2.kp T.b2 (fa_cons (fe_v 6 (pv 6)) fa_nil)) fa_nil)) (fe_call D2 (hr.mono (by decide)) hG rfl T.g2 T.F2.kp T.b2 (fa_cons (fe_v 6 (pv 6)) fa_nil)))))) (fss_one (fs_ret fe_bl)) fss_nil)
    (fss_cons (fs_if (ft_ne hr.units (FL.fe (fl_list (FE.rd (fe_call D9 (hr.mono (by decide)) hG rfl T.g9 T.F9.kp T.b9 (fa_cons (fe_v 3 (pv 3)) fa_nil))) rfl T.m_list)) (FL.fe (fl_lc [("x", 14)] rfl sc23.nd (fi_rng2 (fa_cons fe_int (fa_cons (fe_v 3 (pv 3)) fa_nil)) rfl T.m_range) (blkOk_by (N := ["script", "source", "lap", "p", "cubes", "many", "m", "a", "b", "trace", "third", "turn", "three", "two", "x", "sign", "far"]) (sc := defScope (top 27)) (by decide +kernel)) (fun _ _ _ _ _ => (fg_name (i := 14) sc23.nd rfl (by first | exact Or.inl rfl | exact Or.inr rfl))) (fun _ _ _ _ _ => (fts_one (ft_gt (fe_ix (fr_v 4 (pv 4)) (fe_v 14 (pv 14))) fe_int))) (fun _ _ _ _ _ => (fe_v 14 (pv 14)))))) (fss_one (fs_ret fe_bl)) fss_nil)
    (fss_cons (fs_for rfl (fi_rng1 (fa_cons fe_int fa_nil) rfl T.m_range) (fg_name (i := 11) sc23.nd rfl (by first | exact Or.inl rfl | exact Or.inr rfl)) (fss_cons (fs_set (i := 14) sc23.nd rfl (by first | exact Or.inl rfl | exact Or.inr rfl) (fe_add fe_int (fe_callS (i := 1) (fun _ h => pe_callG D17 (hr.mono (by decide)) hG rfl T.g17 T.F17.kp T.b17 (pa_cons (pv 1) h)) (fa_cons (fe_sub (fe_v 3 (pv 3)) fe_int) fa_nil))))
    (fss_cons (fs_par (i := 15) (j := 16) (fun _ _ h h2 => ps_par rfl sc23.nd rfl rfl (by decide) rfl rfl (pa_cons h (pa_cons h2 pa_nil)) rfl) (fe_call D7 (hr.mono (by decide)) hG rfl T.g7 T.F7.kp T.b7 (fa_cons (fe_tup (fa_cons (fe_v 14 (pv 14)) (fa_cons fe_int fa_nil))) (fa_cons (fe_v 6 (pv 6)) fa_nil))) (fe_call D7 (hr.mono (by decide)) hG rfl T.g7 T.F7.kp T.b7 (fa_cons (fe_tup (fa_cons (fe_v 14 (pv 14)) (fa_cons fe_int fa_nil))) (fa_cons (fe_call D2 (hr.mono (by decide)) hG rfl T.g2 T.F2.kp T.b2 (fa_cons (fe_v 6 (pv 6)) fa_nil)) fa_nil))))
    (fss_one (fs_if (FW.ft (fw_or (ft_ne hr.units (fe_eq hr.units (fe_v 15 (pv 15)) fe_int) (fe_gt (fe_ix (fr_v 4 (pv 4)) (fe_v 14 (pv 14))) fe_int)) (fw_or (ft_ne hr.units (fe_mod (fe_intC (FE.rd (fe_add (fe_v 15 (pv 15)) (fe_v 16 (pv 16)))) rfl T.m_int) fe_int) fe_int) (fw_or1 (ft_ne hr.units (fe_len (FE.rd (fe_call D10 (hr.mono (by decide)) hG rfl T.g10 T.F10.kp T.b10 (fa_cons (fe_v 3 (pv 3)) (fa_cons (fe_v 14 (pv 14)) fa_nil)))) rfl T.m_len) (fe_ix (fr_v 4 (pv 4)) (fe_v 14 (pv 14)))))))) (fss_one (fs_ret fe_bl)) fss_nil)))))
    (fss_cons (fs_set (i := 12) sc23.nd rfl (by first | exact Or.inl rfl | exact Or.inr rfl) (fe_eq hr.units (fe_call D7 (hr.mono (by decide)) hG rfl T.g7 T.F7.kp T.b7 (fa_cons (fe_tup (fa_cons fe_int (fa_cons fe_int fa_nil))) (fa_cons (fe_v 6 (pv 6)) fa_nil))) fe_int))
    (fss_cons (fs_if (FW.ft (fw_or (ft_ne hr.units (fe_v 12 (pv 12)) (fe_gt (fe_ix (fr_v 4 (pv 4)) fe_int) fe_int)) (fw_or1 (ft_ne hr.units (fe_v 12 (pv 12)) (fe_call D22 (hr.mono (by decide)) hG rfl T.g22 T.F22.kp T.b22 (fa_cons (fe_v 3 (pv 3)) (fa_cons fe_int fa_nil))))))) (fss_one (fs_ret fe_bl)) fss_nil)
    (fss_cons (fs_set (i := 13) sc23.nd rfl (by first | exact Or.inl rfl | exact Or.inr rfl) (fe_call D15 (hr.mono (by decide)) hG rfl T.g15 T.F15.kp T.b15 (fa_cons (fe_v 3 (pv 3)) fa_nil)))
    (fss_one (fs_if (FW.ft (fw_or (ft_ne hr.units (fe_v 13 (pv 13)) (fe_gt (fe_ix (fr_v 4 (pv 4)) fe_int) fe_int)) (fw_or (ft_ne hr.units (fe_v 13 (pv 13)) (fe_call D22 (hr.mono (by decide)) hG rfl T.g22 T.F22.kp T.b22 (fa_cons (fe_v 3 (pv 3)) (fa_cons fe_int fa_nil)))) (fw_or1 (ft_ne hr.units (fe_v 13 (pv 13)) (fe_notN (fe_call D14 (hr.mono (by decide)) hG rfl T.g14 T.F14.kp T.b14 (fa_cons (fe_v 3 (pv 3)) fa_nil)))))))) (fss_one (fs_ret fe_bl)) fss_nil)))))))))))))))))
    (fss_one (fs_ret fe_bl)))
end
end K70
namespace K70
open PySem PySem.Spec PyProof.Rows L2 Fe
abbrev T2 (x y : Int) : PyData := .tuple [.int x, .int y]
theorem F_times {x y z u : Int} (hx : Bd 40 x) (hy : Bd 40 y) (hz : Bd 40 z) (hu : Bd 40 u) : F_cube_times [T2 x y, T2 z u] = some (T2 (x * z - y * u) (x * u + y * z - y * u)) := by
  have m1 := hx.mulOk hz
  have m2 := hy.mulOk hu
  have m3 := hx.mulOk hu
  have m4 := hy.mulOk hz
  refine runF_rt (ρ := [.v (T2 x y), .v (T2 z u), .v (.int x), .v (.int y), .v (.int z), .v (.int u)]) ?_
  show b_cube_times [.v (T2 x y), .v (T2 z u), .un, .un, .un, .un] = _
  simp only [b_cube_times, fC, fVar, rdS, Rf.get, fRd, bnd, Fe.ret, fOp, fUn, fTst, fNot, fAnd, fOr, fIf, fBool, fNil, fCons, fTup, fLst, fAsL, fVal, fAndV, fOrV, fNotV, oI, oIc, oNeg, oIsN, oNotN, oIx, fIx, fR1, fR1L, oLen, oList, oTuple, oInt, oAbs, fRep, fCat, sNil, sThen, sSeq, sSet, sOwn, sRet, sRetN, sDrop, sIf, sTg, gNm, gNil', gCons', gTp, sFor, frzS, fSeq, fRng1, fRng2, fEnum, fZip, fComp, fYes, sApp, sExt, sIx, fPop, fPopAt, sPar, fCall, fCallS, oEq_int, oNe_int, List.getElem?_cons_zero, List.getElem?_cons_succ, List.set_cons_zero, List.set_cons_succ, oAdd, oSub, oMul, oDiv, oMod, oLt, oLe, oGt, oGe, oMin, oMax, oPow, decide_eq_true_eq, if_true, if_false, Bool.false_eq_true, Bool.not_true, Bool.not_false, decide_true, decide_false, List.length_cons, List.length_nil, List.length_map, Bool.and_self, fOpR, fChain, oCatT, fStar, fSlL, fSlT, fRev, oNn, oSm, oIsB, oNotB, sParO1, sParO2, sParO3, fRng3, Nat.reduceAdd, Nat.reduceBEq, bleN0, bleN1, bleN2, bleN3, bleN4, bleN5, bleN6, bleN7, bleN8, m1, m2, m3, m4]
theorem ix0 {x y : Int} : ixD [PyData.int x, .int y] 0 = some (.int x) := rfl
theorem ix1 {x y : Int} : ixD [PyData.int x, .int y] 1 = some (.int y) := rfl
theorem F_norm {x y : Int} (hx : Bd 40 x) (hy : Bd 40 y) : F_cube_norm [T2 x y] = some (.int (x * x - x * y + y * y)) := by
  have m1 := hx.mulOk hx
  have m2 := hx.mulOk hy
  have m3 := hy.mulOk hy
  refine runF_rt (ρ := [.v (T2 x y)]) ?_
  show b_cube_norm [.v (T2 x y)] = _
  simp only [b_cube_norm, fC, fVar, rdS, Rf.get, fRd, bnd, Fe.ret, fOp, fUn, fTst, fNot, fAnd, fOr, fIf, fBool, fNil, fCons, fTup, fLst, fAsL, fVal, fAndV, fOrV, fNotV, oI, oIc, oNeg, oIsN, oNotN, oIx, fIx, fR1, fR1L, oLen, oList, oTuple, oInt, oAbs, fRep, fCat, sNil, sThen, sSeq, sSet, sOwn, sRet, sRetN, sDrop, sIf, sTg, gNm, gNil', gCons', gTp, sFor, frzS, fSeq, fRng1, fRng2, fEnum, fZip, fComp, fYes, sApp, sExt, sIx, fPop, fPopAt, sPar, fCall, fCallS, oEq_int, oNe_int, List.getElem?_cons_zero, List.getElem?_cons_succ, List.set_cons_zero, List.set_cons_succ, oAdd, oSub, oMul, oDiv, oMod, oLt, oLe, oGt, oGe, oMin, oMax, oPow, decide_eq_true_eq, if_true, if_false, Bool.false_eq_true, Bool.not_true, Bool.not_false, decide_true, decide_false, List.length_cons, List.length_nil, List.length_map, Bool.and_self, fOpR, fChain, oCatT, fStar, fSlL, fSlT, fRev, oNn, oSm, oIsB, oNotB, sParO1, sParO2, sParO3, fRng3, Nat.reduceAdd, Nat.reduceBEq, bleN0, bleN1, bleN2, bleN3, bleN4, bleN5, bleN6, bleN7, bleN8, ix0, ix1, m1, m2, m3]
theorem F_conj {x y : Int} : F_cube_conjugate [T2 x y] = some (T2 (x - y) (0 - y)) := by
  refine runF_rt (ρ := [.v (T2 x y)]) ?_
  show b_cube_conjugate [.v (T2 x y)] = _
  simp only [b_cube_conjugate, fC, fVar, rdS, Rf.get, fRd, bnd, Fe.ret, fOp, fUn, fTst, fNot, fAnd, fOr, fIf, fBool, fNil, fCons, fTup, fLst, fAsL, fVal, fAndV, fOrV, fNotV, oI, oIc, oNeg, oIsN, oNotN, oIx, fIx, fR1, fR1L, oLen, oList, oTuple, oInt, oAbs, fRep, fCat, sNil, sThen, sSeq, sSet, sOwn, sRet, sRetN, sDrop, sIf, sTg, gNm, gNil', gCons', gTp, sFor, frzS, fSeq, fRng1, fRng2, fEnum, fZip, fComp, fYes, sApp, sExt, sIx, fPop, fPopAt, sPar, fCall, fCallS, oEq_int, oNe_int, List.getElem?_cons_zero, List.getElem?_cons_succ, List.set_cons_zero, List.set_cons_succ, oAdd, oSub, oMul, oDiv, oMod, oLt, oLe, oGt, oGe, oMin, oMax, oPow, decide_eq_true_eq, if_true, if_false, Bool.false_eq_true, Bool.not_true, Bool.not_false, decide_true, decide_false, List.length_cons, List.length_nil, List.length_map, Bool.and_self, fOpR, fChain, oCatT, fStar, fSlL, fSlT, fRev, oNn, oSm, oIsB, oNotB, sParO1, sParO2, sParO3, fRng3, Nat.reduceAdd, Nat.reduceBEq, bleN0, bleN1, bleN2, bleN3, bleN4, bleN5, bleN6, bleN7, bleN8, ix0, ix1]
theorem F_near {u n : Int} (hu : Bd 90 u) (hn : Bd 90 n) (h0 : 0 < n) : F_nearest_whole [.int u, .int n] = some (.int (Ei.near u n)) := by
  have m1 : mulOk 2 u = true := Bd.mulOk (k := 2) (show Bd 2 2 by decide) hu
  have m2 : mulOk 2 n = true := Bd.mulOk (k := 2) (show Bd 2 2 by decide) hn
  have d : divOk (2 * n) = true := divOk_of (by omega) (Nat.lt_trans ((Bd.mul (k := 2) (show Bd 2 2 by decide) hn).sm) (by decide))
  refine runF_rt (ρ := [.v (.int u), .v (.int n)]) ?_
  show b_nearest_whole [.v (.int u), .v (.int n)] = _
  simp only [b_nearest_whole, fC, fVar, rdS, Rf.get, fRd, bnd, Fe.ret, fOp, fUn, fTst, fNot, fAnd, fOr, fIf, fBool, fNil, fCons, fTup, fLst, fAsL, fVal, fAndV, fOrV, fNotV, oI, oIc, oNeg, oIsN, oNotN, oIx, fIx, fR1, fR1L, oLen, oList, oTuple, oInt, oAbs, fRep, fCat, sNil, sThen, sSeq, sSet, sOwn, sRet, sRetN, sDrop, sIf, sTg, gNm, gNil', gCons', gTp, sFor, frzS, fSeq, fRng1, fRng2, fEnum, fZip, fComp, fYes, sApp, sExt, sIx, fPop, fPopAt, sPar, fCall, fCallS, oEq_int, oNe_int, List.getElem?_cons_zero, List.getElem?_cons_succ, List.set_cons_zero, List.set_cons_succ, oAdd, oSub, oMul, oDiv, oMod, oLt, oLe, oGt, oGe, oMin, oMax, oPow, decide_eq_true_eq, if_true, if_false, Bool.false_eq_true, Bool.not_true, Bool.not_false, decide_true, decide_false, List.length_cons, List.length_nil, List.length_map, Bool.and_self, fOpR, fChain, oCatT, fStar, fSlL, fSlT, fRev, oNn, oSm, oIsB, oNotB, sParO1, sParO2, sParO3, fRng3, Nat.reduceAdd, Nat.reduceBEq, bleN0, bleN1, bleN2, bleN3, bleN4, bleN5, bleN6, bleN7, bleN8, m1, m2, d]
  rfl
theorem F_rest {p a b r x y : Int} (m : Ei.M p a b r) (ha : Bd 6 a) (hb : Bd 6 b) (hx : Bd 30 x) (hy : Bd 30 y) : F_cube_rest [T2 x y, T2 a b] = some (T2 (Ei.r0 p a b x y) (Ei.r1 p a b x y)) := by
  have e1 := F_norm (ha.mono (l := 40)) (hb.mono (l := 40))
  rw [m.hn] at e1
  have e2 := F_conj (x := a) (y := b)
  have hc : Bd 7 (a - b) := ha.sub hb
  have hd : Bd 7 (0 - b) := (show Bd 1 0 by decide).sub hb
  have e3 := F_times (hx.mono (l := 40)) (hy.mono (l := 40)) (hc.mono (l := 40)) (hd.mono (l := 40))
  have hp : Bd 14 p := by
    have := ((ha.mul ha).sub (ha.mul hb)).add (hb.mul hb)
    rw [m.hn] at this
    exact this
  have q0 : Bd 38 (Ei.u0 a b x y) := (hx.mul hc).sub (hy.mul hd)
  have q1 : Bd 39 (Ei.u1 a b x y) := ((hx.mul hd).add (hy.mul hc)).sub (hy.mul hd)
  have n0 : Bd 41 (Ei.near (Ei.u0 a b x y) p) := (((show Bd 2 2 by decide).mul q0).add hp).div
  have n1 : Bd 42 (Ei.near (Ei.u1 a b x y) p) := (((show Bd 2 2 by decide).mul q1).add hp).div
  have e4 := F_near (q0.mono (l := 90)) (hp.mono (l := 90)) m.hp
  have e5 := F_near (q1.mono (l := 90)) (hp.mono (l := 90)) m.hp
  have k1 := n0.mulOk ha
  have k2 := n1.mulOk hb
  have k3 := n0.mulOk hb
  have k4 := n1.mulOk ha
  have e6 : F_cube_times [T2 (Ei.near (Ei.u0 a b x y) p) (Ei.near (Ei.u1 a b x y) p), T2 a b] = some (T2 (Ei.near (Ei.u0 a b x y) p * a - Ei.near (Ei.u1 a b x y) p * b) (Ei.near (Ei.u0 a b x y) p * b + Ei.near (Ei.u1 a b x y) p * a - Ei.near (Ei.u1 a b x y) p * b)) := by
    refine runF_rt (ρ := [.v (T2 (Ei.near (Ei.u0 a b x y) p) (Ei.near (Ei.u1 a b x y) p)), .v (T2 a b), .v (.int (Ei.near (Ei.u0 a b x y) p)), .v (.int (Ei.near (Ei.u1 a b x y) p)), .v (.int a), .v (.int b)]) ?_
    show b_cube_times [.v (T2 (Ei.near (Ei.u0 a b x y) p) (Ei.near (Ei.u1 a b x y) p)), .v (T2 a b), .un, .un, .un, .un] = _
    simp only [b_cube_times, fC, fVar, rdS, Rf.get, fRd, bnd, Fe.ret, fOp, fUn, fTst, fNot, fAnd, fOr, fIf, fBool, fNil, fCons, fTup, fLst, fAsL, fVal, fAndV, fOrV, fNotV, oI, oIc, oNeg, oIsN, oNotN, oIx, fIx, fR1, fR1L, oLen, oList, oTuple, oInt, oAbs, fRep, fCat, sNil, sThen, sSeq, sSet, sOwn, sRet, sRetN, sDrop, sIf, sTg, gNm, gNil', gCons', gTp, sFor, frzS, fSeq, fRng1, fRng2, fEnum, fZip, fComp, fYes, sApp, sExt, sIx, fPop, fPopAt, sPar, fCall, fCallS, oEq_int, oNe_int, List.getElem?_cons_zero, List.getElem?_cons_succ, List.set_cons_zero, List.set_cons_succ, oAdd, oSub, oMul, oDiv, oMod, oLt, oLe, oGt, oGe, oMin, oMax, oPow, decide_eq_true_eq, if_true, if_false, Bool.false_eq_true, Bool.not_true, Bool.not_false, decide_true, decide_false, List.length_cons, List.length_nil, List.length_map, Bool.and_self, fOpR, fChain, oCatT, fStar, fSlL, fSlT, fRev, oNn, oSm, oIsB, oNotB, sParO1, sParO2, sParO3, fRng3, Nat.reduceAdd, Nat.reduceBEq, bleN0, bleN1, bleN2, bleN3, bleN4, bleN5, bleN6, bleN7, bleN8, k1, k2, k3, k4]
  have e3' : F_cube_times [T2 x y, T2 (a - b) (0 - b)] = some (T2 (Ei.u0 a b x y) (Ei.u1 a b x y)) := e3
  refine runF_rt (ρ := [.v (T2 x y), .v (T2 a b), .v (.int p), .v (T2 (Ei.u0 a b x y) (Ei.u1 a b x y)), .v (T2 (Ei.near (Ei.u0 a b x y) p * a - Ei.near (Ei.u1 a b x y) p * b) (Ei.near (Ei.u0 a b x y) p * b + Ei.near (Ei.u1 a b x y) p * a - Ei.near (Ei.u1 a b x y) p * b))]) ?_
  show b_cube_rest [.v (T2 x y), .v (T2 a b), .un, .un, .un] = _
  simp only [b_cube_rest, fC, fVar, rdS, Rf.get, fRd, bnd, Fe.ret, fOp, fUn, fTst, fNot, fAnd, fOr, fIf, fBool, fNil, fCons, fTup, fLst, fAsL, fVal, fAndV, fOrV, fNotV, oI, oIc, oNeg, oIsN, oNotN, oIx, fIx, fR1, fR1L, oLen, oList, oTuple, oInt, oAbs, fRep, fCat, sNil, sThen, sSeq, sSet, sOwn, sRet, sRetN, sDrop, sIf, sTg, gNm, gNil', gCons', gTp, sFor, frzS, fSeq, fRng1, fRng2, fEnum, fZip, fComp, fYes, sApp, sExt, sIx, fPop, fPopAt, sPar, fCall, fCallS, oEq_int, oNe_int, List.getElem?_cons_zero, List.getElem?_cons_succ, List.set_cons_zero, List.set_cons_succ, oAdd, oSub, oMul, oDiv, oMod, oLt, oLe, oGt, oGe, oMin, oMax, oPow, decide_eq_true_eq, if_true, if_false, Bool.false_eq_true, Bool.not_true, Bool.not_false, decide_true, decide_false, List.length_cons, List.length_nil, List.length_map, Bool.and_self, fOpR, fChain, oCatT, fStar, fSlL, fSlT, fRev, oNn, oSm, oIsB, oNotB, sParO1, sParO2, sParO3, fRng3, Nat.reduceAdd, Nat.reduceBEq, bleN0, bleN1, bleN2, bleN3, bleN4, bleN5, bleN6, bleN7, bleN8, e1, e2, e3', e4, e5, e6, ix0, ix1]
  rfl
/-- what is left of a number -/
abbrev R (p a b t : Int) : PyData := T2 (Ei.r0 p a b t 0) (Ei.r1 p a b t 0)
theorem R_bd {p a b : Int} (h0 : 0 < p) (hn : a * a - a * b + b * b = p) (ha : Bd 6 a) (hb : Bd 6 b) (x y : Int) : Bd 7 (Ei.r0 p a b x y) ∧ Bd 7 (Ei.r1 p a b x y) := by
  obtain ⟨h1, h2⟩ := Ei.r_bd h0 hn x y
  have ha' : a.natAbs < 64 := ha
  have hb' : b.natAbs < 64 := hb
  constructor
  · show _ < 128
    omega
  · show _ < 128
    omega
theorem F_R {p a b r t : Int} (m : Ei.M p a b r) (ha : Bd 6 a) (hb : Bd 6 b) (ht : Bd 30 t) : F_cube_rest [T2 t 0, T2 a b] = some (R p a b t) := F_rest m ha hb ht (show Bd 30 0 by decide)
/-- products of rests -/
theorem F_RR {p a b r f h : Int} (m : Ei.M p a b r) (ha : Bd 6 a) (hb : Bd 6 b) : ∃ d, F_cube_times [R p a b f, R p a b h] = some d ∧ F_cube_rest [d, T2 a b] = some (R p a b (f * h)) := by
  obtain ⟨f0, f1⟩ := R_bd m.hp m.hn ha hb f 0
  obtain ⟨h0, h1⟩ := R_bd m.hp m.hn ha hb h 0
  refine ⟨_, F_times (f0.mono (l := 40)) (f1.mono (l := 40)) (h0.mono (l := 40)) (h1.mono (l := 40)), ?_⟩
  rw [F_rest m ha hb (((f0.mul h0).sub (f1.mul h1)).mono (l := 30)) ((((f0.mul h1).add (f1.mul h0)).sub (f1.mul h1)).mono (l := 30))]
  have pf := Ei.r_phi m f 0
  have ph := Ei.r_phi m h 0
  rw [Int.zero_mul, Int.add_zero] at pf ph
  obtain ⟨s, hs⟩ := Ei.phi_mul m pf ph
  obtain ⟨z0, z1⟩ := Ei.r_cls m (x := Ei.r0 p a b f 0 * Ei.r0 p a b h 0 - Ei.r1 p a b f 0 * Ei.r1 p a b h 0) (y := Ei.r0 p a b f 0 * Ei.r1 p a b h 0 + Ei.r1 p a b f 0 * Ei.r0 p a b h 0 - Ei.r1 p a b f 0 * Ei.r1 p a b h 0) (z := f * h) (u := 0) ⟨s, by grind⟩
  rw [z0, z1]
end K70
namespace K70
open PySem PySem.Spec PyProof.Rows L2 Fe
/-- a pair that stands for a number by p -/
structure Rp (p r x y f : Int) : Prop where
  bx : Bd 7 x
  hy : Bd 7 y
  ph : ∃ s, x + y * r - f = p * s
theorem Rp.of {p a b r : Int} (m : Ei.M p a b r) (ha : Bd 6 a) (hb : Bd 6 b) (t : Int) : Rp p r (Ei.r0 p a b t 0) (Ei.r1 p a b t 0) t := by
  obtain ⟨h0, h1⟩ := R_bd m.hp m.hn ha hb t 0
  obtain ⟨s, hs⟩ := Ei.r_phi m t 0
  exact ⟨h0, h1, s, by grind⟩
theorem Rp.mul {p a b r x y z u f h : Int} (m : Ei.M p a b r) (ha : Bd 6 a) (hb : Bd 6 b) (c : Rp p r x y f) (d : Rp p r z u h) : ∃ q, F_cube_times [T2 x y, T2 z u] = some q ∧ F_cube_rest [q, T2 a b] = some (R p a b (f * h)) := by
  refine ⟨_, F_times (c.bx.mono (l := 40)) (c.hy.mono (l := 40)) (d.bx.mono (l := 40)) (d.hy.mono (l := 40)), ?_⟩
  rw [F_rest m ha hb (((c.bx.mul d.bx).sub (c.hy.mul d.hy)).mono (l := 30)) ((((c.bx.mul d.hy).add (c.hy.mul d.bx)).sub (c.hy.mul d.hy)).mono (l := 30))]
  obtain ⟨s, hs⟩ := Ei.phi_mul m c.ph d.ph
  obtain ⟨z0, z1⟩ := Ei.r_cls m (x := x * z - y * u) (y := x * u + y * z - y * u) (z := f * h) (u := 0) ⟨s, by grind⟩
  rw [z0, z1]
theorem pow_half (f h : Int) (e : Nat) : (if e % 2 = 1 then f * h else f) * (h * h) ^ (e / 2) = f * h ^ e := by
  have e1 : (h * h) ^ (e / 2) = h ^ (2 * (e / 2)) := by
    rw [Int.pow_mul, show h ^ 2 = h * h by rw [Int.pow_succ, Int.pow_succ, Int.pow_zero, Int.one_mul]]
  rw [e1]
  split
  · rename_i h1
    have : e = 2 * (e / 2) + 1 := by omega
    rw [Int.mul_assoc, Int.mul_comm h, ← Int.pow_succ]
    show f * h ^ (2 * (e / 2) + 1) = _
    rw [← this]
  · rename_i h1
    have : e = 2 * (e / 2) := by omega
    rw [← this]
theorem pow_loop {p a b r : Int} (m : Ei.M p a b r) (ha : Bd 6 a) (hb : Bd 6 b) {v : Sl} : ∀ (n e : Nat) (x y f h : Int), e ≤ n → Rp p r x y f → ∃ x' y' s', whl c_cube_power_0 b_cube_power_1 (n + 1) [v, .v (.int (e : Nat)), .v (T2 a b), .v (T2 x y), .v (R p a b h)] = some (.nx [v, .v (.int 0), .v (T2 a b), .v (T2 x' y'), s']) ∧ Rp p r x' y' (f * h ^ e) := by
  intro n
  induction n with
  | zero =>
    intro e x y f h he c
    have e0 : e = 0 := by omega
    subst e0
    refine ⟨x, y, _, whl_end (ρ1 := [v, .v (.int 0), .v (T2 a b), .v (T2 x y), .v (R p a b h)]) ?_, by rw [Int.pow_zero, Int.mul_one]; exact c⟩
    have : ¬ (0 : Int) < ((0 : Nat) : Int) := by decide
    simp only [c_cube_power_0, fC, fVar, rdS, Rf.get, fRd, bnd, Fe.ret, fOp, fUn, fTst, fNot, fAnd, fOr, fIf, fBool, fNil, fCons, fTup, fLst, fAsL, fVal, fAndV, fOrV, fNotV, oI, oIc, oNeg, oIsN, oNotN, oIx, fIx, fR1, fR1L, oLen, oList, oTuple, oInt, oAbs, fRep, fCat, sNil, sThen, sSeq, sSet, sOwn, sRet, sRetN, sDrop, sIf, sTg, gNm, gNil', gCons', gTp, sFor, frzS, fSeq, fRng1, fRng2, fEnum, fZip, fComp, fYes, sApp, sExt, sIx, fPop, fPopAt, sPar, fCall, fCallS, oEq_int, oNe_int, List.getElem?_cons_zero, List.getElem?_cons_succ, List.set_cons_zero, List.set_cons_succ, oAdd, oSub, oMul, oDiv, oMod, oLt, oLe, oGt, oGe, oMin, oMax, oPow, decide_eq_true_eq, if_true, if_false, Bool.false_eq_true, Bool.not_true, Bool.not_false, decide_true, decide_false, List.length_cons, List.length_nil, List.length_map, Bool.and_self, fOpR, fChain, oCatT, fStar, fSlL, fSlT, fRev, oNn, oSm, oIsB, oNotB, sParO1, sParO2, sParO3, fRng3, Nat.reduceAdd, Nat.reduceBEq, bleN0, bleN1, bleN2, bleN3, bleN4, bleN5, bleN6, bleN7, bleN8, this]
    rfl
  | succ n ih =>
    intro e x y f h he c
    by_cases h0 : e = 0
    · subst h0
      refine ⟨x, y, _, whl_end (ρ1 := [v, .v (.int 0), .v (T2 a b), .v (T2 x y), .v (R p a b h)]) ?_, by rw [Int.pow_zero, Int.mul_one]; exact c⟩
      have : ¬ (0 : Int) < ((0 : Nat) : Int) := by decide
      simp only [c_cube_power_0, fC, fVar, rdS, Rf.get, fRd, bnd, Fe.ret, fOp, fUn, fTst, fNot, fAnd, fOr, fIf, fBool, fNil, fCons, fTup, fLst, fAsL, fVal, fAndV, fOrV, fNotV, oI, oIc, oNeg, oIsN, oNotN, oIx, fIx, fR1, fR1L, oLen, oList, oTuple, oInt, oAbs, fRep, fCat, sNil, sThen, sSeq, sSet, sOwn, sRet, sRetN, sDrop, sIf, sTg, gNm, gNil', gCons', gTp, sFor, frzS, fSeq, fRng1, fRng2, fEnum, fZip, fComp, fYes, sApp, sExt, sIx, fPop, fPopAt, sPar, fCall, fCallS, oEq_int, oNe_int, List.getElem?_cons_zero, List.getElem?_cons_succ, List.set_cons_zero, List.set_cons_succ, oAdd, oSub, oMul, oDiv, oMod, oLt, oLe, oGt, oGe, oMin, oMax, oPow, decide_eq_true_eq, if_true, if_false, Bool.false_eq_true, Bool.not_true, Bool.not_false, decide_true, decide_false, List.length_cons, List.length_nil, List.length_map, Bool.and_self, fOpR, fChain, oCatT, fStar, fSlL, fSlT, fRev, oNn, oSm, oIsB, oNotB, sParO1, sParO2, sParO3, fRng3, Nat.reduceAdd, Nat.reduceBEq, bleN0, bleN1, bleN2, bleN3, bleN4, bleN5, bleN6, bleN7, bleN8, this]
      rfl
    · have hp : (0 : Int) < (e : Int) := by omega
      have m2 : modOk 2 = true := by decide
      have d2 : divOk 2 = true := by decide
      have hc : c_cube_power_0 [v, .v (.int (e : Nat)), .v (T2 a b), .v (T2 x y), .v (R p a b h)] = some (true, [v, .v (.int (e : Nat)), .v (T2 a b), .v (T2 x y), .v (R p a b h)]) := by
        simp only [c_cube_power_0, fC, fVar, rdS, Rf.get, fRd, bnd, Fe.ret, fOp, fUn, fTst, fNot, fAnd, fOr, fIf, fBool, fNil, fCons, fTup, fLst, fAsL, fVal, fAndV, fOrV, fNotV, oI, oIc, oNeg, oIsN, oNotN, oIx, fIx, fR1, fR1L, oLen, oList, oTuple, oInt, oAbs, fRep, fCat, sNil, sThen, sSeq, sSet, sOwn, sRet, sRetN, sDrop, sIf, sTg, gNm, gNil', gCons', gTp, sFor, frzS, fSeq, fRng1, fRng2, fEnum, fZip, fComp, fYes, sApp, sExt, sIx, fPop, fPopAt, sPar, fCall, fCallS, oEq_int, oNe_int, List.getElem?_cons_zero, List.getElem?_cons_succ, List.set_cons_zero, List.set_cons_succ, oAdd, oSub, oMul, oDiv, oMod, oLt, oLe, oGt, oGe, oMin, oMax, oPow, decide_eq_true_eq, if_true, if_false, Bool.false_eq_true, Bool.not_true, Bool.not_false, decide_true, decide_false, List.length_cons, List.length_nil, List.length_map, Bool.and_self, fOpR, fChain, oCatT, fStar, fSlL, fSlT, fRev, oNn, oSm, oIsB, oNotB, sParO1, sParO2, sParO3, fRng3, Nat.reduceAdd, Nat.reduceBEq, bleN0, bleN1, bleN2, bleN3, bleN4, bleN5, bleN6, bleN7, bleN8, hp]
      have rh := Rp.of m ha hb h
      obtain ⟨q2, g1, g2⟩ := Rp.mul m ha hb rh rh
      have hdiv : (e : Int) / 2 = ((e / 2 : Nat) : Int) := by omega
      by_cases h1 : e % 2 = 1
      · obtain ⟨q1, k1, k2⟩ := Rp.mul m ha hb c rh
        have hm : (e : Int) % 2 = 1 := by omega
        have hb' : b_cube_power_1 [v, .v (.int (e : Nat)), .v (T2 a b), .v (T2 x y), .v (R p a b h)] = some (.nx [v, .v (.int ((e / 2 : Nat) : Int)), .v (T2 a b), .v (R p a b (f * h)), .v (R p a b (h * h))]) := by
          simp only [b_cube_power_1, fC, fVar, rdS, Rf.get, fRd, bnd, Fe.ret, fOp, fUn, fTst, fNot, fAnd, fOr, fIf, fBool, fNil, fCons, fTup, fLst, fAsL, fVal, fAndV, fOrV, fNotV, oI, oIc, oNeg, oIsN, oNotN, oIx, fIx, fR1, fR1L, oLen, oList, oTuple, oInt, oAbs, fRep, fCat, sNil, sThen, sSeq, sSet, sOwn, sRet, sRetN, sDrop, sIf, sTg, gNm, gNil', gCons', gTp, sFor, frzS, fSeq, fRng1, fRng2, fEnum, fZip, fComp, fYes, sApp, sExt, sIx, fPop, fPopAt, sPar, fCall, fCallS, oEq_int, oNe_int, List.getElem?_cons_zero, List.getElem?_cons_succ, List.set_cons_zero, List.set_cons_succ, oAdd, oSub, oMul, oDiv, oMod, oLt, oLe, oGt, oGe, oMin, oMax, oPow, decide_eq_true_eq, if_true, if_false, Bool.false_eq_true, Bool.not_true, Bool.not_false, decide_true, decide_false, List.length_cons, List.length_nil, List.length_map, Bool.and_self, fOpR, fChain, oCatT, fStar, fSlL, fSlT, fRev, oNn, oSm, oIsB, oNotB, sParO1, sParO2, sParO3, fRng3, Nat.reduceAdd, Nat.reduceBEq, bleN0, bleN1, bleN2, bleN3, bleN4, bleN5, bleN6, bleN7, bleN8, m2, d2, hm, k1, k2, g1, g2, hdiv]
        obtain ⟨x', y', s', w1, w2⟩ := ih (e / 2) _ _ (f * h) (h * h) (by omega) (Rp.of m ha hb (f * h))
        refine ⟨x', y', s', by rw [whl_go hc hb']; exact w1, ?_⟩
        have := pow_half f h e
        rw [if_pos h1] at this
        rwa [this] at w2
      · have hm : ¬ (e : Int) % 2 = 1 := by omega
        have hb' : b_cube_power_1 [v, .v (.int (e : Nat)), .v (T2 a b), .v (T2 x y), .v (R p a b h)] = some (.nx [v, .v (.int ((e / 2 : Nat) : Int)), .v (T2 a b), .v (T2 x y), .v (R p a b (h * h))]) := by
          simp only [b_cube_power_1, fC, fVar, rdS, Rf.get, fRd, bnd, Fe.ret, fOp, fUn, fTst, fNot, fAnd, fOr, fIf, fBool, fNil, fCons, fTup, fLst, fAsL, fVal, fAndV, fOrV, fNotV, oI, oIc, oNeg, oIsN, oNotN, oIx, fIx, fR1, fR1L, oLen, oList, oTuple, oInt, oAbs, fRep, fCat, sNil, sThen, sSeq, sSet, sOwn, sRet, sRetN, sDrop, sIf, sTg, gNm, gNil', gCons', gTp, sFor, frzS, fSeq, fRng1, fRng2, fEnum, fZip, fComp, fYes, sApp, sExt, sIx, fPop, fPopAt, sPar, fCall, fCallS, oEq_int, oNe_int, List.getElem?_cons_zero, List.getElem?_cons_succ, List.set_cons_zero, List.set_cons_succ, oAdd, oSub, oMul, oDiv, oMod, oLt, oLe, oGt, oGe, oMin, oMax, oPow, decide_eq_true_eq, if_true, if_false, Bool.false_eq_true, Bool.not_true, Bool.not_false, decide_true, decide_false, List.length_cons, List.length_nil, List.length_map, Bool.and_self, fOpR, fChain, oCatT, fStar, fSlL, fSlT, fRev, oNn, oSm, oIsB, oNotB, sParO1, sParO2, sParO3, fRng3, Nat.reduceAdd, Nat.reduceBEq, bleN0, bleN1, bleN2, bleN3, bleN4, bleN5, bleN6, bleN7, bleN8, m2, d2, hm, g1, g2, hdiv]
        obtain ⟨x', y', s', w1, w2⟩ := ih (e / 2) x y f (h * h) (by omega) c
        refine ⟨x', y', s', by rw [whl_go hc hb']; exact w1, ?_⟩
        have := pow_half f h e
        rw [if_neg h1] at this
        rwa [this] at w2
theorem F_power {p a b r t : Int} (m : Ei.M p a b r) (ha : Bd 6 a) (hb : Bd 6 b) (ht : Bd 30 t) {e : Nat} (he : e < 1048576) : ∃ x y, F_cube_power [T2 t 0, .int (e : Nat), T2 a b] = some (T2 x y) ∧ Rp p r x y (t ^ e) := by
  have e1 := F_R m ha hb ht
  obtain ⟨x, y, s', w1, w2⟩ := pow_loop m ha hb (v := .v (T2 t 0)) 1048575 e 1 0 1 t (by omega) ⟨by decide, by decide, 0, by grind⟩
  rw [Int.one_mul] at w2
  refine ⟨x, y, ?_, w2⟩
  have w1 : whl c_cube_power_0 b_cube_power_1 fuel _ = _ := w1
  refine runF_rt (ρ := [.v (T2 t 0), .v (.int 0), .v (T2 a b), .v (T2 x y), s']) ?_
  show b_cube_power [.v (T2 t 0), .v (.int (e : Nat)), .v (T2 a b), .un, .un] = _
  simp only [b_cube_power, fC, fVar, rdS, Rf.get, fRd, bnd, Fe.ret, fOp, fUn, fTst, fNot, fAnd, fOr, fIf, fBool, fNil, fCons, fTup, fLst, fAsL, fVal, fAndV, fOrV, fNotV, oI, oIc, oNeg, oIsN, oNotN, oIx, fIx, fR1, fR1L, oLen, oList, oTuple, oInt, oAbs, fRep, fCat, sNil, sThen, sSeq, sSet, sOwn, sRet, sRetN, sDrop, sIf, sTg, gNm, gNil', gCons', gTp, sFor, frzS, fSeq, fRng1, fRng2, fEnum, fZip, fComp, fYes, sApp, sExt, sIx, fPop, fPopAt, sPar, fCall, fCallS, oEq_int, oNe_int, List.getElem?_cons_zero, List.getElem?_cons_succ, List.set_cons_zero, List.set_cons_succ, oAdd, oSub, oMul, oDiv, oMod, oLt, oLe, oGt, oGe, oMin, oMax, oPow, decide_eq_true_eq, if_true, if_false, Bool.false_eq_true, Bool.not_true, Bool.not_false, decide_true, decide_false, List.length_cons, List.length_nil, List.length_map, Bool.and_self, fOpR, fChain, oCatT, fStar, fSlL, fSlT, fRev, oNn, oSm, oIsB, oNotB, sParO1, sParO2, sParO3, fRng3, Nat.reduceAdd, Nat.reduceBEq, bleN0, bleN1, bleN2, bleN3, bleN4, bleN5, bleN6, bleN7, bleN8, e1, w1]
/-- the sign's number -/
def sgv (p r z : Int) : PyData := if (z - 1) % p = 0 then .int 0 else if (z - r) % p = 0 then .int 1 else if (z + 1 + r) % p = 0 then .int 2 else .none
theorem dvd_iff {p z : Int} : (∃ s, z = p * s) ↔ z % p = 0 := Int.dvd_iff_emod_eq_zero
theorem tst0 {p a b r x y c d f : Int} (m : Ei.M p a b r) (ha : Bd 6 a) (hb : Bd 6 b) (h : Rp p r x y f) (hc : Bd 2 c) (hd : Bd 2 d) : ∃ q, F_cube_rest [T2 (x - c) (y - d), T2 a b] = some q ∧ oEq q (T2 0 0) = some (.bool (decide ((f - c - d * r) % p = 0))) := by
  refine ⟨_, F_rest m ha hb ((h.bx.sub hc).mono (l := 30)) ((h.hy.sub hd).mono (l := 30)), ?_⟩
  have e := oEq_tI [Ei.r0 p a b (x - c) (y - d), Ei.r1 p a b (x - c) (y - d)] [0, 0]
  refine e.trans ?_
  congr 2
  obtain ⟨s, hs⟩ := h.ph
  have k := Ei.r_iff m (x - c) (y - d)
  have k2 : (∃ s, x - c + (y - d) * r = p * s) ↔ (f - c - d * r) % p = 0 := by
    rw [← dvd_iff]
    constructor
    · rintro ⟨u, hu⟩
      exact ⟨u - s, by grind⟩
    · rintro ⟨u, hu⟩
      exact ⟨u + s, by grind⟩
  rw [k2] at k
  rw [decide_eq_decide, ← k]
  constructor
  · intro z
    injection z with z1 z2
    injection z2 with z2 _
    exact ⟨z1, z2⟩
  · rintro ⟨z1, z2⟩
    rw [z1, z2]
theorem F_sign {p a b r t : Int} (m : Ei.M p a b r) (ha : Bd 6 a) (hb : Bd 6 b) (ht : Bd 30 t) {e : Nat} (he : e < 1048576) (hq : (p - 1) / 3 = (e : Int)) (h0 : ¬ t % p = 0) : F_cube_sign [T2 t 0, T2 a b] = some (sgv p r (t ^ e)) := by
  have e1 := F_R m ha hb ht
  have e2 := F_norm (ha.mono (l := 40)) (hb.mono (l := 40))
  rw [m.hn] at e2
  obtain ⟨x, y, e3, c⟩ := F_power m ha hb ht he
  have d3 : divOk 3 = true := by decide
  have k0 : oEq (R p a b t) (T2 0 0) = some (.bool false) := by
    have e := oEq_tI [Ei.r0 p a b t 0, Ei.r1 p a b t 0] [0, 0]
    refine e.trans ?_
    have k := Ei.r_iff m t 0
    rw [Int.zero_mul, Int.add_zero, dvd_iff] at k
    rw [decide_eq_false]
    intro z
    injection z with z1 z2
    injection z2 with z2 _
    exact h0 (k.mp ⟨z1, z2⟩)
  obtain ⟨q1, a1, b1⟩ := tst0 m ha hb c (c := 1) (d := 0) (by decide) (by decide)
  obtain ⟨q2, a2, b2⟩ := tst0 m ha hb c (c := 0) (d := 1) (by decide) (by decide)
  obtain ⟨q3, a3, b3⟩ := tst0 m ha hb c (c := -1) (d := -1) (by decide) (by decide)
  have hb3 : inB 3 = true := by decide
  have hn3 : rngL 0 (3 : Int).toNat = [.int 0, .int 1, .int 2] := rfl
  have i0 : ∀ l : List PyData, ixD l 0 = l[0]? := fun _ => rfl
  have i1 : ∀ l : List PyData, ixD l 1 = l[1]? := fun _ => rfl
  have i2 : ∀ l : List PyData, ixD l 2 = l[2]? := fun _ => rfl
  rw [show t ^ e - 1 - 0 * r = t ^ e - 1 by grind] at b1
  rw [show t ^ e - 0 - 1 * r = t ^ e - r by grind] at b2
  rw [show t ^ e - -1 - -1 * r = t ^ e + 1 + r by grind] at b3
  have go : ∃ ρ', b_cube_sign [.v (T2 t 0), .v (T2 a b), .un, .un, .un] = some (.rt (sgv p r (t ^ e)) ρ') := by
    unfold sgv
    by_cases c1 : (t ^ e - 1) % p = 0
    · rw [if_pos c1]
      rw [decide_eq_true c1] at b1
      refine ⟨[.v (T2 t 0), .v (T2 a b), .v (T2 x y), .v (.int 0), .v (T2 1 0)], ?_⟩
      simp only [b_cube_sign, b_cube_sign_0, lp, fC, fVar, rdS, Rf.get, fRd, bnd, Fe.ret, fOp, fUn, fTst, fNot, fAnd, fOr, fIf, fBool, fNil, fCons, fTup, fLst, fAsL, fVal, fAndV, fOrV, fNotV, oI, oIc, oNeg, oIsN, oNotN, oIx, fIx, fR1, fR1L, oLen, oList, oTuple, oInt, oAbs, fRep, fCat, sNil, sThen, sSeq, sSet, sOwn, sRet, sRetN, sDrop, sIf, sTg, gNm, gNil', gCons', gTp, sFor, frzS, fSeq, fRng1, fRng2, fEnum, fZip, fComp, fYes, sApp, sExt, sIx, fPop, fPopAt, sPar, fCall, fCallS, oEq_int, oNe_int, List.getElem?_cons_zero, List.getElem?_cons_succ, List.set_cons_zero, List.set_cons_succ, oAdd, oSub, oMul, oDiv, oMod, oLt, oLe, oGt, oGe, oMin, oMax, oPow, decide_eq_true_eq, if_true, if_false, Bool.false_eq_true, Bool.not_true, Bool.not_false, decide_true, decide_false, List.length_cons, List.length_nil, List.length_map, Bool.and_self, fOpR, fChain, oCatT, fStar, fSlL, fSlT, fRev, oNn, oSm, oIsB, oNotB, sParO1, sParO2, sParO3, fRng3, Nat.reduceAdd, Nat.reduceBEq, bleN0, bleN1, bleN2, bleN3, bleN4, bleN5, bleN6, bleN7, bleN8, e1, e2, e3, k0, d3, hq, hb3, hn3, ix0, ix1, i0, i1, i2, a1, b1]
    · rw [if_neg c1]
      rw [decide_eq_false c1] at b1
      by_cases c2 : (t ^ e - r) % p = 0
      · rw [if_pos c2]
        rw [decide_eq_true c2] at b2
        refine ⟨[.v (T2 t 0), .v (T2 a b), .v (T2 x y), .v (.int 1), .v (T2 0 1)], ?_⟩
        simp only [b_cube_sign, b_cube_sign_0, lp, fC, fVar, rdS, Rf.get, fRd, bnd, Fe.ret, fOp, fUn, fTst, fNot, fAnd, fOr, fIf, fBool, fNil, fCons, fTup, fLst, fAsL, fVal, fAndV, fOrV, fNotV, oI, oIc, oNeg, oIsN, oNotN, oIx, fIx, fR1, fR1L, oLen, oList, oTuple, oInt, oAbs, fRep, fCat, sNil, sThen, sSeq, sSet, sOwn, sRet, sRetN, sDrop, sIf, sTg, gNm, gNil', gCons', gTp, sFor, frzS, fSeq, fRng1, fRng2, fEnum, fZip, fComp, fYes, sApp, sExt, sIx, fPop, fPopAt, sPar, fCall, fCallS, oEq_int, oNe_int, List.getElem?_cons_zero, List.getElem?_cons_succ, List.set_cons_zero, List.set_cons_succ, oAdd, oSub, oMul, oDiv, oMod, oLt, oLe, oGt, oGe, oMin, oMax, oPow, decide_eq_true_eq, if_true, if_false, Bool.false_eq_true, Bool.not_true, Bool.not_false, decide_true, decide_false, List.length_cons, List.length_nil, List.length_map, Bool.and_self, fOpR, fChain, oCatT, fStar, fSlL, fSlT, fRev, oNn, oSm, oIsB, oNotB, sParO1, sParO2, sParO3, fRng3, Nat.reduceAdd, Nat.reduceBEq, bleN0, bleN1, bleN2, bleN3, bleN4, bleN5, bleN6, bleN7, bleN8, e1, e2, e3, k0, d3, hq, hb3, hn3, ix0, ix1, i0, i1, i2, a1, b1, a2, b2]
      · rw [if_neg c2]
        rw [decide_eq_false c2] at b2
        by_cases c3 : (t ^ e + 1 + r) % p = 0
        · rw [if_pos c3]
          rw [decide_eq_true c3] at b3
          refine ⟨[.v (T2 t 0), .v (T2 a b), .v (T2 x y), .v (.int 2), .v (T2 (-1) (-1))], ?_⟩
          simp only [b_cube_sign, b_cube_sign_0, lp, fC, fVar, rdS, Rf.get, fRd, bnd, Fe.ret, fOp, fUn, fTst, fNot, fAnd, fOr, fIf, fBool, fNil, fCons, fTup, fLst, fAsL, fVal, fAndV, fOrV, fNotV, oI, oIc, oNeg, oIsN, oNotN, oIx, fIx, fR1, fR1L, oLen, oList, oTuple, oInt, oAbs, fRep, fCat, sNil, sThen, sSeq, sSet, sOwn, sRet, sRetN, sDrop, sIf, sTg, gNm, gNil', gCons', gTp, sFor, frzS, fSeq, fRng1, fRng2, fEnum, fZip, fComp, fYes, sApp, sExt, sIx, fPop, fPopAt, sPar, fCall, fCallS, oEq_int, oNe_int, List.getElem?_cons_zero, List.getElem?_cons_succ, List.set_cons_zero, List.set_cons_succ, oAdd, oSub, oMul, oDiv, oMod, oLt, oLe, oGt, oGe, oMin, oMax, oPow, decide_eq_true_eq, if_true, if_false, Bool.false_eq_true, Bool.not_true, Bool.not_false, decide_true, decide_false, List.length_cons, List.length_nil, List.length_map, Bool.and_self, fOpR, fChain, oCatT, fStar, fSlL, fSlT, fRev, oNn, oSm, oIsB, oNotB, sParO1, sParO2, sParO3, fRng3, Nat.reduceAdd, Nat.reduceBEq, bleN0, bleN1, bleN2, bleN3, bleN4, bleN5, bleN6, bleN7, bleN8, e1, e2, e3, k0, d3, hq, hb3, hn3, ix0, ix1, i0, i1, i2, a1, b1, a2, b2, a3, b3]
        · rw [if_neg c3]
          rw [decide_eq_false c3] at b3
          refine ⟨[.v (T2 t 0), .v (T2 a b), .v (T2 x y), .v (.int 2), .v (T2 (-1) (-1))], ?_⟩
          simp only [b_cube_sign, b_cube_sign_0, lp, fC, fVar, rdS, Rf.get, fRd, bnd, Fe.ret, fOp, fUn, fTst, fNot, fAnd, fOr, fIf, fBool, fNil, fCons, fTup, fLst, fAsL, fVal, fAndV, fOrV, fNotV, oI, oIc, oNeg, oIsN, oNotN, oIx, fIx, fR1, fR1L, oLen, oList, oTuple, oInt, oAbs, fRep, fCat, sNil, sThen, sSeq, sSet, sOwn, sRet, sRetN, sDrop, sIf, sTg, gNm, gNil', gCons', gTp, sFor, frzS, fSeq, fRng1, fRng2, fEnum, fZip, fComp, fYes, sApp, sExt, sIx, fPop, fPopAt, sPar, fCall, fCallS, oEq_int, oNe_int, List.getElem?_cons_zero, List.getElem?_cons_succ, List.set_cons_zero, List.set_cons_succ, oAdd, oSub, oMul, oDiv, oMod, oLt, oLe, oGt, oGe, oMin, oMax, oPow, decide_eq_true_eq, if_true, if_false, Bool.false_eq_true, Bool.not_true, Bool.not_false, decide_true, decide_false, List.length_cons, List.length_nil, List.length_map, Bool.and_self, fOpR, fChain, oCatT, fStar, fSlL, fSlT, fRev, oNn, oSm, oIsB, oNotB, sParO1, sParO2, sParO3, fRng3, Nat.reduceAdd, Nat.reduceBEq, bleN0, bleN1, bleN2, bleN3, bleN4, bleN5, bleN6, bleN7, bleN8, e1, e2, e3, k0, d3, hq, hb3, hn3, ix0, ix1, i0, i1, i2, a1, b1, a2, b2, a3, b3]
  obtain ⟨ρ', hg⟩ := go
  exact runF_rt (ρ := ρ') hg
end K70
namespace K70
open PySem PySem.Spec PyProof.Rows L2 Fe
/-! ## the primes -/
def isP (n : Nat) : Bool := !(((irg 2 (n - 2)).filter fun d => decide (d * d ≤ (n : Int))).map fun d => decide ((n : Int) % d = 0)).any id
theorem F_is_prime {n : Nat} (h2 : 2 ≤ n) (h : n ≤ 400) : F_law_is_prime [.int (n : Nat)] = some (.bool (isP n)) := by
  have hz := rngL_ble (lo := 2) (n := n - 2) (by omega)
  have hb2 : inB 2 = true := by decide
  have hbn : inB (n : Int) = true := inB_of (by omega) (by omega)
  have hn : ((n : Int) - 2).toNat = n - 2 := by omega
  have hg : (1 : Int) < (n : Int) := by omega
  have hc := cl_gen PyData.int (vs := [1]) (g := gNm 1) (c := c_law_is_prime_0) (e := e_law_is_prime_1) (ρ := [.v (.int (n : Nat)), .un]) (fun d => decide (d * d ≤ (n : Int))) (fun d => .bool (decide ((n : Int) % d = 0))) (irg 2 (n - 2)) (fun d hd => by
    obtain ⟨k, hk, rfl⟩ := mem_irg hd
    have hm : modOk (2 + (k : Int)) = true := modOk_of (by omega)
    have hs := Bd.mulOk (k := 10) (l := 10) (x := 2 + (k : Int)) (y := 2 + (k : Int)) (Bd.of (c := 1000) (by omega) (by omega)) (Bd.of (c := 1000) (by omega) (by omega))
    refine ⟨[.v (.int (n : Nat)), .v (.int (2 + (k : Int)))], [.v (.int (n : Nat)), .v (.int (2 + (k : Int)))], rfl, ?_, fun _ => ⟨[.v (.int (n : Nat)), .v (.int (2 + (k : Int)))], ?_, rfl⟩, fun _ => rfl⟩
    · simp only [c_law_is_prime_0, fC, fVar, rdS, Rf.get, fRd, bnd, Fe.ret, fOp, fUn, fTst, fNot, fAnd, fOr, fIf, fBool, fNil, fCons, fTup, fLst, fAsL, fVal, fAndV, fOrV, fNotV, oI, oIc, oNeg, oIsN, oNotN, oIx, fIx, fR1, fR1L, oLen, oList, oTuple, oInt, oAbs, fRep, fCat, sNil, sThen, sSeq, sSet, sOwn, sRet, sRetN, sDrop, sIf, sTg, gNm, gNil', gCons', gTp, sFor, frzS, fSeq, fRng1, fRng2, fEnum, fZip, fComp, fYes, sApp, sExt, sIx, fPop, fPopAt, sPar, fCall, fCallS, oEq_int, oNe_int, List.getElem?_cons_zero, List.getElem?_cons_succ, List.set_cons_zero, List.set_cons_succ, oAdd, oSub, oMul, oDiv, oMod, oLt, oLe, oGt, oGe, oMin, oMax, oPow, decide_eq_true_eq, if_true, if_false, Bool.false_eq_true, Bool.not_true, Bool.not_false, decide_true, decide_false, List.length_cons, List.length_nil, List.length_map, Bool.and_self, fOpR, fChain, oCatT, fStar, fSlL, fSlT, fRev, oNn, oSm, oIsB, oNotB, sParO1, sParO2, sParO3, fRng3, Nat.reduceAdd, Nat.reduceBEq, bleN0, bleN1, bleN2, bleN3, bleN4, bleN5, bleN6, bleN7, bleN8, Int.reduceAdd, Int.reduceMul, Int.reduceSub, Int.reduceToNat, Nat.reduceMul, hs]
    · simp only [e_law_is_prime_1, fC, fVar, rdS, Rf.get, fRd, bnd, Fe.ret, fOp, fUn, fTst, fNot, fAnd, fOr, fIf, fBool, fNil, fCons, fTup, fLst, fAsL, fVal, fAndV, fOrV, fNotV, oI, oIc, oNeg, oIsN, oNotN, oIx, fIx, fR1, fR1L, oLen, oList, oTuple, oInt, oAbs, fRep, fCat, sNil, sThen, sSeq, sSet, sOwn, sRet, sRetN, sDrop, sIf, sTg, gNm, gNil', gCons', gTp, sFor, frzS, fSeq, fRng1, fRng2, fEnum, fZip, fComp, fYes, sApp, sExt, sIx, fPop, fPopAt, sPar, fCall, fCallS, oEq_int, oNe_int, List.getElem?_cons_zero, List.getElem?_cons_succ, List.set_cons_zero, List.set_cons_succ, oAdd, oSub, oMul, oDiv, oMod, oLt, oLe, oGt, oGe, oMin, oMax, oPow, decide_eq_true_eq, if_true, if_false, Bool.false_eq_true, Bool.not_true, Bool.not_false, decide_true, decide_false, List.length_cons, List.length_nil, List.length_map, Bool.and_self, fOpR, fChain, oCatT, fStar, fSlL, fSlT, fRev, oNn, oSm, oIsB, oNotB, sParO1, sParO2, sParO3, fRng3, Nat.reduceAdd, Nat.reduceBEq, bleN0, bleN1, bleN2, bleN3, bleN4, bleN5, bleN6, bleN7, bleN8, Int.reduceAdd, Int.reduceMul, Int.reduceSub, Int.reduceToNat, Nat.reduceMul, hm, oEq_int]) _ rfl
  rw [← rngL_eq] at hc
  have hmm : ((irg 2 (n - 2)).filter fun d => decide (d * d ≤ (n : Int))).map (fun d => PyData.bool (decide ((n : Int) % d = 0))) = (((irg 2 (n - 2)).filter fun d => decide (d * d ≤ (n : Int))).map fun d => decide ((n : Int) % d = 0)).map .bool := by
    rw [List.map_map]
    rfl
  rw [hmm] at hc
  refine runF_rt (ρ := [.v (.int (n : Nat)), .un]) ?_
  show b_law_is_prime [.v (.int (n : Nat)), .un] = _
  simp only [b_law_is_prime, fC, fVar, rdS, Rf.get, fRd, bnd, Fe.ret, fOp, fUn, fTst, fNot, fAnd, fOr, fIf, fBool, fNil, fCons, fTup, fLst, fAsL, fVal, fAndV, fOrV, fNotV, oI, oIc, oNeg, oIsN, oNotN, oIx, fIx, fR1, fR1L, oLen, oList, oTuple, oInt, oAbs, fRep, fCat, sNil, sThen, sSeq, sSet, sOwn, sRet, sRetN, sDrop, sIf, sTg, gNm, gNil', gCons', gTp, sFor, frzS, fSeq, fRng1, fRng2, fEnum, fZip, fComp, fYes, sApp, sExt, sIx, fPop, fPopAt, sPar, fCall, fCallS, oEq_int, oNe_int, List.getElem?_cons_zero, List.getElem?_cons_succ, List.set_cons_zero, List.set_cons_succ, oAdd, oSub, oMul, oDiv, oMod, oLt, oLe, oGt, oGe, oMin, oMax, oPow, decide_eq_true_eq, if_true, if_false, Bool.false_eq_true, Bool.not_true, Bool.not_false, decide_true, decide_false, List.length_cons, List.length_nil, List.length_map, Bool.and_self, fOpR, fChain, oCatT, fStar, fSlL, fSlT, fRev, oNn, oSm, oIsB, oNotB, sParO1, sParO2, sParO3, fRng3, Nat.reduceAdd, Nat.reduceBEq, bleN0, bleN1, bleN2, bleN3, bleN4, bleN5, bleN6, bleN7, bleN8, Int.reduceAdd, Int.reduceMul, Int.reduceSub, Int.reduceToNat, Nat.reduceMul, hb2, hbn, hn, hz, hc, wipeE, oAny, boolsD_map, hg]
  rfl
def P70 : List Int := [7, 13, 19, 31, 37, 43, 61, 67, 73, 79, 97, 103, 109, 127, 139, 151, 157, 163, 181, 193, 199, 211, 223, 229, 241, 271, 277, 283, 307, 313, 331, 337, 349, 367, 373, 379, 397]
theorem P70_ok : (irgC 4 3 132).filter (fun n => isP n.toNat) = P70 := by decide +kernel
theorem F_prime_gen {s s' : Src} {M B : Int} {c k : Nat} {L : List Int} (r1 : rcOk (B + 1) M B = true) (r2 : (Builtin.Range.rangeSize (B + 1) M B).toNat = c) (hz : c ≤ 16777216)
    (hc : cl [4] (gNm 4) c_law_prime_0 e_law_prime_1 (rngC (B + 1) B c) [.src s, .v (.int M), .v (.int B), .un, .un] = some (L.map .int, [.src s, .v (.int M), .v (.int B), .un, .un]))
    (e : F_law_pick s [.int (L.length : Nat)] = some (.int (k : Nat), s')) (hk : k < L.length) : F_law_prime s [.int M, .int B] = some (.int (iat L k), s') := by
  have h3 := ixD_map (l := L) (n := k) (z := (k : Int)) rfl hk
  have hz := rngC_ble (lo := B + 1) (c := B) hz
  refine runS_rt (ρ := [.v (.int M), .v (.int B), .v (.list (L.map .int)), .un]) ?_
  show b_law_prime [.src s, .v (.int M), .v (.int B), .un, .un] = _
  simp only [b_law_prime, fC, fVar, rdS, Rf.get, fRd, bnd, Fe.ret, fOp, fUn, fTst, fNot, fAnd, fOr, fIf, fBool, fNil, fCons, fTup, fLst, fAsL, fVal, fAndV, fOrV, fNotV, oI, oIc, oNeg, oIsN, oNotN, oIx, fIx, fR1, fR1L, oLen, oList, oTuple, oInt, oAbs, fRep, fCat, sNil, sThen, sSeq, sSet, sOwn, sRet, sRetN, sDrop, sIf, sTg, gNm, gNil', gCons', gTp, sFor, frzS, fSeq, fRng1, fRng2, fEnum, fZip, fComp, fYes, sApp, sExt, sIx, fPop, fPopAt, sPar, fCall, fCallS, oEq_int, oNe_int, List.getElem?_cons_zero, List.getElem?_cons_succ, List.set_cons_zero, List.set_cons_succ, oAdd, oSub, oMul, oDiv, oMod, oLt, oLe, oGt, oGe, oMin, oMax, oPow, decide_eq_true_eq, if_true, if_false, Bool.false_eq_true, Bool.not_true, Bool.not_false, decide_true, decide_false, List.length_cons, List.length_nil, List.length_map, Bool.and_self, fOpR, fChain, oCatT, fStar, fSlL, fSlT, fRev, oNn, oSm, oIsB, oNotB, sParO1, sParO2, sParO3, fRng3, Nat.reduceAdd, Nat.reduceBEq, bleN0, bleN1, bleN2, bleN3, bleN4, bleN5, bleN6, bleN7, bleN8, Int.reduceAdd, Int.reduceMul, Int.reduceSub, Int.reduceToNat, Nat.reduceMul, r1, r2, hz, hc, h3, e]
theorem cl_prime {s : Src} {M B : Int} {c : Nat} (hB : 0 ≤ B) (h : (B.toNat + 1) + c * B.toNat ≤ 400) (h2 : 1 ≤ B) : cl [4] (gNm 4) c_law_prime_0 e_law_prime_1 (rngC (B + 1) B c) [.src s, .v (.int M), .v (.int B), .un, .un] = some (((irgC (B + 1) B c).filter fun n => isP n.toNat).map .int, [.src s, .v (.int M), .v (.int B), .un, .un]) := by
  have hc := cl_fI (vs := [4]) (g := gNm 4) (c := c_law_prime_0) (e := e_law_prime_1) (ρ := [.src s, .v (.int M), .v (.int B), .un, .un]) (fun n => isP n.toNat) (fun n => n) (ns := irgC (B + 1) B c) fun d hd => by
    obtain ⟨k, hk, rfl⟩ := mem_irgC hd
    have q : (k : Int) * B = ((k * B.toNat : Nat) : Int) := by
      rw [Int.natCast_mul, Int.toNat_of_nonneg hB]
    have q2 : k * B.toNat ≤ c * B.toNat := Nat.mul_le_mul_right _ (Nat.le_of_lt hk)
    have e := F_is_prime (n := B.toNat + 1 + k * B.toNat) (by omega) (by omega)
    rw [show ((B.toNat + 1 + k * B.toNat : Nat) : Int) = B + 1 + (k : Int) * B by omega] at e
    refine ⟨[.src s, .v (.int M), .v (.int B), .un, .v (.int (B + 1 + (k : Int) * B))], rfl, ?_, fun _ => rfl, rfl⟩
    rw [show (B + 1 + (k : Int) * B).toNat = B.toNat + 1 + k * B.toNat by omega]
    simp only [c_law_prime_0, fC, fVar, rdS, Rf.get, fRd, bnd, Fe.ret, fOp, fUn, fTst, fNot, fAnd, fOr, fIf, fBool, fNil, fCons, fTup, fLst, fAsL, fVal, fAndV, fOrV, fNotV, oI, oIc, oNeg, oIsN, oNotN, oIx, fIx, fR1, fR1L, oLen, oList, oTuple, oInt, oAbs, fRep, fCat, sNil, sThen, sSeq, sSet, sOwn, sRet, sRetN, sDrop, sIf, sTg, gNm, gNil', gCons', gTp, sFor, frzS, fSeq, fRng1, fRng2, fEnum, fZip, fComp, fYes, sApp, sExt, sIx, fPop, fPopAt, sPar, fCall, fCallS, oEq_int, oNe_int, List.getElem?_cons_zero, List.getElem?_cons_succ, List.set_cons_zero, List.set_cons_succ, oAdd, oSub, oMul, oDiv, oMod, oLt, oLe, oGt, oGe, oMin, oMax, oPow, decide_eq_true_eq, if_true, if_false, Bool.false_eq_true, Bool.not_true, Bool.not_false, decide_true, decide_false, List.length_cons, List.length_nil, List.length_map, Bool.and_self, fOpR, fChain, oCatT, fStar, fSlL, fSlT, fRev, oNn, oSm, oIsB, oNotB, sParO1, sParO2, sParO3, fRng3, Nat.reduceAdd, Nat.reduceBEq, bleN0, bleN1, bleN2, bleN3, bleN4, bleN5, bleN6, bleN7, bleN8, Int.reduceAdd, Int.reduceMul, Int.reduceSub, Int.reduceToNat, Nat.reduceMul, e]
  rw [← rngC_eq, List.map_id'] at hc
  exact hc
theorem F_prime (s : Src) : ∃ (p : Int) (s' : Src), p ∈ P70 ∧ F_law_prime s [.int 400, .int 3] = some (.int p, s') := by
  obtain ⟨k, s', hk, e⟩ := pick_at pickA_rng s (m := 37) (by decide) (by decide)
  have hk : k < 37 := by omega
  have hc := cl_prime (s := s) (M := 400) (B := 3) (c := 132) (by decide) (by decide) (by decide)
  have h4 : (3 : Int) + 1 = 4 := by decide
  rw [h4, P70_ok, ← h4] at hc
  refine ⟨iat P70 k, s', ?_, F_prime_gen (c := 132) (by decide) (by decide) (by decide) hc e hk⟩
  have : ((List.range 37).all fun k => P70.contains (iat P70 k)) = true := by decide
  simpa using all_range this hk
/-! ## how often each cube -/
def cnt (p i v : Nat) : Nat := ((List.range i).filter fun t => Nat.beq (t * t * t % p) v).length
def waysL (p i : Nat) : List Int := (List.range p).map fun v => ((cnt p i v : Nat) : Int)
theorem cnt_succ (p i v : Nat) : cnt p (i + 1) v = cnt p i v + (if i * i * i % p = v then 1 else 0) := by
  unfold cnt
  rw [List.range_succ, List.filter_append, List.length_append]
  congr 1
  by_cases h : i * i * i % p = v
  · subst h
    simp
  · have : Nat.beq (i * i * i % p) v = false := by
      cases e : Nat.beq (i * i * i % p) v with
      | false => rfl
      | true => exact absurd (Nat.eq_of_beq_eq_true e) h
    simp [this, h]
theorem waysL_len {p i : Nat} : (waysL p i).length = p := by simp [waysL]
theorem waysL_at {p i v : Nat} (h : v < p) : iat (waysL p i) v = (cnt p i v : Nat) := by
  refine iat_some ?_
  unfold waysL
  rw [List.getElem?_map, List.getElem?_range h]
  rfl
theorem waysL_set {p i : Nat} (h : 0 < p) : (waysL p i).set (i * i * i % p) (iat (waysL p i) (i * i * i % p) + 1) = waysL p (i + 1) := by
  rw [waysL_at (Nat.mod_lt _ h)]
  refine List.ext_getElem? fun j => ?_
  by_cases hj : j < p
  · by_cases he : i * i * i % p = j
    · rw [List.getElem?_set, if_pos he, if_pos (by rw [waysL_len]; exact Nat.mod_lt _ h)]
      unfold waysL
      rw [List.getElem?_map, List.getElem?_range hj, Option.map_some, cnt_succ, if_pos he, ← he]
      rfl
    · rw [List.getElem?_set, if_neg he]
      unfold waysL
      rw [List.getElem?_map, List.getElem?_map, List.getElem?_range hj, Option.map_some, Option.map_some, cnt_succ, if_neg he]
      rfl
  · rw [List.getElem?_eq_none (by rw [List.length_set, waysL_len]; omega), List.getElem?_eq_none (by rw [waysL_len]; omega)]
theorem emm (a b p : Int) : (a % p * b) % p = (a * b) % p := by
  rw [Int.mul_emod, Int.emod_emod, ← Int.mul_emod]
theorem cube_mod {p x : Nat} : (1 * (x : Int) % p * x % p * x) % p = ((x * x * x % p : Nat) : Int) := by
  rw [Int.one_mul, emm, Int.mul_assoc, emm, ← Int.mul_assoc]
  simp
theorem F_ways {p : Nat} (h2 : 2 ≤ p) (h : p ≤ 400) : F_law_ways [.int (p : Nat), .int 3] = some (.list ((waysL p p).map .int)) := by
  have hb : inB (p : Int) = true := inB_of (by omega) (by omega)
  have hb3 : inB 3 = true := by decide
  have hn3 : rngL 0 3 = [.int 0, .int 1, .int 2] := rfl
  have hm : modOk (p : Int) = true := modOk_of (by omega)
  have h0 : (List.replicate p [PyData.int 0]).flatten = (waysL p 0).map .int := by
    have e : waysL p 0 = List.replicate p 0 := by
      refine List.ext_getElem? fun j => ?_
      unfold waysL
      rw [List.getElem?_map, List.getElem?_replicate]
      by_cases hj : j < p
      · rw [List.getElem?_range hj, if_pos hj]
        rfl
      · rw [List.getElem?_eq_none (by simpa using hj), if_neg hj]
        rfl
    rw [e]
    simp
  have hrep : (Nat.ble (1 * p) 16777216 && Nat.ble (p : Int).natAbs 16777216) = true := by
    rw [ble_of (by omega), ble_of (by omega)]
    rfl
  obtain ⟨ρ', h1, x, y, z, rfl⟩ := lp_rng (g := gNm 3) (b := b_law_ways_1) (fun i ρ => ∃ x y z, ρ = [.v (.int (p : Nat)), .v (.int 3), .own ((waysL p i).map .int), x, y, z]) (lo := 0) (n := p) (ρ := [.v (.int (p : Nat)), .v (.int 3), .own ((waysL p 0).map .int), .un, .un, .un]) ⟨_, _, _, rfl⟩ fun i ρ hi ⟨x, y, z, e⟩ => by
    subst e
    have hi0 : (0 : Int) + (i : Nat) = (i : Int) := by omega
    have hp0 : (0 : Int) < (p : Int) := by omega
    have bi : Bd 20 (i : Int) := Bd.of (c := 1000) (by omega) (by omega)
    have br : ∀ z : Int, Bd 20 (z % (p : Int)) := fun z => Bd.of (c := 1000) (by have := Int.emod_nonneg z (show (p : Int) ≠ 0 by omega); omega) (by have := Int.emod_lt_of_pos z hp0; omega)
    have m1 : mulOk 1 (i : Int) = true := Bd.mulOk (k := 2) (show Bd 2 1 by decide) bi
    have m2 := (br (1 * (i : Int))).mulOk bi
    have m3 := (br (1 * (i : Int) % p * i)).mulOk bi
    have hlt : i * i * i % p < p := Nat.mod_lt _ (by omega)
    have hx := ixD_map (l := waysL p i) (n := i * i * i % p) (z := ((i * i * i % p : Nat) : Int)) rfl (by rw [waysL_len]; exact hlt)
    have hx2 := ixP_map (l := waysL p i) (n := i * i * i % p) (z := ((i * i * i % p : Nat) : Int)) rfl (by rw [waysL_len]; exact hlt)
    simp only [List.length_map] at hx2
    have hs := waysL_set (p := p) (i := i) (by omega)
    refine ⟨_, ?_, .v (.int (i : Nat)), .v (.int ((i * i * i % p : Nat) : Int)), .v (.int 2), rfl⟩
    rw [hi0]
    simp only [lp1, b_law_ways_1, b_law_ways_0, lp, fC, fVar, rdS, Rf.get, fRd, bnd, Fe.ret, fOp, fUn, fTst, fNot, fAnd, fOr, fIf, fBool, fNil, fCons, fTup, fLst, fAsL, fVal, fAndV, fOrV, fNotV, oI, oIc, oNeg, oIsN, oNotN, oIx, fIx, fR1, fR1L, oLen, oList, oTuple, oInt, oAbs, fRep, fCat, sNil, sThen, sSeq, sSet, sOwn, sRet, sRetN, sDrop, sIf, sTg, gNm, gNil', gCons', gTp, sFor, frzS, fSeq, fRng1, fRng2, fEnum, fZip, fComp, fYes, sApp, sExt, sIx, fPop, fPopAt, sPar, fCall, fCallS, oEq_int, oNe_int, List.getElem?_cons_zero, List.getElem?_cons_succ, List.set_cons_zero, List.set_cons_succ, oAdd, oSub, oMul, oDiv, oMod, oLt, oLe, oGt, oGe, oMin, oMax, oPow, decide_eq_true_eq, if_true, if_false, Bool.false_eq_true, Bool.not_true, Bool.not_false, decide_true, decide_false, List.length_cons, List.length_nil, List.length_map, Bool.and_self, fOpR, fChain, oCatT, fStar, fSlL, fSlT, fRev, oNn, oSm, oIsB, oNotB, sParO1, sParO2, sParO3, fRng3, Nat.reduceAdd, Nat.reduceBEq, bleN0, bleN1, bleN2, bleN3, bleN4, bleN5, bleN6, bleN7, bleN8, Int.reduceAdd, Int.reduceMul, Int.reduceSub, Int.reduceToNat, Nat.reduceMul, hb3, hn3, m1, m2, m3, hm, cube_mod, hx, hx2, setI_map, hs]
  refine runF_rt (ρ := [.v (.int (p : Nat)), .v (.int 3), .v (.list ((waysL p p).map .int)), x, y, z]) ?_
  show b_law_ways [.v (.int (p : Nat)), .v (.int 3), .un, .un, .un, .un] = _
  have hpn : (p : Int).toNat = p := rfl
  simp only [b_law_ways, fC, fVar, rdS, Rf.get, fRd, bnd, Fe.ret, fOp, fUn, fTst, fNot, fAnd, fOr, fIf, fBool, fNil, fCons, fTup, fLst, fAsL, fVal, fAndV, fOrV, fNotV, oI, oIc, oNeg, oIsN, oNotN, oIx, fIx, fR1, fR1L, oLen, oList, oTuple, oInt, oAbs, fRep, fCat, sNil, sThen, sSeq, sSet, sOwn, sRet, sRetN, sDrop, sIf, sTg, gNm, gNil', gCons', gTp, sFor, frzS, fSeq, fRng1, fRng2, fEnum, fZip, fComp, fYes, sApp, sExt, sIx, fPop, fPopAt, sPar, fCall, fCallS, oEq_int, oNe_int, List.getElem?_cons_zero, List.getElem?_cons_succ, List.set_cons_zero, List.set_cons_succ, oAdd, oSub, oMul, oDiv, oMod, oLt, oLe, oGt, oGe, oMin, oMax, oPow, decide_eq_true_eq, if_true, if_false, Bool.false_eq_true, Bool.not_true, Bool.not_false, decide_true, decide_false, List.length_cons, List.length_nil, List.length_map, Bool.and_self, fOpR, fChain, oCatT, fStar, fSlL, fSlT, fRev, oNn, oSm, oIsB, oNotB, sParO1, sParO2, sParO3, fRng3, Nat.reduceAdd, Nat.reduceBEq, bleN0, bleN1, bleN2, bleN3, bleN4, bleN5, bleN6, bleN7, bleN8, Int.reduceAdd, Int.reduceMul, Int.reduceSub, Int.reduceToNat, Nat.reduceMul, hrep, h0, hb, hpn, h1]
end K70
namespace K70
open PySem PySem.Spec PyProof.Rows L2 Fe
def rootsL (p : Nat) (v : Int) : List Int := (irg 0 p).filter fun t => decide ((t * t * t - v) % (p : Int) = 0)
theorem root_iff {p v k : Nat} (hv : v < p) : ((k : Int) * k * k - v) % (p : Int) = 0 ↔ k * k * k % p = v := by
  rw [← Int.emod_eq_emod_iff_emod_sub_eq_zero, show (v : Int) % p = v from Int.emod_eq_of_lt (by omega) (by omega), show (k : Int) * k * k % p = ((k * k * k % p : Nat) : Int) by simp]
  omega
theorem rootsL_len {p v : Nat} (hv : v < p) : (rootsL p v).length = cnt p p v := by
  unfold rootsL irg cnt
  rw [List.filter_map, List.length_map]
  congr 1
  refine List.filter_congr fun k hk => ?_
  show decide ((((0 : Int) + ((k : Nat) : Int)) * (0 + ((k : Nat) : Int)) * (0 + ((k : Nat) : Int)) - v) % (p : Int) = 0) = _
  rw [Int.zero_add]
  cases e : Nat.beq (k * k * k % p) v with
  | true => exact decide_eq_true ((root_iff hv).mpr (Nat.eq_of_beq_eq_true e))
  | false =>
    refine decide_eq_false fun z => ?_
    have := (root_iff hv).mp z
    rw [this, Nat.beq_refl] at e
    cases e
theorem F_roots {p : Nat} (h2 : 2 ≤ p) (h : p ≤ 400) (v : Int) : F_cube_roots [.int (p : Nat), .int v] = some (.tuple ((rootsL p v).map .int)) := by
  have hz := rngL_ble (lo := 0) (n := p) (by omega)
  have hb : inB (p : Int) = true := inB_of (by omega) (by omega)
  have hpn : (p : Int).toNat = p := rfl
  have hm : modOk (p : Int) = true := modOk_of (by omega)
  have hc := cl_fI (vs := [2]) (g := gNm 2) (c := c_cube_roots_0) (e := e_cube_roots_1) (ρ := [.v (.int (p : Nat)), .v (.int v), .un]) (fun t => decide ((t * t * t - v) % (p : Int) = 0)) (fun t => t) (ns := irg 0 p) fun d hd => by
    obtain ⟨k, hk, rfl⟩ := mem_irg hd
    have hs : Bd 20 (0 + (k : Int)) := Bd.of (c := 1000) (by omega) (by omega)
    have m1 := hs.mulOk hs
    have m2 := (hs.mul hs).mulOk hs
    refine ⟨[.v (.int (p : Nat)), .v (.int v), .v (.int (0 + (k : Int)))], rfl, ?_, fun _ => rfl, rfl⟩
    simp only [c_cube_roots_0, fC, fVar, rdS, Rf.get, fRd, bnd, Fe.ret, fOp, fUn, fTst, fNot, fAnd, fOr, fIf, fBool, fNil, fCons, fTup, fLst, fAsL, fVal, fAndV, fOrV, fNotV, oI, oIc, oNeg, oIsN, oNotN, oIx, fIx, fR1, fR1L, oLen, oList, oTuple, oInt, oAbs, fRep, fCat, sNil, sThen, sSeq, sSet, sOwn, sRet, sRetN, sDrop, sIf, sTg, gNm, gNil', gCons', gTp, sFor, frzS, fSeq, fRng1, fRng2, fEnum, fZip, fComp, fYes, sApp, sExt, sIx, fPop, fPopAt, sPar, fCall, fCallS, oEq_int, oNe_int, List.getElem?_cons_zero, List.getElem?_cons_succ, List.set_cons_zero, List.set_cons_succ, oAdd, oSub, oMul, oDiv, oMod, oLt, oLe, oGt, oGe, oMin, oMax, oPow, decide_eq_true_eq, if_true, if_false, Bool.false_eq_true, Bool.not_true, Bool.not_false, decide_true, decide_false, List.length_cons, List.length_nil, List.length_map, Bool.and_self, fOpR, fChain, oCatT, fStar, fSlL, fSlT, fRev, oNn, oSm, oIsB, oNotB, sParO1, sParO2, sParO3, fRng3, Nat.reduceAdd, Nat.reduceBEq, bleN0, bleN1, bleN2, bleN3, bleN4, bleN5, bleN6, bleN7, bleN8, Int.reduceAdd, Int.reduceMul, Int.reduceSub, Int.reduceToNat, Nat.reduceMul, m1, m2, hm]
  rw [← rngL_eq, List.map_id'] at hc
  refine runF_rt (ρ := [.v (.int (p : Nat)), .v (.int v), .un]) ?_
  show b_cube_roots [.v (.int (p : Nat)), .v (.int v), .un] = _
  simp only [b_cube_roots, fC, fVar, rdS, Rf.get, fRd, bnd, Fe.ret, fOp, fUn, fTst, fNot, fAnd, fOr, fIf, fBool, fNil, fCons, fTup, fLst, fAsL, fVal, fAndV, fOrV, fNotV, oI, oIc, oNeg, oIsN, oNotN, oIx, fIx, fR1, fR1L, oLen, oList, oTuple, oInt, oAbs, fRep, fCat, sNil, sThen, sSeq, sSet, sOwn, sRet, sRetN, sDrop, sIf, sTg, gNm, gNil', gCons', gTp, sFor, frzS, fSeq, fRng1, fRng2, fEnum, fZip, fComp, fYes, sApp, sExt, sIx, fPop, fPopAt, sPar, fCall, fCallS, oEq_int, oNe_int, List.getElem?_cons_zero, List.getElem?_cons_succ, List.set_cons_zero, List.set_cons_succ, oAdd, oSub, oMul, oDiv, oMod, oLt, oLe, oGt, oGe, oMin, oMax, oPow, decide_eq_true_eq, if_true, if_false, Bool.false_eq_true, Bool.not_true, Bool.not_false, decide_true, decide_false, List.length_cons, List.length_nil, List.length_map, Bool.and_self, fOpR, fChain, oCatT, fStar, fSlL, fSlT, fRev, oNn, oSm, oIsB, oNotB, sParO1, sParO2, sParO3, fRng3, Nat.reduceAdd, Nat.reduceBEq, bleN0, bleN1, bleN2, bleN3, bleN4, bleN5, bleN6, bleN7, bleN8, Int.reduceAdd, Int.reduceMul, Int.reduceSub, Int.reduceToNat, Nat.reduceMul, hz, hb, hpn, hc, wipeE]
  rfl
theorem F_two {p : Nat} (h2 : 3 ≤ p) (h : p ≤ 400) : F_is_two_cube [.int (p : Nat)] = some (.bool (decide (0 < cnt p p 2))) := by
  have e := F_roots (by omega) h (p := p) 2
  have hl := rootsL_len (p := p) (v := 2) (by omega)
  refine runF_rt (ρ := [.v (.int (p : Nat))]) ?_
  show b_is_two_cube [.v (.int (p : Nat))] = _
  have hl' : (rootsL p 2).length = cnt p p 2 := hl
  simp only [b_is_two_cube, fC, fVar, rdS, Rf.get, fRd, bnd, Fe.ret, fOp, fUn, fTst, fNot, fAnd, fOr, fIf, fBool, fNil, fCons, fTup, fLst, fAsL, fVal, fAndV, fOrV, fNotV, oI, oIc, oNeg, oIsN, oNotN, oIx, fIx, fR1, fR1L, oLen, oList, oTuple, oInt, oAbs, fRep, fCat, sNil, sThen, sSeq, sSet, sOwn, sRet, sRetN, sDrop, sIf, sTg, gNm, gNil', gCons', gTp, sFor, frzS, fSeq, fRng1, fRng2, fEnum, fZip, fComp, fYes, sApp, sExt, sIx, fPop, fPopAt, sPar, fCall, fCallS, oEq_int, oNe_int, List.getElem?_cons_zero, List.getElem?_cons_succ, List.set_cons_zero, List.set_cons_succ, oAdd, oSub, oMul, oDiv, oMod, oLt, oLe, oGt, oGe, oMin, oMax, oPow, decide_eq_true_eq, if_true, if_false, Bool.false_eq_true, Bool.not_true, Bool.not_false, decide_true, decide_false, List.length_cons, List.length_nil, List.length_map, Bool.and_self, fOpR, fChain, oCatT, fStar, fSlL, fSlT, fRev, oNn, oSm, oIsB, oNotB, sParO1, sParO2, sParO3, fRng3, Nat.reduceAdd, Nat.reduceBEq, bleN0, bleN1, bleN2, bleN3, bleN4, bleN5, bleN6, bleN7, bleN8, Int.reduceAdd, Int.reduceMul, Int.reduceSub, Int.reduceToNat, Nat.reduceMul, e, hl']
  have : decide ((0 : Int) < (cnt p p 2 : Nat)) = decide (0 < cnt p p 2) := by
    rw [decide_eq_decide]
    omega
  rw [this]
/-! ## the cubes, sorted -/
def cubesK (p : Nat) : List Int := (irg 1 (p - 1)).map fun t => t * t * t % (p : Int)
def CR (p : Nat) : List Int := (irg 1 (p - 1)).filter fun x => decide (0 < cnt p p x.toNat)
theorem keysI_map (f : Int → Int) (d : PyData) : ∀ l : List Int, keysI (l.map fun t => PyData.tuple [.int (f t), d]) = some (l.map f)
  | [] => rfl
  | t :: r => by
    rw [List.map_cons, keysI, keysI_map f d r]
    rfl
theorem irg_sorted (lo : Int) (n : Nat) : (irg lo n).Pairwise (· < ·) := by
  unfold irg
  rw [List.pairwise_map]
  exact List.pairwise_lt_range.imp fun h => by omega
theorem CR_eq {p : Nat} (h2 : 2 ≤ p) (hne : ∀ t : Nat, 0 < t → t < p → t * t * t % p ≠ 0) : isortI (onceI [] (cubesK p)) = CR p := by
  refine (isortI_eq ?_ (((irg_sorted 1 (p - 1)).filter _).imp fun h => Int.le_of_lt h)).symm
  have n1 : (CR p).Nodup := ((irg_sorted 1 (p - 1)).filter _).imp fun h => by omega
  refine (List.perm_ext_iff_of_nodup n1 (onceI_nodup _ [] List.nodup_nil)).mpr fun x => ?_
  rw [onceI_mem]
  unfold CR cubesK
  rw [List.mem_filter, List.mem_map, decide_eq_true_eq]
  constructor
  · rintro ⟨hx, hc⟩
    obtain ⟨k, hk, rfl⟩ := mem_irg hx
    rw [show (1 + (k : Int)).toNat = k + 1 by omega] at hc
    unfold cnt at hc
    obtain ⟨t, ht⟩ := List.exists_mem_of_length_pos hc
    rw [List.mem_filter, List.mem_range] at ht
    have e := Nat.eq_of_beq_eq_true ht.2
    refine Or.inr ⟨(t : Int), ?_, ?_⟩
    · have t0 : t ≠ 0 := fun z => by
        subst z
        simp at e
      unfold irg
      exact List.mem_map.mpr ⟨t - 1, List.mem_range.mpr (by omega), by omega⟩
    · have : ((t * t * t % p : Nat) : Int) = ((k + 1 : Nat) : Int) := by rw [e]
      rw [show (1 : Int) + (k : Int) = ((k + 1 : Nat) : Int) by omega, ← this]
      simp
  · rintro (hx | ⟨t, ht, rfl⟩)
    · cases hx
    · obtain ⟨k, hk, rfl⟩ := mem_irg ht
      have e : (1 + (k : Int)) * (1 + k) * (1 + k) % (p : Int) = (((k + 1) * (k + 1) * (k + 1) % p : Nat) : Int) := by
        rw [show (1 : Int) + (k : Int) = ((k + 1 : Nat) : Int) by omega]
        simp
      have hlt : (k + 1) * (k + 1) * (k + 1) % p < p := Nat.mod_lt _ (by omega)
      have h0 := hne (k + 1) (by omega) (by omega)
      rw [e]
      refine ⟨?_, ?_⟩
      · unfold irg
        exact List.mem_map.mpr ⟨(k + 1) * (k + 1) * (k + 1) % p - 1, List.mem_range.mpr (by omega), by omega⟩
      · rw [Int.toNat_natCast]
        unfold cnt
        exact List.length_pos_of_mem (List.mem_filter.mpr ⟨List.mem_range.mpr (show k + 1 < p by omega), Nat.beq_refl _⟩)
theorem F_rests {p : Nat} (h2 : 2 ≤ p) (h : p ≤ 400) (hne : ∀ t : Nat, 0 < t → t < p → t * t * t % p ≠ 0) : F_cube_rests [.int (p : Nat)] = some (.tuple ((CR p).map .int)) := by
  have hz := rngL_ble (lo := 1) (n := p - 1) (by omega)
  have hb : inB (p : Int) = true := inB_of (by omega) (by omega)
  have hb1 : inB 1 = true := by decide
  have hn : ((p : Int) - 1).toNat = p - 1 := by omega
  have hm : modOk (p : Int) = true := modOk_of (by omega)
  have hc := cl_gen PyData.int (vs := [1]) (g := gNm 1) (c := fYes) (e := e_cube_rests_0) (ρ := [.v (.int (p : Nat)), .un]) (fun _ => true) (fun t => .tuple [.int (t * t * t % (p : Int)), .bool true]) (irg 1 (p - 1)) (fun d hd => by
    obtain ⟨k, hk, rfl⟩ := mem_irg hd
    have hs : Bd 20 (1 + (k : Int)) := Bd.of (c := 1000) (by omega) (by omega)
    have m1 := hs.mulOk hs
    have m2 := (hs.mul hs).mulOk hs
    refine ⟨[.v (.int (p : Nat)), .v (.int (1 + (k : Int)))], [.v (.int (p : Nat)), .v (.int (1 + (k : Int)))], rfl, rfl, fun _ => ⟨[.v (.int (p : Nat)), .v (.int (1 + (k : Int)))], ?_, rfl⟩, fun z => by cases z⟩
    simp only [e_cube_rests_0, fC, fVar, rdS, Rf.get, fRd, bnd, Fe.ret, fOp, fUn, fTst, fNot, fAnd, fOr, fIf, fBool, fNil, fCons, fTup, fLst, fAsL, fVal, fAndV, fOrV, fNotV, oI, oIc, oNeg, oIsN, oNotN, oIx, fIx, fR1, fR1L, oLen, oList, oTuple, oInt, oAbs, fRep, fCat, sNil, sThen, sSeq, sSet, sOwn, sRet, sRetN, sDrop, sIf, sTg, gNm, gNil', gCons', gTp, sFor, frzS, fSeq, fRng1, fRng2, fEnum, fZip, fComp, fYes, sApp, sExt, sIx, fPop, fPopAt, sPar, fCall, fCallS, oEq_int, oNe_int, List.getElem?_cons_zero, List.getElem?_cons_succ, List.set_cons_zero, List.set_cons_succ, oAdd, oSub, oMul, oDiv, oMod, oLt, oLe, oGt, oGe, oMin, oMax, oPow, decide_eq_true_eq, if_true, if_false, Bool.false_eq_true, Bool.not_true, Bool.not_false, decide_true, decide_false, List.length_cons, List.length_nil, List.length_map, Bool.and_self, fOpR, fChain, oCatT, fStar, fSlL, fSlT, fRev, oNn, oSm, oIsB, oNotB, sParO1, sParO2, sParO3, fRng3, Nat.reduceAdd, Nat.reduceBEq, bleN0, bleN1, bleN2, bleN3, bleN4, bleN5, bleN6, bleN7, bleN8, Int.reduceAdd, Int.reduceMul, Int.reduceSub, Int.reduceToNat, Nat.reduceMul, m1, m2, hm]) _ rfl
  rw [← rngL_eq, List.filter_eq_self.mpr (fun _ _ => rfl)] at hc
  have hk := keysI_map (fun t => t * t * t % (p : Int)) (.bool true) (irg 1 (p - 1))
  have hs : oSortDict (.list ((irg 1 (p - 1)).map fun t => PyData.tuple [.int (t * t * t % (p : Int)), .bool true])) = some ((CR p).map .int) := by
    unfold oSortDict
    dsimp only
    rw [if_pos (by rw [List.length_map, irg_len]; exact ble_of (by omega)), hk]
    show some ((isortI (onceI [] (cubesK p))).map PyData.int) = _
    rw [CR_eq h2 hne]
  refine runF_rt (ρ := [.v (.int (p : Nat)), .un]) ?_
  show b_cube_rests [.v (.int (p : Nat)), .un] = _
  simp only [b_cube_rests, fC, fVar, rdS, Rf.get, fRd, bnd, Fe.ret, fOp, fUn, fTst, fNot, fAnd, fOr, fIf, fBool, fNil, fCons, fTup, fLst, fAsL, fVal, fAndV, fOrV, fNotV, oI, oIc, oNeg, oIsN, oNotN, oIx, fIx, fR1, fR1L, oLen, oList, oTuple, oInt, oAbs, fRep, fCat, sNil, sThen, sSeq, sSet, sOwn, sRet, sRetN, sDrop, sIf, sTg, gNm, gNil', gCons', gTp, sFor, frzS, fSeq, fRng1, fRng2, fEnum, fZip, fComp, fYes, sApp, sExt, sIx, fPop, fPopAt, sPar, fCall, fCallS, oEq_int, oNe_int, List.getElem?_cons_zero, List.getElem?_cons_succ, List.set_cons_zero, List.set_cons_succ, oAdd, oSub, oMul, oDiv, oMod, oLt, oLe, oGt, oGe, oMin, oMax, oPow, decide_eq_true_eq, if_true, if_false, Bool.false_eq_true, Bool.not_true, Bool.not_false, decide_true, decide_false, List.length_cons, List.length_nil, List.length_map, Bool.and_self, fOpR, fChain, oCatT, fStar, fSlL, fSlT, fRev, oNn, oSm, oIsB, oNotB, sParO1, sParO2, sParO3, fRng3, Nat.reduceAdd, Nat.reduceBEq, bleN0, bleN1, bleN2, bleN3, bleN4, bleN5, bleN6, bleN7, bleN8, Int.reduceAdd, Int.reduceMul, Int.reduceSub, Int.reduceToNat, Nat.reduceMul, hz, hb, hb1, hn, hc, wipeE, hs]
end K70
namespace K70
open PySem PySem.Spec PyProof.Rows L2 Fe
theorem F_sign0 {p a b r : Int} (m : Ei.M p a b r) (ha : Bd 6 a) (hb : Bd 6 b) : F_cube_sign [T2 0 0, T2 a b] = some .none := by
  have e1 := F_R m ha hb (t := 0) (by decide)
  have k0 : oEq (R p a b 0) (T2 0 0) = some (.bool true) := by
    have e := oEq_tI [Ei.r0 p a b 0 0, Ei.r1 p a b 0 0] [0, 0]
    obtain ⟨z0, z1⟩ := Ei.r_zero (a := a) (b := b) m.hp
    rw [z0, z1] at e
    have e2 : oEq (R p a b 0) (T2 0 0) = oEq (T2 0 0) (T2 0 0) := by rw [show R p a b 0 = T2 0 0 by show T2 _ _ = _; rw [z0, z1]]
    rw [e2]
    exact e.trans (by rw [decide_eq_true rfl])
  refine runF_rt (ρ := [.v (T2 0 0), .v (T2 a b), .un, .un, .un]) ?_
  show b_cube_sign [.v (T2 0 0), .v (T2 a b), .un, .un, .un] = _
  simp only [b_cube_sign, fC, fVar, rdS, Rf.get, fRd, bnd, Fe.ret, fOp, fUn, fTst, fNot, fAnd, fOr, fIf, fBool, fNil, fCons, fTup, fLst, fAsL, fVal, fAndV, fOrV, fNotV, oI, oIc, oNeg, oIsN, oNotN, oIx, fIx, fR1, fR1L, oLen, oList, oTuple, oInt, oAbs, fRep, fCat, sNil, sThen, sSeq, sSet, sOwn, sRet, sRetN, sDrop, sIf, sTg, gNm, gNil', gCons', gTp, sFor, frzS, fSeq, fRng1, fRng2, fEnum, fZip, fComp, fYes, sApp, sExt, sIx, fPop, fPopAt, sPar, fCall, fCallS, oEq_int, oNe_int, List.getElem?_cons_zero, List.getElem?_cons_succ, List.set_cons_zero, List.set_cons_succ, oAdd, oSub, oMul, oDiv, oMod, oLt, oLe, oGt, oGe, oMin, oMax, oPow, decide_eq_true_eq, if_true, if_false, Bool.false_eq_true, Bool.not_true, Bool.not_false, decide_true, decide_false, List.length_cons, List.length_nil, List.length_map, Bool.and_self, fOpR, fChain, oCatT, fStar, fSlL, fSlT, fRev, oNn, oSm, oIsB, oNotB, sParO1, sParO2, sParO3, fRng3, Nat.reduceAdd, Nat.reduceBEq, bleN0, bleN1, bleN2, bleN3, bleN4, bleN5, bleN6, bleN7, bleN8, Int.reduceAdd, Int.reduceMul, Int.reduceSub, Int.reduceToNat, Nat.reduceMul, e1, k0]
/-- the sign's number, over natural numbers -/
def sN (p r e t : Nat) : Nat := if Nat.beq (t ^ e % p) 1 = true then 0 else if Nat.beq (t ^ e % p) r = true then 1 else 2
def okN (p r e t : Nat) : Bool := Nat.beq (t ^ e % p) 1 || (Nat.beq (t ^ e % p) r || Nat.beq (t ^ e % p + 1 + r) p)
theorem sN_lt (p r e t : Nat) : sN p r e t < 3 := by
  unfold sN
  split
  · decide
  · split <;> decide
theorem emod_nat {p : Nat} {z : Int} {n : Nat} (hn : z % (p : Int) = (n : Int)) (c : Nat) (hc : c < p) : (z - c) % (p : Int) = 0 ↔ n = c := by
  rw [← Int.emod_eq_emod_iff_emod_sub_eq_zero, hn, show (c : Int) % p = c from Int.emod_eq_of_lt (by omega) (by omega)]
  omega
theorem sgv_N {p r e t : Nat} (h1 : 1 < p) (hr : r + 1 < p) (h : okN p r e t = true) : sgv (p : Int) (r : Int) ((t : Int) ^ e) = .int (sN p r e t : Nat) := by
  have hz : ((t : Int) ^ e) % (p : Int) = ((t ^ e % p : Nat) : Int) := by simp
  have q1 : ((t : Int) ^ e - 1) % (p : Int) = 0 ↔ t ^ e % p = 1 := emod_nat hz 1 h1
  have q2 := emod_nat hz r (by omega)
  have q3 : ((t : Int) ^ e + 1 + (r : Int)) % (p : Int) = 0 ↔ t ^ e % p + 1 + r = p := by
    have q := emod_nat hz (p - 1 - r) (by omega)
    have e1 : ((t : Int) ^ e - ((p - 1 - r : Nat) : Int)) % (p : Int) = ((t : Int) ^ e + 1 + (r : Int)) % (p : Int) := by
      rw [show (t : Int) ^ e + 1 + (r : Int) = ((t : Int) ^ e - ((p - 1 - r : Nat) : Int)) + (p : Int) by omega, Int.add_emod_right]
    rw [e1] at q
    rw [q]
    have := Nat.mod_lt (t ^ e) (show 0 < p by omega)
    omega
  unfold sgv sN
  unfold okN at h
  simp only [Bool.or_eq_true] at h
  by_cases c1 : t ^ e % p = 1
  · rw [if_pos (q1.mpr c1), if_pos (by rw [c1]; rfl)]
    rfl
  · rw [if_neg (fun z => c1 (q1.mp z)), if_neg (fun z => c1 (Nat.eq_of_beq_eq_true z))]
    by_cases c2 : t ^ e % p = r
    · rw [if_pos (q2.mpr c2), if_pos (by rw [c2]; exact Nat.beq_refl r)]
      rfl
    · rw [if_neg (fun z => c2 (q2.mp z)), if_neg (fun z => c2 (Nat.eq_of_beq_eq_true z))]
      rcases h with h | h | h
      · exact absurd (Nat.eq_of_beq_eq_true h) c1
      · exact absurd (Nat.eq_of_beq_eq_true h) c2
      · rw [if_pos (q3.mpr (Nat.eq_of_beq_eq_true h))]
        rfl
def rowS (p : Nat) (σ : Nat → Nat) : List PyData := (List.range p).map fun t => if t = 0 then .none else .int (σ t : Nat)
theorem F_row {p : Nat} {a b r : Int} (m : Ei.M (p : Int) a b r) (ha : Bd 6 a) (hb : Bd 6 b) (h : p ≤ 400) {σ : Nat → Nat} (hs : ∀ t, 0 < t → t < p → F_cube_sign [T2 (t : Nat) 0, T2 a b] = some (.int (σ t : Nat))) : F_cube_sign_row [T2 a b] = some (.list (rowS p σ)) := by
  have e2 := F_norm (ha.mono (l := 40)) (hb.mono (l := 40))
  rw [m.hn] at e2
  have hz := rngL_ble (lo := 0) (n := p) (by omega)
  have hbp : inB (p : Int) = true := inB_of (by omega) (by omega)
  have hpn : (p : Int).toNat = p := rfl
  have h0 := F_sign0 m ha hb
  have hc := cl_gen (fun t : Nat => PyData.int (0 + (t : Int))) (vs := [1]) (g := gNm 1) (c := fYes) (e := e_cube_sign_row_0) (ρ := [.v (T2 a b), .un]) (fun _ => true) (fun t => if t = 0 then .none else .int (σ t : Nat)) (List.range p) (fun t ht => by
    have ht := List.mem_range.mp ht
    refine ⟨[.v (T2 a b), .v (.int (0 + (t : Int)))], [.v (T2 a b), .v (.int (0 + (t : Int)))], rfl, rfl, fun _ => ⟨[.v (T2 a b), .v (.int (0 + (t : Int)))], ?_, rfl⟩, fun z => by cases z⟩
    by_cases t0 : t = 0
    · subst t0
      rw [if_pos rfl]
      have e0 : (0 : Int) + ((0 : Nat) : Int) = 0 := by decide
      simp only [e_cube_sign_row_0, fC, fVar, rdS, Rf.get, fRd, bnd, Fe.ret, fOp, fUn, fTst, fNot, fAnd, fOr, fIf, fBool, fNil, fCons, fTup, fLst, fAsL, fVal, fAndV, fOrV, fNotV, oI, oIc, oNeg, oIsN, oNotN, oIx, fIx, fR1, fR1L, oLen, oList, oTuple, oInt, oAbs, fRep, fCat, sNil, sThen, sSeq, sSet, sOwn, sRet, sRetN, sDrop, sIf, sTg, gNm, gNil', gCons', gTp, sFor, frzS, fSeq, fRng1, fRng2, fEnum, fZip, fComp, fYes, sApp, sExt, sIx, fPop, fPopAt, sPar, fCall, fCallS, oEq_int, oNe_int, List.getElem?_cons_zero, List.getElem?_cons_succ, List.set_cons_zero, List.set_cons_succ, oAdd, oSub, oMul, oDiv, oMod, oLt, oLe, oGt, oGe, oMin, oMax, oPow, decide_eq_true_eq, if_true, if_false, Bool.false_eq_true, Bool.not_true, Bool.not_false, decide_true, decide_false, List.length_cons, List.length_nil, List.length_map, Bool.and_self, fOpR, fChain, oCatT, fStar, fSlL, fSlT, fRev, oNn, oSm, oIsB, oNotB, sParO1, sParO2, sParO3, fRng3, Nat.reduceAdd, Nat.reduceBEq, bleN0, bleN1, bleN2, bleN3, bleN4, bleN5, bleN6, bleN7, bleN8, Int.reduceAdd, Int.reduceMul, Int.reduceSub, Int.reduceToNat, Nat.reduceMul, e0, h0]
    · rw [if_neg t0]
      have e := hs t (by omega) ht
      rw [Int.zero_add]
      simp only [e_cube_sign_row_0, fC, fVar, rdS, Rf.get, fRd, bnd, Fe.ret, fOp, fUn, fTst, fNot, fAnd, fOr, fIf, fBool, fNil, fCons, fTup, fLst, fAsL, fVal, fAndV, fOrV, fNotV, oI, oIc, oNeg, oIsN, oNotN, oIx, fIx, fR1, fR1L, oLen, oList, oTuple, oInt, oAbs, fRep, fCat, sNil, sThen, sSeq, sSet, sOwn, sRet, sRetN, sDrop, sIf, sTg, gNm, gNil', gCons', gTp, sFor, frzS, fSeq, fRng1, fRng2, fEnum, fZip, fComp, fYes, sApp, sExt, sIx, fPop, fPopAt, sPar, fCall, fCallS, oEq_int, oNe_int, List.getElem?_cons_zero, List.getElem?_cons_succ, List.set_cons_zero, List.set_cons_succ, oAdd, oSub, oMul, oDiv, oMod, oLt, oLe, oGt, oGe, oMin, oMax, oPow, decide_eq_true_eq, if_true, if_false, Bool.false_eq_true, Bool.not_true, Bool.not_false, decide_true, decide_false, List.length_cons, List.length_nil, List.length_map, Bool.and_self, fOpR, fChain, oCatT, fStar, fSlL, fSlT, fRev, oNn, oSm, oIsB, oNotB, sParO1, sParO2, sParO3, fRng3, Nat.reduceAdd, Nat.reduceBEq, bleN0, bleN1, bleN2, bleN3, bleN4, bleN5, bleN6, bleN7, bleN8, Int.reduceAdd, Int.reduceMul, Int.reduceSub, Int.reduceToNat, Nat.reduceMul, e]) _ rfl
  rw [List.filter_eq_self.mpr (fun _ _ => rfl)] at hc
  have hc : cl [1] (gNm 1) fYes e_cube_sign_row_0 (rngL 0 p) [.v (T2 a b), .un] = some (rowS p σ, [.v (T2 a b), .un]) := hc
  refine runF_rt (ρ := [.v (T2 a b), .un]) ?_
  show b_cube_sign_row [.v (T2 a b), .un] = _
  simp only [b_cube_sign_row, fC, fVar, rdS, Rf.get, fRd, bnd, Fe.ret, fOp, fUn, fTst, fNot, fAnd, fOr, fIf, fBool, fNil, fCons, fTup, fLst, fAsL, fVal, fAndV, fOrV, fNotV, oI, oIc, oNeg, oIsN, oNotN, oIx, fIx, fR1, fR1L, oLen, oList, oTuple, oInt, oAbs, fRep, fCat, sNil, sThen, sSeq, sSet, sOwn, sRet, sRetN, sDrop, sIf, sTg, gNm, gNil', gCons', gTp, sFor, frzS, fSeq, fRng1, fRng2, fEnum, fZip, fComp, fYes, sApp, sExt, sIx, fPop, fPopAt, sPar, fCall, fCallS, oEq_int, oNe_int, List.getElem?_cons_zero, List.getElem?_cons_succ, List.set_cons_zero, List.set_cons_succ, oAdd, oSub, oMul, oDiv, oMod, oLt, oLe, oGt, oGe, oMin, oMax, oPow, decide_eq_true_eq, if_true, if_false, Bool.false_eq_true, Bool.not_true, Bool.not_false, decide_true, decide_false, List.length_cons, List.length_nil, List.length_map, Bool.and_self, fOpR, fChain, oCatT, fStar, fSlL, fSlT, fRev, oNn, oSm, oIsB, oNotB, sParO1, sParO2, sParO3, fRng3, Nat.reduceAdd, Nat.reduceBEq, bleN0, bleN1, bleN2, bleN3, bleN4, bleN5, bleN6, bleN7, bleN8, Int.reduceAdd, Int.reduceMul, Int.reduceSub, Int.reduceToNat, Nat.reduceMul, e2, hz, hbp, hpn, hc]
def ux (i : Nat) : Int := if i = 0 then 1 else if i = 1 then 0 else -1
def uy (i : Nat) : Int := if i = 0 then 0 else if i = 1 then 1 else -1
def csx (p : Nat) (σ : Nat → Nat) : Nat → Int
  | 0 => 0
  | k + 1 => csx p σ k + ux ((σ (2 + k) + σ (p + 1 - (2 + k))) % 3)
def csy (p : Nat) (σ : Nat → Nat) : Nat → Int
  | 0 => 0
  | k + 1 => csy p σ k + uy ((σ (2 + k) + σ (p + 1 - (2 + k))) % 3)
theorem rowS_at {p : Nat} {σ : Nat → Nat} {t : Nat} {z : Int} (hz : z = (t : Int)) (h0 : 0 < t) (h : t < p) : ixD (rowS p σ) z = some (.int (σ t : Nat)) := by
  subst hz
  rw [ixD_nat]
  unfold rowS
  rw [List.getElem?_map, List.getElem?_range h]
  show some (if t = 0 then _ else _) = _
  rw [if_neg (by omega)]
theorem unit_at {i : Nat} (h : i < 3) : ixD [.tuple [.int 1, .int 0], .tuple [.int 0, .int 1], .tuple [.int (-1), .int (-1)], .tuple [.int (-1), .int 0], .tuple [.int 0, .int (-1)], .tuple [.int 1, .int 1]] (i : Int) = some (T2 (ux i) (uy i)) := by
  have : i = 0 ∨ i = 1 ∨ i = 2 := by omega
  rcases this with rfl | rfl | rfl <;> rfl
theorem F_sum {p : Nat} {a b r : Int} (m : Ei.M (p : Int) a b r) (ha : Bd 6 a) (hb : Bd 6 b) (h2 : 3 ≤ p) (h : p ≤ 400) {σ : Nat → Nat} (hs : ∀ t, 0 < t → t < p → F_cube_sign [T2 (t : Nat) 0, T2 a b] = some (.int (σ t : Nat))) : F_cube_sum [T2 a b] = some (T2 (csx p σ (p - 2)) (csy p σ (p - 2))) := by
  have e2 := F_norm (ha.mono (l := 40)) (hb.mono (l := 40))
  rw [m.hn] at e2
  have e3 := F_row m ha hb h hs
  have hb2 : inB 2 = true := by decide
  have hbp : inB (p : Int) = true := inB_of (by omega) (by omega)
  have hn : ((p : Int) - 2).toNat = p - 2 := by omega
  have hm : modOk (p : Int) = true := modOk_of (by omega)
  have hm3 : modOk 3 = true := by decide
  obtain ⟨ρ', h1, x, y, rfl⟩ := lp_rng (g := gNm 4) (b := b_cube_sum_0) (fun k ρ => ∃ x y, ρ = [.v (T2 a b), .v (.int (p : Nat)), .v (.list (rowS p σ)), .v (T2 (csx p σ k) (csy p σ k)), x, y]) (lo := 2) (n := p - 2) (ρ := [.v (T2 a b), .v (.int (p : Nat)), .v (.list (rowS p σ)), .v (T2 0 0), .un, .un]) ⟨_, _, rfl⟩ fun k ρ hk ⟨x, y, e⟩ => by
    subst e
    have i1 := rowS_at (p := p) (σ := σ) (t := 2 + k) (z := 2 + (k : Int)) (by omega) (by omega) (by omega)
    have hmod : (1 - (2 + (k : Int))) % (p : Int) = ((p + 1 - (2 + k) : Nat) : Int) := by
      rw [← Int.add_emod_right, Int.emod_eq_of_lt (by omega) (by omega)]
      omega
    have i2 := rowS_at (p := p) (σ := σ) (t := p + 1 - (2 + k)) (z := ((p + 1 - (2 + k) : Nat) : Int)) rfl (by omega) (by omega)
    have hq : (((σ (2 + k) : Nat) : Int) + ((σ (p + 1 - (2 + k)) : Nat) : Int)) % 3 = (((σ (2 + k) + σ (p + 1 - (2 + k))) % 3 : Nat) : Int) := by omega
    have i3 := unit_at (i := (σ (2 + k) + σ (p + 1 - (2 + k))) % 3) (Nat.mod_lt _ (by decide))
    refine ⟨_, ?_, .v (.int (2 + (k : Int))), .v (T2 (ux ((σ (2 + k) + σ (p + 1 - (2 + k))) % 3)) (uy ((σ (2 + k) + σ (p + 1 - (2 + k))) % 3))), rfl⟩
    simp only [lp1, b_cube_sum_0, fC, fVar, rdS, Rf.get, fRd, bnd, Fe.ret, fOp, fUn, fTst, fNot, fAnd, fOr, fIf, fBool, fNil, fCons, fTup, fLst, fAsL, fVal, fAndV, fOrV, fNotV, oI, oIc, oNeg, oIsN, oNotN, oIx, fIx, fR1, fR1L, oLen, oList, oTuple, oInt, oAbs, fRep, fCat, sNil, sThen, sSeq, sSet, sOwn, sRet, sRetN, sDrop, sIf, sTg, gNm, gNil', gCons', gTp, sFor, frzS, fSeq, fRng1, fRng2, fEnum, fZip, fComp, fYes, sApp, sExt, sIx, fPop, fPopAt, sPar, fCall, fCallS, oEq_int, oNe_int, List.getElem?_cons_zero, List.getElem?_cons_succ, List.set_cons_zero, List.set_cons_succ, oAdd, oSub, oMul, oDiv, oMod, oLt, oLe, oGt, oGe, oMin, oMax, oPow, decide_eq_true_eq, if_true, if_false, Bool.false_eq_true, Bool.not_true, Bool.not_false, decide_true, decide_false, List.length_cons, List.length_nil, List.length_map, Bool.and_self, fOpR, fChain, oCatT, fStar, fSlL, fSlT, fRev, oNn, oSm, oIsB, oNotB, sParO1, sParO2, sParO3, fRng3, Nat.reduceAdd, Nat.reduceBEq, bleN0, bleN1, bleN2, bleN3, bleN4, bleN5, bleN6, bleN7, bleN8, Int.reduceAdd, Int.reduceMul, Int.reduceSub, Int.reduceToNat, Nat.reduceMul, i1, hmod, hm, i2, hm3, hq, i3, ix0, ix1, csx, csy]
  refine runF_rt (ρ := [.v (T2 a b), .v (.int (p : Nat)), .v (.list (rowS p σ)), .v (T2 (csx p σ (p - 2)) (csy p σ (p - 2))), x, y]) ?_
  show b_cube_sum [.v (T2 a b), .un, .un, .un, .un, .un] = _
  simp only [b_cube_sum, fC, fVar, rdS, Rf.get, fRd, bnd, Fe.ret, fOp, fUn, fTst, fNot, fAnd, fOr, fIf, fBool, fNil, fCons, fTup, fLst, fAsL, fVal, fAndV, fOrV, fNotV, oI, oIc, oNeg, oIsN, oNotN, oIx, fIx, fR1, fR1L, oLen, oList, oTuple, oInt, oAbs, fRep, fCat, sNil, sThen, sSeq, sSet, sOwn, sRet, sRetN, sDrop, sIf, sTg, gNm, gNil', gCons', gTp, sFor, frzS, fSeq, fRng1, fRng2, fEnum, fZip, fComp, fYes, sApp, sExt, sIx, fPop, fPopAt, sPar, fCall, fCallS, oEq_int, oNe_int, List.getElem?_cons_zero, List.getElem?_cons_succ, List.set_cons_zero, List.set_cons_succ, oAdd, oSub, oMul, oDiv, oMod, oLt, oLe, oGt, oGe, oMin, oMax, oPow, decide_eq_true_eq, if_true, if_false, Bool.false_eq_true, Bool.not_true, Bool.not_false, decide_true, decide_false, List.length_cons, List.length_nil, List.length_map, Bool.and_self, fOpR, fChain, oCatT, fStar, fSlL, fSlT, fRev, oNn, oSm, oIsB, oNotB, sParO1, sParO2, sParO3, fRng3, Nat.reduceAdd, Nat.reduceBEq, bleN0, bleN1, bleN2, bleN3, bleN4, bleN5, bleN6, bleN7, bleN8, Int.reduceAdd, Int.reduceMul, Int.reduceSub, Int.reduceToNat, Nat.reduceMul, e2, e3, hb2, hbp, hn, h1]
end K70
namespace K70
open PySem PySem.Spec PyProof.Rows L2 Fe
/-! ## what is checked of each prime -/
def cubL (p : Nat) : List Nat := (List.range p).map fun t => t * t * t % p
theorem cnt_cub (p v : Nat) : cnt p p v = ((cubL p).filter fun y => Nat.beq y v).length := by
  unfold cnt cubL
  rw [List.filter_map, List.length_map]
  rfl
def natsEq : List Nat → List Nat → Bool
  | [], [] => true
  | a :: r, b :: s => Nat.beq a b && natsEq r s
  | _, _ => false
theorem natsEq_ok : ∀ {l m : List Nat}, natsEq l m = true → l = m
  | [], [], _ => rfl
  | a :: r, b :: s, h => by
    have h' := Bool.and_eq_true_iff.mp h
    rw [Nat.eq_of_beq_eq_true h'.1, natsEq_ok h'.2]
  | [], _ :: _, h => by cases h
  | _ :: _, [], h => by cases h
/-- the row: the prime, its primary prime, w as a number, the cubes, how often each -/
structure Rw where
  p : Nat
  a : Int
  b : Int
  r : Nat
  cub : List Nat
  w : List Nat
def row0 : Rw := ⟨7, 2, 3, 4, [0, 1, 1, 6, 1, 6, 6], [1, 3, 0, 0, 0, 0, 3]⟩
def row1 : Rw := ⟨13, -1, 3, 9, [0, 1, 8, 1, 12, 8, 8, 5, 5, 1, 12, 5, 12], [1, 3, 0, 0, 0, 3, 0, 0, 3, 0, 0, 0, 3]⟩
def row2 : Rw := ⟨19, 5, 3, 11, [0, 1, 8, 8, 7, 11, 7, 1, 18, 7, 12, 1, 18, 12, 8, 12, 11, 11, 18], [1, 3, 0, 0, 0, 0, 0, 3, 3, 0, 0, 3, 3, 0, 0, 0, 0, 0, 3]⟩
def row3 : Rw := ⟨31, 5, 6, 25, [0, 1, 8, 27, 2, 1, 30, 2, 16, 16, 8, 29, 23, 27, 16, 27, 4, 15, 4, 8, 2, 23, 15, 15, 29, 1, 30, 29, 4, 23, 30], [1, 3, 3, 0, 3, 0, 0, 0, 3, 0, 0, 0, 0, 0, 0, 3, 3, 0, 0, 0, 0, 0, 0, 3, 0, 0, 0, 3, 0, 3, 3]⟩
def row4 : Rw := ⟨37, -4, 3, 26, [0, 1, 8, 27, 27, 14, 31, 10, 31, 26, 1, 36, 26, 14, 6, 8, 26, 29, 23, 14, 8, 11, 29, 31, 23, 11, 1, 36, 11, 6, 27, 6, 23, 10, 10, 29, 36], [1, 3, 0, 0, 0, 0, 3, 0, 3, 0, 3, 3, 0, 0, 3, 0, 0, 0, 0, 0, 0, 0, 0, 3, 0, 0, 3, 3, 0, 3, 0, 3, 0, 0, 0, 0, 3]⟩
def row5 : Rw := ⟨43, -1, 6, 36, [0, 1, 8, 27, 21, 39, 1, 42, 39, 41, 11, 41, 8, 4, 35, 21, 11, 11, 27, 22, 2, 16, 27, 41, 21, 16, 32, 32, 22, 8, 39, 35, 2, 32, 2, 4, 1, 42, 4, 22, 16, 35, 42], [1, 3, 3, 0, 3, 0, 0, 0, 3, 0, 0, 3, 0, 0, 0, 0, 3, 0, 0, 0, 0, 3, 3, 0, 0, 0, 0, 3, 0, 0, 0, 0, 3, 0, 0, 3, 0, 0, 0, 3, 0, 3, 3]⟩
def row6 : Rw := ⟨61, 5, 9, 13, [0, 1, 8, 27, 3, 3, 33, 38, 24, 58, 24, 50, 20, 1, 60, 20, 9, 33, 37, 27, 9, 50, 34, 28, 38, 9, 8, 41, 53, 50, 38, 23, 11, 8, 20, 53, 52, 23, 33, 27, 11, 52, 34, 24, 28, 52, 41, 1, 60, 41, 11, 37, 3, 37, 23, 28, 58, 58, 34, 53, 60], [1, 3, 0, 3, 0, 0, 0, 0, 3, 3, 0, 3, 0, 0, 0, 0, 0, 0, 0, 0, 3, 0, 0, 3, 3, 0, 0, 3, 3, 0, 0, 0, 0, 3, 3, 0, 0, 3, 3, 0, 0, 3, 0, 0, 0, 0, 0, 0, 0, 0, 3, 0, 3, 3, 0, 0, 0, 0, 3, 0, 3]⟩
def row7 : Rw := ⟨67, 2, 9, 37, [0, 1, 8, 27, 64, 58, 15, 8, 43, 59, 62, 58, 53, 53, 64, 25, 9, 22, 3, 25, 27, 15, 62, 40, 22, 14, 22, 52, 43, 1, 66, 43, 5, 25, 42, 62, 24, 1, 66, 24, 15, 45, 53, 45, 27, 5, 52, 40, 42, 64, 45, 58, 42, 3, 14, 14, 9, 5, 8, 24, 59, 52, 9, 3, 40, 59, 66], [1, 3, 0, 3, 0, 3, 0, 0, 3, 3, 0, 0, 0, 0, 3, 3, 0, 0, 0, 0, 0, 0, 3, 0, 3, 3, 0, 3, 0, 0, 0, 0, 0, 0, 0, 0, 0, 0, 0, 0, 3, 0, 3, 3, 0, 3, 0, 0, 0, 0, 0, 0, 3, 3, 0, 0, 0, 0, 3, 3, 0, 0, 3, 0, 3, 0, 3]⟩
def row8 : Rw := ⟨73, 8, 9, 64, [0, 1, 8, 27, 64, 52, 70, 51, 1, 72, 51, 17, 49, 7, 43, 17, 8, 22, 65, 70, 43, 63, 63, 49, 27, 3, 56, 46, 52, 7, 63, 7, 64, 21, 30, 24, 9, 64, 49, 43, 52, 9, 66, 10, 66, 21, 27, 17, 70, 46, 24, 10, 10, 30, 3, 8, 51, 65, 56, 30, 66, 24, 56, 22, 1, 72, 22, 3, 21, 9, 46, 65, 72], [1, 3, 0, 3, 0, 0, 0, 3, 3, 3, 3, 0, 0, 0, 0, 0, 0, 3, 0, 0, 0, 3, 3, 0, 3, 0, 0, 3, 0, 0, 3, 0, 0, 0, 0, 0, 0, 0, 0, 0, 0, 0, 0, 3, 0, 0, 3, 0, 0, 3, 0, 3, 3, 0, 0, 0, 3, 0, 0, 0, 0, 0, 0, 3, 3, 3, 3, 0, 0, 0, 3, 0, 3]⟩
def row9 : Rw := ⟨79, -7, 3, 55, [0, 1, 8, 27, 64, 46, 58, 27, 38, 18, 52, 67, 69, 64, 58, 57, 67, 15, 65, 65, 21, 18, 62, 1, 78, 62, 38, 12, 69, 57, 61, 8, 62, 71, 41, 57, 46, 14, 46, 69, 10, 33, 65, 33, 22, 38, 8, 17, 71, 18, 22, 10, 67, 41, 17, 1, 78, 17, 61, 58, 14, 14, 64, 12, 22, 21, 15, 10, 12, 27, 61, 41, 52, 21, 33, 15, 52, 71, 78], [1, 3, 0, 0, 0, 0, 0, 0, 3, 0, 3, 0, 3, 0, 3, 3, 0, 3, 3, 0, 0, 3, 3, 0, 0, 0, 0, 3, 0, 0, 0, 0, 0, 3, 0, 0, 0, 0, 3, 0, 0, 3, 0, 0, 0, 0, 3, 0, 0, 0, 0, 0, 3, 0, 0, 0, 0, 3, 3, 0, 0, 3, 3, 0, 3, 3, 0, 3, 0, 3, 0, 3, 0, 0, 0, 0, 0, 0, 3]⟩
def row10 : Rw := ⟨97, 11, 3, 61, [0, 1, 8, 27, 64, 28, 22, 52, 27, 50, 30, 70, 79, 63, 28, 77, 22, 63, 12, 69, 46, 46, 75, 42, 50, 8, 19, 89, 30, 42, 34, 12, 79, 47, 19, 1, 96, 19, 67, 52, 77, 51, 77, 64, 18, 42, 45, 33, 12, 85, 64, 52, 55, 79, 33, 20, 46, 20, 45, 30, 78, 1, 96, 78, 50, 18, 85, 63, 55, 67, 8, 78, 89, 47, 55, 22, 51, 51, 28, 85, 34, 75, 20, 69, 34, 18, 27, 67, 47, 70, 45, 75, 69, 33, 70, 89, 96], [1, 3, 0, 0, 0, 0, 0, 0, 3, 0, 0, 0, 3, 0, 0, 0, 0, 0, 3, 3, 3, 0, 3, 0, 0, 0, 0, 3, 3, 0, 3, 0, 0, 3, 3, 0, 0, 0, 0, 0, 0, 0, 3, 0, 0, 3, 3, 3, 0, 0, 3, 3, 3, 0, 0, 3, 0, 0, 0, 0, 0, 0, 0, 3, 3, 0, 0, 3, 0, 3, 3, 0, 0, 0, 0, 3, 0, 3, 3, 3, 0, 0, 0, 0, 0, 3, 0, 0, 0, 3, 0, 0, 0, 0, 0, 0, 3]⟩
def row11 : Rw := ⟨103, 11, 9, 56, [0, 1, 8, 27, 64, 22, 10, 34, 100, 8, 73, 95, 80, 34, 66, 79, 79, 72, 64, 61, 69, 94, 39, 13, 22, 72, 66, 10, 13, 81, 14, 24, 14, 93, 61, 27, 100, 80, 76, 94, 37, 14, 31, 94, 3, 73, 1, 102, 73, 23, 61, 90, 13, 42, 80, 30, 1, 102, 30, 100, 9, 72, 89, 66, 9, 27, 23, 3, 76, 42, 10, 89, 79, 89, 22, 90, 93, 37, 31, 81, 90, 64, 9, 34, 42, 39, 31, 24, 24, 37, 69, 23, 8, 30, 95, 3, 69, 93, 81, 39, 76, 95, 102], [1, 3, 0, 3, 0, 0, 0, 0, 3, 3, 3, 0, 0, 3, 3, 0, 0, 0, 0, 0, 0, 0, 3, 3, 3, 0, 0, 3, 0, 0, 3, 3, 0, 0, 3, 0, 0, 3, 0, 3, 0, 0, 3, 0, 0, 0, 0, 0, 0, 0, 0, 0, 0, 0, 0, 0, 0, 0, 0, 0, 0, 3, 0, 0, 3, 0, 3, 0, 0, 3, 0, 0, 3, 3, 0, 0, 3, 0, 0, 3, 3, 3, 0, 0, 0, 0, 0, 0, 0, 3, 3, 0, 0, 3, 3, 3, 0, 0, 0, 0, 3, 0, 3]⟩
def row12 : Rw := ⟨109, 5, 12, 45, [0, 1, 8, 27, 64, 16, 107, 16, 76, 75, 19, 23, 93, 17, 19, 105, 63, 8, 55, 101, 43, 105, 75, 68, 90, 38, 27, 63, 43, 82, 77, 34, 68, 76, 64, 38, 4, 77, 45, 23, 17, 33, 77, 46, 55, 1, 108, 55, 66, 38, 86, 107, 107, 92, 68, 41, 17, 2, 2, 23, 71, 43, 54, 1, 108, 54, 63, 32, 76, 92, 86, 64, 32, 105, 71, 45, 33, 41, 75, 32, 27, 66, 46, 82, 71, 19, 41, 34, 4, 66, 8, 54, 101, 46, 4, 90, 92, 16, 86, 90, 34, 33, 93, 2, 93, 45, 82, 101, 108], [1, 3, 3, 0, 3, 0, 0, 0, 3, 0, 0, 0, 0, 0, 0, 0, 3, 3, 0, 3, 0, 0, 0, 3, 0, 0, 0, 3, 0, 0, 0, 0, 3, 3, 3, 0, 0, 0, 3, 0, 0, 3, 0, 3, 0, 3, 3, 0, 0, 0, 0, 0, 0, 0, 3, 3, 0, 0, 0, 0, 0, 0, 0, 3, 3, 0, 3, 0, 3, 0, 0, 3, 0, 0, 0, 3, 3, 3, 0, 0, 0, 0, 3, 0, 0, 0, 3, 0, 0, 0, 3, 0, 3, 3, 0, 0, 0, 0, 0, 0, 0, 3, 0, 0, 0, 3, 0, 3, 3]⟩
def row13 : Rw := ⟨127, -7, 6, 107, [0, 1, 8, 27, 64, 125, 89, 89, 4, 94, 111, 61, 77, 38, 77, 73, 32, 87, 117, 1, 126, 117, 107, 102, 108, 4, 50, 125, 108, 5, 76, 73, 2, 123, 61, 76, 47, 107, 8, 10, 119, 87, 47, 5, 94, 66, 54, 64, 102, 47, 32, 63, 19, 33, 111, 5, 102, 27, 40, 20, 100, 32, 76, 111, 16, 51, 95, 27, 107, 87, 100, 25, 122, 16, 94, 108, 64, 95, 80, 25, 63, 73, 61, 33, 122, 80, 40, 8, 117, 119, 20, 80, 51, 66, 4, 125, 54, 51, 122, 19, 2, 77, 123, 19, 25, 20, 10, 1, 126, 10, 40, 95, 54, 50, 89, 50, 66, 16, 33, 123, 38, 38, 2, 63, 100, 119, 126], [1, 3, 3, 0, 3, 3, 0, 0, 3, 0, 3, 0, 0, 0, 0, 0, 3, 0, 0, 3, 3, 0, 0, 0, 0, 3, 0, 3, 0, 0, 0, 0, 3, 3, 0, 0, 0, 0, 3, 0, 3, 0, 0, 0, 0, 0, 0, 3, 0, 0, 3, 3, 0, 0, 3, 0, 0, 0, 0, 0, 0, 3, 0, 3, 3, 0, 3, 0, 0, 0, 0, 0, 0, 3, 0, 0, 3, 3, 0, 0, 3, 0, 0, 0, 0, 0, 0, 3, 0, 3, 0, 0, 0, 0, 3, 3, 0, 0, 0, 0, 3, 0, 3, 0, 0, 0, 0, 3, 3, 0, 0, 3, 0, 0, 0, 0, 0, 3, 0, 3, 0, 0, 3, 3, 0, 3, 3]⟩
def row14 : Rw := ⟨139, -10, 3, 96, [0, 1, 8, 27, 64, 125, 77, 65, 95, 34, 27, 80, 60, 112, 103, 39, 65, 48, 133, 48, 77, 87, 84, 74, 63, 57, 62, 84, 129, 64, 34, 45, 103, 75, 106, 63, 91, 57, 106, 105, 60, 116, 1, 138, 116, 80, 36, 129, 87, 55, 39, 45, 79, 8, 116, 131, 59, 45, 95, 76, 133, 133, 82, 125, 129, 100, 44, 106, 14, 52, 87, 125, 33, 95, 39, 10, 14, 57, 6, 6, 63, 44, 94, 80, 8, 23, 131, 60, 94, 100, 84, 52, 10, 103, 59, 23, 1, 138, 23, 79, 34, 33, 82, 48, 76, 33, 64, 36, 94, 105, 75, 10, 55, 77, 82, 76, 65, 55, 52, 62, 91, 6, 91, 74, 100, 36, 27, 79, 59, 112, 105, 44, 74, 62, 14, 75, 112, 131, 138], [1, 3, 0, 0, 0, 0, 3, 0, 3, 0, 3, 0, 0, 0, 3, 0, 0, 0, 0, 0, 0, 0, 0, 3, 0, 0, 0, 3, 0, 0, 0, 0, 0, 3, 3, 0, 3, 0, 0, 3, 0, 0, 0, 0, 3, 3, 0, 0, 3, 0, 0, 0, 3, 0, 0, 3, 0, 3, 0, 3, 3, 0, 3, 3, 3, 3, 0, 0, 0, 0, 0, 0, 0, 0, 3, 3, 3, 3, 0, 3, 3, 0, 3, 0, 3, 0, 0, 3, 0, 0, 0, 3, 0, 0, 3, 3, 0, 0, 0, 0, 3, 0, 0, 3, 0, 3, 3, 0, 0, 0, 0, 0, 3, 0, 0, 0, 3, 0, 0, 0, 0, 0, 0, 0, 0, 3, 0, 0, 0, 3, 0, 3, 0, 3, 0, 0, 0, 0, 3]⟩
def row15 : Rw := ⟨151, 14, 9, 32, [0, 1, 8, 27, 64, 125, 65, 41, 59, 125, 94, 123, 67, 83, 26, 53, 19, 81, 94, 64, 148, 50, 78, 87, 83, 72, 60, 53, 57, 78, 122, 44, 1, 150, 44, 142, 148, 68, 59, 127, 127, 65, 98, 81, 20, 72, 92, 86, 60, 20, 123, 73, 27, 142, 122, 124, 3, 67, 20, 19, 70, 28, 50, 142, 8, 107, 143, 122, 50, 84, 79, 41, 127, 41, 91, 132, 19, 60, 110, 24, 110, 72, 67, 101, 29, 8, 44, 143, 9, 101, 123, 81, 132, 131, 84, 148, 27, 29, 9, 124, 78, 28, 131, 91, 65, 59, 79, 131, 70, 53, 86, 24, 24, 92, 83, 3, 9, 107, 1, 150, 107, 29, 73, 94, 98, 91, 79, 68, 64, 73, 101, 3, 87, 57, 70, 132, 98, 125, 68, 84, 28, 57, 26, 92, 110, 86, 26, 87, 124, 143, 150], [1, 3, 0, 3, 0, 0, 0, 0, 3, 3, 0, 0, 0, 0, 0, 0, 0, 0, 0, 3, 3, 0, 0, 0, 3, 0, 3, 3, 3, 3, 0, 0, 0, 0, 0, 0, 0, 0, 0, 0, 0, 3, 0, 0, 3, 0, 0, 0, 0, 0, 3, 0, 0, 3, 0, 0, 0, 3, 0, 3, 3, 0, 0, 0, 3, 3, 0, 3, 3, 0, 3, 0, 3, 3, 0, 0, 0, 0, 3, 3, 0, 3, 0, 3, 3, 0, 3, 3, 0, 0, 0, 3, 3, 0, 3, 0, 0, 0, 3, 0, 0, 3, 0, 0, 0, 0, 0, 3, 0, 0, 3, 0, 0, 0, 0, 0, 0, 0, 0, 0, 0, 0, 3, 3, 3, 3, 0, 3, 0, 0, 0, 3, 3, 0, 0, 0, 0, 0, 0, 0, 0, 0, 3, 3, 0, 0, 0, 0, 3, 0, 3]⟩
def row16 : Rw := ⟨157, -1, 12, 144, [0, 1, 8, 27, 64, 125, 59, 29, 41, 101, 58, 75, 1, 156, 75, 78, 14, 46, 23, 108, 150, 155, 129, 78, 8, 82, 149, 58, 129, 54, 153, 118, 112, 141, 54, 14, 27, 99, 79, 130, 101, 155, 141, 65, 90, 65, 153, 46, 64, 56, 28, 143, 93, 41, 150, 112, 90, 90, 118, 23, 125, 116, 2, 103, 111, 32, 29, 108, 118, 65, 112, 108, 59, 128, 7, 16, 4, 134, 98, 59, 23, 153, 141, 150, 29, 98, 49, 45, 92, 39, 49, 128, 125, 46, 54, 155, 41, 32, 134, 39, 67, 67, 45, 7, 116, 64, 14, 129, 101, 93, 111, 4, 92, 67, 92, 16, 2, 56, 27, 78, 58, 130, 143, 103, 16, 45, 39, 4, 103, 28, 99, 8, 75, 149, 79, 28, 2, 7, 49, 134, 111, 143, 79, 82, 1, 156, 82, 99, 56, 116, 128, 98, 32, 93, 130, 149, 156], [1, 3, 3, 0, 3, 0, 0, 3, 3, 0, 0, 0, 0, 0, 3, 0, 3, 0, 0, 0, 0, 0, 0, 3, 0, 0, 0, 3, 3, 3, 0, 0, 3, 0, 0, 0, 0, 0, 0, 3, 0, 3, 0, 0, 0, 3, 3, 0, 0, 3, 0, 0, 0, 0, 3, 0, 3, 0, 3, 3, 0, 0, 0, 0, 3, 3, 0, 3, 0, 0, 0, 0, 0, 0, 0, 3, 0, 0, 3, 3, 0, 0, 3, 0, 0, 0, 0, 0, 0, 0, 3, 0, 3, 3, 0, 0, 0, 0, 3, 3, 0, 3, 0, 3, 0, 0, 0, 0, 3, 0, 0, 3, 3, 0, 0, 0, 3, 0, 3, 0, 0, 0, 0, 0, 0, 3, 0, 0, 3, 3, 3, 0, 0, 0, 3, 0, 0, 0, 0, 0, 0, 3, 0, 3, 0, 0, 0, 0, 0, 3, 3, 0, 0, 3, 0, 3, 3]⟩
def row17 : Rw := ⟨163, 14, 3, 104, [0, 1, 8, 27, 64, 125, 53, 17, 23, 77, 22, 27, 98, 78, 136, 115, 21, 23, 127, 13, 13, 133, 53, 105, 132, 140, 135, 123, 110, 102, 105, 125, 5, 77, 21, 6, 38, 123, 104, 150, 104, 135, 86, 126, 98, 8, 25, 155, 78, 126, 142, 132, 102, 58, 6, 115, 65, 25, 1, 162, 25, 85, 22, 5, 40, 133, 127, 28, 5, 64, 48, 126, 141, 99, 6, 31, 17, 133, 59, 127, 17, 61, 102, 146, 36, 104, 30, 146, 132, 157, 64, 22, 37, 115, 99, 158, 135, 36, 30, 123, 158, 141, 78, 138, 1, 162, 138, 98, 48, 157, 105, 61, 31, 21, 37, 85, 8, 138, 155, 65, 37, 77, 28, 59, 13, 59, 40, 125, 157, 142, 86, 158, 38, 58, 61, 53, 40, 28, 23, 31, 58, 110, 30, 150, 150, 36, 140, 142, 48, 27, 85, 65, 136, 141, 86, 140, 146, 110, 38, 99, 136, 155, 162], [1, 3, 0, 0, 0, 3, 3, 0, 3, 0, 0, 0, 0, 3, 0, 0, 0, 3, 0, 0, 0, 3, 3, 3, 0, 3, 0, 3, 3, 0, 3, 3, 0, 0, 0, 0, 3, 3, 3, 0, 3, 0, 0, 0, 0, 0, 0, 0, 3, 0, 0, 0, 0, 3, 0, 0, 0, 0, 3, 3, 0, 3, 0, 0, 3, 3, 0, 0, 0, 0, 0, 0, 0, 0, 0, 0, 0, 3, 3, 0, 0, 0, 0, 0, 0, 3, 3, 0, 0, 0, 0, 0, 0, 0, 0, 0, 0, 0, 3, 3, 0, 0, 3, 0, 3, 3, 0, 0, 0, 0, 3, 0, 0, 0, 0, 3, 0, 0, 0, 0, 0, 0, 0, 3, 0, 3, 3, 3, 0, 0, 0, 0, 3, 3, 0, 3, 3, 0, 3, 0, 3, 3, 3, 0, 0, 0, 3, 0, 0, 0, 3, 0, 0, 0, 0, 3, 0, 3, 3, 0, 0, 0, 3]⟩
def row18 : Rw := ⟨181, 11, 15, 132, [0, 1, 8, 27, 64, 125, 35, 162, 150, 5, 95, 64, 99, 25, 29, 117, 114, 26, 40, 162, 36, 30, 150, 40, 68, 59, 19, 135, 51, 135, 31, 107, 7, 99, 27, 159, 139, 154, 29, 132, 107, 141, 59, 48, 114, 82, 139, 110, 1, 180, 110, 159, 152, 95, 175, 36, 46, 30, 175, 125, 67, 7, 132, 86, 56, 48, 68, 122, 35, 175, 5, 74, 26, 48, 146, 145, 51, 51, 151, 176, 132, 25, 42, 8, 110, 173, 22, 25, 7, 155, 113, 68, 26, 174, 156, 159, 8, 71, 173, 139, 156, 49, 5, 30, 130, 130, 36, 35, 133, 155, 107, 176, 6, 146, 59, 113, 133, 125, 95, 49, 174, 114, 56, 6, 151, 135, 145, 6, 86, 29, 22, 71, 1, 180, 71, 42, 99, 67, 133, 122, 40, 74, 49, 152, 27, 42, 22, 154, 82, 174, 74, 150, 46, 130, 46, 162, 122, 113, 141, 31, 151, 145, 19, 141, 155, 67, 64, 152, 156, 82, 117, 86, 176, 31, 19, 146, 56, 117, 154, 173, 180], [1, 3, 0, 0, 0, 3, 3, 3, 3, 0, 0, 0, 0, 0, 0, 0, 0, 0, 0, 3, 0, 0, 3, 0, 0, 3, 3, 3, 0, 3, 3, 3, 0, 0, 0, 3, 3, 0, 0, 0, 3, 0, 3, 0, 0, 0, 3, 0, 3, 3, 0, 3, 0, 0, 0, 0, 3, 0, 0, 3, 0, 0, 0, 0, 3, 0, 0, 3, 3, 0, 0, 3, 0, 0, 3, 0, 0, 0, 0, 0, 0, 0, 3, 0, 0, 0, 3, 0, 0, 0, 0, 0, 0, 0, 0, 3, 0, 0, 0, 3, 0, 0, 0, 0, 0, 0, 0, 3, 0, 0, 3, 0, 0, 3, 3, 0, 0, 3, 0, 0, 0, 0, 3, 0, 0, 3, 0, 0, 0, 0, 3, 0, 3, 3, 0, 3, 0, 0, 0, 3, 0, 3, 0, 0, 0, 3, 3, 0, 0, 0, 3, 3, 3, 0, 3, 3, 3, 0, 0, 3, 0, 0, 3, 0, 0, 0, 0, 0, 0, 0, 0, 0, 0, 3, 3, 3, 3, 0, 0, 0, 3]⟩
def row19 : Rw := ⟨193, -7, 9, 108, [0, 1, 8, 27, 64, 125, 23, 150, 126, 150, 35, 173, 184, 74, 42, 94, 43, 88, 42, 104, 87, 190, 33, 8, 121, 185, 13, 190, 143, 71, 173, 69, 151, 39, 125, 29, 143, 87, 60, 68, 117, 20, 169, 184, 71, 29, 64, 182, 3, 112, 129, 60, 104, 74, 169, 9, 179, 106, 182, 27, 33, 13, 166, 112, 50, 179, 119, 69, 35, 23, 39, 89, 179, 122, 117, 170, 94, 88, 158, 117, 164, 112, 160, 121, 1, 192, 121, 180, 182, 133, 39, 99, 126, 126, 105, 69, 24, 169, 124, 88, 67, 67, 94, 154, 60, 11, 13, 72, 1, 192, 72, 33, 81, 29, 76, 35, 105, 99, 23, 76, 71, 14, 104, 154, 170, 158, 124, 74, 14, 143, 81, 27, 180, 160, 166, 11, 87, 14, 184, 24, 119, 89, 133, 64, 81, 190, 11, 129, 164, 122, 9, 24, 173, 76, 125, 133, 106, 50, 164, 68, 154, 42, 124, 20, 122, 50, 3, 180, 8, 72, 185, 160, 3, 106, 89, 151, 105, 150, 99, 151, 119, 9, 20, 158, 43, 67, 43, 170, 68, 129, 166, 185, 192], [1, 3, 0, 3, 0, 0, 0, 0, 3, 3, 0, 3, 0, 3, 3, 0, 0, 0, 0, 0, 3, 0, 0, 3, 3, 0, 0, 3, 0, 3, 0, 0, 0, 3, 0, 3, 0, 0, 0, 3, 0, 0, 3, 3, 0, 0, 0, 0, 0, 0, 3, 0, 0, 0, 0, 0, 0, 0, 0, 0, 3, 0, 0, 0, 3, 0, 0, 3, 3, 3, 0, 3, 3, 0, 3, 0, 3, 0, 0, 0, 0, 3, 0, 0, 0, 0, 0, 3, 3, 3, 0, 0, 0, 0, 3, 0, 0, 0, 0, 3, 0, 0, 0, 0, 3, 3, 3, 0, 0, 0, 0, 0, 3, 0, 0, 0, 0, 3, 0, 3, 0, 3, 3, 0, 3, 3, 3, 0, 0, 3, 0, 0, 0, 3, 0, 0, 0, 0, 0, 0, 0, 0, 0, 3, 0, 0, 0, 0, 0, 0, 3, 3, 0, 0, 3, 0, 0, 0, 3, 0, 3, 0, 0, 0, 3, 0, 3, 0, 0, 3, 3, 0, 0, 3, 0, 0, 0, 0, 0, 3, 3, 0, 3, 0, 3, 3, 0, 0, 0, 0, 3, 0, 3]⟩
def row20 : Rw := ⟨199, 2, 15, 106, [0, 1, 8, 27, 64, 125, 17, 144, 114, 132, 5, 137, 136, 8, 157, 191, 116, 137, 61, 93, 40, 107, 101, 28, 93, 103, 64, 181, 62, 111, 135, 140, 132, 117, 101, 90, 90, 107, 147, 17, 121, 67, 60, 106, 12, 182, 25, 144, 147, 40, 28, 117, 114, 25, 55, 11, 98, 123, 92, 11, 85, 121, 125, 103, 61, 5, 140, 74, 12, 159, 123, 109, 123, 171, 60, 194, 181, 27, 136, 116, 172, 111, 138, 60, 82, 11, 52, 12, 96, 111, 63, 157, 1, 198, 157, 83, 181, 59, 121, 174, 25, 78, 140, 18, 116, 42, 1, 198, 42, 136, 88, 103, 187, 147, 188, 117, 139, 61, 88, 27, 83, 63, 172, 18, 5, 139, 28, 76, 90, 76, 40, 187, 125, 59, 194, 138, 96, 74, 78, 114, 188, 107, 76, 101, 188, 144, 174, 85, 82, 171, 159, 52, 55, 174, 17, 187, 93, 139, 132, 78, 182, 52, 92, 109, 109, 98, 82, 67, 59, 64, 88, 137, 18, 135, 96, 106, 171, 98, 92, 159, 106, 138, 62, 83, 8, 42, 191, 63, 62, 194, 67, 85, 55, 182, 74, 135, 172, 191, 198], [1, 3, 0, 0, 0, 3, 0, 0, 3, 0, 0, 3, 3, 0, 0, 0, 0, 3, 3, 0, 0, 0, 0, 0, 0, 3, 0, 3, 3, 0, 0, 0, 0, 0, 0, 0, 0, 0, 0, 0, 3, 0, 3, 0, 0, 0, 0, 0, 0, 0, 0, 0, 3, 0, 0, 3, 0, 0, 0, 3, 3, 3, 3, 3, 3, 0, 0, 3, 0, 0, 0, 0, 0, 0, 3, 0, 3, 0, 3, 0, 0, 0, 3, 3, 0, 3, 0, 0, 3, 0, 3, 0, 3, 3, 0, 0, 3, 0, 3, 0, 0, 3, 0, 3, 0, 0, 3, 3, 0, 3, 0, 3, 0, 0, 3, 0, 3, 3, 0, 0, 0, 3, 0, 3, 0, 3, 0, 0, 0, 0, 0, 0, 3, 0, 0, 3, 3, 3, 3, 3, 3, 0, 0, 0, 3, 0, 0, 3, 0, 0, 0, 0, 0, 0, 0, 0, 0, 3, 0, 3, 0, 0, 0, 0, 0, 0, 0, 0, 0, 0, 0, 3, 3, 0, 3, 0, 0, 0, 0, 0, 0, 3, 3, 0, 0, 0, 0, 3, 3, 0, 0, 3, 0, 0, 3, 0, 0, 0, 3]⟩
def row21 : Rw := ⟨211, 14, 15, 196, [0, 1, 8, 27, 64, 125, 5, 132, 90, 96, 156, 65, 40, 87, 1, 210, 87, 60, 135, 107, 193, 188, 98, 140, 109, 11, 63, 60, 8, 124, 203, 40, 63, 67, 58, 42, 25, 13, 12, 28, 67, 135, 27, 171, 151, 184, 65, 11, 28, 122, 88, 143, 82, 122, 58, 107, 64, 146, 148, 76, 147, 156, 109, 12, 82, 114, 114, 88, 42, 193, 125, 55, 200, 144, 104, 86, 96, 140, 13, 143, 114, 143, 25, 188, 5, 115, 102, 183, 153, 18, 206, 90, 98, 25, 88, 82, 13, 98, 132, 121, 71, 199, 89, 169, 23, 79, 132, 188, 42, 122, 12, 140, 90, 79, 113, 198, 129, 123, 186, 113, 121, 5, 193, 58, 28, 109, 96, 206, 23, 186, 68, 97, 68, 198, 71, 115, 125, 107, 67, 11, 156, 86, 18, 169, 123, 97, 97, 129, 199, 102, 55, 64, 135, 63, 65, 147, 104, 153, 89, 129, 68, 123, 89, 183, 200, 146, 27, 60, 40, 184, 76, 144, 183, 199, 198, 186, 169, 153, 144, 148, 171, 8, 87, 203, 151, 148, 200, 102, 71, 113, 23, 18, 104, 76, 151, 124, 1, 210, 124, 171, 146, 55, 115, 121, 79, 206, 86, 147, 184, 203, 210], [1, 3, 0, 0, 0, 3, 0, 0, 3, 0, 0, 3, 3, 3, 0, 0, 0, 0, 3, 0, 0, 0, 0, 3, 0, 3, 0, 3, 3, 0, 0, 0, 0, 0, 0, 0, 0, 0, 0, 0, 3, 0, 3, 0, 0, 0, 0, 0, 0, 0, 0, 0, 0, 0, 0, 3, 0, 0, 3, 0, 3, 0, 0, 3, 3, 3, 0, 3, 3, 0, 0, 3, 0, 0, 0, 0, 3, 0, 0, 3, 0, 0, 3, 0, 0, 0, 3, 3, 3, 3, 3, 0, 0, 0, 0, 0, 3, 3, 3, 0, 0, 0, 3, 0, 3, 0, 0, 3, 0, 3, 0, 0, 0, 3, 3, 3, 0, 0, 0, 0, 0, 3, 3, 3, 3, 3, 0, 0, 0, 3, 0, 0, 3, 0, 0, 3, 0, 0, 0, 0, 3, 0, 0, 3, 3, 0, 3, 3, 3, 0, 0, 3, 0, 3, 0, 0, 3, 0, 0, 0, 0, 0, 0, 0, 0, 0, 0, 0, 0, 3, 0, 3, 0, 0, 0, 0, 0, 0, 0, 0, 0, 0, 0, 3, 3, 0, 3, 0, 3, 0, 0, 0, 0, 3, 0, 0, 0, 0, 3, 3, 3, 0, 0, 3, 0, 0, 3, 0, 0, 0, 3]⟩
def row22 : Rw := ⟨223, 17, 6, 183, [0, 1, 8, 27, 64, 125, 216, 120, 66, 60, 108, 216, 167, 190, 68, 30, 82, 7, 34, 169, 195, 118, 167, 125, 221, 15, 182, 59, 98, 82, 17, 132, 210, 34, 56, 59, 49, 32, 14, 1, 222, 14, 52, 119, 221, 141, 108, 128, 207, 128, 120, 189, 118, 136, 26, 17, 115, 103, 210, 219, 136, 190, 164, 64, 119, 112, 49, 159, 2, 30, 26, 219, 169, 105, 33, 182, 112, 52, 8, 209, 215, 32, 112, 15, 193, 206, 60, 207, 207, 66, 13, 54, 195, 219, 132, 163, 95, 157, 132, 26, 68, 41, 174, 27, 52, 32, 196, 104, 208, 68, 136, 195, 28, 87, 155, 15, 119, 27, 191, 171, 196, 49, 182, 155, 197, 91, 66, 128, 60, 91, 4, 28, 169, 210, 157, 16, 16, 163, 17, 30, 208, 111, 191, 8, 14, 215, 171, 111, 41, 190, 118, 54, 4, 197, 193, 221, 64, 174, 111, 104, 159, 59, 33, 87, 4, 13, 120, 108, 206, 197, 87, 105, 34, 103, 95, 16, 95, 115, 82, 2, 104, 171, 209, 1, 222, 209, 191, 174, 164, 167, 189, 13, 91, 206, 141, 125, 164, 41, 208, 2, 98, 56, 105, 28, 54, 189, 216, 141, 193, 155, 33, 56, 7, 115, 163, 157, 103, 7, 98, 159, 196, 215, 222], [1, 3, 3, 0, 3, 0, 0, 3, 3, 0, 0, 0, 0, 3, 3, 3, 3, 3, 0, 0, 0, 0, 0, 0, 0, 0, 3, 3, 3, 0, 3, 0, 3, 3, 3, 0, 0, 0, 0, 0, 0, 3, 0, 0, 0, 0, 0, 0, 0, 3, 0, 0, 3, 0, 3, 0, 3, 0, 0, 3, 3, 0, 0, 0, 3, 0, 3, 0, 3, 0, 0, 0, 0, 0, 0, 0, 0, 0, 0, 0, 0, 0, 3, 0, 0, 0, 0, 3, 0, 0, 0, 3, 0, 0, 0, 3, 0, 0, 3, 0, 0, 0, 0, 3, 3, 3, 0, 0, 3, 0, 0, 3, 3, 0, 0, 3, 0, 0, 3, 3, 3, 0, 0, 0, 0, 3, 0, 0, 3, 0, 0, 0, 3, 0, 0, 0, 3, 0, 0, 0, 0, 3, 0, 0, 0, 0, 0, 0, 0, 0, 0, 0, 0, 0, 0, 3, 0, 3, 0, 3, 0, 0, 0, 3, 3, 0, 0, 3, 0, 3, 0, 3, 0, 0, 3, 0, 0, 0, 0, 0, 0, 0, 3, 0, 0, 0, 0, 0, 0, 3, 3, 3, 0, 3, 0, 3, 3, 3, 0, 0, 0, 0, 0, 0, 0, 0, 3, 3, 3, 3, 3, 0, 0, 0, 0, 3, 3, 0, 0, 3, 0, 3, 3]⟩
def row23 : Rw := ⟨229, 17, 12, 94, [0, 1, 8, 27, 64, 125, 216, 114, 54, 42, 84, 186, 125, 136, 225, 169, 203, 104, 107, 218, 214, 101, 114, 30, 84, 53, 172, 218, 197, 115, 207, 21, 21, 213, 145, 52, 169, 44, 141, 8, 109, 221, 121, 44, 225, 212, 11, 86, 214, 172, 195, 60, 2, 27, 141, 121, 202, 161, 4, 195, 53, 42, 168, 208, 168, 54, 101, 86, 15, 123, 187, 213, 207, 175, 123, 57, 212, 136, 64, 2, 185, 161, 165, 203, 52, 176, 123, 128, 197, 107, 93, 161, 88, 109, 1, 228, 109, 108, 2, 26, 186, 30, 22, 168, 16, 30, 216, 122, 212, 34, 52, 43, 13, 197, 143, 86, 32, 216, 186, 177, 195, 17, 107, 13, 199, 213, 61, 207, 199, 43, 203, 227, 121, 120, 1, 228, 120, 141, 68, 136, 122, 32, 101, 106, 53, 177, 26, 64, 68, 44, 227, 165, 93, 17, 172, 106, 54, 22, 16, 42, 106, 214, 143, 128, 175, 61, 21, 61, 187, 176, 34, 225, 68, 27, 108, 88, 202, 227, 169, 34, 57, 15, 143, 218, 17, 4, 185, 108, 8, 120, 221, 88, 185, 60, 177, 84, 16, 208, 208, 22, 114, 32, 11, 57, 176, 145, 199, 115, 128, 15, 11, 122, 125, 26, 60, 4, 93, 104, 43, 145, 187, 175, 115, 13, 104, 165, 202, 221, 228], [1, 3, 3, 0, 3, 0, 0, 0, 3, 0, 0, 3, 0, 3, 0, 3, 3, 3, 0, 0, 0, 3, 3, 0, 0, 0, 3, 3, 0, 0, 3, 0, 3, 0, 3, 0, 0, 0, 0, 0, 0, 0, 3, 3, 3, 0, 0, 0, 0, 0, 0, 0, 3, 3, 3, 0, 0, 3, 0, 0, 3, 3, 0, 0, 3, 0, 0, 0, 3, 0, 0, 0, 0, 0, 0, 0, 0, 0, 0, 0, 0, 0, 0, 0, 3, 0, 3, 0, 3, 0, 0, 0, 0, 3, 0, 0, 0, 0, 0, 0, 0, 3, 0, 0, 3, 0, 3, 3, 3, 3, 0, 0, 0, 0, 3, 3, 0, 0, 0, 0, 3, 3, 3, 3, 0, 3, 0, 0, 3, 0, 0, 0, 0, 0, 0, 0, 3, 0, 0, 0, 0, 3, 0, 3, 0, 3, 0, 0, 0, 0, 0, 0, 0, 0, 0, 0, 0, 0, 0, 0, 0, 3, 0, 0, 0, 3, 0, 0, 3, 3, 0, 0, 3, 0, 0, 3, 3, 3, 0, 0, 0, 0, 0, 0, 0, 3, 3, 3, 0, 0, 0, 0, 0, 0, 0, 3, 0, 3, 0, 3, 0, 0, 3, 3, 0, 0, 0, 3, 3, 0, 0, 0, 3, 3, 3, 0, 3, 0, 3, 0, 0, 3, 0, 0, 0, 3, 0, 3, 3]⟩
def row24 : Rw := ⟨241, -1, 15, 225, [0, 1, 8, 27, 64, 125, 216, 102, 30, 6, 36, 126, 41, 28, 93, 1, 240, 93, 48, 111, 47, 103, 44, 117, 87, 201, 224, 162, 21, 48, 8, 148, 233, 28, 21, 218, 143, 43, 165, 33, 135, 236, 101, 218, 111, 27, 213, 193, 214, 41, 162, 101, 105, 180, 91, 85, 168, 105, 143, 47, 64, 200, 220, 130, 177, 126, 224, 236, 168, 26, 57, 26, 180, 43, 103, 125, 115, 79, 23, 194, 116, 36, 201, 135, 85, 57, 57, 91, 165, 44, 216, 205, 17, 140, 98, 138, 25, 6, 87, 33, 91, 26, 85, 33, 117, 102, 235, 40, 5, 136, 198, 197, 139, 30, 117, 165, 180, 168, 135, 87, 30, 211, 154, 106, 73, 61, 76, 124, 211, 102, 44, 43, 105, 236, 201, 6, 139, 124, 208, 156, 215, 150, 208, 154, 235, 216, 103, 143, 101, 224, 36, 25, 197, 76, 150, 184, 184, 156, 106, 40, 205, 125, 47, 218, 162, 126, 116, 138, 198, 61, 215, 184, 215, 73, 5, 17, 115, 64, 111, 21, 41, 177, 194, 98, 136, 73, 156, 150, 61, 136, 140, 79, 200, 27, 48, 28, 214, 130, 23, 140, 5, 106, 208, 76, 198, 98, 23, 220, 213, 8, 93, 233, 193, 220, 79, 17, 40, 154, 124, 197, 138, 194, 130, 193, 148, 1, 240, 148, 213, 200, 115, 205, 235, 211, 139, 25, 116, 177, 214, 233, 240], [1, 3, 0, 0, 0, 3, 3, 0, 3, 0, 0, 0, 0, 0, 0, 0, 0, 3, 0, 0, 0, 3, 0, 3, 0, 3, 3, 3, 3, 0, 3, 0, 0, 3, 0, 0, 3, 0, 0, 0, 3, 3, 0, 3, 3, 0, 0, 3, 3, 0, 0, 0, 0, 0, 0, 0, 0, 3, 0, 0, 0, 3, 0, 0, 3, 0, 0, 0, 0, 0, 0, 0, 0, 3, 0, 0, 3, 0, 0, 3, 0, 0, 0, 0, 0, 3, 0, 3, 0, 0, 0, 3, 0, 3, 0, 0, 0, 0, 3, 0, 0, 3, 3, 3, 0, 3, 3, 0, 0, 0, 0, 3, 0, 0, 0, 3, 3, 3, 0, 0, 0, 0, 0, 0, 3, 3, 3, 0, 0, 0, 3, 0, 0, 0, 0, 3, 3, 0, 3, 3, 3, 0, 0, 3, 0, 0, 0, 0, 3, 0, 3, 0, 0, 0, 3, 0, 3, 0, 0, 0, 0, 0, 3, 0, 0, 3, 0, 0, 3, 0, 0, 0, 0, 0, 0, 0, 0, 3, 0, 0, 3, 0, 0, 0, 3, 0, 0, 0, 0, 0, 0, 0, 0, 3, 3, 0, 0, 3, 3, 0, 3, 3, 0, 0, 0, 3, 0, 0, 3, 0, 0, 3, 0, 3, 3, 3, 3, 0, 3, 0, 3, 0, 0, 0, 3, 0, 0, 0, 0, 0, 0, 0, 0, 3, 0, 3, 3, 0, 0, 0, 3]⟩
def row25 : Rw := ⟨271, -10, 9, 242, [0, 1, 8, 27, 64, 125, 216, 72, 241, 187, 187, 247, 102, 29, 34, 123, 31, 35, 141, 84, 141, 47, 79, 243, 3, 178, 232, 171, 1, 270, 171, 252, 248, 165, 9, 57, 44, 247, 130, 241, 44, 87, 105, 104, 90, 69, 47, 30, 24, 35, 69, 132, 230, 98, 13, 252, 8, 100, 263, 232, 13, 154, 119, 185, 87, 102, 236, 224, 72, 57, 185, 191, 81, 132, 79, 199, 227, 169, 31, 90, 81, 10, 154, 248, 27, 39, 19, 244, 178, 98, 10, 191, 105, 29, 240, 202, 192, 216, 9, 119, 10, 230, 243, 55, 214, 184, 242, 123, 104, 191, 119, 165, 64, 93, 258, 23, 207, 3, 230, 81, 104, 34, 148, 181, 139, 28, 125, 165, 154, 98, 3, 146, 262, 86, 166, 237, 34, 105, 185, 9, 125, 268, 173, 117, 106, 146, 243, 132, 90, 123, 237, 167, 190, 41, 268, 64, 248, 13, 178, 207, 106, 152, 80, 167, 148, 29, 87, 57, 216, 28, 41, 261, 152, 262, 55, 79, 69, 31, 242, 166, 80, 261, 173, 93, 27, 252, 232, 244, 23, 117, 261, 190, 181, 240, 102, 44, 72, 192, 139, 190, 80, 86, 214, 199, 47, 35, 169, 184, 86, 152, 117, 258, 39, 8, 171, 263, 19, 258, 173, 41, 139, 202, 236, 247, 241, 224, 202, 181, 167, 166, 184, 227, 30, 141, 24, 227, 214, 262, 106, 23, 19, 100, 1, 270, 100, 39, 93, 268, 28, 192, 224, 130, 187, 130, 236, 240, 148, 237, 242, 169, 24, 84, 84, 30, 199, 55, 146, 207, 244, 263, 270], [1, 3, 0, 3, 0, 0, 0, 0, 3, 3, 3, 0, 0, 3, 0, 0, 0, 0, 0, 3, 0, 0, 0, 3, 3, 0, 0, 3, 3, 3, 3, 3, 0, 0, 3, 3, 0, 0, 0, 3, 0, 3, 0, 0, 3, 0, 0, 3, 0, 0, 0, 0, 0, 0, 0, 3, 0, 3, 0, 0, 0, 0, 0, 0, 3, 0, 0, 0, 0, 3, 0, 0, 3, 0, 0, 0, 0, 0, 0, 3, 3, 3, 0, 0, 3, 0, 3, 3, 0, 0, 3, 0, 0, 3, 0, 0, 0, 0, 3, 0, 3, 0, 3, 0, 3, 3, 3, 0, 0, 0, 0, 0, 0, 0, 0, 0, 0, 3, 0, 3, 0, 0, 0, 3, 0, 3, 0, 0, 0, 0, 3, 0, 3, 0, 0, 0, 0, 0, 0, 3, 0, 3, 0, 0, 0, 0, 3, 0, 3, 0, 0, 0, 3, 0, 3, 0, 0, 0, 0, 0, 0, 0, 0, 0, 0, 3, 3, 3, 0, 3, 0, 3, 0, 3, 0, 0, 0, 0, 3, 0, 0, 3, 0, 0, 3, 3, 0, 3, 0, 0, 3, 3, 3, 0, 0, 0, 0, 0, 0, 3, 0, 0, 3, 0, 0, 0, 0, 3, 0, 0, 0, 0, 0, 0, 3, 0, 3, 0, 0, 0, 0, 0, 0, 0, 3, 0, 0, 3, 0, 0, 3, 0, 3, 0, 0, 0, 3, 3, 0, 0, 3, 3, 3, 3, 3, 0, 0, 3, 3, 0, 0, 0, 3, 0, 0, 0, 0, 0, 3, 0, 0, 3, 3, 3, 0, 0, 0, 0, 3, 0, 3]⟩
def row26 : Rw := ⟨277, -7, 12, 116, [0, 1, 8, 27, 64, 125, 216, 66, 235, 175, 169, 223, 66, 258, 251, 51, 218, 204, 15, 211, 244, 120, 122, 256, 251, 113, 125, 16, 69, 13, 131, 152, 82, 204, 247, 217, 120, 239, 26, 41, 13, 225, 129, 8, 145, 269, 109, 225, 69, 201, 73, 245, 169, 128, 128, 175, 275, 157, 104, 122, 217, 118, 108, 193, 102, 118, 247, 218, 37, 264, 74, 27, 129, 109, 250, 4, 208, 37, 51, 256, 104, 155, 138, 59, 201, 16, 64, 74, 52, 4, 213, 131, 41, 226, 138, 60, 275, 235, 223, 245, 30, 138, 21, 239, 244, 42, 193, 149, 193, 54, 15, 82, 261, 4, 148, 145, 1, 276, 145, 168, 74, 146, 113, 258, 33, 275, 159, 245, 262, 216, 113, 236, 37, 76, 82, 61, 19, 239, 173, 104, 38, 258, 216, 195, 201, 240, 41, 164, 61, 15, 32, 118, 2, 244, 19, 164, 131, 203, 109, 132, 1, 276, 132, 129, 273, 16, 195, 262, 223, 84, 128, 84, 235, 33, 38, 256, 139, 247, 32, 54, 42, 2, 217, 139, 51, 236, 146, 64, 273, 225, 203, 213, 261, 76, 218, 139, 122, 173, 21, 226, 240, 69, 273, 27, 168, 148, 250, 203, 13, 240, 59, 30, 159, 175, 84, 169, 159, 60, 155, 173, 120, 2, 102, 149, 149, 108, 32, 204, 76, 208, 52, 168, 8, 132, 269, 148, 52, 264, 236, 251, 38, 157, 60, 30, 73, 195, 125, 146, 264, 208, 261, 152, 164, 26, 21, 155, 157, 33, 66, 262, 73, 59, 226, 26, 19, 211, 54, 108, 102, 42, 211, 61, 152, 213, 250, 269, 276], [1, 3, 3, 0, 3, 0, 0, 0, 3, 0, 0, 0, 0, 3, 0, 3, 3, 0, 0, 3, 0, 3, 0, 0, 0, 0, 3, 3, 0, 0, 3, 0, 3, 3, 0, 0, 0, 3, 3, 0, 0, 3, 3, 0, 0, 0, 0, 0, 0, 0, 0, 3, 3, 0, 3, 0, 0, 0, 0, 3, 3, 3, 0, 0, 3, 0, 3, 0, 0, 3, 0, 0, 0, 3, 3, 0, 3, 0, 0, 0, 0, 0, 3, 0, 3, 0, 0, 0, 0, 0, 0, 0, 0, 0, 0, 0, 0, 0, 0, 0, 0, 0, 3, 0, 3, 0, 0, 0, 3, 3, 0, 0, 0, 3, 0, 0, 0, 0, 3, 0, 3, 0, 3, 0, 0, 3, 0, 0, 3, 3, 0, 3, 3, 0, 0, 0, 0, 0, 3, 3, 0, 0, 0, 0, 0, 3, 3, 0, 3, 3, 0, 0, 3, 0, 0, 3, 0, 3, 0, 3, 0, 0, 0, 0, 3, 0, 0, 0, 3, 3, 0, 0, 0, 3, 0, 3, 0, 0, 0, 0, 0, 0, 0, 0, 0, 0, 0, 0, 0, 0, 0, 0, 0, 3, 0, 3, 0, 0, 0, 0, 0, 3, 0, 3, 3, 0, 0, 0, 3, 0, 0, 3, 0, 3, 0, 0, 3, 3, 3, 0, 0, 0, 0, 3, 0, 3, 3, 0, 0, 0, 0, 0, 0, 0, 0, 3, 3, 0, 0, 3, 3, 0, 0, 0, 3, 3, 0, 3, 0, 0, 3, 3, 0, 0, 0, 0, 3, 0, 3, 0, 0, 3, 3, 0, 3, 0, 0, 0, 0, 3, 0, 0, 0, 3, 0, 3, 3]⟩
def row27 : Rw := ⟨283, -13, 6, 238, [0, 1, 8, 27, 64, 125, 216, 60, 229, 163, 151, 199, 30, 216, 197, 262, 134, 102, 172, 67, 76, 205, 177, 281, 240, 60, 30, 156, 161, 51, 115, 76, 223, 279, 250, 142, 244, 279, 253, 172, 42, 152, 225, 267, 1, 282, 267, 245, 222, 204, 197, 207, 240, 19, 116, 254, 156, 111, 125, 204, 71, 15, 42, 158, 86, 115, 251, 217, 19, 229, 4, 199, 254, 175, 251, 205, 43, 54, 244, 53, 53, 250, 84, 127, 102, 15, 155, 245, 8, 16, 275, 225, 155, 71, 262, 168, 78, 281, 217, 175, 161, 181, 241, 64, 222, 155, 152, 219, 79, 21, 51, 175, 116, 163, 39, 33, 151, 116, 217, 177, 2, 264, 120, 142, 53, 142, 132, 29, 122, 134, 71, 222, 27, 58, 38, 256, 152, 15, 134, 232, 32, 106, 177, 251, 51, 149, 268, 131, 27, 245, 225, 256, 61, 212, 149, 161, 254, 151, 141, 230, 141, 163, 19, 281, 106, 66, 167, 132, 250, 244, 120, 167, 108, 232, 262, 204, 64, 131, 128, 61, 219, 42, 102, 122, 108, 66, 2, 205, 115, 21, 212, 128, 58, 8, 267, 275, 38, 128, 268, 181, 156, 199, 33, 230, 230, 39, 229, 240, 78, 32, 108, 29, 84, 279, 54, 264, 66, 32, 168, 197, 125, 241, 268, 212, 79, 158, 172, 127, 29, 167, 264, 43, 76, 86, 79, 61, 38, 16, 1, 282, 16, 58, 131, 241, 111, 30, 4, 39, 141, 33, 4, 60, 207, 168, 232, 122, 127, 253, 223, 43, 2, 106, 78, 207, 216, 111, 181, 149, 21, 86, 67, 253, 84, 132, 120, 54, 223, 67, 158, 219, 256, 275, 282], [1, 3, 3, 0, 3, 0, 0, 0, 3, 0, 0, 0, 0, 0, 0, 3, 3, 0, 0, 3, 0, 3, 0, 0, 0, 0, 0, 3, 0, 3, 3, 0, 3, 3, 0, 0, 0, 0, 3, 3, 0, 0, 3, 3, 0, 0, 0, 0, 0, 0, 0, 3, 0, 3, 3, 0, 0, 0, 3, 0, 3, 3, 0, 0, 3, 0, 3, 3, 0, 0, 0, 3, 0, 0, 0, 0, 3, 0, 3, 3, 0, 0, 0, 0, 3, 0, 3, 0, 0, 0, 0, 0, 0, 0, 0, 0, 0, 0, 0, 0, 0, 0, 3, 0, 0, 0, 3, 0, 3, 0, 0, 3, 0, 0, 0, 3, 3, 0, 0, 0, 3, 0, 3, 0, 0, 3, 0, 3, 3, 0, 0, 3, 3, 0, 3, 0, 0, 0, 0, 0, 0, 3, 3, 0, 0, 0, 0, 0, 0, 3, 0, 3, 3, 0, 0, 3, 3, 0, 3, 0, 0, 3, 0, 3, 0, 0, 0, 3, 3, 0, 0, 0, 3, 0, 0, 3, 0, 3, 0, 0, 0, 3, 0, 0, 0, 0, 0, 0, 0, 0, 0, 0, 0, 0, 0, 0, 0, 3, 0, 3, 0, 0, 0, 0, 3, 3, 0, 3, 0, 0, 0, 0, 3, 0, 0, 0, 3, 3, 0, 3, 0, 0, 3, 3, 0, 3, 0, 0, 0, 3, 3, 0, 3, 0, 0, 0, 0, 0, 0, 0, 3, 3, 0, 0, 3, 3, 0, 0, 0, 0, 3, 3, 0, 3, 3, 0, 3, 0, 0, 0, 0, 0, 3, 0, 3, 0, 0, 3, 3, 0, 0, 0, 0, 0, 0, 3, 0, 0, 0, 3, 0, 3, 3]⟩
def row28 : Rw := ⟨307, 17, 18, 289, [0, 1, 8, 27, 64, 125, 216, 36, 205, 115, 79, 103, 193, 48, 288, 305, 105, 1, 306, 105, 18, 51, 210, 194, 9, 275, 77, 35, 155, 136, 291, 12, 226, 18, 8, 202, 299, 305, 226, 68, 144, 153, 101, 301, 145, 253, 17, 57, 72, 68, 51, 27, 2, 289, 280, 288, 12, 72, 167, 303, 179, 108, 96, 149, 273, 167, 144, 210, 64, 19, 81, 256, 243, 48, 291, 57, 273, 24, 237, 304, 231, 24, 303, 153, 194, 125, 259, 295, 239, 97, 182, 193, 136, 17, 149, 231, 269, 269, 237, 179, 101, 9, 216, 114, 16, 235, 163, 113, 91, 103, 155, 253, 96, 304, 269, 304, 108, 301, 275, 36, 204, 171, 250, 140, 154, 298, 271, 79, 35, 145, 108, 237, 231, 96, 145, 77, 205, 228, 152, 290, 34, 4, 206, 32, 102, 115, 77, 301, 179, 24, 149, 253, 35, 115, 192, 272, 54, 158, 283, 128, 6, 230, 192, 205, 275, 101, 303, 273, 17, 155, 79, 102, 230, 162, 211, 76, 70, 199, 162, 272, 228, 36, 9, 153, 167, 57, 136, 103, 271, 32, 6, 199, 3, 38, 3, 211, 54, 152, 204, 216, 194, 144, 72, 291, 193, 91, 298, 206, 128, 70, 38, 38, 76, 158, 290, 171, 114, 125, 210, 68, 12, 48, 182, 113, 154, 4, 283, 76, 3, 70, 283, 34, 250, 16, 259, 64, 51, 226, 288, 243, 97, 163, 140, 34, 158, 211, 199, 128, 4, 140, 235, 295, 19, 27, 18, 305, 280, 256, 239, 235, 250, 290, 54, 162, 6, 206, 154, 163, 239, 81, 2, 8, 105, 299, 289, 81, 295, 16, 171, 152, 272, 230, 32, 298, 113, 97, 256, 289, 202, 1, 306, 202, 2, 19, 259, 114, 204, 228, 192, 102, 271, 91, 182, 243, 280, 299, 306], [1, 3, 3, 3, 3, 0, 3, 0, 3, 3, 0, 0, 3, 0, 0, 0, 3, 3, 3, 3, 0, 0, 0, 0, 3, 0, 0, 3, 0, 0, 0, 0, 3, 0, 3, 3, 3, 0, 3, 0, 0, 0, 0, 0, 0, 0, 0, 0, 3, 0, 0, 3, 0, 0, 3, 0, 0, 3, 0, 0, 0, 0, 0, 0, 3, 0, 0, 0, 3, 0, 3, 0, 3, 0, 0, 0, 3, 3, 0, 3, 0, 3, 0, 0, 0, 0, 0, 0, 0, 0, 0, 3, 0, 0, 0, 0, 3, 3, 0, 0, 0, 3, 3, 3, 0, 3, 0, 0, 3, 0, 0, 0, 0, 3, 3, 3, 0, 0, 0, 0, 0, 0, 0, 0, 0, 3, 0, 0, 3, 0, 0, 0, 0, 0, 0, 0, 3, 0, 0, 0, 3, 0, 0, 0, 3, 3, 0, 0, 0, 3, 0, 0, 3, 3, 3, 3, 0, 0, 3, 0, 0, 0, 3, 3, 0, 0, 0, 3, 0, 0, 0, 3, 0, 0, 0, 0, 0, 0, 0, 3, 0, 0, 3, 0, 0, 0, 0, 0, 0, 0, 0, 0, 3, 3, 3, 0, 0, 0, 0, 3, 0, 0, 3, 0, 3, 3, 3, 0, 0, 0, 3, 3, 0, 0, 0, 0, 3, 0, 0, 0, 0, 0, 0, 0, 0, 0, 3, 0, 3, 0, 3, 3, 0, 0, 0, 3, 0, 3, 0, 3, 0, 0, 0, 3, 0, 0, 0, 0, 0, 0, 3, 0, 0, 3, 0, 0, 3, 0, 0, 3, 0, 0, 0, 0, 0, 0, 0, 0, 0, 3, 0, 3, 3, 3, 0, 3, 0, 0, 0, 0, 3, 0, 0, 3, 0, 0, 0, 0, 3, 3, 3, 3, 0, 0, 0, 3, 0, 0, 3, 3, 0, 3, 0, 3, 3, 3, 3]⟩
def row29 : Rw := ⟨313, -16, 3, 214, [0, 1, 8, 27, 64, 125, 216, 30, 199, 103, 61, 79, 163, 6, 240, 245, 27, 218, 198, 286, 175, 184, 6, 273, 52, 288, 48, 277, 42, 288, 82, 56, 216, 255, 179, 307, 19, 260, 97, 162, 148, 61, 220, 5, 48, 42, 306, 220, 103, 274, 113, 252, 71, 202, 25, 172, 23, 210, 113, 51, 30, 56, 135, 273, 163, 124, 162, 283, 180, 172, 265, 152, 152, 271, 202, 264, 150, 179, 44, 64, 245, 280, 175, 249, 195, 19, 40, 264, 71, 93, 23, 180, 257, 260, 195, 68, 198, 278, 1, 312, 278, 218, 138, 44, 255, 151, 51, 274, 200, 148, 124, 134, 184, 280, 115, 8, 278, 305, 95, 280, 240, 294, 135, 82, 141, 5, 306, 111, 52, 135, 53, 125, 44, 129, 73, 195, 188, 58, 124, 79, 242, 306, 277, 161, 277, 5, 290, 199, 51, 165, 234, 264, 261, 231, 180, 114, 39, 274, 199, 133, 82, 52, 49, 79, 148, 262, 114, 23, 308, 36, 152, 36, 7, 71, 234, 189, 255, 125, 118, 240, 184, 269, 188, 260, 178, 261, 202, 7, 308, 172, 231, 178, 19, 73, 33, 218, 8, 35, 305, 198, 33, 129, 179, 189, 165, 113, 39, 262, 162, 58, 269, 175, 95, 35, 1, 312, 35, 115, 245, 118, 53, 56, 133, 290, 220, 242, 49, 273, 294, 118, 64, 138, 33, 68, 249, 269, 134, 163, 49, 111, 42, 161, 161, 48, 141, 133, 30, 151, 189, 150, 40, 178, 257, 283, 262, 200, 103, 290, 141, 288, 111, 242, 61, 200, 39, 210, 93, 7, 271, 265, 308, 93, 252, 165, 151, 216, 53, 294, 6, 134, 58, 97, 257, 231, 25, 271, 36, 265, 25, 261, 40, 307, 129, 138, 27, 115, 95, 286, 68, 73, 307, 150, 234, 252, 210, 114, 283, 97, 188, 249, 286, 305, 312], [1, 3, 0, 0, 0, 3, 3, 3, 3, 0, 0, 0, 0, 0, 0, 0, 0, 0, 0, 3, 0, 0, 0, 3, 0, 3, 0, 3, 0, 0, 3, 0, 0, 3, 0, 3, 3, 0, 0, 3, 3, 0, 3, 0, 3, 0, 0, 0, 3, 3, 0, 3, 3, 3, 0, 0, 3, 0, 3, 0, 0, 3, 0, 0, 3, 0, 0, 0, 3, 0, 0, 3, 0, 3, 0, 0, 0, 0, 0, 3, 0, 0, 3, 0, 0, 0, 0, 0, 0, 0, 0, 0, 0, 3, 0, 3, 0, 3, 0, 0, 0, 0, 0, 3, 0, 0, 0, 0, 0, 0, 0, 3, 0, 3, 3, 3, 0, 0, 3, 0, 0, 0, 0, 0, 3, 3, 0, 0, 0, 3, 0, 0, 0, 3, 3, 3, 0, 0, 3, 0, 0, 3, 0, 0, 0, 0, 0, 0, 3, 0, 3, 3, 3, 0, 0, 0, 0, 0, 0, 0, 0, 3, 3, 3, 0, 3, 0, 0, 0, 0, 0, 0, 3, 0, 0, 3, 0, 0, 3, 3, 3, 0, 0, 0, 3, 0, 0, 0, 3, 3, 0, 0, 0, 0, 0, 3, 0, 0, 3, 3, 3, 0, 3, 0, 0, 0, 0, 0, 0, 0, 3, 0, 0, 0, 0, 0, 3, 0, 3, 0, 3, 0, 0, 0, 0, 0, 0, 0, 0, 0, 0, 3, 0, 0, 3, 0, 0, 0, 0, 0, 3, 0, 3, 0, 0, 3, 0, 0, 0, 3, 0, 0, 3, 0, 0, 3, 0, 3, 0, 0, 3, 3, 3, 0, 3, 3, 0, 0, 0, 3, 0, 3, 0, 3, 3, 0, 0, 3, 3, 0, 3, 0, 0, 3, 0, 0, 3, 0, 3, 0, 3, 0, 0, 0, 3, 0, 0, 0, 0, 0, 0, 0, 0, 0, 0, 3, 3, 3, 3, 0, 0, 0, 3]⟩
def row30 : Rw := ⟨331, 11, 21, 31, [0, 1, 8, 27, 64, 125, 216, 12, 181, 67, 7, 7, 73, 211, 96, 65, 124, 279, 205, 239, 56, 324, 56, 251, 253, 68, 33, 154, 106, 226, 189, 1, 330, 189, 246, 176, 316, 10, 257, 70, 117, 73, 275, 67, 117, 100, 22, 220, 38, 144, 213, 251, 264, 258, 239, 213, 186, 164, 153, 159, 188, 246, 8, 142, 323, 226, 188, 215, 313, 157, 84, 100, 211, 92, 80, 181, 70, 84, 229, 180, 274, 186, 253, 150, 214, 120, 205, 144, 274, 270, 138, 215, 176, 27, 105, 85, 304, 106, 159, 138, 49, 229, 22, 96, 126, 118, 78, 12, 257, 157, 49, 270, 164, 68, 319, 261, 231, 235, 279, 38, 180, 49, 313, 316, 64, 225, 143, 155, 267, 154, 153, 270, 180, 220, 65, 52, 187, 145, 263, 216, 10, 313, 138, 153, 33, 115, 74, 247, 309, 266, 124, 220, 229, 157, 10, 125, 177, 172, 116, 15, 206, 33, 164, 274, 38, 124, 207, 293, 57, 167, 298, 125, 316, 215, 159, 154, 206, 321, 174, 102, 111, 207, 65, 22, 84, 257, 216, 298, 178, 193, 18, 321, 115, 68, 186, 144, 279, 266, 111, 151, 61, 178, 177, 64, 176, 188, 106, 267, 15, 18, 282, 151, 293, 52, 96, 100, 70, 12, 263, 167, 61, 282, 174, 74, 319, 253, 213, 205, 235, 309, 102, 282, 193, 172, 225, 27, 246, 226, 304, 155, 116, 193, 61, 57, 187, 126, 211, 117, 181, 78, 145, 57, 151, 102, 247, 261, 150, 251, 239, 120, 231, 247, 174, 18, 116, 143, 105, 8, 189, 323, 85, 143, 172, 178, 167, 145, 118, 92, 73, 67, 80, 118, 187, 293, 111, 309, 231, 214, 264, 56, 258, 214, 261, 74, 321, 15, 155, 85, 142, 1, 330, 142, 105, 225, 177, 298, 263, 78, 80, 275, 7, 275, 92, 126, 52, 207, 266, 235, 120, 258, 324, 324, 264, 150, 319, 115, 206, 267, 304, 323, 330], [1, 3, 0, 0, 0, 0, 0, 3, 3, 0, 3, 0, 3, 0, 0, 3, 0, 0, 3, 0, 0, 0, 3, 0, 0, 0, 0, 3, 0, 0, 0, 0, 0, 3, 0, 0, 0, 0, 3, 0, 0, 0, 0, 0, 0, 0, 0, 0, 0, 3, 0, 0, 3, 0, 0, 0, 3, 3, 0, 0, 0, 3, 0, 0, 3, 3, 0, 3, 3, 0, 3, 0, 0, 3, 3, 0, 0, 0, 3, 0, 3, 0, 0, 0, 3, 3, 0, 0, 0, 0, 0, 0, 3, 0, 0, 0, 3, 0, 0, 0, 3, 0, 3, 0, 0, 3, 3, 0, 0, 0, 0, 3, 0, 0, 0, 3, 3, 3, 3, 0, 3, 0, 0, 0, 3, 3, 3, 0, 0, 0, 0, 0, 0, 0, 0, 0, 0, 0, 3, 0, 0, 0, 3, 3, 3, 3, 0, 0, 0, 0, 3, 3, 0, 3, 3, 3, 0, 3, 0, 3, 0, 0, 0, 0, 3, 0, 0, 3, 0, 0, 0, 0, 3, 0, 3, 0, 3, 3, 3, 0, 3, 3, 0, 0, 0, 0, 3, 3, 3, 3, 0, 0, 0, 3, 0, 0, 0, 0, 0, 0, 0, 0, 0, 0, 0, 3, 3, 3, 0, 0, 0, 3, 0, 3, 3, 3, 3, 0, 0, 0, 3, 0, 0, 0, 0, 3, 3, 0, 0, 3, 0, 3, 0, 0, 0, 3, 0, 0, 0, 3, 0, 0, 0, 0, 0, 0, 3, 3, 0, 0, 0, 3, 0, 3, 0, 0, 0, 3, 3, 0, 0, 3, 0, 3, 3, 0, 3, 3, 0, 0, 3, 0, 0, 0, 3, 3, 0, 0, 0, 3, 0, 0, 3, 0, 0, 0, 0, 0, 0, 0, 0, 0, 0, 3, 0, 0, 0, 0, 3, 0, 0, 0, 0, 0, 3, 0, 0, 0, 0, 3, 0, 0, 0, 3, 0, 0, 3, 0, 0, 3, 0, 3, 0, 3, 3, 0, 0, 0, 0, 0, 3]⟩
def row31 : Rw := ⟨337, 8, 21, 128, [0, 1, 8, 27, 64, 125, 216, 6, 175, 55, 326, 320, 43, 175, 48, 5, 52, 195, 103, 119, 249, 162, 201, 35, 7, 123, 52, 137, 47, 125, 40, 135, 79, 215, 212, 76, 150, 103, 278, 7, 307, 173, 285, 312, 260, 135, 280, 27, 56, 36, 310, 210, 79, 260, 85, 234, 39, 180, 326, 146, 320, 180, 69, 330, 295, 307, 35, 159, 11, 271, 271, 17, 189, 119, 150, 288, 202, 235, 56, 8, 97, 329, 36, 235, 258, 111, 137, 5, 58, 302, 69, 39, 218, 275, 216, 47, 111, 77, 288, 76, 121, 92, 332, 173, 295, 30, 58, 48, 6, 275, 187, 85, 312, 200, 92, 331, 249, 189, 157, 159, 201, 289, 92, 290, 215, 210, 281, 97, 1, 336, 97, 301, 280, 40, 261, 275, 88, 43, 146, 66, 146, 55, 136, 58, 164, 123, 278, 298, 189, 294, 282, 159, 268, 278, 195, 25, 111, 122, 64, 280, 102, 210, 273, 297, 288, 252, 195, 123, 42, 295, 214, 142, 85, 49, 40, 64, 127, 235, 57, 273, 215, 226, 312, 142, 59, 69, 178, 55, 43, 148, 39, 59, 214, 173, 279, 201, 282, 191, 271, 191, 294, 249, 62, 76, 297, 57, 36, 240, 1, 336, 240, 56, 127, 122, 47, 245, 48, 136, 178, 180, 148, 88, 6, 245, 137, 25, 252, 150, 62, 331, 289, 279, 307, 42, 164, 5, 245, 216, 261, 49, 260, 226, 290, 121, 62, 119, 298, 268, 35, 279, 332, 200, 226, 79, 102, 301, 8, 240, 329, 281, 102, 135, 49, 187, 218, 148, 320, 66, 66, 326, 178, 302, 30, 42, 7, 268, 157, 17, 191, 11, 157, 298, 103, 252, 77, 258, 127, 27, 301, 281, 310, 57, 202, 77, 25, 52, 164, 30, 330, 59, 234, 187, 261, 125, 122, 258, 202, 297, 212, 290, 200, 285, 214, 330, 302, 136, 175, 88, 218, 234, 142, 285, 332, 289, 162, 294, 17, 11, 282, 162, 331, 121, 212, 273, 310, 329, 336], [1, 3, 0, 0, 0, 3, 3, 3, 3, 0, 0, 3, 0, 0, 0, 0, 0, 3, 0, 0, 0, 0, 0, 0, 0, 3, 0, 3, 0, 0, 3, 0, 0, 0, 0, 3, 3, 0, 0, 3, 3, 0, 3, 3, 0, 0, 0, 3, 3, 3, 0, 0, 3, 0, 0, 3, 3, 3, 3, 3, 0, 0, 3, 0, 3, 0, 3, 0, 0, 3, 0, 0, 0, 0, 0, 0, 3, 3, 0, 3, 0, 0, 0, 0, 0, 3, 0, 0, 3, 0, 0, 0, 3, 0, 0, 0, 0, 3, 0, 0, 0, 0, 3, 3, 0, 0, 0, 0, 0, 0, 0, 3, 0, 0, 0, 0, 0, 0, 0, 3, 0, 3, 3, 3, 0, 3, 0, 3, 0, 0, 0, 0, 0, 0, 0, 3, 3, 3, 0, 0, 0, 0, 3, 0, 0, 0, 3, 0, 3, 0, 3, 0, 0, 0, 0, 0, 0, 3, 0, 3, 0, 0, 3, 0, 3, 0, 0, 0, 0, 0, 0, 0, 0, 3, 0, 3, 0, 0, 3, 0, 3, 0, 0, 0, 0, 0, 0, 3, 0, 3, 0, 3, 0, 0, 0, 3, 0, 0, 0, 0, 3, 3, 3, 0, 0, 0, 0, 0, 0, 0, 3, 0, 3, 0, 3, 3, 3, 0, 3, 0, 0, 0, 0, 0, 0, 0, 3, 0, 0, 0, 0, 0, 0, 0, 3, 3, 0, 0, 0, 0, 3, 0, 0, 0, 0, 3, 0, 0, 0, 3, 0, 0, 3, 0, 0, 0, 0, 0, 3, 0, 3, 3, 0, 0, 0, 0, 0, 0, 3, 0, 0, 3, 0, 3, 0, 3, 0, 0, 3, 3, 3, 3, 3, 0, 0, 3, 0, 0, 3, 3, 3, 0, 0, 0, 3, 3, 0, 3, 3, 0, 0, 3, 3, 0, 0, 0, 0, 3, 0, 0, 3, 0, 3, 0, 0, 0, 0, 0, 0, 0, 3, 0, 0, 0, 0, 0, 3, 0, 0, 3, 3, 3, 3, 0, 0, 0, 3]⟩
def row32 : Rw := ⟨349, 20, 3, 226, [0, 1, 8, 27, 64, 125, 216, 343, 163, 31, 302, 284, 332, 103, 301, 234, 257, 27, 248, 228, 322, 187, 178, 301, 213, 269, 126, 139, 314, 308, 127, 126, 311, 339, 216, 297, 239, 48, 79, 338, 133, 168, 100, 284, 28, 36, 314, 170, 308, 36, 58, 31, 310, 203, 65, 251, 69, 223, 21, 167, 318, 131, 310, 163, 45, 311, 269, 274, 332, 100, 282, 186, 167, 231, 35, 283, 283, 41, 261, 251, 17, 263, 297, 125, 102, 234, 178, 289, 224, 338, 288, 80, 69, 261, 313, 231, 21, 38, 288, 79, 115, 53, 248, 8, 37, 341, 228, 53, 171, 239, 263, 249, 203, 131, 39, 282, 168, 52, 289, 187, 101, 37, 1, 348, 37, 121, 257, 102, 11, 339, 45, 182, 58, 28, 98, 274, 213, 270, 102, 64, 162, 53, 92, 285, 289, 110, 103, 274, 280, 127, 170, 66, 170, 139, 328, 45, 343, 181, 263, 246, 136, 288, 10, 6, 282, 146, 302, 58, 118, 139, 127, 88, 28, 302, 218, 131, 47, 321, 261, 222, 210, 231, 291, 47, 203, 67, 343, 339, 61, 213, 103, 86, 168, 6, 304, 21, 210, 179, 283, 179, 222, 69, 75, 246, 239, 60, 64, 257, 296, 187, 285, 247, 79, 136, 75, 251, 321, 291, 167, 304, 10, 338, 247, 92, 228, 312, 1, 348, 312, 248, 162, 60, 297, 181, 67, 310, 218, 146, 100, 86, 110, 178, 296, 121, 8, 312, 341, 101, 296, 234, 270, 61, 311, 328, 118, 36, 88, 280, 269, 61, 11, 125, 60, 171, 115, 247, 224, 52, 86, 332, 98, 88, 308, 66, 66, 314, 118, 182, 163, 67, 249, 17, 75, 80, 38, 304, 186, 39, 218, 31, 182, 328, 126, 280, 98, 284, 146, 39, 318, 291, 313, 41, 179, 35, 313, 321, 65, 249, 181, 216, 11, 270, 301, 110, 52, 133, 10, 38, 223, 222, 41, 35, 210, 223, 80, 136, 48, 171, 162, 27, 121, 101, 322, 92, 115, 48, 246, 17, 65, 47, 318, 186, 6, 133, 224, 285, 322, 341, 348], [1, 3, 0, 0, 0, 0, 3, 0, 3, 0, 3, 3, 0, 0, 0, 0, 0, 3, 0, 0, 0, 3, 0, 0, 0, 0, 0, 3, 3, 0, 0, 3, 0, 0, 0, 3, 3, 3, 3, 3, 0, 3, 0, 0, 0, 3, 0, 3, 3, 0, 0, 0, 3, 3, 0, 0, 0, 0, 3, 0, 3, 3, 0, 0, 3, 3, 3, 3, 0, 3, 0, 0, 0, 0, 0, 3, 0, 0, 0, 3, 3, 0, 0, 0, 0, 0, 3, 0, 3, 0, 0, 0, 3, 0, 0, 0, 0, 0, 3, 0, 3, 3, 3, 3, 0, 0, 0, 0, 0, 0, 3, 0, 0, 0, 0, 3, 0, 0, 3, 0, 0, 3, 0, 0, 0, 3, 3, 3, 0, 0, 0, 3, 0, 3, 0, 0, 3, 0, 0, 3, 0, 0, 0, 0, 0, 0, 3, 0, 0, 0, 0, 0, 0, 0, 0, 0, 0, 0, 0, 0, 0, 0, 3, 3, 0, 0, 0, 3, 3, 0, 3, 3, 0, 0, 0, 0, 0, 0, 3, 3, 0, 3, 3, 0, 0, 0, 3, 3, 0, 0, 0, 0, 0, 0, 0, 0, 0, 0, 0, 0, 0, 0, 0, 3, 0, 0, 0, 0, 0, 0, 3, 0, 0, 3, 0, 0, 3, 0, 3, 0, 0, 0, 3, 3, 3, 0, 0, 0, 3, 0, 0, 3, 0, 0, 3, 0, 0, 0, 0, 3, 0, 0, 0, 0, 0, 0, 3, 3, 3, 3, 0, 3, 0, 0, 0, 0, 0, 3, 0, 0, 0, 3, 0, 3, 0, 0, 0, 0, 0, 3, 3, 0, 0, 0, 3, 0, 0, 0, 0, 0, 3, 0, 3, 3, 3, 3, 0, 0, 3, 3, 0, 3, 0, 0, 0, 0, 3, 3, 0, 0, 0, 3, 3, 0, 3, 0, 0, 0, 3, 0, 3, 3, 3, 3, 3, 0, 0, 0, 3, 0, 0, 3, 3, 0, 0, 0, 0, 0, 3, 0, 0, 0, 3, 0, 0, 0, 0, 0, 3, 3, 0, 3, 0, 3, 0, 0, 0, 0, 3]⟩
def row33 : Rw := ⟨367, -13, 9, 83, [0, 1, 8, 27, 64, 125, 216, 343, 145, 362, 266, 230, 260, 362, 175, 72, 59, 142, 327, 253, 293, 86, 5, 56, 245, 211, 327, 232, 299, 167, 209, 64, 105, 338, 35, 303, 47, 7, 189, 232, 142, 292, 321, 235, 40, 109, 81, 329, 125, 209, 220, 164, 47, 242, 21, 124, 190, 225, 235, 226, 204, 175, 145, 120, 106, 109, 135, 190, 280, 44, 222, 86, 9, 364, 56, 192, 44, 352, 21, 158, 35, 25, 134, 1, 366, 134, 45, 105, 320, 329, 138, 120, 281, 260, 63, 63, 266, 311, 204, 318, 292, 132, 211, 168, 9, 107, 101, 364, 168, 253, 258, 189, 52, 220, 332, 27, 45, 25, 340, 262, 164, 52, 299, 177, 59, 318, 226, 156, 114, 106, 138, 216, 346, 167, 52, 7, 38, 151, 352, 280, 308, 75, 321, 318, 72, 323, 343, 138, 81, 178, 68, 124, 352, 24, 247, 293, 168, 245, 163, 295, 280, 124, 200, 147, 338, 45, 8, 233, 359, 25, 338, 203, 360, 81, 106, 74, 358, 230, 63, 230, 3, 122, 226, 321, 46, 141, 245, 364, 137, 304, 137, 9, 293, 261, 286, 7, 164, 29, 342, 8, 134, 359, 322, 29, 220, 167, 243, 87, 72, 204, 122, 199, 74, 120, 343, 15, 243, 299, 189, 286, 229, 24, 44, 295, 49, 46, 292, 59, 87, 15, 216, 329, 360, 315, 200, 21, 151, 229, 261, 253, 211, 141, 49, 308, 190, 68, 315, 203, 105, 27, 342, 322, 340, 35, 147, 315, 178, 109, 114, 199, 3, 266, 260, 358, 199, 156, 235, 75, 49, 163, 56, 101, 304, 304, 107, 86, 247, 229, 38, 47, 262, 322, 233, 1, 366, 233, 342, 332, 209, 346, 15, 323, 175, 311, 3, 358, 281, 145, 323, 87, 177, 232, 258, 261, 247, 222, 192, 163, 141, 132, 142, 177, 243, 346, 125, 320, 203, 147, 158, 242, 38, 286, 258, 327, 132, 46, 75, 225, 135, 178, 360, 320, 64, 332, 29, 262, 303, 158, 200, 68, 135, 40, 156, 122, 311, 362, 281, 74, 114, 40, 225, 308, 295, 192, 5, 107, 137, 101, 5, 222, 24, 151, 242, 303, 340, 359, 366], [1, 3, 0, 3, 0, 3, 0, 3, 3, 3, 0, 0, 0, 0, 0, 3, 0, 0, 0, 0, 0, 3, 0, 0, 3, 3, 0, 3, 0, 3, 0, 0, 0, 0, 0, 3, 0, 0, 3, 0, 3, 0, 0, 0, 3, 3, 3, 3, 0, 3, 0, 0, 3, 0, 0, 0, 3, 0, 0, 3, 0, 0, 0, 3, 3, 0, 0, 0, 3, 0, 0, 0, 3, 0, 3, 3, 0, 0, 0, 0, 0, 3, 0, 0, 0, 0, 3, 3, 0, 0, 0, 0, 0, 0, 0, 0, 0, 0, 0, 0, 0, 3, 0, 0, 0, 3, 3, 3, 0, 3, 0, 0, 0, 0, 3, 0, 0, 0, 0, 0, 3, 0, 3, 0, 3, 3, 0, 0, 0, 0, 0, 0, 3, 0, 3, 3, 0, 3, 3, 0, 0, 3, 3, 0, 0, 3, 0, 3, 0, 0, 0, 3, 0, 0, 0, 0, 3, 0, 3, 0, 0, 0, 0, 3, 3, 0, 0, 3, 3, 0, 0, 0, 0, 0, 0, 3, 0, 3, 3, 0, 0, 0, 0, 0, 0, 0, 0, 0, 0, 3, 3, 0, 3, 0, 0, 0, 0, 0, 0, 3, 3, 0, 0, 3, 3, 0, 0, 0, 0, 3, 0, 3, 0, 0, 0, 0, 3, 0, 0, 0, 3, 0, 3, 0, 0, 3, 3, 0, 0, 3, 3, 0, 3, 3, 0, 3, 0, 0, 0, 0, 0, 0, 3, 3, 0, 3, 0, 3, 0, 0, 0, 0, 0, 3, 0, 0, 0, 0, 3, 0, 3, 3, 3, 0, 0, 0, 3, 0, 0, 0, 0, 0, 0, 0, 0, 0, 0, 0, 0, 0, 3, 3, 0, 0, 0, 0, 3, 0, 0, 0, 0, 0, 3, 3, 0, 3, 0, 0, 0, 3, 0, 0, 0, 3, 3, 0, 0, 0, 3, 0, 0, 3, 0, 0, 0, 3, 0, 0, 3, 0, 3, 3, 3, 3, 0, 0, 0, 3, 0, 3, 0, 0, 3, 0, 0, 0, 0, 0, 3, 0, 3, 0, 3, 3, 0, 0, 3, 0, 0, 0, 0, 0, 3, 0, 0, 0, 0, 0, 3, 3, 3, 0, 3, 0, 3, 0, 3]⟩
def row34 : Rw := ⟨373, 17, 21, 88, [0, 1, 8, 27, 64, 125, 216, 343, 139, 356, 254, 212, 236, 332, 133, 18, 366, 64, 237, 145, 167, 309, 204, 231, 23, 332, 45, 287, 318, 144, 144, 324, 317, 129, 139, 353, 31, 298, 41, 12, 217, 289, 234, 58, 140, 113, 356, 129, 184, 154, 45, 236, 360, 50, 58, 17, 306, 185, 33, 229, 33, 197, 354, 137, 298, 97, 286, 125, 366, 269, 213, 204, 248, 351, 146, 12, 328, 354, 96, 306, 244, 289, 74, 351, 7, 167, 91, 158, 1, 372, 158, 111, 237, 169, 286, 221, 353, 315, 113, 126, 360, 75, 23, 210, 269, 206, 27, 111, 91, 346, 136, 213, 210, 133, 361, 154, 264, 324, 340, 318, 264, 184, 84, 343, 221, 97, 350, 240, 146, 74, 30, 20, 50, 126, 254, 67, 317, 264, 287, 19, 212, 126, 140, 260, 119, 96, 197, 55, 49, 185, 96, 161, 13, 31, 221, 216, 22, 18, 210, 231, 87, 157, 74, 217, 219, 86, 197, 185, 56, 189, 217, 146, 355, 104, 145, 111, 8, 215, 365, 91, 145, 160, 142, 97, 31, 323, 233, 140, 50, 342, 276, 231, 213, 228, 282, 8, 158, 365, 262, 228, 269, 18, 227, 156, 184, 317, 188, 176, 287, 154, 156, 299, 216, 286, 142, 163, 355, 351, 157, 152, 342, 360, 212, 277, 188, 324, 318, 176, 277, 254, 113, 233, 247, 161, 354, 86, 109, 56, 306, 119, 247, 323, 353, 343, 299, 227, 133, 23, 276, 152, 30, 289, 189, 109, 55, 33, 49, 109, 219, 12, 240, 163, 160, 237, 27, 282, 262, 346, 167, 104, 163, 350, 298, 13, 247, 260, 58, 20, 152, 87, 204, 136, 262, 215, 1, 372, 215, 282, 206, 366, 22, 299, 84, 129, 67, 277, 19, 45, 361, 227, 22, 125, 169, 160, 104, 7, 248, 87, 276, 75, 236, 19, 176, 340, 144, 340, 188, 67, 356, 315, 323, 13, 137, 328, 219, 189, 244, 17, 260, 233, 315, 139, 84, 156, 361, 332, 75, 342, 20, 234, 244, 56, 49, 229, 229, 55, 86, 328, 41, 350, 142, 169, 64, 206, 228, 136, 309, 7, 355, 240, 41, 137, 161, 119, 17, 234, 30, 157, 248, 309, 346, 365, 372], [1, 3, 0, 0, 0, 0, 0, 3, 3, 0, 0, 0, 3, 3, 0, 0, 0, 3, 3, 3, 3, 0, 3, 3, 0, 0, 0, 3, 0, 0, 3, 3, 0, 3, 0, 0, 0, 0, 0, 0, 0, 3, 0, 0, 0, 3, 0, 0, 0, 3, 3, 0, 0, 0, 0, 3, 3, 0, 3, 0, 0, 0, 0, 0, 3, 0, 0, 3, 0, 0, 0, 0, 0, 0, 3, 3, 0, 0, 0, 0, 0, 0, 0, 0, 3, 0, 3, 3, 0, 0, 0, 3, 0, 0, 0, 0, 3, 3, 0, 0, 0, 0, 0, 0, 3, 0, 0, 0, 0, 3, 0, 3, 0, 3, 0, 0, 0, 0, 0, 3, 0, 0, 0, 0, 0, 3, 3, 0, 0, 3, 0, 0, 0, 3, 0, 0, 3, 3, 0, 3, 3, 0, 3, 0, 3, 3, 3, 0, 0, 0, 0, 0, 3, 0, 3, 0, 3, 3, 3, 0, 3, 3, 0, 3, 0, 0, 0, 3, 0, 3, 0, 0, 0, 0, 0, 0, 3, 0, 0, 0, 0, 0, 0, 0, 3, 3, 0, 0, 3, 3, 0, 0, 0, 0, 0, 0, 0, 3, 0, 0, 0, 0, 0, 0, 3, 0, 3, 0, 0, 0, 3, 0, 3, 3, 0, 3, 3, 3, 0, 3, 0, 3, 0, 0, 0, 0, 0, 3, 3, 3, 0, 3, 0, 3, 3, 0, 3, 3, 0, 0, 3, 0, 0, 0, 3, 0, 0, 3, 3, 0, 0, 0, 0, 0, 3, 0, 0, 0, 0, 0, 3, 0, 3, 0, 3, 0, 0, 0, 0, 3, 0, 0, 0, 0, 0, 0, 3, 3, 0, 0, 0, 0, 3, 0, 0, 0, 3, 3, 0, 3, 0, 0, 0, 0, 0, 0, 0, 0, 3, 3, 0, 0, 0, 0, 0, 0, 3, 0, 0, 3, 0, 0, 0, 0, 0, 3, 0, 3, 3, 0, 0, 0, 0, 3, 3, 0, 0, 0, 3, 0, 0, 0, 3, 0, 0, 0, 0, 0, 0, 0, 3, 0, 3, 3, 0, 0, 3, 0, 0, 0, 3, 3, 0, 3, 3, 3, 3, 0, 0, 0, 3, 3, 0, 0, 0, 3, 3, 0, 0, 0, 0, 0, 3]⟩
def row35 : Rw := ⟨379, -7, 15, 51, [0, 1, 8, 27, 64, 125, 216, 343, 133, 350, 242, 194, 212, 302, 91, 343, 306, 365, 147, 37, 41, 165, 36, 39, 180, 86, 142, 354, 349, 133, 91, 229, 174, 311, 267, 48, 39, 246, 296, 195, 328, 322, 183, 296, 288, 165, 312, 356, 303, 159, 309, 1, 378, 309, 179, 373, 139, 241, 306, 340, 349, 339, 316, 286, 255, 229, 214, 216, 241, 295, 5, 135, 312, 163, 73, 48, 94, 217, 44, 339, 350, 83, 302, 255, 327, 145, 94, 180, 30, 29, 183, 119, 222, 119, 195, 77, 150, 41, 135, 59, 198, 179, 8, 70, 371, 159, 198, 115, 295, 365, 331, 199, 354, 44, 33, 327, 174, 338, 67, 125, 139, 115, 59, 356, 254, 138, 14, 267, 145, 33, 316, 242, 196, 184, 212, 286, 33, 217, 86, 25, 40, 137, 322, 222, 222, 328, 167, 124, 205, 37, 5, 115, 373, 27, 220, 200, 352, 303, 59, 5, 147, 112, 285, 293, 142, 217, 145, 311, 342, 244, 23, 64, 373, 198, 303, 315, 240, 84, 232, 311, 327, 286, 194, 57, 260, 51, 194, 316, 44, 142, 237, 335, 63, 185, 328, 119, 322, 185, 93, 52, 68, 147, 295, 139, 64, 76, 181, 6, 315, 356, 135, 37, 68, 234, 162, 237, 86, 94, 267, 232, 374, 320, 76, 27, 179, 159, 352, 6, 264, 374, 342, 174, 255, 212, 51, 157, 157, 57, 242, 339, 354, 293, 162, 346, 93, 167, 195, 183, 137, 63, 346, 234, 112, 365, 241, 125, 23, 320, 264, 240, 254, 312, 41, 205, 52, 346, 335, 25, 180, 48, 14, 84, 264, 181, 220, 8, 309, 371, 200, 181, 320, 244, 338, 229, 302, 184, 260, 157, 260, 196, 350, 349, 199, 285, 234, 52, 124, 77, 296, 29, 40, 335, 162, 285, 331, 306, 216, 67, 244, 374, 84, 138, 163, 165, 150, 124, 93, 63, 40, 30, 39, 73, 138, 240, 6, 200, 70, 1, 378, 70, 220, 76, 23, 67, 214, 91, 83, 196, 57, 51, 184, 83, 133, 340, 331, 112, 68, 205, 150, 288, 246, 30, 25, 237, 293, 199, 340, 343, 214, 338, 342, 232, 14, 73, 36, 288, 77, 167, 185, 137, 29, 246, 36, 163, 254, 315, 352, 371, 378], [1, 3, 0, 0, 0, 3, 3, 0, 3, 0, 0, 0, 0, 0, 3, 0, 0, 0, 0, 0, 0, 0, 0, 3, 0, 3, 0, 3, 0, 3, 3, 0, 0, 3, 0, 0, 3, 3, 0, 3, 3, 3, 0, 0, 3, 0, 0, 0, 3, 0, 0, 3, 3, 0, 0, 0, 0, 3, 0, 3, 0, 0, 0, 3, 3, 0, 0, 3, 3, 0, 3, 0, 0, 3, 0, 0, 3, 3, 0, 0, 0, 0, 0, 3, 3, 0, 3, 0, 0, 0, 0, 3, 0, 3, 3, 0, 0, 0, 0, 0, 0, 0, 0, 0, 0, 0, 0, 0, 0, 0, 0, 0, 3, 0, 0, 3, 0, 0, 0, 3, 0, 0, 0, 0, 3, 3, 0, 0, 0, 0, 0, 0, 0, 3, 0, 3, 0, 3, 3, 3, 0, 0, 3, 0, 0, 3, 0, 3, 0, 0, 3, 0, 0, 0, 0, 0, 0, 3, 0, 3, 0, 0, 3, 3, 0, 3, 0, 3, 0, 0, 0, 0, 0, 0, 3, 0, 0, 0, 0, 3, 3, 3, 0, 3, 3, 3, 0, 0, 0, 0, 0, 0, 0, 0, 3, 3, 3, 0, 3, 3, 3, 0, 0, 0, 0, 3, 0, 0, 0, 0, 0, 0, 3, 0, 3, 0, 3, 3, 0, 0, 3, 0, 3, 0, 0, 0, 0, 0, 0, 3, 0, 0, 3, 0, 3, 0, 0, 3, 0, 0, 3, 3, 3, 0, 3, 0, 3, 0, 0, 0, 0, 0, 0, 0, 3, 3, 0, 0, 0, 0, 3, 0, 0, 0, 3, 0, 0, 3, 0, 0, 0, 0, 0, 0, 0, 0, 0, 0, 0, 0, 0, 0, 0, 0, 0, 3, 3, 0, 3, 0, 0, 0, 0, 3, 0, 3, 3, 0, 0, 0, 0, 0, 3, 3, 0, 0, 3, 0, 0, 3, 0, 3, 3, 0, 0, 3, 3, 0, 0, 0, 3, 0, 3, 0, 0, 0, 0, 3, 3, 0, 0, 3, 0, 0, 0, 3, 0, 0, 3, 3, 3, 0, 3, 3, 0, 0, 3, 0, 0, 3, 3, 0, 3, 0, 3, 0, 3, 0, 0, 0, 0, 0, 0, 0, 0, 3, 0, 0, 0, 0, 0, 3, 0, 3, 3, 0, 0, 0, 3]⟩
def row36 : Rw := ⟨397, 23, 12, 362, [0, 1, 8, 27, 64, 125, 216, 343, 115, 332, 206, 140, 140, 212, 362, 199, 126, 149, 274, 110, 60, 130, 326, 257, 326, 142, 108, 230, 117, 172, 4, 16, 214, 207, 1, 396, 207, 234, 86, 166, 83, 240, 246, 107, 226, 212, 71, 206, 226, 137, 342, 53, 70, 2, 252, 32, 142, 191, 185, 130, 32, 294, 128, 334, 124, 298, 68, 234, 8, 190, 389, 214, 68, 354, 284, 261, 291, 380, 137, 362, 267, 255, 332, 107, 380, 363, 62, 277, 220, 294, 108, 65, 171, 35, 60, 252, 220, 367, 302, 31, 354, 86, 27, 183, 163, 370, 16, 298, 31, 15, 256, 363, 342, 199, 337, 365, 289, 115, 246, 291, 256, 147, 367, 128, 230, 282, 290, 260, 198, 110, 2, 277, 147, 15, 284, 166, 64, 381, 329, 311, 333, 4, 124, 302, 147, 62, 53, 126, 287, 145, 103, 167, 343, 240, 261, 15, 302, 334, 117, 54, 151, 17, 55, 271, 274, 70, 62, 256, 261, 83, 125, 393, 99, 43, 231, 272, 172, 334, 367, 277, 70, 149, 123, 395, 177, 269, 280, 216, 83, 284, 31, 124, 172, 181, 157, 106, 34, 344, 248, 149, 53, 363, 291, 240, 216, 225, 273, 366, 113, 314, 181, 117, 128, 220, 2, 274, 248, 327, 120, 30, 63, 225, 125, 166, 354, 298, 4, 272, 314, 136, 141, 335, 327, 123, 126, 342, 380, 246, 343, 280, 63, 95, 382, 136, 157, 54, 230, 294, 252, 110, 271, 344, 335, 250, 95, 273, 393, 64, 86, 68, 16, 333, 231, 113, 382, 250, 120, 395, 287, 199, 137, 107, 115, 167, 269, 30, 250, 141, 106, 151, 282, 108, 32, 60, 198, 55, 34, 141, 382, 366, 99, 381, 27, 234, 214, 370, 311, 43, 366, 95, 30, 177, 145, 337, 362, 226, 332, 289, 103, 177, 120, 335, 34, 17, 290, 65, 142, 130, 35, 260, 17, 106, 136, 113, 43, 329, 183, 8, 207, 389, 163, 329, 99, 273, 63, 269, 103, 365, 267, 212, 206, 255, 365, 145, 395, 327, 344, 55, 260, 171, 191, 326, 185, 171, 290, 151, 157, 314, 231, 311, 163, 190, 1, 396, 190, 183, 381, 393, 225, 280, 167, 289, 255, 71, 140, 71, 267, 337, 287, 123, 248, 271, 198, 35, 185, 257, 257, 191, 65, 282, 54, 181, 272, 333, 370, 389, 396], [1, 3, 3, 0, 3, 0, 0, 0, 3, 0, 0, 0, 0, 0, 0, 3, 3, 3, 0, 0, 0, 0, 0, 0, 0, 0, 0, 3, 0, 0, 3, 3, 3, 0, 3, 3, 0, 0, 0, 0, 0, 0, 0, 3, 0, 0, 0, 0, 0, 0, 0, 0, 0, 3, 3, 3, 0, 0, 0, 0, 3, 0, 3, 3, 3, 3, 0, 0, 3, 0, 3, 3, 0, 0, 0, 0, 0, 0, 0, 0, 0, 0, 0, 3, 0, 0, 3, 0, 0, 0, 0, 0, 0, 0, 0, 3, 0, 0, 0, 3, 0, 0, 0, 3, 0, 0, 3, 3, 3, 0, 3, 0, 0, 3, 0, 3, 0, 3, 0, 0, 3, 0, 0, 3, 3, 3, 3, 0, 3, 0, 3, 0, 0, 0, 0, 0, 3, 3, 0, 0, 3, 3, 3, 0, 0, 3, 0, 3, 0, 3, 0, 3, 0, 0, 0, 0, 0, 3, 0, 0, 0, 0, 0, 3, 0, 0, 3, 3, 0, 0, 0, 3, 3, 0, 0, 0, 0, 3, 0, 0, 0, 3, 0, 3, 0, 3, 0, 0, 0, 0, 3, 3, 0, 0, 0, 0, 0, 0, 3, 3, 0, 0, 0, 0, 0, 0, 3, 3, 0, 0, 0, 0, 3, 0, 3, 0, 3, 0, 0, 0, 3, 0, 0, 0, 0, 3, 3, 0, 0, 0, 3, 3, 0, 0, 3, 0, 0, 0, 0, 0, 3, 0, 0, 0, 0, 0, 3, 0, 3, 0, 3, 0, 3, 0, 0, 3, 3, 3, 0, 0, 3, 3, 0, 0, 0, 0, 0, 3, 0, 3, 0, 3, 3, 3, 3, 0, 0, 3, 0, 0, 3, 0, 3, 0, 3, 0, 0, 3, 0, 3, 3, 3, 0, 0, 3, 0, 0, 0, 3, 0, 0, 0, 3, 0, 0, 0, 0, 0, 0, 0, 0, 3, 0, 0, 3, 0, 0, 0, 0, 0, 0, 0, 0, 0, 0, 0, 3, 3, 0, 3, 0, 0, 3, 3, 3, 3, 0, 3, 0, 0, 0, 0, 3, 3, 3, 0, 0, 0, 0, 0, 0, 0, 0, 0, 3, 0, 0, 0, 0, 0, 0, 0, 3, 3, 0, 3, 3, 3, 0, 0, 3, 0, 0, 0, 0, 0, 0, 0, 0, 0, 3, 3, 3, 0, 0, 0, 0, 0, 0, 3, 0, 0, 0, 3, 0, 3, 3]⟩
def rows : List Rw := [row0, row1, row2, row3, row4, row5, row6, row7, row8, row9, row10, row11, row12, row13, row14, row15, row16, row17, row18, row19, row20, row21, row22, row23, row24, row25, row26, row27, row28, row29, row30, row31, row32, row33, row34, row35, row36]
def isNone (o : Option PyData) : Bool := match o with
  | some .none => true
  | _ => false
def isInt (o : Option PyData) : Bool := match o with
  | some (.int _) => true
  | _ => false
/-- the cubes and how often -/
def chkA (x : Rw) : Bool := natsEq (cubL x.p) x.cub && (natsEq ((List.range x.p).map fun v => (x.cub.filter fun y => Nat.beq y v).length) x.w && (x.cub.drop 1).all fun y => Nat.blt 0 y)
/-- the primary prime, bounds -/
def chkB (x : Rw) : Bool := isTI (F_primary_prime [.int (x.p : Nat)]) [x.a, x.b] && (decide (x.a * x.a - x.a * x.b + x.b * x.b = (x.p : Int)) && (decide ((x.a + x.b * (x.r : Nat)) % (x.p : Int) = 0) && (decide (((x.r : Nat) * (x.r : Nat) + (x.r : Nat) + 1 : Int) % (x.p : Int) = 0) && (Nat.blt x.a.natAbs 32 && (Nat.blt x.b.natAbs 32 && (Nat.blt (x.r + 1) x.p && (Nat.blt 1 x.r && (decide (x.a % 3 = 2) && decide (x.b % 3 = 0)))))))))
def ee (x : Rw) : Nat := (x.p - 1) / 3
def r' (x : Rw) : Nat := x.p - 1 - x.r
def sg (x : Rw) : Nat → Nat := sN x.p x.r (ee x)
def sg' (x : Rw) : Nat → Nat := sN x.p (r' x) (ee x)
/-- the signs -/
def chkC (x : Rw) : Bool := (List.range (x.p - 1)).all fun k => okN x.p x.r (ee x) (k + 1) && (okN x.p (r' x) (ee x) (k + 1) && (Nat.beq ((sg x (k + 1) + sg' x (k + 1)) % 3) 0 && (Nat.beq (sg x (k + 1)) 0 == Nat.blt 0 (x.w.getD (k + 1) 0))))
/-- the sums of signs -/
def chkD (x : Rw) : Bool := decide (csx x.p (sg x) (x.p - 2) = x.a) && (decide (csy x.p (sg x) (x.p - 2) = x.b) && (decide (csx x.p (sg' x) (x.p - 2) = x.a - x.b) && decide (csy x.p (sg' x) (x.p - 2) = 0 - x.b)))
def manyN (x : Rw) : Nat := ((List.range x.p).map fun v => x.w.getD v 0 * x.w.getD ((x.p + 1 - v) % x.p) 0).sum
/-- the points -/
def chkE (x : Rw) : Bool := decide ((manyN x : Int) = (x.p : Int) - 2 + (2 * x.a - x.b)) && (decide ((2 * x.a - x.b) * (2 * x.a - x.b) + 27 * (x.b / 3) * (x.b / 3) = 4 * (x.p : Int)) && decide ((2 * x.a - x.b) % 3 = 1))
theorem A0 : chkA row0 = true := by decide +kernel
theorem A1 : chkA row1 = true := by decide +kernel
theorem A2 : chkA row2 = true := by decide +kernel
theorem A3 : chkA row3 = true := by decide +kernel
theorem A4 : chkA row4 = true := by decide +kernel
theorem A5 : chkA row5 = true := by decide +kernel
theorem A6 : chkA row6 = true := by decide +kernel
theorem A7 : chkA row7 = true := by decide +kernel
theorem A8 : chkA row8 = true := by decide +kernel
theorem A9 : chkA row9 = true := by decide +kernel
theorem A10 : chkA row10 = true := by decide +kernel
theorem A11 : chkA row11 = true := by decide +kernel
theorem A12 : chkA row12 = true := by decide +kernel
theorem A13 : chkA row13 = true := by decide +kernel
theorem A14 : chkA row14 = true := by decide +kernel
theorem A15 : chkA row15 = true := by decide +kernel
theorem A16 : chkA row16 = true := by decide +kernel
theorem A17 : chkA row17 = true := by decide +kernel
theorem A18 : chkA row18 = true := by decide +kernel
theorem A19 : chkA row19 = true := by decide +kernel
theorem A20 : chkA row20 = true := by decide +kernel
theorem A21 : chkA row21 = true := by decide +kernel
theorem A22 : chkA row22 = true := by decide +kernel
theorem A23 : chkA row23 = true := by decide +kernel
theorem A24 : chkA row24 = true := by decide +kernel
theorem A25 : chkA row25 = true := by decide +kernel
theorem A26 : chkA row26 = true := by decide +kernel
theorem A27 : chkA row27 = true := by decide +kernel
theorem A28 : chkA row28 = true := by decide +kernel
theorem A29 : chkA row29 = true := by decide +kernel
theorem A30 : chkA row30 = true := by decide +kernel
theorem A31 : chkA row31 = true := by decide +kernel
theorem A32 : chkA row32 = true := by decide +kernel
theorem A33 : chkA row33 = true := by decide +kernel
theorem A34 : chkA row34 = true := by decide +kernel
theorem A35 : chkA row35 = true := by decide +kernel
theorem A36 : chkA row36 = true := by decide +kernel
theorem allA : rows.all chkA = true := by simp only [rows, List.all_cons, List.all_nil, A0, A1, A2, A3, A4, A5, A6, A7, A8, A9, A10, A11, A12, A13, A14, A15, A16, A17, A18, A19, A20, A21, A22, A23, A24, A25, A26, A27, A28, A29, A30, A31, A32, A33, A34, A35, A36, Bool.and_self]
theorem B0 : chkB row0 = true := by decide +kernel
theorem B1 : chkB row1 = true := by decide +kernel
theorem B2 : chkB row2 = true := by decide +kernel
theorem B3 : chkB row3 = true := by decide +kernel
theorem B4 : chkB row4 = true := by decide +kernel
theorem B5 : chkB row5 = true := by decide +kernel
theorem B6 : chkB row6 = true := by decide +kernel
theorem B7 : chkB row7 = true := by decide +kernel
theorem B8 : chkB row8 = true := by decide +kernel
theorem B9 : chkB row9 = true := by decide +kernel
theorem B10 : chkB row10 = true := by decide +kernel
theorem B11 : chkB row11 = true := by decide +kernel
theorem B12 : chkB row12 = true := by decide +kernel
theorem B13 : chkB row13 = true := by decide +kernel
theorem B14 : chkB row14 = true := by decide +kernel
theorem B15 : chkB row15 = true := by decide +kernel
theorem B16 : chkB row16 = true := by decide +kernel
theorem B17 : chkB row17 = true := by decide +kernel
theorem B18 : chkB row18 = true := by decide +kernel
theorem B19 : chkB row19 = true := by decide +kernel
theorem B20 : chkB row20 = true := by decide +kernel
theorem B21 : chkB row21 = true := by decide +kernel
theorem B22 : chkB row22 = true := by decide +kernel
theorem B23 : chkB row23 = true := by decide +kernel
theorem B24 : chkB row24 = true := by decide +kernel
theorem B25 : chkB row25 = true := by decide +kernel
theorem B26 : chkB row26 = true := by decide +kernel
theorem B27 : chkB row27 = true := by decide +kernel
theorem B28 : chkB row28 = true := by decide +kernel
theorem B29 : chkB row29 = true := by decide +kernel
theorem B30 : chkB row30 = true := by decide +kernel
theorem B31 : chkB row31 = true := by decide +kernel
theorem B32 : chkB row32 = true := by decide +kernel
theorem B33 : chkB row33 = true := by decide +kernel
theorem B34 : chkB row34 = true := by decide +kernel
theorem B35 : chkB row35 = true := by decide +kernel
theorem B36 : chkB row36 = true := by decide +kernel
theorem allB : rows.all chkB = true := by simp only [rows, List.all_cons, List.all_nil, B0, B1, B2, B3, B4, B5, B6, B7, B8, B9, B10, B11, B12, B13, B14, B15, B16, B17, B18, B19, B20, B21, B22, B23, B24, B25, B26, B27, B28, B29, B30, B31, B32, B33, B34, B35, B36, Bool.and_self]
theorem C0 : chkC row0 = true := by decide +kernel
theorem C1 : chkC row1 = true := by decide +kernel
theorem C2 : chkC row2 = true := by decide +kernel
theorem C3 : chkC row3 = true := by decide +kernel
theorem C4 : chkC row4 = true := by decide +kernel
theorem C5 : chkC row5 = true := by decide +kernel
theorem C6 : chkC row6 = true := by decide +kernel
theorem C7 : chkC row7 = true := by decide +kernel
theorem C8 : chkC row8 = true := by decide +kernel
theorem C9 : chkC row9 = true := by decide +kernel
theorem C10 : chkC row10 = true := by decide +kernel
theorem C11 : chkC row11 = true := by decide +kernel
theorem C12 : chkC row12 = true := by decide +kernel
theorem C13 : chkC row13 = true := by decide +kernel
theorem C14 : chkC row14 = true := by decide +kernel
theorem C15 : chkC row15 = true := by decide +kernel
theorem C16 : chkC row16 = true := by decide +kernel
theorem C17 : chkC row17 = true := by decide +kernel
theorem C18 : chkC row18 = true := by decide +kernel
theorem C19 : chkC row19 = true := by decide +kernel
theorem C20 : chkC row20 = true := by decide +kernel
theorem C21 : chkC row21 = true := by decide +kernel
theorem C22 : chkC row22 = true := by decide +kernel
theorem C23 : chkC row23 = true := by decide +kernel
theorem C24 : chkC row24 = true := by decide +kernel
theorem C25 : chkC row25 = true := by decide +kernel
theorem C26 : chkC row26 = true := by decide +kernel
theorem C27 : chkC row27 = true := by decide +kernel
theorem C28 : chkC row28 = true := by decide +kernel
theorem C29 : chkC row29 = true := by decide +kernel
theorem C30 : chkC row30 = true := by decide +kernel
theorem C31 : chkC row31 = true := by decide +kernel
theorem C32 : chkC row32 = true := by decide +kernel
theorem C33 : chkC row33 = true := by decide +kernel
theorem C34 : chkC row34 = true := by decide +kernel
theorem C35 : chkC row35 = true := by decide +kernel
theorem C36 : chkC row36 = true := by decide +kernel
theorem allC : rows.all chkC = true := by simp only [rows, List.all_cons, List.all_nil, C0, C1, C2, C3, C4, C5, C6, C7, C8, C9, C10, C11, C12, C13, C14, C15, C16, C17, C18, C19, C20, C21, C22, C23, C24, C25, C26, C27, C28, C29, C30, C31, C32, C33, C34, C35, C36, Bool.and_self]
theorem D0 : chkD row0 = true := by decide +kernel
theorem D1 : chkD row1 = true := by decide +kernel
theorem D2 : chkD row2 = true := by decide +kernel
theorem D3 : chkD row3 = true := by decide +kernel
theorem D4 : chkD row4 = true := by decide +kernel
theorem D5 : chkD row5 = true := by decide +kernel
theorem D6 : chkD row6 = true := by decide +kernel
theorem D7 : chkD row7 = true := by decide +kernel
theorem D8 : chkD row8 = true := by decide +kernel
theorem D9 : chkD row9 = true := by decide +kernel
theorem D10 : chkD row10 = true := by decide +kernel
theorem D11 : chkD row11 = true := by decide +kernel
theorem D12 : chkD row12 = true := by decide +kernel
theorem D13 : chkD row13 = true := by decide +kernel
theorem D14 : chkD row14 = true := by decide +kernel
theorem D15 : chkD row15 = true := by decide +kernel
theorem D16 : chkD row16 = true := by decide +kernel
theorem D17 : chkD row17 = true := by decide +kernel
theorem D18 : chkD row18 = true := by decide +kernel
theorem D19 : chkD row19 = true := by decide +kernel
theorem D20 : chkD row20 = true := by decide +kernel
theorem D21 : chkD row21 = true := by decide +kernel
theorem D22 : chkD row22 = true := by decide +kernel
theorem D23 : chkD row23 = true := by decide +kernel
theorem D24 : chkD row24 = true := by decide +kernel
theorem D25 : chkD row25 = true := by decide +kernel
theorem D26 : chkD row26 = true := by decide +kernel
theorem D27 : chkD row27 = true := by decide +kernel
theorem D28 : chkD row28 = true := by decide +kernel
theorem D29 : chkD row29 = true := by decide +kernel
theorem D30 : chkD row30 = true := by decide +kernel
theorem D31 : chkD row31 = true := by decide +kernel
theorem D32 : chkD row32 = true := by decide +kernel
theorem D33 : chkD row33 = true := by decide +kernel
theorem D34 : chkD row34 = true := by decide +kernel
theorem D35 : chkD row35 = true := by decide +kernel
theorem D36 : chkD row36 = true := by decide +kernel
theorem allD : rows.all chkD = true := by simp only [rows, List.all_cons, List.all_nil, D0, D1, D2, D3, D4, D5, D6, D7, D8, D9, D10, D11, D12, D13, D14, D15, D16, D17, D18, D19, D20, D21, D22, D23, D24, D25, D26, D27, D28, D29, D30, D31, D32, D33, D34, D35, D36, Bool.and_self]
theorem E0 : chkE row0 = true := by decide +kernel
theorem E1 : chkE row1 = true := by decide +kernel
theorem E2 : chkE row2 = true := by decide +kernel
theorem E3 : chkE row3 = true := by decide +kernel
theorem E4 : chkE row4 = true := by decide +kernel
theorem E5 : chkE row5 = true := by decide +kernel
theorem E6 : chkE row6 = true := by decide +kernel
theorem E7 : chkE row7 = true := by decide +kernel
theorem E8 : chkE row8 = true := by decide +kernel
theorem E9 : chkE row9 = true := by decide +kernel
theorem E10 : chkE row10 = true := by decide +kernel
theorem E11 : chkE row11 = true := by decide +kernel
theorem E12 : chkE row12 = true := by decide +kernel
theorem E13 : chkE row13 = true := by decide +kernel
theorem E14 : chkE row14 = true := by decide +kernel
theorem E15 : chkE row15 = true := by decide +kernel
theorem E16 : chkE row16 = true := by decide +kernel
theorem E17 : chkE row17 = true := by decide +kernel
theorem E18 : chkE row18 = true := by decide +kernel
theorem E19 : chkE row19 = true := by decide +kernel
theorem E20 : chkE row20 = true := by decide +kernel
theorem E21 : chkE row21 = true := by decide +kernel
theorem E22 : chkE row22 = true := by decide +kernel
theorem E23 : chkE row23 = true := by decide +kernel
theorem E24 : chkE row24 = true := by decide +kernel
theorem E25 : chkE row25 = true := by decide +kernel
theorem E26 : chkE row26 = true := by decide +kernel
theorem E27 : chkE row27 = true := by decide +kernel
theorem E28 : chkE row28 = true := by decide +kernel
theorem E29 : chkE row29 = true := by decide +kernel
theorem E30 : chkE row30 = true := by decide +kernel
theorem E31 : chkE row31 = true := by decide +kernel
theorem E32 : chkE row32 = true := by decide +kernel
theorem E33 : chkE row33 = true := by decide +kernel
theorem E34 : chkE row34 = true := by decide +kernel
theorem E35 : chkE row35 = true := by decide +kernel
theorem E36 : chkE row36 = true := by decide +kernel
theorem allE : rows.all chkE = true := by simp only [rows, List.all_cons, List.all_nil, E0, E1, E2, E3, E4, E5, E6, E7, E8, E9, E10, E11, E12, E13, E14, E15, E16, E17, E18, E19, E20, E21, E22, E23, E24, E25, E26, E27, E28, E29, E30, E31, E32, E33, E34, E35, E36, Bool.and_self]
end K70
namespace K70
open PySem PySem.Spec PyProof.Rows L2 Fe
/-- what is known of a row -/
structure Ok (x : Rw) : Prop where
  p7 : 7 ≤ x.p
  p400 : x.p ≤ 400
  prime : F_primary_prime [.int (x.p : Nat)] = some (T2 x.a x.b)
  m : Ei.M (x.p : Int) x.a x.b (x.r : Nat)
  m' : Ei.M (x.p : Int) (x.a - x.b) (0 - x.b) (r' x : Nat)
  ha : Bd 6 x.a
  hb : Bd 6 x.b
  ha' : Bd 6 (x.a - x.b)
  hb' : Bd 6 (0 - x.b)
  s : ∀ t, 0 < t → t < x.p → F_cube_sign [T2 (t : Nat) 0, T2 x.a x.b] = some (.int (sg x t : Nat))
  s' : ∀ t, 0 < t → t < x.p → F_cube_sign [T2 (t : Nat) 0, T2 (x.a - x.b) (0 - x.b)] = some (.int (sg' x t : Nat))
  sum : F_cube_sum [T2 x.a x.b] = some (T2 x.a x.b)
  sum' : F_cube_sum [T2 (x.a - x.b) (0 - x.b)] = some (T2 (x.a - x.b) (0 - x.b))
  cn : ∀ v, v < x.p → cnt x.p x.p v = x.w.getD v 0
  ne : ∀ t : Nat, 0 < t → t < x.p → t * t * t % x.p ≠ 0
  s3 : ∀ t, 0 < t → t < x.p → (sg x t + sg' x t) % 3 = 0
  s0 : ∀ t, 0 < t → t < x.p → (sg x t = 0 ↔ 0 < cnt x.p x.p t)
  pr : x.a % 3 = 2 ∧ x.b % 3 = 0
  many : (manyN x : Int) = (x.p : Int) - 2 + (2 * x.a - x.b)
  tr : (2 * x.a - x.b) * (2 * x.a - x.b) + 27 * (x.b / 3) * (x.b / 3) = 4 * (x.p : Int)
  t3 : (2 * x.a - x.b) % 3 = 1
theorem rows_p : rows.map (fun x => (x.p : Int)) = P70 := by decide
theorem ok_of {x : Rw} (hx : x ∈ rows) : Ok x := by
  have cA := List.all_eq_true.mp allA x hx
  have cB := List.all_eq_true.mp allB x hx
  have cC := List.all_eq_true.mp allC x hx
  have cD := List.all_eq_true.mp allD x hx
  have cE := List.all_eq_true.mp allE x hx
  simp only [chkA, Bool.and_eq_true] at cA
  simp only [chkB, Bool.and_eq_true, decide_eq_true_eq] at cB
  simp only [chkD, Bool.and_eq_true, decide_eq_true_eq] at cD
  simp only [chkE, Bool.and_eq_true, decide_eq_true_eq] at cE
  obtain ⟨A1, A2, A3⟩ := cA
  obtain ⟨B1, B2, B3, B4, B5, B6, B7, B8, B9, B10⟩ := cB
  obtain ⟨D1, D2, D3, D4⟩ := cD
  obtain ⟨E1, E2, E3⟩ := cE
  have hpm : (x.p : Int) ∈ P70 := by
    rw [← rows_p]
    exact List.mem_map.mpr ⟨x, hx, rfl⟩
  have hpr : 7 ≤ (x.p : Int) ∧ (x.p : Int) ≤ 400 ∧ ((x.p : Int) - 1) % 3 = 0 := by
    have : ∀ z ∈ P70, 7 ≤ z ∧ z ≤ 400 ∧ (z - 1) % 3 = 0 := by decide
    exact this _ hpm
  have ha : x.a.natAbs < 32 := Nat.le_of_ble_eq_true B5
  have hb : x.b.natAbs < 32 := Nat.le_of_ble_eq_true B6
  have hr : x.r + 1 < x.p := Nat.le_of_ble_eq_true B7
  have hr1 : 1 < x.r := Nat.le_of_ble_eq_true B8
  have B6a : Bd 6 x.a := by show _ < 64; omega
  have B6b : Bd 6 x.b := by show _ < 64; omega
  have B6c : Bd 6 (x.a - x.b) := by show _ < 64; omega
  have B6d : Bd 6 (0 - x.b) := by show _ < 64; omega
  have m : Ei.M (x.p : Int) x.a x.b (x.r : Nat) := ⟨by omega, B2, dvd_iff.mpr B3, dvd_iff.mpr B4⟩
  have m' : Ei.M (x.p : Int) (x.a - x.b) (0 - x.b) (r' x : Nat) := by
    obtain ⟨u, hu⟩ := m.h1
    obtain ⟨v, hv⟩ := m.h2
    have e : ((r' x : Nat) : Int) = (x.p : Int) - 1 - (x.r : Int) := by
      unfold r'
      omega
    refine ⟨m.hp, by grind, ⟨u - x.b, ?_⟩, ⟨(x.p : Int) - 1 - 2 * (x.r : Int) + v, ?_⟩⟩
    · rw [e]
      grind
    · rw [e]
      grind
  have he : ((x.p : Int) - 1) / 3 = ((ee x : Nat) : Int) := by
    unfold ee
    omega
  have hec : ee x < 1048576 := by
    unfold ee
    omega
  have C := fun t (h0 : 0 < t) (h : t < x.p) => by
    have z := all_range (i := t - 1) cC (by omega)
    rw [show t - 1 + 1 = t by omega] at z
    simp only [Bool.and_eq_true] at z
    exact z
  have nz : ∀ t : Nat, 0 < t → t < x.p → ¬ (t : Int) % (x.p : Int) = 0 := fun t h0 h => by
    rw [Int.emod_eq_of_lt (by omega) (by omega)]
    omega
  have hs : ∀ t, 0 < t → t < x.p → F_cube_sign [T2 (t : Nat) 0, T2 x.a x.b] = some (.int (sg x t : Nat)) := fun t h0 h => by
    rw [F_sign m B6a B6b (t := (t : Int)) (Bd.of (c := 1000) (by omega) (by omega)) hec he (nz t h0 h), sgv_N (by omega) hr (C t h0 h).1]
    rfl
  have hs' : ∀ t, 0 < t → t < x.p → F_cube_sign [T2 (t : Nat) 0, T2 (x.a - x.b) (0 - x.b)] = some (.int (sg' x t : Nat)) := fun t h0 h => by
    rw [F_sign m' B6c B6d (t := (t : Int)) (Bd.of (c := 1000) (by omega) (by omega)) hec he (nz t h0 h), sgv_N (by omega) (by unfold r'; omega) (C t h0 h).2.1]
    rfl
  have hw := natsEq_ok A1
  have cn : ∀ v, v < x.p → cnt x.p x.p v = x.w.getD v 0 := fun v hv => by
    rw [cnt_cub, hw, ← natsEq_ok A2, List.getD_eq_getElem?_getD, List.getElem?_map, List.getElem?_range hv]
    rfl
  refine ⟨by omega, by omega, isTI_ok B1, m, m', B6a, B6b, B6c, B6d, hs, hs', ?_, ?_, cn, ?_, ?_, ?_, ⟨B9, B10⟩, E1, E2, E3⟩
  · rw [F_sum m B6a B6b (by omega) (by omega) hs, D1, D2]
  · rw [F_sum m' B6c B6d (by omega) (by omega) hs', D3, D4]
  · intro t h0 h e
    have hm : t * t * t % x.p ∈ x.cub.drop 1 := by
      rw [← hw]
      refine List.mem_of_getElem? (i := t - 1) ?_
      unfold cubL
      rw [List.getElem?_drop, show 1 + (t - 1) = t by omega, List.getElem?_map, List.getElem?_range h]
      rfl
    have := List.all_eq_true.mp A3 _ hm
    rw [e] at this
    cases this
  · exact fun t h0 h => Nat.eq_of_beq_eq_true (C t h0 h).2.2.1
  · intro t h0 h
    have z := (C t h0 h).2.2.2
    rw [cn t h]
    have z := eq_of_beq z
    constructor
    · intro e
      rw [e, Nat.beq_refl] at z
      exact Nat.le_of_ble_eq_true z.symm
    · intro e
      rw [show Nat.blt 0 (x.w.getD t 0) = true from ble_of e] at z
      exact Nat.eq_of_beq_eq_true z
end K70
namespace K70
open PySem PySem.Spec PyProof.Rows L2 Fe
def nnD : PyData → Bool
  | .none => false
  | _ => true
theorem oNotN_eq (d : PyData) : oNotN d = some (.bool (nnD d)) := by
  cases d <;> rfl
def nnO (o : Option PyData) : Bool := match o with
  | some d => nnD d
  | none => false
def flt (p : Nat) (M : Int) : List Int := (irg 1 (p - 1)).filter fun y => decide (M * y * y < 4 * (p : Int))
def fwB (p : Nat) (M : Int) : Bool := ((flt p M).map fun y => nnO (F_law_root [.int (4 * (p : Int) - M * y * y)])).any id
theorem F_four_way {p : Nat} (h2 : 2 ≤ p) (h : p ≤ 400) {M : Int} (hM : Bd 10 M) (hs : ((flt p M).all fun y => (F_law_root [.int (4 * (p : Int) - M * y * y)]).isSome) = true) : F_law_four_way [.int (p : Nat), .int M] = some (.bool (fwB p M)) := by
  have hz := rngL_ble (lo := 1) (n := p - 1) (by omega)
  have hb : inB (p : Int) = true := inB_of (by omega) (by omega)
  have hb1 : inB 1 = true := by decide
  have hn : ((p : Int) - 1).toNat = p - 1 := by omega
  have m4 : mulOk 4 (p : Int) = true := Bd.mulOk (k := 4) (l := 20) (show Bd 4 4 by decide) (Bd.of (c := 1000) (by omega) (by omega))
  have hc := cl_gen PyData.int (vs := [2]) (g := gNm 2) (c := c_law_four_way_0) (e := e_law_four_way_1) (ρ := [.v (.int (p : Nat)), .v (.int M), .un]) (fun y => decide (M * y * y < 4 * (p : Int))) (fun y => .bool (nnO (F_law_root [.int (4 * (p : Int) - M * y * y)]))) (irg 1 (p - 1)) (fun d hd => by
    have hd0 := hd
    obtain ⟨k, hk, rfl⟩ := mem_irg hd
    have hy : Bd 20 (1 + (k : Int)) := Bd.of (c := 1000) (by omega) (by omega)
    have m1 := hM.mulOk hy
    have m2 := (hM.mul hy).mulOk hy
    refine ⟨[.v (.int (p : Nat)), .v (.int M), .v (.int (1 + (k : Int)))], [.v (.int (p : Nat)), .v (.int M), .v (.int (1 + (k : Int)))], rfl, ?_, fun hp => ⟨[.v (.int (p : Nat)), .v (.int M), .v (.int (1 + (k : Int)))], ?_, rfl⟩, fun _ => rfl⟩
    · simp only [c_law_four_way_0, fC, fVar, rdS, Rf.get, fRd, bnd, Fe.ret, fOp, fUn, fTst, fNot, fAnd, fOr, fIf, fBool, fNil, fCons, fTup, fLst, fAsL, fVal, fAndV, fOrV, fNotV, oI, oIc, oNeg, oIsN, oNotN, oIx, fIx, fR1, fR1L, oLen, oList, oTuple, oInt, oAbs, fRep, fCat, sNil, sThen, sSeq, sSet, sOwn, sRet, sRetN, sDrop, sIf, sTg, gNm, gNil', gCons', gTp, sFor, frzS, fSeq, fRng1, fRng2, fEnum, fZip, fComp, fYes, sApp, sExt, sIx, fPop, fPopAt, sPar, fCall, fCallS, oEq_int, oNe_int, List.getElem?_cons_zero, List.getElem?_cons_succ, List.set_cons_zero, List.set_cons_succ, oAdd, oSub, oMul, oDiv, oMod, oLt, oLe, oGt, oGe, oMin, oMax, oPow, decide_eq_true_eq, if_true, if_false, Bool.false_eq_true, Bool.not_true, Bool.not_false, decide_true, decide_false, List.length_cons, List.length_nil, List.length_map, Bool.and_self, fOpR, fChain, oCatT, fStar, fSlL, fSlT, fRev, oNn, oSm, oIsB, oNotB, sParO1, sParO2, sParO3, fRng3, Nat.reduceAdd, Nat.reduceBEq, bleN0, bleN1, bleN2, bleN3, bleN4, bleN5, bleN6, bleN7, bleN8, Int.reduceAdd, Int.reduceMul, Int.reduceSub, Int.reduceToNat, Nat.reduceMul, m1, m2, m4]
    · have z := List.all_eq_true.mp hs _ (List.mem_filter.mpr ⟨hd0, hp⟩)
      obtain ⟨v, hv⟩ := Option.isSome_iff_exists.mp z
      simp only [e_law_four_way_1, fC, fVar, rdS, Rf.get, fRd, bnd, Fe.ret, fOp, fUn, fTst, fNot, fAnd, fOr, fIf, fBool, fNil, fCons, fTup, fLst, fAsL, fVal, fAndV, fOrV, fNotV, oI, oIc, oNeg, oIsN, oIx, fIx, fR1, fR1L, oLen, oList, oTuple, oInt, oAbs, fRep, fCat, sNil, sThen, sSeq, sSet, sOwn, sRet, sRetN, sDrop, sIf, sTg, gNm, gNil', gCons', gTp, sFor, frzS, fSeq, fRng1, fRng2, fEnum, fZip, fComp, fYes, sApp, sExt, sIx, fPop, fPopAt, sPar, fCall, fCallS, oEq_int, oNe_int, List.getElem?_cons_zero, List.getElem?_cons_succ, List.set_cons_zero, List.set_cons_succ, oAdd, oSub, oMul, oDiv, oMod, oLt, oLe, oGt, oGe, oMin, oMax, oPow, decide_eq_true_eq, if_true, if_false, Bool.false_eq_true, Bool.not_true, Bool.not_false, decide_true, decide_false, List.length_cons, List.length_nil, List.length_map, Bool.and_self, fOpR, fChain, oCatT, fStar, fSlL, fSlT, fRev, oNn, oSm, oIsB, oNotB, sParO1, sParO2, sParO3, fRng3, Nat.reduceAdd, Nat.reduceBEq, bleN0, bleN1, bleN2, bleN3, bleN4, bleN5, bleN6, bleN7, bleN8, Int.reduceAdd, Int.reduceMul, Int.reduceSub, Int.reduceToNat, Nat.reduceMul, m1, m2, m4, hv, oNotN_eq, nnO]) _ rfl
  rw [← rngL_eq] at hc
  have hmm : ((irg 1 (p - 1)).filter fun y => decide (M * y * y < 4 * (p : Int))).map (fun y => PyData.bool (nnO (F_law_root [.int (4 * (p : Int) - M * y * y)]))) = ((flt p M).map fun y => nnO (F_law_root [.int (4 * (p : Int) - M * y * y)])).map .bool := by
    rw [List.map_map]
    rfl
  rw [hmm] at hc
  refine runF_rt (ρ := [.v (.int (p : Nat)), .v (.int M), .un]) ?_
  show b_law_four_way [.v (.int (p : Nat)), .v (.int M), .un] = _
  simp only [b_law_four_way, fC, fVar, rdS, Rf.get, fRd, bnd, Fe.ret, fOp, fUn, fTst, fNot, fAnd, fOr, fIf, fBool, fNil, fCons, fTup, fLst, fAsL, fVal, fAndV, fOrV, fNotV, oI, oIc, oNeg, oIsN, oNotN, oIx, fIx, fR1, fR1L, oLen, oList, oTuple, oInt, oAbs, fRep, fCat, sNil, sThen, sSeq, sSet, sOwn, sRet, sRetN, sDrop, sIf, sTg, gNm, gNil', gCons', gTp, sFor, frzS, fSeq, fRng1, fRng2, fEnum, fZip, fComp, fYes, sApp, sExt, sIx, fPop, fPopAt, sPar, fCall, fCallS, oEq_int, oNe_int, List.getElem?_cons_zero, List.getElem?_cons_succ, List.set_cons_zero, List.set_cons_succ, oAdd, oSub, oMul, oDiv, oMod, oLt, oLe, oGt, oGe, oMin, oMax, oPow, decide_eq_true_eq, if_true, if_false, Bool.false_eq_true, Bool.not_true, Bool.not_false, decide_true, decide_false, List.length_cons, List.length_nil, List.length_map, Bool.and_self, fOpR, fChain, oCatT, fStar, fSlL, fSlT, fRev, oNn, oSm, oIsB, oNotB, sParO1, sParO2, sParO3, fRng3, Nat.reduceAdd, Nat.reduceBEq, bleN0, bleN1, bleN2, bleN3, bleN4, bleN5, bleN6, bleN7, bleN8, Int.reduceAdd, Int.reduceMul, Int.reduceSub, Int.reduceToNat, Nat.reduceMul, hb1, hb, hn, hz, hc, wipeE, oAny, boolsD_map]
  rfl
def chkF (x : Rw) : Bool := ((flt x.p 243).all fun y => (F_law_root [.int (4 * (x.p : Int) - 243 * y * y)]).isSome) && (((flt x.p 108).all fun y => (F_law_root [.int (4 * (x.p : Int) - 108 * y * y)]).isSome) && ((F_cube_way [.int (x.p : Nat)]).isSome && ((Nat.blt 0 (x.w.getD 3 0) == fwB x.p 243) && ((Nat.blt 0 (x.w.getD 2 0) == fwB x.p 108) && (Nat.blt 0 (x.w.getD 2 0) == nnO (F_cube_way [.int (x.p : Nat)]))))))
theorem F0 : chkF row0 = true := by decide +kernel
theorem F1 : chkF row1 = true := by decide +kernel
theorem F2 : chkF row2 = true := by decide +kernel
theorem F3 : chkF row3 = true := by decide +kernel
theorem F4 : chkF row4 = true := by decide +kernel
theorem F5 : chkF row5 = true := by decide +kernel
theorem F6 : chkF row6 = true := by decide +kernel
theorem F7 : chkF row7 = true := by decide +kernel
theorem F8 : chkF row8 = true := by decide +kernel
theorem F9 : chkF row9 = true := by decide +kernel
theorem F10 : chkF row10 = true := by decide +kernel
theorem F11 : chkF row11 = true := by decide +kernel
theorem F12 : chkF row12 = true := by decide +kernel
theorem F13 : chkF row13 = true := by decide +kernel
theorem F14 : chkF row14 = true := by decide +kernel
theorem F15 : chkF row15 = true := by decide +kernel
theorem F16 : chkF row16 = true := by decide +kernel
theorem F17 : chkF row17 = true := by decide +kernel
theorem F18 : chkF row18 = true := by decide +kernel
theorem F19 : chkF row19 = true := by decide +kernel
theorem F20 : chkF row20 = true := by decide +kernel
theorem F21 : chkF row21 = true := by decide +kernel
theorem F22 : chkF row22 = true := by decide +kernel
theorem F23 : chkF row23 = true := by decide +kernel
theorem F24 : chkF row24 = true := by decide +kernel
theorem F25 : chkF row25 = true := by decide +kernel
theorem F26 : chkF row26 = true := by decide +kernel
theorem F27 : chkF row27 = true := by decide +kernel
theorem F28 : chkF row28 = true := by decide +kernel
theorem F29 : chkF row29 = true := by decide +kernel
theorem F30 : chkF row30 = true := by decide +kernel
theorem F31 : chkF row31 = true := by decide +kernel
theorem F32 : chkF row32 = true := by decide +kernel
theorem F33 : chkF row33 = true := by decide +kernel
theorem F34 : chkF row34 = true := by decide +kernel
theorem F35 : chkF row35 = true := by decide +kernel
theorem F36 : chkF row36 = true := by decide +kernel
theorem allF : rows.all chkF = true := by simp only [rows, List.all_cons, List.all_nil, F0, F1, F2, F3, F4, F5, F6, F7, F8, F9, F10, F11, F12, F13, F14, F15, F16, F17, F18, F19, F20, F21, F22, F23, F24, F25, F26, F27, F28, F29, F30, F31, F32, F33, F34, F35, F36, Bool.and_self]
end K70
namespace K70
open PySem PySem.Spec PyProof.Rows L2 Fe
def firstL : SF := (sSet 3 (fCallS 1 F_law_prime (fCons (fC (.int 400)) (fCons (fC (.int 3)) fNil))))
def restL : SF := (sSeq (sSet 4 (fCall F_law_ways (fCons (fVar 3) (fCons (fC (.int 3)) fNil))))
    (sSeq (sSet 5 (fR1 oSum (fVal (fAsL (fComp [14] (fRng1 (fCons (fVar 3) fNil)) (gNm 14) fYes e_law_0)))))
    (sSeq (sSet 6 (fCall F_primary_prime (fCons (fVar 3) fNil)))
    (sSeq (sTg (fVar 6) (gTp 2 (gCons' (gNm 7) (gCons' (gNm 8) gNil'))))
    (sSeq (sIf (fOr (fTst (fOp oNe (fCall F_cube_norm (fCons (fVar 6) fNil)) (fVar 3))) (fOr (fTst (fOp oNotB (fCall F_is_primary (fCons (fVar 6) fNil)) (fC (.bool true)))) (fTst (fOp oNe (fCall F_cube_times (fCons (fVar 6) (fCons (fCall F_cube_conjugate (fCons (fVar 6) fNil)) fNil))) (fTup (fCons (fVar 3) (fCons (fC (.int 0)) fNil))))))) (sRet (fC (.bool false))) sNil)
    (sSeq (sPar 9 10 (fOp oSub (fOp oMul (fC (.int 2)) (fVar 7)) (fVar 8)) (fOp oDiv (fVar 8) (fC (.int 3))))
    (sSeq (sIf (fOr (fTst (fOp oNe (fVar 5) (fOp oAdd (fOp oSub (fVar 3) (fC (.int 2))) (fVar 9)))) (fOr (fTst (fOp oNe (fOp oAdd (fOp oMul (fVar 9) (fVar 9)) (fOp oMul (fOp oMul (fC (.int 27)) (fVar 10)) (fVar 10))) (fOp oMul (fC (.int 4)) (fVar 3)))) (fTst (fOp oNe (fOp oMod (fR1 oInt (fRd 9)) (fC (.int 3))) (fC (.int 1)))))) (sRet (fC (.bool false))) sNil)
    (sSeq (sIf (fOr (fTst (fOp oNe (fCall F_cube_sum (fCons (fVar 6) fNil)) (fVar 6))) (fTst (fOp oNe (fCall F_cube_sum (fCons (fCall F_cube_conjugate (fCons (fVar 6) fNil)) fNil)) (fCall F_cube_conjugate (fCons (fVar 6) fNil))))) (sRet (fC (.bool false))) sNil)
    (sSeq (sIf (fTst (fOp oNe (fAsL (fR1L oList (fVal (fCall F_cube_rests (fCons (fVar 3) fNil))))) (fAsL (fComp [14] (fRng2 (fCons (fC (.int 1)) (fCons (fVar 3) fNil))) (gNm 14) c_law_1 e_law_2)))) (sRet (fC (.bool false))) sNil)
    (sSeq (sFor (fRng1 (fCons (fC (.int 4)) fNil)) (gNm 11) b_law_3)
    (sSeq (sSet 12 (fOp oEq (fCall F_cube_sign (fCons (fTup (fCons (fC (.int 3)) (fCons (fC (.int 0)) fNil))) (fCons (fVar 6) fNil))) (fC (.int 0))))
    (sSeq (sIf (fOr (fTst (fOp oNe (fVar 12) (fOp oGt (fIx (fRd 4) (fC (.int 3))) (fC (.int 0))))) (fTst (fOp oNe (fVar 12) (fCall F_law_four_way (fCons (fVar 3) (fCons (fC (.int 243)) fNil)))))) (sRet (fC (.bool false))) sNil)
    (sSeq (sSet 13 (fCall F_is_two_cube (fCons (fVar 3) fNil)))
    (sIf (fOr (fTst (fOp oNe (fVar 13) (fOp oGt (fIx (fRd 4) (fC (.int 2))) (fC (.int 0))))) (fOr (fTst (fOp oNe (fVar 13) (fCall F_law_four_way (fCons (fVar 3) (fCons (fC (.int 108)) fNil))))) (fTst (fOp oNe (fVar 13) (fUn oNotN (fCall F_cube_way (fCons (fVar 3) fNil))))))) (sRet (fC (.bool false))) sNil))))))))))))))
theorem restL_eq : b_law_4 = sSeq firstL restL := rfl
theorem F_primary {a b : Int} (h1 : a % 3 = 2) (h2 : b % 3 = 0) : F_is_primary [T2 a b] = some (.bool true) := by
  have hm : modOk 3 = true := by decide
  refine runF_rt (ρ := [.v (T2 a b)]) ?_
  show b_is_primary [.v (T2 a b)] = _
  simp only [b_is_primary, fC, fVar, rdS, Rf.get, fRd, bnd, Fe.ret, fOp, fUn, fTst, fNot, fAnd, fOr, fIf, fBool, fNil, fCons, fTup, fLst, fAsL, fVal, fAndV, fOrV, fNotV, oI, oIc, oNeg, oIsN, oNotN, oIx, fIx, fR1, fR1L, oLen, oList, oTuple, oInt, oAbs, fRep, fCat, sNil, sThen, sSeq, sSet, sOwn, sRet, sRetN, sDrop, sIf, sTg, gNm, gNil', gCons', gTp, sFor, frzS, fSeq, fRng1, fRng2, fEnum, fZip, fComp, fYes, sApp, sExt, sIx, fPop, fPopAt, sPar, fCall, fCallS, oEq_int, oNe_int, List.getElem?_cons_zero, List.getElem?_cons_succ, List.set_cons_zero, List.set_cons_succ, oAdd, oSub, oMul, oDiv, oMod, oLt, oLe, oGt, oGe, oMin, oMax, oPow, decide_eq_true_eq, if_true, if_false, Bool.false_eq_true, Bool.not_true, Bool.not_false, decide_true, decide_false, List.length_cons, List.length_nil, List.length_map, Bool.and_self, fOpR, fChain, oCatT, fStar, fSlL, fSlT, fRev, oNn, oSm, oIsB, oNotB, sParO1, sParO2, sParO3, fRng3, Nat.reduceAdd, Nat.reduceBEq, bleN0, bleN1, bleN2, bleN3, bleN4, bleN5, bleN6, bleN7, bleN8, Int.reduceAdd, Int.reduceMul, Int.reduceSub, Int.reduceToNat, Nat.reduceMul, ix0, ix1, hm, h1, h2]
def manyI (p : Nat) : List Int := (irg 0 p).map fun t => iat (waysL p p) t.toNat * iat (waysL p p) ((p + 1 - t.toNat) % p)
theorem c_law_many {p : Nat} (h2 : 2 ≤ p) (h : p ≤ 400) {x0 x1 x2 x3 x4 x5 x6 x7 x8 x9 x10 x11 x12 x13 x14 x15 x16 : Sl} : cl [14] (gNm 14) fYes e_law_0 (rngL 0 p) [x0, x1, x2, .v (.int (p : Nat)), .v (.list ((waysL p p).map .int)), x5, x6, x7, x8, x9, x10, x11, x12, x13, x14, x15, x16] = some ((manyI p).map .int, [x0, x1, x2, .v (.int (p : Nat)), .v (.list ((waysL p p).map .int)), x5, x6, x7, x8, x9, x10, x11, x12, x13, .un, x15, x16]) := by
  rw [rngL_eq]
  exact cl_mI (ρ := [x0, x1, x2, .v (.int (p : Nat)), .v (.list ((waysL p p).map .int)), x5, x6, x7, x8, x9, x10, x11, x12, x13, x14, x15, x16]) (fun t => iat (waysL p p) t.toNat * iat (waysL p p) ((p + 1 - t.toNat) % p)) fun d hd => by
    obtain ⟨k, hk, rfl⟩ := mem_irg hd
    refine ⟨[x0, x1, x2, .v (.int (p : Nat)), .v (.list ((waysL p p).map .int)), x5, x6, x7, x8, x9, x10, x11, x12, x13, .v (.int (0 + (k : Int))), x15, x16], [x0, x1, x2, .v (.int (p : Nat)), .v (.list ((waysL p p).map .int)), x5, x6, x7, x8, x9, x10, x11, x12, x13, .v (.int (0 + (k : Int))), x15, x16], rfl, ?_, rfl⟩
    rw [show ((0 : Int) + (k : Int)).toNat = k by omega]
    have hlt : (p + 1 - k) % p < p := Nat.mod_lt _ (by omega)
    have h1 := ixD_map (l := waysL p p) (n := k) (z := 0 + (k : Int)) (by omega) (by rw [waysL_len]; exact hk)
    have h3 := ixD_map (l := waysL p p) (n := (p + 1 - k) % p) (z := (((p + 1 - k) % p : Nat) : Int)) rfl (by rw [waysL_len]; exact hlt)
    have hm : modOk (p : Int) = true := modOk_of (by omega)
    have hmod : (1 - (0 + (k : Int))) % (p : Int) = (((p + 1 - k) % p : Nat) : Int) := by
      rw [← Int.add_emod_right, show 1 - (0 + (k : Int)) + (p : Int) = ((p + 1 - k : Nat) : Int) by omega]
      simp
    have b1 : ∀ v, v < p → Bd 20 (iat (waysL p p) v) := fun v hv => by
      rw [waysL_at hv]
      have : cnt p p v ≤ p := by
        unfold cnt
        exact Nat.le_trans (List.length_filter_le ..) (by rw [List.length_range]; exact Nat.le_refl _)
      exact Bd.of (c := 1000) (by omega) (by omega)
    have hmul := (b1 k hk).mulOk (b1 _ hlt)
    simp only [e_law_0, fC, fVar, rdS, Rf.get, fRd, bnd, Fe.ret, fOp, fUn, fTst, fNot, fAnd, fOr, fIf, fBool, fNil, fCons, fTup, fLst, fAsL, fVal, fAndV, fOrV, fNotV, oI, oIc, oNeg, oIsN, oNotN, oIx, fIx, fR1, fR1L, oLen, oList, oTuple, oInt, oAbs, fRep, fCat, sNil, sThen, sSeq, sSet, sOwn, sRet, sRetN, sDrop, sIf, sTg, gNm, gNil', gCons', gTp, sFor, frzS, fSeq, fRng1, fRng2, fEnum, fZip, fComp, fYes, sApp, sExt, sIx, fPop, fPopAt, sPar, fCall, fCallS, oEq_int, oNe_int, List.getElem?_cons_zero, List.getElem?_cons_succ, List.set_cons_zero, List.set_cons_succ, oAdd, oSub, oMul, oDiv, oMod, oLt, oLe, oGt, oGe, oMin, oMax, oPow, decide_eq_true_eq, if_true, if_false, Bool.false_eq_true, Bool.not_true, Bool.not_false, decide_true, decide_false, List.length_cons, List.length_nil, List.length_map, Bool.and_self, fOpR, fChain, oCatT, fStar, fSlL, fSlT, fRev, oNn, oSm, oIsB, oNotB, sParO1, sParO2, sParO3, fRng3, Nat.reduceAdd, Nat.reduceBEq, bleN0, bleN1, bleN2, bleN3, bleN4, bleN5, bleN6, bleN7, bleN8, Int.reduceAdd, Int.reduceMul, Int.reduceSub, Int.reduceToNat, Nat.reduceMul, h1, hm, hmod, h3, hmul]
theorem many_sum {x : Rw} (k : Ok x) : (manyI x.p).sum = (manyN x : Nat) := by
  have h7 := k.p7
  unfold manyI manyN irg
  rw [List.map_map]
  have : ∀ l : List Nat, (∀ v ∈ l, v < x.p) → (l.map ((fun t : Int => iat (waysL x.p x.p) t.toNat * iat (waysL x.p x.p) ((x.p + 1 - t.toNat) % x.p)) ∘ fun v : Nat => (0 : Int) + (v : Nat))).sum = (((l.map fun v => x.w.getD v 0 * x.w.getD ((x.p + 1 - v) % x.p) 0).sum : Nat) : Int) := by
    intro l
    induction l with
    | nil => intro _; rfl
    | cons v r ih =>
      intro hl
      have hv := hl v List.mem_cons_self
      have hlt : (x.p + 1 - v) % x.p < x.p := Nat.mod_lt _ (by omega)
      rw [List.map_cons, List.sum_cons, ih (fun u hu => hl u (List.mem_cons_of_mem _ hu)), List.map_cons, List.sum_cons]
      show iat (waysL x.p x.p) ((0 : Int) + (v : Nat)).toNat * iat (waysL x.p x.p) ((x.p + 1 - ((0 : Int) + (v : Nat)).toNat) % x.p) + _ = _
      rw [show ((0 : Int) + (v : Int)).toNat = v by omega, waysL_at hv, waysL_at hlt, k.cn v hv, k.cn _ hlt]
      simp
  exact this _ fun v hv => List.mem_range.mp hv
theorem c_law_CR {p : Nat} (h2 : 2 ≤ p) (h : p ≤ 400) {x0 x1 x2 x3 x4 x5 x6 x7 x8 x9 x10 x11 x12 x13 x14 x15 x16 : Sl} : cl [14] (gNm 14) c_law_1 e_law_2 (rngL 1 (p - 1)) [x0, x1, x2, x3, .v (.list ((waysL p p).map .int)), x5, x6, x7, x8, x9, x10, x11, x12, x13, x14, x15, x16] = some ((CR p).map .int, [x0, x1, x2, x3, .v (.list ((waysL p p).map .int)), x5, x6, x7, x8, x9, x10, x11, x12, x13, .un, x15, x16]) := by
  have hc := cl_fI (vs := [14]) (g := gNm 14) (c := c_law_1) (e := e_law_2) (ρ := [x0, x1, x2, x3, .v (.list ((waysL p p).map .int)), x5, x6, x7, x8, x9, x10, x11, x12, x13, x14, x15, x16]) (fun x => decide (0 < cnt p p x.toNat)) (fun x => x) (ns := irg 1 (p - 1)) fun d hd => by
    obtain ⟨k, hk, rfl⟩ := mem_irg hd
    have h1 := ixD_map (l := waysL p p) (n := k + 1) (z := 1 + (k : Int)) (by omega) (by rw [waysL_len]; omega)
    rw [waysL_at (by omega)] at h1
    refine ⟨[x0, x1, x2, x3, .v (.list ((waysL p p).map .int)), x5, x6, x7, x8, x9, x10, x11, x12, x13, .v (.int (1 + (k : Int))), x15, x16], rfl, ?_, fun _ => rfl, rfl⟩
    rw [show (1 + (k : Int)).toNat = k + 1 by omega]
    have hd : decide ((0 : Int) < (cnt p p (k + 1) : Nat)) = decide (0 < cnt p p (k + 1)) := by
      rw [decide_eq_decide]
      omega
    simp only [c_law_1, fC, fVar, rdS, Rf.get, fRd, bnd, Fe.ret, fOp, fUn, fTst, fNot, fAnd, fOr, fIf, fBool, fNil, fCons, fTup, fLst, fAsL, fVal, fAndV, fOrV, fNotV, oI, oIc, oNeg, oIsN, oNotN, oIx, fIx, fR1, fR1L, oLen, oList, oTuple, oInt, oAbs, fRep, fCat, sNil, sThen, sSeq, sSet, sOwn, sRet, sRetN, sDrop, sIf, sTg, gNm, gNil', gCons', gTp, sFor, frzS, fSeq, fRng1, fRng2, fEnum, fZip, fComp, fYes, sApp, sExt, sIx, fPop, fPopAt, sPar, fCall, fCallS, oEq_int, oNe_int, List.getElem?_cons_zero, List.getElem?_cons_succ, List.set_cons_zero, List.set_cons_succ, oAdd, oSub, oMul, oDiv, oMod, oLt, oLe, oGt, oGe, oMin, oMax, oPow, decide_eq_true_eq, if_true, if_false, Bool.false_eq_true, Bool.not_true, Bool.not_false, decide_true, decide_false, List.length_cons, List.length_nil, List.length_map, Bool.and_self, fOpR, fChain, oCatT, fStar, fSlL, fSlT, fRev, oNn, oSm, oIsB, oNotB, sParO1, sParO2, sParO3, fRng3, Nat.reduceAdd, Nat.reduceBEq, bleN0, bleN1, bleN2, bleN3, bleN4, bleN5, bleN6, bleN7, bleN8, Int.reduceAdd, Int.reduceMul, Int.reduceSub, Int.reduceToNat, Nat.reduceMul, h1, hd]
  rw [← rngL_eq, List.map_id'] at hc
  exact hc
/-- one draw of the law -/
theorem turn {x : Rw} (k : Ok x) (s : Src) {i : Int} {x0 x1 x2 x3 x4 x5 x6 x7 x8 x9 x10 x11 x12 x13 x14 x15 x16 : Sl} : ∃ s' y11 y14 y15 y16, lp1 (gNm 11) b_law_3 (.int i) [x0, .src s, x2, .v (.int (x.p : Nat)), .v (.list ((waysL x.p x.p).map .int)), x5, .v (T2 x.a x.b), x7, x8, x9, x10, x11, x12, x13, x14, x15, x16] = some [x0, .src s', x2, .v (.int (x.p : Nat)), .v (.list ((waysL x.p x.p).map .int)), x5, .v (T2 x.a x.b), x7, x8, x9, x10, y11, x12, x13, y14, y15, y16] := by
  have h7 := k.p7
  have h4 := k.p400
  have lg : ((x.p : Int) - 1).natAbs.log2 < 9000 := by
    have := Nat.log2_le_self ((x.p : Int) - 1).natAbs
    omega
  obtain ⟨j, s', hj, e⟩ := pick_at pickA_rng s (m := (x.p : Int) - 1) (by omega) lg
  have j1 : 0 < j + 1 := by omega
  have j2 : j + 1 < x.p := by omega
  have e1 := k.s (j + 1) j1 j2
  have e2 := k.s' (j + 1) j1 j2
  have e3 := F_conj (x := x.a) (y := x.b)
  have eJ : (1 : Int) + (j : Int) = ((j + 1 : Nat) : Int) := by omega
  have hix := ixD_map (l := waysL x.p x.p) (n := j + 1) (z := ((j + 1 : Nat) : Int)) rfl (by rw [waysL_len]; exact j2)
  rw [waysL_at j2] at hix
  have hm3 : modOk 3 = true := by decide
  have q3 : (((sg x (j + 1) : Nat) : Int) + ((sg' x (j + 1) : Nat) : Int)) % 3 = 0 := by
    have := k.s3 (j + 1) j1 j2
    omega
  have q0 : decide (((sg x (j + 1) : Nat) : Int) = 0) = decide ((0 : Int) < (cnt x.p x.p (j + 1) : Nat)) := by
    rw [decide_eq_decide]
    have := k.s0 (j + 1) j1 j2
    omega
  have e4 := F_roots (by omega) h4 (p := x.p) ((j + 1 : Nat) : Int)
  have e5 := rootsL_len (p := x.p) (v := j + 1) j2
  have oB : ∀ b : Bool, oNe (.bool b) (.bool b) = some (.bool false) := fun b => by cases b <;> rfl
  refine ⟨s', .v (.int i), .v (.int ((j + 1 : Nat) : Int)), .v (.int (sg x (j + 1) : Nat)), .v (.int (sg' x (j + 1) : Nat)), ?_⟩
  simp only [lp1, b_law_3, fC, fVar, rdS, Rf.get, fRd, bnd, Fe.ret, fOp, fUn, fTst, fNot, fAnd, fOr, fIf, fBool, fNil, fCons, fTup, fLst, fAsL, fVal, fAndV, fOrV, fNotV, oI, oIc, oNeg, oIsN, oNotN, oIx, fIx, fR1, fR1L, oLen, oList, oTuple, oInt, oAbs, fRep, fCat, sNil, sThen, sSeq, sSet, sOwn, sRet, sRetN, sDrop, sIf, sTg, gNm, gNil', gCons', gTp, sFor, frzS, fSeq, fRng1, fRng2, fEnum, fZip, fComp, fYes, sApp, sExt, sIx, fPop, fPopAt, sPar, fCall, fCallS, oEq_int, oNe_int, List.getElem?_cons_zero, List.getElem?_cons_succ, List.set_cons_zero, List.set_cons_succ, oAdd, oSub, oMul, oDiv, oMod, oLt, oLe, oGt, oGe, oMin, oMax, oPow, decide_eq_true_eq, if_true, if_false, Bool.false_eq_true, Bool.not_true, Bool.not_false, decide_true, decide_false, List.length_cons, List.length_nil, List.length_map, Bool.and_self, fOpR, fChain, oCatT, fStar, fSlL, fSlT, fRev, oNn, oSm, oIsB, oNotB, sParO1, sParO2, sParO3, fRng3, Nat.reduceAdd, Nat.reduceBEq, bleN0, bleN1, bleN2, bleN3, bleN4, bleN5, bleN6, bleN7, bleN8, Int.reduceAdd, Int.reduceMul, Int.reduceSub, Int.reduceToNat, Nat.reduceMul, e, eJ, e1, e2, e3, hix, hm3, q3, q0, e4, e5, oB]
end K70
namespace K70
open PySem PySem.Spec PyProof.Rows L2 Fe
theorem core {x : Rw} (hx : x ∈ rows) (s : Src) {i₀ : Nat} (x4 x5 x6 x7 x8 x9 x10 x11 x12 x13 x14 x15 x16 : Sl) : ∃ s' y3 y4 y5 y6 y7 y8 y9 y10 y11 y12 y13 y14 y15 y16, restL [.un, .src s, .v (.int (0 + (i₀ : Int))), .v (.int (x.p : Nat)), x4, x5, x6, x7, x8, x9, x10, x11, x12, x13, x14, x15, x16] = some (.nx [.un, .src s', .v (.int (0 + (i₀ : Int))), y3, y4, y5, y6, y7, y8, y9, y10, y11, y12, y13, y14, y15, y16]) := by
  have k := ok_of hx
  have cF := List.all_eq_true.mp allF x hx
  simp only [chkF, Bool.and_eq_true] at cF
  obtain ⟨F1, F2, F3, F4, F5, F6⟩ := cF
  have F4 := eq_of_beq F4
  have F5 := eq_of_beq F5
  have F6 := eq_of_beq F6
  have h7 := k.p7
  have h4 := k.p400
  have bz := rngL_ble (lo := 0) (n := x.p) (by omega)
  have bz1 := rngL_ble (lo := 1) (n := x.p - 1) (by omega)
  have hb : inB (x.p : Int) = true := inB_of (by omega) (by omega)
  have hb1 : inB 1 = true := by decide
  have hb4 : inB 4 = true := by decide
  have hpn : (x.p : Int).toNat = x.p := rfl
  have hn1 : ((x.p : Int) - 1).toNat = x.p - 1 := by omega
  have w1 := F_ways (p := x.p) (by omega) h4
  have c1 := @c_law_many x.p (by omega) h4 (.un) (.src s) (.v (.int (0 + (i₀ : Int)))) (.v (.int (x.p : Nat))) (.v (.list ((waysL x.p x.p).map .int))) (x5) (x6) (x7) (x8) (x9) (x10) (x11) (x12) (x13) (x14) (x15) (x16)
  have q1 := many_sum k
  have w2 := k.prime
  have w3 := F_norm (k.ha.mono (l := 40)) (k.hb.mono (l := 40))
  rw [k.m.hn] at w3
  have w4 := F_primary k.pr.1 k.pr.2
  have w5 := F_conj (x := x.a) (y := x.b)
  have w6 := F_times (k.ha.mono (l := 40)) (k.hb.mono (l := 40)) (k.ha'.mono (l := 40)) (k.hb'.mono (l := 40))
  have t6 : oNe (T2 (x.a * (x.a - x.b) - x.b * (0 - x.b)) (x.a * (0 - x.b) + x.b * (x.a - x.b) - x.b * (0 - x.b))) (T2 (x.p : Nat) 0) = some (.bool false) := by
    refine (oNe_tI [_, _] [_, _]).trans ?_
    have hn := k.m.hn
    rw [show x.a * (x.a - x.b) - x.b * (0 - x.b) = (x.p : Int) by grind, show x.a * (0 - x.b) + x.b * (x.a - x.b) - x.b * (0 - x.b) = 0 by grind, decide_eq_true rfl]
    rfl
  have d3 : divOk 3 = true := by decide
  have o3 : modOk 3 = true := by decide
  have m2 := (show Bd 2 2 by decide).mulOk k.ha
  have bt : Bd 10 (2 * x.a - x.b) := (((show Bd 2 2 by decide).mul k.ha).sub k.hb).mono (l := 10)
  have m3 := bt.mulOk bt
  have bd3 : Bd 6 (x.b / 3) := k.hb.div
  have m4 := (show Bd 5 27 by decide).mulOk bd3
  have m5 := ((show Bd 5 27 by decide).mul bd3).mulOk bd3
  have m6 : mulOk 4 (x.p : Int) = true := Bd.mulOk (k := 4) (l := 20) (show Bd 4 4 by decide) (Bd.of (c := 1000) (by omega) (by omega))
  have t7 := k.many
  have t8 := k.tr
  have t9 := k.t3
  have w7 := k.sum
  have w8 := k.sum'
  have oT : ∀ a b : Int, oNe (T2 a b) (T2 a b) = some (.bool false) := fun a b => by
    refine (oNe_tI [a, b] [a, b]).trans ?_
    rw [decide_eq_true rfl]
    rfl
  have w9 := F_rests (p := x.p) (by omega) h4 k.ne
  have hCR : Nat.ble (CR x.p).length 16777216 = true := by
    have : (CR x.p).length ≤ x.p - 1 := by
      unfold CR
      exact Nat.le_trans (List.length_filter_le ..) (by rw [irg_len]; exact Nat.le_refl _)
    exact ble_of (by omega)
  have c2 := @c_law_CR x.p (by omega) h4 (.un) (.src s) (.v (.int (0 + (i₀ : Int)))) (.v (.int (x.p : Nat))) (.v (.list ((waysL x.p x.p).map .int))) (.v (.int ((x.p : Int) - 2 + (2 * x.a - x.b)))) (.v (T2 x.a x.b)) (.v (.int x.a)) (.v (.int x.b)) (.v (.int (2 * x.a - x.b))) (.v (.int (x.b / 3))) (x11) (x12) (x13) (.un) (x15) (x16)
  have oL : oNe (.list ((CR x.p).map .int)) (.list ((CR x.p).map .int)) = some (.bool false) := by
    rw [oNe_lI, decide_eq_true rfl]
    rfl
  obtain ⟨ρ', l1, sX, z11, z14, z15, z16, rfl⟩ := lp_rng (g := gNm 11) (b := b_law_3) (fun _ ρ => ∃ sX z11 z14 z15 z16, ρ = [.un, .src sX, .v (.int (0 + (i₀ : Int))), .v (.int (x.p : Nat)), .v (.list ((waysL x.p x.p).map .int)), .v (.int ((x.p : Int) - 2 + (2 * x.a - x.b))), .v (T2 x.a x.b), .v (.int x.a), .v (.int x.b), .v (.int (2 * x.a - x.b)), .v (.int (x.b / 3)), z11, x12, x13, z14, z15, z16]) (lo := 0) (n := 4) (ρ := [.un, .src s, .v (.int (0 + (i₀ : Int))), .v (.int (x.p : Nat)), .v (.list ((waysL x.p x.p).map .int)), .v (.int ((x.p : Int) - 2 + (2 * x.a - x.b))), .v (T2 x.a x.b), .v (.int x.a), .v (.int x.b), .v (.int (2 * x.a - x.b)), .v (.int (x.b / 3)), x11, x12, x13, .un, x15, x16]) ⟨s, x11, .un, x15, x16, rfl⟩ fun i ρ hi ⟨sX, z11, z14, z15, z16, e⟩ => by
    subst e
    obtain ⟨s', y11, y14, y15, y16, h⟩ := @turn x k sX (0 + (i : Int)) (.un) (.src sX) (.v (.int (0 + (i₀ : Int)))) (.v (.int (x.p : Nat))) (.v (.list ((waysL x.p x.p).map .int))) (.v (.int ((x.p : Int) - 2 + (2 * x.a - x.b)))) (.v (T2 x.a x.b)) (.v (.int x.a)) (.v (.int x.b)) (.v (.int (2 * x.a - x.b))) (.v (.int (x.b / 3))) (z11) (x12) (x13) (z14) (z15) (z16)
    exact ⟨_, h, s', y11, y14, y15, y16, rfl⟩
  have a3 := k.s 3 (by decide) (by omega)
  have a3 : F_cube_sign [T2 3 0, T2 x.a x.b] = some (.int (sg x 3 : Nat)) := a3
  have i3 := ixD_map (l := waysL x.p x.p) (n := 3) (z := 3) rfl (by rw [waysL_len]; omega)
  rw [waysL_at (by omega)] at i3
  have i2 := ixD_map (l := waysL x.p x.p) (n := 2) (z := 2) rfl (by rw [waysL_len]; omega)
  rw [waysL_at (by omega)] at i2
  have g1 := F_four_way (p := x.p) (by omega) h4 (M := 243) (by decide) F1
  have g2 := F_four_way (p := x.p) (by omega) h4 (M := 108) (by decide) F2
  obtain ⟨v, hv⟩ := Option.isSome_iff_exists.mp F3
  have g3 := F_two (p := x.p) (by omega) h4
  have b3 : decide (((sg x 3 : Nat) : Int) = 0) = decide ((0 : Int) < (cnt x.p x.p 3 : Nat)) := by
    rw [decide_eq_decide]
    have := k.s0 3 (by decide) (by omega)
    omega
  have bl : ∀ n : Nat, Nat.blt 0 n = decide ((0 : Int) < (n : Int)) := fun n => by
    cases n with
    | zero => rfl
    | succ n =>
      rw [show Nat.blt 0 (n + 1) = true from ble_of (by omega)]
      exact (decide_eq_true (by omega)).symm
  rw [← k.cn 3 (by omega), bl] at F4
  rw [← k.cn 2 (by omega), bl] at F5 F6
  have b2 : decide (0 < cnt x.p x.p 2) = decide ((0 : Int) < (cnt x.p x.p 2 : Nat)) := by
    rw [decide_eq_decide]
    omega
  rw [hv] at F6
  simp only [nnO] at F6
  have oB : ∀ b : Bool, oNe (.bool b) (.bool b) = some (.bool false) := fun b => by cases b <;> rfl
  have nB : oNotB (.bool true) (.bool true) = some (.bool false) := rfl
  refine ⟨sX, .v (.int (x.p : Nat)), .v (.list ((waysL x.p x.p).map .int)), .v (.int ((x.p : Int) - 2 + (2 * x.a - x.b))), .v (T2 x.a x.b), .v (.int x.a), .v (.int x.b), .v (.int (2 * x.a - x.b)), .v (.int (x.b / 3)), z11, .v (.bool (decide ((0 : Int) < (cnt x.p x.p 3 : Nat)))), .v (.bool (decide ((0 : Int) < (cnt x.p x.p 2 : Nat)))), z14, z15, z16, ?_⟩
  simp only [restL, fC, fVar, rdS, Rf.get, fRd, bnd, Fe.ret, fOp, fUn, fTst, fNot, fAnd, fOr, fIf, fBool, fNil, fCons, fTup, fLst, fAsL, fVal, fAndV, fOrV, fNotV, oI, oIc, oNeg, oIsN, oIx, fIx, fR1, fR1L, oLen, oList, oTuple, oInt, oAbs, fRep, fCat, sNil, sThen, sSeq, sSet, sOwn, sRet, sRetN, sDrop, sIf, sTg, gNm, gNil', gCons', gTp, sFor, frzS, fSeq, fRng1, fRng2, fEnum, fZip, fComp, fYes, sApp, sExt, sIx, fPop, fPopAt, sPar, fCall, fCallS, oEq_int, oNe_int, List.getElem?_cons_zero, List.getElem?_cons_succ, List.set_cons_zero, List.set_cons_succ, oAdd, oSub, oMul, oDiv, oMod, oLt, oLe, oGt, oGe, oMin, oMax, oPow, decide_eq_true_eq, if_true, if_false, Bool.false_eq_true, Bool.not_true, Bool.not_false, decide_true, decide_false, List.length_cons, List.length_nil, List.length_map, Bool.and_self, fOpR, fChain, oCatT, fStar, fSlL, fSlT, fRev, oNn, oSm, oIsB, sParO1, sParO2, sParO3, fRng3, Nat.reduceAdd, Nat.reduceBEq, bleN0, bleN1, bleN2, bleN3, bleN4, bleN5, bleN6, bleN7, bleN8, Int.reduceAdd, Int.reduceMul, Int.reduceSub, Int.reduceToNat, Nat.reduceMul, w1, bz, bz1, hb, hb1, hb4, hpn, hn1, c1, wipeE, oSum, intsD_map, q1, w2, w3, w4, w5, w6, t6, nB, d3, o3, m2, m3, m4, m5, m6, t7, t8, t9, w7, w8, oT, w9, hCR, c2, oL, l1, a3, b3, i3, i2, g1, g2, g3, hv, oNotN_eq, b2, ← F4, ← F5, ← F6, oB]
end K70
namespace K70
open PySem PySem.Spec PyProof.Rows L2 Fe
theorem law_lap (s : Src) (i₀ : Nat) (x2 x3 x4 x5 x6 x7 x8 x9 x10 x11 x12 x13 x14 x15 x16 : Sl) : ∃ s' y3 y4 y5 y6 y7 y8 y9 y10 y11 y12 y13 y14 y15 y16, lp1 (gNm 2) b_law_4 (.int (0 + (i₀ : Nat))) [.un, .src s, x2, x3, x4, x5, x6, x7, x8, x9, x10, x11, x12, x13, x14, x15, x16] = some [.un, .src s', .v (.int (0 + (i₀ : Int))), y3, y4, y5, y6, y7, y8, y9, y10, y11, y12, y13, y14, y15, y16] := by
  obtain ⟨p, s1, hp, e⟩ := F_prime s
  rw [← rows_p] at hp
  obtain ⟨x, hx, rfl⟩ := List.mem_map.mp hp
  obtain ⟨s', y3, y4, y5, y6, y7, y8, y9, y10, y11, y12, y13, y14, y15, y16, hc⟩ := core hx s1 (i₀ := i₀) x4 x5 x6 x7 x8 x9 x10 x11 x12 x13 x14 x15 x16
  refine ⟨s', y3, y4, y5, y6, y7, y8, y9, y10, y11, y12, y13, y14, y15, y16, ?_⟩
  refine lp1_seq restL_eq (ρ1 := [.un, .src s, .v (.int (0 + (i₀ : Int))), x3, x4, x5, x6, x7, x8, x9, x10, x11, x12, x13, x14, x15, x16]) rfl ?_ hc
  simp only [firstL, fC, fVar, rdS, Rf.get, fRd, bnd, Fe.ret, fOp, fUn, fTst, fNot, fAnd, fOr, fIf, fBool, fNil, fCons, fTup, fLst, fAsL, fVal, fAndV, fOrV, fNotV, oI, oIc, oNeg, oIsN, oNotN, oIx, fIx, fR1, fR1L, oLen, oList, oTuple, oInt, oAbs, fRep, fCat, sNil, sThen, sSeq, sSet, sOwn, sRet, sRetN, sDrop, sIf, sTg, gNm, gNil', gCons', gTp, sFor, frzS, fSeq, fRng1, fRng2, fEnum, fZip, fComp, fYes, sApp, sExt, sIx, fPop, fPopAt, sPar, fCall, fCallS, oEq_int, oNe_int, List.getElem?_cons_zero, List.getElem?_cons_succ, List.set_cons_zero, List.set_cons_succ, oAdd, oSub, oMul, oDiv, oMod, oLt, oLe, oGt, oGe, oMin, oMax, oPow, decide_eq_true_eq, if_true, if_false, Bool.false_eq_true, Bool.not_true, Bool.not_false, decide_true, decide_false, List.length_cons, List.length_nil, List.length_map, Bool.and_self, fOpR, fChain, oCatT, fStar, fSlL, fSlT, fRev, oNn, oSm, oIsB, oNotB, sParO1, sParO2, sParO3, fRng3, Nat.reduceAdd, Nat.reduceBEq, bleN0, bleN1, bleN2, bleN3, bleN4, bleN5, bleN6, bleN7, bleN8, Int.reduceAdd, Int.reduceMul, Int.reduceSub, Int.reduceToNat, Nat.reduceMul, e]
theorem hF : ∀ s : Src, ∃ ρ', b_law (startL 17 s) = some (.rt (.bool true) ρ') := fun s => by
  obtain ⟨ρ', q1, s2, z2, z3, z4, z5, z6, z7, z8, z9, z10, z11, z12, z13, z14, z15, z16, rfl⟩ := lp_rng (g := gNm 2) (b := b_law_4) (fun _ ρ => ∃ s2 z2 z3 z4 z5 z6 z7 z8 z9 z10 z11 z12 z13 z14 z15 z16, ρ = [.un, .src s2, z2, z3, z4, z5, z6, z7, z8, z9, z10, z11, z12, z13, z14, z15, z16]) (lo := 0) (n := 2)
    (ρ := [.un, .src s, .un, .un, .un, .un, .un, .un, .un, .un, .un, .un, .un, .un, .un, .un, .un]) ⟨s, .un, .un, .un, .un, .un, .un, .un, .un, .un, .un, .un, .un, .un, .un, .un, rfl⟩ fun i ρ hi ⟨s2, z2, z3, z4, z5, z6, z7, z8, z9, z10, z11, z12, z13, z14, z15, z16, e⟩ => by
      subst e
      obtain ⟨s', y3, y4, y5, y6, y7, y8, y9, y10, y11, y12, y13, y14, y15, y16, h⟩ := law_lap s2 i z2 z3 z4 z5 z6 z7 z8 z9 z10 z11 z12 z13 z14 z15 z16
      exact ⟨_, h, s', _, y3, y4, y5, y6, y7, y8, y9, y10, y11, y12, y13, y14, y15, y16, rfl⟩
  have hb : inB 2 = true := by decide
  have hn : (2 : Int).toNat = 2 := rfl
  refine ⟨[.un, .src s2, z2, z3, z4, z5, z6, z7, z8, z9, z10, z11, z12, z13, z14, z15, z16], ?_⟩
  show b_law [.un, .src s, .un, .un, .un, .un, .un, .un, .un, .un, .un, .un, .un, .un, .un, .un, .un] = _
  simp only [b_law, fC, fVar, rdS, Rf.get, fRd, bnd, Fe.ret, fOp, fUn, fTst, fNot, fAnd, fOr, fIf, fBool, fNil, fCons, fTup, fLst, fAsL, fVal, fAndV, fOrV, fNotV, oI, oIc, oNeg, oIsN, oNotN, oIx, fIx, fR1, fR1L, oLen, oList, oTuple, oInt, oAbs, fRep, fCat, sNil, sThen, sSeq, sSet, sOwn, sRet, sRetN, sDrop, sIf, sTg, gNm, gNil', gCons', gTp, sFor, frzS, fSeq, fRng1, fRng2, fEnum, fZip, fComp, fYes, sApp, sExt, sIx, fPop, fPopAt, sPar, fCall, fCallS, oEq_int, oNe_int, List.getElem?_cons_zero, List.getElem?_cons_succ, List.set_cons_zero, List.set_cons_succ, oAdd, oSub, oMul, oDiv, oMod, oLt, oLe, oGt, oGe, oMin, oMax, oPow, decide_eq_true_eq, if_true, if_false, Bool.false_eq_true, Bool.not_true, Bool.not_false, decide_true, decide_false, List.length_cons, List.length_nil, List.length_map, Bool.and_self, fOpR, fChain, oCatT, fStar, fSlL, fSlT, fRev, oNn, oSm, oIsB, oNotB, sParO1, sParO2, sParO3, fRng3, Nat.reduceAdd, Nat.reduceBEq, bleN0, bleN1, bleN2, bleN3, bleN4, bleN5, bleN6, bleN7, bleN8, Int.reduceAdd, Int.reduceMul, Int.reduceSub, Int.reduceToNat, Nat.reduceMul, hb, hn, q1]
end K70
namespace K70
open PySem PySem.Spec PyProof.Rows L2 Fe
theorem all_mk {l : PySem.W.OpenLaw} {w : World} {K : PySem.W.Frag} {h : Heap} {mg : Str → Option Value} {fa f0 f1 f2 f3 f4 f5 f6 f7 f8 f9 f10 f11 f12 f13 f14 f15 f16 f17 f18 f19 f20 f21 f22 f23 : Addr} (X : K.In h) (G : h.Ns mainGlobals mg) (hfa : mg "law" = some (.ref fa))
    {od0 an0 od1 an1 od2 an2 od3 an3 od4 an4 od5 an5 od6 an6 od7 an7 od8 an8 od9 an9 od10 an10 od11 an11 od12 an12 od13 an13 od14 an14 od15 an15 od16 an16 od17 an17 od18 an18 od19 an19 od20 an20 od21 an21 od22 an22 od23 an23 : Option Addr} {sl0 sl1 sl2 sl3 sl4 sl5 sl6 sl7 sl8 sl9 sl10 sl11 sl12 sl13 sl14 sl15 sl16 sl17 sl18 sl19 sl20 sl21 sl22 sl23 : Array (Option Value)} {oc0 kV0 dc0 pm0 cd0 ct0 oc1 kV1 dc1 pm1 cd1 ct1 oc2 kV2 dc2 pm2 cd2 ct2 oc3 kV3 dc3 pm3 cd3 ct3 oc4 kV4 dc4 pm4 cd4 ct4 oc5 kV5 dc5 pm5 cd5 ct5 oc6 kV6 dc6 pm6 cd6 ct6 oc7 kV7 dc7 pm7 cd7 ct7 oc8 kV8 dc8 pm8 cd8 ct8 oc9 kV9 dc9 pm9 cd9 ct9 oc10 kV10 dc10 pm10 cd10 ct10 oc11 kV11 dc11 pm11 cd11 ct11 oc12 kV12 dc12 pm12 cd12 ct12 oc13 kV13 dc13 pm13 cd13 ct13 oc14 kV14 dc14 pm14 cd14 ct14 oc15 kV15 dc15 pm15 cd15 ct15 oc16 kV16 dc16 pm16 cd16 ct16 oc17 kV17 dc17 pm17 cd17 ct17 oc18 kV18 dc18 pm18 cd18 ct18 oc19 kV19 dc19 pm19 cd19 ct19 oc20 kV20 dc20 pm20 cd20 ct20 oc21 kV21 dc21 pm21 cd21 ct21 oc22 kV22 dc22 pm22 cd22 ct22 oc23 kV23 dc23 pm23 cd23 ct23 : Value}
    (a0 : PySem.W.nsIn K mainGlobals "cube_times" = some (some (.ref f0))) (l0 : K.lookup f0 = some ⟨oc0, od0, .func (PySem.W.fnOf "cube_times" "cube_times" (defArgs (top 2)) (defBody (top 2)) (defScope (top 2)) .none kV0 dc0 pm0 an0 cd0 ct0), sl0⟩) (c0 : PySem.W.codeIn K cd0 "cube_times" = true) (k0 : PySem.W.keepIn K (.ref f0) = true)
    (a1 : PySem.W.nsIn K mainGlobals "cube_norm" = some (some (.ref f1))) (l1 : K.lookup f1 = some ⟨oc1, od1, .func (PySem.W.fnOf "cube_norm" "cube_norm" (defArgs (top 3)) (defBody (top 3)) (defScope (top 3)) .none kV1 dc1 pm1 an1 cd1 ct1), sl1⟩) (c1 : PySem.W.codeIn K cd1 "cube_norm" = true) (k1 : PySem.W.keepIn K (.ref f1) = true)
    (a2 : PySem.W.nsIn K mainGlobals "cube_conjugate" = some (some (.ref f2))) (l2 : K.lookup f2 = some ⟨oc2, od2, .func (PySem.W.fnOf "cube_conjugate" "cube_conjugate" (defArgs (top 4)) (defBody (top 4)) (defScope (top 4)) .none kV2 dc2 pm2 an2 cd2 ct2), sl2⟩) (c2 : PySem.W.codeIn K cd2 "cube_conjugate" = true) (k2 : PySem.W.keepIn K (.ref f2) = true)
    (a3 : PySem.W.nsIn K mainGlobals "nearest_whole" = some (some (.ref f3))) (l3 : K.lookup f3 = some ⟨oc3, od3, .func (PySem.W.fnOf "nearest_whole" "nearest_whole" (defArgs (top 5)) (defBody (top 5)) (defScope (top 5)) .none kV3 dc3 pm3 an3 cd3 ct3), sl3⟩) (c3 : PySem.W.codeIn K cd3 "nearest_whole" = true) (k3 : PySem.W.keepIn K (.ref f3) = true)
    (a4 : PySem.W.nsIn K mainGlobals "cube_rest" = some (some (.ref f4))) (l4 : K.lookup f4 = some ⟨oc4, od4, .func (PySem.W.fnOf "cube_rest" "cube_rest" (defArgs (top 6)) (defBody (top 6)) (defScope (top 6)) .none kV4 dc4 pm4 an4 cd4 ct4), sl4⟩) (c4 : PySem.W.codeIn K cd4 "cube_rest" = true) (k4 : PySem.W.keepIn K (.ref f4) = true)
    (a5 : PySem.W.nsIn K mainGlobals "is_primary" = some (some (.ref f5))) (l5 : K.lookup f5 = some ⟨oc5, od5, .func (PySem.W.fnOf "is_primary" "is_primary" (defArgs (top 7)) (defBody (top 7)) (defScope (top 7)) .none kV5 dc5 pm5 an5 cd5 ct5), sl5⟩) (c5 : PySem.W.codeIn K cd5 "is_primary" = true) (k5 : PySem.W.keepIn K (.ref f5) = true)
    (a6 : PySem.W.nsIn K mainGlobals "cube_power" = some (some (.ref f6))) (l6 : K.lookup f6 = some ⟨oc6, od6, .func (PySem.W.fnOf "cube_power" "cube_power" (defArgs (top 8)) (defBody (top 8)) (defScope (top 8)) .none kV6 dc6 pm6 an6 cd6 ct6), sl6⟩) (c6 : PySem.W.codeIn K cd6 "cube_power" = true) (k6 : PySem.W.keepIn K (.ref f6) = true)
    (a7 : PySem.W.nsIn K mainGlobals "cube_sign" = some (some (.ref f7))) (l7 : K.lookup f7 = some ⟨oc7, od7, .func (PySem.W.fnOf "cube_sign" "cube_sign" (defArgs (top 9)) (defBody (top 9)) (defScope (top 9)) .none kV7 dc7 pm7 an7 cd7 ct7), sl7⟩) (c7 : PySem.W.codeIn K cd7 "cube_sign" = true) (k7 : PySem.W.keepIn K (.ref f7) = true)
    (a8 : PySem.W.nsIn K mainGlobals "primary_prime" = some (some (.ref f8))) (l8 : K.lookup f8 = some ⟨oc8, od8, .func (PySem.W.fnOf "primary_prime" "primary_prime" (defArgs (top 10)) (defBody (top 10)) (defScope (top 10)) .none kV8 dc8 pm8 an8 cd8 ct8), sl8⟩) (c8 : PySem.W.codeIn K cd8 "primary_prime" = true) (k8 : PySem.W.keepIn K (.ref f8) = true)
    (a9 : PySem.W.nsIn K mainGlobals "cube_rests" = some (some (.ref f9))) (l9 : K.lookup f9 = some ⟨oc9, od9, .func (PySem.W.fnOf "cube_rests" "cube_rests" (defArgs (top 12)) (defBody (top 12)) (defScope (top 12)) .none kV9 dc9 pm9 an9 cd9 ct9), sl9⟩) (c9 : PySem.W.codeIn K cd9 "cube_rests" = true) (k9 : PySem.W.keepIn K (.ref f9) = true)
    (a10 : PySem.W.nsIn K mainGlobals "cube_roots" = some (some (.ref f10))) (l10 : K.lookup f10 = some ⟨oc10, od10, .func (PySem.W.fnOf "cube_roots" "cube_roots" (defArgs (top 13)) (defBody (top 13)) (defScope (top 13)) .none kV10 dc10 pm10 an10 cd10 ct10), sl10⟩) (c10 : PySem.W.codeIn K cd10 "cube_roots" = true) (k10 : PySem.W.keepIn K (.ref f10) = true)
    (a11 : PySem.W.nsIn K mainGlobals "cube_sign_row" = some (some (.ref f11))) (l11 : K.lookup f11 = some ⟨oc11, od11, .func (PySem.W.fnOf "cube_sign_row" "cube_sign_row" (defArgs (top 14)) (defBody (top 14)) (defScope (top 14)) .none kV11 dc11 pm11 an11 cd11 ct11), sl11⟩) (c11 : PySem.W.codeIn K cd11 "cube_sign_row" = true) (k11 : PySem.W.keepIn K (.ref f11) = true)
    (a12 : PySem.W.nsIn K mainGlobals "cube_sum" = some (some (.ref f12))) (l12 : K.lookup f12 = some ⟨oc12, od12, .func (PySem.W.fnOf "cube_sum" "cube_sum" (defArgs (top 15)) (defBody (top 15)) (defScope (top 15)) .none kV12 dc12 pm12 an12 cd12 ct12), sl12⟩) (c12 : PySem.W.codeIn K cd12 "cube_sum" = true) (k12 : PySem.W.keepIn K (.ref f12) = true)
    (a13 : PySem.W.nsIn K mainGlobals "whole_root_of" = some (some (.ref f13))) (l13 : K.lookup f13 = some ⟨oc13, od13, .func (PySem.W.fnOf "whole_root_of" "whole_root_of" (defArgs (top 16)) (defBody (top 16)) (defScope (top 16)) .none kV13 dc13 pm13 an13 cd13 ct13), sl13⟩) (c13 : PySem.W.codeIn K cd13 "whole_root_of" = true) (k13 : PySem.W.keepIn K (.ref f13) = true)
    (a14 : PySem.W.nsIn K mainGlobals "cube_way" = some (some (.ref f14))) (l14 : K.lookup f14 = some ⟨oc14, od14, .func (PySem.W.fnOf "cube_way" "cube_way" (defArgs (top 17)) (defBody (top 17)) (defScope (top 17)) .none kV14 dc14 pm14 an14 cd14 ct14), sl14⟩) (c14 : PySem.W.codeIn K cd14 "cube_way" = true) (k14 : PySem.W.keepIn K (.ref f14) = true)
    (a15 : PySem.W.nsIn K mainGlobals "is_two_cube" = some (some (.ref f15))) (l15 : K.lookup f15 = some ⟨oc15, od15, .func (PySem.W.fnOf "is_two_cube" "is_two_cube" (defArgs (top 18)) (defBody (top 18)) (defScope (top 18)) .none kV15 dc15 pm15 an15 cd15 ct15), sl15⟩) (c15 : PySem.W.codeIn K cd15 "is_two_cube" = true) (k15 : PySem.W.keepIn K (.ref f15) = true)
    (a16 : PySem.W.nsIn K mainGlobals "_law_open_cells" = some (some (.ref f16))) (l16 : K.lookup f16 = some ⟨oc16, od16, .func (PySem.W.fnOf "_law_open_cells" "_law_open_cells" (defArgs (top 20)) (defBody (top 20)) (defScope (top 20)) .none kV16 dc16 pm16 an16 cd16 ct16), sl16⟩) (c16 : PySem.W.codeIn K cd16 "_law_open_cells" = true) (k16 : PySem.W.keepIn K (.ref f16) = true)
    (a17 : PySem.W.nsIn K mainGlobals "_law_pick" = some (some (.ref f17))) (l17 : K.lookup f17 = some ⟨oc17, od17, .func (PySem.W.fnOf "_law_pick" "_law_pick" (defArgs (top 21)) (defBody (top 21)) (defScope (top 21)) .none kV17 dc17 pm17 an17 cd17 ct17), sl17⟩) (c17 : PySem.W.codeIn K cd17 "_law_pick" = true) (k17 : PySem.W.keepIn K (.ref f17) = true)
    (a18 : PySem.W.nsIn K mainGlobals "_law_is_prime" = some (some (.ref f18))) (l18 : K.lookup f18 = some ⟨oc18, od18, .func (PySem.W.fnOf "_law_is_prime" "_law_is_prime" (defArgs (top 22)) (defBody (top 22)) (defScope (top 22)) .none kV18 dc18 pm18 an18 cd18 ct18), sl18⟩) (c18 : PySem.W.codeIn K cd18 "_law_is_prime" = true) (k18 : PySem.W.keepIn K (.ref f18) = true)
    (a19 : PySem.W.nsIn K mainGlobals "_law_prime" = some (some (.ref f19))) (l19 : K.lookup f19 = some ⟨oc19, od19, .func (PySem.W.fnOf "_law_prime" "_law_prime" (defArgs (top 23)) (defBody (top 23)) (defScope (top 23)) .none kV19 dc19 pm19 an19 cd19 ct19), sl19⟩) (c19 : PySem.W.codeIn K cd19 "_law_prime" = true) (k19 : PySem.W.keepIn K (.ref f19) = true)
    (a20 : PySem.W.nsIn K mainGlobals "_law_ways" = some (some (.ref f20))) (l20 : K.lookup f20 = some ⟨oc20, od20, .func (PySem.W.fnOf "_law_ways" "_law_ways" (defArgs (top 24)) (defBody (top 24)) (defScope (top 24)) .none kV20 dc20 pm20 an20 cd20 ct20), sl20⟩) (c20 : PySem.W.codeIn K cd20 "_law_ways" = true) (k20 : PySem.W.keepIn K (.ref f20) = true)
    (a21 : PySem.W.nsIn K mainGlobals "_law_root" = some (some (.ref f21))) (l21 : K.lookup f21 = some ⟨oc21, od21, .func (PySem.W.fnOf "_law_root" "_law_root" (defArgs (top 25)) (defBody (top 25)) (defScope (top 25)) .none kV21 dc21 pm21 an21 cd21 ct21), sl21⟩) (c21 : PySem.W.codeIn K cd21 "_law_root" = true) (k21 : PySem.W.keepIn K (.ref f21) = true)
    (a22 : PySem.W.nsIn K mainGlobals "_law_four_way" = some (some (.ref f22))) (l22 : K.lookup f22 = some ⟨oc22, od22, .func (PySem.W.fnOf "_law_four_way" "_law_four_way" (defArgs (top 26)) (defBody (top 26)) (defScope (top 26)) .none kV22 dc22 pm22 an22 cd22 ct22), sl22⟩) (c22 : PySem.W.codeIn K cd22 "_law_four_way" = true) (k22 : PySem.W.keepIn K (.ref f22) = true)
    (a23 : PySem.W.nsIn K mainGlobals "law" = some (some (.ref f23))) (l23 : K.lookup f23 = some ⟨oc23, od23, .func (PySem.W.fnOf "law" "law" (defArgs (top 27)) (defBody (top 27)) (defScope (top 27)) .none kV23 dc23 pm23 an23 cd23 ct23), sl23⟩) (c23 : PySem.W.codeIn K cd23 "law" = true) (k23 : PySem.W.keepIn K (.ref f23) = true)
    (z_abs : PySem.W.nsIn K mainGlobals "abs" = some none)
    (z_any : PySem.W.nsIn K mainGlobals "any" = some none)
    (z_dict : PySem.W.nsIn K mainGlobals "dict" = some none)
    (z_int : PySem.W.nsIn K mainGlobals "int" = some none)
    (z_len : PySem.W.nsIn K mainGlobals "len" = some none)
    (z_list : PySem.W.nsIn K mainGlobals "list" = some none)
    (z_range : PySem.W.nsIn K mainGlobals "range" = some none)
    (z_repr : PySem.W.nsIn K mainGlobals "repr" = some none)
    (z_sorted : PySem.W.nsIn K mainGlobals "sorted" = some none)
    (z_sum : PySem.W.nsIn K mainGlobals "sum" = some none)
    (z_tuple : PySem.W.nsIn K mainGlobals "tuple" = some none)
    {u_CUBE_UNITS : Value} (y_CUBE_UNITS : PySem.W.nsIn K mainGlobals "CUBE_UNITS" = some (some u_CUBE_UNITS)) (q_CUBE_UNITS : ckD K (.tuple [(.tuple [(.int 1), (.int 0)]), (.tuple [(.int 0), (.int 1)]), (.tuple [(.int (-1)), (.int (-1))]), (.tuple [(.int (-1)), (.int 0)]), (.tuple [(.int 0), (.int (-1))]), (.tuple [(.int 1), (.int 1)])]) u_CUBE_UNITS = true)
    : ∃ fd : FuncData, (∀ (s : Shared) (v : Value), BindsTo s fd ⟨[v], []⟩ [("script", v)]) ∧ ∀ base : Heap, K.In base → base.Ns mainGlobals mg → FnG l.prog w K mg base 7 fa fd ["script"] (spLaw K) := by
  have e := hfa.symm.trans (PySem.W.mg_of X G a23)
  cases e
  have F0 := fun_mk (st := top 2) l0 c0 k0
  have b0 := F0.binds (ps := ["x", "y"]) fun _ _ _ _ _ _ us hl => match us, hl with | [_, _], _ => rfl
  have F1 := fun_mk (st := top 3) l1 c1 k1
  have b1 := F1.binds (ps := ["x"]) fun _ _ _ _ _ _ us hl => match us, hl with | [_], _ => rfl
  have F2 := fun_mk (st := top 4) l2 c2 k2
  have b2 := F2.binds (ps := ["x"]) fun _ _ _ _ _ _ us hl => match us, hl with | [_], _ => rfl
  have F3 := fun_mk (st := top 5) l3 c3 k3
  have b3 := F3.binds (ps := ["above", "below"]) fun _ _ _ _ _ _ us hl => match us, hl with | [_, _], _ => rfl
  have F4 := fun_mk (st := top 6) l4 c4 k4
  have b4 := F4.binds (ps := ["x", "m"]) fun _ _ _ _ _ _ us hl => match us, hl with | [_, _], _ => rfl
  have F5 := fun_mk (st := top 7) l5 c5 k5
  have b5 := F5.binds (ps := ["x"]) fun _ _ _ _ _ _ us hl => match us, hl with | [_], _ => rfl
  have F6 := fun_mk (st := top 8) l6 c6 k6
  have b6 := F6.binds (ps := ["x", "e", "m"]) fun _ _ _ _ _ _ us hl => match us, hl with | [_, _, _], _ => rfl
  have F7 := fun_mk (st := top 9) l7 c7 k7
  have b7 := F7.binds (ps := ["x", "m"]) fun _ _ _ _ _ _ us hl => match us, hl with | [_, _], _ => rfl
  have F8 := fun_mk (st := top 10) l8 c8 k8
  have b8 := F8.binds (ps := ["p"]) fun _ _ _ _ _ _ us hl => match us, hl with | [_], _ => rfl
  have F9 := fun_mk (st := top 12) l9 c9 k9
  have b9 := F9.binds (ps := ["p"]) fun _ _ _ _ _ _ us hl => match us, hl with | [_], _ => rfl
  have F10 := fun_mk (st := top 13) l10 c10 k10
  have b10 := F10.binds (ps := ["p", "a"]) fun _ _ _ _ _ _ us hl => match us, hl with | [_, _], _ => rfl
  have F11 := fun_mk (st := top 14) l11 c11 k11
  have b11 := F11.binds (ps := ["m"]) fun _ _ _ _ _ _ us hl => match us, hl with | [_], _ => rfl
  have F12 := fun_mk (st := top 15) l12 c12 k12
  have b12 := F12.binds (ps := ["m"]) fun _ _ _ _ _ _ us hl => match us, hl with | [_], _ => rfl
  have F13 := fun_mk (st := top 16) l13 c13 k13
  have b13 := F13.binds (ps := ["x"]) fun _ _ _ _ _ _ us hl => match us, hl with | [_], _ => rfl
  have F14 := fun_mk (st := top 17) l14 c14 k14
  have b14 := F14.binds (ps := ["p"]) fun _ _ _ _ _ _ us hl => match us, hl with | [_], _ => rfl
  have F15 := fun_mk (st := top 18) l15 c15 k15
  have b15 := F15.binds (ps := ["p"]) fun _ _ _ _ _ _ us hl => match us, hl with | [_], _ => rfl
  have F16 := fun_mk (st := top 20) l16 c16 k16
  have b16 := F16.binds (ps := ["script"]) fun _ _ _ _ _ _ us hl => match us, hl with | [_], _ => rfl
  have F17 := fun_mk (st := top 21) l17 c17 k17
  have b17 := F17.binds (ps := ["source", "most"]) fun _ _ _ _ _ _ us hl => match us, hl with | [_, _], _ => rfl
  have F18 := fun_mk (st := top 22) l18 c18 k18
  have b18 := F18.binds (ps := ["n"]) fun _ _ _ _ _ _ us hl => match us, hl with | [_], _ => rfl
  have F19 := fun_mk (st := top 23) l19 c19 k19
  have b19 := F19.binds (ps := ["source", "most", "by"]) fun _ _ _ _ _ _ us hl => match us, hl with | [_, _, _], _ => rfl
  have F20 := fun_mk (st := top 24) l20 c20 k20
  have b20 := F20.binds (ps := ["p", "k"]) fun _ _ _ _ _ _ us hl => match us, hl with | [_, _], _ => rfl
  have F21 := fun_mk (st := top 25) l21 c21 k21
  have b21 := F21.binds (ps := ["n"]) fun _ _ _ _ _ _ us hl => match us, hl with | [_], _ => rfl
  have F22 := fun_mk (st := top 26) l22 c22 k22
  have b22 := F22.binds (ps := ["p", "many"]) fun _ _ _ _ _ _ us hl => match us, hl with | [_, _], _ => rfl
  have F23 := fun_mk (st := top 27) l23 c23 k23
  have b23 := F23.binds (ps := ["script"]) fun _ _ _ _ _ _ us hl => match us, hl with | [_], _ => rfl
  have T : Tx K mg (fun i => [f0, f1, f2, f3, f4, f5, f6, f7, f8, f9, f10, f11, f12, f13, f14, f15, f16, f17, f18, f19, f20, f21, f22, fa].getD i 0) (fun i => [(PySem.W.fnOf "cube_times" "cube_times" (defArgs (top 2)) (defBody (top 2)) (defScope (top 2)) .none kV0 dc0 pm0 an0 cd0 ct0), (PySem.W.fnOf "cube_norm" "cube_norm" (defArgs (top 3)) (defBody (top 3)) (defScope (top 3)) .none kV1 dc1 pm1 an1 cd1 ct1), (PySem.W.fnOf "cube_conjugate" "cube_conjugate" (defArgs (top 4)) (defBody (top 4)) (defScope (top 4)) .none kV2 dc2 pm2 an2 cd2 ct2), (PySem.W.fnOf "nearest_whole" "nearest_whole" (defArgs (top 5)) (defBody (top 5)) (defScope (top 5)) .none kV3 dc3 pm3 an3 cd3 ct3), (PySem.W.fnOf "cube_rest" "cube_rest" (defArgs (top 6)) (defBody (top 6)) (defScope (top 6)) .none kV4 dc4 pm4 an4 cd4 ct4), (PySem.W.fnOf "is_primary" "is_primary" (defArgs (top 7)) (defBody (top 7)) (defScope (top 7)) .none kV5 dc5 pm5 an5 cd5 ct5), (PySem.W.fnOf "cube_power" "cube_power" (defArgs (top 8)) (defBody (top 8)) (defScope (top 8)) .none kV6 dc6 pm6 an6 cd6 ct6), (PySem.W.fnOf "cube_sign" "cube_sign" (defArgs (top 9)) (defBody (top 9)) (defScope (top 9)) .none kV7 dc7 pm7 an7 cd7 ct7), (PySem.W.fnOf "primary_prime" "primary_prime" (defArgs (top 10)) (defBody (top 10)) (defScope (top 10)) .none kV8 dc8 pm8 an8 cd8 ct8), (PySem.W.fnOf "cube_rests" "cube_rests" (defArgs (top 12)) (defBody (top 12)) (defScope (top 12)) .none kV9 dc9 pm9 an9 cd9 ct9), (PySem.W.fnOf "cube_roots" "cube_roots" (defArgs (top 13)) (defBody (top 13)) (defScope (top 13)) .none kV10 dc10 pm10 an10 cd10 ct10), (PySem.W.fnOf "cube_sign_row" "cube_sign_row" (defArgs (top 14)) (defBody (top 14)) (defScope (top 14)) .none kV11 dc11 pm11 an11 cd11 ct11), (PySem.W.fnOf "cube_sum" "cube_sum" (defArgs (top 15)) (defBody (top 15)) (defScope (top 15)) .none kV12 dc12 pm12 an12 cd12 ct12), (PySem.W.fnOf "whole_root_of" "whole_root_of" (defArgs (top 16)) (defBody (top 16)) (defScope (top 16)) .none kV13 dc13 pm13 an13 cd13 ct13), (PySem.W.fnOf "cube_way" "cube_way" (defArgs (top 17)) (defBody (top 17)) (defScope (top 17)) .none kV14 dc14 pm14 an14 cd14 ct14), (PySem.W.fnOf "is_two_cube" "is_two_cube" (defArgs (top 18)) (defBody (top 18)) (defScope (top 18)) .none kV15 dc15 pm15 an15 cd15 ct15), (PySem.W.fnOf "_law_open_cells" "_law_open_cells" (defArgs (top 20)) (defBody (top 20)) (defScope (top 20)) .none kV16 dc16 pm16 an16 cd16 ct16), (PySem.W.fnOf "_law_pick" "_law_pick" (defArgs (top 21)) (defBody (top 21)) (defScope (top 21)) .none kV17 dc17 pm17 an17 cd17 ct17), (PySem.W.fnOf "_law_is_prime" "_law_is_prime" (defArgs (top 22)) (defBody (top 22)) (defScope (top 22)) .none kV18 dc18 pm18 an18 cd18 ct18), (PySem.W.fnOf "_law_prime" "_law_prime" (defArgs (top 23)) (defBody (top 23)) (defScope (top 23)) .none kV19 dc19 pm19 an19 cd19 ct19), (PySem.W.fnOf "_law_ways" "_law_ways" (defArgs (top 24)) (defBody (top 24)) (defScope (top 24)) .none kV20 dc20 pm20 an20 cd20 ct20), (PySem.W.fnOf "_law_root" "_law_root" (defArgs (top 25)) (defBody (top 25)) (defScope (top 25)) .none kV21 dc21 pm21 an21 cd21 ct21), (PySem.W.fnOf "_law_four_way" "_law_four_way" (defArgs (top 26)) (defBody (top 26)) (defScope (top 26)) .none kV22 dc22 pm22 an22 cd22 ct22), (PySem.W.fnOf "law" "law" (defArgs (top 27)) (defBody (top 27)) (defScope (top 27)) .none kV23 dc23 pm23 an23 cd23 ct23)].getD i (PySem.W.fnOf "cube_times" "cube_times" (defArgs (top 2)) (defBody (top 2)) (defScope (top 2)) .none kV0 dc0 pm0 an0 cd0 ct0)) := ⟨F0, PySem.W.mg_of X G a0, b0, F1, PySem.W.mg_of X G a1, b1, F2, PySem.W.mg_of X G a2, b2, F3, PySem.W.mg_of X G a3, b3, F4, PySem.W.mg_of X G a4, b4, F5, PySem.W.mg_of X G a5, b5, F6, PySem.W.mg_of X G a6, b6, F7, PySem.W.mg_of X G a7, b7, F8, PySem.W.mg_of X G a8, b8, F9, PySem.W.mg_of X G a9, b9, F10, PySem.W.mg_of X G a10, b10, F11, PySem.W.mg_of X G a11, b11, F12, PySem.W.mg_of X G a12, b12, F13, PySem.W.mg_of X G a13, b13, F14, PySem.W.mg_of X G a14, b14, F15, PySem.W.mg_of X G a15, b15, F16, PySem.W.mg_of X G a16, b16, F17, PySem.W.mg_of X G a17, b17, F18, PySem.W.mg_of X G a18, b18, F19, PySem.W.mg_of X G a19, b19, F20, PySem.W.mg_of X G a20, b20, F21, PySem.W.mg_of X G a21, b21, F22, PySem.W.mg_of X G a22, b22, F23, PySem.W.mg_of X G a23, b23, PySem.W.mg_none_of X G z_abs, PySem.W.mg_none_of X G z_any, PySem.W.mg_none_of X G z_dict, PySem.W.mg_none_of X G z_int, PySem.W.mg_none_of X G z_len, PySem.W.mg_none_of X G z_list, PySem.W.mg_none_of X G z_range, PySem.W.mg_none_of X G z_repr, PySem.W.mg_none_of X G z_sorted, PySem.W.mg_none_of X G z_sum, PySem.W.mg_none_of X G z_tuple, ⟨u_CUBE_UNITS, PySem.W.mg_of X G y_CUBE_UNITS, q_CUBE_UNITS⟩⟩
  exact ⟨_, fun s v => .of_eq rfl, fun base _ _ => d_law hF T⟩
end K70
open PySem PySem.W PyProof.Rows
set_option maxRecDepth 100000 in
set_option maxHeartbeats 0 in
theorem PySem.Challenge.cw_wholefours_k70_whole_points_of_cubes_cou_holds : PySem.Challenge.rw_wholefours_k70_whole_points_of_cubes_cou.Holds := by
  w_on; o_law; k_head; (case hw => w_witness2)
  k_fill
  refine Fe.walkG (l := PySem.Challenge.rw_wholefours_k70_whole_points_of_cubes_cou) (k := 7) (x := "script") rfl rfl ⟨rfl, by decide, by decide⟩ (fun w h Y => PySem.W.kIn_of Y) ?F
  case F =>
    intro w mg fa h KX G hmg
    refine' K70.all_mk KX G hmg ?a0 ?l0 ?c0 ?k0 ?a1 ?l1 ?c1 ?k1 ?a2 ?l2 ?c2 ?k2 ?a3 ?l3 ?c3 ?k3 ?a4 ?l4 ?c4 ?k4 ?a5 ?l5 ?c5 ?k5 ?a6 ?l6 ?c6 ?k6 ?a7 ?l7 ?c7 ?k7 ?a8 ?l8 ?c8 ?k8 ?a9 ?l9 ?c9 ?k9 ?a10 ?l10 ?c10 ?k10 ?a11 ?l11 ?c11 ?k11 ?a12 ?l12 ?c12 ?k12 ?a13 ?l13 ?c13 ?k13 ?a14 ?l14 ?c14 ?k14 ?a15 ?l15 ?c15 ?k15 ?a16 ?l16 ?c16 ?k16 ?a17 ?l17 ?c17 ?k17 ?a18 ?l18 ?c18 ?k18 ?a19 ?l19 ?c19 ?k19 ?a20 ?l20 ?c20 ?k20 ?a21 ?l21 ?c21 ?k21 ?a22 ?l22 ?c22 ?k22 ?a23 ?l23 ?c23 ?k23 ?z_abs ?z_any ?z_dict ?z_int ?z_len ?z_list ?z_range ?z_repr ?z_sorted ?z_sum ?z_tuple ?y_CUBE_UNITS ?q_CUBE_UNITS
    (case a0 => k_is)
    (case l0 => k_is)
    (case c0 => k_is)
    (case k0 => k_is)
    (case a1 => k_is)
    (case l1 => k_is)
    (case c1 => k_is)
    (case k1 => k_is)
    (case a2 => k_is)
    (case l2 => k_is)
    (case c2 => k_is)
    (case k2 => k_is)
    (case a3 => k_is)
    (case l3 => k_is)
    (case c3 => k_is)
    (case k3 => k_is)
    (case a4 => k_is)
    (case l4 => k_is)
    (case c4 => k_is)
    (case k4 => k_is)
    (case a5 => k_is)
    (case l5 => k_is)
    (case c5 => k_is)
    (case k5 => k_is)
    (case a6 => k_is)
    (case l6 => k_is)
    (case c6 => k_is)
    (case k6 => k_is)
    (case a7 => k_is)
    (case l7 => k_is)
    (case c7 => k_is)
    (case k7 => k_is)
    (case a8 => k_is)
    (case l8 => k_is)
    (case c8 => k_is)
    (case k8 => k_is)
    (case a9 => k_is)
    (case l9 => k_is)
    (case c9 => k_is)
    (case k9 => k_is)
    (case a10 => k_is)
    (case l10 => k_is)
    (case c10 => k_is)
    (case k10 => k_is)
    (case a11 => k_is)
    (case l11 => k_is)
    (case c11 => k_is)
    (case k11 => k_is)
    (case a12 => k_is)
    (case l12 => k_is)
    (case c12 => k_is)
    (case k12 => k_is)
    (case a13 => k_is)
    (case l13 => k_is)
    (case c13 => k_is)
    (case k13 => k_is)
    (case a14 => k_is)
    (case l14 => k_is)
    (case c14 => k_is)
    (case k14 => k_is)
    (case a15 => k_is)
    (case l15 => k_is)
    (case c15 => k_is)
    (case k15 => k_is)
    (case a16 => k_is)
    (case l16 => k_is)
    (case c16 => k_is)
    (case k16 => k_is)
    (case a17 => k_is)
    (case l17 => k_is)
    (case c17 => k_is)
    (case k17 => k_is)
    (case a18 => k_is)
    (case l18 => k_is)
    (case c18 => k_is)
    (case k18 => k_is)
    (case a19 => k_is)
    (case l19 => k_is)
    (case c19 => k_is)
    (case k19 => k_is)
    (case a20 => k_is)
    (case l20 => k_is)
    (case c20 => k_is)
    (case k20 => k_is)
    (case a21 => k_is)
    (case l21 => k_is)
    (case c21 => k_is)
    (case k21 => k_is)
    (case a22 => k_is)
    (case l22 => k_is)
    (case c22 => k_is)
    (case k22 => k_is)
    (case a23 => k_is)
    (case l23 => k_is)
    (case c23 => k_is)
    (case k23 => k_is)
    (case z_abs => k_is)
    (case z_any => k_is)
    (case z_dict => k_is)
    (case z_int => k_is)
    (case z_len => k_is)
    (case z_list => k_is)
    (case z_range => k_is)
    (case z_repr => k_is)
    (case z_sorted => k_is)
    (case z_sum => k_is)
    (case z_tuple => k_is)
    (case y_CUBE_UNITS => k_is)
    (case q_CUBE_UNITS => exact rfl)
