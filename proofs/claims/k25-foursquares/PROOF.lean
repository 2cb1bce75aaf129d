import PyProof.Rows.All
import Wide.All
import OpenK.AllK
import Wide.FinOn
import HandS.ForMost
import HandS.Wide
import HandS.TupAny
import HandS.SortInts
import HandS.Gcd
import HandS.Zip
import HandS.Style
import HandS.RaiseMore
import PySem.Challenge.RW_wholefours_k25_whole_four_squares_out_of
import HandS.Conv
import HandS.Deep
import HandS.More
import HandS.Star
import HandS.TupMul
set_option Elab.async false
set_option linter.all false
set_option maxRecDepth 100000
set_option maxHeartbeats 8000000
/-! Fe: a layer of our own: what an expression or a statement computes, as a plain function over data. -/
namespace Fe
open PySem PySem.Spec PyProof.Rows L2

/-! ## data in the heap -/
mutual
inductive Dq (K : PySem.W.Frag) (H : Hp) : V → PyData → Prop
  | non : Dq K H .non .none
  | bl (b : Bool) : Dq K H (.bl b) (.bool b)
  | int (i : Int) : Dq K H (.int i) (.int i)
  | str (x : Str) : Dq K H (.str x) (.str x)
  | lst {a : Addr} {xs : List V} {ds : List PyData} : H a = some (.lst xs) → DqA K H xs ds → Dq K H (.ref a) (.list ds)
  | tup {a : Addr} {xs : List V} {ds : List PyData} : SqT K H a xs → DqA K H xs ds → Dq K H (.ref a) (.tuple ds)
inductive DqA (K : PySem.W.Frag) (H : Hp) : List V → List PyData → Prop
  | nil : DqA K H [] []
  | cons {v : V} {vs : List V} {d : PyData} {ds : List PyData} : Dq K H v d → DqA K H vs ds → DqA K H (v :: vs) (d :: ds)
end
section
variable {K : PySem.W.Frag} {G H H' : Hp}
theorem sqT_up (e : Same H H') {a : Addr} {xs : List V} (h : SqT K H a xs) : SqT K H' a xs := by
  obtain (q | ⟨o, q⟩) | q := h
  · exact Or.inl (Or.inl (e a _ q))
  · exact Or.inl (Or.inr ⟨o, e a _ q⟩)
  · exact Or.inr q
mutual
theorem Dq.up (e : Same H H') : ∀ {d : PyData} {v : V}, Dq K H v d → Dq K H' v d
  | .none, _, h => by cases h; exact .non
  | .bool _, _, h => by cases h; exact .bl _
  | .int _, _, h => by cases h; exact .int _
  | .str _, _, h => by cases h; exact .str _
  | .list _, _, h => by cases h with | lst q r => exact .lst (e _ _ q) (DqA.up e r)
  | .tuple _, _, h => by cases h with | tup q r => exact .tup (sqT_up e q) (DqA.up e r)
  | .dict _, _, h => by cases h
theorem DqA.up (e : Same H H') : ∀ {ds : List PyData} {vs : List V}, DqA K H vs ds → DqA K H' vs ds
  | [], _, h => by cases h; exact .nil
  | _ :: _, _, h => by cases h with | cons q r => exact .cons (Dq.up e q) (DqA.up e r)
end
mutual
theorem Dq.dp : ∀ {d : PyData} {v : V}, Dq K H v d → Dp K H v d
  | .none, _, h => by cases h; exact .non
  | .bool _, _, h => by cases h; exact .bl _
  | .int _, _, h => by cases h; exact .int _
  | .str _, _, h => by cases h; exact .str _
  | .list _, _, h => by cases h with | lst q r => exact .lst (Or.inl (Or.inl q)) (DqA.dp r)
  | .tuple _, _, h => by cases h with | tup q r => exact .tup q (DqA.dp r)
  | .dict _, _, h => by cases h
theorem DqA.dp : ∀ {ds : List PyData} {vs : List V}, DqA K H vs ds → DpAll K H vs ds
  | [], _, h => by cases h; exact .nil
  | _ :: _, _, h => by cases h with | cons q r => exact .cons (Dq.dp q) (DqA.dp r)
end
theorem DqA.len : ∀ {ds : List PyData} {vs : List V}, DqA K H vs ds → vs.length = ds.length
  | [], _, h => by cases h; rfl
  | _ :: _, _, h => by cases h with | cons q r => exact congrArg (· + 1) (DqA.len r)
theorem DqA.get : ∀ {ds : List PyData} {vs : List V} {i : Nat} {d : PyData}, DqA K H vs ds → ds[i]? = some d → ∃ v, vs[i]? = some v ∧ Dq K H v d
  | [], _, _, _, _, h => by simp at h
  | _ :: _, _, 0, _, r, h => by
    cases r with | cons q r => exact ⟨_, rfl, by simp at h; exact h ▸ q⟩
  | _ :: _, _, i + 1, _, r, h => by
    cases r with | cons q r => simpa using DqA.get r (by simpa using h)
theorem DqA.app : ∀ {ds es : List PyData} {vs us : List V}, DqA K H vs ds → DqA K H us es → DqA K H (vs ++ us) (ds ++ es)
  | [], _, _, _, h, k => by cases h; exact k
  | _ :: _, _, _, _, h, k => by cases h with | cons q r => exact .cons q (DqA.app r k)
theorem DqA.one {v : V} {d : PyData} (h : Dq K H v d) : DqA K H [v] [d] := .cons h .nil
theorem DqA.tk : ∀ {ds : List PyData} {vs : List V} (n : Nat), DqA K H vs ds → DqA K H (vs.take n) (ds.take n)
  | [], _, n, h => by cases h; simp; exact .nil
  | _ :: _, _, 0, _ => by simp; exact .nil
  | _ :: _, _, n + 1, h => by cases h with | cons q r => exact .cons q (DqA.tk n r)
theorem DqA.dr : ∀ {ds : List PyData} {vs : List V} (n : Nat), DqA K H vs ds → DqA K H (vs.drop n) (ds.drop n)
  | [], _, n, h => by cases h; simp; exact .nil
  | _ :: _, _, 0, h => by simpa using h
  | _ :: _, _, n + 1, h => by cases h with | cons q r => exact DqA.dr n r
theorem DqA.st {v : V} {d : PyData} (k : Dq K H v d) : ∀ {ds : List PyData} {vs : List V} (n : Nat), DqA K H vs ds → DqA K H (vs.set n v) (ds.set n d)
  | [], _, n, h => by cases h; simp; exact .nil
  | _ :: _, _, 0, h => by cases h with | cons q r => exact .cons k r
  | _ :: _, _, n + 1, h => by cases h with | cons q r => exact .cons q (DqA.st k n r)
theorem DqA.ints : ∀ (ns : List Int), DqA K H (ns.map V.int) (ns.map PyData.int)
  | [] => .nil
  | n :: r => .cons (.int n) (DqA.ints r)
end

/-! ## the draws' source -/
structure Src where
  cells : List Int
  left : Int
  mixed : Int
  turn : Int
def SrcAt (H : Hp) (a c : Addr) (s : Src) : Prop :=
  H a = some (.dK [(.inr "cells", .ref c), (.inr "left", .int s.left), (.inr "mixed", .int s.mixed), (.inr "turn", .int s.turn)]) ∧ H c = some (.lst (s.cells.map V.int))

/-! ## environments -/
/-- a slot: unknown, a value that stays, a list of one's own, the draws' source -/
inductive Sl where
  | un
  | v (d : PyData)
  | own (ds : List PyData)
  | src (s : Src)
abbrev En := List Sl

def SlOk (K : PySem.W.Frag) (A : Option Addr) (G H : Hp) (x : Option V) : Sl → List Addr → Prop
  | .un, R => R = []
  | .v d, R => R = [] ∧ ∃ v, x = some v ∧ Dq K G v d
  | .own ds, R => ∃ a xs, R = [a] ∧ x = some (.ref a) ∧ H a = some (.lst xs) ∧ DqA K G xs ds
  | .src s, R => ∃ a c, R = [a, c] ∧ A = some a ∧ x = some (.ref a) ∧ SrcAt H a c s

/-- the slots' own objects, one slot changed -/
def Rg (R : Nat → List Addr) (i : Nat) (r : List Addr) : Nat → List Addr := fun j => if j = i then r else R j
theorem rg_same {R : Nat → List Addr} {i : Nat} {r : List Addr} : Rg R i r i = r := if_pos rfl
theorem rg_ne {R : Nat → List Addr} {i j : Nat} {r : List Addr} (h : j ≠ i) : Rg R i r j = R j := if_neg h
/-- F: what others own; G: what stays as it is; H: the whole -/
structure Rel (K : PySem.W.Frag) (A : Option Addr) (F G H : Hp) (ρ : En) (σ : L2.St) : Prop where
  gh : Same G H
  fh : Same F H
  fg : ∀ a o, F a = some o → G a = none
  len : ρ.length = σ.length
  rg : ∃ R : Nat → List Addr, (∀ i s, ρ[i]? = some s → ∃ x, σ[i]? = some x ∧ SlOk K A G H x s (R i)) ∧ (∀ i j a, a ∈ R i → a ∈ R j → i = j) ∧ (∀ i a, a ∈ R i → F a = none ∧ G a = none ∧ ∃ o, H a = some o)

section
variable {K : PySem.W.Frag} {A : Option Addr} {F G G' H H' : Hp} {ρ ρ' : En} {σ : L2.St} {p : Addr} {o : HO} {x : Option V} {s : Sl} {R : List Addr}
theorem same_new (h : H p = none) : Same H (upd H p o) := fun b u e => (upd_ne (ne_of_none e h)).trans e
theorem same_two {H1 : Hp} (h : Same G H1) : Same (upd G p o) (upd H1 p o) := fun b u e => by
  by_cases hb : b = p
  · subst hb
    rw [upd_same] at e ⊢
    exact e
  · rw [upd_ne hb] at e ⊢
    exact h b u e
theorem none_of (h : Same G H) (e : H p = none) : G p = none := h.free e
theorem SlOk.up (g : Same G G') (h : ∀ a ∈ R, H' a = H a) (k : SlOk K A G H x s R) : SlOk K A G' H' x s R := by
  cases s with
  | un => exact k
  | v d => obtain ⟨e, v, q, r⟩ := k; exact ⟨e, v, q, r.up g⟩
  | own ds =>
    obtain ⟨a, xs, e, q, r, t⟩ := k
    exact ⟨a, xs, e, q, (h a (by rw [e]; simp)).trans r, t.up g⟩
  | src s =>
    obtain ⟨a, c, e, q1, q, r, t⟩ := k
    exact ⟨a, c, e, q1, q, (h a (by rw [e]; simp)).trans r, (h c (by rw [e]; simp)).trans t⟩
/-- the general step: G grows, H changes away from the slots' own objects -/
theorem Rel.to {F' : Hp} (k : Rel K A F G H ρ σ) (g : Same G G') (gh : Same G' H') (fh : Same F' H') (fg : ∀ a o, F' a = some o → G' a = none)
    (ow : ∀ a o, F a = none → G a = none → H a = some o → H' a = some o) (fn : ∀ a, F a = none → G a = none → H a ≠ none → F' a = none ∧ G' a = none) : Rel K A F' G' H' ρ σ := by
  obtain ⟨R, r1, r2, r3⟩ := k.rg
  refine ⟨gh, fh, fg, k.len, R, fun i s h => ?_, r2, fun i a h => ?_⟩
  · obtain ⟨x, h1, h2⟩ := r1 i s h
    refine ⟨x, h1, h2.up g fun a ha => ?_⟩
    obtain ⟨f1, f2, o, f3⟩ := r3 i a ha
    rw [f3]
    exact ow a o f1 f2 f3
  · obtain ⟨f1, f2, o, f3⟩ := r3 i a h
    obtain ⟨g1, g2⟩ := fn a f1 f2 (by rw [f3]; simp)
    exact ⟨g1, g2, o, ow a o f1 f2 f3⟩
/-- a new object that stays -/
theorem Rel.new (k : Rel K A F G H ρ σ) (hp : H p = none) : Rel K A F (upd G p o) (upd H p o) ρ σ :=
  k.to (same_new (none_of k.gh hp)) (same_two k.gh) (k.fh.trans (same_new hp)) (fun a u e => by
    rw [upd_ne (ne_of_none (k.fh _ _ e) hp)]
    exact k.fg a u e) (fun a u _ _ e => same_new hp _ _ e) fun a f g e => ⟨f, by
      have : a ≠ p := fun z => e (z ▸ hp)
      rw [upd_ne this]
      exact g⟩
/-- a new object of no one's -/
theorem Rel.newF (k : Rel K A F G H ρ σ) (hp : H p = none) : Rel K A (upd F p o) G (upd H p o) ρ σ :=
  k.to (Same.refl G) (k.gh.trans (same_new hp)) (same_two k.fh) (fun a u e => by
    by_cases ha : a = p
    · subst ha
      exact none_of k.gh hp
    · rw [upd_ne ha] at e
      exact k.fg a u e) (fun a u _ _ e => same_new hp _ _ e) fun a f g e => ⟨by
      have : a ≠ p := fun z => e (z ▸ hp)
      rw [upd_ne this]
      exact f, g⟩
/-- what is no one's is to stay -/
theorem Rel.keepF (k : Rel K A (upd F p o) G H ρ σ) (hf : F p = none) : Rel K A F (upd G p o) H ρ σ := by
  have hp : H p = some o := k.fh p o upd_same
  have gp : G p = none := k.fg p o upd_same
  refine k.to (same_new gp) (fun b u e => ?_) (fun b u e => ?_) (fun a u e => ?_) (fun a u _ _ e => e) fun a f g e => ?_
  · by_cases hb : b = p
    · subst hb
      rw [upd_same] at e
      exact hp.trans e
    · rw [upd_ne hb] at e
      exact k.gh b u e
  · refine k.fh b u ?_
    rw [upd_ne (ne_of_none e hf)]
    exact e
  · have : a ≠ p := ne_of_none e hf
    rw [upd_ne this]
    refine k.fg a u ?_
    rw [upd_ne this]
    exact e
  · have : a ≠ p := fun z => by
      subst z
      rw [upd_same] at f
      cases f
    rw [upd_ne this] at f ⊢
    exact ⟨f, g⟩
/-- an object of no one's changes -/
theorem Rel.chgF {o' : HO} (k : Rel K A (upd F p o) G H ρ σ) : Rel K A (upd F p o') G (upd H p o') ρ σ := by
  have gp : G p = none := k.fg p o upd_same
  refine k.to (Same.refl G) (fun b u e => ?_) (fun b u e => ?_) (fun a u e => ?_) (fun a u f g e => ?_) fun a f g e => ?_
  · rw [upd_ne (ne_of_none e gp)]
    exact k.gh b u e
  · by_cases hb : b = p
    · subst hb
      rw [upd_same] at e ⊢
      exact e
    · rw [upd_ne hb] at e ⊢
      refine k.fh b u ?_
      rw [upd_ne hb]
      exact e
  · by_cases ha : a = p
    · subst ha
      exact gp
    · rw [upd_ne ha] at e
      refine k.fg a u ?_
      rw [upd_ne ha]
      exact e
  · have : a ≠ p := fun z => by
      subst z
      rw [upd_same] at f
      cases f
    rw [upd_ne this]
    exact e
  · have : a ≠ p := fun z => by
      subst z
      rw [upd_same] at f
      cases f
    rw [upd_ne this] at f ⊢
    exact ⟨f, g⟩
/-- what no one needs is forgotten -/
theorem Rel.dropF (k : Rel K A (upd F p o) G H ρ σ) (hf : F p = none) : Rel K A F G H ρ σ := by
  have gp : G p = none := k.fg p o upd_same
  refine k.to (Same.refl G) k.gh (fun b u e => k.fh b u ?_) (fun a u e => k.fg a u ?_) (fun a u f g e => e) fun a f g e => ?_
  · rw [upd_ne (ne_of_none e hf)]
    exact e
  · rw [upd_ne (ne_of_none e hf)]
    exact e
  · by_cases ha : a = p
    · subst ha
      exact ⟨hf, gp⟩
    · rw [upd_ne ha] at f
      exact ⟨f, g⟩
theorem Rel.at (k : Rel K A F G H ρ σ) {i : Nat} {d : PyData} (h : ρ[i]? = some (.v d)) : ∃ v, σ[i]? = some (some v) ∧ Dq K G v d := by
  obtain ⟨R, r1, _⟩ := k.rg
  obtain ⟨x, h1, _, v, rfl, h2⟩ := r1 i _ h
  exact ⟨v, h1, h2⟩
theorem Rel.atOwn (k : Rel K A F G H ρ σ) {i : Nat} {ds : List PyData} (h : ρ[i]? = some (.own ds)) : ∃ a xs, σ[i]? = some (some (.ref a)) ∧ H a = some (.lst xs) ∧ DqA K G xs ds ∧ F a = none ∧ G a = none := by
  obtain ⟨R, r1, _, r3⟩ := k.rg
  obtain ⟨x, h1, a, xs, e, rfl, h2, h3⟩ := r1 i _ h
  obtain ⟨f1, f2, _⟩ := r3 i a (by rw [e]; simp)
  exact ⟨a, xs, h1, h2, h3, f1, f2⟩
/-- a slot is set -/
theorem Rel.put (k : Rel K A F G H ρ σ) {i : Nat} {y : Option V} {t : Sl} (h : SlOk K A G H y t []) : Rel K A F G H (ρ.set i t) (σ.set i y) := by
  obtain ⟨R, r1, r2, r3⟩ := k.rg
  refine ⟨k.gh, k.fh, k.fg, by simp [k.len], Rg R i [], fun j u e => ?_, fun j l a e1 e2 => ?_, fun j a e => ?_⟩
  · by_cases hj : j = i
    · subst hj
      rw [rg_same]
      rw [List.getElem?_set_self'] at e ⊢
      have hl := k.len
      by_cases hlt : j < ρ.length
      · rw [List.getElem?_eq_getElem hlt] at e
        rw [List.getElem?_eq_getElem (by omega)]
        simp at e ⊢
        exact e ▸ h
      · rw [List.getElem?_eq_none (by omega)] at e
        simp at e
    · rw [rg_ne hj]
      rw [List.getElem?_set_ne (Ne.symm hj)] at e ⊢
      exact r1 j u e
  · by_cases hj : j = i
    · rw [hj, rg_same] at e1
      cases e1
    · rw [rg_ne hj] at e1
      by_cases hl : l = i
      · rw [hl, rg_same] at e2
        cases e2
      · rw [rg_ne hl] at e2
        exact r2 j l a e1 e2
  · by_cases hj : j = i
    · rw [hj, rg_same] at e
      cases e
    · rw [rg_ne hj] at e
      exact r3 j a e
theorem Rel.putV (k : Rel K A F G H ρ σ) (i : Nat) {v : V} {d : PyData} (h : Dq K G v d) : Rel K A F G H (ρ.set i (.v d)) (σ.set i (some v)) := k.put ⟨rfl, v, rfl, h⟩
theorem Rel.putU (k : Rel K A F G H ρ σ) (i : Nat) (y : Option V) : Rel K A F G H (ρ.set i .un) (σ.set i y) := k.put rfl
/-- a list of no one's becomes the slot's own -/
theorem Rel.putOwn {a : Addr} {xs : List V} {ds : List PyData} (k : Rel K A (upd F a (.lst xs)) G H ρ σ) (hf : F a = none) (i : Nat) (h : DqA K G xs ds) : Rel K A F G H (ρ.set i (.own ds)) (σ.set i (some (.ref a))) := by
  have ha : H a = some (.lst xs) := k.fh a _ upd_same
  have ga : G a = none := k.fg a _ upd_same
  obtain ⟨R, r1, r2, r3⟩ := k.rg
  have nR : ∀ j, a ∉ R j := fun j z => by
    have := (r3 j a z).1
    rw [upd_same] at this
    cases this
  refine ⟨k.gh, (k.dropF hf).fh, (k.dropF hf).fg, by simp [k.len], Rg R i [a], fun j u e => ?_, fun j l b e1 e2 => ?_, fun j b e => ?_⟩
  · by_cases hj : j = i
    · subst hj
      rw [rg_same]
      rw [List.getElem?_set_self'] at e ⊢
      have hl := k.len
      by_cases hlt : j < ρ.length
      · rw [List.getElem?_eq_getElem hlt] at e
        rw [List.getElem?_eq_getElem (by omega)]
        simp at e ⊢
        subst e
        exact ⟨a, xs, rfl, rfl, ha, h⟩
      · rw [List.getElem?_eq_none (by omega)] at e
        simp at e
    · rw [rg_ne hj]
      rw [List.getElem?_set_ne (Ne.symm hj)] at e ⊢
      exact r1 j u e
  · by_cases hj : j = i
    · rw [hj, rg_same] at e1
      by_cases hl : l = i
      · rw [hj, hl]
      · rw [rg_ne hl] at e2
        have : b = a := by simpa using e1
        exact absurd (this ▸ e2) (nR l)
    · rw [rg_ne hj] at e1
      by_cases hl : l = i
      · rw [hl, rg_same] at e2
        have : b = a := by simpa using e2
        exact absurd (this ▸ e1) (nR j)
      · rw [rg_ne hl] at e2
        exact r2 j l b e1 e2
  · by_cases hj : j = i
    · rw [hj, rg_same] at e
      have : b = a := by simpa using e
      subst this
      exact ⟨hf, ga, _, ha⟩
    · rw [rg_ne hj] at e
      obtain ⟨f1, f2, f3⟩ := r3 j b e
      rw [upd_ne (show b ≠ a from fun z => nR j (z ▸ e))] at f1
      exact ⟨f1, f2, f3⟩
/-- a slot's own list changes -/
theorem Rel.chgOwn (k : Rel K A F G H ρ σ) {i : Nat} {a : Addr} {ds es : List PyData} {ys : List V} (h : ρ[i]? = some (.own ds)) (hσ : σ[i]? = some (some (.ref a))) (hy : DqA K G ys es) : Rel K A F G (upd H a (.lst ys)) (ρ.set i (.own es)) σ := by
  obtain ⟨R, r1, r2, r3⟩ := k.rg
  obtain ⟨x, h1, b, xs, eR, rfl, h2, h3⟩ := r1 i _ h
  have eb : b = a := by
    rw [hσ] at h1
    cases h1
    rfl
  subst eb
  have bR : b ∈ R i := by rw [eR]; simp
  obtain ⟨fb, gb, _⟩ := r3 i b bR
  refine ⟨fun c u e => ?_, fun c u e => ?_, k.fg, by simp [k.len], R, fun j u e => ?_, r2, fun j c e => ?_⟩
  · rw [upd_ne (ne_of_none e gb)]
    exact k.gh c u e
  · rw [upd_ne (ne_of_none e fb)]
    exact k.fh c u e
  · by_cases hj : j = i
    · subst hj
      rw [List.getElem?_set_self (List.getElem?_eq_some_iff.mp h).1] at e
      cases e
      exact ⟨_, h1, b, ys, eR, rfl, upd_same, hy⟩
    · rw [List.getElem?_set_ne (Ne.symm hj)] at e
      obtain ⟨x, q1, q2⟩ := r1 j u e
      refine ⟨x, q1, q2.up (Same.refl G) fun c hc => upd_ne fun z => hj ?_⟩
      exact r2 j i b (z ▸ hc) bR
  · obtain ⟨f1, f2, u, f3⟩ := r3 j c e
    by_cases hc : c = b
    · subst hc
      exact ⟨f1, f2, _, upd_same⟩
    · exact ⟨f1, f2, u, (upd_ne hc).trans f3⟩
/-- a slot's own list is to stay -/
theorem Rel.frz (k : Rel K A F G H ρ σ) {i : Nat} {ds : List PyData} (h : ρ[i]? = some (.own ds)) : ∃ G', Same G G' ∧ Rel K A F G' H (ρ.set i (.v (.list ds))) σ := by
  obtain ⟨R, r1, r2, r3⟩ := k.rg
  obtain ⟨x, h1, b, xs, eR, rfl, h2, h3⟩ := r1 i _ h
  have bR : b ∈ R i := by rw [eR]; simp
  obtain ⟨fb, gb, _⟩ := r3 i b bR
  have gg : Same G (upd G b (.lst xs)) := same_new gb
  refine ⟨upd G b (.lst xs), gg, fun c u e => ?_, k.fh, fun c u e => ?_, by simp [k.len], Rg R i [], fun j u e => ?_, fun j l c e1 e2 => ?_, fun j c e => ?_⟩
  · by_cases hc : c = b
    · subst hc
      rw [upd_same] at e
      exact h2.trans e
    · rw [upd_ne hc] at e
      exact k.gh c u e
  · rw [upd_ne (ne_of_none e fb)]
    exact k.fg c u e
  · by_cases hj : j = i
    · subst hj
      rw [List.getElem?_set_self (List.getElem?_eq_some_iff.mp h).1] at e
      cases e
      rw [rg_same]
      exact ⟨_, h1, rfl, _, rfl, .lst upd_same (h3.up gg)⟩
    · rw [List.getElem?_set_ne (Ne.symm hj)] at e
      rw [rg_ne hj]
      obtain ⟨x, q1, q2⟩ := r1 j u e
      exact ⟨x, q1, q2.up gg fun c hc => rfl⟩
  · by_cases hj : j = i
    · rw [hj, rg_same] at e1
      cases e1
    · rw [rg_ne hj] at e1
      by_cases hl : l = i
      · rw [hl, rg_same] at e2
        cases e2
      · rw [rg_ne hl] at e2
        exact r2 j l c e1 e2
  · by_cases hj : j = i
    · rw [hj, rg_same] at e
      cases e
    · rw [rg_ne hj] at e
      obtain ⟨f1, f2, f3⟩ := r3 j c e
      refine ⟨f1, ?_, f3⟩
      rw [upd_ne (show c ≠ b from fun z => hj (r2 j i b (z ▸ e) bR))]
      exact f2
end
end Fe
namespace Fe
open PySem PySem.Spec PyProof.Rows L2

/-! ## what an expression computes -/
abbrev EF := En → Option (PyData × En)
abbrev BF := En → Option (Bool × En)
abbrev LF := En → Option (List PyData × En)
/-- a value that stays -/
def FE (X : Cx) (e : Expr) (f : EF) : Prop := ∃ t, PE X e t ∧ ∀ ρ d ρ', f ρ = some (d, ρ') → ∀ A F G H σ Q, Rel X.K A F G H ρ σ →
  (∀ x G' H', Same G G' → Rel X.K A F G' H' ρ' σ → Dq X.K G' x d → Q x H') → t σ H Q
/-- a test -/
def FT (X : Cx) (e : Expr) (f : BF) : Prop := ∃ t, PT X e t ∧ ∀ ρ d ρ', f ρ = some (d, ρ') → ∀ A F G H σ Q, Rel X.K A F G H ρ σ →
  (∀ G' H', Same G G' → Rel X.K A F G' H' ρ' σ → Q d H') → t σ H Q
/-- a new list -/
def FL (X : Cx) (e : Expr) (f : LF) : Prop := ∃ t, PE X e t ∧ ∀ ρ ds ρ', f ρ = some (ds, ρ') → ∀ A F G H σ Q, Rel X.K A F G H ρ σ →
  (∀ a xs G' H', F a = none → Same G G' → Rel X.K A (upd F a (.lst xs)) G' H' ρ' σ → DqA X.K G' xs ds → xs.length ≤ sizeLine → Q (.ref a) H') → t σ H Q
/-- several values -/
def FA (X : Cx) (es : List Expr) (f : LF) : Prop := ∃ t, PA X es t ∧ ∀ ρ ds ρ', f ρ = some (ds, ρ') → ∀ A F G H σ Q, Rel X.K A F G H ρ σ →
  (∀ xs G' H', Same G G' → Rel X.K A F G' H' ρ' σ → DqA X.K G' xs ds → Q xs H') → t σ H Q
/-- a value to be read: a value that stays, or a list that may change later -/
def Dr (K : PySem.W.Frag) (G H : Hp) (x : V) (d : PyData) : Prop := Dq K G x d ∨ ∃ a xs ds, x = .ref a ∧ d = .list ds ∧ H a = some (.lst xs) ∧ DqA K G xs ds
inductive Rf where
  | val (d : PyData)
  | slot (i : Nat)
@[simp] def rdS : Option Sl → Option PyData
  | some (.v d) => some d
  | some (.own ds) => some (.list ds)
  | _ => none
@[simp] def Rf.get (ρ : En) : Rf → Option PyData
  | .val d => some d
  | .slot i => rdS ρ[i]?
def RfOk (K : PySem.W.Frag) (G : Hp) (σ : L2.St) (x : V) : Rf → Prop
  | .val d => Dq K G x d
  | .slot i => σ[i]? = some (some x)
theorem RfOk.up {K : PySem.W.Frag} {G G' : Hp} {σ : L2.St} {x : V} {r : Rf} (h : RfOk K G σ x r) (s : Same G G') : RfOk K G' σ x r := by
  cases r with
  | val d => exact Dq.up s h
  | slot i => exact h
theorem RfOk.dr {K : PySem.W.Frag} {A : Option Addr} {F G H : Hp} {ρ : En} {σ : L2.St} {x : V} {r : Rf} {d : PyData} (h : RfOk K G σ x r) (R : Rel K A F G H ρ σ) (e : r.get ρ = some d) : Dr K G H x d := by
  cases r with
  | val d' =>
    cases e
    exact Or.inl h
  | slot i =>
    have h' : σ[i]? = some (some x) := h
    have e' : rdS ρ[i]? = some d := e
    unfold rdS at e'
    split at e'
    · rename_i d' q
      cases e'
      obtain ⟨v, h1, h2⟩ := R.at q
      rw [h'] at h1
      cases h1
      exact Or.inl h2
    · rename_i ds q
      cases e'
      obtain ⟨a, xs, h1, h2, h3, _⟩ := R.atOwn q
      rw [h'] at h1
      cases h1
      exact Or.inr ⟨a, xs, ds, rfl, rfl, h2, h3⟩
    · cases e'
def FR (X : Cx) (e : Expr) (f : En → Option (Rf × En)) : Prop := ∃ t, PE X e t ∧ ∀ ρ d ρ', f ρ = some (d, ρ') → ∀ A F G H σ Q, Rel X.K A F G H ρ σ →
  (∀ x G' H', Same G G' → Rel X.K A F G' H' ρ' σ → RfOk X.K G' σ x d → Q x H') → t σ H Q

/-! ### the functions -/
@[simp] def fC (d : PyData) : EF := fun ρ => some (d, ρ)
@[simp] def fVar (i : Nat) : EF := fun ρ => match ρ[i]? with
  | some (.v d) => some (d, ρ)
  | _ => none
@[simp] def fRd (i : Nat) : En → Option (Rf × En) := fun ρ => match rdS ρ[i]? with
  | some _ => some (.slot i, ρ)
  | none => none
@[simp] def bnd {α β : Type} (x : Option (α × En)) (k : α → En → Option β) : Option β := match x with
  | none => none
  | some (a, ρ) => k a ρ
@[simp] def ret {α : Type} (ρ : En) : Option α → Option (α × En)
  | none => none
  | some a => some (a, ρ)
@[simp] def fOp (o : PyData → PyData → Option PyData) (f g : EF) : EF := fun ρ => bnd (f ρ) fun x ρ1 => bnd (g ρ1) fun y ρ2 => ret ρ2 (o x y)
@[simp] def fUn (o : PyData → Option PyData) (f : EF) : EF := fun ρ => bnd (f ρ) fun x ρ1 => ret ρ1 (o x)
@[simp] def fTst (f : EF) : BF := fun ρ => bnd (f ρ) fun x ρ1 => match x with
  | .bool b => some (b, ρ1)
  | _ => none
@[simp] def fNot (f : BF) : BF := fun ρ => bnd (f ρ) fun b ρ1 => some (!b, ρ1)
@[simp] def fAnd (f g : BF) : BF := fun ρ => bnd (f ρ) fun b ρ1 => if b = true then g ρ1 else some (false, ρ1)
@[simp] def fOr (f g : BF) : BF := fun ρ => bnd (f ρ) fun b ρ1 => if b = true then some (true, ρ1) else g ρ1
@[simp] def fIf {α : Type} (c : BF) (f g : En → Option α) : En → Option α := fun ρ => bnd (c ρ) fun b ρ1 => if b = true then f ρ1 else g ρ1
@[simp] def fBool (f : BF) : EF := fun ρ => bnd (f ρ) fun b ρ1 => some (.bool b, ρ1)
@[simp] def fNil : LF := fun ρ => some ([], ρ)
@[simp] def fCons (f : EF) (g : LF) : LF := fun ρ => bnd (f ρ) fun x ρ1 => bnd (g ρ1) fun xs ρ2 => some (x :: xs, ρ2)
@[simp] def fTup (f : LF) : EF := fun ρ => bnd (f ρ) fun xs ρ1 => if Nat.ble xs.length 16777216 = true then some (.tuple xs, ρ1) else none
@[simp] def fLst (f : LF) : LF := fun ρ => bnd (f ρ) fun xs ρ1 => if Nat.ble xs.length 16777216 = true then some (xs, ρ1) else none
@[simp] def fAsL (f : LF) : EF := fun ρ => bnd (f ρ) fun xs ρ1 => some (.list xs, ρ1)
@[simp] def fVal (f : EF) : En → Option (Rf × En) := fun ρ => bnd (f ρ) fun x ρ1 => some (.val x, ρ1)
theorem bnd_some {α β : Type} {x : Option (α × En)} {k : α → En → Option β} {b : β} (h : bnd x k = some b) : ∃ a ρ, x = some (a, ρ) ∧ k a ρ = some b := by
  unfold bnd at h
  split at h
  · cases h
  · exact ⟨_, _, rfl, h⟩
theorem ret_some {α : Type} {ρ ρ' : En} {o : Option α} {a : α} (h : ret ρ o = some (a, ρ')) : o = some a ∧ ρ = ρ' := by
  unfold ret at h
  split at h
  · cases h
  · cases h
    exact ⟨rfl, rfl⟩
theorem ble_line {n : Nat} (h : Nat.ble n 16777216 = true) : n ≤ sizeLine := by
  rw [sizeLine_eq]
  exact Nat.le_of_ble_eq_true h

section
variable {X : Cx} {e a b : Expr} {es : List Expr} {pos : Pos} {f g : EF} {c : BF} {l : LF}

theorem FE.rd (h : FE X e f) : FR X e (fVal f) := by
  obtain ⟨t, p, q⟩ := h
  refine ⟨t, p, fun ρ d ρ' h A F G H σ Q R k => ?_⟩
  obtain ⟨x, ρ1, h1, h2⟩ := bnd_some h
  cases h2
  exact q ρ x _ h1 A F G H σ Q R fun x G' H' s r z => k x G' H' s r z
/-- a new list is handed on: it stays -/
theorem FL.fe (h : FL X e l) : FE X e (fAsL l) := by
  obtain ⟨t, p, q⟩ := h
  refine ⟨t, p, fun ρ d ρ' h A F G H σ Q R k => ?_⟩
  obtain ⟨xs, ρ1, h1, h2⟩ := bnd_some h
  cases h2
  refine q ρ _ _ h1 A F G H σ Q R fun a xs G' H' fa s r z _ => ?_
  have g0 : G' a = none := r.fg a _ upd_same
  exact k _ _ H' (s.trans (same_new g0)) (r.keepF fa) (.lst upd_same (z.up (same_new g0)))
theorem fe_c {d : PyData} {v : V} (h : PE X e (tC v)) (hd : ∀ H, Dq X.K H v d) : FE X e (fC d) := by
  refine ⟨_, h, fun ρ d ρ' h A F G H σ Q R k => ?_⟩
  cases h
  exact k v G H (Same.refl G) R (hd G)
theorem fe_int {i : Int} {j} : FE X (.Constant (.int i) j pos) (fC (.int i)) := fe_c pe_int fun _ => .int i
theorem fe_bl {b : Bool} {j} : FE X (.Constant (.bool b) j pos) (fC (.bool b)) := fe_c pe_bl fun _ => .bl b
theorem fe_non {j} : FE X (.Constant .none j pos) (fC .none) := fe_c pe_non fun _ => .non
theorem fe_str {x : Str} {j} : FE X (.Constant (.str x) j pos) (fC (.str x)) := fe_c pe_str fun _ => .str x
theorem fe_v (i : Nat) (h : PE X e (tVar i)) : FE X e (fVar i) := by
  refine ⟨_, h, fun ρ d ρ' h A F G H σ Q R k => ?_⟩
  unfold fVar at h
  split at h
  · rename_i d' e
    cases h
    obtain ⟨v, h1, h2⟩ := R.at e
    exact ⟨v, h1, k v G H (Same.refl G) R h2⟩
  · cases h
theorem fr_v (i : Nat) (h : PE X e (tVar i)) : FR X e (fRd i) := by
  refine ⟨_, h, fun ρ d ρ' h A F G H σ Q R k => ?_⟩
  unfold fRd at h
  split at h
  · rename_i d' e
    cases h
    have : ∃ v, σ[i]? = some (some v) := by
      unfold rdS at e
      split at e
      · rename_i q
        obtain ⟨v, h1, _⟩ := R.at q
        exact ⟨v, h1⟩
      · rename_i q
        obtain ⟨a, xs, h1, _⟩ := R.atOwn q
        exact ⟨_, h1⟩
      · cases e
    obtain ⟨v, h1⟩ := this
    exact ⟨v, h1, k v G H (Same.refl G) R h1⟩
  · cases h

/-! ### operators -/
def OpF (K : PySem.W.Frag) (r : R2) (o : PyData → PyData → Option PyData) : Prop := ∀ x y d e c, o d e = some c → ∀ A F G H ρ σ Q, Rel K A F G H ρ σ → Dq K G x d → Dq K G y e →
  (∀ z G' H', Same G G' → Rel K A F G' H' ρ σ → Dq K G' z c → Q z H') → r x y H Q
def oOr (o o' : PyData → PyData → Option PyData) : PyData → PyData → Option PyData := fun d e => match o d e with
  | some c => some c
  | none => o' d e
theorem OpF.or {K : PySem.W.Frag} {r r' : R2} {o o' : PyData → PyData → Option PyData} (h : OpF K r o) (h' : OpF K r' o') : OpF K (fun x y H Q => r x y H Q ∨ r' x y H Q) (oOr o o') := by
  intro x y d e c q A F G H ρ σ Q R hx hy k
  unfold oOr at q
  split at q
  · cases q
    rename_i q
    exact Or.inl (h x y d e _ q A F G H ρ σ Q R hx hy k)
  · exact Or.inr (h' x y d e c q A F G H ρ σ Q R hx hy k)
theorem two {ta tb : TE} {r : R2} {o : PyData → PyData → Option PyData} (ho : OpF X.K r o)
    (ha : ∀ ρ d ρ', f ρ = some (d, ρ') → ∀ A F G H σ Q, Rel X.K A F G H ρ σ → (∀ x G' H', Same G G' → Rel X.K A F G' H' ρ' σ → Dq X.K G' x d → Q x H') → ta σ H Q)
    (hb : ∀ ρ d ρ', g ρ = some (d, ρ') → ∀ A F G H σ Q, Rel X.K A F G H ρ σ → (∀ x G' H', Same G G' → Rel X.K A F G' H' ρ' σ → Dq X.K G' x d → Q x H') → tb σ H Q) :
    ∀ ρ d ρ', fOp o f g ρ = some (d, ρ') → ∀ A F G H σ Q, Rel X.K A F G H ρ σ → (∀ x G' H', Same G G' → Rel X.K A F G' H' ρ' σ → Dq X.K G' x d → Q x H') → tOp r ta tb σ H Q := by
  intro ρ d ρ' h A F G H σ Q R k
  obtain ⟨x, ρ1, h1, h2⟩ := bnd_some h
  obtain ⟨y, ρ2, h3, h4⟩ := bnd_some h2
  obtain ⟨h5, rfl⟩ := ret_some h4
  refine ha ρ x ρ1 h1 A F G H σ _ R fun u G1 H1 s1 R1 d1 => ?_
  refine hb ρ1 y _ h3 A F G1 H1 σ _ R1 fun v G2 H2 s2 R2 d2 => ?_
  exact ho u v x y d h5 A F G2 H2 _ σ Q R2 (d1.up s2) d2 fun z G3 H3 s3 R3 d3 => k z G3 H3 ((s1.trans s2).trans s3) R3 d3
theorem fe_op {op : Operator} {r : R2} {o : PyData → PyData → Option PyData} (ho : OpR X (binaryOp op) r) (hf : OpF X.K r o) (ha : FE X a f) (hb : FE X b g) : FE X (.BinOp a op b pos) (fOp o f g) := by
  obtain ⟨ta, pa, qa⟩ := ha
  obtain ⟨tb, pb, qb⟩ := hb
  exact ⟨_, pe_op ho pa pb, two hf qa qb⟩
theorem fe_cmp {op : CmpOp} {r : R2} {o : PyData → PyData → Option PyData} (ho : OpR X (compareOp op) r) (hf : OpF X.K r o) (ha : FE X a f) (hb : FE X b g) (hm : behindInMarks op b = false) : FE X (.Compare a [op] [b] pos) (fOp o f g) := by
  obtain ⟨ta, pa, qa⟩ := ha
  obtain ⟨tb, pb, qb⟩ := hb
  exact ⟨_, pe_cmpR ho pa pb hm, two hf qa qb⟩
theorem tst {t : TE} (ha : ∀ ρ d ρ', f ρ = some (d, ρ') → ∀ A F G H σ Q, Rel X.K A F G H ρ σ → (∀ x G' H', Same G G' → Rel X.K A F G' H' ρ' σ → Dq X.K G' x d → Q x H') → t σ H Q) :
    ∀ ρ d ρ', fTst f ρ = some (d, ρ') → ∀ A F G H σ Q, Rel X.K A F G H ρ σ → (∀ G' H', Same G G' → Rel X.K A F G' H' ρ' σ → Q d H') → tTest t σ H Q := by
  intro ρ d ρ' h A F G H σ Q R k
  obtain ⟨x, ρ1, h1, h2⟩ := bnd_some h
  split at h2
  · cases h2
    refine ha ρ _ _ h1 A F G H σ _ R fun x G' H' s r z => ?_
    cases z
    exact ⟨_, rfl, k G' H' s r⟩
  · cases h2
theorem ft_cmp {op : CmpOp} {r : R2} {o : PyData → PyData → Option PyData} (ho : OpR X (compareOp op) r) (hf : OpF X.K r o) (ha : FE X a f) (hb : FE X b g) (hm : behindInMarks op b = false) : FT X (.Compare a [op] [b] pos) (fTst (fOp o f g)) := by
  obtain ⟨ta, pa, qa⟩ := ha
  obtain ⟨tb, pb, qb⟩ := hb
  exact ⟨_, pt_cmpR ho pa pb hm, tst (two hf qa qb)⟩
/-- a bool's value as a test -/
theorem ft_val (h : FE X e f) (he : ∀ whole, isTrue e X.env whole = (do let v ← whole; standAt e.pos; holding [v] (truthy v)) := by intro _; rfl) : FT X e (fTst f) := by
  obtain ⟨t, p, q⟩ := h
  refine ⟨_, pt_val p he, fun ρ d ρ' h A F G H σ Q R k => ?_⟩
  exact tst q ρ d ρ' h A F G H σ Q R k
theorem ft_not (h : FT X a c) : FT X (.UnaryOp .Not a pos) (fNot c) := by
  obtain ⟨t, p, q⟩ := h
  refine ⟨_, pt_not p, fun ρ d ρ' h A F G H σ Q R k => ?_⟩
  obtain ⟨x, ρ1, h1, h2⟩ := bnd_some h
  cases h2
  exact q ρ x _ h1 A F G H σ _ R fun G' H' s r => k G' H' s r
def FW (X : Cx) (e : Expr) (f : BF) : Prop := ∃ t, PW X e t ∧ ∀ ρ d ρ', f ρ = some (d, ρ') → ∀ A F G H σ Q, Rel X.K A F G H ρ σ →
  (∀ G' H', Same G G' → Rel X.K A F G' H' ρ' σ → Q d H') → t σ H Q
theorem FW.ft (h : FW X e c) : FT X e c := by
  obtain ⟨t, p, q⟩ := h
  exact ⟨t, p.pt, q⟩
variable {c1 c2 : BF} {rest : List Expr}
theorem fw_and1 (h : FT X a c) : FW X (.BoolOp .And [a] pos) c := by
  obtain ⟨t, p, q⟩ := h
  exact ⟨t, pw_and1 p, q⟩
theorem fw_or1 (h : FT X a c) : FW X (.BoolOp .Or [a] pos) c := by
  obtain ⟨t, p, q⟩ := h
  exact ⟨t, pw_or1 p, q⟩
theorem fw_and (h1 : FT X a c1) (h2 : FW X (.BoolOp .And (b :: rest) pos) c2) : FW X (.BoolOp .And (a :: b :: rest) pos) (fAnd c1 c2) := by
  obtain ⟨t, p, q⟩ := h1
  obtain ⟨t2, p2, q2⟩ := h2
  refine ⟨_, pw_and p p2, fun ρ d ρ' h A F G H σ Q R k => ?_⟩
  obtain ⟨x, ρ1, h3, h4⟩ := bnd_some h
  refine q ρ x _ h3 A F G H σ _ R fun G' H' s r => ?_
  cases x with
  | true => exact q2 _ _ _ h4 A F G' H' σ _ r fun G2 H2 s2 r2 => k G2 H2 (s.trans s2) r2
  | false =>
    cases h4
    exact k G' H' s r
theorem fw_or (h1 : FT X a c1) (h2 : FW X (.BoolOp .Or (b :: rest) pos) c2) : FW X (.BoolOp .Or (a :: b :: rest) pos) (fOr c1 c2) := by
  obtain ⟨t, p, q⟩ := h1
  obtain ⟨t2, p2, q2⟩ := h2
  refine ⟨_, pw_or p p2, fun ρ d ρ' h A F G H σ Q R k => ?_⟩
  obtain ⟨x, ρ1, h3, h4⟩ := bnd_some h
  refine q ρ x _ h3 A F G H σ _ R fun G' H' s r => ?_
  cases x with
  | true =>
    cases h4
    exact k G' H' s r
  | false => exact q2 _ _ _ h4 A F G' H' σ _ r fun G2 H2 s2 r2 => k G2 H2 (s.trans s2) r2
theorem fe_ifExp (hc : FT X e c) (ha : FE X a f) (hb : FE X b g) : FE X (.IfExp e a b pos) (fIf c f g) := by
  obtain ⟨t, p, q⟩ := hc
  obtain ⟨ta, pa, qa⟩ := ha
  obtain ⟨tb, pb, qb⟩ := hb
  refine ⟨_, pe_ifExp p pa pb, fun ρ d ρ' h A F G H σ Q R k => ?_⟩
  obtain ⟨x, ρ1, h3, h4⟩ := bnd_some h
  refine q ρ x _ h3 A F G H σ _ R fun G' H' s r => ?_
  cases x with
  | true => exact qa _ _ _ h4 A F G' H' σ _ r fun x G2 H2 s2 r2 => k x G2 H2 (s.trans s2) r2
  | false => exact qb _ _ _ h4 A F G' H' σ _ r fun x G2 H2 s2 r2 => k x G2 H2 (s.trans s2) r2

/-! ### values of bools: and, or, not -/
@[simp] def fAndV (f g : EF) : EF := fun ρ => bnd (f ρ) fun x ρ1 => match x with
  | .bool true => bnd (g ρ1) fun y ρ2 => match y with
    | .bool b => some (.bool b, ρ2)
    | _ => none
  | .bool false => some (.bool false, ρ1)
  | _ => none
@[simp] def fOrV (f g : EF) : EF := fun ρ => bnd (f ρ) fun x ρ1 => match x with
  | .bool true => some (.bool true, ρ1)
  | .bool false => bnd (g ρ1) fun y ρ2 => match y with
    | .bool b => some (.bool b, ρ2)
    | _ => none
  | _ => none
@[simp] def fNotV (f : EF) : EF := fun ρ => bnd (f ρ) fun x ρ1 => match x with
  | .bool b => some (.bool (!b), ρ1)
  | _ => none
theorem fe_one {op : BoolOp} (h : FE X a f) : FE X (.BoolOp op [a] pos) f := by
  obtain ⟨t, p, q⟩ := h
  exact ⟨t, pe_one p, q⟩
theorem fe_and (h1 : FE X a f) (h2 : FE X (.BoolOp .And (b :: rest) pos) g) : FE X (.BoolOp .And (a :: b :: rest) pos) (fAndV f g) := by
  obtain ⟨t, p, q⟩ := h1
  obtain ⟨t2, p2, q2⟩ := h2
  refine ⟨_, pe_and p p2, fun ρ d ρ' h A F G H σ Q R k => ?_⟩
  obtain ⟨x, ρ1, h3, h4⟩ := bnd_some h
  refine q ρ x _ h3 A F G H σ _ R fun y G' H' s r z => ?_
  split at h4
  · obtain ⟨u, ρ2, h5, h6⟩ := bnd_some h4
    cases z
    refine ⟨true, rfl, ?_⟩
    split at h6
    · cases h6
      exact q2 _ _ _ h5 A F G' H' σ _ r fun x G2 H2 s2 r2 => k x G2 H2 (s.trans s2) r2
    · cases h6
  · cases h4
    cases z
    exact ⟨false, rfl, k _ G' H' s r (.bl false)⟩
  · cases h4
theorem fe_or (h1 : FE X a f) (h2 : FE X (.BoolOp .Or (b :: rest) pos) g) : FE X (.BoolOp .Or (a :: b :: rest) pos) (fOrV f g) := by
  obtain ⟨t, p, q⟩ := h1
  obtain ⟨t2, p2, q2⟩ := h2
  refine ⟨_, pe_or p p2, fun ρ d ρ' h A F G H σ Q R k => ?_⟩
  obtain ⟨x, ρ1, h3, h4⟩ := bnd_some h
  refine q ρ x _ h3 A F G H σ _ R fun y G' H' s r z => ?_
  split at h4
  · cases h4
    cases z
    exact ⟨true, rfl, k _ G' H' s r (.bl true)⟩
  · obtain ⟨u, ρ2, h5, h6⟩ := bnd_some h4
    cases z
    refine ⟨false, rfl, ?_⟩
    split at h6
    · cases h6
      exact q2 _ _ _ h5 A F G' H' σ _ r fun x G2 H2 s2 r2 => k x G2 H2 (s.trans s2) r2
    · cases h6
  · cases h4
theorem fe_not (h1 : FE X a f) : FE X (.UnaryOp .Not a pos) (fNotV f) := by
  obtain ⟨t, p, q⟩ := h1
  refine ⟨_, pe_not p, fun ρ d ρ' h A F G H σ Q R k => ?_⟩
  obtain ⟨x, ρ1, h3, h4⟩ := bnd_some h
  refine q ρ x _ h3 A F G H σ _ R fun y G' H' s r z => ?_
  split at h4
  · cases h4
    cases z
    exact ⟨_, rfl, k _ G' H' s r (.bl _)⟩
  · cases h4

/-! ### argument lists, displays -/
theorem fa_nil : FA X [] fNil := by
  refine ⟨_, pa_nil, fun ρ d ρ' h A F G H σ Q R k => ?_⟩
  cases h
  exact k _ G H (Same.refl G) R .nil
theorem fa_cons (h1 : FE X e f) (h2 : FA X es l) (hs : starEach (e :: es) X.env = (false, eval e X.env) :: starEach es X.env := by rfl) : FA X (e :: es) (fCons f l) := by
  obtain ⟨t, p, q⟩ := h1
  obtain ⟨t2, p2, q2⟩ := h2
  refine ⟨_, pa_cons p p2 hs, fun ρ d ρ' h A F G H σ Q R k => ?_⟩
  obtain ⟨x, ρ1, h3, h4⟩ := bnd_some h
  obtain ⟨xs, ρ2, h5, h6⟩ := bnd_some h4
  cases h6
  refine q ρ x _ h3 A F G H σ _ R fun y G' H' s r z => ?_
  exact q2 _ _ _ h5 A F G' H' σ _ r fun ys G2 H2 s2 r2 z2 => k _ G2 H2 (s.trans s2) r2 (.cons (z.up s2) z2)
theorem fe_tup {x1} (h : FA X es l) : FE X (.Tuple es x1 pos) (fTup l) := by
  obtain ⟨t, p, q⟩ := h
  refine ⟨_, pe_tup p, fun ρ d ρ' h A F G H σ Q R k => ?_⟩
  obtain ⟨xs, ρ1, h3, h4⟩ := bnd_some h
  split at h4
  · rename_i hz
    cases h4
    refine q ρ xs _ h3 A F G H σ _ R fun ys G' H' s r z => ⟨?_, fun p hp => ?_⟩
    · rw [z.len]
      exact ble_line hz
    · have g0 := none_of r.gh hp
      exact k _ _ _ (s.trans (same_new g0)) (r.new hp) (.tup (Or.inl (Or.inl upd_same)) (z.up (same_new g0)))
  · cases h4
theorem fl_lst (h : FA X es l) : FL X (.List es pos) (fLst l) := by
  obtain ⟨t, p, q⟩ := h
  refine ⟨_, pe_lst p, fun ρ d ρ' h A F G H σ Q R k => ?_⟩
  obtain ⟨xs, ρ1, h3, h4⟩ := bnd_some h
  split at h4
  · rename_i hz
    cases h4
    have hz' := ble_line hz
    refine q ρ _ _ h3 A F G H σ _ R fun ys G' H' s r z => ⟨by rw [z.len]; exact hz', fun p hp => ?_⟩
    exact k p ys G' _ (none_of r.fh hp) s (r.newF hp) z (by rw [z.len]; exact hz')
  · cases h4
end
end Fe
namespace Fe
open PySem PySem.Spec PyProof.Rows L2

/-! ## values: operators -/
@[simp] def oI (f : Int → Int → PyData) : PyData → PyData → Option PyData
  | .int i, .int j => some (f i j)
  | _, _ => none
@[simp] def oIc (c : Int → Int → Bool) (f : Int → Int → PyData) : PyData → PyData → Option PyData
  | .int i, .int j => if c i j = true then some (f i j) else none
  | _, _ => none
section
variable {K : PySem.W.Frag}
theorem of_I0 {g : Int → Int → V} {f : Int → Int → PyData} (h : ∀ i j H, Dq K H (g i j) (f i j)) : OpF K (rI0 g) (oI f) := by
  intro x y d e c q A F G H ρ σ Q R hx hy k
  unfold oI at q
  split at q
  · cases q
    cases hx
    cases hy
    exact ⟨_, _, rfl, rfl, k _ G H (Same.refl G) R (h _ _ _)⟩
  · cases q
theorem of_I {C : Int → Int → Prop} {cb : Int → Int → Bool} {g : Int → Int → V} {f : Int → Int → PyData} (hc : ∀ i j, cb i j = true → C i j) (h : ∀ i j H, Dq K H (g i j) (f i j)) : OpF K (rI C g) (oIc cb f) := by
  intro x y d e c q A F G H ρ σ Q R hx hy k
  unfold oIc at q
  split at q
  · split at q
    · rename_i hcc
      cases q
      cases hx
      cases hy
      exact ⟨_, _, rfl, rfl, hc _ _ hcc, k _ G H (Same.refl G) R (h _ _ _)⟩
    · cases q
  · cases q
end
abbrev oAdd := oI fun i j => .int (i + j)
abbrev oSub := oI fun i j => .int (i - j)
abbrev oLt := oI fun i j => .bool (decide (i < j))
abbrev oLe := oI fun i j => .bool (decide (i ≤ j))
abbrev oGt := oI fun i j => .bool (decide (j < i))
abbrev oGe := oI fun i j => .bool (decide (j ≤ i))
def mulOk (i j : Int) : Bool := Nat.blt (i.natAbs.log2 + j.natAbs.log2) 1000000
def divOk (j : Int) : Bool := decide (0 < j) && Nat.blt j.natAbs.log2 9000
def modOk (j : Int) : Bool := decide (0 < j)
abbrev oMul := oIc mulOk fun i j => .int (i * j)
abbrev oDiv := oIc (fun _ j => divOk j) fun i j => .int (i / j)
abbrev oMod := oIc (fun _ j => modOk j) fun i j => .int (i % j)
section
variable {X : Cx} {e a b : Expr} {pos : Pos} {f g : EF}
theorem fe_add (ha : FE X a f) (hb : FE X b g) : FE X (.BinOp a .Add b pos) (fOp oAdd f g) := fe_op op_add (of_I0 fun i j _ => .int _) ha hb
theorem fe_sub (ha : FE X a f) (hb : FE X b g) : FE X (.BinOp a .Sub b pos) (fOp oSub f g) := fe_op op_sub (of_I0 fun i j _ => .int _) ha hb
theorem fe_mul (ha : FE X a f) (hb : FE X b g) : FE X (.BinOp a .Mult b pos) (fOp oMul f g) := fe_op op_mulW (of_I (fun i j h => Nat.le_of_ble_eq_true h) fun i j _ => .int _) ha hb
theorem fe_fdiv (ha : FE X a f) (hb : FE X b g) : FE X (.BinOp a .FloorDiv b pos) (fOp oDiv f g) := fe_op op_fdivW (of_I (fun i j h => by
  have h' := Bool.and_eq_true_iff.mp h
  exact ⟨of_decide_eq_true h'.1, Nat.le_of_ble_eq_true h'.2⟩) fun i j _ => .int _) ha hb
theorem fe_mod (ha : FE X a f) (hb : FE X b g) : FE X (.BinOp a .Mod b pos) (fOp oMod f g) := fe_op op_mod (of_I (fun i j h => of_decide_eq_true h) fun i j _ => .int _) ha hb
theorem fe_lt (ha : FE X a f) (hb : FE X b g) : FE X (.Compare a [.Lt] [b] pos) (fOp oLt f g) := fe_cmp op_lt (of_I0 fun i j _ => .bl _) ha hb (nobehind _ (by decide) (by decide))
theorem fe_le (ha : FE X a f) (hb : FE X b g) : FE X (.Compare a [.LtE] [b] pos) (fOp oLe f g) := fe_cmp op_le (of_I0 fun i j _ => .bl _) ha hb (nobehind _ (by decide) (by decide))
theorem fe_gt (ha : FE X a f) (hb : FE X b g) : FE X (.Compare a [.Gt] [b] pos) (fOp oGt f g) := fe_cmp op_gt (of_I0 fun i j _ => .bl _) ha hb (nobehind _ (by decide) (by decide))
theorem fe_ge (ha : FE X a f) (hb : FE X b g) : FE X (.Compare a [.GtE] [b] pos) (fOp oGe f g) := fe_cmp op_ge (of_I0 fun i j _ => .bl _) ha hb (nobehind _ (by decide) (by decide))
theorem ft_lt (ha : FE X a f) (hb : FE X b g) : FT X (.Compare a [.Lt] [b] pos) (fTst (fOp oLt f g)) := ft_cmp op_lt (of_I0 fun i j _ => .bl _) ha hb (nobehind _ (by decide) (by decide))
theorem ft_le (ha : FE X a f) (hb : FE X b g) : FT X (.Compare a [.LtE] [b] pos) (fTst (fOp oLe f g)) := ft_cmp op_le (of_I0 fun i j _ => .bl _) ha hb (nobehind _ (by decide) (by decide))
theorem ft_gt (ha : FE X a f) (hb : FE X b g) : FT X (.Compare a [.Gt] [b] pos) (fTst (fOp oGt f g)) := ft_cmp op_gt (of_I0 fun i j _ => .bl _) ha hb (nobehind _ (by decide) (by decide))
theorem ft_ge (ha : FE X a f) (hb : FE X b g) : FT X (.Compare a [.GtE] [b] pos) (fTst (fOp oGe f g)) := ft_cmp op_ge (of_I0 fun i j _ => .bl _) ha hb (nobehind _ (by decide) (by decide))
@[simp] def oNeg : PyData → Option PyData
  | .int i => some (.int (-i))
  | _ => none
theorem fe_neg (ha : FE X a f) : FE X (.UnaryOp .USub a pos) (fUn oNeg f) := by
  obtain ⟨t, p, q⟩ := ha
  refine ⟨_, pe_un un_neg p, fun ρ d ρ' h A F G H σ Q R k => ?_⟩
  obtain ⟨x, ρ1, h1, h2⟩ := bnd_some h
  obtain ⟨h3, rfl⟩ := ret_some h2
  refine q ρ x _ h1 A F G H σ _ R fun y G' H' s r z => ?_
  unfold oNeg at h3
  split at h3
  · cases h3
    cases z
    exact ⟨_, rfl, k _ G' H' s r (.int _)⟩
  · cases h3
/-! ### == and != -/
def oEq (d e : PyData) : Option PyData := if (SeqAt.shaped d && SeqAt.shaped e) = true then some (.bool (PyData.eqv d e)) else none
def oNe (d e : PyData) : Option PyData := if (SeqAt.shaped d && SeqAt.shaped e) = true then some (.bool (!PyData.eqv d e)) else none
theorem of_eq {K : PySem.W.Frag} : OpF K (rEqD K) oEq := by
  intro x y d e c q A F G H ρ σ Q R hx hy k
  unfold oEq at q
  split at q
  · rename_i hs
    cases q
    have hs' := Bool.and_eq_true_iff.mp hs
    exact ⟨d, e, (hx.up R.gh).dp, (hy.up R.gh).dp, hs'.1, hs'.2, k _ G H (Same.refl G) R (.bl _)⟩
  · cases q
theorem of_ne {K : PySem.W.Frag} : OpF K (rNeD K) oNe := by
  intro x y d e c q A F G H ρ σ Q R hx hy k
  unfold oNe at q
  split at q
  · rename_i hs
    cases q
    have hs' := Bool.and_eq_true_iff.mp hs
    exact ⟨d, e, (hx.up R.gh).dp, (hy.up R.gh).dp, hs'.1, hs'.2, k _ G H (Same.refl G) R (.bl _)⟩
  · cases q
theorem fe_eq (hu : X.A.units + 64 < cLine) (ha : FE X a f) (hb : FE X b g) : FE X (.Compare a [.Eq] [b] pos) (fOp oEq f g) := fe_cmp (op_eqD hu) of_eq ha hb (nobehind _ (by decide) (by decide))
theorem fe_ne (hu : X.A.units + 64 < cLine) (ha : FE X a f) (hb : FE X b g) : FE X (.Compare a [.NotEq] [b] pos) (fOp oNe f g) := fe_cmp (op_neD hu) of_ne ha hb (nobehind _ (by decide) (by decide))
theorem ft_eq (hu : X.A.units + 64 < cLine) (ha : FE X a f) (hb : FE X b g) : FT X (.Compare a [.Eq] [b] pos) (fTst (fOp oEq f g)) := ft_cmp (op_eqD hu) of_eq ha hb (nobehind _ (by decide) (by decide))
theorem ft_ne (hu : X.A.units + 64 < cLine) (ha : FE X a f) (hb : FE X b g) : FT X (.Compare a [.NotEq] [b] pos) (fTst (fOp oNe f g)) := ft_cmp (op_neD hu) of_ne ha hb (nobehind _ (by decide) (by decide))
/-! ### is None -/
@[simp] def oIsN : PyData → Option PyData
  | .none => some (.bool true)
  | _ => some (.bool false)
@[simp] def oNotN : PyData → Option PyData
  | .none => some (.bool false)
  | _ => some (.bool true)
theorem fe_isN {j pos'} (ha : FE X a f) : FE X (.Compare a [.Is] [.Constant .none j pos'] pos) (fUn oIsN f) := by
  obtain ⟨t, p, q⟩ := ha
  refine ⟨_, pe_cmp (pc_isN p), fun ρ d ρ' h A F G H σ Q R k => ?_⟩
  obtain ⟨x, ρ1, h1, h2⟩ := bnd_some h
  obtain ⟨h3, rfl⟩ := ret_some h2
  refine q ρ x _ h1 A F G H σ _ R fun y G' H' s r z => ?_
  cases z <;> (cases h3; exact k _ G' H' s r (.bl _))
theorem fe_notN {j pos'} (ha : FE X a f) : FE X (.Compare a [.IsNot] [.Constant .none j pos'] pos) (fUn oNotN f) := by
  obtain ⟨t, p, q⟩ := ha
  refine ⟨_, pe_cmp (pc_notN p), fun ρ d ρ' h A F G H σ Q R k => ?_⟩
  obtain ⟨x, ρ1, h1, h2⟩ := bnd_some h
  obtain ⟨h3, rfl⟩ := ret_some h2
  refine q ρ x _ h1 A F G H σ _ R fun y G' H' s r z => ?_
  cases z <;> (cases h3; exact k _ G' H' s r (.bl _))
theorem ft_isN {j pos'} (ha : FE X a f) : FT X (.Compare a [.Is] [.Constant .none j pos'] pos) (fTst (fUn oIsN f)) := by
  obtain ⟨t, p, q⟩ := ha
  refine ⟨_, pt_cmp (pc_isN p), tst fun ρ d ρ' h A F G H σ Q R k => ?_⟩
  obtain ⟨x, ρ1, h1, h2⟩ := bnd_some h
  obtain ⟨h3, rfl⟩ := ret_some h2
  refine q ρ x _ h1 A F G H σ _ R fun y G' H' s r z => ?_
  cases z <;> (cases h3; exact k _ G' H' s r (.bl _))
theorem ft_notN {j pos'} (ha : FE X a f) : FT X (.Compare a [.IsNot] [.Constant .none j pos'] pos) (fTst (fUn oNotN f)) := by
  obtain ⟨t, p, q⟩ := ha
  refine ⟨_, pt_cmp (pc_notN p), tst fun ρ d ρ' h A F G H σ Q R k => ?_⟩
  obtain ⟨x, ρ1, h1, h2⟩ := bnd_some h
  obtain ⟨h3, rfl⟩ := ret_some h2
  refine q ρ x _ h1 A F G H σ _ R fun y G' H' s r z => ?_
  cases z <;> (cases h3; exact k _ G' H' s r (.bl _))

/-! ### items -/
/-- the place of an index -/
def ixD (ds : List PyData) (i : Int) : Option PyData := match i with
  | .ofNat n => ds[n]?
  | .negSucc n => if Nat.blt n ds.length = true then ds[ds.length - (n + 1)]? else none
theorem ixD_at {K : PySem.W.Frag} {H : Hp} {vs : List V} {ds : List PyData} {i : Int} {d : PyData} (h : DqA K H vs ds) (k : ixD ds i = some d) : ∃ v, atI vs i = some v ∧ Dq K H v d := by
  have hl := h.len
  unfold ixD at k
  split at k
  · rename_i n
    obtain ⟨v, h1, h2⟩ := h.get k
    refine ⟨v, ?_, h2⟩
    have hn : n < vs.length := (List.getElem?_eq_some_iff.mp h1).1
    unfold atI ixN
    rw [if_pos (show (0 : Int) ≤ Int.ofNat n from Int.natCast_nonneg n), if_pos (show Int.ofNat n < (vs.length : Int) from Int.ofNat_lt.mpr hn)]
    exact h1
  · rename_i n
    split at k
    · rename_i hn
      have hn : n + 1 ≤ ds.length := Nat.le_of_ble_eq_true hn
      obtain ⟨v, h1, h2⟩ := h.get k
      refine ⟨v, ?_, h2⟩
      unfold atI ixN
      rw [if_neg (by omega), if_pos (by omega)]
      have e : (Int.negSucc n + (vs.length : Int)).toNat = ds.length - (n + 1) := by omega
      show (some (Int.negSucc n + (vs.length : Int)).toNat).bind (fun j => vs[j]?) = some v
      rw [e]
      exact h1
    · cases k
@[simp] def oIx : PyData → PyData → Option PyData
  | .list ds, .int i => ixD ds i
  | .tuple ds, .int i => ixD ds i
  | _, _ => none
@[simp] def fIx (f : En → Option (Rf × En)) (g : EF) : EF := fun ρ => bnd (f ρ) fun r ρ1 => bnd (g ρ1) fun y ρ2 => match r.get ρ2 with
  | some x => ret ρ2 (oIx x y)
  | none => none
theorem Dr.sq {K : PySem.W.Frag} {G H : Hp} {x : V} {ds : List PyData} (g : Same G H) (h : Dr K G H x (.list ds)) : ∃ a xs, x = .ref a ∧ H a = some (.lst xs) ∧ DqA K G xs ds := by
  rcases h with h | ⟨a, xs, es, e1, e2, h1, h2⟩
  · cases h with | lst q r => exact ⟨_, _, rfl, g _ _ q, r⟩
  · cases e2
    exact ⟨a, xs, e1, h1, h2⟩
theorem Dr.st {K : PySem.W.Frag} {G H : Hp} {x : V} {ds : List PyData} (g : Same G H) (h : Dr K G H x (.tuple ds)) : ∃ a xs, x = .ref a ∧ SqT K H a xs ∧ DqA K G xs ds := by
  rcases h with h | ⟨a, xs, es, e1, e2, h1, h2⟩
  · cases h with | tup q r => exact ⟨_, _, rfl, sqT_up g q, r⟩
  · cases e2
theorem fe_ix {r : En → Option (Rf × En)} (ha : FR X a r) (hb : FE X b g) (hs : PlainIx b := by exact fun _ _ => rfl) : FE X (.Subscript a b pos) (fIx r g) := by
  obtain ⟨ta, pa, qa⟩ := ha
  obtain ⟨tb, pb, qb⟩ := hb
  refine ⟨_, pe_ix ix_seq pa pb hs, fun ρ d ρ' h A F G H σ Q R k => ?_⟩
  obtain ⟨u, ρ1, h1, h2⟩ := bnd_some h
  obtain ⟨y, ρ2, h3, h4⟩ := bnd_some h2
  refine qa ρ u ρ1 h1 A F G H σ _ R fun x G1 H1 s1 R1 z1 => ?_
  refine qb ρ1 y ρ2 h3 A F G1 H1 σ _ R1 fun w G2 H2 s2 R2 z2 => ?_
  split at h4
  · rename_i dx hx
    obtain ⟨h5, rfl⟩ := ret_some h4
    have z3 := (z1.up s2).dr R2 hx
    unfold oIx at h5
    split at h5
    · cases z2
      obtain ⟨p, xs, e1, q1, q2⟩ := z3.sq R2.gh
      obtain ⟨v, q3, q4⟩ := ixD_at q2 h5
      exact Or.inl ⟨p, xs, _, v, e1, rfl, Or.inl (Or.inl q1), q3, k v G2 H2 (s1.trans s2) R2 q4⟩
    · cases z2
      obtain ⟨p, xs, e1, q1, q2⟩ := z3.st R2.gh
      obtain ⟨v, q3, q4⟩ := ixD_at q2 h5
      exact Or.inr (Or.inl ⟨p, xs, _, v, e1, rfl, q1, q3, k v G2 H2 (s1.trans s2) R2 q4⟩)
    · cases h5
  · cases h4

/-! ### built-ins of one value that is read -/
/-- what a built-in makes of a value -/
@[simp] def fR1 (o : PyData → Option PyData) (f : En → Option (Rf × En)) : EF := fun ρ => bnd (f ρ) fun r ρ1 => match r.get ρ1 with
  | some x => ret ρ1 (o x)
  | none => none
theorem fe_r1 {r : En → Option (Rf × En)} {cr : List V → Hp → VK → Prop} {o : PyData → Option PyData} {e' : Expr} (mk : ∀ t, PE X a t → PE X e' (tCB cr (tCons t tNil))) (ha : FR X a r)
    (hr : ∀ x d c, o d = some c → ∀ A F G H ρ σ Q, Rel X.K A F G H ρ σ → Dr X.K G H x d → (∀ z G' H', Same G G' → Rel X.K A F G' H' ρ σ → Dq X.K G' z c → Q z H') → cr [x] H Q) : FE X e' (fR1 o r) := by
  obtain ⟨ta, pa, qa⟩ := ha
  refine ⟨_, mk _ pa, fun ρ d ρ' h A F G H σ Q R k => ?_⟩
  obtain ⟨u, ρ1, h1, h2⟩ := bnd_some h
  refine qa ρ u ρ1 h1 A F G H σ _ R fun x G1 H1 s1 R1 z1 => ?_
  split at h2
  · rename_i dx hx
    obtain ⟨h5, rfl⟩ := ret_some h2
    exact hr x dx d h5 A F G1 H1 _ σ Q R1 (z1.dr R1 hx) fun z G' H' s r w => k z G' H' (s1.trans s) r w
  · cases h2
/-- .. a new list -/
@[simp] def fR1L (o : PyData → Option (List PyData)) (f : En → Option (Rf × En)) : LF := fun ρ => bnd (f ρ) fun r ρ1 => match r.get ρ1 with
  | some x => ret ρ1 (o x)
  | none => none
theorem fl_r1 {r : En → Option (Rf × En)} {cr : List V → Hp → VK → Prop} {o : PyData → Option (List PyData)} {e' : Expr} (mk : ∀ t, PE X a t → PE X e' (tCB cr (tCons t tNil))) (ha : FR X a r)
    (hr : ∀ x d c, o d = some c → ∀ A F G H ρ σ Q, Rel X.K A F G H ρ σ → Dr X.K G H x d →
      (∀ a xs G' H', F a = none → Same G G' → Rel X.K A (upd F a (.lst xs)) G' H' ρ σ → DqA X.K G' xs c → xs.length ≤ sizeLine → Q (.ref a) H') → cr [x] H Q) : FL X e' (fR1L o r) := by
  obtain ⟨ta, pa, qa⟩ := ha
  refine ⟨_, mk _ pa, fun ρ d ρ' h A F G H σ Q R k => ?_⟩
  obtain ⟨u, ρ1, h1, h2⟩ := bnd_some h
  refine qa ρ u ρ1 h1 A F G H σ _ R fun x G1 H1 s1 R1 z1 => ?_
  split at h2
  · rename_i dx hx
    obtain ⟨h5, rfl⟩ := ret_some h2
    exact hr x dx d h5 A F G1 H1 _ σ Q R1 (z1.dr R1 hx) fun a xs G' H' fa s r w hl => k a xs G' H' fa (s1.trans s) r w hl
  · cases h2
@[simp] def oLen : PyData → Option PyData
  | .list ds => some (.int ds.length)
  | .tuple ds => some (.int ds.length)
  | _ => none
variable {p : Pos} {r : En → Option (Rf × En)}
theorem fe_len (ha : FR X a r) (hg : Gl X "len") (hm : X.mg "len" = none) (hs : starEach (a :: []) X.env = (false, eval a X.env) :: starEach [] X.env := by rfl) : FE X (.Call (.Name "len" p) [a] [] pos) (fR1 oLen r) := by
  refine fe_r1 (fun t h => pe_callB call_len_seq hg hm PySem.boot_len (pa_cons h pa_nil hs) (he := hs)) ha fun x d c h A F G H ρ σ Q R z k => ?_
  unfold oLen at h
  split at h
  · cases h
    obtain ⟨q, xs, rfl, h1, h2⟩ := z.sq R.gh
    rw [← h2.len] at k
    exact ⟨q, xs, rfl, Or.inl (Or.inl (Or.inl h1)), k _ G H (Same.refl G) R (.int _)⟩
  · cases h
    obtain ⟨q, xs, rfl, h1, h2⟩ := z.st R.gh
    rw [← h2.len] at k
    exact ⟨q, xs, rfl, Or.inr h1, k _ G H (Same.refl G) R (.int _)⟩
  · cases h
/-- list(..) -/
@[simp] def oList : PyData → Option (List PyData)
  | .list ds => if Nat.ble ds.length 16777216 = true then some ds else none
  | .tuple ds => if Nat.ble ds.length 16777216 = true then some ds else none
  | _ => none
theorem fl_list (ha : FR X a r) (hg : Gl X "list") (hm : X.mg "list" = none) (hs : starEach (a :: []) X.env = (false, eval a X.env) :: starEach [] X.env := by rfl) : FL X (.Call (.Name "list" p) [a] [] pos) (fR1L oList r) := by
  refine fl_r1 (fun t h => pe_callTy call_list_of hg hm (by decide +kernel) (pa_cons h pa_nil hs) (he := hs)) ha fun x d c h A F G H ρ σ Q R z k => ?_
  unfold oList at h
  split at h
  · split at h
    · rename_i hz
      cases h
      obtain ⟨q, xs, rfl, h1, h2⟩ := z.sq R.gh
      exact ⟨q, xs, rfl, Or.inl (Or.inl (Or.inl h1)), fun l hl => k l xs G _ (none_of R.fh hl) (Same.refl G) (R.newF hl) h2 (by rw [h2.len]; exact ble_line hz)⟩
    · cases h
  · split at h
    · rename_i hz
      cases h
      obtain ⟨q, xs, rfl, h1, h2⟩ := z.st R.gh
      exact ⟨q, xs, rfl, Or.inr h1, fun l hl => k l xs G _ (none_of R.fh hl) (Same.refl G) (R.newF hl) h2 (by rw [h2.len]; exact ble_line hz)⟩
    · cases h
  · cases h
/-- tuple(..) -/
@[simp] def oTuple : PyData → Option PyData
  | .list ds => some (.tuple ds)
  | .tuple ds => some (.tuple ds)
  | _ => none
theorem fe_tuple (ha : FR X a r) (hg : Gl X "tuple") (hm : X.mg "tuple" = none) (hs : starEach (a :: []) X.env = (false, eval a X.env) :: starEach [] X.env := by rfl) : FE X (.Call (.Name "tuple" p) [a] [] pos) (fR1 oTuple r) := by
  refine fe_r1 (fun t h => pe_callTy call_tuple_of hg hm (by decide +kernel) (pa_cons h pa_nil hs) (he := hs)) ha fun x d c h A F G H ρ σ Q R z k => ?_
  unfold oTuple at h
  split at h
  · cases h
    obtain ⟨q, xs, rfl, h1, h2⟩ := z.sq R.gh
    exact ⟨q, xs, rfl, Or.inl ⟨Or.inl (Or.inl h1), fun l hl => k _ _ _ (same_new (none_of R.gh hl)) (R.new hl) (.tup (Or.inl (Or.inl upd_same)) (h2.up (same_new (none_of R.gh hl))))⟩⟩
  · cases h
    rcases z with z | ⟨_, _, _, _, e, _⟩
    · cases z with | tup h1 h2 => exact ⟨_, _, rfl, Or.inr ⟨sqT_up R.gh h1, k _ G H (Same.refl G) R (.tup h1 h2)⟩⟩
    · cases e
  · cases h
/-- sum of a list of ints -/
def intsD : List PyData → Option (List Int)
  | [] => some []
  | .int i :: r => match intsD r with
    | some l => some (i :: l)
    | none => none
  | _ :: _ => none
theorem intsD_ok {K : PySem.W.Frag} {H : Hp} : ∀ {ds : List PyData} {vs : List V} {ns : List Int}, DqA K H vs ds → intsD ds = some ns → vs = ns.map V.int
  | [], _, _, h, e => by
    cases h
    cases e
    rfl
  | d :: r, _, _, h, e => by
    cases h with | cons q w =>
    cases d with
    | int i =>
      unfold intsD at e
      split at e
      · rename_i l hl
        cases e
        cases q
        rw [intsD_ok w hl]
        rfl
      · cases e
    | none => cases e
    | bool b => cases e
    | str s => cases e
    | list l => cases e
    | tuple l => cases e
    | dict l => cases e
def sumI : List Int → Int
  | [] => 0
  | i :: r => i + sumI r
theorem sumI_eq : ∀ l : List Int, sumI l = l.sum
  | [] => rfl
  | i :: r => by rw [List.sum_cons, ← sumI_eq r]; rfl
def oSum : PyData → Option PyData
  | .list ds => match intsD ds with
    | some l => some (.int l.sum)
    | none => none
  | _ => none
theorem fe_sum (hc : X.calm = true) (ha : FR X a r) (hg : Gl X "sum") (hm : X.mg "sum" = none) (hs : starEach (a :: []) X.env = (false, eval a X.env) :: starEach [] X.env := by rfl) : FE X (.Call (.Name "sum" p) [a] [] pos) (fR1 oSum r) := by
  refine fe_r1 (fun t h => pe_callB (cr_sum hc) hg hm (by decide +kernel) (pa_cons h pa_nil hs) (he := hs)) ha fun x d c h A F G H ρ σ Q R z k => ?_
  unfold oSum at h
  split at h
  · split at h
    · rename_i l hl
      cases h
      obtain ⟨q, xs, rfl, h1, h2⟩ := z.sq R.gh
      have e := intsD_ok h2 hl
      subst e
      exact ⟨q, l, rfl, Or.inl (Or.inl h1), k _ G H (Same.refl G) R (.int _)⟩
    · cases h
  · cases h
def boolsD : List PyData → Option (List Bool)
  | [] => some []
  | .bool i :: r => match boolsD r with
    | some l => some (i :: l)
    | none => none
  | _ :: _ => none
theorem boolsD_ok {K : PySem.W.Frag} {H : Hp} : ∀ {ds : List PyData} {vs : List V} {ns : List Bool}, DqA K H vs ds → boolsD ds = some ns → vs = ns.map V.bl
  | [], _, _, h, e => by
    cases h
    cases e
    rfl
  | d :: r, _, _, h, e => by
    cases h with | cons q w =>
    cases d with
    | bool i =>
      unfold boolsD at e
      split at e
      · rename_i l hl
        cases e
        cases q
        rw [boolsD_ok w hl]
        rfl
      · cases e
    | none => cases e
    | int b => cases e
    | str s => cases e
    | list l => cases e
    | tuple l => cases e
    | dict l => cases e
def oAny : PyData → Option PyData
  | .list ds => match boolsD ds with
    | some l => some (.bool (l.any id))
    | none => none
  | _ => none
def oAll : PyData → Option PyData
  | .list ds => match boolsD ds with
    | some l => some (.bool (l.all id))
    | none => none
  | _ => none
theorem fe_any (hc : X.calm = true) (ha : FR X a r) (hg : Gl X "any") (hm : X.mg "any" = none) (hs : starEach (a :: []) X.env = (false, eval a X.env) :: starEach [] X.env := by rfl) : FE X (.Call (.Name "any" p) [a] [] pos) (fR1 oAny r) := by
  refine fe_r1 (fun t h => pe_callB (cr_any hc) hg hm (by decide +kernel) (pa_cons h pa_nil hs) (he := hs)) ha fun x d c h A F G H ρ σ Q R z k => ?_
  unfold oAny at h
  split at h
  · split at h
    · rename_i l hl
      cases h
      obtain ⟨q, xs, rfl, h1, h2⟩ := z.sq R.gh
      have e := boolsD_ok h2 hl
      subst e
      exact ⟨q, l, rfl, Or.inl (Or.inl h1), k _ G H (Same.refl G) R (.bl _)⟩
    · cases h
  · cases h
theorem fe_all (hc : X.calm = true) (ha : FR X a r) (hg : Gl X "all") (hm : X.mg "all" = none) (hs : starEach (a :: []) X.env = (false, eval a X.env) :: starEach [] X.env := by rfl) : FE X (.Call (.Name "all" p) [a] [] pos) (fR1 oAll r) := by
  refine fe_r1 (fun t h => pe_callB (cr_all hc) hg hm (by decide +kernel) (pa_cons h pa_nil hs) (he := hs)) ha fun x d c h A F G H ρ σ Q R z k => ?_
  unfold oAll at h
  split at h
  · split at h
    · rename_i l hl
      cases h
      obtain ⟨q, xs, rfl, h1, h2⟩ := z.sq R.gh
      have e := boolsD_ok h2 hl
      subst e
      exact ⟨q, l, rfl, Or.inl (Or.inl h1), k _ G H (Same.refl G) R (.bl _)⟩
    · cases h
  · cases h
/-- int(..), abs(..) -/
@[simp] def oInt : PyData → Option PyData
  | .int i => some (.int i)
  | .bool b => some (.int (if b = true then 1 else 0))
  | _ => none
theorem fe_intC (ha : FR X a r) (hg : Gl X "int") (hm : X.mg "int" = none) (hs : starEach (a :: []) X.env = (false, eval a X.env) :: starEach [] X.env := by rfl) : FE X (.Call (.Name "int" p) [a] [] pos) (fR1 oInt r) := by
  refine fe_r1 (fun t h => pe_callTy call_int1 hg hm (by decide +kernel) (pa_cons h pa_nil hs) (he := hs)) ha fun x d c h A F G H ρ σ Q R z k => ?_
  unfold oInt at h
  rcases z with z | ⟨_, _, _, _, e, _⟩
  · split at h
    · cases h
      cases z
      exact Or.inl ⟨_, rfl, k _ G H (Same.refl G) R (.int _)⟩
    · cases h
      cases z
      exact Or.inr ⟨_, rfl, k _ G H (Same.refl G) R (.int _)⟩
    · cases h
  · subst e
    cases h
@[simp] def oAbs : PyData → Option PyData
  | .int i => some (.int (if i < 0 then -i else i))
  | _ => none
theorem fe_abs (ha : FR X a r) (hg : Gl X "abs") (hm : X.mg "abs" = none) (hs : starEach (a :: []) X.env = (false, eval a X.env) :: starEach [] X.env := by rfl) : FE X (.Call (.Name "abs" p) [a] [] pos) (fR1 oAbs r) := by
  refine fe_r1 (fun t h => pe_callB call_abs hg hm (by decide +kernel) (pa_cons h pa_nil hs) (he := hs)) ha fun x d c h A F G H ρ σ Q R z k => ?_
  unfold oAbs at h
  rcases z with z | ⟨_, _, _, _, e, _⟩
  · split at h
    · cases h
      cases z
      exact ⟨_, rfl, k _ G H (Same.refl G) R (.int _)⟩
    · cases h
  · subst e
    cases h
/-! ### built-ins of two ints -/
theorem fe_cb2 {cr : List V → Hp → VK → Prop} {o : PyData → PyData → Option PyData} {e' : Expr} (mk : ∀ t u, PE X a t → PE X b u → PE X e' (tCB cr (tCons t (tCons u tNil)))) (ha : FE X a f) (hb : FE X b g)
    (hr : ∀ x y d e c, o d e = some c → ∀ A F G H ρ σ Q, Rel X.K A F G H ρ σ → Dq X.K G x d → Dq X.K G y e → (∀ z G' H', Same G G' → Rel X.K A F G' H' ρ σ → Dq X.K G' z c → Q z H') → cr [x, y] H Q) : FE X e' (fOp o f g) := by
  obtain ⟨ta, pa, qa⟩ := ha
  obtain ⟨tb, pb, qb⟩ := hb
  refine ⟨_, mk _ _ pa pb, fun ρ d ρ' h A F G H σ Q R k => ?_⟩
  exact two (r := fun x y H Q => cr [x, y] H Q) hr qa qb ρ d ρ' h A F G H σ Q R k
abbrev oMin := oI fun i j => .int (if j < i then j else i)
abbrev oMax := oI fun i j => .int (if j > i then j else i)
theorem fe_min2 (hc : X.calm = true) (ha : FE X a f) (hb : FE X b g) (hg : Gl X "min") (hm : X.mg "min" = none) (hs : starEach (a :: [b]) X.env = (false, eval a X.env) :: starEach [b] X.env := by rfl) (hs2 : starEach (b :: []) X.env = (false, eval b X.env) :: starEach [] X.env := by rfl) (h3 : (backTo pos (starEach [b] X.env)).any (·.1) = false := by rfl) :
    FE X (.Call (.Name "min" p) [a, b] [] pos) (fOp oMin f g) := by
  refine fe_cb2 (fun t u h h' => pe_callB (call_min2 hc) hg hm (by decide +kernel) (pa_cons h (pa_cons h' pa_nil hs2) hs) (he := hs) (hpl := h3)) ha hb fun x y d e c h A F G H ρ σ Q R z z' k => ?_
  unfold oMin oI at h
  split at h
  · cases h
    cases z
    cases z'
    exact ⟨_, _, rfl, k _ G H (Same.refl G) R (.int _)⟩
  · cases h
theorem fe_max2 (hc : X.calm = true) (ha : FE X a f) (hb : FE X b g) (hg : Gl X "max") (hm : X.mg "max" = none) (hs : starEach (a :: [b]) X.env = (false, eval a X.env) :: starEach [b] X.env := by rfl) (hs2 : starEach (b :: []) X.env = (false, eval b X.env) :: starEach [] X.env := by rfl) (h3 : (backTo pos (starEach [b] X.env)).any (·.1) = false := by rfl) :
    FE X (.Call (.Name "max" p) [a, b] [] pos) (fOp oMax f g) := by
  refine fe_cb2 (fun t u h h' => pe_callB (call_max2 hc) hg hm (by decide +kernel) (pa_cons h (pa_cons h' pa_nil hs2) hs) (he := hs) (hpl := h3)) ha hb fun x y d e c h A F G H ρ σ Q R z z' k => ?_
  unfold oMax oI at h
  split at h
  · cases h
    cases z
    cases z'
    exact ⟨_, _, rfl, k _ G H (Same.refl G) R (.int _)⟩
  · cases h
/-! ### lists: * and +, slices -/
@[simp] def fRep (f g : EF) : LF := fun ρ => bnd (f ρ) fun x ρ1 => bnd (g ρ1) fun y ρ2 => match x, y with
  | .list ds, .int k => if (Nat.ble (ds.length * k.toNat) 16777216 && Nat.ble k.natAbs 16777216) = true then some ((List.replicate k.toNat ds).flatten, ρ2) else none
  | _, _ => none
theorem DqA.rep {K : PySem.W.Frag} {H : Hp} {ds : List PyData} {vs : List V} (h : DqA K H vs ds) : ∀ n : Nat, DqA K H (List.replicate n vs).flatten (List.replicate n ds).flatten
  | 0 => .nil
  | n + 1 => by
    rw [List.replicate_succ, List.replicate_succ, List.flatten_cons, List.flatten_cons]
    exact h.app (DqA.rep h n)
theorem fl_rep (ha : FE X a f) (hb : FE X b g) : FL X (.BinOp a .Mult b pos) (fRep f g) := by
  obtain ⟨ta, pa, qa⟩ := ha
  obtain ⟨tb, pb, qb⟩ := hb
  refine ⟨_, pe_op op_rep pa pb, fun ρ d ρ' h A F G H σ Q R k => ?_⟩
  obtain ⟨u, ρ1, h1, h2⟩ := bnd_some h
  obtain ⟨y, ρ2, h3, h4⟩ := bnd_some h2
  refine qa ρ u ρ1 h1 A F G H σ _ R fun x G1 H1 s1 R1 z1 => ?_
  refine qb ρ1 y ρ2 h3 A F G1 H1 σ _ R1 fun w G2 H2 s2 R2 z2 => ?_
  split at h4
  · split at h4
    · rename_i ds n hz
      cases h4
      have hz' := Bool.and_eq_true_iff.mp hz
      have hz1 := ble_line hz'.1
      have hz2 : n.natAbs ≤ 16777216 := Nat.le_of_ble_eq_true hz'.2
      cases z2
      have z3 := z1.up s2
      cases z3 with | lst q1 q2 =>
      have hl := q2.len
      refine ⟨_, n, _, rfl, rfl, R2.gh _ _ q1, by omega, by omega, by rw [hl]; exact hz1, fun p hp => ?_⟩
      have q3 := q2.rep n.toNat
      refine k p _ G2 _ (none_of R2.fh hp) (s1.trans s2) (R2.newF hp) q3 ?_
      rw [List.length_flatten, List.map_replicate, List.sum_replicate_nat, hl, Nat.mul_comm]
      exact hz1
    · cases h4
  · cases h4
@[simp] def fCat (f g : EF) : LF := fun ρ => bnd (f ρ) fun x ρ1 => bnd (g ρ1) fun y ρ2 => match x, y with
  | .list ds, .list es => if Nat.ble (ds.length + es.length) 16777216 = true then some (ds ++ es, ρ2) else none
  | _, _ => none
theorem fl_cat (ha : FE X a f) (hb : FE X b g) : FL X (.BinOp a .Add b pos) (fCat f g) := by
  obtain ⟨ta, pa, qa⟩ := ha
  obtain ⟨tb, pb, qb⟩ := hb
  refine ⟨_, pe_op op_cat pa pb, fun ρ d ρ' h A F G H σ Q R k => ?_⟩
  obtain ⟨u, ρ1, h1, h2⟩ := bnd_some h
  obtain ⟨y, ρ2, h3, h4⟩ := bnd_some h2
  refine qa ρ u ρ1 h1 A F G H σ _ R fun x G1 H1 s1 R1 z1 => ?_
  refine qb ρ1 y ρ2 h3 A F G1 H1 σ _ R1 fun w G2 H2 s2 R2 z2 => ?_
  split at h4
  · split at h4
    · rename_i ds es hz
      cases h4
      have hz1 := ble_line hz
      have z3 := z1.up s2
      cases z3 with | lst q1 q2 =>
      cases z2 with | lst w1 w2 =>
      have hl := q2.len
      have hl2 := w2.len
      refine ⟨_, _, _, _, rfl, rfl, R2.gh _ _ q1, R2.gh _ _ w1, by rw [hl, hl2]; exact hz1, fun p hp => ?_⟩
      exact k p _ G2 _ (none_of R2.fh hp) (s1.trans s2) (R2.newF hp) (q2.app w2) (by rw [List.length_append, hl, hl2]; exact hz1)
    · cases h4
  · cases h4
end
end Fe
namespace Fe
open PySem PySem.Spec PyProof.Rows L2

/-! ## statements -/
inductive Out where
  | nx (ρ : En)
  | rt (d : PyData) (ρ : En)
  | bk (ρ : En)
  | ct (ρ : En)
abbrev SF := En → Option Out
def OutOk (K : PySem.W.Frag) (A : Option Addr) (F G : Hp) (D : Ends) : Out → Prop
  | .nx ρ => ∀ σ G' H, Same G G' → Rel K A F G' H ρ σ → D.nx σ H
  | .rt d ρ => ∀ x σ G' H, Same G G' → Rel K A F G' H ρ σ → Dq K G' x d → D.rt x H
  | .bk ρ => ∀ σ G' H, Same G G' → Rel K A F G' H ρ σ → D.bk σ H
  | .ct ρ => ∀ σ G' H, Same G G' → Rel K A F G' H ρ σ → D.ct σ H
theorem OutOk.up {K : PySem.W.Frag} {A : Option Addr} {F G G' : Hp} {D : Ends} {o : Out} (h : OutOk K A F G D o) (s : Same G G') : OutOk K A F G' D o := by
  cases o with
  | nx ρ => exact fun σ G2 H s2 => h σ G2 H (s.trans s2)
  | rt d ρ => exact fun x σ G2 H s2 => h x σ G2 H (s.trans s2)
  | bk ρ => exact fun σ G2 H s2 => h σ G2 H (s.trans s2)
  | ct ρ => exact fun σ G2 H s2 => h σ G2 H (s.trans s2)
def FS (X : Cx) (st : Stmt) (f : SF) : Prop := ∃ t, PS X st t ∧ ∀ ρ o, f ρ = some o → ∀ A F G H σ D, Rel X.K A F G H ρ σ → OutOk X.K A F G D o → t D σ H
def FSs (X : Cx) (sts : List Stmt) (f : SF) : Prop := ∃ t, PSs X sts t ∧ ∀ ρ o, f ρ = some o → ∀ A F G H σ D, Rel X.K A F G H ρ σ → OutOk X.K A F G D o → t D σ H
/-- what a target does with a value; the slots that it sets -/
def FG (X : Cx) (tg : Expr) (is : List Nat) (g : PyData → En → Option En) : Prop := ∃ t, PG X tg t ∧ ∀ d ρ ρ', g d ρ = some ρ' → ∀ A F G H σ x Q, Rel X.K A F G H ρ σ → Dq X.K G x d →
  (∀ σ', Rel X.K A F G H ρ' σ' → (∀ vs, (∀ i ∈ is, i ∈ vs) → wipe σ' vs = wipe σ vs) → Q σ' H) → t x σ H Q
def FGs (X : Cx) (tgs : List Expr) (is : List Nat) (g : List PyData → En → Option En) : Prop := ∃ t, PGs X tgs t ∧ ∀ ds ρ ρ', g ds ρ = some ρ' → ∀ A F G H σ xs Q, Rel X.K A F G H ρ σ → DqA X.K G xs ds →
  (∀ σ', Rel X.K A F G H ρ' σ' → (∀ vs, (∀ i ∈ is, i ∈ vs) → wipe σ' vs = wipe σ vs) → Q σ' H) → t xs σ H Q
/-- what a for walks, as a list -/
structure Yld (K : PySem.W.Frag) (J : It) (G0 : Hp) (ds : List PyData) : Prop where
  go : ∀ i H, Same G0 H → i < ds.length → J.go i H
  stop : ∀ H, Same G0 H → J.stop ds.length H
  yl : ∀ i H x H' d, J.yld i H x H' → ds[i]? = some d → ∀ A F G ρ σ, Same G0 G → Rel K A F G H ρ σ → ∃ G', Same G G' ∧ Rel K A F G' H' ρ σ ∧ Dq K G' x d
def FI (X : Cx) (tg e : Expr) (f : LF) : Prop := ∃ wi, PI X tg e wi ∧ ∀ ρ ds ρ', f ρ = some (ds, ρ') → ∀ A F G H σ R, Rel X.K A F G H ρ σ →
  (∀ J G' H', Same G G' → Rel X.K A F G' H' ρ' σ → Yld X.K J G' ds → R J H') → wi σ H R

/-! ### the functions -/
@[simp] def sNil : SF := fun ρ => some (.nx ρ)
@[simp] def sThen (o : Option Out) (g : SF) : Option Out := match o with
  | some (.nx ρ) => g ρ
  | o => o
@[simp] def sSeq (f g : SF) : SF := fun ρ => sThen (f ρ) g
@[simp] def sSet (i : Nat) (f : EF) : SF := fun ρ => bnd (f ρ) fun d ρ1 => some (.nx (ρ1.set i (.v d)))
@[simp] def sOwn (i : Nat) (f : LF) : SF := fun ρ => bnd (f ρ) fun d ρ1 => some (.nx (ρ1.set i (.own d)))
@[simp] def sRet (f : EF) : SF := fun ρ => bnd (f ρ) fun d ρ1 => some (.rt d ρ1)
@[simp] def sRetN : SF := fun ρ => some (.rt .none ρ)
@[simp] def sDrop (f : EF) : SF := fun ρ => bnd (f ρ) fun _ ρ1 => some (.nx ρ1)
@[simp] def sIf (c : BF) (f g : SF) : SF := fIf c f g
@[simp] def sTg (f : EF) (g : PyData → En → Option En) : SF := fun ρ => bnd (f ρ) fun d ρ1 => match g d ρ1 with
  | some ρ2 => some (.nx ρ2)
  | none => none
@[simp] def gNm (i : Nat) : PyData → En → Option En := fun d ρ => some (ρ.set i (.v d))
@[simp] def gNil' : List PyData → En → Option En := fun ds ρ => match ds with
  | [] => some ρ
  | _ => none
@[simp] def gCons' (g : PyData → En → Option En) (h : List PyData → En → Option En) : List PyData → En → Option En := fun ds ρ => match ds with
  | d :: r => match g d ρ with
    | some ρ1 => h r ρ1
    | none => none
  | [] => none
@[simp] def gTp (n : Nat) (g : List PyData → En → Option En) : PyData → En → Option En := fun d ρ => match d with
  | .tuple ds => if (ds.length == n) = true then g ds ρ else none
  | _ => none
def lp (g : PyData → En → Option En) (b : SF) : List PyData → SF
  | [], ρ => some (.nx ρ)
  | d :: r, ρ => match g d ρ with
    | none => none
    | some ρ1 => match b ρ1 with
      | some (.nx ρ2) => lp g b r ρ2
      | some (.ct ρ2) => lp g b r ρ2
      | some (.bk ρ2) => some (.nx ρ2)
      | some (.rt d ρ2) => some (.rt d ρ2)
      | none => none
@[simp] def sFor (f : LF) (g : PyData → En → Option En) (b : SF) : SF := fun ρ => bnd (f ρ) fun ds ρ1 => lp g b ds ρ1
def whl (c : BF) (b : SF) : Nat → SF
  | 0, _ => none
  | n + 1, ρ => bnd (c ρ) fun k ρ1 => if k = true then (match b ρ1 with
      | some (.nx ρ2) => whl c b n ρ2
      | some (.ct ρ2) => whl c b n ρ2
      | some (.bk ρ2) => some (.nx ρ2)
      | some (.rt d ρ2) => some (.rt d ρ2)
      | none => none) else some (.nx ρ1)
section
variable {X : Cx} {e a b : Expr} {pos : Pos} {f g : EF} {c : BF} {l : LF} {st : Stmt} {sts : List Stmt} {s1 s2 : SF}

theorem fss_nil : FSs X [] sNil := by
  refine ⟨_, pss_nil, fun ρ o h A F G H σ D R k => ?_⟩
  cases h
  exact k σ G H (Same.refl G) R
theorem fss_one (h : FS X st s1) : FSs X [st] s1 := by
  obtain ⟨t, p, q⟩ := h
  exact ⟨t, pss_one p, q⟩
theorem fss_cons (h : FS X st s1) (h2 : FSs X sts s2) : FSs X (st :: sts) (sSeq s1 s2) := by
  obtain ⟨t, p, q⟩ := h
  obtain ⟨t2, p2, q2⟩ := h2
  refine ⟨_, pss_cons p p2, fun ρ o h A F G H σ D R k => ?_⟩
  unfold sSeq sThen at h
  split at h
  · rename_i ρ1 h1
    exact q ρ _ h1 A F G H σ _ R fun σ' G' H' s r => q2 ρ1 o h A F G' H' σ' D r (k.up s)
  · rename_i o1 h1
    refine q ρ o h A F G H σ _ R ?_
    cases o with
    | nx ρ' => exact (h1 ρ' h).elim
    | rt d ρ' => exact k
    | bk ρ' => exact k
    | ct ρ' => exact k
theorem fs_tg {tg : Expr} {is : List Nat} {gg : PyData → En → Option En} (he : FE X e f) (hg : FG X tg is gg) (hs : swapsWithSole [tg] e pos.line X.env = pure false := by rfl) (hw : swappedStores [tg] e X.env = pure none := by rfl)
    (h1 : (assignEach [tg] X.env).map (·.2) = [assign tg X.env] := by rfl) : FS X (.Assign [tg] e pos) (sTg f gg) := by
  obtain ⟨t, p, q⟩ := he
  obtain ⟨t2, p2, q2⟩ := hg
  refine ⟨_, ps_asg p p2 hs hw h1, fun ρ o h A F G H σ D R k => ?_⟩
  obtain ⟨d, ρ1, h3, h4⟩ := bnd_some h
  split at h4
  · rename_i ρ2 h5
    cases h4
    exact q ρ d ρ1 h3 A F G H σ _ R fun x G' H' s r z => q2 d ρ1 ρ2 h5 A F G' H' σ x _ r z fun σ' r' _ => k σ' G' H' s r'
  · cases h4
theorem fs_set {i : Nat} {x : Str} {pos' : Pos} (hN : X.N.Nodup) (hi : X.N[i]? = some x) (hx : Loc X.env.scope x) (he : FE X e f) (hs : swapsWith e (some (.Name x pos')) pos.line X.env = pure false := by rfl) (hf : X.fn x = true ∨ X.env.scope.names.lookup x = some .local := by first | exact .inl rfl | exact .inr rfl | assumption) :
    FS X (.Assign [.Name x pos'] e pos) (sSet i f) := by
  obtain ⟨t, p, q⟩ := he
  refine ⟨_, ps_set hN hi hx p hs hf, fun ρ o h A F G H σ D R k => ?_⟩
  obtain ⟨d, ρ1, h3, h4⟩ := bnd_some h
  cases h4
  exact q ρ d ρ1 h3 A F G H σ _ R fun x G' H' s r z => k _ G' H' s (r.putV i z)
theorem fs_own {i : Nat} {x : Str} {pos' : Pos} (hN : X.N.Nodup) (hi : X.N[i]? = some x) (hx : Loc X.env.scope x) (he : FL X e l) (hs : swapsWith e (some (.Name x pos')) pos.line X.env = pure false := by rfl) (hf : X.fn x = true ∨ X.env.scope.names.lookup x = some .local := by first | exact .inl rfl | exact .inr rfl | assumption) :
    FS X (.Assign [.Name x pos'] e pos) (sOwn i l) := by
  obtain ⟨t, p, q⟩ := he
  refine ⟨_, ps_set hN hi hx p hs hf, fun ρ o h A F G H σ D R k => ?_⟩
  obtain ⟨d, ρ1, h3, h4⟩ := bnd_some h
  cases h4
  exact q ρ d ρ1 h3 A F G H σ _ R fun a xs G' H' fa s r z _ => k _ G' H' s (r.putOwn fa i z)
theorem fs_ret (he : FE X e f) : FS X (.Return (some e) pos) (sRet f) := by
  obtain ⟨t, p, q⟩ := he
  refine ⟨_, ps_ret p, fun ρ o h A F G H σ D R k => ?_⟩
  obtain ⟨d, ρ1, h3, h4⟩ := bnd_some h
  cases h4
  exact q ρ d ρ1 h3 A F G H σ _ R fun x G' H' s r z => k x σ G' H' s r z
theorem fs_retN : FS X (.Return none pos) sRetN := by
  refine ⟨_, ps_retN, fun ρ o h A F G H σ D R k => ?_⟩
  cases h
  exact k .non σ G H (Same.refl G) R .non
theorem fs_drop (he : FE X e f) (hs : swapsWith e none pos.line X.env = pure false := by rfl) : FS X (.Expr e pos) (sDrop f) := by
  obtain ⟨t, p, q⟩ := he
  refine ⟨_, ps_expr p hs, fun ρ o h A F G H σ D R k => ?_⟩
  obtain ⟨d, ρ1, h3, h4⟩ := bnd_some h
  cases h4
  exact q ρ d ρ1 h3 A F G H σ _ R fun x G' H' s r z => k σ G' H' s r
theorem fs_doc {x j pos'} : FS X (.Expr (.Constant (.str x) j pos) pos') sNil := by
  refine ⟨_, ps_doc, fun ρ o h A F G H σ D R k => ?_⟩
  cases h
  exact k σ G H (Same.refl G) R
theorem fs_if {p q : List Stmt} (hc : FT X e c) (ha : FSs X p s1) (hb : FSs X q s2) : FS X (.If e p q pos) (sIf c s1 s2) := by
  obtain ⟨t, hp, hq⟩ := hc
  obtain ⟨t1, p1, q1⟩ := ha
  obtain ⟨t2, p2, q2⟩ := hb
  refine ⟨_, ps_if hp p1 p2, fun ρ o h A F G H σ D R k => ?_⟩
  obtain ⟨d, ρ1, h3, h4⟩ := bnd_some h
  refine hq ρ d ρ1 h3 A F G H σ _ R fun G' H' s r => ?_
  cases d with
  | true => exact q1 _ o h4 A F G' H' σ D r (k.up s)
  | false => exact q2 _ o h4 A F G' H' σ D r (k.up s)
@[simp] def sBk : SF := fun ρ => some (.bk ρ)
@[simp] def sCt : SF := fun ρ => some (.ct ρ)
theorem fs_break : FS X (.Break pos) sBk := by
  refine ⟨_, ps_break, fun ρ o h A F G H σ D R k => ?_⟩
  cases h
  exact k σ G H (Same.refl G) R
theorem fs_continue : FS X (.Continue pos) sCt := by
  refine ⟨_, ps_continue, fun ρ o h A F G H σ D R k => ?_⟩
  cases h
  exact k σ G H (Same.refl G) R
/-- a statement that the proof never comes to -/
def sNo : SF := fun _ => none
theorem fs_no : FS X st sNo := ⟨_, ps_never, fun _ _ h => nomatch h⟩
theorem fss_no : FSs X sts sNo := ⟨_, pss_never, fun _ _ h => nomatch h⟩
/-- a list of one's own is to stay from here on -/
@[simp] def frzS (i : Nat) (ρ : En) : En := match ρ[i]? with
  | some (.own ds) => ρ.set i (.v (.list ds))
  | _ => ρ
theorem Rel.frzS {K : PySem.W.Frag} {A : Option Addr} {F G H : Hp} {ρ : En} {σ : L2.St} (k : Rel K A F G H ρ σ) (i : Nat) : ∃ G', Same G G' ∧ Rel K A F G' H (Fe.frzS i ρ) σ := by
  unfold Fe.frzS
  split
  · rename_i ds h
    exact k.frz h
  · exact ⟨G, Same.refl G, k⟩
theorem fs_frz (i : Nat) (h : FS X st s1) : FS X st (fun ρ => s1 (Fe.frzS i ρ)) := by
  obtain ⟨t, p, q⟩ := h
  refine ⟨t, p, fun ρ o h A F G H σ D R k => ?_⟩
  obtain ⟨G', s, r⟩ := R.frzS i
  exact q _ o h A F G' H σ D r (k.up s)

/-! ### targets -/
theorem wipe_set {σ : L2.St} {i : Nat} {v : Option V} : ∀ {vs : List Nat}, i ∈ vs → wipe (σ.set i v) vs = wipe σ vs
  | [], h => nomatch h
  | j :: r, h => by
    show (wipe (σ.set i v) r).set j none = (wipe σ r).set j none
    by_cases hr : i ∈ r
    · rw [wipe_set hr]
    · have e : i = j := by
        rcases List.mem_cons.mp h with e | e
        · exact e
        · exact absurd e hr
      subst e
      have aux : ∀ {vs : List Nat}, i ∉ vs → wipe (σ.set i v) vs = (wipe σ vs).set i v := by
        intro vs
        induction vs with
        | nil => intro _; rfl
        | cons u w ih =>
          intro hu
          show (wipe (σ.set i v) w).set u none = ((wipe σ w).set u none).set i v
          rw [ih fun z => hu (List.mem_cons_of_mem _ z), List.set_comm _ _ (show i ≠ u from fun z => hu (List.mem_cons.mpr (Or.inl z)))]
      rw [aux hr, List.set_set]
theorem fg_name {i : Nat} {x : Str} (hN : X.N.Nodup) (hi : X.N[i]? = some x) (hx : Loc X.env.scope x) (hf : X.fn x = true ∨ X.env.scope.names.lookup x = some .local := by first | exact .inl rfl | exact .inr rfl | assumption) : FG X (.Name x pos) [i] (gNm i) := by
  refine ⟨_, pg_name hN hi hx hf, fun d ρ ρ' h A F G H σ x Q R z k => ?_⟩
  cases h
  exact k _ (R.putV i z) fun vs hv => wipe_set (hv i (by simp))
theorem fgs_nil : FGs X [] [] gNil' := by
  refine ⟨_, pgs_nil, fun ds ρ ρ' h A F G H σ xs Q R z k => ?_⟩
  unfold gNil' at h
  split at h
  · cases h
    cases z
    exact ⟨rfl, k σ R fun _ _ => rfl⟩
  · cases h
theorem fgs_cons {es : List Expr} {is js : List Nat} {gg : PyData → En → Option En} {hh : List PyData → En → Option En} (h1 : FG X e is gg) (h2 : FGs X es js hh)
    (hs : (assignEach (e :: es) X.env).map (·.2) = assign e X.env :: (assignEach es X.env).map (·.2) := by rfl) : FGs X (e :: es) (is ++ js) (gCons' gg hh) := by
  obtain ⟨t, p, q⟩ := h1
  obtain ⟨t2, p2, q2⟩ := h2
  refine ⟨_, pgs_cons p p2 hs, fun ds ρ ρ' h A F G H σ xs Q R z k => ?_⟩
  unfold gCons' at h
  split at h
  · split at h
    · rename_i ρ1 h3
      cases z with | cons z1 z2 =>
      refine ⟨_, _, rfl, q _ ρ ρ1 h3 A F G H σ _ _ R z1 fun σ1 r1 w1 => ?_⟩
      exact q2 _ ρ1 ρ' h A F G H σ1 _ _ r1 z2 fun σ2 r2 w2 => k σ2 r2 fun vs hv => (w2 vs fun i hi => hv i (List.mem_append_right _ hi)).trans (w1 vs fun i hi => hv i (List.mem_append_left _ hi))
    · cases h
  · cases h
theorem fg_tup {es : List Expr} {k' : Nat} {is : List Nat} {hh : List PyData → En → Option En} {n : Nat} (hc : X.calm = true) (h : FGs X es is hh) (hn : (assignEach es X.env).length = n := by rfl) (hst : (assignEach es X.env).findIdx? (·.1) = none := by rfl) :
    FG X (.Tuple es k' pos) is (gTp n hh) := by
  obtain ⟨t, p, q⟩ := h
  refine ⟨_, pg_tup hc p hn hst, fun d ρ ρ' h A F G H σ x Q R z k => ?_⟩
  unfold gTp at h
  split at h
  · split at h
    · rename_i ds hl
      have hl' : ds.length = n := by simpa using hl
      cases z with | tup z1 z2 =>
      refine ⟨_, _, rfl, sqT_up R.gh z1, by rw [z2.len]; exact hl', ?_⟩
      exact q ds ρ ρ' h A F G H σ _ Q R z2 k
    · cases h
  · cases h

/-! ### for -/
theorem fs_for {tg iter : Expr} {body : List Stmt} {is : List Nat} {gg : PyData → En → Option En} (hc : X.calm = true) (hi : FI X tg iter l) (hg : FG X tg is gg) (hb : FSs X body s1) (hp : PassesOwn (model X.prog X.w) X.A X.env X.xe := by exact PassesOwn.never)
    (hs : ∀ x, foldedSetIterable iter X.env x = pure x := by intro _; rfl) : FS X (.For tg iter body [] pos) (sFor l gg s1) := by
  obtain ⟨wi, p, q⟩ := hi
  obtain ⟨tg', p2, q2⟩ := hg
  obtain ⟨tb, p3, q3⟩ := hb
  refine ⟨_, ps_for hp hc p p2 p3 hs, fun ρ o h A F G H σ D R k => ?_⟩
  obtain ⟨ds, ρ1, h1, h2⟩ := bnd_some h
  refine q ρ ds ρ1 h1 A F G H σ _ R fun J G1 H1 sG r1 Y => ?_
  refine ⟨fun i m τ H2 => m = ds.length - i ∧ i ≤ ds.length ∧ ∃ ρi Gi, Same G1 Gi ∧ Rel X.K A F Gi H2 ρi τ ∧ lp gg s1 (ds.drop i) ρi = some o, ⟨ds.length, by simp, by simp, ρ1, G1, Same.refl _, r1, by simpa using h2⟩, ?_⟩
  rintro i m τ H2 ⟨rfl, hi, ρi, Gi, si, ri, hl⟩
  by_cases hlt : i < ds.length
  · have hd : ds.drop i = ds[i] :: ds.drop (i + 1) := List.drop_eq_getElem_cons hlt
    rw [hd] at hl
    refine .inr ⟨Y.go i H2 (si.trans ri.gh) hlt, _, fun σ' H' hN => ⟨ds.length - (i + 1), by omega, hN⟩, fun x H' hy => ?_⟩
    obtain ⟨G', s', r', z⟩ := Y.yl i H2 x H' ds[i] hy (List.getElem?_eq_getElem hlt) A F Gi ρi τ si ri
    unfold lp at hl
    split at hl
    · cases hl
    · rename_i ρ2 hg2
      refine q2 ds[i] ρi ρ2 hg2 A F G' H' τ x _ r' z fun σ2 r2 _ => ?_
      split at hl
      · rename_i ρ3 hb3
        exact q3 ρ2 _ hb3 A F G' H' σ2 _ r2 fun σ3 G3 H3 s3 r3 => ⟨rfl, by omega, ρ3, G3, (si.trans s').trans s3, r3, hl⟩
      · rename_i ρ3 hb3
        exact q3 ρ2 _ hb3 A F G' H' σ2 _ r2 fun σ3 G3 H3 s3 r3 => ⟨rfl, by omega, ρ3, G3, (si.trans s').trans s3, r3, hl⟩
      · rename_i ρ3 hb3
        cases hl
        exact q3 ρ2 _ hb3 A F G' H' σ2 _ r2 fun σ3 G3 H3 s3 r3 => k σ3 G3 H3 (((sG.trans si).trans s').trans s3) r3
      · rename_i d3 ρ3 hb3
        cases hl
        exact q3 ρ2 _ hb3 A F G' H' σ2 _ r2 fun x σ3 G3 H3 s3 r3 => k x σ3 G3 H3 (((sG.trans si).trans s').trans s3) r3
      · cases hl
  · have e : i = ds.length := by omega
    subst e
    rw [List.drop_length] at hl
    unfold lp at hl
    cases hl
    exact .inl ⟨Y.stop H2 (si.trans ri.gh), k τ Gi H2 (sG.trans si) ri⟩
/-! ### while -/
theorem fs_while {n : Nat} {body : List Stmt} (hc : FT X e c) (hb : FSs X body s1) (hp : PassesOwn (model X.prog X.w) X.A X.env X.xe := by exact PassesOwn.never) : FS X (.While e body [] pos) (whl c s1 n) := by
  obtain ⟨t, p, q⟩ := hc
  obtain ⟨tb, p3, q3⟩ := hb
  refine ⟨_, ps_while hp p p3, fun ρ o h A F G H σ D R k => ?_⟩
  refine ⟨fun m τ H2 => ∃ ρi Gi, Same G Gi ∧ Rel X.K A F Gi H2 ρi τ ∧ whl c s1 m ρi = some o, ⟨n, ρ, G, Same.refl _, R, h⟩, ?_⟩
  rintro m τ H2 ⟨ρi, Gi, si, ri, hl⟩
  cases m with
  | zero => cases hl
  | succ m =>
    unfold whl at hl
    obtain ⟨b, ρ1, h1, h2⟩ := bnd_some hl
    refine q ρi b ρ1 h1 A F Gi H2 τ _ ri fun G' H' s' r' => ?_
    cases b with
    | true =>
      rw [if_pos rfl]
      rw [if_pos rfl] at h2
      refine ⟨_, fun σ' H' hN => ⟨m, by omega, hN⟩, ?_⟩
      split at h2
      · rename_i ρ3 hb3
        exact q3 ρ1 _ hb3 A F G' H' τ _ r' fun σ3 G3 H3 s3 r3 => ⟨ρ3, G3, (si.trans s').trans s3, r3, h2⟩
      · rename_i ρ3 hb3
        exact q3 ρ1 _ hb3 A F G' H' τ _ r' fun σ3 G3 H3 s3 r3 => ⟨ρ3, G3, (si.trans s').trans s3, r3, h2⟩
      · rename_i ρ3 hb3
        cases h2
        exact q3 ρ1 _ hb3 A F G' H' τ _ r' fun σ3 G3 H3 s3 r3 => k σ3 G3 H3 ((si.trans s').trans s3) r3
      · rename_i d3 ρ3 hb3
        cases h2
        exact q3 ρ1 _ hb3 A F G' H' τ _ r' fun x σ3 G3 H3 s3 r3 => k x σ3 G3 H3 ((si.trans s').trans s3) r3
      · cases h2
    | false =>
      rw [if_neg (by decide)]
      rw [if_neg (by decide)] at h2
      cases h2
      exact k τ G' H' (si.trans s') r'
end
end Fe
namespace Fe
open PySem PySem.Spec PyProof.Rows L2 RZ

/-! ## one reading for each function -/
def TF (K : PySem.W.Frag) (f : EF) : TE := fun σ H Q => ∃ ρ d ρ' A F G, f ρ = some (d, ρ') ∧ Rel K A F G H ρ σ ∧ ∀ x G' H', Same G G' → Rel K A F G' H' ρ' σ → Dq K G' x d → Q x H'
def TB (K : PySem.W.Frag) (f : BF) : TT := fun σ H Q => ∃ ρ d ρ' A F G, f ρ = some (d, ρ') ∧ Rel K A F G H ρ σ ∧ ∀ G' H', Same G G' → Rel K A F G' H' ρ' σ → Q d H'
def TGt (K : PySem.W.Frag) (is : List Nat) (g : PyData → En → Option En) : TG := fun x σ H Q => ∃ d ρ ρ' A F G, g d ρ = some ρ' ∧ Rel K A F G H ρ σ ∧ Dq K G x d ∧ ∀ σ', Rel K A F G H ρ' σ' → (∀ vs, (∀ i ∈ is, i ∈ vs) → wipe σ' vs = wipe σ vs) → Q σ' H
section
variable {X : Cx} {e a b : Expr} {pos : Pos} {f g : EF} {c : BF} {l : LF} {st : Stmt} {sts : List Stmt} {s1 s2 : SF}
theorem FE.can (h : FE X e f) : PE X e (TF X.K f) := by
  obtain ⟨t, p, q⟩ := h
  refine ⟨fun pins s σ H Q I w => p.run pins s σ H Q I ?_⟩
  obtain ⟨ρ, d, ρ', A, F, G, h1, h2, h3⟩ := w
  exact q ρ d ρ' h1 A F G H σ Q h2 h3
theorem FT.can (h : FT X e c) : PT X e (TB X.K c) := by
  obtain ⟨t, p, q⟩ := h
  refine ⟨fun pins s σ H Q I w => p.run pins s σ H Q I ?_⟩
  obtain ⟨ρ, d, ρ', A, F, G, h1, h2, h3⟩ := w
  exact q ρ d ρ' h1 A F G H σ Q h2 h3
theorem FG.can {is : List Nat} {gg : PyData → En → Option En} (h : FG X e is gg) : PG X e (TGt X.K is gg) := by
  obtain ⟨t, p, q⟩ := h
  refine ⟨fun pins s σ H v u Q I r w => p.run pins s σ H v u Q I r ?_⟩
  obtain ⟨d, ρ, ρ', A, F, G, h1, h2, h3, h4⟩ := w
  exact q d ρ ρ' h1 A F G H σ v Q h2 h3 h4

/-! ### what is walked -/
def rngL (lo : Int) (n : Nat) : List PyData := (List.range n).map fun k => .int (lo + (k : Nat))
theorem rngL_len {lo : Int} {n : Nat} : (rngL lo n).length = n := by simp [rngL]
theorem rngL_get {lo : Int} {n i : Nat} {d : PyData} (h : (rngL lo n)[i]? = some d) : d = .int (lo + (i : Nat)) := by
  unfold rngL at h
  rw [List.getElem?_map] at h
  by_cases hi : i < n
  · rw [List.getElem?_range hi] at h
    exact (Option.some.inj h).symm
  · rw [List.getElem?_eq_none (by simpa using hi)] at h
    cases h
theorem yld_rng {K : PySem.W.Frag} {lo : Int} {n : Nat} {G : Hp} : Yld K (Itr lo n) G (rngL lo n) where
  go := fun i H _ h => by
    rw [rngL_len] at h
    exact h
  stop := fun H _ => by
    rw [rngL_len]
    exact Nat.le_refl n
  yl := fun i H x H' d hy hd A F G ρ σ _ R => by
    obtain ⟨e1, e2⟩ := hy
    subst e1
    rw [rngL_get hd, e2]
    exact ⟨G, Same.refl G, R, .int _⟩
theorem yld_lst {K : PySem.W.Frag} {a : Addr} {xs : List V} {ds : List PyData} {G : Hp} (h : G a = some (.lst xs)) (k : DqA K G xs ds) : Yld K (Itl K a) G ds where
  go := fun i H s hi => by
    obtain ⟨v, h1, _⟩ := k.get (List.getElem?_eq_getElem hi)
    exact ⟨xs, v, Or.inl (Or.inl (s _ _ h)), h1⟩
  stop := fun H s => ⟨xs, Or.inl (Or.inl (s _ _ h)), Nat.le_of_eq k.len⟩
  yl := fun i H x H' d hy hd A F G2 ρ σ s R => by
    obtain ⟨rfl, hx⟩ := hy
    have h1 := hx xs (Or.inl (Or.inl (R.gh _ _ (s _ _ h))))
    obtain ⟨v, h2, h3⟩ := k.get hd
    rw [h1] at h2
    cases h2
    exact ⟨G2, Same.refl _, R, h3.up s⟩
theorem yld_tup {K : PySem.W.Frag} {a : Addr} {xs : List V} {ds : List PyData} {G : Hp} (h : SqT K G a xs) (k : DqA K G xs ds) : Yld K (Itt K a) G ds where
  go := fun i H s hi => by
    obtain ⟨v, h1, _⟩ := k.get (List.getElem?_eq_getElem hi)
    exact ⟨xs, v, sqT_up s h, h1⟩
  stop := fun H s => ⟨xs, sqT_up s h, Nat.le_of_eq k.len⟩
  yl := fun i H x H' d hy hd A F G2 ρ σ s R => by
    obtain ⟨rfl, hx⟩ := hy
    have h1 := hx xs (sqT_up (s.trans R.gh) h)
    obtain ⟨v, h2, h3⟩ := k.get hd
    rw [h1] at h2
    cases h2
    exact ⟨G2, Same.refl _, R, h3.up s⟩
/-- a list or a tuple -/
theorem pi_seqAny {tg : Expr} {tl : TE} (hl : PE X e tl) : PI X tg e (fun σ H R => tl σ H fun x H1 => ∃ a, x = .ref a ∧ ((∃ xs, SqL X.K H1 a xs ∧ R (Itl X.K a) H1) ∨ (∃ xs, SqT X.K H1 a xs ∧ R (Itt X.K a) H1))) := by
  constructor
  intro pins s σ H R I w
  refine thn (hl.run pins s σ H _ I w) ?_
  rintro v s1 ⟨x, H1, J, rx, a, ex, (⟨xs, hq, q⟩ | ⟨xs, hq, q⟩)⟩ <;> subst ex <;> cases rx
  · obtain ⟨its, _, pl, _⟩ := J.list hq
    refine wpAny_pyIter_list pl.isList ⟨s1.heap.objs.size, [s1.heap.objs.size], _, _, H1, rfl, J.kept (t' := s1.toks) (fun _ _ z => Heap.get?_push_of_some _ z), turn_list a _, ⟨_, Heap.get?_push_size _ rfl, rfl, rfl⟩, ?_, q⟩
    intro c hc
    obtain rfl := List.mem_singleton.mp hc
    exact J.fpOk (Nat.le_refl _) (J.hok.fresh (Nat.le_refl _))
  · obtain ⟨its, _, pt, _⟩ := J.tuple hq
    refine wpAny_pyIter_tuple (show s1.heap.IsTuple a its.toArray from pt) ⟨s1.heap.objs.size, [s1.heap.objs.size], _, _, H1, rfl, J.kept (t' := s1.toks) (fun _ _ z => Heap.get?_push_of_some _ z), turn_tuple a _, ⟨_, Heap.get?_push_size _ rfl, rfl, rfl⟩, ?_, q⟩
    intro c hc
    obtain rfl := List.mem_singleton.mp hc
    exact J.fpOk (Nat.le_refl _) (J.hok.fresh (Nat.le_refl _))
@[simp] def fSeq (f : EF) : LF := fun ρ => bnd (f ρ) fun d ρ1 => match d with
  | .list ds => some (ds, ρ1)
  | .tuple ds => some (ds, ρ1)
  | _ => none
variable {tg : Expr}
theorem fi_seq (h : FE X e f) : FI X tg e (fSeq f) := by
  obtain ⟨t, p, q⟩ := h
  refine ⟨_, pi_seqAny p, fun ρ ds ρ' h A F G H σ R r k => ?_⟩
  obtain ⟨d, ρ1, h1, h2⟩ := bnd_some h
  refine q ρ d ρ1 h1 A F G H σ _ r fun x G' H' s r' z => ?_
  split at h2
  · cases h2
    cases z with | lst z1 z2 => exact ⟨_, rfl, Or.inl ⟨_, Or.inl (Or.inl (r'.gh _ _ z1)), k _ G' H' s r' (yld_lst z1 z2)⟩⟩
  · cases h2
    cases z with | tup z1 z2 => exact ⟨_, rfl, Or.inr ⟨_, sqT_up r'.gh z1, k _ G' H' s r' (yld_tup z1 z2)⟩⟩
  · cases h2
/-- range(n), range(m, n) -/
def inB (j : Int) : Bool := Nat.ble j.natAbs 4611686018427387903
theorem inB_ok {j : Int} (h : inB j = true) : -(2 ^ 62) ≤ j ∧ j < 2 ^ 62 := by
  have := Nat.le_of_ble_eq_true h
  omega
@[simp] def fRng1 (l : LF) : LF := fun ρ => bnd (l ρ) fun ds ρ1 => match ds with
  | [.int j] => if inB j = true then some (rngL 0 j.toNat, ρ1) else none
  | _ => none
@[simp] def fRng2 (l : LF) : LF := fun ρ => bnd (l ρ) fun ds ρ1 => match ds with
  | [.int i, .int j] => if (inB i && inB j) = true then some (rngL i (j - i).toNat, ρ1) else none
  | _ => none
variable {pp : Pos}
theorem fi_rng1 (ha : FA X [a] l) (hg : Gl X "range") (hm : X.mg "range" = none) (hs : starEach [a] X.env = [(false, eval a X.env)] := by rfl) : FI X tg (.Call (.Name "range" pp) [a] [] pos) (fRng1 l) := by
  obtain ⟨t, p, q⟩ := ha
  refine ⟨_, pi_range1 hg hm p hs, fun ρ ds ρ' h A F G H σ R r k => ?_⟩
  obtain ⟨d, ρ1, h1, h2⟩ := bnd_some h
  refine q ρ d ρ1 h1 A F G H σ _ r fun x G' H' s r' z => ?_
  split at h2
  · split at h2
    · rename_i j hj
      cases h2
      have hb := inB_ok hj
      cases z with | cons z1 z2 =>
      cases z1
      cases z2
      exact ⟨j, rfl, hb.1, hb.2, k _ G' H' s r' yld_rng⟩
    · cases h2
  · cases h2
theorem fi_rng2 (ha : FA X [a, b] l) (hg : Gl X "range") (hm : X.mg "range" = none) (hs : starEach [a, b] X.env = [(false, eval a X.env), (false, eval b X.env)] := by rfl) (hs2 : starEach [b] X.env = [(false, eval b X.env)] := by rfl) : FI X tg (.Call (.Name "range" pp) [a, b] [] pos) (fRng2 l) := by
  obtain ⟨t, p, q⟩ := ha
  refine ⟨_, pi_range2 hg hm p hs hs2, fun ρ ds ρ' h A F G H σ R r k => ?_⟩
  obtain ⟨d, ρ1, h1, h2⟩ := bnd_some h
  refine q ρ d ρ1 h1 A F G H σ _ r fun x G' H' s r' z => ?_
  split at h2
  · split at h2
    · rename_i i j hj
      cases h2
      have hj' := Bool.and_eq_true_iff.mp hj
      have hb := inB_ok hj'.1
      have hc := inB_ok hj'.2
      cases z with | cons z1 z2 =>
      cases z2 with | cons z2 z3 =>
      cases z1
      cases z2
      cases z3
      exact ⟨i, j, rfl, ⟨hb.1, hb.2, hc.1, hc.2⟩, k _ G' H' s r' yld_rng⟩
    · cases h2
  · cases h2
def rngC (lo c : Int) (n : Nat) : List PyData := (List.range n).map fun (k : Nat) => PyData.int (lo + (k : Nat) * c)
def rcOk (i j c : Int) : Bool := Nat.ble (i.natAbs + j.natAbs) 16777216 && (decide (c ≠ 0) && (Nat.blt c.natAbs 1073741824 && (Builtin.Range.small i j c && decide (0 ≤ Builtin.Range.rangeSize i j c))))
def fRng3 (l : LF) : LF := fun ρ => bnd (l ρ) fun ds ρ1 => match ds with
  | [.int i, .int j, .int c] => if rcOk i j c = true then some (rngC i c (Builtin.Range.rangeSize i j c).toNat, ρ1) else none
  | _ => none
theorem yld_rngC {K : PySem.W.Frag} {lo c : Int} {n : Nat} {G : Hp} : Yld K (Itc lo c n) G (rngC lo c n) where
  go := fun i H _ h => by
    have e : (rngC lo c n).length = n := by simp [rngC]
    rw [e] at h
    exact h
  stop := fun H _ => by
    have e : (rngC lo c n).length = n := by simp [rngC]
    rw [e]
    exact Nat.le_refl n
  yl := fun i H x H' d hy hd A F G ρ σ _ R => by
    obtain ⟨e1, e2⟩ := hy
    subst e1
    unfold rngC at hd
    rw [List.getElem?_map] at hd
    by_cases hi : i < n
    · rw [List.getElem?_range hi] at hd
      cases hd
      rw [e2]
      exact ⟨G, Same.refl G, R, .int _⟩
    · rw [List.getElem?_eq_none (by simpa using hi)] at hd
      cases hd
theorem fi_rng3 {d : Expr} (ha : FA X [a, b, d] l) (hg : Gl X "range") (hm : X.mg "range" = none) (hs : starEach [a, b, d] X.env = (false, eval a X.env) :: starEach [b, d] X.env := by rfl) (hpl : (backTo pos (starEach [b, d] X.env)).any (·.1) = false := by rfl) : FI X tg (.Call (.Name "range" pp) [a, b, d] [] pos) (fRng3 l) := by
  obtain ⟨t, p, q⟩ := ha
  refine ⟨_, pi_range3 hg hm p hs hpl, fun ρ ds ρ' h A F G H σ R r k => ?_⟩
  obtain ⟨d, ρ1, h1, h2⟩ := bnd_some h
  refine q ρ d ρ1 h1 A F G H σ _ r fun x G' H' s r' z => ?_
  split at h2
  · split at h2
    · rename_i i j c hj
      cases h2
      unfold rcOk at hj
      simp only [Bool.and_eq_true, decide_eq_true_eq] at hj
      obtain ⟨_, g1, g2, g3, g4⟩ := hj
      cases z with | cons z1 z2 =>
      cases z2 with | cons z2 z3 =>
      cases z3 with | cons z3 z4 =>
      cases z1
      cases z2
      cases z3
      cases z4
      exact ⟨i, j, c, _, rfl, ⟨g1, Nat.le_of_ble_eq_true g2, g3, (Int.toNat_of_nonneg g4).symm⟩, k _ G' H' s r' yld_rngC⟩
    · cases h2
  · cases h2
/-- enumerate(a list) -/
def enumD : Nat → List PyData → List PyData
  | _, [] => []
  | n, d :: r => .tuple [.int n, d] :: enumD (n + 1) r
theorem enumD_get : ∀ {ds : List PyData} {n i : Nat} {t : PyData}, (enumD n ds)[i]? = some t → ∃ d, ds[i]? = some d ∧ t = .tuple [.int (n + i : Nat), d]
  | [], _, _, _, h => by simp [enumD] at h
  | d :: r, n, 0, t, h => by
    simp [enumD] at h
    exact ⟨d, rfl, h.symm⟩
  | d :: r, n, i + 1, t, h => by
    obtain ⟨d', h1, h2⟩ := enumD_get (ds := r) (n := n + 1) (i := i) (by simpa [enumD] using h)
    refine ⟨d', by simpa using h1, ?_⟩
    rw [h2, show n + 1 + i = n + (i + 1) by omega]
theorem enumD_len : ∀ {ds : List PyData} {n : Nat}, (enumD n ds).length = ds.length
  | [], _ => rfl
  | _ :: r, n => congrArg (· + 1) (enumD_len (ds := r) (n := n + 1))
theorem yld_enum {K : PySem.W.Frag} {a : Addr} {xs : List V} {ds : List PyData} {G : Hp} (h : G a = some (.lst xs)) (k : DqA K G xs ds) : Yld K (Ite K a) G (enumD 0 ds) where
  go := fun i H s hi => by
    rw [enumD_len] at hi
    obtain ⟨v, h1, _⟩ := k.get (List.getElem?_eq_getElem hi)
    exact ⟨xs, v, Or.inl (Or.inl (s _ _ h)), h1⟩
  stop := fun H s => ⟨xs, Or.inl (Or.inl (s _ _ h)), by rw [enumD_len]; exact Nat.le_of_eq k.len⟩
  yl := fun i H x H' d hy hd A F G2 ρ σ s R => by
    obtain ⟨T, y, rfl, hT, rfl, hx⟩ := hy
    obtain ⟨d', hd', rfl⟩ := enumD_get hd
    have h1 := hx xs (Or.inl (Or.inl (R.gh _ _ (s _ _ h))))
    obtain ⟨v, h2, h3⟩ := k.get hd'
    rw [h1] at h2
    cases h2
    have gT := none_of R.gh hT
    refine ⟨_, same_new gT, R.new hT, .tup (Or.inl (Or.inl upd_same)) (.cons ?_ (.cons (h3.up (s.trans (same_new gT))) .nil))⟩
    rw [Nat.zero_add]
    exact .int _
@[simp] def fEnum (f : EF) : LF := fun ρ => bnd (f ρ) fun d ρ1 => match d with
  | .list ds => some (enumD 0 ds, ρ1)
  | _ => none
theorem fi_enum {elts : List Expr} {kk : Nat} {tpos : Pos} (h : FE X e f) (hg : Gl X "enumerate") (hm : X.mg "enumerate" = none) (hs : starEach [e] X.env = [(false, eval e X.env)] := by rfl) (hs2 : starEach (e :: []) X.env = (false, eval e X.env) :: starEach [] X.env := by rfl) :
    FI X (.Tuple elts kk tpos) (.Call (.Name "enumerate" pp) [e] [] pos) (fEnum f) := by
  obtain ⟨t, p, q⟩ := h
  refine ⟨_, pi_enum hg hm (pa_cons p pa_nil hs2) hs, fun ρ ds ρ' h A F G H σ R r k => ?_⟩
  obtain ⟨d, ρ1, h1, h2⟩ := bnd_some h
  refine q ρ d ρ1 h1 A F G H σ _ r fun x G' H' s r' z => ?_
  split at h2
  · cases h2
    cases z with | lst z1 z2 => exact ⟨_, _, rfl, Or.inl (Or.inl (r'.gh _ _ z1)), k _ G' H' s r' (yld_enum z1 z2)⟩
  · cases h2
/-- zip of two lists, of two tuples -/
def zipD : List PyData → List PyData → List PyData
  | x :: r, y :: w => .tuple [x, y] :: zipD r w
  | _, _ => []
theorem zipD_get : ∀ {ds es : List PyData} {i : Nat} {t : PyData}, (zipD ds es)[i]? = some t → ∃ d e, ds[i]? = some d ∧ es[i]? = some e ∧ t = .tuple [d, e]
  | [], _, _, _, h => by simp [zipD] at h
  | _ :: _, [], _, _, h => by simp [zipD] at h
  | x :: r, y :: w, 0, t, h => by
    simp [zipD] at h
    exact ⟨x, y, rfl, rfl, h.symm⟩
  | x :: r, y :: w, i + 1, t, h => by
    obtain ⟨d, e, h1, h2, h3⟩ := zipD_get (ds := r) (es := w) (i := i) (by simpa [zipD] using h)
    exact ⟨d, e, by simpa using h1, by simpa using h2, h3⟩
theorem zipD_len : ∀ {ds es : List PyData}, (zipD ds es).length = min ds.length es.length
  | [], _ => by simp [zipD]
  | _ :: _, [] => by simp [zipD]
  | _ :: r, _ :: w => by simp [zipD, zipD_len (ds := r) (es := w)]
theorem yld_zip {K : PySem.W.Frag} {a b : Addr} {xs ys : List V} {ds es : List PyData} {G : Hp} (h : G a = some (.lst xs)) (k : DqA K G xs ds) (h' : G b = some (.lst ys)) (k' : DqA K G ys es) : Yld K (Itz K a b) G (zipD ds es) where
  go := fun i H s hi => by
    rw [zipD_len] at hi
    obtain ⟨v, h1, _⟩ := k.get (List.getElem?_eq_getElem (show i < ds.length by omega))
    obtain ⟨u, h2, _⟩ := k'.get (List.getElem?_eq_getElem (show i < es.length by omega))
    exact ⟨xs, ys, v, u, Or.inl (Or.inl (s _ _ h)), Or.inl (Or.inl (s _ _ h')), h1, h2⟩
  stop := fun H s => ⟨xs, ys, Or.inl (Or.inl (s _ _ h)), Or.inl (Or.inl (s _ _ h')), by
    have e1 := k.len
    have e2 := k'.len
    rw [zipD_len]
    omega⟩
  yl := fun i H x H' d hy hd A F G2 ρ σ s R => by
    obtain ⟨T, y, u, rfl, hT, rfl, hx, hu⟩ := hy
    obtain ⟨d', e', hd', he', rfl⟩ := zipD_get hd
    have h1 := hx xs (Or.inl (Or.inl (R.gh _ _ (s _ _ h))))
    have h4 := hu ys (Or.inl (Or.inl (R.gh _ _ (s _ _ h'))))
    obtain ⟨v, h2, h3⟩ := k.get hd'
    obtain ⟨v', h5, h6⟩ := k'.get he'
    rw [h1] at h2
    cases h2
    rw [h4] at h5
    cases h5
    have gT := none_of R.gh hT
    exact ⟨_, same_new gT, R.new hT, .tup (Or.inl (Or.inl upd_same)) (.cons (h3.up (s.trans (same_new gT))) (.cons (h6.up (s.trans (same_new gT))) .nil))⟩
theorem yld_zipT {K : PySem.W.Frag} {a b : Addr} {xs ys : List V} {ds es : List PyData} {G : Hp} (h : SqT K G a xs) (k : DqA K G xs ds) (h' : SqT K G b ys) (k' : DqA K G ys es) : Yld K (ItzT K a b) G (zipD ds es) where
  go := fun i H s hi => by
    rw [zipD_len] at hi
    obtain ⟨v, h1, _⟩ := k.get (List.getElem?_eq_getElem (show i < ds.length by omega))
    obtain ⟨u, h2, _⟩ := k'.get (List.getElem?_eq_getElem (show i < es.length by omega))
    exact ⟨xs, ys, v, u, sqT_up s h, sqT_up s h', h1, h2⟩
  stop := fun H s => ⟨xs, ys, sqT_up s h, sqT_up s h', by
    have e1 := k.len
    have e2 := k'.len
    rw [zipD_len]
    omega⟩
  yl := fun i H x H' d hy hd A F G2 ρ σ s R => by
    obtain ⟨T, y, u, rfl, hT, rfl, hx, hu⟩ := hy
    obtain ⟨d', e', hd', he', rfl⟩ := zipD_get hd
    have h1 := hx xs (sqT_up (s.trans R.gh) h)
    have h4 := hu ys (sqT_up (s.trans R.gh) h')
    obtain ⟨v, h2, h3⟩ := k.get hd'
    obtain ⟨v', h5, h6⟩ := k'.get he'
    rw [h1] at h2
    cases h2
    rw [h4] at h5
    cases h5
    have gT := none_of R.gh hT
    exact ⟨_, same_new gT, R.new hT, .tup (Or.inl (Or.inl upd_same)) (.cons (h3.up (s.trans (same_new gT))) (.cons (h6.up (s.trans (same_new gT))) .nil))⟩
@[simp] def fZip (l : LF) : LF := fun ρ => bnd (l ρ) fun ds ρ1 => match ds with
  | [.list xs, .list ys] => some (zipD xs ys, ρ1)
  | [.tuple xs, .tuple ys] => some (zipD xs ys, ρ1)
  | _ => none
theorem fi_zip {elts : List Expr} {kk : Nat} {tpos : Pos} (ha : FA X [a, b] l) (hg : Gl X "zip") (hm : X.mg "zip" = none) (hs : starEach [a, b] X.env = (false, eval a X.env) :: starEach [b] X.env := by rfl) (hpl : (backTo pos (starEach [b] X.env)).any (·.1) = false := by rfl) :
    FI X (.Tuple elts kk tpos) (.Call (.Name "zip" pp) [a, b] [] pos) (fZip l) := by
  obtain ⟨t, p, q⟩ := ha
  refine ⟨_, pi_zipA hg hm p hs hpl, fun ρ ds ρ' h A F G H σ R r k => ?_⟩
  obtain ⟨d, ρ1, h1, h2⟩ := bnd_some h
  refine q ρ d ρ1 h1 A F G H σ _ r fun x G' H' s r' z => ?_
  split at h2
  · cases h2
    cases z with | cons z1 z2 =>
    cases z2 with | cons z2 z3 =>
    cases z3
    cases z1 with | lst u1 u2 =>
    cases z2 with | lst w1 w2 =>
    exact ⟨_, _, _, _, rfl, Or.inl ⟨Or.inl (Or.inl (r'.gh _ _ u1)), Or.inl (Or.inl (r'.gh _ _ w1)), k _ G' H' s r' (yld_zip u1 u2 w1 w2)⟩⟩
  · cases h2
    cases z with | cons z1 z2 =>
    cases z2 with | cons z2 z3 =>
    cases z3
    cases z1 with | tup u1 u2 =>
    cases z2 with | tup w1 w2 =>
    exact ⟨_, _, _, _, rfl, Or.inr ⟨sqT_up r'.gh u1, sqT_up r'.gh w1, k _ G' H' s r' (yld_zipT u1 u2 w1 w2)⟩⟩
  · cases h2
end
end Fe
namespace Fe
open PySem PySem.Spec PyProof.Rows L2

/-! ## comprehensions -/
@[simp] def wipeE (ρ : En) : List Nat → En
  | [] => ρ
  | v :: vs => (wipeE ρ vs).set v .un
section
variable {K : PySem.W.Frag} {A : Option Addr} {F G G' H H' : Hp} {ρ ρ' : En} {σ τ : L2.St}
theorem Rel.wipe (R : Rel K A F G H ρ σ) : ∀ vs : List Nat, Rel K A F G H (wipeE ρ vs) (L2.wipe σ vs)
  | [] => R
  | v :: vs => (R.wipe vs).putU v none
/-- other values where nothing is known -/
theorem Rel.other (R : Rel K A F G H ρ τ) (hl : σ.length = τ.length) (h : ∀ (i : Nat) (s : Sl), ρ[i]? = some s → s ≠ Sl.un → σ[i]? = τ[i]?) : Rel K A F G H ρ σ := by
  obtain ⟨P, r1, r2, r3⟩ := R.rg
  refine ⟨R.gh, R.fh, R.fg, R.len.trans hl.symm, P, fun i s e => ?_, r2, r3⟩
  obtain ⟨x, e1, e2⟩ := r1 i s e
  by_cases hs : s = Sl.un
  · subst hs
    have hi : i < σ.length := by
      have := (List.getElem?_eq_some_iff.mp e1).1
      omega
    exact ⟨σ[i], List.getElem?_eq_getElem hi, e2⟩
  · exact ⟨x, (h i s e hs).trans e1, e2⟩
theorem wipeE_in {i : Nat} : ∀ {vs : List Nat} {s : Sl}, i ∈ vs → (wipeE ρ vs)[i]? = some s → s = .un
  | v :: vs, s, h, e => by
    unfold wipeE at e
    by_cases hi : v = i
    · subst hi
      rw [List.getElem?_set_self'] at e
      cases q : (wipeE ρ vs)[v]? with
      | none => rw [q] at e; cases e
      | some u =>
        rw [q] at e
        exact (Option.some.inj e).symm
    · rw [List.getElem?_set_ne hi] at e
      rcases List.mem_cons.mp h with z | z
      · exact absurd z.symm hi
      · exact wipeE_in z e
theorem Rel.unwipe {vs : List Nat} (R : Rel K A F G H (wipeE ρ vs) (L2.wipe σ vs)) : Rel K A F G H (wipeE ρ vs) σ :=
  R.other (wipe_length σ vs).symm fun i s e hs => (wipe_out fun hi => hs (wipeE_in hi e)).symm
theorem wipe_idem : ∀ {vs : List Nat}, L2.wipe (L2.wipe σ vs) vs = L2.wipe σ vs := by
  have aux : ∀ us vs : List Nat, (∀ i ∈ us, i ∈ vs) → L2.wipe (L2.wipe σ us) vs = L2.wipe σ vs := by
    intro us
    induction us with
    | nil => intro vs _; rfl
    | cons u w ih =>
      intro vs h
      show L2.wipe ((L2.wipe σ w).set u none) vs = _
      rw [wipe_set (h u List.mem_cons_self)]
      exact ih vs fun i hi => h i (List.mem_cons_of_mem _ hi)
  exact fun {vs} => aux vs vs fun _ h => h
end
def cl (vs : List Nat) (g : PyData → En → Option En) (c : BF) (e : EF) : List PyData → LF
  | [], ρ => some ([], wipeE ρ vs)
  | d :: r, ρ => match g d (wipeE ρ vs) with
    | none => none
    | some ρ1 => bnd (c ρ1) fun k ρ2 => if k = true then bnd (e ρ2) fun y ρ3 => bnd (cl vs g c e r ρ3) fun ys ρ4 => some (y :: ys, ρ4) else cl vs g c e r ρ2
@[simp] def fComp (vs : List Nat) (fi : LF) (g : PyData → En → Option En) (c : BF) (e : EF) : LF := fun ρ => bnd (fi ρ) fun ds ρ1 => if Nat.ble ds.length 16777216 = true then cl vs g c e ds ρ1 else none
@[simp] def fYes : BF := fun ρ => some (true, ρ)
section
variable {X : Cx} {elt tg iter : Expr} {ifs : List Expr} {scope : Scope} {own : List (Str × Nat)} {pos : Pos} {fi : LF} {gg : PyData → En → Option En} {c : BF} {f : EF} {is : List Nat}
/-- a comprehension's test list -/
def FTs (X : Cx) (es : List Expr) (f : BF) : Prop := ∃ t, PTs X es t ∧ ∀ ρ d ρ', f ρ = some (d, ρ') → ∀ A F G H σ Q, Rel X.K A F G H ρ σ →
  (∀ G' H', Same G G' → Rel X.K A F G' H' ρ' σ → Q d H') → t σ H Q
theorem fts_nil : FTs X [] fYes := by
  refine ⟨_, pts_nil, fun ρ d ρ' h A F G H σ Q R k => ?_⟩
  cases h
  exact k G H (Same.refl G) R
theorem fts_one {e : Expr} (h : FT X e c) : FTs X [e] c := by
  obtain ⟨t, p, q⟩ := h
  exact ⟨t, pts_one p, q⟩
theorem FTs.can {es : List Expr} (h : FTs X es c) : PTs X es (TB X.K c) := by
  obtain ⟨t, p, q⟩ := h
  refine ⟨fun pins s σ H Q I w => p.run pins s σ H Q I ?_⟩
  obtain ⟨ρ, d, ρ', A, F, G, h1, h2, h3⟩ := w
  exact q ρ d ρ' h1 A F G H σ Q h2 h3
theorem lc_spec {K : PySem.W.Frag} {wi : TI} {vs : List Nat} (hv : ∀ i ∈ is, i ∈ vs)
    (q : ∀ ρ ds ρ', fi ρ = some (ds, ρ') → ∀ A F G H σ R, Rel K A F G H ρ σ → (∀ J G' H', Same G G' → Rel K A F G' H' ρ' σ → Yld K J G' ds → R J H') → wi σ H R) :
    ∀ ρ ds ρ', fComp vs fi gg c f ρ = some (ds, ρ') → ∀ A F G H σ (Q : VK), Rel K A F G H ρ σ →
      (∀ a xs G' H', F a = none → Same G G' → Rel K A (upd F a (.lst xs)) G' H' ρ' σ → DqA K G' xs ds → xs.length ≤ sizeLine → Q (.ref a) H') → tLc wi (TGt K is gg) (TB K c) (TF K f) vs σ H Q := by
  intro ρ es ρ' h A F G H σ Q R k
  obtain ⟨ds, ρ1, h1, h2⟩ := bnd_some h
  split at h2
  · rename_i hz
    have hz' := ble_line hz
    refine q ρ ds ρ1 h1 A F G H σ _ R fun J G1 H1 s1 r1 Y D hD => ?_
    have fD := none_of r1.fh hD
    refine ⟨fun i m H2 => m = ds.length - i ∧ i ≤ ds.length ∧ ∃ τ ρi Gi acc da rest, L2.wipe τ vs = L2.wipe σ vs ∧ Same G1 Gi ∧ Rel K A (upd F D (.lst acc)) Gi H2 ρi τ ∧ DqA K Gi acc da ∧ acc.length ≤ i ∧ cl vs gg c f (ds.drop i) ρi = some (rest, ρ') ∧ da ++ rest = es,
      ⟨ds.length, by simp, by simp, σ, ρ1, G1, [], [], es, rfl, Same.refl _, r1.newF hD, .nil, Nat.le_refl _, by simpa using h2, rfl⟩, ?_⟩
    rintro i m H2 ⟨rfl, hi, τ, ρi, Gi, acc, da, rest, hw, si, ri, ha, hal, hl, hes⟩
    by_cases hlt : i < ds.length
    · rw [List.drop_eq_getElem_cons hlt] at hl
      refine .inr ⟨Y.go i H2 (si.trans ri.gh) hlt, _, fun H' hN => ⟨ds.length - (i + 1), by omega, hN⟩, fun x H' hy => ?_⟩
      obtain ⟨G', s', r', z⟩ := Y.yl i H2 x H' ds[i] hy (List.getElem?_eq_getElem hlt) A _ Gi ρi τ si ri
      have rw' : Rel K A (upd F D (.lst acc)) G' H' (wipeE ρi vs) (L2.wipe σ vs) := hw ▸ r'.wipe vs
      unfold cl at hl
      split at hl
      · cases hl
      · rename_i ρ2 hg2
        obtain ⟨b, ρ3, hc3, hl⟩ := bnd_some hl
        refine ⟨ds[i], _, ρ2, A, _, G', hg2, rw', z, fun σ2 r2 w2 => ⟨(w2 vs hv).trans wipe_idem, ?_⟩⟩
        have w2' : L2.wipe σ2 vs = L2.wipe σ vs := (w2 vs hv).trans wipe_idem
        refine ⟨ρ2, b, ρ3, A, _, G', hc3, r2, fun G3 H3 s3 r3 => ?_⟩
        cases b with
        | true =>
          rw [if_pos rfl] at hl
          rw [if_pos rfl]
          obtain ⟨y, ρ4, he4, hl⟩ := bnd_some hl
          obtain ⟨ys, ρ5, he5, hl⟩ := bnd_some hl
          cases hl
          refine ⟨ρ3, y, ρ4, A, _, G3, he4, r3, fun v G4 H4 s4 r4 z4 => ?_⟩
          have s04 : Same Gi G4 := (s'.trans s3).trans s4
          refine ⟨acc, r4.fh D _ upd_same, by omega, rfl, by omega, σ2, ρ4, G4, acc ++ [v], da ++ [y], ys, w2', si.trans s04, r4.chgF, (ha.up s04).app (.one z4), ?_, he5, ?_⟩
          · rw [List.length_append]
            exact Nat.add_le_add_right hal 1
          · rw [List.append_assoc]
            exact hes
        | false =>
          rw [if_neg (by decide)] at hl
          rw [if_neg (by decide)]
          exact ⟨rfl, by omega, σ2, ρ3, G3, acc, da, rest, w2', si.trans (s'.trans s3), r3, ha.up (s'.trans s3), by omega, hl, hes⟩
    · have e : i = ds.length := by omega
      subst e
      rw [List.drop_length] at hl
      unfold cl at hl
      cases hl
      rw [List.append_nil] at hes
      subst hes
      refine .inl ⟨Y.stop H2 (si.trans ri.gh), k D acc Gi H2 fD (s1.trans si) ?_ ha (by omega)⟩
      exact Rel.unwipe (hw ▸ ri.wipe vs)
  · cases h2
theorem fl_lc (own : List (Str × Nat)) (hc : X.calm = true) (hN : X.N.Nodup) (hi : FI X tg iter fi) (ok : BlkOk X.N X.env.scope scope own)
    (hg : ∀ s H C cl fp, FG (X.blk s H scope (compEnvC scope cl C X.env) fp) tg is gg) (ht : ∀ s H C cl fp, FTs (X.blk s H scope (compEnvC scope cl C X.env) fp) ifs c)
    (he : ∀ s H C cl fp, FE (X.blk s H scope (compEnvC scope cl C X.env) fp) elt f) (hv : ∀ i ∈ is, i ∈ own.map (·.2) := by decide) (hs : ∀ x, foldedSetIterable iter X.env x = pure x := by intro _; rfl) :
    FL X (.ListComp elt [⟨tg, iter, ifs, 0⟩] scope pos) (fComp (own.map (·.2)) fi gg c f) := by
  obtain ⟨wi, p, q⟩ := hi
  exact ⟨_, pe_lc hc hN p ok (fun s H C cl fp => (show PG _ tg (TGt X.K is gg) from (hg s H C cl fp).can)) (fun s H C cl fp => (show PTs _ ifs (TB X.K c) from (ht s H C cl fp).can)) (fun s H C cl fp => (show PE _ elt (TF X.K f) from (he s H C cl fp).can)) hs, lc_spec hv q⟩
/-- y = [..], kept -/
theorem fs_lcV {i : Nat} {y : Str} {py spos : Pos} (own : List (Str × Nat)) (hc : X.calm = true) (hN : X.N.Nodup) (hy : X.N[i]? = some y) (hyl : X.env.scope.names.lookup y = some .local) (hsw : swapsWith (.ListComp elt [⟨tg, iter, ifs, 0⟩] scope pos) (some (.Name y py)) spos.line X.env = pure true)
    (hi : FI X tg iter fi) (ok : BlkOk X.N X.env.scope scope own) (hg : ∀ s H C cl fp, FG (X.blk s H scope (compEnvC scope cl C X.env) fp) tg is gg) (ht : ∀ s H C cl fp, FTs (X.blk s H scope (compEnvC scope cl C X.env) fp) ifs c)
    (he : ∀ s H C cl fp, FE (X.blk s H scope (compEnvC scope cl C X.env) fp) elt f) (hv : ∀ i ∈ is, i ∈ own.map (·.2) := by decide) (hs : ∀ x, foldedSetIterable iter X.env x = pure x := by intro _; rfl) :
    FS X (.Assign [.Name y py] (.ListComp elt [⟨tg, iter, ifs, 0⟩] scope pos) spos) (sSet i (fAsL (fComp (own.map (·.2)) fi gg c f))) := by
  obtain ⟨wi, p, q⟩ := hi
  refine ⟨_, ps_setLc hc hN hy hyl hsw p ok (fun s H C cl fp => (show PG _ tg (TGt X.K is gg) from (hg s H C cl fp).can)) (fun s H C cl fp => (show PTs _ ifs (TB X.K c) from (ht s H C cl fp).can)) (fun s H C cl fp => (show PE _ elt (TF X.K f) from (he s H C cl fp).can)) hs, fun ρ o h A F G H σ D R k => ?_⟩
  obtain ⟨d, ρ1, h3, h4⟩ := bnd_some h
  obtain ⟨es, ρ2, h5, h6⟩ := bnd_some h3
  cases h6
  cases h4
  refine lc_spec hv q ρ es _ h5 A F G H σ _ R fun a xs G' H' fa s r z _ => ?_
  have g0 : G' a = none := r.fg a _ upd_same
  exact k _ _ H' (s.trans (same_new g0)) ((r.keepF fa).putV i (.lst upd_same (z.up (same_new g0))))
/-- y = [..], one's own -/
theorem fs_lcO {i : Nat} {y : Str} {py spos : Pos} (own : List (Str × Nat)) (hc : X.calm = true) (hN : X.N.Nodup) (hy : X.N[i]? = some y) (hyl : X.env.scope.names.lookup y = some .local) (hsw : swapsWith (.ListComp elt [⟨tg, iter, ifs, 0⟩] scope pos) (some (.Name y py)) spos.line X.env = pure true)
    (hi : FI X tg iter fi) (ok : BlkOk X.N X.env.scope scope own) (hg : ∀ s H C cl fp, FG (X.blk s H scope (compEnvC scope cl C X.env) fp) tg is gg) (ht : ∀ s H C cl fp, FTs (X.blk s H scope (compEnvC scope cl C X.env) fp) ifs c)
    (he : ∀ s H C cl fp, FE (X.blk s H scope (compEnvC scope cl C X.env) fp) elt f) (hv : ∀ i ∈ is, i ∈ own.map (·.2) := by decide) (hs : ∀ x, foldedSetIterable iter X.env x = pure x := by intro _; rfl) :
    FS X (.Assign [.Name y py] (.ListComp elt [⟨tg, iter, ifs, 0⟩] scope pos) spos) (sOwn i (fComp (own.map (·.2)) fi gg c f)) := by
  obtain ⟨wi, p, q⟩ := hi
  refine ⟨_, ps_setLc hc hN hy hyl hsw p ok (fun s H C cl fp => (show PG _ tg (TGt X.K is gg) from (hg s H C cl fp).can)) (fun s H C cl fp => (show PTs _ ifs (TB X.K c) from (ht s H C cl fp).can)) (fun s H C cl fp => (show PE _ elt (TF X.K f) from (he s H C cl fp).can)) hs, fun ρ o h A F G H σ D R k => ?_⟩
  obtain ⟨es, ρ2, h5, h6⟩ := bnd_some h
  cases h6
  exact lc_spec hv q ρ es _ h5 A F G H σ _ R fun a xs G' H' fa s r z _ => k _ G' H' s (r.putOwn fa i z)
end

/-! ## changing a list of one's own -/
section
variable {X : Cx} {e o a b : Expr} {st : Stmt} {f g : EF} {i : Nat}
@[simp] def sApp (i : Nat) (f : EF) : SF := fun ρ => match ρ[i]? with
  | some (.own _) => bnd (f ρ) fun d ρ1 => match ρ1[i]? with
    | some (.own ds) => if Nat.blt ds.length 16777216 = true then some (.nx (ρ1.set i (.own (ds ++ [d])))) else none
    | _ => none
  | _ => none
theorem blt_line {n : Nat} (h : Nat.blt n 16777216 = true) : n < sizeLine := by
  rw [sizeLine_eq]
  exact Nat.le_of_ble_eq_true h
theorem fs_app (mk : ∀ t, PE X e t → PS X st (tDrop (tBM X.K "list" rAppend (tVar i) (tCons t tNil)))) (he : FE X e f) : FS X st (sApp i f) := by
  obtain ⟨t, p, q⟩ := he
  refine ⟨_, mk t p, fun ρ o h A F G H σ D R k => ?_⟩
  unfold sApp at h
  split at h
  · rename_i ds0 hi0
    obtain ⟨d, ρ1, h1, h2⟩ := bnd_some h
    obtain ⟨p0, xs0, e0, e1, e2, _⟩ := R.atOwn hi0
    refine ⟨_, e0, Or.inl ⟨rfl, _, Or.inl (Or.inl e1)⟩, q ρ d ρ1 h1 A F G H σ _ R fun x G' H' s r z => ?_⟩
    split at h2
    · rename_i ds hi
      split at h2
      · rename_i hz
        cases h2
        obtain ⟨p1, xs, e3, e4, e5, _⟩ := r.atOwn hi
        rw [e0] at e3
        cases e3
        refine ⟨_, xs, x, rfl, rfl, e4, by rw [e5.len]; exact blt_line hz, ?_⟩
        exact k σ G' _ s (r.chgOwn hi e0 (e5.app (.one z)))
      · cases h2
    · cases h2
  · cases h
/-- xs.extend(a list) -/
@[simp] def sExt (i : Nat) (f : EF) : SF := fun ρ => match ρ[i]? with
  | some (.own _) => bnd (f ρ) fun d ρ1 => match d, ρ1[i]? with
    | .list es, some (.own ds) => if Nat.ble (ds.length + es.length) 16777216 = true then some (.nx (ρ1.set i (.own (ds ++ es)))) else none
    | _, _ => none
  | _ => none
theorem fs_ext (mk : ∀ t, PE X e t → PS X st (tDrop (tBM X.K "list" rExtend (tVar i) (tCons t tNil)))) (he : FE X e f) : FS X st (sExt i f) := by
  obtain ⟨t, p, q⟩ := he
  refine ⟨_, mk t p, fun ρ o h A F G H σ D R k => ?_⟩
  unfold sExt at h
  split at h
  · rename_i ds0 hi0
    obtain ⟨d, ρ1, h1, h2⟩ := bnd_some h
    obtain ⟨p0, xs0, e0, e1, e2, _⟩ := R.atOwn hi0
    refine ⟨_, e0, Or.inl ⟨rfl, _, Or.inl (Or.inl e1)⟩, q ρ d ρ1 h1 A F G H σ _ R fun x G' H' s r z => ?_⟩
    split at h2
    · rename_i es ds hi
      split at h2
      · rename_i hz
        cases h2
        obtain ⟨p1, xs, e3, e4, e5, _⟩ := r.atOwn hi
        rw [e0] at e3
        cases e3
        cases z with | lst z1 z2 =>
        refine ⟨_, _, xs, _, rfl, rfl, e4, r.gh _ _ z1, by rw [e5.len, z2.len]; exact ble_line hz, ?_⟩
        exact k σ G' _ s (r.chgOwn hi e0 (e5.app z2))
      · cases h2
    · cases h2
  · cases h
/-- xs[j] = e -/
def ixP (n : Nat) (i : Int) : Option Nat := match i with
  | .ofNat k => if Nat.blt k n = true then some k else none
  | .negSucc k => if Nat.blt k n = true then some (n - (k + 1)) else none
theorem ixP_ok {n : Nat} {i : Int} {j : Nat} (h : ixP n i = some j) : ixN n i = some j := by
  unfold ixN
  cases i with
  | ofNat k =>
    have h' : (if Nat.blt k n = true then some k else none) = some j := h
    by_cases hk : Nat.blt k n = true
    · rw [if_pos hk] at h'
      have e : k = j := Option.some.inj h'
      subst e
      have hk' : k + 1 ≤ n := Nat.le_of_ble_eq_true hk
      rw [if_pos (show (0 : Int) ≤ Int.ofNat k from Int.natCast_nonneg k), if_pos (show Int.ofNat k < (n : Int) from Int.ofNat_lt.mpr (by omega))]
      rfl
    · rw [if_neg hk] at h'
      cases h'
  | negSucc k =>
    have h' : (if Nat.blt k n = true then some (n - (k + 1)) else none) = some j := h
    by_cases hk : Nat.blt k n = true
    · rw [if_pos hk] at h'
      cases h'
      have hk' : k + 1 ≤ n := Nat.le_of_ble_eq_true hk
      rw [if_neg (show ¬ (0 : Int) ≤ Int.negSucc k by omega), if_pos (show -(n : Int) ≤ Int.negSucc k by omega)]
      congr 1
      omega
    · rw [if_neg hk] at h'
      cases h'
@[simp] def sIx (i : Nat) (f g : EF) : SF := fun ρ => bnd (f ρ) fun d ρ1 => match ρ1[i]? with
  | some (.own _) => bnd (g ρ1) fun j ρ2 => match j, ρ2[i]? with
    | .int j, some (.own ds) => match ixP ds.length j with
      | some n => some (.nx (ρ2.set i (.own (ds.set n d))))
      | none => none
    | _, _ => none
  | _ => none
theorem fs_ix (mk : ∀ t u, PE X e t → PE X b u → PS X st (tAsg t (gSub (tVar i) u rSetL))) (hi : FE X b g) (he : FE X e f) : FS X st (sIx i f g) := by
  obtain ⟨t, p, q⟩ := he
  obtain ⟨t2, p2, q2⟩ := hi
  refine ⟨_, mk t t2 p p2, fun ρ o h A F G H σ D R k => ?_⟩
  obtain ⟨d, ρ1, h3, h4⟩ := bnd_some h
  refine q ρ d ρ1 h3 A F G H σ _ R fun x G1 H1 s1 r1 z1 => ?_
  split at h4
  · rename_i ds0 hi0
    obtain ⟨j, ρ2, h5, h6⟩ := bnd_some h4
    obtain ⟨p0, xs0, e0, e1, e2, _⟩ := r1.atOwn hi0
    refine ⟨_, e0, q2 ρ1 j ρ2 h5 A F G1 H1 σ _ r1 fun y G2 H2 s2 r2 z2 => ?_⟩
    split at h6
    · rename_i j ds hi
      split at h6
      · rename_i n hn
        cases h6
        obtain ⟨p1, xs, e3, e4, e5, _⟩ := r2.atOwn hi
        rw [e0] at e3
        cases e3
        cases z2
        refine ⟨_, xs, j, n, rfl, rfl, e4, by rw [e5.len]; exact ixP_ok hn, ?_⟩
        exact k σ G2 _ (s1.trans s2) (r2.chgOwn hi e0 (e5.st (z1.up s2) n))
      · cases h6
    · cases h6
  · cases h4
/-- xs.pop() -/
@[simp] def fPop (i : Nat) : EF := fun ρ => match ρ[i]? with
  | some (.own ds) => match ds[ds.length - 1]? with
    | some d => some (d, ρ.set i (.own ds.dropLast))
    | none => none
  | _ => none
theorem DqA.dl {K : PySem.W.Frag} {H : Hp} {ds : List PyData} {vs : List V} (h : DqA K H vs ds) : DqA K H vs.dropLast ds.dropLast := by
  rw [List.dropLast_eq_take, List.dropLast_eq_take, h.len]
  exact h.tk _
theorem fe_pop (h : PE X e (tBM0 X.K "list" rPop (tVar i))) : FE X e (fPop i) := by
  refine ⟨_, h, fun ρ d ρ' h A F G H σ Q R k => ?_⟩
  unfold fPop at h
  split at h
  · rename_i ds hi
    split at h
    · rename_i d' hd
      cases h
      obtain ⟨p0, xs, e0, e1, e2, _⟩ := R.atOwn hi
      obtain ⟨v, h1, h2⟩ := e2.get hd
      rw [← e2.len] at h1
      exact ⟨_, e0, Or.inl ⟨rfl, _, Or.inl (Or.inl e1)⟩, _, xs, v, rfl, rfl, e1, h1, k v G _ (Same.refl G) (R.chgOwn hi e0 e2.dl) h2⟩
    · cases h
  · cases h
/-- xs.pop(j), j from 0 on -/
@[simp] def fPopAt (i : Nat) (g : EF) : EF := fun ρ => match ρ[i]? with
  | some (.own _) => bnd (g ρ) fun j ρ1 => match j, ρ1[i]? with
    | .int (.ofNat n), some (.own ds) => match ds[n]? with
      | some d => if Nat.ble ds.length 16777216 = true then some (d, ρ1.set i (.own (ds.eraseIdx n))) else none
      | none => none
    | _, _ => none
  | _ => none
theorem DqA.er {K : PySem.W.Frag} {H : Hp} : ∀ {ds : List PyData} {vs : List V} (n : Nat), DqA K H vs ds → DqA K H (vs.eraseIdx n) (ds.eraseIdx n)
  | [], _, n, h => by cases h; simp; exact .nil
  | _ :: _, _, 0, h => by cases h with | cons q r => exact r
  | _ :: _, _, n + 1, h => by cases h with | cons q r => exact .cons q (DqA.er n r)
theorem fe_popAt (mk : ∀ t, PE X e t → PE X o (tBM X.K "list" rPopAt (tVar i) (tCons t tNil))) (he : FE X e f) : FE X o (fPopAt i f) := by
  obtain ⟨t, p, q⟩ := he
  refine ⟨_, mk t p, fun ρ d ρ' h A F G H σ Q R k => ?_⟩
  unfold fPopAt at h
  split at h
  · rename_i ds0 hi0
    obtain ⟨j, ρ1, h1, h2⟩ := bnd_some h
    obtain ⟨p0, xs0, e0, e1, e2, _⟩ := R.atOwn hi0
    refine ⟨_, e0, Or.inl ⟨rfl, _, Or.inl (Or.inl e1)⟩, q ρ j ρ1 h1 A F G H σ _ R fun x G' H' s r z => ?_⟩
    split at h2
    · rename_i n ds hi
      split at h2
      · rename_i d' hd
        split at h2
        · rename_i hz
          cases h2
          obtain ⟨p1, xs, e3, e4, e5, _⟩ := r.atOwn hi
          rw [e0] at e3
          cases e3
          cases z
          obtain ⟨v, h3, h4⟩ := e5.get hd
          have hn : n < xs.length := (List.getElem?_eq_some_iff.mp h3).1
          have hl := e5.len
          have hz' : ds.length ≤ 16777216 := Nat.le_of_ble_eq_true hz
          have hk : ixN xs.length (Int.ofNat n) = some n := by
            unfold ixN
            rw [if_pos (show (0 : Int) ≤ Int.ofNat n from Int.natCast_nonneg n), if_pos (show Int.ofNat n < (xs.length : Int) from Int.ofNat_lt.mpr hn)]
            rfl
          refine ⟨_, xs, Int.ofNat n, n, v, rfl, rfl, e4, ?_, ?_, (ixN_seq hk).1, h3, k v G' _ s (r.chgOwn hi e0 (e5.er n)) h4⟩
          · show -(2 ^ 63) ≤ ((n : Nat) : Int)
            omega
          · show ((n : Nat) : Int) < 2 ^ 63
            omega
        · cases h2
      · cases h2
    · cases h2
  · cases h
end
/-! ## a, b = x, y -/
section
variable {X : Cx} {a b : Expr} {f g : EF}
@[simp] def sPar (i j : Nat) (f g : EF) : SF := fun ρ => bnd (f ρ) fun x ρ1 => bnd (g ρ1) fun y ρ2 => some (.nx ((ρ2.set i (.v x)).set j (.v y)))
theorem fs_par {st : Stmt} {i j : Nat} (mk : ∀ t u, PE X a t → PE X b u → PS X st (tPar i j (tCons t (tCons u tNil)))) (ha : FE X a f) (hb : FE X b g) : FS X st (sPar i j f g) := by
  obtain ⟨ta, pa, qa⟩ := ha
  obtain ⟨tb, pb, qb⟩ := hb
  refine ⟨_, mk ta tb pa pb, fun ρ o h A F G H σ D R k => ?_⟩
  obtain ⟨d, ρ1, h3, h4⟩ := bnd_some h
  obtain ⟨d2, ρ2, h5, h6⟩ := bnd_some h4
  cases h6
  refine qa ρ d ρ1 h3 A F G H σ _ R fun u G1 H1 s1 r1 z1 => qb ρ1 d2 ρ2 h5 A F G1 H1 σ _ r1 fun v G2 H2 s2 r2 z2 => ⟨u, v, rfl, ?_⟩
  exact k _ G2 H2 (s1.trans s2) ((r2.putV i (z1.up s2)).putV j z2)
end
end Fe
namespace Fe
open PySem PySem.Spec PyProof.Rows L2

/-! ## defs -/
/-- a promise: arguments, heap, what is wanted -/
abbrev Pr := List V → Hp → VK → Prop
/-- the def at f keeps the promise, called where nothing is being shown and no exception leaves -/
structure FnG (P : Program) (w : World) (K : PySem.W.Frag) (mg : Str → Option Value) (base : Heap) (k : Nat) (f : Addr) (fd : FuncData) (ps : List Str) (sp : Pr) : Prop where
  len : ∀ vs H Q, sp vs H Q → vs.length = ps.length
  run : ∀ (A : Around) (outer : List Env) (s : Shared) (H : Hp) (args : Args) (us : List Value) (vs : List V) (Q : VK), Room k A → A.guards = some [] → Env0 P w K mg base A outer s H → BindsTo s fd args (ps.zip us) → Vals vs us → sp vs H Q →
    codeAny (model P w) A (.call (.ref f) args) (CR CX0 outer P w H s Q E0) s
section
variable {P : Program} {w : World} {K : PySem.W.Frag} {mg : Str → Option Value} {base : Heap}
theorem FnG.up {j k : Nat} {f : Addr} {fd : FuncData} {ps : List Str} {sp : Pr} (F : FnG P w K mg base j f fd ps sp) (h : j ≤ k) : FnG P w K mg base k f fd ps sp :=
  ⟨F.len, fun A outer s H args us vs Q r => F.run A outer s H args us vs Q (r.mono h)⟩
end
section
variable {X : Cx} {k : Nat} {f : Addr} {fd : FuncData} {ps : List Str} {sp : Pr} {x : Str} {p pos : Pos} {e : Expr} {es : List Expr} {t : TA}
theorem callG {pins : List (Addr × Obj)} {σ : L2.St} {H : Hp} {s : Shared} {Q : VK} {us : List Value} {vs : List V} (F : FnG X.prog X.w X.K X.mg X.base k f fd ps sp) (hr : Room k X.A) (hG : X.A.guards = some []) (hb : Binds X.K fd ps [])
    (I : Inv X pins σ H s) (rv : Vals vs us) (q : sp vs H Q) : wpAny (model X.prog X.w) X.A (call (.ref f) us) (EP X pins σ Q) X.xe s := by
  have hl : (us ++ []).length = ps.length := by
    rw [List.append_nil, ← rv.length]
    exact F.len _ _ _ q
  have hb' : BindsTo s fd ⟨us, []⟩ (ps.zip us) := by
    have z := hb s us I.kIn hl
    rwa [List.append_nil] at z
  refine wpAny_call (codeAny_mono (F.run X.A X.stack s H ⟨us, []⟩ us vs Q hr hG I.env0 hb' rv q) ?_)
  rintro (e | fl) s' z
  · exact False.elim z
  · cases fl with
    | ret u => exact I.after z
    | next => exact False.elim z
    | brk => exact False.elim z
    | cont => exact False.elim z
theorem pe_callG (F : FnG X.prog X.w X.K X.mg X.base k f fd ps sp) (hr : Room k X.A) (hG : X.A.guards = some []) (hg : Gl X x) (hm : X.mg x = some (.ref f)) (hk : PySem.W.keepIn X.K (.ref f) = true) (hb : Binds X.K fd ps [])
    (ha : PA X (e :: es) t) (hdb : (x == ("__debug__" : Str)) = false := by decide) (he : starEach (e :: es) X.env = (false, eval e X.env) :: starEach es X.env := by rfl) (hpl : (backTo pos (starEach es X.env)).any (·.1) = false := by rfl) :
    PE X (.Call (.Name x p) (e :: es) [] pos) (fun σ H Q => t σ H fun vs H1 => sp vs H1 Q) := by
  constructor
  intro pins s σ H Q I q
  exact wpAny_Call_Name_kw (ld_glob I hg hm (PySem.W.callWith_K (h₀ := X.base) I.ok.mod.kin hk (thn (ha.run pos pins s σ H _ I q) fun us s1 ⟨vs, H1, J, rv, z⟩ => ⟨J.kIn, callG F hr hG hb J rv z⟩) he hpl) hdb)
theorem pe_callG0 (F : FnG X.prog X.w X.K X.mg X.base k f fd ps sp) (hr : Room k X.A) (hG : X.A.guards = some []) (hg : Gl X x) (hm : X.mg x = some (.ref f)) (hk : PySem.W.keepIn X.K (.ref f) = true) (hb : Binds X.K fd ps []) (hdb : (x == ("__debug__" : Str)) = false := by decide) :
    PE X (.Call (.Name x p) [] [] pos) (fun σ H Q => sp [] H Q) := by
  constructor
  intro pins s σ H Q I q
  exact wpAny_Call_Name_kw (ld_glob I hg hm (PySem.W.callWith_K0 I.kIn hk (callG (us := []) F hr hG hb I .nil q)) hdb)
end
/-- the context of a def's body -/
abbrev cx (P : Program) (w : World) (K : PySem.W.Frag) (mg : Str → Option Value) (base : Heap) (N : List Str) (qual : Str) (scope : Scope) (f : Addr) (cdv : Value) (A : Around) (outer : List Env) (s : Shared) (H : Hp) : Cx :=
  (cxOf CX0 P w K mg base N qual scope f cdv A outer s H E0).nox
/-- what a def's body is asked for -/
def BodyAt (P : Program) (w : World) (K : PySem.W.Frag) (mg : Str → Option Value) (base : Heap) (k : Nat) (N : List Str) (qual : Str) (st : Stmt) (f : Addr) (fb : SF) : Prop :=
  ∀ (cdv : Value) (A : Around) (outer : List Env) (s : Shared) (H : Hp), Room k (cx P w K mg base N qual (defScope st) f cdv A outer s H).A → (cx P w K mg base N qual (defScope st) f cdv A outer s H).A.guards = some [] →
    FSs (cx P w K mg base N qual (defScope st) f cdv A outer s H) (defBody st) fb
section
variable {P : Program} {w : World} {K : PySem.W.Frag} {mg : Str → Option Value} {base : Heap}
theorem fnG_of {x qual : Str} {st : Stmt} {f : Addr} {fd : FuncData} {N ps : List Str} {k : Nat} {sp : Pr} (D : Fun K x qual st f fd) (S : FnScope N ps (defScope st)) (len : ∀ vs H Q, sp vs H Q → vs.length = ps.length)
    (hb : ∀ (cdv : Value) (A : Around) (outer : List Env) (s : Shared) (H : Hp) (vs : List V) (Q : VK), Room k (cx P w K mg base N qual (defScope st) f cdv A outer s H).A → (cx P w K mg base N qual (defScope st) f cdv A outer s H).A.guards = some [] → sp vs H Q →
      ∃ t, PSs (cx P w K mg base N qual (defScope st) f cdv A outer s H) (defBody st) t ∧ t { nx := fun _ H' => Q .non H', rt := Q } (L2.start N vs) H) : FnG P w K mg base (k + 1) f fd ps sp := by
  obtain ⟨oc, od, kV, doc, pm, an, cdv, ct, osl, hfd, lk, hcd⟩ := D.ex
  subst hfd
  refine ⟨len, ?_⟩
  intro A outer s H args us vs Q hr hG e0 hbind rv q
  have hlen := len vs H Q q
  have KX : K.In s.heap := e0.mod.kin.keeps fun b o z => (e0.bs b o z).1
  have hkind : ∀ y ∈ ps.zip us, (defScope st).names.lookup y.1 = some .local ∨ ((defScope st).names.lookup y.1 = some .cell ∧ ((cellsFrom (s.heap.objs.size + 1) (defScope st).names []).lookup y.1).isSome = true) := by
    rintro ⟨n, v⟩ hy
    rcases S.par n (List.of_mem_zip hy).1 with z | z
    · exact Or.inl z
    · exact Or.inr ⟨z, PySem.W.cellsFrom_some _ _ _ (Or.inl z)⟩
  refine codeAny_call_function hr.depth (KX _ _ lk) rfl S.co S.gen rfl (PySem.W.codeRec_of KX hcd) (hbind _ _ _ _ (wpAny_newFunctionEnv_cells S.kind hkind ?_))
  intro env he s1 y
  subst he
  refine ⟨(e0.mod.nolimit.keeps fun b o z => (e0.bs b o z).1).keeps y.toInCall.keep, codeAny_func ?_⟩
  obtain ⟨t, ht, hq⟩ := hb cdv A outer s H vs Q (hr.deeper _) hG q
  have J := inv_start (CX := CX0) (E := E0) S hr.hd e0 hlen rv y
  refine wpAny_mono (ht.nox.run [] s1 (L2.start N vs) H _ J hq) ?_ fun _ _ z => z
  intro fl s' z
  cases fl with
  | ret u =>
    obtain ⟨v, σ', H', J', r', z⟩ := z
    exact ⟨v, H', J'.os, J'.bare, J'.base, J'.hok, r', z⟩
  | next =>
    obtain ⟨σ', H', J', z⟩ := z
    exact ⟨.non, H', J'.os, J'.bare, J'.base, J'.hok, rfl, z⟩
  | brk =>
    obtain ⟨_, _, _, z⟩ := z
    exact z.elim
  | cont =>
    obtain ⟨_, _, _, z⟩ := z
    exact z.elim
end

/-! ### a def that computes a function -/
/-- what is not in G -/
def off (G H : Hp) : Hp := fun a => match G a with
  | some _ => none
  | none => H a
theorem off_none {G H : Hp} {a : Addr} (h : G a = none) : off G H a = H a := by
  unfold off
  rw [h]
theorem off_some {G H : Hp} {a : Addr} {o : HO} (h : off G H a = some o) : G a = none ∧ H a = some o := by
  unfold off at h
  split at h
  · cases h
  · rename_i e
    exact ⟨e, h⟩
def spF (K : PySem.W.Frag) (F : List PyData → Option PyData) : Pr := fun vs H Q => ∃ G ds r, Same G H ∧ DqA K G vs ds ∧ F ds = some r ∧
  ∀ x G' H', Same G G' → Same G' H' → Same H H' → (∀ a o, H a = some o → G a = none → G' a = none) → Dq K G' x r → Q x H'
@[simp] def fCall (F : List PyData → Option PyData) (l : LF) : EF := fun ρ => bnd (l ρ) fun ds ρ1 => ret ρ1 (F ds)
theorem rel_call {K : PySem.W.Frag} {A : Option Addr} {F G G' H H' : Hp} {ρ : En} {σ : L2.St} (R : Rel K A F G H ρ σ) (s : Same G G') (g : Same G' H') (h : Same H H') (n : ∀ a o, H a = some o → G a = none → G' a = none) : Rel K A F G' H' ρ σ :=
  R.to s g (R.fh.trans h) (fun a o e => n a o (R.fh a o e) (R.fg a o e)) (fun a o _ _ e => h a o e) fun a f g' e => ⟨f, by
    cases q : H a with
    | none => exact absurd q e
    | some o => exact n a o q g'⟩
section
variable {X : Cx} {k : Nat} {f : Addr} {fd : FuncData} {ps : List Str} {x : Str} {p pos : Pos} {e : Expr} {es : List Expr} {l : LF} {Fn : List PyData → Option PyData}
theorem fe_call (D : FnG X.prog X.w X.K X.mg X.base k f fd ps (spF X.K Fn)) (hr : Room k X.A) (hG : X.A.guards = some []) (hg : Gl X x) (hm : X.mg x = some (.ref f)) (hk : PySem.W.keepIn X.K (.ref f) = true) (hb : Binds X.K fd ps [])
    (ha : FA X (e :: es) l) (hdb : (x == ("__debug__" : Str)) = false := by decide) (he : starEach (e :: es) X.env = (false, eval e X.env) :: starEach es X.env := by rfl) (hpl : (backTo pos (starEach es X.env)).any (·.1) = false := by rfl) :
    FE X (.Call (.Name x p) (e :: es) [] pos) (fCall Fn l) := by
  obtain ⟨t, pt, q⟩ := ha
  refine ⟨_, pe_callG D hr hG hg hm hk hb pt hdb he hpl, fun ρ d ρ' h A F G H σ Q R kk => ?_⟩
  obtain ⟨ds, ρ1, h1, h2⟩ := bnd_some h
  obtain ⟨h3, rfl⟩ := ret_some h2
  refine q ρ ds _ h1 A F G H σ _ R fun xs G1 H1 s1 R1 z1 => ?_
  exact ⟨G1, ds, d, R1.gh, z1, h3, fun x G' H' s g h n z => kk x G' H' (s1.trans s) (rel_call R1 s g h n) z⟩
theorem fe_call0 (D : FnG X.prog X.w X.K X.mg X.base k f fd ps (spF X.K Fn)) (hr : Room k X.A) (hG : X.A.guards = some []) (hg : Gl X x) (hm : X.mg x = some (.ref f)) (hk : PySem.W.keepIn X.K (.ref f) = true) (hb : Binds X.K fd ps []) (hdb : (x == ("__debug__" : Str)) = false := by decide) :
    FE X (.Call (.Name x p) [] [] pos) (fCall Fn fNil) := by
  refine ⟨_, pe_callG0 D hr hG hg hm hk hb hdb, fun ρ d ρ' h A F G H σ Q R kk => ?_⟩
  obtain ⟨ds, ρ1, h1, h2⟩ := bnd_some h
  obtain ⟨h3, rfl⟩ := ret_some h2
  cases h1
  exact ⟨G, [], d, R.gh, .nil, h3, fun x G' H' s g h n z => kk x G' H' s (rel_call R s g h n) z⟩
end
@[simp] def outV : Out → PyData
  | .rt d _ => d
  | _ => .none
@[simp] def outE : Out → Bool
  | .rt _ _ => true
  | .nx _ => true
  | _ => false
@[simp] def start1 (m : Nat) (ds : List PyData) : En := ds.map Sl.v ++ List.replicate (m - ds.length) Sl.un
abbrev start0 (N : List Str) (ds : List PyData) : En := start1 N.length ds
theorem rel_start {K : PySem.W.Frag} {A : Option Addr} {G H : Hp} {N : List Str} {vs : List V} {ds : List PyData} (s : Same G H) (h : DqA K G vs ds) : Rel K A (off G H) G H (start0 N ds) (L2.start N vs) := by
  have hl := h.len
  refine ⟨s, fun a o e => (off_some e).2, fun a o e => (off_some e).1, by simp [start0, start1, L2.start, hl], fun _ => [], fun i u e => ?_, fun i j a e => (nomatch e), fun i a e => (nomatch e)⟩
  unfold start0 start1 at e
  unfold L2.start
  by_cases hi : i < ds.length
  · rw [List.getElem?_append_left (by simpa using hi), List.getElem?_map, List.getElem?_eq_getElem hi] at e
    cases e
    obtain ⟨v, h1, h2⟩ := h.get (List.getElem?_eq_getElem hi)
    refine ⟨some v, ?_, rfl, v, rfl, h2⟩
    rw [List.getElem?_append_left (by simpa [hl] using hi), List.getElem?_map, h1]
    rfl
  · rw [List.getElem?_append_right (by simpa using Nat.le_of_not_lt hi), List.getElem?_replicate] at e
    split at e
    · rename_i hj
      cases e
      refine ⟨none, ?_, rfl⟩
      rw [List.getElem?_append_right (by simpa [hl] using Nat.le_of_not_lt hi), List.getElem?_replicate]
      rw [if_pos (by simpa [hl] using hj)]
    · cases e
section
variable {P : Program} {w : World} {K : PySem.W.Frag} {mg : Str → Option Value} {base : Heap}
theorem fnF {x qual : Str} {st : Stmt} {f : Addr} {fd : FuncData} {N ps : List Str} {k : Nat} {fb : SF} {Fn : List PyData → Option PyData} (D : Fun K x qual st f fd) (S : FnScope N ps (defScope st))
    (hb : BodyAt P w K mg base k N qual st f fb) (hF : ∀ ds r, Fn ds = some r → ds.length = ps.length ∧ ∃ o, fb (start0 N ds) = some o ∧ outE o = true ∧ outV o = r) : FnG P w K mg base (k + 1) f fd ps (spF K Fn) := by
  refine fnG_of D S (fun vs H Q h => ?_) fun cdv A outer s H vs Q hr hG h => ?_
  · obtain ⟨G, ds, r, _, h1, h2, _⟩ := h
    rw [h1.len]
    exact (hF ds r h2).1
  · obtain ⟨G, ds, r, h0, h1, h2, h3⟩ := h
    obtain ⟨_, o, h4, h5, h6⟩ := hF ds r h2
    obtain ⟨t, pt, q⟩ := hb cdv A outer s H hr hG
    refine ⟨t, pt, q _ o h4 none _ G H _ _ (rel_start h0 h1) ?_⟩
    have fin : ∀ {ρ' : En} {σ' : L2.St} {G' H' : Hp} {v : V}, Same G G' → Rel K none (off G H) G' H' ρ' σ' → Dq K G' v r → Q v H' := by
      intro ρ' σ' G' H' v s' R' z
      refine h3 v G' H' s' R'.gh (fun a u e => ?_) (fun a u e g => R'.fg a u ((off_none g).trans e)) z
      cases g : G a with
      | none => exact R'.fh a u ((off_none g).trans e)
      | some u' =>
        have := h0 a u' g
        rw [e] at this
        cases this
        exact R'.gh a u (s' a u g)
    cases o with
    | nx ρ' =>
      have h6 : PyData.none = r := h6
      subst h6
      exact fun σ' G' H' s' R' => fin s' R' .non
    | rt d ρ' =>
      have h6 : d = r := h6
      subst h6
      exact fun v σ' G' H' s' R' z => fin s' R' z
    | bk ρ' => cases h5
    | ct ρ' => cases h5
/-- the def's function: its body, run -/
def runF (n m : Nat) (fb : SF) : List PyData → Option PyData := fun ds => if (ds.length == n) = true then (match fb (start1 m ds) with
  | some (.rt d _) => some d
  | some (.nx _) => some .none
  | _ => none) else none
theorem fnRun {x qual : Str} {st : Stmt} {f : Addr} {fd : FuncData} {N ps : List Str} {k n m : Nat} {fb : SF} (D : Fun K x qual st f fd) (S : FnScope N ps (defScope st)) (hb : BodyAt P w K mg base k N qual st f fb)
    (hn : ps.length = n := by rfl) (hm : N.length = m := by rfl) : FnG P w K mg base (k + 1) f fd ps (spF K (runF n m fb)) := by
  subst hn
  subst hm
  refine fnF D S hb fun ds r h => ?_
  unfold runF at h
  split at h
  · rename_i hl
    refine ⟨by simpa using hl, ?_⟩
    split at h
    · rename_i e
      cases h
      exact ⟨_, e, rfl, rfl⟩
    · rename_i e
      cases h
      exact ⟨_, e, rfl, rfl⟩
    · cases h
  · cases h
end
end Fe
namespace Fe
open PySem PySem.Spec PyProof.Rows L2

/-! ## the draws' source, handed on -/
def srcKv (c : Addr) (s : Src) : List (Key × V) := [(.inr "cells", .ref c), (.inr "left", .int s.left), (.inr "mixed", .int s.mixed), (.inr "turn", .int s.turn)]
def spS (K : PySem.W.Frag) (F : Src → List PyData → Option (PyData × Src)) : Pr := fun vs H Q => ∃ a c us G s ds r s', vs = .ref a :: us ∧ Same G H ∧ SrcAt H a c s ∧ G a = none ∧ G c = none ∧ DqA K G us ds ∧ F s ds = some (r, s') ∧
  ∀ x c' G' H', Same G G' → Same G' H' → (∀ b o, H b = some o → b ≠ a → b ≠ c → H' b = some o) → (∀ b o, H b = some o → b ≠ a → b ≠ c → G b = none → G' b = none) → SrcAt H' a c' s' → (c' = c ∨ H c' = none) → G' a = none → G' c' = none → Dq K G' x r → Q x H'
@[simp] def fCallS (i : Nat) (F : Src → List PyData → Option (PyData × Src)) (l : LF) : EF := fun ρ => match ρ[i]? with
  | some (.src _) => bnd (l ρ) fun ds ρ1 => match ρ1[i]? with
    | some (.src s) => match F s ds with
      | some (r, s') => some (r, ρ1.set i (.src s'))
      | none => none
    | _ => none
  | _ => none
section
variable {K : PySem.W.Frag} {A : Option Addr} {F G G' H H' : Hp} {ρ : En} {σ : L2.St}
theorem Rel.atSrc (k : Rel K A F G H ρ σ) {i : Nat} {s : Src} (h : ρ[i]? = some (.src s)) : ∃ a c, A = some a ∧ σ[i]? = some (some (.ref a)) ∧ SrcAt H a c s ∧ F a = none ∧ F c = none ∧ G a = none ∧ G c = none := by
  obtain ⟨R, r1, _, r3⟩ := k.rg
  obtain ⟨x, h1, a, c, e, q1, rfl, h2⟩ := r1 i _ h
  obtain ⟨f1, f2, _⟩ := r3 i a (by rw [e]; simp)
  obtain ⟨f3, f4, _⟩ := r3 i c (by rw [e]; simp)
  exact ⟨a, c, q1, h1, h2, f1, f3, f2, f4⟩
theorem Rel.chgSrc (k : Rel K A F G H ρ σ) {i : Nat} {s s' : Src} {a c c' : Addr} (h : ρ[i]? = some (.src s)) (hA : A = some a) (hs : SrcAt H a c s) (g : Same G G') (gh : Same G' H') (kp : ∀ b o, H b = some o → b ≠ a → b ≠ c → H' b = some o)
    (n : ∀ b o, H b = some o → b ≠ a → b ≠ c → G b = none → G' b = none) (hs' : SrcAt H' a c' s') (hc : c' = c ∨ H c' = none) (hga : G' a = none) (hg : G' c' = none) : Rel K A F G' H' (ρ.set i (.src s')) σ := by
  obtain ⟨R, r1, r2, r3⟩ := k.rg
  obtain ⟨x, h1, a0, c0, e0, q0, rfl, h2⟩ := r1 i _ h
  have ea : a0 = a := by
    rw [hA] at q0
    exact (Option.some.inj q0).symm
  subst ea
  have ec : c0 = c := by
    have z := h2.1.symm.trans hs.1
    injection z with z
    injection z with z
    simp at z
    exact z
  subst ec
  have aR : a0 ∈ R i := by rw [e0]; simp
  have cR : c0 ∈ R i := by rw [e0]; simp
  obtain ⟨fa, ga, _⟩ := r3 i a0 aR
  obtain ⟨fc, gc, _⟩ := r3 i c0 cR
  have fF : ∀ b o, F b = some o → H' b = some o := fun b o e => kp b o (k.fh b o e) (fun z => by
    subst z
    rw [fa] at e
    cases e) fun z => by
    subst z
    rw [fc] at e
    cases e
  have notF : ∀ b o, F b = some o → b ≠ a0 ∧ b ≠ c0 := fun b o e => by
    constructor
    · intro z
      subst z
      rw [fa] at e
      cases e
    · intro z
      subst z
      rw [fc] at e
      cases e
  have notR : ∀ j, j ≠ i → ∀ b ∈ R j, b ≠ a0 ∧ b ≠ c0 := fun j hj b hb => ⟨fun z => hj (r2 j i b hb (z ▸ aR)), fun z => hj (r2 j i b hb (z ▸ cR))⟩
  refine ⟨gh, fF, fun b o e => n b o (k.fh b o e) (notF b o e).1 (notF b o e).2 (k.fg b o e), by simp [k.len], Rg R i [a0, c'], fun j u e => ?_, fun j l b e1 e2 => ?_, fun j b e => ?_⟩
  · by_cases hj : j = i
    · subst hj
      rw [List.getElem?_set_self (List.getElem?_eq_some_iff.mp h).1] at e
      cases e
      rw [rg_same]
      exact ⟨_, h1, a0, c', rfl, hA, rfl, hs'⟩
    · rw [List.getElem?_set_ne (Ne.symm hj)] at e
      rw [rg_ne hj]
      obtain ⟨x, q1, q2⟩ := r1 j u e
      refine ⟨x, q1, q2.up g fun b hb => ?_⟩
      obtain ⟨_, _, o, f3⟩ := r3 j b hb
      obtain ⟨n1, n2⟩ := notR j hj b hb
      rw [f3]
      exact kp b o f3 n1 n2
  · have out : ∀ m, m ≠ i → b ∈ R m → b ≠ a0 ∧ b ≠ c' := fun m hm hb => by
      obtain ⟨n1, n2⟩ := notR m hm b hb
      refine ⟨n1, fun z => ?_⟩
      rcases hc with hc | hc
      · exact n2 (z.trans hc)
      · obtain ⟨_, _, o, f3⟩ := r3 m b hb
        rw [z, hc] at f3
        cases f3
    by_cases hj : j = i
    · by_cases hl : l = i
      · rw [hj, hl]
      · rw [hj, rg_same] at e1
        rw [rg_ne hl] at e2
        obtain ⟨n1, n2⟩ := out l hl e2
        simp at e1
        rcases e1 with e1 | e1
        · exact absurd e1 n1
        · exact absurd e1 n2
    · rw [rg_ne hj] at e1
      by_cases hl : l = i
      · rw [hl, rg_same] at e2
        obtain ⟨n1, n2⟩ := out j hj e1
        simp at e2
        rcases e2 with e2 | e2
        · exact absurd e2 n1
        · exact absurd e2 n2
      · rw [rg_ne hl] at e2
        exact r2 j l b e1 e2
  · by_cases hj : j = i
    · rw [hj, rg_same] at e
      simp at e
      rcases e with e | e
      · subst e
        exact ⟨fa, hga, _, hs'.1⟩
      · subst e
        refine ⟨?_, hg, _, hs'.2⟩
        rcases hc with hc | hc
        · rw [hc]
          exact fc
        · exact none_of k.fh hc
    · rw [rg_ne hj] at e
      obtain ⟨f1, f2, o, f3⟩ := r3 j b e
      obtain ⟨n1, n2⟩ := notR j hj b e
      exact ⟨f1, n b o f3 n1 n2 f2, o, kp b o f3 n1 n2⟩
end
section
variable {X : Cx} {e : Expr} {es : List Expr} {l : LF} {Fn : Src → List PyData → Option (PyData × Src)} {i : Nat}
theorem fe_callS (mk : ∀ t, PA X es t → PE X e (fun σ H Q => tCons (tVar i) t σ H fun vs H1 => spS X.K Fn vs H1 Q)) (ha : FA X es l) : FE X e (fCallS i Fn l) := by
  obtain ⟨t, p, q⟩ := ha
  refine ⟨_, mk t p, fun ρ d ρ' h A F G H σ Q R k => ?_⟩
  unfold fCallS at h
  split at h
  · rename_i s0 hi0
    obtain ⟨ds, ρ1, h1, h2⟩ := bnd_some h
    obtain ⟨a, c, hA, hσ, _⟩ := R.atSrc hi0
    refine ⟨_, hσ, q ρ ds ρ1 h1 A F G H σ _ R fun xs G1 H1 s1 R1 z1 => ?_⟩
    split at h2
    · rename_i s hi
      split at h2
      · rename_i r s' hF
        cases h2
        obtain ⟨a', c', hA', hσ', hs, f1, f2, g1, g2⟩ := R1.atSrc hi
        rw [hσ] at hσ'
        cases hσ'
        exact ⟨a, c', xs, G1, s, ds, d, s', rfl, R1.gh, hs, g1, g2, z1, hF, fun x c2 G' H' u1 u2 u3 u4 u5 u6 u7 u8 u9 => k x G' H' (s1.trans u1) (R1.chgSrc hi hA hs u1 u2 u3 u4 u5 u6 u7 u8) u9⟩
      · cases h2
    · cases h2
  · cases h
end
/-! ### a def that draws and computes -/
@[simp] def startS (m : Nat) (s : Src) (ds : List PyData) : En := .src s :: start1 (m - 1) ds
def runS (n m : Nat) (fb : SF) : Src → List PyData → Option (PyData × Src) := fun s ds => if (ds.length + 1 == n) = true then (match fb (startS m s ds) with
  | some (.rt d (.src s' :: _)) => some (d, s')
  | some (.nx (.src s' :: _)) => some (.none, s')
  | _ => none) else none
/-- what belongs to the callers: neither ours nor the source's -/
def offS (G H : Hp) (a c : Addr) : Hp := fun b => if b = a then none else if b = c then none else off G H b
theorem rel_startS {K : PySem.W.Frag} {G H : Hp} {N : List Str} {us : List V} {ds : List PyData} {a c : Addr} {s : Src} (hN : 1 ≤ N.length) (g : Same G H) (h : DqA K G us ds) (hs : SrcAt H a c s) (ga : G a = none) (gc : G c = none) :
    Rel K (some a) (offS G H a c) G H (startS N.length s ds) (L2.start N (.ref a :: us)) := by
  have hl := h.len
  have r0 := rel_start (K := K) (A := none) (N := N.tail) g h
  obtain ⟨R, r1, _, _⟩ := r0.rg
  have eN : N.tail.length = N.length - 1 := by simp
  have e1 : start0 N.tail ds = start1 (N.length - 1) ds := by
    unfold start0
    rw [eN]
  have e2 : L2.start N (.ref a :: us) = some (.ref a) :: L2.start N.tail us := by
    unfold L2.start
    rw [eN]
    simp [Nat.sub_sub, Nat.add_comm]
  have off1 : ∀ b o, offS G H a c b = some o → b ≠ a ∧ b ≠ c ∧ G b = none ∧ H b = some o := fun b o e => by
    unfold offS at e
    split at e
    · cases e
    · rename_i n1
      split at e
      · cases e
      · rename_i n2
        obtain ⟨z1, z2⟩ := off_some e
        exact ⟨n1, n2, z1, z2⟩
  refine ⟨g, fun b o e => (off1 b o e).2.2.2, fun b o e => (off1 b o e).2.2.1, ?_, Rg (fun _ => []) 0 [a, c], fun i u e => ?_, fun i j b e1 e2 => ?_, fun i b e => ?_⟩
  · rw [e2]
    unfold startS
    rw [← e1]
    exact congrArg (· + 1) r0.len
  · unfold startS at e
    rw [e2]
    cases i with
    | zero =>
      cases e
      rw [rg_same]
      exact ⟨_, rfl, a, c, rfl, rfl, rfl, hs⟩
    | succ i =>
      rw [rg_ne (by omega)]
      rw [List.getElem?_cons_succ, ← e1] at e
      obtain ⟨x, q1, q2⟩ := r1 i u e
      refine ⟨x, by rw [List.getElem?_cons_succ]; exact q1, ?_⟩
      have ev : u = .un ∨ ∃ d, u = .v d := by
        unfold start0 start1 at e
        have hm := List.mem_of_getElem? e
        rcases List.mem_append.mp hm with z | z
        · obtain ⟨d, _, hd⟩ := List.mem_map.mp z
          exact Or.inr ⟨d, hd.symm⟩
        · exact Or.inl (List.eq_of_mem_replicate z)
      rcases ev with ev | ⟨d, ev⟩
      · subst ev
        rfl
      · subst ev
        exact ⟨rfl, q2.2⟩
  · by_cases hi : i = 0
    · by_cases hj : j = 0
      · rw [hi, hj]
      · rw [rg_ne hj] at e2
        cases e2
    · rw [rg_ne hi] at e1
      cases e1
  · by_cases hi : i = 0
    · rw [hi, rg_same] at e
      simp at e
      rcases e with e | e
      · subst e
        exact ⟨if_pos rfl, ga, _, hs.1⟩
      · subst e
        refine ⟨?_, gc, _, hs.2⟩
        unfold offS
        split
        · rfl
        · rw [if_pos rfl]
    · rw [rg_ne hi] at e
      cases e
section
variable {P : Program} {w : World} {K : PySem.W.Frag} {mg : Str → Option Value} {base : Heap}
theorem fnRunS {x qual : Str} {st : Stmt} {f : Addr} {fd : FuncData} {N ps : List Str} {k n m : Nat} {fb : SF} (D : Fun K x qual st f fd) (S : FnScope N ps (defScope st)) (hb : BodyAt P w K mg base k N qual st f fb)
    (hn : ps.length = n := by rfl) (hm : N.length = m := by rfl) (hm1 : 1 ≤ m := by decide) : FnG P w K mg base (k + 1) f fd ps (spS K (runS n m fb)) := by
  subst hn
  subst hm
  refine fnG_of D S (fun vs H Q h => ?_) fun cdv A outer s0 H vs Q hr hG h => ?_
  · obtain ⟨a, c, us, G, s, ds, r, s', rfl, _, _, _, _, h1, h2, _⟩ := h
    unfold runS at h2
    split at h2
    · rename_i hl
      have hl' : ds.length + 1 = ps.length := by simpa using hl
      rw [List.length_cons, h1.len]
      exact hl'
    · cases h2
  · obtain ⟨a, c, us, G, s, ds, r, s', rfl, h0, hs, ga, gc, h1, h2, h3⟩ := h
    obtain ⟨t, pt, q⟩ := hb cdv A outer s0 H hr hG
    refine ⟨t, pt, ?_⟩
    unfold runS at h2
    split at h2
    · have fin : ∀ {ρ' : En} {σ' : L2.St} {G' H' : Hp} {v : V}, Same G G' → Rel K (some a) (offS G H a c) G' H' (.src s' :: ρ') σ' → Dq K G' v r → Q v H' := by
        intro ρ' σ' G' H' v s1 R' z
        obtain ⟨a', c', hA, _, hs', f1, f2, g1, g2⟩ := R'.atSrc (i := 0) rfl
        cases hA
        have off2 : ∀ b o, H b = some o → b ≠ a → b ≠ c → G b = none → offS G H a c b = some o := fun b o e n1 n2 g => by
          unfold offS
          rw [if_neg n1, if_neg n2, off_none g]
          exact e
        refine h3 v c' G' H' s1 R'.gh (fun b o e n1 n2 => ?_) (fun b o e n1 n2 g => R'.fg b o (off2 b o e n1 n2 g)) hs' ?_ g1 g2 z
        · cases g : G b with
          | none => exact R'.fh b o (off2 b o e n1 n2 g)
          | some u =>
            have := h0 b u g
            rw [e] at this
            cases this
            exact R'.gh b o (s1 b o g)
        · by_cases hcc : c' = c
          · exact Or.inl hcc
          · refine Or.inr ?_
            cases q : H c' with
            | none => rfl
            | some u =>
              exfalso
              have n1 : c' ≠ a := fun z => by
                rw [z] at hs'
                have := hs'.1.symm.trans hs'.2
                cases this
              have gn : G c' = none := by
                cases g : G c' with
                | none => rfl
                | some u' =>
                  rw [s1 _ _ g] at g2
                  cases g2
              have := off2 c' u q n1 hcc gn
              rw [f2] at this
              cases this
      split at h2
      · rename_i d s1 ρ1 ho
        cases h2
        exact q _ _ ho (some a) _ G H _ _ (rel_startS hm1 h0 h1 hs ga gc) fun v σ' G' H' s1 R' z => fin s1 R' z
      · rename_i s1 ρ1 ho
        cases h2
        exact q _ _ ho (some a) _ G H _ _ (rel_startS hm1 h0 h1 hs ga gc) fun σ' G' H' s1 R' => fin s1 R' .non
      · cases h2
    · cases h2
end
end Fe
namespace Fe
open PySem PySem.Spec PyProof.Rows L2

/-! ## the law's own def -/
def spLaw (K : PySem.W.Frag) : Pr := fun vs H Q => ∃ (a : Addr) (ns : List Int), vs = [.ref a] ∧ SqL K H a (ns.map V.int) ∧ ns.length ≤ 63 ∧ ∀ H', Q (.bl true) H'
/-- what makes the source of the script -/
def spMk (K : PySem.W.Frag) : Pr := fun vs H Q => ∃ (p : Addr) (ns : List Int), vs = [.ref p] ∧ SqL K H p (ns.map V.int) ∧ ns.length ≤ 63 ∧ ∀ a c s H', Same H H' → H a = none → H c = none → SrcAt H' a c s → Q (.ref a) H'
abbrev tMk (K : PySem.W.Frag) : TS := tAsg (fun σ H Q => tCons (tVar 0) tNil σ H fun vs H1 => spMk K vs H1 Q) (gName 1)
@[simp] def startL (m : Nat) (s : Src) : En := .un :: .src s :: List.replicate (m - 2) .un
section
variable {P : Program} {w : World} {K : PySem.W.Frag} {mg : Str → Option Value} {base : Heap}
theorem rel_law {H H' : Hp} {m : Nat} {v0 : Option V} {a c : Addr} {s : Src} {τ : L2.St} (hl : τ.length = m) (hm : 2 ≤ m) (e : Same H H') (ha : H a = none) (hc : H c = none) (hs : SrcAt H' a c s) :
    Rel K (some a) H (fun _ => none) H' (startL m s) (τ.set 1 (some (.ref a))) := by
  refine ⟨fun b o z => (nomatch z), e, fun b o z => rfl, by simp [startL, hl]; omega, Rg (fun _ => []) 1 [a, c], fun i u z => ?_, fun i j b e1 e2 => ?_, fun i b z => ?_⟩
  · by_cases hi : i = 1
    · subst hi
      cases z
      rw [rg_same, List.getElem?_set_self (by omega)]
      exact ⟨_, rfl, a, c, rfl, rfl, rfl, hs⟩
    · rw [rg_ne hi, List.getElem?_set_ne (Ne.symm hi)]
      have hu : u = .un := by
        cases i with
        | zero => exact (Option.some.inj z).symm
        | succ i =>
          cases i with
          | zero => exact absurd rfl hi
          | succ i =>
            unfold startL at z
            rw [List.getElem?_cons_succ, List.getElem?_cons_succ, List.getElem?_replicate] at z
            split at z
            · exact (Option.some.inj z).symm
            · cases z
      subst hu
      have hlt : i < τ.length := by
        have := (List.getElem?_eq_some_iff.mp z).1
        simp [startL] at this
        omega
      exact ⟨τ[i], List.getElem?_eq_getElem hlt, rfl⟩
  · by_cases hi : i = 1
    · by_cases hj : j = 1
      · rw [hi, hj]
      · rw [rg_ne hj] at e2
        cases e2
    · rw [rg_ne hi] at e1
      cases e1
  · by_cases hi : i = 1
    · rw [hi, rg_same] at z
      simp at z
      rcases z with z | z
      · subst z
        exact ⟨ha, rfl, _, hs.1⟩
      · subst z
        exact ⟨hc, rfl, _, hs.2⟩
    · rw [rg_ne hi] at z
      cases z
theorem fnLaw {x qual : Str} {st st0 : Stmt} {rest : List Stmt} {f : Addr} {fd : FuncData} {N ps : List Str} {k m : Nat} {fb : SF} (D : Fun K x qual st f fd) (S : FnScope N ps (defScope st)) (hd : defBody st = st0 :: rest) (hps : ps.length = 1 := by rfl) (hm : N.length = m := by rfl) (hm2 : 2 ≤ m := by decide)
    (hb : ∀ (cdv : Value) (A : Around) (outer : List Env) (s : Shared) (H : Hp), Room k (cx P w K mg base N qual (defScope st) f cdv A outer s H).A → (cx P w K mg base N qual (defScope st) f cdv A outer s H).A.guards = some [] →
      PS (cx P w K mg base N qual (defScope st) f cdv A outer s H) st0 (tMk K) ∧ FSs (cx P w K mg base N qual (defScope st) f cdv A outer s H) rest fb)
    (hF : ∀ s : Src, ∃ ρ', fb (startL m s) = some (.rt (.bool true) ρ')) : FnG P w K mg base (k + 1) f fd ps (spLaw K) := by
  subst hm
  refine fnG_of D S (fun vs H Q h => ?_) fun cdv A outer s0 H vs Q hr hG h => ?_
  · obtain ⟨a, ns, rfl, _⟩ := h
    exact hps.symm
  · obtain ⟨a, ns, rfl, h1, h2, h3⟩ := h
    obtain ⟨p1, t, pt, q⟩ := hb cdv A outer s0 H hr hG
    rw [hd]
    refine ⟨_, pss_cons p1 pt, .ref a, rfl, a, ns, rfl, h1, h2, fun a' c s H' e ha hc hs => ?_⟩
    obtain ⟨ρ', hq⟩ := hF s
    have hlen : (L2.start N [V.ref a]).length = N.length := by
      simp [L2.start]
      omega
    refine q _ _ hq (some a') H (fun _ => none) H' _ _ (rel_law (v0 := none) hlen hm2 e ha hc hs) fun v σ' G' H2 _ _ z => ?_
    cases z
    exact h3 H2
end
/-! ## the end of a law's row -/
theorem run_law {P : Program} {w : World} {K : PySem.W.Frag} {mg mb : Str → Option Value} {k : Nat} {fa a : Addr} {fd : FuncData} {x : Str} {sp : Pr} {s : Shared} {vs : List Value} {ns : List Int}
    (KX : K.In s.heap) (hns : s.heap.Ns mainGlobals mg) (hb : s.heap.Ns builtinsNs mb) (hbb : ∀ x : Str, x ≠ "__name__" → mb x = bootBuiltins x) (hlim : s.heap.NoLimit) (hg : s.gens = #[])
    (ha : s.heap.get? a = some { cls := .type "list", data := .seq vs.toArray }) (hi : IntsAre vs ns) (hl : ns.length ≤ sizeLine) (hr : Room k callerA)
    (F : ∀ base : Heap, K.In base → base.Ns mainGlobals mg → FnG P w K mg base k fa fd [x] sp) (hbind : ∀ (s : Shared) (u : Value), BindsTo s fd ⟨[u], []⟩ [(x, u)])
    (hsp : ∀ H : Hp, Only H → SqL K H a (ns.map V.int) → sp [.ref a] H (fun v _ => v = .bl true)) :
    codeAny (model P w) callerA (.call (.ref fa) ⟨[.ref a], []⟩) (fun r s' => r = .ok (.ret (.bool true)) ∧ OldK s.heap s'.heap ∧ s'.os = s.os ∧ AllBare s'.gens) s := by
  have rv := vals_ints hi
  suffices main : ∀ H : Hp, Only H → SqL K H a (ns.map V.int) → HOk P w H s.heap → (∀ b, H b ≠ none → b = a) → (H a ≠ none → K.lookup a = none) →
      codeAny (model P w) callerA (.call (.ref fa) ⟨[.ref a], []⟩) (fun r s' => r = .ok (.ret (.bool true)) ∧ OldK s.heap s'.heap ∧ s'.os = s.os ∧ AllBare s'.gens) s by
    cases hk : K.lookup a with
    | some o =>
      have z := KX a o hk
      rw [ha] at z
      cases z
      refine main (fun _ => none) (fun _ => .inl rfl) (.inr ⟨_, vs.toArray, _, hk, rfl, rfl, rfl, ?_, by simpa using rv⟩) (fun b u q => ?_) (fun b q => absurd rfl q) fun q => absurd rfl q
      · rw [List.size_toArray, hi.length]
        exact hl
      · have q' : (none : Option HO) = some u := q
        cases q'
    | none =>
      let o : HO := .frz { cls := .type "list", data := .seq vs.toArray } (.lst (ns.map V.int))
      have at_a : (fun b => if b = a then some o else none : Hp) a = some o := if_pos rfl
      have off_a : ∀ b, b ≠ a → (fun b => if b = a then some o else none : Hp) b = none := fun b hb => if_neg hb
      refine main (fun b => if b = a then some o else none) (fun b => ?_) (.inl (.inr ⟨_, at_a⟩)) (fun b u q => ?_) (fun b q => ?_) fun _ => hk
      · by_cases hba : b = a
        · subst hba
          exact .inr ⟨_, _, at_a⟩
        · exact .inl (off_a b hba)
      · by_cases hba : b = a
        · subst hba
          have q' := at_a.symm.trans q
          cases q'
          exact ⟨ha, by rw [List.length_map]; exact hl, vs, _, rv, ha⟩
        · have q' := (off_a b hba).symm.trans q
          cases q'
      · by_cases hba : b = a
        · exact hba
        · exact absurd (off_a b hba) q
  intro H hO hS hok hA hK
  have keepH : ∀ {b : Addr} {o : Obj}, s.heap.get? b = some o → H b = none → (hidT s.heap H).get? b = some o := fun e n => hidT_get e n
  have notA : ∀ {b : Addr} {o : Obj} {es : Array DictEntry} {ep : Nat}, s.heap.get? b = some o → o.data = .dict es ep → H b = none := by
    intro b o es ep e d
    cases q : H b with
    | none => rfl
    | some u =>
      obtain rfl : b = a := hA b (by rw [q]; simp)
      rw [ha] at e
      cases e
      exact nomatch (show Data.seq vs.toArray _ = Data.dict es ep from d)
  have nsH : ∀ {b : Addr} {m : Str → Option Value}, s.heap.Ns b m → (hidT s.heap H).Ns b m := by
    rintro b m ⟨o, es, ep, e, d, r⟩
    exact ⟨o, es, ep, keepH e (notA e d), d, r⟩
  have kH : K.In (hidT s.heap H) := by
    intro b o e
    refine keepH (KX b o e) ?_
    cases q : H b with
    | none => rfl
    | some u =>
      obtain rfl : b = a := hA b (by rw [q]; simp)
      rw [hK (by rw [q]; simp)] at e
      cases e
  have lim : (hidT s.heap H).NoLimit := by
    obtain ⟨mc, h1, h2⟩ := hlim
    exact ⟨mc, nsH h1, h2⟩
  have env : Env0 P w K mg (hidT s.heap H) callerA [] s H := by
    refine ⟨rfl, ⟨kH, nsH hns, ⟨mb, nsH hb, hbb⟩, lim⟩, fun b o e => of_hidT e, Nat.le_of_eq (hidT_size _ _), trivial, fun b z => ?_, hok, .of_eq hg⟩
    exact absurd (show b ∈ ([] : List Addr) from z) (by simp)
  refine codeAny_mono ((F _ kH (nsH hns)).run callerA [] s H ⟨[.ref a], []⟩ [.ref a] [.ref a] _ hr rfl env (hbind s (.ref a)) (.cons rfl .nil) (hsp H hO hS)) ?_
  rintro (e | fl) s' z
  · exact False.elim z
  cases fl with
  | next => exact False.elim z
  | brk => exact False.elim z
  | cont => exact False.elim z
  | ret u =>
    obtain ⟨v, H', os, bare, un, hok', r', q⟩ := z
    obtain rfl : v = .bl true := q
    obtain rfl : u = Value.bool true := r'
    refine ⟨rfl, OldK.of_keep fun b o e => ?_, os, bare⟩
    rcases hO b with q | ⟨ob, xs, q⟩
    · exact un.keep b o e q (fun z => absurd (show b ∈ ([] : List Addr) from z) (by simp)) (by simp)
    · obtain ⟨e1, _⟩ := hok b _ q
      obtain ⟨e2, _⟩ := hok' b _ (un.frzs b ob _ q)
      rw [e] at e1
      cases e1
      exact e2
theorem walkG {l : PySem.W.OpenLaw} {k : Nat} {q : Program} {loose : List Str} {XP : (Str → Option Value) → Heap → Prop} {YP : World → Heap → Prop} {d : DefRec} {K : Params → PySem.W.Frag} {x : Str}
    (hn : l.most = some 63) (hdf : d.params.defaults = []) (hr : Room k callerA) (hY : ∀ (w : World) (h : Heap), YP w h → (K w.params).In h)
    (F : ∀ (w : World) (mg : Str → Option Value) (fa : Addr) (h : Heap), (K w.params).In h → h.Ns mainGlobals mg → mg d.name = some (.ref fa) →
      ∃ fd : FuncData, (∀ (s : Shared) (u : Value), BindsTo s fd ⟨[u], []⟩ [(x, u)]) ∧ ∀ base : Heap, (K w.params).In base → base.Ns mainGlobals mg → FnG l.prog w (K w.params) mg base k fa fd [x] (spLaw (K w.params))) :
    PySem.W.WalkO q loose XP YP l.row.toRowW d [] (fun f vs => PySem.call f vs) := by
  refine Att.attach_call hn hdf ?_
  intro w s₀ s₁ mg mb fa o pm cd doc a vs ns G Y ho hd hcd hmg hobj hints hlen hg
  obtain ⟨fd, hb, hF⟩ := F w mg fa _ (hY w _ Y) G.T.g hmg
  exact run_law (hY w _ Y) G.T.g G.T.b G.T.builtins G.T.nolimit hg hobj hints (Nat.le_trans hlen (by decide)) hr hF hb fun H _ hS => ⟨a, ns, rfl, hS, hlen, fun _ => rfl⟩
end Fe
namespace Fe
open PySem PySem.Spec PyProof.Rows L2

/-! ## drawing -/
def popT : Nat → Int → List Int → Int × List Int
  | 0, l, cs => (l, cs)
  | n + 1, l, cs => if l < 2 ∧ 0 < cs.length then popT n (cs.getLastD 0) cs.dropLast else (l, cs)
theorem popT_step {n : Nat} {l : Int} {cs : List Int} (h : l < 2 ∧ 0 < cs.length) : popT (n + 1) l cs = popT n (cs.getLastD 0) cs.dropLast := if_pos h
def popA (s : Src) : Int × List Int := popT s.cells.length s.left s.cells
def turnA (s : Src) (k1 k2 : Int) : Int := ((((s.mixed + (s.turn + 1) * k1) % 998244353) * ((s.mixed + (s.turn + 1) * k1) % 998244353)) + (s.turn + 1) * k2) % 2147483647
/-- the pick that keeps mixed -/
def pickA (s : Src) (m : Int) : Int × Src :=
  if m < 2 then (0, s) else if 1 < (popA s).1 then ((popA s).1 % m, ⟨(popA s).2, (popA s).1 / m, s.mixed, s.turn⟩) else (turnA s 104729 17 / 16 % m, ⟨(popA s).2, (popA s).1, s.mixed, s.turn + 1⟩)
/-- the pick that stores mixed -/
def pickB (k1 k2 : Int) (s : Src) (m : Int) : Int × Src :=
  if m < 2 then (0, s) else if 1 < (popA s).1 then ((popA s).1 % m, ⟨(popA s).2, (popA s).1 / m, s.mixed, s.turn⟩) else (turnA s k1 k2 / 16 % m, ⟨(popA s).2, (popA s).1, turnA s k1 k2, s.turn + 1⟩)
def fPick (p : Src → Int → Int × Src) : Src → List PyData → Option (PyData × Src) := fun s ds => match ds with
  | [.int m] => if Nat.blt m.natAbs.log2 9000 = true then some (.int (p s m).1, (p s m).2) else none
  | _ => none
theorem pickA_rng (s : Src) {m : Int} (h : 0 < m) : 0 ≤ (pickA s m).1 ∧ (pickA s m).1 < m := by
  unfold pickA
  split
  · exact ⟨Int.le_refl 0, h⟩
  · split <;> exact ⟨Int.emod_nonneg _ (by omega), Int.emod_lt_of_pos _ h⟩
theorem pickB_rng (k1 k2 : Int) (s : Src) {m : Int} (h : 0 < m) : 0 ≤ (pickB k1 k2 s m).1 ∧ (pickB k1 k2 s m).1 < m := by
  unfold pickB
  split
  · exact ⟨Int.le_refl 0, h⟩
  · split <;> exact ⟨Int.emod_nonneg _ (by omega), Int.emod_lt_of_pos _ h⟩
def Away (H H' : Hp) (a c : Addr) : Prop := ∀ b o, H b = some o → b ≠ a → b ≠ c → H' b = some o
theorem Away.refl (H : Hp) (a c : Addr) : Away H H a c := fun _ _ h _ _ => h
theorem Away.upA {H H' : Hp} {a c : Addr} {o : HO} (h : Away H H' a c) : Away H (upd H' a o) a c := fun b u e n1 n2 => by
  rw [upd_ne n1]
  exact h b u e n1 n2
theorem Away.upC {H H' : Hp} {a c : Addr} {o : HO} (h : Away H H' a c) : Away H (upd H' c o) a c := fun b u e n1 n2 => by
  rw [upd_ne n2]
  exact h b u e n1 n2
theorem SrcAt.ne {H : Hp} {a c : Addr} {s : Src} (h : SrcAt H a c s) : a ≠ c := fun e => by
  have z := h.1
  rw [e, h.2] at z
  cases z
theorem SrcAt.left {H : Hp} {a c : Addr} {s : Src} (h : SrcAt H a c s) : DGet H a (.str "left") (some (.int s.left)) := by
  have z := DGet.k (k := Sum.inr "left") h.1
  exact z
theorem SrcAt.mixed {H : Hp} {a c : Addr} {s : Src} (h : SrcAt H a c s) : DGet H a (.str "mixed") (some (.int s.mixed)) := DGet.k (k := Sum.inr "mixed") h.1
theorem SrcAt.turn {H : Hp} {a c : Addr} {s : Src} (h : SrcAt H a c s) : DGet H a (.str "turn") (some (.int s.turn)) := DGet.k (k := Sum.inr "turn") h.1
theorem SrcAt.cells {H : Hp} {a c : Addr} {s : Src} (h : SrcAt H a c s) : DGet H a (.str "cells") (some (.ref c)) := DGet.k (k := Sum.inr "cells") h.1
theorem SrcAt.putLeft {H : Hp} {a c : Addr} {s : Src} (h : SrcAt H a c s) (i : Int) : ∃ H', DPut H a (.str "left") (.int i) H' ∧ H' = upd H a (.dK (srcKv c { s with left := i })) ∧ SrcAt H' a c { s with left := i } := by
  have e : putK (srcKv c s) (Sum.inr "left") (.int i) = srcKv c { s with left := i } := by rfl
  refine ⟨_, DPut.k (k := Sum.inr "left") h.1 (by show 4 < sizeLine; decide), congrArg (fun z => upd H a (.dK z)) e, ?_, ?_⟩
  · exact upd_same.trans (congrArg (fun z => some (HO.dK z)) e)
  · rw [upd_ne h.ne.symm]
    exact h.2
theorem SrcAt.putTurn {H : Hp} {a c : Addr} {s : Src} (h : SrcAt H a c s) (i : Int) : ∃ H', DPut H a (.str "turn") (.int i) H' ∧ H' = upd H a (.dK (srcKv c { s with turn := i })) ∧ SrcAt H' a c { s with turn := i } := by
  have e : putK (srcKv c s) (Sum.inr "turn") (.int i) = srcKv c { s with turn := i } := by rfl
  refine ⟨_, DPut.k (k := Sum.inr "turn") h.1 (by show 4 < sizeLine; decide), congrArg (fun z => upd H a (.dK z)) e, ?_, ?_⟩
  · exact upd_same.trans (congrArg (fun z => some (HO.dK z)) e)
  · rw [upd_ne h.ne.symm]
    exact h.2
theorem SrcAt.putMixed {H : Hp} {a c : Addr} {s : Src} (h : SrcAt H a c s) (i : Int) : ∃ H', DPut H a (.str "mixed") (.int i) H' ∧ H' = upd H a (.dK (srcKv c { s with mixed := i })) ∧ SrcAt H' a c { s with mixed := i } := by
  have e : putK (srcKv c s) (Sum.inr "mixed") (.int i) = srcKv c { s with mixed := i } := by rfl
  refine ⟨_, DPut.k (k := Sum.inr "mixed") h.1 (by show 4 < sizeLine; decide), congrArg (fun z => upd H a (.dK z)) e, ?_, ?_⟩
  · exact upd_same.trans (congrArg (fun z => some (HO.dK z)) e)
  · rw [upd_ne h.ne.symm]
    exact h.2
theorem SrcAt.setCells {H : Hp} {a c : Addr} {s : Src} (h : SrcAt H a c s) (cs : List Int) : SrcAt (upd H c (.lst (cs.map V.int))) a c { s with cells := cs } :=
  ⟨(upd_ne h.ne).trans h.1, upd_same⟩
end Fe
namespace Fe
open PySem PySem.Spec PyProof.Rows L2

/-! ## repr of two things, compared -/
mutual
def shB : PyData → Nat
  | .int i => i.natAbs.log2 + 3
  | .bool _ => 5
  | .none => 4
  | .list xs => shBA xs + 3
  | .tuple xs => shBA xs + 3
  | .str _ => 99999999
  | .dict _ => 99999999
def shBA : List PyData → Nat
  | [] => 0
  | x :: r => shB x + 2 + shBA r
end
mutual
def plainD : PyData → Bool
  | .int i => Nat.blt i.natAbs.log2 1920
  | .bool _ => true
  | .none => true
  | .list xs => plainA xs
  | .tuple xs => plainA xs
  | .str _ => false
  | .dict _ => false
def plainA : List PyData → Bool
  | [] => true
  | x :: r => plainD x && plainA r
end
theorem int_len (i : Int) : (toString i : String).length ≤ i.natAbs.log2 + 3 := by
  have := int_text_length_le (a := i) (k := i.natAbs.log2 + 1) (by omega) (by omega)
  omega
mutual
theorem shown_le : ∀ d : PyData, plainD d = true → d.shown.length ≤ shB d ∧ d.showable = true ∧ d.hasDict = false
  | .int i, h => by
    refine ⟨?_, by unfold PyData.showable; exact decide_eq_true (Nat.le_of_ble_eq_true h), rfl⟩
    show (Str.ofString (toString i)).length ≤ _
    rw [PySem.ofString_length]
    exact int_len i
  | .bool b, _ => by
    refine ⟨?_, rfl, rfl⟩
    cases b <;> decide
  | .none, _ => ⟨by decide, rfl, rfl⟩
  | .list xs, h => by
    obtain ⟨h1, h2, h3⟩ := shownA_le xs (by simpa [plainD] using h)
    refine ⟨?_, by simpa [PyData.showable] using h2, by simpa [PyData.hasDict] using h3⟩
    have z := listText_len_le (PyData.shownAll xs)
    show (listText (PyData.shownAll xs)).length ≤ shBA xs + 3
    omega
  | .tuple xs, h => by
    obtain ⟨h1, h2, h3⟩ := shownA_le xs (by simpa [plainD] using h)
    refine ⟨?_, by simpa [PyData.showable] using h2, by simpa [PyData.hasDict] using h3⟩
    have z := tupleText_len_le (PyData.shownAll xs)
    show (tupleText (PyData.shownAll xs)).length ≤ shBA xs + 3
    omega
  | .str _, h => by simp [plainD] at h
  | .dict _, h => by simp [plainD] at h
theorem shownA_le : ∀ ds : List PyData, plainA ds = true → ((PyData.shownAll ds).map (·.length)).sum + 2 * (PyData.shownAll ds).length ≤ shBA ds ∧ PyData.showableAll ds = true ∧ PyData.hasDictAll ds = false
  | [], _ => ⟨by simp [PyData.shownAll, shBA], rfl, rfl⟩
  | x :: r, h => by
    have h' : plainD x = true ∧ plainA r = true := by simpa [plainA] using h
    obtain ⟨a1, a2, a3⟩ := shown_le x h'.1
    obtain ⟨b1, b2, b3⟩ := shownA_le r h'.2
    refine ⟨?_, by simp [PyData.showableAll, a2, b2], by simp [PyData.hasDictAll, a3, b3]⟩
    simp only [PyData.shownAll, List.map_cons, List.sum_cons, List.length_cons, shBA]
    omega
end
mutual
def sm : PyData → PyData → Bool
  | .int i, .int j => i == j
  | .bool a, .bool b => a == b
  | .none, .none => true
  | .list xs, .list ys => smA xs ys
  | .tuple xs, .tuple ys => smA xs ys
  | _, _ => false
def smA : List PyData → List PyData → Bool
  | [], [] => true
  | x :: r, y :: w => sm x y && smA r w
  | _, _ => false
end
mutual
theorem sm_eq : ∀ (d e : PyData), sm d e = true → d = e
  | .int i, e, h => by
    cases e with
    | int j => simp [sm] at h; rw [h]
    | _ => simp [sm] at h
  | .bool i, e, h => by
    cases e with
    | bool j => simp [sm] at h; rw [h]
    | _ => simp [sm] at h
  | .none, e, h => by
    cases e with
    | none => rfl
    | _ => simp [sm] at h
  | .list xs, e, h => by
    cases e with
    | list ys => rw [smA_eq xs ys (by simpa [sm] using h)]
    | _ => simp [sm] at h
  | .tuple xs, e, h => by
    cases e with
    | tuple ys => rw [smA_eq xs ys (by simpa [sm] using h)]
    | _ => simp [sm] at h
  | .str _, e, h => by cases e <;> simp [sm] at h
  | .dict _, e, h => by cases e <;> simp [sm] at h
theorem smA_eq : ∀ (ds es : List PyData), smA ds es = true → ds = es
  | [], [], _ => rfl
  | [], _ :: _, h => by simp [smA] at h
  | _ :: _, [], h => by simp [smA] at h
  | x :: r, y :: w, h => by
    have h' : sm x y = true ∧ smA r w = true := by simpa [smA] using h
    rw [sm_eq x y h'.1, smA_eq r w h'.2]
end
mutual
theorem sm_rfl : ∀ d : PyData, plainD d = true → sm d d = true
  | .int i, _ => by simp [sm]
  | .bool i, _ => by simp [sm]
  | .none, _ => rfl
  | .list xs, h => by simpa [sm] using smA_rfl xs (by simpa [plainD] using h)
  | .tuple xs, h => by simpa [sm] using smA_rfl xs (by simpa [plainD] using h)
  | .str _, h => by simp [plainD] at h
  | .dict _, h => by simp [plainD] at h
theorem smA_rfl : ∀ ds : List PyData, plainA ds = true → smA ds ds = true
  | [], _ => rfl
  | x :: r, h => by
    have h' : plainD x = true ∧ plainA r = true := by simpa [plainA] using h
    simp [smA, sm_rfl x h'.1, smA_rfl r h'.2]
end
/-- fit to be shown -/
def repOk (d : PyData) : Bool := plainD d && (Nat.ble (shB d) 16777216 && Nat.ble d.depth 60)
def rRep (K : PySem.W.Frag) : List V → Hp → VK → Prop := fun xs H Q => ∃ x d, xs = [x] ∧ Dp K H x d ∧ repOk d = true ∧ Q (.str d.shown) H
section
variable {X : Cx}
theorem repOk_ok {d : PyData} (h : repOk d = true) : plainD d = true ∧ d.shown.length ≤ sizeLine ∧ d.showable = true ∧ d.hasDict = false ∧ d.depth ≤ 60 := by
  unfold repOk at h
  have h' := Bool.and_eq_true_iff.mp h
  have h2 := Bool.and_eq_true_iff.mp h'.2
  obtain ⟨a1, a2, a3⟩ := shown_le d h'.1
  exact ⟨h'.1, Nat.le_trans a1 (ble_line h2.1), a2, a3, Nat.le_of_ble_eq_true h2.2⟩
theorem call_rep (hu : X.A.units + 64 < cLine) (hG : X.A.guards = some []) : CallR X (.builtin "repr") (rRep X.K) := by
  intro pins s σ H xs us Q I r h
  obtain ⟨x, d, rfl, hd, hok, q⟩ := h
  obtain ⟨h1, h2, h3, h4, h5⟩ := repOk_ok hok
  cases r with | cons r0 r1 =>
  cases r1
  cases d with
  | int i =>
    cases hd
    obtain ⟨t, rfl⟩ := r0
    exact PySem.P.repr_of_int (by simpa [PyData.showable] using h3) ⟨.str _, H, I.tok _, ⟨_, rfl⟩, q⟩
  | bool b =>
    cases hd
    cases r0
    exact PySem.P.repr_of_bool ⟨.str _, H, I.tok _, ⟨_, rfl⟩, by cases b <;> exact q⟩
  | none =>
    cases hd
    cases r0
    exact PySem.P.repr_of_none ⟨.str _, H, I.tok _, ⟨_, rfl⟩, q⟩
  | list ds =>
    obtain ⟨as, hr⟩ := Dp.reads I _ _ _ hd r0
    cases hd with | lst z1 z2 =>
    cases r0
    exact repr_of_reads' hr h3 (PyData.noDict_hsm h4) hG (by omega) (fun _ _ e => e) (fun h' u tk k => ⟨.str _, H, I.kept (t' := tk) k, ⟨u, rfl⟩, q⟩) h2
  | tuple ds =>
    obtain ⟨as, hr⟩ := Dp.reads I _ _ _ hd r0
    cases hd with | tup z1 z2 =>
    cases r0
    exact repr_of_reads' hr h3 (PyData.noDict_hsm h4) hG (by omega) (fun _ _ e => e) (fun h' u tk k => ⟨.str _, H, I.kept (t' := tk) k, ⟨u, rfl⟩, q⟩) h2
  | str x => simp [plainD] at h1
  | dict x => simp [plainD] at h1
theorem Dr.dp {K : PySem.W.Frag} {G H : Hp} {x : V} {d : PyData} (g : Same G H) (h : Dr K G H x d) : Dp K H x d := by
  rcases h with h | ⟨a, xs, ds, rfl, rfl, h1, h2⟩
  · exact (h.up g).dp
  · exact .lst (Or.inl (Or.inl h1)) (h2.up g).dp
variable {a b : Expr} {pos p1 p2 q1 q2 : Pos} {r1 r2 : En → Option (Rf × En)}
/-- both are the same thing: nothing else is served -/
@[simp] def fRep2 (v : Bool) (f g : En → Option (Rf × En)) : EF := fun ρ => bnd (f ρ) fun x ρ1 => match x.get ρ1 with
  | some d => bnd (g ρ1) fun y ρ2 => match y.get ρ2 with
    | some e => if (sm d e && repOk d) = true then some (.bool v, ρ2) else none
    | none => none
  | none => none
abbrev fRepNe := fRep2 false
abbrev fRepEq := fRep2 true
theorem rep_two {ta tb : TE} {r : R2} {v : Bool} (hr : ∀ (z : Str) (H : Hp) (Q : VK), Q (.bl v) H → r (.str z) (.str z) H Q)
    (qa : ∀ ρ d ρ', r1 ρ = some (d, ρ') → ∀ A F G H σ Q, Rel X.K A F G H ρ σ → (∀ x G' H', Same G G' → Rel X.K A F G' H' ρ' σ → RfOk X.K G' σ x d → Q x H') → ta σ H Q)
    (qb : ∀ ρ d ρ', r2 ρ = some (d, ρ') → ∀ A F G H σ Q, Rel X.K A F G H ρ σ → (∀ x G' H', Same G G' → Rel X.K A F G' H' ρ' σ → RfOk X.K G' σ x d → Q x H') → tb σ H Q) :
    ∀ ρ d ρ', fRep2 v r1 r2 ρ = some (d, ρ') → ∀ A F G H σ Q, Rel X.K A F G H ρ σ → (∀ x G' H', Same G G' → Rel X.K A F G' H' ρ' σ → Dq X.K G' x d → Q x H') →
      tOp r (tCB (rRep X.K) (tCons ta tNil)) (tCB (rRep X.K) (tCons tb tNil)) σ H Q := by
  intro ρ d ρ' h A F G H σ Q R k
  obtain ⟨x, ρ1, h1, h2⟩ := bnd_some h
  split at h2
  · rename_i dx hx
    obtain ⟨y, ρ2, h3, h4⟩ := bnd_some h2
    split at h4
    · rename_i dy hy
      split at h4
      · rename_i hs
        cases h4
        have hs' := Bool.and_eq_true_iff.mp hs
        have e := sm_eq _ _ hs'.1
        subst e
        refine qa ρ x ρ1 h1 A F G H σ _ R fun u G1 H1 s1 R1 z1 => ⟨u, dx, rfl, (z1.dr R1 hx).dp R1.gh, hs'.2, ?_⟩
        refine qb ρ1 y _ h3 A F G1 H1 σ _ R1 fun w G2 H2 s2 R2 z2 => ⟨w, dx, rfl, (z2.dr R2 hy).dp R2.gh, hs'.2, ?_⟩
        exact hr _ _ _ (k _ G2 H2 (s1.trans s2) R2 (.bl v))
      · cases h4
    · cases h4
  · cases h2
theorem pe_rep {t : TE} (hu : X.A.units + 64 < cLine) (hG : X.A.guards = some []) (h : PE X a t) (hg : Gl X "repr") (hm : X.mg "repr" = none) (hs : starEach (a :: []) X.env = (false, eval a X.env) :: starEach [] X.env := by rfl) :
    PE X (.Call (.Name "repr" q1) [a] [] p1) (tCB (rRep X.K) (tCons t tNil)) := pe_callB (call_rep hu hG) hg hm (by decide +kernel) (pa_cons h pa_nil hs) (he := hs)
theorem fe_repNe (hu : X.A.units + 64 < cLine) (hG : X.A.guards = some []) (ha : FR X a r1) (hb : FR X b r2) (hg : Gl X "repr") (hm : X.mg "repr" = none) (hs : starEach (a :: []) X.env = (false, eval a X.env) :: starEach [] X.env := by rfl) (hs2 : starEach (b :: []) X.env = (false, eval b X.env) :: starEach [] X.env := by rfl) :
    FE X (.Compare (.Call (.Name "repr" q1) [a] [] p1) [.NotEq] [.Call (.Name "repr" q2) [b] [] p2] pos) (fRepNe r1 r2) := by
  obtain ⟨ta, pa, qa⟩ := ha
  obtain ⟨tb, pb, qb⟩ := hb
  exact ⟨_, pe_cmpR op_ne (pe_rep hu hG pa hg hm hs) (pe_rep hu hG pb hg hm hs2) (nobehind _ (by decide) (by decide)), rep_two (fun z H Q q => ⟨rfl, by simpa using q⟩) qa qb⟩
theorem ft_repNe (hu : X.A.units + 64 < cLine) (hG : X.A.guards = some []) (ha : FR X a r1) (hb : FR X b r2) (hg : Gl X "repr") (hm : X.mg "repr" = none) (hs : starEach (a :: []) X.env = (false, eval a X.env) :: starEach [] X.env := by rfl) (hs2 : starEach (b :: []) X.env = (false, eval b X.env) :: starEach [] X.env := by rfl) :
    FT X (.Compare (.Call (.Name "repr" q1) [a] [] p1) [.NotEq] [.Call (.Name "repr" q2) [b] [] p2] pos) (fTst (fRepNe r1 r2)) := by
  obtain ⟨ta, pa, qa⟩ := ha
  obtain ⟨tb, pb, qb⟩ := hb
  exact ⟨_, pt_cmpR op_ne (pe_rep hu hG pa hg hm hs) (pe_rep hu hG pb hg hm hs2) (nobehind _ (by decide) (by decide)), tst (rep_two (fun z H Q q => ⟨rfl, by simpa using q⟩) qa qb)⟩
theorem ft_repEq (hu : X.A.units + 64 < cLine) (hG : X.A.guards = some []) (ha : FR X a r1) (hb : FR X b r2) (hg : Gl X "repr") (hm : X.mg "repr" = none) (hs : starEach (a :: []) X.env = (false, eval a X.env) :: starEach [] X.env := by rfl) (hs2 : starEach (b :: []) X.env = (false, eval b X.env) :: starEach [] X.env := by rfl) :
    FT X (.Compare (.Call (.Name "repr" q1) [a] [] p1) [.Eq] [.Call (.Name "repr" q2) [b] [] p2] pos) (fTst (fRepEq r1 r2)) := by
  obtain ⟨ta, pa, qa⟩ := ha
  obtain ⟨tb, pb, qb⟩ := hb
  exact ⟨_, pt_cmpR op_eq (pe_rep hu hG pa hg hm hs) (pe_rep hu hG pb hg hm hs2) (nobehind _ (by decide) (by decide)), tst (rep_two (fun z H Q q => ⟨rfl, by simpa using q⟩) qa qb)⟩
theorem fe_repEq (hu : X.A.units + 64 < cLine) (hG : X.A.guards = some []) (ha : FR X a r1) (hb : FR X b r2) (hg : Gl X "repr") (hm : X.mg "repr" = none) (hs : starEach (a :: []) X.env = (false, eval a X.env) :: starEach [] X.env := by rfl) (hs2 : starEach (b :: []) X.env = (false, eval b X.env) :: starEach [] X.env := by rfl) :
    FE X (.Compare (.Call (.Name "repr" q1) [a] [] p1) [.Eq] [.Call (.Name "repr" q2) [b] [] p2] pos) (fRepEq r1 r2) := by
  obtain ⟨ta, pa, qa⟩ := ha
  obtain ⟨tb, pb, qb⟩ := hb
  exact ⟨_, pe_cmpR op_eq (pe_rep hu hG pa hg hm hs) (pe_rep hu hG pb hg hm hs2) (nobehind _ (by decide) (by decide)), rep_two (fun z H Q q => ⟨rfl, by simpa using q⟩) qa qb⟩
/-! ## powers -/
def powOk (i j : Int) : Bool := decide (0 ≤ j) && (decide (j ≤ 1000000) && Nat.blt i.natAbs 18446744073709551616)
abbrev oPow := oIc powOk fun i j => .int (i ^ j.toNat)
variable {f g : EF}
theorem fe_pow (ha : FE X a f) (hb : FE X b g) : FE X (.BinOp a .Pow b pos) (fOp oPow f g) := fe_op op_pow (of_I (fun i j h => by
  unfold powOk at h
  simp only [Bool.and_eq_true, decide_eq_true_eq] at h
  exact ⟨h.1, h.2.1, Nat.le_of_ble_eq_true h.2.2⟩) fun i j _ => .int _) ha hb
end
end Fe
namespace Fe
open PySem

/-! ## loops, as plain functions -/
def lp1 (g : PyData → En → Option En) (b : SF) (d : PyData) (ρ : En) : Option En := match g d ρ with
  | none => none
  | some ρ1 => match b ρ1 with
    | some (.nx ρ2) => some ρ2
    | some (.ct ρ2) => some ρ2
    | _ => none
theorem lp_cons {g : PyData → En → Option En} {b : SF} {d : PyData} {r : List PyData} {ρ ρ' : En} (h : lp1 g b d ρ = some ρ') : lp g b (d :: r) ρ = lp g b r ρ' := by
  unfold lp1 at h
  show (match g d ρ with | none => none | some ρ1 => match b ρ1 with | some (.nx ρ2) => lp g b r ρ2 | some (.ct ρ2) => lp g b r ρ2 | some (.bk ρ2) => some (.nx ρ2) | some (.rt d ρ2) => some (.rt d ρ2) | none => none) = _
  split at h
  · cases h
  · split at h <;> first | (cases h; simp [*]) | cases h
theorem lp_ind {g : PyData → En → Option En} {b : SF} (P : Nat → En → Prop) : ∀ (ds : List PyData) (k : Nat) (ρ : En), P k ρ →
    (∀ i d ρ, ds[i]? = some d → P (k + i) ρ → ∃ ρ', lp1 g b d ρ = some ρ' ∧ P (k + i + 1) ρ') → ∃ ρ', lp g b ds ρ = some (.nx ρ') ∧ P (k + ds.length) ρ'
  | [], k, ρ, h0, _ => ⟨ρ, rfl, h0⟩
  | d :: r, k, ρ, h0, hs => by
    obtain ⟨ρ1, h1, h2⟩ := hs 0 d ρ rfl h0
    obtain ⟨ρ2, h3, h4⟩ := lp_ind P r (k + 1) ρ1 h2 fun i d ρ e p => by
      have := hs (i + 1) d ρ (by simpa using e) (by rw [show k + (i + 1) = k + 1 + i by omega]; exact p)
      rwa [show k + (i + 1) + 1 = k + 1 + i + 1 by omega] at this
    refine ⟨ρ2, by rw [lp_cons h1]; exact h3, ?_⟩
    rw [List.length_cons, show k + (r.length + 1) = k + 1 + r.length by omega]
    exact h4
theorem lp_list {g : PyData → En → Option En} {b : SF} (P : Nat → En → Prop) {ds : List PyData} {ρ : En} (h0 : P 0 ρ)
    (hs : ∀ i d ρ, ds[i]? = some d → P i ρ → ∃ ρ', lp1 g b d ρ = some ρ' ∧ P (i + 1) ρ') : ∃ ρ', lp g b ds ρ = some (.nx ρ') ∧ P ds.length ρ' := by
  obtain ⟨ρ', h1, h2⟩ := lp_ind P ds 0 ρ h0 fun i d ρ e p => by
    rw [Nat.zero_add] at p ⊢
    exact hs i d ρ e p
  exact ⟨ρ', h1, by rwa [Nat.zero_add] at h2⟩
theorem lp_rng {g : PyData → En → Option En} {b : SF} (P : Nat → En → Prop) {lo : Int} {n : Nat} {ρ : En} (h0 : P 0 ρ)
    (hs : ∀ i ρ, i < n → P i ρ → ∃ ρ', lp1 g b (.int (lo + (i : Nat))) ρ = some ρ' ∧ P (i + 1) ρ') : ∃ ρ', lp g b (rngL lo n) ρ = some (.nx ρ') ∧ P n ρ' := by
  have z := lp_list (g := g) (b := b) P (ds := rngL lo n) h0 fun i d ρ e p => by
    have hi : i < n := by
      have := (List.getElem?_eq_some_iff.mp e).1
      rwa [rngL_len] at this
    rw [rngL_get e]
    exact hs i ρ hi p
  rwa [rngL_len] at z
/-- a comprehension without a test, its element a value by place, nothing drawn -/
theorem cl_map {vs : List Nat} {g : PyData → En → Option En} {e : EF} {ρ : En} : ∀ (ds : List PyData) (f : PyData → PyData), (∀ d ∈ ds, ∃ ρ1 ρ2, g d (wipeE ρ vs) = some ρ1 ∧ e ρ1 = some (f d, ρ2) ∧ wipeE ρ2 vs = wipeE ρ vs) → ∀ ρ0, wipeE ρ0 vs = wipeE ρ vs →
    cl vs g fYes e ds ρ0 = some (ds.map f, wipeE ρ vs)
  | [], f, _, ρ0, h0 => by
    show some ([], wipeE ρ0 vs) = _
    rw [h0]
    rfl
  | d :: r, f, h, ρ0, h0 => by
    obtain ⟨ρ1, ρ2, h1, h2, h3⟩ := h d List.mem_cons_self
    have ih := cl_map r f (fun d hd => h d (List.mem_cons_of_mem _ hd)) ρ2 h3
    show (match g d (wipeE ρ0 vs) with | none => none | some ρ1 => bnd (fYes ρ1) fun k ρ2 => if k = true then bnd (e ρ2) fun y ρ3 => bnd (cl vs g fYes e r ρ3) fun ys ρ4 => some (y :: ys, ρ4) else cl vs g fYes e r ρ2) = _
    rw [h0, h1]
    simp only [fYes, bnd, h2, ih, if_true, List.map_cons]
theorem runF_rt {n m : Nat} {fb : SF} {ds : List PyData} {d : PyData} {ρ : En} (h : fb (start1 m ds) = some (.rt d ρ)) (hn : ds.length = n := by rfl) : runF n m fb ds = some d := by
  subst hn
  unfold runF
  rw [if_pos (beq_self_eq_true _), h]
theorem runS_rt {n m : Nat} {fb : SF} {s s' : Src} {ds : List PyData} {d : PyData} {ρ : En} (h : fb (startS m s ds) = some (.rt d (.src s' :: ρ))) (hn : ds.length + 1 = n := by rfl) : runS n m fb s ds = some (d, s') := by
  subst hn
  unfold runS
  rw [if_pos (beq_self_eq_true _), h]
/-! ## small facts -/
theorem log2_lt {i : Int} {k : Nat} (hk : k ≠ 0) (h : i.natAbs < 2 ^ k) : i.natAbs.log2 < k := by
  by_cases h0 : i.natAbs = 0
  · rw [h0]
    simp
    omega
  · exact (Nat.log2_lt h0).mpr h
theorem mulOk_of {i j : Int} {a b : Nat} (h1 : i.natAbs.log2 ≤ a) (h2 : j.natAbs.log2 ≤ b) (h : a + b < 1000000) : mulOk i j = true := by
  unfold mulOk
  exact Nat.ble_eq_true_of_le (by omega)
theorem divOk_of {j : Int} (h0 : 0 < j) (h : j.natAbs.log2 < 9000) : divOk j = true := by
  unfold divOk
  rw [decide_eq_true h0]
  exact Nat.ble_eq_true_of_le h
theorem modOk_of {j : Int} (h0 : 0 < j) : modOk j = true := decide_eq_true h0
theorem inB_of {j : Int} (h1 : -4611686018427387903 ≤ j) (h2 : j ≤ 4611686018427387903) : inB j = true := Nat.ble_eq_true_of_le (by omega)
@[simp] theorem oEq_int {a b : Int} : oEq (.int a) (.int b) = some (.bool (decide (a = b))) := by
  have e : PyData.eqv (.int a) (.int b) = decide (a = b) := by
    rw [← Bool.beq_eq_decide_eq]
    rfl
  have s : (SeqAt.shaped (.int a) && SeqAt.shaped (.int b)) = true := rfl
  unfold oEq
  rw [if_pos s, e]
@[simp] theorem oNe_int {a b : Int} : oNe (.int a) (.int b) = some (.bool (!decide (a = b))) := by
  have e : PyData.eqv (.int a) (.int b) = decide (a = b) := by
    rw [← Bool.beq_eq_decide_eq]
    rfl
  have s : (SeqAt.shaped (.int a) && SeqAt.shaped (.int b)) = true := rfl
  unfold oNe
  rw [if_pos s, e]
@[simp] theorem intsD_map : ∀ ns : List Int, intsD (ns.map PyData.int) = some ns
  | [] => rfl
  | n :: r => by
    show (match intsD (r.map PyData.int) with | some l => some (n :: l) | none => none) = _
    rw [intsD_map r]
@[simp] theorem boolsD_map : ∀ ns : List Bool, boolsD (ns.map PyData.bool) = some ns
  | [] => rfl
  | n :: r => by
    show (match boolsD (r.map PyData.bool) with | some l => some (n :: l) | none => none) = _
    rw [boolsD_map r]
theorem ixD_nat {ds : List PyData} {n : Nat} : ixD ds (n : Int) = ds[n]? := rfl
theorem ixP_nat {n k : Nat} (h : k < n) : ixP n (k : Int) = some k := by
  show (if Nat.blt k n = true then some k else none) = _
  rw [if_pos (show Nat.blt k n = true from Nat.ble_eq_true_of_le h)]
/-- an item of a list of ints, 0 beyond -/
def iat (l : List Int) (i : Nat) : Int := l.getD i 0
theorem iat_some {l : List Int} {i : Nat} {v : Int} (h : l[i]? = some v) : iat l i = v := by
  unfold iat
  rw [List.getD_eq_getElem?_getD, h]
  rfl
theorem ixD_map {l : List Int} {n : Nat} {z : Int} (hz : z = n) (h : n < l.length) : ixD (l.map PyData.int) z = some (.int (iat l n)) := by
  subst hz
  rw [ixD_nat, List.getElem?_map, List.getElem?_eq_getElem h, iat_some (List.getElem?_eq_getElem h)]
  rfl
theorem ixP_map {l : List Int} {n : Nat} {z : Int} (hz : z = n) (h : n < l.length) : ixP (l.map PyData.int).length z = some n := by
  subst hz
  exact ixP_nat (by rw [List.length_map]; exact h)
theorem setI_map {l : List Int} {n : Nat} {v : Int} : (l.map PyData.int).set n (.int v) = (l.set n v).map PyData.int := by rw [List.map_set]
theorem rep_map {n : Nat} {v : Int} : List.replicate n (PyData.int v) = (List.replicate n v).map PyData.int := by rw [List.map_replicate]
theorem enum_map {row : List Int} {i : Nat} {d : PyData} (h : (enumD 0 (row.map PyData.int))[i]? = some d) : i < row.length ∧ d = .tuple [.int (i : Nat), .int (iat row i)] := by
  obtain ⟨d', h1, h2⟩ := enumD_get h
  rw [List.getElem?_map] at h1
  cases e : row[i]? with
  | none =>
    rw [e] at h1
    cases h1
  | some v =>
    rw [e] at h1
    cases h1
    refine ⟨(List.getElem?_eq_some_iff.mp e).1, ?_⟩
    rw [h2, iat_some e, Nat.zero_add]
/-- a function of natural numbers on ints -/
def mI (f : Nat → Int) : PyData → PyData
  | .int i => .int (f i.toNat)
  | d => d
theorem mI_nat {f : Nat → Int} {i : Nat} : mI f (.int (i : Nat)) = .int (f i) := rfl
theorem mI_rng {n : Nat} {f : Nat → Int} : (rngL 0 n).map (mI f) = ((List.range n).map f).map .int := by
  unfold rngL
  rw [List.map_map, List.map_map]
  refine List.map_congr_left fun i hi => ?_
  show PyData.int (f ((0 : Int) + (i : Nat)).toNat) = PyData.int (f i)
  congr 2
  omega
theorem mem_rng0 {n : Nat} {d : PyData} (h : d ∈ rngL 0 n) : ∃ i : Nat, i < n ∧ d = .int (i : Nat) := by
  unfold rngL at h
  obtain ⟨i, hi, rfl⟩ := List.mem_map.mp h
  exact ⟨i, List.mem_range.mp hi, by rw [Int.zero_add]⟩
end Fe
namespace Fe
theorem bleN0 : Nat.ble 0 16777216 = true := rfl
theorem bleN1 : Nat.ble 1 16777216 = true := rfl
theorem bleN2 : Nat.ble 2 16777216 = true := rfl
theorem bleN3 : Nat.ble 3 16777216 = true := rfl
theorem bleN4 : Nat.ble 4 16777216 = true := rfl
theorem bleN5 : Nat.ble 5 16777216 = true := rfl
theorem bleN6 : Nat.ble 6 16777216 = true := rfl
theorem bleN7 : Nat.ble 7 16777216 = true := rfl
theorem bleN8 : Nat.ble 8 16777216 = true := rfl
theorem bleN9 : Nat.ble 9 16777216 = true := rfl
theorem bleN10 : Nat.ble 10 16777216 = true := rfl
theorem bleN11 : Nat.ble 11 16777216 = true := rfl
theorem bleN12 : Nat.ble 12 16777216 = true := rfl
theorem bleN13 : Nat.ble 13 16777216 = true := rfl
theorem bleN14 : Nat.ble 14 16777216 = true := rfl
theorem bleN15 : Nat.ble 15 16777216 = true := rfl
theorem bleN16 : Nat.ble 16 16777216 = true := rfl
end Fe
namespace Fe
open PySem PySem.Spec PyProof.Rows L2
/-! ## tuples: + and * -/
@[simp] def oCatT : PyData → PyData → Option PyData
  | .tuple ds, .tuple es => if Nat.ble (ds.length + es.length) 16777216 = true then some (.tuple (ds ++ es)) else none
  | _, _ => none
theorem of_catT {K : PySem.W.Frag} : OpF K (rCatA K) oCatT := by
  intro x y d e c q A F G H ρ σ Q R hx hy k
  unfold oCatT at q
  split at q
  · split at q
    · rename_i ds es hz
      cases q
      have hz1 := ble_line hz
      cases hx with | tup q1 q2 =>
      cases hy with | tup w1 w2 =>
      have hl := q2.len
      have hl2 := w2.len
      refine ⟨_, _, _, _, rfl, rfl, sqT_up R.gh q1, sqT_up R.gh w1, by rw [hl, hl2]; exact hz1, fun e0 => ?_, fun _ e0 => ?_, fun _ _ p hp => ?_⟩
      · subst e0
        cases q2
        exact k _ G H (Same.refl G) R (.tup w1 w2)
      · subst e0
        cases w2
        rw [List.append_nil] at k
        exact k _ G H (Same.refl G) R (.tup q1 q2)
      · have g0 := none_of R.gh hp
        exact k _ _ _ (same_new g0) (R.new hp) (.tup (Or.inl (Or.inl upd_same)) ((q2.app w2).up (same_new g0)))
    · cases q
  · cases q
@[simp] def oRepT : PyData → PyData → Option PyData
  | .tuple ds, .int k => if (Nat.blt 0 ds.length && Nat.ble ds.length 1000 && decide (2 ≤ k) && decide (k ≤ 1000)) = true then some (.tuple (List.replicate k.toNat ds).flatten) else none
  | _, _ => none
theorem of_repT {K : PySem.W.Frag} : OpF K (rRepT K) oRepT := by
  intro x y d e c q A F G H ρ σ Q R hx hy k
  unfold oRepT at q
  split at q
  · split at q
    · rename_i ds n hz
      cases q
      simp only [Bool.and_eq_true, decide_eq_true_eq] at hz
      obtain ⟨⟨⟨h1, h2⟩, h3⟩, h4⟩ := hz
      cases hy
      cases hx with | tup q1 q2 =>
      have hl := q2.len
      have h1' : 0 < ds.length := Nat.le_of_ble_eq_true h1
      have h2' : ds.length ≤ 1000 := Nat.le_of_ble_eq_true h2
      refine ⟨_, n, _, rfl, rfl, sqT_up R.gh q1, fun e0 => ?_, h3, h4, by rw [hl]; exact h2', fun p hp => ?_⟩
      · subst e0
        rw [← hl] at h1'
        exact absurd h1' (by simp)
      · have g0 := none_of R.gh hp
        exact k _ _ _ (same_new g0) (R.new hp) (.tup (Or.inl (Or.inl upd_same)) ((q2.rep n.toNat).up (same_new g0)))
    · cases q
  · cases q
section
variable {X : Cx} {e a b c : Expr} {es : List Expr} {pos p p2 : Pos} {f g h : EF} {l : LF} {r r' : En → Option (Rf × En)}
theorem fe_catT (ha : FE X a f) (hb : FE X b g) : FE X (.BinOp a .Add b pos) (fOp oCatT f g) := fe_op op_catA of_catT ha hb
theorem fe_repT (ha : FE X a f) (hb : FE X b g) : FE X (.BinOp a .Mult b pos) (fOp oRepT f g) := fe_op op_repT of_repT ha hb
/-! ## a star in a display -/
@[simp] def fStar (f : En → Option (Rf × En)) (l : LF) : LF := fun ρ => bnd (f ρ) fun x ρ1 => match x.get ρ1 with
  | some (.list ds) => bnd (l ρ1) fun xs ρ2 => some (ds ++ xs, ρ2)
  | some (.tuple ds) => bnd (l ρ1) fun xs ρ2 => some (ds ++ xs, ρ2)
  | _ => none
theorem DqA.app' {K : PySem.W.Frag} {H : Hp} {ds es : List PyData} {vs ws : List V} (h : DqA K H vs ds) (k : DqA K H ws es) : DqA K H (vs ++ ws) (ds ++ es) := h.app k
theorem fa_star (h1 : FR X e r) (h2 : FA X es l) (hs : starEach (.Starred e p :: es) X.env = (true, eval e X.env) :: starEach es X.env := by rfl) : FA X (.Starred e p :: es) (fStar r l) := by
  obtain ⟨t, p, q⟩ := h1
  obtain ⟨t2, p2, q2⟩ := h2
  refine ⟨_, StX.pa_star p p2 hs, fun ρ d ρ' h A F G H σ Q R k => ?_⟩
  obtain ⟨x, ρ1, h3, h4⟩ := bnd_some h
  refine q ρ x _ h3 A F G H σ _ R fun y G' H' s r z => ?_
  split at h4
  · rename_i ds hd
    obtain ⟨xs, ρ2, h5, h6⟩ := bnd_some h4
    cases h6
    obtain ⟨a, vs, rfl, w1, w2⟩ := (z.dr r hd).sq r.gh
    exact ⟨a, vs, rfl, Or.inr (Or.inl (Or.inl w1)), q2 _ _ _ h5 A F G' H' σ _ r fun ys G2 H2 s2 r2 z2 => k _ G2 H2 (s.trans s2) r2 ((w2.up s2).app z2)⟩
  · rename_i ds hd
    obtain ⟨xs, ρ2, h5, h6⟩ := bnd_some h4
    cases h6
    obtain ⟨a, vs, rfl, w1, w2⟩ := (z.dr r hd).st r.gh
    exact ⟨a, vs, rfl, Or.inl w1, q2 _ _ _ h5 A F G' H' σ _ r fun ys G2 H2 s2 r2 z2 => k _ G2 H2 (s.trans s2) r2 ((w2.up s2).app z2)⟩
  · cases h4
/-! ## slices -/
abbrev OF := En → Option (Option Int × En)
def FO (X : Cx) (e : Option Expr) (f : OF) : Prop := ∃ t, PO X e t ∧ ∀ ρ d ρ', f ρ = some (d, ρ') → ∀ A F G H σ Q, Rel X.K A F G H ρ σ →
  (∀ G' H', Same G G' → Rel X.K A F G' H' ρ' σ → Q d H') → t σ H Q
@[simp] def oNn : OF := fun ρ => some (none, ρ)
@[simp] def oSm (f : EF) : OF := fun ρ => bnd (f ρ) fun x ρ1 => match x with
  | .int i => some (some i, ρ1)
  | _ => none
theorem fo_none : FO X none oNn := by
  refine ⟨_, po_none, fun ρ d ρ' h A F G H σ Q R k => ?_⟩
  cases h
  exact k G H (Same.refl G) R
theorem fo_some (h : FE X e f) : FO X (some e) (oSm f) := by
  obtain ⟨t, p, q⟩ := h
  refine ⟨_, po_some p, fun ρ d ρ' h A F G H σ Q R k => ?_⟩
  obtain ⟨x, ρ1, h3, h4⟩ := bnd_some h
  split at h4
  · cases h4
    refine q ρ _ _ h3 A F G H σ _ R fun y G' H' s r z => ?_
    cases z
    exact ⟨_, rfl, k G' H' s r⟩
  · cases h4
@[simp] def sIxD (n d : Nat) : Option Int → Nat
  | none => d
  | some v => if v < 0 then (v + (n : Int)).toNat else min v.toNat n
@[simp] def cutD (ds : List PyData) (lo hi : Option Int) : List PyData := (ds.drop (sIxD ds.length 0 lo)).take (sIxD ds.length ds.length hi - sIxD ds.length 0 lo)
theorem sIxD_eq (n d : Nat) (o : Option Int) : sIxD n d o = HT.sIx n d o := by
  cases o <;> rfl
theorem DqA.dropN {K : PySem.W.Frag} {H : Hp} : ∀ {ds : List PyData} {vs : List V} (n : Nat), DqA K H vs ds → DqA K H (vs.drop n) (ds.drop n)
  | _, _, 0, h => h
  | [], _, n + 1, h => by
    cases h
    exact .nil
  | d :: r, _, n + 1, h => by
    cases h with | cons q w => exact DqA.dropN n w
theorem DqA.takeN {K : PySem.W.Frag} {H : Hp} : ∀ {ds : List PyData} {vs : List V} (n : Nat), DqA K H vs ds → DqA K H (vs.take n) (ds.take n)
  | _, _, 0, h => .nil
  | [], _, n + 1, h => by
    cases h
    exact .nil
  | d :: r, _, n + 1, h => by
    cases h with | cons q w => exact .cons q (DqA.takeN n w)
theorem DqA.cut {K : PySem.W.Frag} {H : Hp} {ds : List PyData} {vs : List V} (h : DqA K H vs ds) (lo hi : Option Int) : DqA K H (cutV vs lo hi) (cutD ds lo hi) := by
  unfold cutV cutD
  rw [sIxD_eq, sIxD_eq, ← h.len]
  exact (h.dropN _).takeN _
theorem DqA.rev {K : PySem.W.Frag} {H : Hp} : ∀ {ds : List PyData} {vs : List V}, DqA K H vs ds → DqA K H vs.reverse ds.reverse
  | [], _, h => by
    cases h
    exact .nil
  | d :: r, _, h => by
    cases h with | cons q w =>
    rw [List.reverse_cons, List.reverse_cons]
    exact (DqA.rev w).app (.cons q .nil)
@[simp] def fSlL (f : En → Option (Rf × En)) (lo hi : OF) : LF := fun ρ => bnd (f ρ) fun x ρ1 => bnd (lo ρ1) fun i ρ2 => bnd (hi ρ2) fun j ρ3 => match x.get ρ3 with
  | some (.list ds) => if Nat.ble ds.length 16777216 = true then some (cutD ds i j, ρ3) else none
  | _ => none
@[simp] def fSlT (f : En → Option (Rf × En)) (lo hi : OF) : EF := fun ρ => bnd (f ρ) fun x ρ1 => bnd (lo ρ1) fun i ρ2 => bnd (hi ρ2) fun j ρ3 => match x.get ρ3 with
  | some (.tuple ds) => if (Nat.beq (sIxD ds.length 0 i) 0 && Nat.beq (sIxD ds.length ds.length j) ds.length) = true then none else some (.tuple (cutD ds i j), ρ3)
  | _ => none
variable {lo hi : Option Expr} {fl fh : OF}
theorem fl_sl (he : FR X e r) (h1 : FO X lo fl) (h2 : FO X hi fh) : FL X (.Subscript e (.Slice lo hi none p2) pos) (fSlL r fl fh) := by
  obtain ⟨t, p, q⟩ := he
  obtain ⟨t1, p1, q1⟩ := h1
  obtain ⟨t2, p2, q2⟩ := h2
  refine ⟨_, pe_slice sl_list p p1 p2, fun ρ d ρ' h A F G H σ Q R k => ?_⟩
  obtain ⟨x, ρ1, h3, h4⟩ := bnd_some h
  obtain ⟨i, ρ2, h5, h6⟩ := bnd_some h4
  obtain ⟨j, ρ3, h7, h8⟩ := bnd_some h6
  refine q ρ x _ h3 A F G H σ _ R fun y G1 H1 s1 r1 z1 => ?_
  refine q1 _ _ _ h5 A F G1 H1 σ _ r1 fun G2 H2 s2 r2 => ?_
  refine q2 _ _ _ h7 A F G2 H2 σ _ r2 fun G3 H3 s3 r3 => ?_
  split at h8
  · rename_i ds hd
    split at h8
    · rename_i hz
      cases h8
      obtain ⟨a, vs, rfl, w1, w2⟩ := (((z1.up s2).up s3).dr r3 hd).sq r3.gh
      refine ⟨a, vs, rfl, Or.inl (Or.inl w1), fun l hl => ?_⟩
      refine k l _ G3 _ (none_of r3.fh hl) ((s1.trans s2).trans s3) (r3.newF hl) (w2.cut _ _) ?_
      have := cutV_length vs i j
      have hl2 := w2.len
      have := ble_line hz
      omega
    · cases h8
  · cases h8
theorem fe_slT (he : FR X e r) (h1 : FO X lo fl) (h2 : FO X hi fh) : FE X (.Subscript e (.Slice lo hi none p2) pos) (fSlT r fl fh) := by
  obtain ⟨t, p, q⟩ := he
  obtain ⟨t1, p1, q1⟩ := h1
  obtain ⟨t2, p2, q2⟩ := h2
  refine ⟨_, pe_slice sl_tup p p1 p2, fun ρ d ρ' h A F G H σ Q R k => ?_⟩
  obtain ⟨x, ρ1, h3, h4⟩ := bnd_some h
  obtain ⟨i, ρ2, h5, h6⟩ := bnd_some h4
  obtain ⟨j, ρ3, h7, h8⟩ := bnd_some h6
  refine q ρ x _ h3 A F G H σ _ R fun y G1 H1 s1 r1 z1 => ?_
  refine q1 _ _ _ h5 A F G1 H1 σ _ r1 fun G2 H2 s2 r2 => ?_
  refine q2 _ _ _ h7 A F G2 H2 σ _ r2 fun G3 H3 s3 r3 => ?_
  split at h8
  · rename_i ds hd
    split at h8
    · cases h8
    · rename_i hz
      cases h8
      obtain ⟨a, vs, rfl, w1, w2⟩ := (((z1.up s2).up s3).dr r3 hd).st r3.gh
      refine ⟨a, vs, rfl, w1, fun z => hz ?_, fun p hp => ?_⟩
      · rw [sIxD_eq, sIxD_eq, ← w2.len, z.1, z.2, Nat.beq_refl, Nat.beq_refl]
        rfl
      · have g0 := none_of r3.gh hp
        exact k _ _ _ (((s1.trans s2).trans s3).trans (same_new g0)) (r3.new hp) (.tup (Or.inl (Or.inl upd_same)) ((w2.cut _ _).up (same_new g0)))
  · cases h8
@[simp] def fRev (f : En → Option (Rf × En)) : LF := fun ρ => bnd (f ρ) fun x ρ1 => match x.get ρ1 with
  | some (.list ds) => if Nat.ble ds.length 16777216 = true then some (ds.reverse, ρ1) else none
  | _ => none
theorem fl_rev {k1 : Nat} {p1 p3 p4 : Pos} (he : FR X e r) : FL X (.Subscript e (.Slice none none (some (.UnaryOp .USub (.Constant (.int 1) k1 p1) p2)) p3) pos) (fRev r) := by
  obtain ⟨t, p, q⟩ := he
  refine ⟨_, pe_revL p, fun ρ d ρ' h A F G H σ Q R k => ?_⟩
  obtain ⟨x, ρ1, h3, h8⟩ := bnd_some h
  refine q ρ x _ h3 A F G H σ _ R fun y G1 H1 s1 r1 z1 => ?_
  split at h8
  · rename_i ds hd
    split at h8
    · rename_i hz
      cases h8
      obtain ⟨a, vs, rfl, w1, w2⟩ := (z1.dr r1 hd).sq r1.gh
      refine ⟨a, vs, rfl, Or.inl (Or.inl w1), fun l hl => ?_⟩
      exact k l _ G1 _ (none_of r1.fh hl) s1 (r1.newF hl) w2.rev (by rw [List.length_reverse, w2.len]; exact ble_line hz)
    · cases h8
  · cases h8
/-! ## in, not in -/
/-- an operator of two values that are read: the second may be a list that changes later -/
@[simp] def fOpR (o : PyData → PyData → Option PyData) (f g : En → Option (Rf × En)) : EF := fun ρ => bnd (f ρ) fun x ρ1 => bnd (g ρ1) fun y ρ2 => match x.get ρ2, y.get ρ2 with
  | some d, some e => ret ρ2 (o d e)
  | _, _ => none
def OpFR (K : PySem.W.Frag) (r : R2) (o : PyData → PyData → Option PyData) : Prop := ∀ x y d e c, o d e = some c → ∀ A F G H ρ σ Q, Rel K A F G H ρ σ → Dr K G H x d → Dr K G H y e →
  (∀ z G' H', Same G G' → Rel K A F G' H' ρ σ → Dq K G' z c → Q z H') → r x y H Q
theorem twoR {ta tb : TE} {rr : R2} {o : PyData → PyData → Option PyData} (ho : OpFR X.K rr o)
    (ha : ∀ ρ d ρ', r ρ = some (d, ρ') → ∀ A F G H σ Q, Rel X.K A F G H ρ σ → (∀ x G' H', Same G G' → Rel X.K A F G' H' ρ' σ → RfOk X.K G' σ x d → Q x H') → ta σ H Q)
    (hb : ∀ ρ d ρ', r' ρ = some (d, ρ') → ∀ A F G H σ Q, Rel X.K A F G H ρ σ → (∀ x G' H', Same G G' → Rel X.K A F G' H' ρ' σ → RfOk X.K G' σ x d → Q x H') → tb σ H Q) :
    ∀ ρ d ρ', fOpR o r r' ρ = some (d, ρ') → ∀ A F G H σ Q, Rel X.K A F G H ρ σ → (∀ x G' H', Same G G' → Rel X.K A F G' H' ρ' σ → Dq X.K G' x d → Q x H') → tOp rr ta tb σ H Q := by
  intro ρ d ρ' h A F G H σ Q R k
  obtain ⟨x, ρ1, h1, h2⟩ := bnd_some h
  obtain ⟨y, ρ2, h3, h4⟩ := bnd_some h2
  refine ha ρ x ρ1 h1 A F G H σ _ R fun u G1 H1 s1 R1 d1 => ?_
  refine hb ρ1 y _ h3 A F G1 H1 σ _ R1 fun v G2 H2 s2 R2 d2 => ?_
  split at h4
  · rename_i dx dy hx hy
    obtain ⟨h5, rfl⟩ := ret_some h4
    exact ho u v _ _ d h5 A F G2 H2 _ σ Q R2 ((d1.up s2).dr R2 hx) (d2.dr R2 hy) fun z G3 H3 s3 R3 d3 => k z G3 H3 ((s1.trans s2).trans s3) R3 d3
  · cases h4
theorem fe_opR {op : CmpOp} {rr : R2} {o : PyData → PyData → Option PyData} (ho : OpR X (compareOp op) rr) (hf : OpFR X.K rr o) (ha : FR X a r) (hb : FR X b r') (hm : behindInMarks op b = false) : FE X (.Compare a [op] [b] pos) (fOpR o r r') := by
  obtain ⟨ta, pa, qa⟩ := ha
  obtain ⟨tb, pb, qb⟩ := hb
  exact ⟨_, pe_cmpR ho pa pb hm, twoR hf qa qb⟩
theorem ft_opR {op : CmpOp} {rr : R2} {o : PyData → PyData → Option PyData} (ho : OpR X (compareOp op) rr) (hf : OpFR X.K rr o) (ha : FR X a r) (hb : FR X b r') (hm : behindInMarks op b = false) : FT X (.Compare a [op] [b] pos) (fTst (fOpR o r r')) := by
  obtain ⟨ta, pa, qa⟩ := ha
  obtain ⟨tb, pb, qb⟩ := hb
  exact ⟨_, pt_cmpR ho pa pb hm, tst (twoR hf qa qb)⟩
theorem ofr_eq {K : PySem.W.Frag} : OpFR K (rEqD K) oEq := by
  intro x y d e c q A F G H ρ σ Q R hx hy k
  unfold oEq at q
  split at q
  · rename_i hs
    cases q
    have hs' := Bool.and_eq_true_iff.mp hs
    exact ⟨d, e, hx.dp R.gh, hy.dp R.gh, hs'.1, hs'.2, k _ G H (Same.refl G) R (.bl _)⟩
  · cases q
theorem ofr_ne {K : PySem.W.Frag} : OpFR K (rNeD K) oNe := by
  intro x y d e c q A F G H ρ σ Q R hx hy k
  unfold oNe at q
  split at q
  · rename_i hs
    cases q
    have hs' := Bool.and_eq_true_iff.mp hs
    exact ⟨d, e, hx.dp R.gh, hy.dp R.gh, hs'.1, hs'.2, k _ G H (Same.refl G) R (.bl _)⟩
  · cases q
theorem fe_eqR (hu : X.A.units + 64 < cLine) (ha : FR X a r) (hb : FR X b r') : FE X (.Compare a [.Eq] [b] pos) (fOpR oEq r r') := fe_opR (op_eqD hu) ofr_eq ha hb (nobehind _ (by decide) (by decide))
theorem fe_neR (hu : X.A.units + 64 < cLine) (ha : FR X a r) (hb : FR X b r') : FE X (.Compare a [.NotEq] [b] pos) (fOpR oNe r r') := fe_opR (op_neD hu) ofr_ne ha hb (nobehind _ (by decide) (by decide))
theorem ft_eqR (hu : X.A.units + 64 < cLine) (ha : FR X a r) (hb : FR X b r') : FT X (.Compare a [.Eq] [b] pos) (fTst (fOpR oEq r r')) := ft_opR (op_eqD hu) ofr_eq ha hb (nobehind _ (by decide) (by decide))
theorem ft_neR (hu : X.A.units + 64 < cLine) (ha : FR X a r) (hb : FR X b r') : FT X (.Compare a [.NotEq] [b] pos) (fTst (fOpR oNe r r')) := ft_opR (op_neD hu) ofr_ne ha hb (nobehind _ (by decide) (by decide))
end
end Fe
namespace Fe
open PySem PySem.Spec PyProof.Rows L2
/-! ## in, not in -/
def flatD : PyData → Bool
  | .none => true
  | .bool _ => true
  | .int _ => true
  | .str _ => true
  | _ => false
def oIn (d e : PyData) : Option PyData := match e with
  | .list ds => if (SeqAt.shaped d && SeqAt.shaped (.list ds)) = true then some (.bool (ds.any fun z => PyData.eqv z d)) else none
  | .tuple ds => if (flatD d && ds.all flatD) = true then some (.bool (ds.any fun z => PyData.eqv z d)) else none
  | _ => none
def oNotIn (d e : PyData) : Option PyData := match e with
  | .list ds => if (SeqAt.shaped d && SeqAt.shaped (.list ds)) = true then some (.bool (!ds.any fun z => PyData.eqv z d)) else none
  | .tuple ds => if (flatD d && ds.all flatD) = true then some (.bool (!ds.any fun z => PyData.eqv z d)) else none
  | _ => none
section
variable {K : PySem.W.Frag} {G H : Hp}
theorem Dq.flat {x : V} {d : PyData} (h : Dq K H x d) (e : flatD d = true) : flatV x = true := by
  cases h <;> first | rfl | cases e
theorem DqA.flats : ∀ {ds : List PyData} {vs : List V}, DqA K H vs ds → ds.all flatD = true → vs.all flatV = true
  | [], _, h, _ => by
    cases h
    rfl
  | d :: r, _, h, e => by
    cases h with | cons q w =>
    rw [List.all_cons, Bool.and_eq_true] at e ⊢
    exact ⟨q.flat e.1, DqA.flats w e.2⟩
theorem eqv_flat {x y : V} {d e : PyData} (h : Dq K H x d) (k : Dq K H y e) (f : flatD d = true) (g : flatD e = true) : eqV x y = PyData.eqv d e := by
  cases h <;> cases k <;> first | (cases f; done) | (cases g; done) | rfl
theorem inV_flat {x : V} {d : PyData} (h : Dq K H x d) (f : flatD d = true) : ∀ {ds : List PyData} {vs : List V}, DqA K H vs ds → ds.all flatD = true → inV x vs = ds.any fun z => PyData.eqv z d
  | [], _, h', _ => by
    cases h'
    rfl
  | e :: r, _, h', k => by
    cases h' with | cons q w =>
    rw [List.all_cons, Bool.and_eq_true] at k
    show (eqV _ x || inV x _) = (PyData.eqv e d || _)
    rw [eqv_flat q h k.1 f, inV_flat h f w k.2]
end
section
variable {X : Cx} {e a b c : Expr} {pos p p2 : Pos} {f g h : EF} {r r' : En → Option (Rf × En)}
theorem ofr_in {K : PySem.W.Frag} : OpFR K (fun x y H Q => rInD K x y H Q ∨ rIn K false x y H Q) oIn := by
  intro x y d e c q A F G H ρ σ Q R hx hy k
  unfold oIn at q
  split at q
  · split at q
    · rename_i ds hs
      cases q
      have hs' := Bool.and_eq_true_iff.mp hs
      exact Or.inl ⟨d, ds, hx.dp R.gh, hy.dp R.gh, hs'.1, hs'.2, k _ G H (Same.refl G) R (.bl _)⟩
    · cases q
  · split at q
    · rename_i ds hs
      cases q
      have hs' := Bool.and_eq_true_iff.mp hs
      obtain ⟨p, xs, rfl, h1, h2⟩ := hy.st R.gh
      have hx' : Dq K G x d := by
        rcases hx with hx | ⟨_, _, _, _, rfl, _⟩
        · exact hx
        · cases hs'.1
      refine Or.inr ⟨p, xs, rfl, Or.inr h1, hx'.flat hs'.1, h2.flats hs'.2, ?_⟩
      rw [if_neg (by decide), inV_flat hx' hs'.1 h2 hs'.2]
      exact k _ G H (Same.refl G) R (.bl _)
    · cases q
  · cases q
theorem ofr_notIn {K : PySem.W.Frag} : OpFR K (fun x y H Q => rNotInD K x y H Q ∨ rIn K true x y H Q) oNotIn := by
  intro x y d e c q A F G H ρ σ Q R hx hy k
  unfold oNotIn at q
  split at q
  · split at q
    · rename_i ds hs
      cases q
      have hs' := Bool.and_eq_true_iff.mp hs
      exact Or.inl ⟨d, ds, hx.dp R.gh, hy.dp R.gh, hs'.1, hs'.2, k _ G H (Same.refl G) R (.bl _)⟩
    · cases q
  · split at q
    · rename_i ds hs
      cases q
      have hs' := Bool.and_eq_true_iff.mp hs
      obtain ⟨p, xs, rfl, h1, h2⟩ := hy.st R.gh
      have hx' : Dq K G x d := by
        rcases hx with hx | ⟨_, _, _, _, rfl, _⟩
        · exact hx
        · cases hs'.1
      refine Or.inr ⟨p, xs, rfl, Or.inr h1, hx'.flat hs'.1, h2.flats hs'.2, ?_⟩
      rw [if_pos rfl, inV_flat hx' hs'.1 h2 hs'.2]
      exact k _ G H (Same.refl G) R (.bl _)
    · cases q
  · cases q
theorem op_inF (hu : X.A.units + 65 < cLine) : OpR X (compareOp .In) (fun x y H Q => rInD X.K x y H Q ∨ rIn X.K false x y H Q) := (op_inD hu).or op_in_seq
theorem op_notInF (hu : X.A.units + 65 < cLine) : OpR X (compareOp .NotIn) (fun x y H Q => rNotInD X.K x y H Q ∨ rIn X.K true x y H Q) := (op_notInD hu).or op_notIn_seq
theorem fe_in (hu : X.A.units + 65 < cLine) (ha : FR X a r) (hb : FR X b r') (hm : behindInMarks .In b = false := by rfl) : FE X (.Compare a [.In] [b] pos) (fOpR oIn r r') := fe_opR (op_inF hu) ofr_in ha hb hm
theorem ft_in (hu : X.A.units + 65 < cLine) (ha : FR X a r) (hb : FR X b r') (hm : behindInMarks .In b = false := by rfl) : FT X (.Compare a [.In] [b] pos) (fTst (fOpR oIn r r')) := ft_opR (op_inF hu) ofr_in ha hb hm
theorem fe_notIn (hu : X.A.units + 65 < cLine) (ha : FR X a r) (hb : FR X b r') (hm : behindInMarks .NotIn b = false := by rfl) : FE X (.Compare a [.NotIn] [b] pos) (fOpR oNotIn r r') := fe_opR (op_notInF hu) ofr_notIn ha hb hm
theorem ft_notIn (hu : X.A.units + 65 < cLine) (ha : FR X a r) (hb : FR X b r') (hm : behindInMarks .NotIn b = false := by rfl) : FT X (.Compare a [.NotIn] [b] pos) (fTst (fOpR oNotIn r r')) := ft_opR (op_notInF hu) ofr_notIn ha hb hm
/-! ## is True, is False -/
@[simp] def oIsB : PyData → PyData → Option PyData
  | .bool i, .bool j => some (.bool (decide (i = j)))
  | _, _ => none
@[simp] def oNotB : PyData → PyData → Option PyData
  | .bool i, .bool j => some (.bool (!decide (i = j)))
  | _, _ => none
theorem of_isB {K : PySem.W.Frag} : OpF K rIsB oIsB := by
  intro x y d e c q A F G H ρ σ Q R hx hy k
  unfold oIsB at q
  split at q
  · cases q
    cases hx
    cases hy
    exact ⟨_, _, rfl, rfl, k _ G H (Same.refl G) R (.bl _)⟩
  · cases q
theorem of_notB {K : PySem.W.Frag} : OpF K rNotB oNotB := by
  intro x y d e c q A F G H ρ σ Q R hx hy k
  unfold oNotB at q
  split at q
  · cases q
    cases hx
    cases hy
    exact ⟨_, _, rfl, rfl, k _ G H (Same.refl G) R (.bl _)⟩
  · cases q
theorem fe_isB (ha : FE X a f) (hb : FE X b g) : FE X (.Compare a [.Is] [b] pos) (fOp oIsB f g) := fe_cmp op_isBl of_isB ha hb (nobehind _ (by decide) (by decide))
theorem fe_notB (ha : FE X a f) (hb : FE X b g) : FE X (.Compare a [.IsNot] [b] pos) (fOp oNotB f g) := fe_cmp op_notBl of_notB ha hb (nobehind _ (by decide) (by decide))
theorem ft_isB (ha : FE X a f) (hb : FE X b g) : FT X (.Compare a [.Is] [b] pos) (fTst (fOp oIsB f g)) := ft_cmp op_isBl of_isB ha hb (nobehind _ (by decide) (by decide))
theorem ft_notB (ha : FE X a f) (hb : FE X b g) : FT X (.Compare a [.IsNot] [b] pos) (fTst (fOp oNotB f g)) := ft_cmp op_notBl of_notB ha hb (nobehind _ (by decide) (by decide))
/-! ## a < b < c -/
@[simp] def fChain (o o' : PyData → PyData → Option PyData) (f g h : EF) : EF := fun ρ => bnd (f ρ) fun x ρ1 => bnd (g ρ1) fun y ρ2 => match o x y with
  | some (.bool true) => bnd (h ρ2) fun z ρ3 => ret ρ3 (o' y z)
  | some (.bool false) => some (.bool false, ρ2)
  | _ => none
theorem chn {ta tb tc : TE} {r1 r2 : R2} {o o' : PyData → PyData → Option PyData} (ho : OpF X.K r1 o) (ho' : OpF X.K r2 o')
    (ha : ∀ ρ d ρ', f ρ = some (d, ρ') → ∀ A F G H σ Q, Rel X.K A F G H ρ σ → (∀ x G' H', Same G G' → Rel X.K A F G' H' ρ' σ → Dq X.K G' x d → Q x H') → ta σ H Q)
    (hb : ∀ ρ d ρ', g ρ = some (d, ρ') → ∀ A F G H σ Q, Rel X.K A F G H ρ σ → (∀ x G' H', Same G G' → Rel X.K A F G' H' ρ' σ → Dq X.K G' x d → Q x H') → tb σ H Q)
    (hc : ∀ ρ d ρ', h ρ = some (d, ρ') → ∀ A F G H σ Q, Rel X.K A F G H ρ σ → (∀ x G' H', Same G G' → Rel X.K A F G' H' ρ' σ → Dq X.K G' x d → Q x H') → tc σ H Q) :
    ∀ ρ d ρ', fChain o o' f g h ρ = some (d, ρ') → ∀ A F G H σ Q, Rel X.K A F G H ρ σ → (∀ x G' H', Same G G' → Rel X.K A F G' H' ρ' σ → Dq X.K G' x d → Q x H') → tChain r1 r2 ta tb tc σ H Q := by
  intro ρ d ρ' h A F G H σ Q R k
  obtain ⟨x, ρ1, h1, h2⟩ := bnd_some h
  obtain ⟨y, ρ2, h3, h4⟩ := bnd_some h2
  refine ha ρ x ρ1 h1 A F G H σ _ R fun u G1 H1 s1 R1 d1 => ?_
  refine hb ρ1 y _ h3 A F G1 H1 σ _ R1 fun v G2 H2 s2 R2 d2 => ?_
  split at h4
  · rename_i h5
    refine ho u v x y _ h5 A F G2 H2 _ σ _ R2 (d1.up s2) d2 fun z G3 H3 s3 R3 d3 => ?_
    cases d3
    refine ⟨true, rfl, ?_⟩
    rw [if_pos rfl]
    obtain ⟨z, ρ3, h6, h7⟩ := bnd_some h4
    obtain ⟨h8, rfl⟩ := ret_some h7
    refine hc ρ2 z _ h6 A F G3 H3 σ _ R3 fun w G4 H4 s4 R4 d4 => ?_
    exact ho' v w y z d h8 A F G4 H4 _ σ Q R4 ((d2.up s3).up s4) d4 fun z G5 H5 s5 R5 d5 => k z G5 H5 ((((s1.trans s2).trans s3).trans s4).trans s5) R5 d5
  · rename_i h5
    cases h4
    refine ho u v x y _ h5 A F G2 H2 _ σ _ R2 (d1.up s2) d2 fun z G3 H3 s3 R3 d3 => ?_
    cases d3
    refine ⟨false, rfl, ?_⟩
    rw [if_neg (by decide)]
    exact k _ G3 H3 ((s1.trans s2).trans s3) R3 (.bl false)
  · cases h4
theorem fe_chain {op op' : CmpOp} {r1 r2 : R2} {o o' : PyData → PyData → Option PyData} (ho : OpR X (compareOp op) r1) (hf : OpF X.K r1 o) (ho' : OpR X (compareOp op') r2) (hf' : OpF X.K r2 o') (ha : FE X a f) (hb : FE X b g) (hc : FE X c h)
    (hm : lastMarks [op, op'] [b, c] = false := by with_unfolding_all rfl) : FE X (.Compare a [op, op'] [b, c] pos) (fChain o o' f g h) := by
  obtain ⟨ta, pa, qa⟩ := ha
  obtain ⟨tb, pb, qb⟩ := hb
  obtain ⟨tc, pc, qc⟩ := hc
  exact ⟨_, pe_chain ho ho' pa pb pc hm, chn hf hf' qa qb qc⟩
theorem ft_chain {op op' : CmpOp} {r1 r2 : R2} {o o' : PyData → PyData → Option PyData} (ho : OpR X (compareOp op) r1) (hf : OpF X.K r1 o) (ho' : OpR X (compareOp op') r2) (hf' : OpF X.K r2 o') (ha : FE X a f) (hb : FE X b g) (hc : FE X c h)
    (hm : lastMarks [op, op'] [b, c] = false := by with_unfolding_all rfl) : FT X (.Compare a [op, op'] [b, c] pos) (fTst (fChain o o' f g h)) := by
  obtain ⟨ta, pa, qa⟩ := ha
  obtain ⟨tb, pb, qb⟩ := hb
  obtain ⟨tc, pc, qc⟩ := hc
  exact ⟨_, pt_chain ho ho' pa pb pc hm, tst (chn hf hf' qa qb qc)⟩
theorem of_lt {K : PySem.W.Frag} : OpF K (rI0 fun i j => .bl (decide (i < j))) oLt := of_I0 fun i j _ => .bl _
theorem of_le {K : PySem.W.Frag} : OpF K (rI0 fun i j => .bl (decide (i ≤ j))) oLe := of_I0 fun i j _ => .bl _
theorem of_gt {K : PySem.W.Frag} : OpF K (rI0 fun i j => .bl (decide (j < i))) oGt := of_I0 fun i j _ => .bl _
theorem of_ge {K : PySem.W.Frag} : OpF K (rI0 fun i j => .bl (decide (j ≤ i))) oGe := of_I0 fun i j _ => .bl _
end
end Fe
namespace Fe
open PySem PySem.Spec PyProof.Rows L2
/-- the pick with other numbers that keeps mixed -/
def pickC (k1 k2 : Int) (s : Src) (m : Int) : Int × Src :=
  if m < 2 then (0, s) else if 1 < (popA s).1 then ((popA s).1 % m, ⟨(popA s).2, (popA s).1 / m, s.mixed, s.turn⟩) else (turnA s k1 k2 / 16 % m, ⟨(popA s).2, (popA s).1, s.mixed, s.turn + 1⟩)
theorem pickC_rng (k1 k2 : Int) (s : Src) {m : Int} (h : 0 < m) : 0 ≤ (pickC k1 k2 s m).1 ∧ (pickC k1 k2 s m).1 < m := by
  unfold pickC
  split
  · exact ⟨Int.le_refl 0, h⟩
  · split <;> exact ⟨Int.emod_nonneg _ (by omega), Int.emod_lt_of_pos _ h⟩
theorem int_at {ns : List Int} {i : Nat} {y : V} (h : (ns.map V.int)[i]? = some y) : ∃ z, y = V.int z := by
  rw [List.getElem?_map] at h
  cases e : ns[i]? with
  | none =>
    rw [e] at h
    cases h
  | some z =>
    rw [e] at h
    exact ⟨z, (Option.some.inj h).symm⟩
/-! ## a, b = x, y with lists of their own -/
section
variable {X : Cx} {a b : Expr} {f g : EF} {l m : LF}
@[simp] def sParO1 (i j : Nat) (l : LF) (g : EF) : SF := fun ρ => bnd (l ρ) fun x ρ1 => bnd (g ρ1) fun y ρ2 => some (.nx ((ρ2.set i (.own x)).set j (.v y)))
@[simp] def sParO2 (i j : Nat) (f : EF) (m : LF) : SF := fun ρ => bnd (f ρ) fun x ρ1 => bnd (m ρ1) fun y ρ2 => some (.nx ((ρ2.set i (.v x)).set j (.own y)))
@[simp] def sParO3 (i j : Nat) (l m : LF) : SF := fun ρ => bnd (l ρ) fun x ρ1 => bnd (m ρ1) fun y ρ2 => some (.nx ((ρ2.set j (.own y)).set i (.own x)))
theorem fs_parO1 {st : Stmt} {i j : Nat} (mk : ∀ t u, PE X a t → PE X b u → PS X st (tPar i j (tCons t (tCons u tNil)))) (ha : FL X a l) (hb : FE X b g) : FS X st (sParO1 i j l g) := by
  obtain ⟨ta, pa, qa⟩ := ha
  obtain ⟨tb, pb, qb⟩ := hb
  refine ⟨_, mk ta tb pa pb, fun ρ o h A F G H σ D R k => ?_⟩
  obtain ⟨d, ρ1, h3, h4⟩ := bnd_some h
  obtain ⟨d2, ρ2, h5, h6⟩ := bnd_some h4
  cases h6
  refine qa ρ d ρ1 h3 A F G H σ _ R fun u xs G1 H1 fu s1 r1 z1 _ => qb ρ1 d2 ρ2 h5 A _ G1 H1 σ _ r1 fun v G2 H2 s2 r2 z2 => ⟨_, v, rfl, ?_⟩
  exact k _ G2 H2 (s1.trans s2) ((r2.putOwn fu i (z1.up s2)).putV j z2)
theorem fs_parO2 {st : Stmt} {i j : Nat} (mk : ∀ t u, PE X a t → PE X b u → PS X st (tPar i j (tCons t (tCons u tNil)))) (ha : FE X a f) (hb : FL X b m) : FS X st (sParO2 i j f m) := by
  obtain ⟨ta, pa, qa⟩ := ha
  obtain ⟨tb, pb, qb⟩ := hb
  refine ⟨_, mk ta tb pa pb, fun ρ o h A F G H σ D R k => ?_⟩
  obtain ⟨d, ρ1, h3, h4⟩ := bnd_some h
  obtain ⟨d2, ρ2, h5, h6⟩ := bnd_some h4
  cases h6
  refine qa ρ d ρ1 h3 A F G H σ _ R fun u G1 H1 s1 r1 z1 => qb ρ1 d2 ρ2 h5 A F G1 H1 σ _ r1 fun v xs G2 H2 fv s2 r2 z2 _ => ⟨u, _, rfl, ?_⟩
  exact k _ G2 H2 (s1.trans s2) ((r2.putV i (z1.up s2)).putOwn fv j z2)
theorem fs_parO3 {st : Stmt} {i j : Nat} (mk : ∀ t u, PE X a t → PE X b u → PS X st (tPar i j (tCons t (tCons u tNil)))) (ha : FL X a l) (hb : FL X b m) (hij : i ≠ j := by decide) : FS X st (sParO3 i j l m) := by
  obtain ⟨ta, pa, qa⟩ := ha
  obtain ⟨tb, pb, qb⟩ := hb
  refine ⟨_, mk ta tb pa pb, fun ρ o h A F G H σ D R k => ?_⟩
  obtain ⟨d, ρ1, h3, h4⟩ := bnd_some h
  obtain ⟨d2, ρ2, h5, h6⟩ := bnd_some h4
  cases h6
  refine qa ρ d ρ1 h3 A F G H σ _ R fun u xs G1 H1 fu s1 r1 z1 _ => qb ρ1 d2 ρ2 h5 A _ G1 H1 σ _ r1 fun v ys G2 H2 fv s2 r2 z2 _ => ⟨_, _, rfl, ?_⟩
  have z := (r2.putOwn fv j z2).putOwn fu i (z1.up s2)
  rw [List.set_comm _ _ (Ne.symm hij), List.set_comm _ _ (Ne.symm hij)] at z
  rw [List.set_comm _ _ (Ne.symm hij)] at k
  exact k _ G2 H2 (s1.trans s2) z
end
theorem _root_.L2.Room.units65 {k : Nat} {A : Around} (r : Room k A) : A.units + 65 < cLine := by
  have := r.un
  omega
theorem lk_rel {env : Env} {x : Str} : ∀ {names : List (Str × NameKind)} {k : NameKind}, names.lookup x = some k → k = .cell ∨ k = .free →
    (names.map fun (n, k) => if (k == NameKind.free && env.scope.kind == .function && env.kindOf n == some .cell) then (n, NameKind.cell) else (n, k)).lookup x = some .cell ∨
    (names.map fun (n, k) => if (k == NameKind.free && env.scope.kind == .function && env.kindOf n == some .cell) then (n, NameKind.cell) else (n, k)).lookup x = some .free
  | [], _, h, _ => by cases h
  | (n, j) :: r, k, h, hk => by
    by_cases hx : x = n
    · subst hx
      rw [List.lookup_cons_self] at h
      cases h
      rw [List.map_cons]
      dsimp only
      split
      · exact Or.inl List.lookup_cons_self
      · rcases hk with rfl | rfl
        · exact Or.inl List.lookup_cons_self
        · exact Or.inr List.lookup_cons_self
    · have hb : (x == n) = false := by simpa using hx
      rw [List.lookup_cons, hb] at h
      have ih := lk_rel (env := env) h hk
      rw [List.map_cons]
      dsimp only
      split <;> (rw [List.lookup_cons, hb]; exact ih)
theorem blkOk_rel {N : List Str} {sc scope : Scope} {env : Env} {own : List (Str × Nat)} (h : BlkOk N sc scope own) : BlkOk N (relabel sc env) scope own :=
  ⟨h.kind, h.uniq, h.ix, fun y hy e => by
    rcases h.free y hy e with z | z
    · exact lk_rel z (Or.inl rfl)
    · exact lk_rel z (Or.inr rfl), h.own⟩
/-! ## (a, b) = (x, y), the names cells -/
section
variable {X : Cx} {a b : Expr} {f g : EF} {l m : LF}
abbrev gTwo (K : PySem.W.Frag) (i j : Nat) : TG := gTup K 2 (gCons (gName i) (gCons (gName j) gNil))
theorem two_tg {K : PySem.W.Frag} {i j : Nat} {u v : V} {σ : L2.St} {H : Hp} {Q : L2.St → Hp → Prop} (h : ∀ p, H p = none → Q ((σ.set i (some u)).set j (some v)) (upd H p (.tup [u, v]))) :
    ([u, v].length ≤ sizeLine ∧ ∀ p, H p = none → gTwo K i j (.ref p) σ (upd H p (.tup [u, v])) Q) :=
  ⟨by show 2 ≤ sizeLine; decide, fun p hp => ⟨p, _, rfl, Or.inl (Or.inl upd_same), rfl, _, _, rfl, _, _, rfl, rfl, h p hp⟩⟩
theorem fs_tgO1 {st : Stmt} {i j : Nat} (mk : ∀ t u, PE X a t → PE X b u → PS X st (tAsg (tTup (tCons t (tCons u tNil))) (gTwo X.K i j))) (ha : FL X a l) (hb : FE X b g) : FS X st (sParO1 i j l g) := by
  obtain ⟨ta, pa, qa⟩ := ha
  obtain ⟨tb, pb, qb⟩ := hb
  refine ⟨_, mk ta tb pa pb, fun ρ o h A F G H σ D R k => ?_⟩
  obtain ⟨d, ρ1, h3, h4⟩ := bnd_some h
  obtain ⟨d2, ρ2, h5, h6⟩ := bnd_some h4
  cases h6
  refine qa ρ d ρ1 h3 A F G H σ _ R fun u xs G1 H1 fu s1 r1 z1 _ => qb ρ1 d2 ρ2 h5 A _ G1 H1 σ _ r1 fun v G2 H2 s2 r2 z2 => two_tg fun p hp => ?_
  have r3 := (r2.newF (o := .tup [.ref u, v]) hp).dropF (none_of r2.fh hp)
  exact k _ G2 _ (s1.trans s2) ((r3.putOwn fu i (z1.up s2)).putV j z2)
theorem fs_tgO2 {st : Stmt} {i j : Nat} (mk : ∀ t u, PE X a t → PE X b u → PS X st (tAsg (tTup (tCons t (tCons u tNil))) (gTwo X.K i j))) (ha : FE X a f) (hb : FL X b m) : FS X st (sParO2 i j f m) := by
  obtain ⟨ta, pa, qa⟩ := ha
  obtain ⟨tb, pb, qb⟩ := hb
  refine ⟨_, mk ta tb pa pb, fun ρ o h A F G H σ D R k => ?_⟩
  obtain ⟨d, ρ1, h3, h4⟩ := bnd_some h
  obtain ⟨d2, ρ2, h5, h6⟩ := bnd_some h4
  cases h6
  refine qa ρ d ρ1 h3 A F G H σ _ R fun u G1 H1 s1 r1 z1 => qb ρ1 d2 ρ2 h5 A F G1 H1 σ _ r1 fun v xs G2 H2 fv s2 r2 z2 _ => two_tg fun p hp => ?_
  have f0 := none_of r2.fh hp
  have r3 := (r2.newF (o := .tup [u, .ref v]) hp).dropF f0
  exact k _ G2 _ (s1.trans s2) ((r3.putV i (z1.up s2)).putOwn fv j z2)
theorem fs_tgO3 {st : Stmt} {i j : Nat} (mk : ∀ t u, PE X a t → PE X b u → PS X st (tAsg (tTup (tCons t (tCons u tNil))) (gTwo X.K i j))) (ha : FL X a l) (hb : FL X b m) (hij : i ≠ j := by decide) : FS X st (sParO3 i j l m) := by
  obtain ⟨ta, pa, qa⟩ := ha
  obtain ⟨tb, pb, qb⟩ := hb
  refine ⟨_, mk ta tb pa pb, fun ρ o h A F G H σ D R k => ?_⟩
  obtain ⟨d, ρ1, h3, h4⟩ := bnd_some h
  obtain ⟨d2, ρ2, h5, h6⟩ := bnd_some h4
  cases h6
  refine qa ρ d ρ1 h3 A F G H σ _ R fun u xs G1 H1 fu s1 r1 z1 _ => qb ρ1 d2 ρ2 h5 A _ G1 H1 σ _ r1 fun v ys G2 H2 fv s2 r2 z2 _ => two_tg fun p hp => ?_
  have r3 := (r2.newF (o := .tup [.ref u, .ref v]) hp).dropF (none_of r2.fh hp)
  have z := (r3.putOwn fv j z2).putOwn fu i (z1.up s2)
  rw [List.set_comm _ _ (Ne.symm hij), List.set_comm _ _ (Ne.symm hij)] at z
  rw [List.set_comm _ _ (Ne.symm hij)] at k
  exact k _ G2 _ (s1.trans s2) z
end
end Fe
namespace Fe
open PySem
/-! ## small numbers -/
abbrev Sm (i : Int) : Prop := i.natAbs.log2 < 1000
def smB (i : Int) : Bool := Nat.blt i.natAbs.log2 1000
theorem smB_ok {i : Int} (h : smB i = true) : Sm i := Nat.le_of_ble_eq_true h
theorem Sm_mul {i j : Int} (h : Sm i) (k : Sm j) : mulOk i j = true := mulOk_of (a := 1000) (b := 1000) (Nat.le_of_lt h) (Nat.le_of_lt k) (by decide)
theorem Sm_of {i : Int} (h1 : -(2 ^ 200) < i) (h2 : i < 2 ^ 200) : Sm i := by
  have h : i.natAbs < 2 ^ 200 := by omega
  exact Nat.lt_trans (log2_lt (by decide) h) (by decide)
theorem iat_sm {row : List Int} (h : ∀ x ∈ row, Sm x) (i : Nat) : Sm (iat row i) := by
  cases e : row[i]? with
  | none =>
    unfold iat
    rw [List.getD_eq_getElem?_getD, e]
    decide
  | some v =>
    rw [iat_some e]
    exact h v (List.mem_of_getElem? e)
theorem iat_smB {row : List Int} (h : row.all smB = true) (i : Nat) : Sm (iat row i) := iat_sm (fun x hx => smB_ok (List.all_eq_true.mp h x hx)) i
theorem repOk_int {i : Int} (h : i.natAbs.log2 < 1900) : repOk (.int i) = true := by
  have h1 : plainD (.int i) = true := Nat.ble_eq_true_of_le (by omega)
  have h2 : Nat.ble (shB (.int i)) 16777216 = true := Nat.ble_eq_true_of_le (by show i.natAbs.log2 + 3 ≤ _; omega)
  unfold repOk
  rw [h1, h2]
  rfl
theorem repI {i : Int} (h : Sm i) : (sm (.int i) (.int i) && repOk (.int i)) = true := by
  rw [sm_rfl _ (repOk_ok (repOk_int (by omega))).1, repOk_int (by omega)]
  rfl
theorem repT {d : PyData} (h : repOk d = true) : (sm d d && repOk d) = true := by
  rw [sm_rfl _ (repOk_ok h).1, h]
  rfl
/-! ## ranges of ints -/
def irg (lo : Int) (n : Nat) : List Int := (List.range n).map fun k => lo + (k : Nat)
def irgC (lo c : Int) (n : Nat) : List Int := (List.range n).map fun k => lo + (k : Nat) * c
theorem rngL_eq (lo : Int) (n : Nat) : rngL lo n = (irg lo n).map .int := by
  unfold rngL irg
  rw [List.map_map]
  rfl
theorem rngC_eq (lo c : Int) (n : Nat) : rngC lo c n = (irgC lo c n).map .int := by
  unfold rngC irgC
  rw [List.map_map]
  rfl
theorem mem_irg {lo i : Int} {n : Nat} (h : i ∈ irg lo n) : ∃ k : Nat, k < n ∧ i = lo + (k : Nat) := by
  unfold irg at h
  obtain ⟨k, hk, rfl⟩ := List.mem_map.mp h
  exact ⟨k, List.mem_range.mp hk, rfl⟩
theorem mem_irgC {lo c i : Int} {n : Nat} (h : i ∈ irgC lo c n) : ∃ k : Nat, k < n ∧ i = lo + (k : Nat) * c := by
  unfold irgC at h
  obtain ⟨k, hk, rfl⟩ := List.mem_map.mp h
  exact ⟨k, List.mem_range.mp hk, rfl⟩
theorem irg_len {lo : Int} {n : Nat} : (irg lo n).length = n := by simp [irg]
theorem ble_of {a b : Nat} (h : a ≤ b) : Nat.ble a b = true := Nat.ble_eq_true_of_le h
theorem rngL_ble {lo : Int} {n : Nat} (h : n ≤ 16777216) : Nat.ble (rngL lo n).length 16777216 = true := by
  rw [rngL_len]
  exact ble_of h
theorem rngC_ble {lo c : Int} {n : Nat} (h : n ≤ 16777216) : Nat.ble (rngC lo c n).length 16777216 = true := by
  rw [show (rngC lo c n).length = n by simp [rngC]]
  exact ble_of h
/-! ## comprehensions over ints -/
theorem wipe_wipe : ∀ (vs : List Nat) (ρ : En), wipeE (wipeE ρ vs) vs = wipeE ρ vs
  | [], ρ => rfl
  | v :: vs, ρ => by
    have key : ∀ (us : List Nat) (ρ : En), wipeE (ρ.set v .un) us = (wipeE ρ us).set v .un := by
      intro us
      induction us with
      | nil => intro ρ; rfl
      | cons u us ih =>
        intro ρ
        show (wipeE (ρ.set v .un) us).set u .un = ((wipeE ρ us).set u .un).set v .un
        rw [ih]
        by_cases h : u = v
        · rw [h]
        · exact List.set_comm _ _ (fun e => h e.symm)
    show (wipeE ((wipeE ρ vs).set v .un) vs).set v .un = (wipeE ρ vs).set v .un
    rw [key, wipe_wipe vs ρ, List.set_set, ]
theorem cl_gen {α : Type} (en : α → PyData) {vs : List Nat} {g : PyData → En → Option En} {c : BF} {e : EF} {ρ : En} (p : α → Bool) (f : α → PyData) : ∀ (ns : List α), (∀ n ∈ ns, ∃ ρ1 ρ2, g (en n) (wipeE ρ vs) = some ρ1 ∧ c ρ1 = some (p n, ρ2) ∧ (p n = true → ∃ ρ3, e ρ2 = some (f n, ρ3) ∧ wipeE ρ3 vs = wipeE ρ vs) ∧ (p n = false → wipeE ρ2 vs = wipeE ρ vs)) → ∀ ρ0, wipeE ρ0 vs = wipeE ρ vs →
    cl vs g c e (ns.map en) ρ0 = some ((ns.filter p).map f, wipeE ρ vs)
  | [], _, ρ0, h0 => by
    show some ([], wipeE ρ0 vs) = _
    rw [h0]
    rfl
  | n :: r, h, ρ0, h0 => by
    obtain ⟨ρ1, ρ2, h1, h2, h3, h4⟩ := h n List.mem_cons_self
    have ih := cl_gen en (vs := vs) (g := g) (c := c) (e := e) (ρ := ρ) p f r fun d hd => h d (List.mem_cons_of_mem _ hd)
    show (match g (en n) (wipeE ρ0 vs) with | none => none | some ρ1 => bnd (c ρ1) fun k ρ2 => if k = true then bnd (e ρ2) fun y ρ3 => bnd (cl vs g c e (r.map en) ρ3) fun ys ρ4 => some (y :: ys, ρ4) else cl vs g c e (r.map en) ρ2) = _
    rw [h0, h1]
    cases hp : p n with
    | true =>
      obtain ⟨ρ3, h5, h6⟩ := h3 hp
      simp only [bnd, h2, hp, h5, ih ρ3 h6, if_true, List.filter_cons, List.map_cons]
    | false =>
      simp only [bnd, h2, hp, ih ρ2 (h4 hp), Bool.false_eq_true, if_false, List.filter_cons]
/-- ints to ints, with a test -/
theorem cl_fI {vs : List Nat} {g : PyData → En → Option En} {c : BF} {e : EF} {ρ : En} (p : Int → Bool) (f : Int → Int) {ns : List Int} (h : ∀ n ∈ ns, ∃ ρ1, g (.int n) (wipeE ρ vs) = some ρ1 ∧ c ρ1 = some (p n, ρ1) ∧ (p n = true → e ρ1 = some (.int (f n), ρ1)) ∧ wipeE ρ1 vs = wipeE ρ vs) :
    cl vs g c e (ns.map .int) ρ = some (((ns.filter p).map f).map .int, wipeE ρ vs) := by
  rw [cl_gen .int (ρ := ρ) p (fun n => .int (f n)) ns (fun n hn => ?_) ρ rfl, List.map_map]
  · rfl
  · obtain ⟨ρ1, h1, h2, h3, h4⟩ := h n hn
    exact ⟨ρ1, ρ1, h1, h2, fun hp => ⟨ρ1, h3 hp, h4⟩, fun _ => h4⟩
/-- ints to ints, no test -/
theorem cl_mI {vs : List Nat} {g : PyData → En → Option En} {e : EF} {ρ : En} (f : Int → Int) {ns : List Int} (h : ∀ n ∈ ns, ∃ ρ1 ρ2, g (.int n) (wipeE ρ vs) = some ρ1 ∧ e ρ1 = some (.int (f n), ρ2) ∧ wipeE ρ2 vs = wipeE ρ vs) :
    cl vs g fYes e (ns.map .int) ρ = some ((ns.map f).map .int, wipeE ρ vs) := by
  rw [cl_gen .int (ρ := ρ) (fun _ => true) (fun n => .int (f n)) ns (fun n hn => ?_) ρ rfl, List.filter_eq_self.mpr (fun _ _ => rfl), List.map_map]
  · rfl
  · obtain ⟨ρ1, ρ2, h1, h2, h3⟩ := h n hn
    exact ⟨ρ1, ρ1, h1, rfl, fun _ => ⟨ρ2, h2, h3⟩, fun z => by cases z⟩
theorem map_sq_eq {α β : Type} {f g : α → β} {l : List α} (h : ∀ x ∈ l, f x = g x) : l.map f = l.map g := List.map_congr_left h
/-! ## a function's value against a table -/
def isI (o : Option PyData) (v : Int) : Bool := match o with
  | some (.int i) => decide (i = v)
  | _ => false
theorem isI_ok {o : Option PyData} {v : Int} (h : isI o v = true) : o = some (.int v) := by
  unfold isI at h
  split at h
  · rw [of_decide_eq_true h]
  · cases h
theorem all_range {n : Nat} {p : Nat → Bool} (h : (List.range n).all p = true) {i : Nat} (hi : i < n) : p i = true := List.all_eq_true.mp h i (List.mem_range.mpr hi)
def intsB : List PyData → List Int → Bool
  | [], [] => true
  | .int i :: r, v :: l => decide (i = v) && intsB r l
  | _, _ => false
theorem intsB_ok : ∀ {ds : List PyData} {l : List Int}, intsB ds l = true → ds = l.map .int
  | [], [], _ => rfl
  | .int i :: r, v :: l, h => by
    have h' := Bool.and_eq_true_iff.mp h
    rw [of_decide_eq_true h'.1, intsB_ok h'.2]
    rfl
  | [], _ :: _, h => by cases h
  | .none :: _, _, h => by cases h
  | .bool _ :: _, _, h => by cases h
  | .str _ :: _, _, h => by cases h
  | .list _ :: _, _, h => by cases h
  | .tuple _ :: _, _, h => by cases h
  | .dict _ :: _, _, h => by cases h
  | .int _ :: _, [], h => by cases h
def isTI (o : Option PyData) (l : List Int) : Bool := match o with
  | some (.tuple ds) => intsB ds l
  | _ => false
theorem isTI_ok {o : Option PyData} {l : List Int} (h : isTI o l = true) : o = some (.tuple (l.map .int)) := by
  unfold isTI at h
  split at h
  · rw [intsB_ok h]
  · cases h
def isLI (o : Option PyData) (l : List Int) : Bool := match o with
  | some (.list ds) => intsB ds l
  | _ => false
theorem isLI_ok {o : Option PyData} {l : List Int} (h : isLI o l = true) : o = some (.list (l.map .int)) := by
  unfold isLI at h
  split at h
  · rw [intsB_ok h]
  · cases h
theorem pick_at {p : Src → Int → Int × Src} (hr : ∀ (s : Src) {m : Int}, 0 < m → 0 ≤ (p s m).1 ∧ (p s m).1 < m) (s : Src) {m : Int} (h : 0 < m) (h2 : m.natAbs.log2 < 9000) : ∃ (k : Nat) (s' : Src), (k : Int) < m ∧ fPick p s [.int m] = some (.int (k : Nat), s') := by
  obtain ⟨h3, h4⟩ := hr s h
  refine ⟨(p s m).1.toNat, (p s m).2, by omega, ?_⟩
  show (if Nat.blt m.natAbs.log2 9000 = true then some (PyData.int (p s m).1, (p s m).2) else none) = _
  rw [if_pos (show Nat.blt m.natAbs.log2 9000 = true from Nat.ble_eq_true_of_le h2), Int.toNat_of_nonneg h3]
end Fe
namespace Fe
open PySem
theorem eqvAll_ints : ∀ l m : List Int, PyData.eqvAll (l.map .int) (m.map .int) = decide (l = m)
  | [], [] => rfl
  | [], _ :: _ => rfl
  | _ :: _, [] => rfl
  | a :: l, b :: m => by
    rw [List.map_cons, List.map_cons, PyData.eqvAll, eqvAll_ints l m]
    show (a == b && decide (l = m)) = _
    by_cases h : a = b
    · by_cases h2 : l = m
      · simp [h, h2]
      · simp [h, h2]
    · simp [h]
theorem depthAll_ints : ∀ l : List Int, PyData.depthAll (l.map .int) = 0
  | [] => rfl
  | a :: l => by
    rw [List.map_cons, PyData.depthAll, depthAll_ints l]
    rfl
theorem canLayAll_ints : ∀ l : List Int, PyData.canLayAll0 (l.map .int) = true
  | [] => rfl
  | a :: l => by
    rw [List.map_cons, PyData.canLayAll0, canLayAll_ints l]
    rfl
theorem shaped_lI (l : List Int) : SeqAt.shaped (.list (l.map .int)) = true := by
  unfold SeqAt.shaped
  rw [PyData.canLay0, canLayAll_ints, PyData.depth, depthAll_ints]
  rfl
theorem shaped_tI (l : List Int) : SeqAt.shaped (.tuple (l.map .int)) = true := by
  unfold SeqAt.shaped
  rw [PyData.canLay0, canLayAll_ints, PyData.depth, depthAll_ints]
  rfl
theorem oNe_lI (l m : List Int) : oNe (.list (l.map .int)) (.list (m.map .int)) = some (.bool (!decide (l = m))) := by
  unfold oNe
  rw [shaped_lI, shaped_lI]
  show some (PyData.bool (!PyData.eqv (.list (l.map .int)) (.list (m.map .int)))) = _
  rw [PyData.eqv, eqvAll_ints]
theorem oEq_lI (l m : List Int) : oEq (.list (l.map .int)) (.list (m.map .int)) = some (.bool (decide (l = m))) := by
  unfold oEq
  rw [shaped_lI, shaped_lI]
  show some (PyData.bool (PyData.eqv (.list (l.map .int)) (.list (m.map .int)))) = _
  rw [PyData.eqv, eqvAll_ints]
theorem oNe_tI (l m : List Int) : oNe (.tuple (l.map .int)) (.tuple (m.map .int)) = some (.bool (!decide (l = m))) := by
  unfold oNe
  rw [shaped_tI, shaped_tI]
  show some (PyData.bool (!PyData.eqv (.tuple (l.map .int)) (.tuple (m.map .int)))) = _
  rw [PyData.eqv, eqvAll_ints]
theorem oEq_tI (l m : List Int) : oEq (.tuple (l.map .int)) (.tuple (m.map .int)) = some (.bool (decide (l = m))) := by
  unfold oEq
  rw [shaped_tI, shaped_tI]
  show some (PyData.bool (PyData.eqv (.tuple (l.map .int)) (.tuple (m.map .int)))) = _
  rw [PyData.eqv, eqvAll_ints]
/-- a turn, its first statement apart -/
theorem lp1_seq {g : PyData → En → Option En} {b a r : SF} {d : PyData} {ρ ρ1 ρ2 ρ3 : En} (hb : b = sSeq a r) (h1 : g d ρ = some ρ1) (h2 : a ρ1 = some (.nx ρ2)) (h3 : r ρ2 = some (.nx ρ3)) : lp1 g b d ρ = some ρ3 := by
  subst hb
  have h4 : sSeq a r ρ1 = some (.nx ρ3) := by
    unfold sSeq sThen
    rw [h2]
    exact h3
  unfold lp1
  rw [h1]
  dsimp only
  rw [h4]
theorem sSeq_nx {a r : SF} {ρ ρ2 : En} {o : Option Out} (h2 : a ρ = some (.nx ρ2)) (h3 : r ρ2 = o) : sSeq a r ρ = o := by
  unfold sSeq sThen
  rw [h2]
  exact h3
end Fe
namespace Fe
open PySem PySem.Spec PyProof.Rows L2
/-! ## what is never reached: no rule is asked -/
section
variable {X : Cx} {e : Expr} {es : List Expr} {st : Stmt}
theorem fe_no : FE X e (fun _ => none) := ⟨fun _ _ _ => False, ⟨fun _ _ _ _ _ _ h => h.elim⟩, fun _ _ _ h => nomatch h⟩
theorem ft_no : FT X e (fun _ => none) := ⟨fun _ _ _ => False, ⟨fun _ _ _ _ _ _ h => h.elim⟩, fun _ _ _ h => nomatch h⟩
theorem fs_nope : FS X st (fun _ => none) := ⟨fun _ _ _ => False, ⟨fun _ _ _ _ _ _ h => h.elim⟩, fun _ _ h => nomatch h⟩
end
/-! ## constants of the module -/
mutual
def ckD (K : PySem.W.Frag) : PyData → Value → Bool
  | .none, .none => true
  | .bool b, .bool c => b == c
  | .int i, .int j _ => decide (i = j)
  | .tuple ds, .ref a => match K.lookup a with
    | some ⟨.type "tuple", _, .seq its _, _⟩ => Nat.ble its.size 16777216 && ckA K ds its.toList
    | _ => false
  | _, _ => false
def ckA (K : PySem.W.Frag) : List PyData → List Value → Bool
  | [], [] => true
  | d :: r, v :: s => ckD K d v && ckA K r s
  | _, _ => false
end
mutual
theorem ckD_ok {K : PySem.W.Frag} {H : Hp} : ∀ (d : PyData) (v : Value), ckD K d v = true → ∃ x, RelV x v ∧ Dq K H x d
  | .none, v, h => by
    cases v <;> first | (exact ⟨.non, rfl, .non⟩) | (simp [ckD] at h)
  | .bool b, v, h => by
    cases v <;> first | (simp [ckD] at h; subst h; exact ⟨.bl _, rfl, .bl _⟩) | (simp [ckD] at h)
  | .int i, v, h => by
    cases v <;> first | (simp [ckD] at h; subst h; exact ⟨.int _, ⟨_, rfl⟩, .int _⟩) | (simp [ckD] at h)
  | .str x, v, h => by simp [ckD] at h
  | .list x, v, h => by simp [ckD] at h
  | .dict x, v, h => by simp [ckD] at h
  | .tuple ds, v, h => by
    cases v with
    | ref a =>
      rw [ckD] at h
      split at h
      · rename_i od its n sl e
        obtain ⟨h1, h2⟩ := Bool.and_eq_true_iff.mp h
        obtain ⟨xs, r, q⟩ := ckA_ok (H := H) ds its.toList h2
        exact ⟨.ref a, rfl, .tup (Or.inr ⟨_, its, n, e, rfl, rfl, ble_line h1, r⟩) q⟩
      · cases h
    | _ => simp [ckD] at h
theorem ckA_ok {K : PySem.W.Frag} {H : Hp} : ∀ (ds : List PyData) (vs : List Value), ckA K ds vs = true → ∃ xs, Vals xs vs ∧ DqA K H xs ds
  | [], [], _ => ⟨[], .nil, .nil⟩
  | d :: r, v :: s, h => by
    rw [ckA] at h
    obtain ⟨h1, h2⟩ := Bool.and_eq_true_iff.mp h
    obtain ⟨x, r1, q1⟩ := ckD_ok (H := H) d v h1
    obtain ⟨xs, r2, q2⟩ := ckA_ok (H := H) r s h2
    exact ⟨x :: xs, .cons r1 r2, .cons q1 q2⟩
  | [], _ :: _, h => by simp [ckA] at h
  | _ :: _, [], h => by simp [ckA] at h
end
section
variable {X : Cx} {x : Str} {pos : Pos} {d : PyData}
theorem fe_con (hg : Gl X x) (h : ∃ u, X.mg x = some u ∧ ckD X.K d u = true) (hd : (x == ("__debug__" : Str)) = false := by decide) : FE X (.Name x pos) (fC d) := by
  obtain ⟨u, h1, h2⟩ := h
  obtain ⟨v, h3, h4⟩ := ckD_ok (H := fun _ => none) d u h2
  exact fe_c (pe_glob hg h1 h3 hd) fun H => h4.up fun _ _ z => by cases z
end
/-! ## sorting ints -/
def insI (a : Int) : List Int → List Int
  | [] => [a]
  | b :: r => if a ≤ b then a :: b :: r else b :: insI a r
def isortI : List Int → List Int
  | [] => []
  | a :: r => insI a (isortI r)
theorem insI_perm (a : Int) : ∀ l : List Int, (insI a l).Perm (a :: l)
  | [] => List.Perm.refl _
  | b :: r => by
    unfold insI
    split
    · exact List.Perm.refl _
    · exact ((insI_perm a r).cons b).trans (List.Perm.swap a b r)
theorem insI_sorted (a : Int) : ∀ {l : List Int}, l.Pairwise (· ≤ ·) → (insI a l).Pairwise (· ≤ ·)
  | [], _ => List.pairwise_singleton _ _
  | b :: r, h => by
    obtain ⟨h1, h2⟩ := List.pairwise_cons.mp h
    unfold insI
    split
    · rename_i hab
      refine List.pairwise_cons.mpr ⟨fun c hc => ?_, h⟩
      rcases List.mem_cons.mp hc with rfl | hc
      · exact hab
      · exact Int.le_trans hab (h1 c hc)
    · rename_i hab
      refine List.pairwise_cons.mpr ⟨fun c hc => ?_, insI_sorted a h2⟩
      rcases List.mem_cons.mp ((insI_perm a r).mem_iff.mp hc) with rfl | hc
      · omega
      · exact h1 c hc
theorem isortI_perm : ∀ l : List Int, (isortI l).Perm l
  | [] => List.Perm.refl _
  | a :: r => (insI_perm a _).trans ((isortI_perm r).cons a)
theorem isortI_sorted : ∀ l : List Int, (isortI l).Pairwise (· ≤ ·)
  | [] => List.Pairwise.nil
  | a :: r => insI_sorted a (isortI_sorted r)
theorem isortI_eq {l m : List Int} (h : m.Perm l) (k : m.Pairwise (· ≤ ·)) : m = isortI l :=
  List.Perm.eq_of_pairwise (fun a b _ _ h1 h2 => Int.le_antisymm h1 h2) k (isortI_sorted l) (h.trans (isortI_perm l).symm)
def oSortI : PyData → Option (List PyData)
  | .list ds => if Nat.ble ds.length 16777216 = true then (match intsD ds with
    | some l => some ((isortI l).map .int)
    | none => none) else none
  | _ => none
section
variable {X : Cx} {a : Expr} {p pos : Pos} {r : En → Option (Rf × En)}
theorem fl_sortI (ha : FR X a r) (hg : Gl X "sorted") (hm : X.mg "sorted" = none) (hs : starEach (a :: []) X.env = (false, eval a X.env) :: starEach [] X.env := by rfl) : FL X (.Call (.Name "sorted" p) [a] [] pos) (fR1L oSortI r) := by
  refine fl_r1 (fun t h => pe_callB cr_sortedI hg hm (by decide +kernel) (pa_cons h pa_nil hs) (he := hs)) ha fun x d c h A F G H ρ σ Q R z k => ?_
  unfold oSortI at h
  split at h
  · split at h
    · rename_i hz
      split at h
      · rename_i l hl
        cases h
        obtain ⟨q, xs, rfl, h1, h2⟩ := z.sq R.gh
        have e := intsD_ok h2 hl
        have hlen := h2.len
        subst e
        refine ⟨q, l, rfl, Or.inl (Or.inl h1), fun ns' p' e1 e2 hp => ?_⟩
        have e3 := isortI_eq e1 e2
        subst e3
        refine k p' _ G _ (none_of R.fh hp) (Same.refl G) (R.newF hp) (DqA.ints _) ?_
        rw [List.length_map] at hlen
        rw [List.length_map, (isortI_perm l).length_eq, hlen]
        exact ble_line hz
      · cases h
    · cases h
  · cases h
end
/-! ## sorted(dict([(k, v), ..])), the keys ints -/
/-- each once, by the first place -/
def onceI : List Int → List Int → List Int
  | acc, [] => acc
  | acc, k :: r => if acc.contains k = true then onceI acc r else onceI (acc ++ [k]) r
def keysI : List PyData → Option (List Int)
  | [] => some []
  | .tuple [.int k, _] :: r => match keysI r with
    | some l => some (k :: l)
    | none => none
  | _ :: _ => none
theorem onceI_mem : ∀ (l acc : List Int) (x : Int), x ∈ onceI acc l ↔ x ∈ acc ∨ x ∈ l
  | [], acc, x => by simp [onceI]
  | k :: r, acc, x => by
    unfold onceI
    split
    · rename_i h
      rw [onceI_mem r acc x, List.mem_cons]
      have h' : k ∈ acc := by simpa using h
      constructor
      · rintro (h1 | h1)
        · exact Or.inl h1
        · exact Or.inr (Or.inr h1)
      · rintro (h1 | h1 | h1)
        · exact Or.inl h1
        · exact Or.inl (h1 ▸ h')
        · exact Or.inr h1
    · rw [onceI_mem r _ x, List.mem_append, List.mem_singleton, or_assoc, List.mem_cons]
theorem onceI_nodup : ∀ (l acc : List Int), acc.Nodup → (onceI acc l).Nodup
  | [], acc, h => h
  | k :: r, acc, h => by
    unfold onceI
    split
    · exact onceI_nodup r acc h
    · rename_i hk
      refine onceI_nodup r _ (List.nodup_append.mpr ⟨h, List.nodup_cons.mpr ⟨List.not_mem_nil, List.nodup_nil⟩, fun a ha b hb e => hk ?_⟩)
      rw [List.mem_singleton] at hb
      subst hb
      subst e
      simpa using ha
theorem onceI_len : ∀ (l acc : List Int), (onceI acc l).length ≤ acc.length + l.length
  | [], acc => Nat.le_refl _
  | k :: r, acc => by
    unfold onceI
    split
    · have := onceI_len r acc
      rw [List.length_cons]
      omega
    · have := onceI_len r (acc ++ [k])
      rw [List.length_append, List.length_singleton] at this
      rw [List.length_cons]
      omega
theorem putK_keys {kvs : List (Key × V)} {k : Int} {v : V} {acc : List Int} (h : kvs.map (·.1) = acc.map Sum.inl) : (putK kvs (Sum.inl k) v).map (·.1) = (if acc.contains k = true then acc else acc ++ [k]).map Sum.inl := by
  have hiff : (kvs.any fun kv => decide (kv.1 = Sum.inl k)) = acc.contains k := by
    have : (kvs.any fun kv => decide (kv.1 = Sum.inl k)) = (kvs.map (·.1)).any fun q => decide (q = (Sum.inl k : Key)) := by rw [List.any_map]; rfl
    rw [this, h, List.any_map]
    induction acc with
    | nil => rfl
    | cons a r ih =>
      have hr : (r.map Sum.inl : List Key).any (fun q => decide (q = (Sum.inl k : Key))) = r.any ((fun q => decide (q = (Sum.inl k : Key))) ∘ Sum.inl) := by rw [List.any_map]
      have e : ∀ l : List Int, l.any ((fun q => decide (q = (Sum.inl k : Key))) ∘ Sum.inl) = l.contains k := by
        intro l
        induction l with
        | nil => rfl
        | cons b s ih2 =>
          rw [List.any_cons, List.contains_cons, ih2]
          congr 1
          show decide ((Sum.inl b : Key) = Sum.inl k) = (k == b)
          by_cases hb : k = b
          · subst hb
            simp
          · rw [show (k == b) = false by simpa using hb]
            exact decide_eq_false fun z => hb (Sum.inl.inj z).symm
      exact e (a :: r)
  unfold putK
  rw [hiff]
  split
  · rw [← h, List.map_map]
    refine List.map_congr_left fun kv _ => ?_
    show (if kv.1 = Sum.inl k then (kv.1, v) else kv).1 = kv.1
    split <;> rfl
  · rw [List.map_append, h, List.map_append]
    rfl
theorem mergeK_keys : ∀ (ps : List (Key × V)) (l : List Int) (kvs : List (Key × V)) (acc : List Int), ps.map (·.1) = l.map Sum.inl → kvs.map (·.1) = acc.map Sum.inl → (mergeK kvs ps).map (·.1) = (onceI acc l).map Sum.inl
  | [], l, kvs, acc, h, h2 => by
    cases l with
    | nil => exact h2
    | cons _ _ => cases h
  | p :: ps, l, kvs, acc, h, h2 => by
    cases l with
    | nil => cases h
    | cons k l =>
      rw [List.map_cons, List.map_cons] at h
      injection h with h3 h4
      have h5 := putK_keys (v := p.2) (k := k) h2
      rw [← h3] at h5
      have z := mergeK_keys ps l (putK kvs p.1 p.2) (if acc.contains k = true then acc else acc ++ [k]) h4 h5
      show (mergeK (putK kvs p.1 p.2) ps).map (·.1) = _
      rw [z]
      show _ = (onceI acc (k :: l)).map Sum.inl
      rw [onceI]
      split <;> rfl
section
variable {X : Cx}
/-- sorted of a dict whose keys are ints, however many -/
theorem cr_sortedDA (hcalm : X.calm = true) : CallR X (.builtin "sorted") (fun xs H Q => ∃ (a : Addr) (kvs : List (Key × V)) (ks : List Int), xs = [.ref a] ∧ Rd H a (.dK kvs) ∧ kvs.map (·.1) = ks.map Sum.inl ∧
    ∀ (p : Addr), H p = none → Q (.ref p) (upd H p (.lst ((isortI ks).map V.int)))) := by
  intro pins s σ H xs us Q I r h
  obtain ⟨a, kvs, ks, rfl, hd, hks, q⟩ := h
  obtain ⟨u, rfl, ru⟩ := vals1 r
  cases ru
  obtain ⟨hz, lo, vs, rel, dd⟩ := dk_rd I.hok hd
  obtain ⟨ep, hat⟩ := dd.dictAt
  have e1 : vs.map (·.1) = ks.map Sum.inl := rel.keys.symm.trans hks
  have e2 : vs.length = ks.length := by simpa using congrArg List.length e1
  have e2' : kvs.length = ks.length := by simpa using congrArg List.length hks
  have e3 : vs.length ≤ sizeLine := by omega
  refine Calls.call_function_entry PyProof.Rows.kind_sorted PyProof.Rows.plain_sorted PyProof.Rows.entry_sorted (PyProof.Rows.args_sorted1 _) ?_
  unfold Builtin.«sorted»
  refine wpAny_bind (m := checkCount "sorted" 1 1 _) (wpAny_pure ?_)
  refine wpAny_bind (PySem.W.kdu_collect (A := X.A.in1)
    (PySem.W.kdl_dict (knd := mixKind X.prog X.w) (kvs := vs) (ep := ep) lo) (I.ok.hd hcalm) hat e3 fun hp tk arr keep items => ?_)
  have e4 : arr.toList.length = ks.length := by rw [Array.length_toList, items.1, e2]
  have hI : IntsAre arr.toList ks := ints_each e4 fun j v ej => by
    obtain ⟨k, y, g1, g2⟩ := items.2 j v (by rw [← Array.getElem?_toList]; exact ej)
    have g3 : (vs.map (·.1))[j]? = some k := by rw [List.getElem?_map, g1]; rfl
    rw [e1, List.getElem?_map] at g3
    cases g4 : ks[j]? with
    | none =>
      rw [g4] at g3
      cases g3
    | some z =>
      rw [g4] at g3
      have g5 : Sum.inl z = k := Option.some.inj g3
      subst g5
      rcases keyIs_shape (show keyIs (Sum.inl z) v = true from g2) with ⟨i, t, ek, ev⟩ | ⟨i, t, ek, ev⟩
      · cases ek
        exact ⟨z, t, rfl, ev⟩
      · cases ek
  have I1 : Inv X pins σ H { s with heap := hp, toks := tk } := I.kept keep
  have e5 : arr.toList.length ≤ sizeLine := by omega
  refine wpAny_bind (wpAny_newList ?_ e5)
  have hL : (hp.push (seqObj "list" arr.toList.toArray 0)).get? hp.objs.size = some (seqObj "list" arr.toList.toArray 0) :=
    Heap.get?_push_size _ rfl
  show wpAny _ _ _ _ _ { s with heap := hp.push (seqObj "list" arr.toList.toArray 0), toks := tk }
  refine wpAny_bind (wpAny_holding (wpAny_call_entry PyProof.Rows.slot_list_sort ⟨_, hL, rfl⟩ PyProof.Rows.entry_list_sort
    (SrtO.list_sort_ord SrtO.swo_int (s := { s with heap := hp.push (seqObj "list" arr.toList.toArray 0), toks := tk }) hL e5
      (fun h2 => SrtO.ints_sortable hI h2) fun out o1 o2 => ⟨_, rfl, ?_⟩) (PyProof.Rows.args_list_sort _)))
  obtain ⟨k1, k2, k3⟩ := SrtO.ints_out hI o1 o2
  have k4 := isortI_eq k2 k3
  rw [k4] at k1
  obtain ⟨ep2, hs2⟩ := PyProof.Rows.sortedHeap_at (vs := arr.toList) (out := out.toArray) hL
  have e6 : ((isortI ks).map V.int).length ≤ sizeLine := by
    rw [List.length_map, (isortI_perm ks).length_eq]
    omega
  refine wpAny_pure ⟨_, rfl, .ref hp.objs.size, upd H hp.objs.size (.lst ((isortI ks).map V.int)),
    I1.laid (t' := tk) (fun b u e => ?_) (Nat.le_refl _) ⟨e6, out, ep2, vals_of_ints k1, hs2⟩, rfl, q _ (I1.hok.fresh (Nat.le_refl _))⟩
  have hb : b < hp.objs.size := Heap.lt_size e
  rw [PyProof.Rows.sortedHeap_old (Nat.ne_of_lt hb) (by rw [size_push']; exact Nat.lt_succ_of_lt hb)]
  exact Heap.get?_push_of_some _ e
end
section
variable {X : Cx} {a : Expr} {p p2 pos pos2 : Pos} {r : En → Option (Rf × En)}
theorem keysI_at {K : PySem.W.Frag} {G H : Hp} (g : Same G H) : ∀ {ds : List PyData} {xs : List V} {ks : List Int}, DqA K G xs ds → keysI ds = some ks → ∃ (ps : List Addr) (kvs : List (Key × V)), xs = ps.map V.ref ∧ Paired (fun p kv => SqT K H p [kV kv.1, kv.2]) ps kvs ∧ kvs.map (·.1) = ks.map Sum.inl
  | [], _, _, h, e => by
    cases h
    cases e
    exact ⟨[], [], rfl, .nil, rfl⟩
  | d :: t, _, _, h, e => by
    cases h with | cons q w =>
    unfold keysI at e
    split at e
    · rename_i heq
      cases heq
    · rename_i k y r' heq
      cases heq
      split at e
      · rename_i l hl
        cases e
        obtain ⟨ps, kvs, rfl, e2, e3⟩ := keysI_at g w hl
        cases q with | tup q1 q2 =>
        cases q2 with | cons u1 u2 =>
        cases u2 with | cons u2 u3 =>
        cases u3
        cases u1
        refine ⟨_ :: ps, (Sum.inl k, _) :: kvs, rfl, .cons (sqT_up g q1) e2, ?_⟩
        rw [List.map_cons, List.map_cons, e3]
      · cases e
    · cases e
def oSortDict : PyData → Option (List PyData)
  | .list ds => if Nat.ble ds.length 16777216 = true then (match keysI ds with
    | some l => some ((isortI (onceI [] l)).map .int)
    | none => none) else none
  | _ => none
theorem keysI_len : ∀ {ds : List PyData} {ks : List Int}, keysI ds = some ks → ks.length = ds.length
  | [], _, e => by
    cases e
    rfl
  | d :: t, _, e => by
    unfold keysI at e
    split at e
    · rename_i heq
      cases heq
    · rename_i k y r' heq
      cases heq
      split at e
      · rename_i l hl
        cases e
        rw [List.length_cons, List.length_cons, keysI_len hl]
      · cases e
    · cases e
/-- sorted(dict(e)) -/
theorem fl_sortDict (hc : X.calm = true) (ha : FR X a r) (hg : Gl X "sorted") (hm : X.mg "sorted" = none) (hg2 : Gl X "dict") (hm2 : X.mg "dict" = none) (hs : starEach (a :: []) X.env = (false, eval a X.env) :: starEach [] X.env := by rfl)
    (hs2 : starEach (.Call (.Name "dict" p2) [a] [] pos2 :: []) X.env = (false, eval (.Call (.Name "dict" p2) [a] [] pos2) X.env) :: starEach [] X.env := by rfl) :
    FL X (.Call (.Name "sorted" p) [.Call (.Name "dict" p2) [a] [] pos2] [] pos) (fR1L oSortDict r) := by
  obtain ⟨t, pt, q⟩ := ha
  refine ⟨_, pe_callB (cr_sortedDA hc) hg hm (by decide +kernel) (pa_cons (pe_callTy (call_dictP hc) hg2 hm2 (by decide +kernel) (pa_cons pt pa_nil hs) (he := hs)) pa_nil hs2) (he := hs2), fun ρ d ρ' h A F G H σ Q R k => ?_⟩
  obtain ⟨u, ρ1, h1, h2⟩ := bnd_some h
  refine q ρ u ρ1 h1 A F G H σ _ R fun x G1 H1 s1 R1 z1 => ?_
  split at h2
  · rename_i dx hx
    obtain ⟨h5, rfl⟩ := ret_some h2
    have z2 := z1.dr R1 hx
    unfold oSortDict at h5
    split at h5
    · split at h5
      · rename_i hz
        split at h5
        · rename_i l hl
          cases h5
          obtain ⟨b, xs, rfl, w1, w2⟩ := z2.sq R1.gh
          obtain ⟨ps, kvs, rfl, e2, e3⟩ := keysI_at R1.gh w2 hl
          refine ⟨b, ps, kvs, rfl, Or.inl (Or.inl w1), e2, fun p' hp => ?_⟩
          have f1 := none_of R1.fh hp
          have R2 := (R1.newF (o := .dK (mergeK [] kvs)) hp).dropF f1
          refine ⟨p', mergeK [] kvs, onceI [] l, rfl, Or.inl upd_same, mergeK_keys kvs l [] [] e3 rfl, fun p3 hp3 => ?_⟩
          refine k p3 _ G1 _ (none_of R2.fh hp3) s1 (R2.newF hp3) (DqA.ints _) ?_
          have e6 := onceI_len l []
          have e7 := keysI_len hl
          have e8 := ble_line hz
          rw [List.length_map, (isortI_perm _).length_eq]
          rw [List.length_nil] at e6
          omega
        · cases h5
      · cases h5
    · cases h5
  · cases h2
end
end Fe
namespace Fe
open PySem
/-! ## bounds -/
abbrev Bd (k : Nat) (z : Int) : Prop := z.natAbs < 2 ^ k
theorem Bd.sm {k : Nat} {z : Int} (h : Bd k z) (hk : k < 1000 := by decide) : Sm z := by
  have h2 : z.natAbs < 2 ^ 999 := Nat.lt_of_lt_of_le h (Nat.pow_le_pow_right (by decide) (by omega))
  exact Nat.lt_trans (log2_lt (k := 999) (by decide) h2) (by decide)
theorem Bd.mono {k l : Nat} {z : Int} (h : Bd k z) (hk : k ≤ l := by decide) : Bd l z := Nat.lt_of_lt_of_le h (Nat.pow_le_pow_right (by decide) hk)
theorem Bd.mul {k l : Nat} {x y : Int} (h : Bd k x) (g : Bd l y) : Bd (k + l) (x * y) := by
  show (x * y).natAbs < _
  rw [Int.natAbs_mul, Nat.pow_add]
  exact Nat.mul_lt_mul'' h g
theorem Bd.add {k l : Nat} {x y : Int} (h : Bd k x) (g : Bd l y) : Bd (max k l + 1) (x + y) := by
  have h1 : x.natAbs < 2 ^ (max k l) := Nat.lt_of_lt_of_le h (Nat.pow_le_pow_right (by decide) (Nat.le_max_left _ _))
  have h2 : y.natAbs < 2 ^ (max k l) := Nat.lt_of_lt_of_le g (Nat.pow_le_pow_right (by decide) (Nat.le_max_right _ _))
  have h3 := Int.natAbs_add_le x y
  show (x + y).natAbs < _
  rw [Nat.pow_succ]
  omega
theorem Bd.neg {k : Nat} {x : Int} (h : Bd k x) : Bd k (-x) := by
  show (-x).natAbs < _
  rw [Int.natAbs_neg]
  exact h
theorem Bd.sub {k l : Nat} {x y : Int} (h : Bd k x) (g : Bd l y) : Bd (max k l + 1) (x - y) := by
  rw [Int.sub_eq_add_neg]
  exact h.add g.neg
theorem Bd.div {k : Nat} {x y : Int} (h : Bd k x) : Bd k (x / y) := Nat.lt_of_le_of_lt (Int.natAbs_ediv_le_natAbs x y) h
theorem Bd.mulOk {k l : Nat} {x y : Int} (h : Bd k x) (g : Bd l y) (hk : k < 1000 := by decide) (hl : l < 1000 := by decide) : mulOk x y = true := Sm_mul (h.sm hk) (g.sm hl)
theorem Bd.of {k : Nat} {z : Int} {c : Nat} (h1 : -(c : Int) ≤ z) (h2 : z ≤ c) (h : c < 2 ^ k := by decide) : Bd k z := by
  show z.natAbs < _
  omega
/-! ## while -/
theorem whl_go {c : BF} {b : SF} {n : Nat} {ρ ρ1 ρ2 : En} (hc : c ρ = some (true, ρ1)) (hb : b ρ1 = some (.nx ρ2)) : whl c b (n + 1) ρ = whl c b n ρ2 := by
  conv => lhs; unfold whl
  rw [hc]
  dsimp only [bnd]
  rw [if_pos rfl, hb]
theorem whl_end {c : BF} {b : SF} {n : Nat} {ρ ρ1 : En} (hc : c ρ = some (false, ρ1)) : whl c b (n + 1) ρ = some (.nx ρ1) := by
  unfold whl
  rw [hc]
  dsimp only [bnd]
  rw [if_neg (by decide)]
theorem whl_rt {c : BF} {b : SF} {n : Nat} {ρ ρ1 ρ2 : En} {d : PyData} (hc : c ρ = some (true, ρ1)) (hb : b ρ1 = some (.rt d ρ2)) : whl c b (n + 1) ρ = some (.rt d ρ2) := by
  unfold whl
  rw [hc]
  dsimp only [bnd]
  rw [if_pos rfl, hb]
end Fe
namespace Fe
open PySem PySem.Spec PyProof.Rows L2
/-! ## list(range(..)) -/
def lrOk (i j : Int) : Bool := inB i && inB j && Nat.ble (j - i).toNat 16777216
theorem lrOk_ok {i j : Int} (h : lrOk i j = true) : RgOk i j := by
  unfold lrOk at h
  obtain ⟨h1, h2⟩ := Bool.and_eq_true_iff.mp h
  obtain ⟨h3, h4⟩ := Bool.and_eq_true_iff.mp h1
  have a := Nat.le_of_ble_eq_true h3
  have b := Nat.le_of_ble_eq_true h4
  have c := Nat.le_of_ble_eq_true h2
  exact ⟨by omega, by omega, by omega, by omega, by omega⟩
@[simp] def fLrg1 (f : EF) : LF := fun ρ => bnd (f ρ) fun x ρ1 => match x with
  | .int j => if lrOk 0 j = true then some (rngL 0 j.toNat, ρ1) else none
  | _ => none
@[simp] def fLrg2 (f g : EF) : LF := fun ρ => bnd (f ρ) fun x ρ1 => bnd (g ρ1) fun y ρ2 => match x, y with
  | .int i, .int j => if lrOk i j = true then some (rngL i (j - i).toNat, ρ2) else none
  | _, _ => none
section
variable {X : Cx} {a b : Expr} {f g : EF} {p p2 pos pos2 : Pos}
theorem rgV_D {K : PySem.W.Frag} {H : Hp} (i j : Int) : DqA K H (rgV i j) (rngL i (j - i).toNat) := by
  unfold rgV rngL
  generalize (j - i).toNat = n
  have : ∀ l : List Nat, DqA K H (l.map fun k => V.int (i + (k : Nat))) (l.map fun k => PyData.int (i + (k : Nat))) := by
    intro l
    induction l with
    | nil => exact .nil
    | cons x r ih => exact .cons (.int _) ih
  exact this _
theorem fl_rng2 (hc : X.calm = true) (ha : FE X a f) (hb : FE X b g) (hg : Gl X "list") (hm : X.mg "list" = none) (hg2 : Gl X "range") (hm2 : X.mg "range" = none)
    (n1 : starEach [a, b] X.env = (false, eval a X.env) :: starEach [b] X.env := by rfl) (n2 : starEach [b] X.env = (false, eval b X.env) :: starEach [] X.env := by rfl) (hp : (backTo pos2 (starEach [b] X.env)).any (·.1) = false := by rfl)
    (n3 : starEach [.Call (.Name "range" p2) [a, b] [] pos2] X.env = (false, eval (.Call (.Name "range" p2) [a, b] [] pos2) X.env) :: starEach [] X.env := by rfl) :
    FL X (.Call (.Name "list" p) [.Call (.Name "range" p2) [a, b] [] pos2] [] pos) (fLrg2 f g) := by
  obtain ⟨ta, pa, qa⟩ := ha
  obtain ⟨tb, pb, qb⟩ := hb
  refine ⟨_, pe_listRg hc hg hm (prg_2 hg2 hm2 pa pb n1 n2 hp) n3, fun ρ d ρ' h A F G H σ Q R k => ?_⟩
  obtain ⟨u, ρ1, h1, h2⟩ := bnd_some h
  obtain ⟨y, ρ2, h3, h4⟩ := bnd_some h2
  refine qa ρ u ρ1 h1 A F G H σ _ R fun x G1 H1 s1 R1 z1 => ?_
  refine qb ρ1 y ρ2 h3 A F G1 H1 σ _ R1 fun w G2 H2 s2 R2 z2 => ?_
  split at h4
  · rename_i i j
    split at h4
    · rename_i hz
      cases h4
      cases z1
      cases z2
      have hk := lrOk_ok hz
      refine ⟨i, j, rfl, rfl, hk, fun q hq => ?_⟩
      refine k q _ G2 _ (none_of R2.fh hq) (s1.trans s2) (R2.newF hq) (rgV_D i j) ?_
      rw [rgV_length]
      obtain ⟨_, _, _, _, h⟩ := hk
      rw [sizeLine_eq]
      exact h
    · cases h4
  · cases h4
theorem fl_rng1 (hc : X.calm = true) (ha : FE X a f) (hg : Gl X "list") (hm : X.mg "list" = none) (hg2 : Gl X "range") (hm2 : X.mg "range" = none)
    (n2 : starEach [a] X.env = (false, eval a X.env) :: starEach [] X.env := by rfl)
    (n3 : starEach [.Call (.Name "range" p2) [a] [] pos2] X.env = (false, eval (.Call (.Name "range" p2) [a] [] pos2) X.env) :: starEach [] X.env := by rfl) :
    FL X (.Call (.Name "list" p) [.Call (.Name "range" p2) [a] [] pos2] [] pos) (fLrg1 f) := by
  obtain ⟨ta, pa, qa⟩ := ha
  refine ⟨_, pe_listRg hc hg hm (prg_1 hg2 hm2 pa n2) n3, fun ρ d ρ' h A F G H σ Q R k => ?_⟩
  obtain ⟨u, ρ1, h1, h2⟩ := bnd_some h
  refine qa ρ u ρ1 h1 A F G H σ _ R fun x G1 H1 s1 R1 z1 => ?_
  split at h2
  · rename_i j
    split at h2
    · rename_i hz
      cases h2
      cases z1
      have hk := lrOk_ok hz
      refine ⟨j, rfl, hk, fun q hq => ?_⟩
      have e := rgV_D (K := X.K) (H := G1) 0 j
      rw [Int.sub_zero] at e
      refine k q _ G1 _ (none_of R1.fh hq) s1 (R1.newF hq) e ?_
      rw [rgV_length]
      obtain ⟨_, _, _, _, h⟩ := hk
      rw [sizeLine_eq]
      exact h
    · cases h2
  · cases h2
end
end Fe
/-! Te: typed functions over the plain ones: what a typed function answers, the plain one answers. -/
namespace Te
open PySem Fe

/-! ## how typed values stand as data -/
def eN (_ : Unit) : PyData := .none
def eO {α : Type} (e : α → PyData) : Option α → PyData
  | none => .none
  | some a => e a
def eS {α : Type} (e : α → PyData) (l : List α) : PyData := .tuple (l.map e)
def eL {α : Type} (e : α → PyData) (l : List α) : PyData := .list (l.map e)
def eP {α β : Type} (e : α → PyData) (f : β → PyData) (p : α × β) : PyData := .tuple [e p.1, f p.2]
def eQ {α β γ : Type} (e : α → PyData) (f : β → PyData) (g : γ → PyData) (p : α × β × γ) : PyData := .tuple [e p.1, f p.2.1, g p.2.2]
def eR {α β γ δ : Type} (e : α → PyData) (f : β → PyData) (g : γ → PyData) (h : δ → PyData) (p : α × β × γ × δ) : PyData := .tuple [e p.1, f p.2.1, g p.2.2.1, h p.2.2.2]

/-! ## judgements -/
section
variable {α β γ δ ε σ : Type}
def atE : En → Nat → Option Sl
  | [], _ => none
  | s :: _, 0 => some s
  | _ :: r, n + 1 => atE r n
theorem atE_eq : ∀ (ρ : En) (i : Nat), atE ρ i = ρ[i]?
  | [], _ => rfl
  | _ :: _, 0 => rfl
  | _ :: r, n + 1 => atE_eq r n
def rdA (ρ : En) (i : Nat) : Option PyData := rdS (atE ρ i)
theorem rdA_eq (ρ : En) (i : Nat) : rdA ρ i = rdS ρ[i]? := by rw [rdA, atE_eq]
/-! ### what is asked of what comes next -/
section
variable {γ δ ε : Type}
def JF (F : ε → Option δ) (J : γ → δ → En → Prop) : γ → ε → En → Prop := fun g y ρ => ∃ z, F y = some z ∧ J g z ρ
def Jnx (f : En → Option (ε × En)) (K : δ → γ → ε → En → Prop) : γ → δ → En → Prop := fun g x ρ1 => ∃ y ρ2, f ρ1 = some (y, ρ2) ∧ K x g y ρ2
def Jmap (F : δ → ε) (J : γ → ε → En → Prop) : γ → δ → En → Prop := fun g x ρ => J g (F x) ρ
def Jixv (i : Nat) (J : γ → PyData → En → Prop) : γ → PyData → En → Prop := fun g y ρ2 => ∃ d, rdA ρ2 i = some d ∧ ∃ z, oIx d y = some z ∧ J g z ρ2
def Jtst (J : γ → Bool → En → Prop) : γ → PyData → En → Prop := fun g x ρ1 => ∃ b, x = .bool b ∧ J g b ρ1
def Jand (c2 : BF) (J : γ → Bool → En → Prop) : γ → Bool → En → Prop := fun g b ρ1 => ∃ b2 ρ2, (if b = true then c2 ρ1 else some (false, ρ1)) = some (b2, ρ2) ∧ J g b2 ρ2
def Jor (c2 : BF) (J : γ → Bool → En → Prop) : γ → Bool → En → Prop := fun g b ρ1 => ∃ b2 ρ2, (if b = true then some (true, ρ1) else c2 ρ1) = some (b2, ρ2) ∧ J g b2 ρ2
def Jif (f g : En → Option (δ × En)) (J : γ → δ → En → Prop) : γ → Bool → En → Prop := fun g' b ρ1 => ∃ d ρ2, (if b = true then f ρ1 else g ρ1) = some (d, ρ2) ∧ J g' d ρ2
def Jlen {α : Type} (J : γ → List α → En → Prop) : γ → List α → En → Prop := fun g xs ρ1 => Nat.ble xs.length 16777216 = true ∧ J g xs ρ1
def JcallS (i : Nat) (FS : Src → List PyData → Option (PyData × Src)) (J : γ → PyData → En → Prop) : γ → List PyData → En → Prop := fun g ds ρ1 => ∃ s, atE ρ1 i = some (.src s) ∧ ∃ r s', FS s ds = some (r, s') ∧ J g r (ρ1.set i (.src s'))
end
/-- what is computed goes on to J -/
def TX (ρ : En) (f : En → Option (δ × En)) (n : Option γ) (J : γ → δ → En → Prop) : Prop := ∀ g, n = some g → ∃ d ρ', f ρ = some (d, ρ') ∧ J g d ρ'
/-- J holds of what is there -/
def C (n : Option γ) (J : γ → δ → En → Prop) (d : δ) (ρ : En) : Prop := ∀ g, n = some g → J g d ρ
/-- a block -/
def TK (ρ : En) (b : SF) (n : Option γ) (J : γ → Out → Prop) : Prop := ∀ g, n = some g → ∃ o, b ρ = some o ∧ J g o
def JdR {α δ : Type} (e : α → δ) (R : α → En) : α → δ → En → Prop := fun g d ρ' => d = e g ∧ ρ' = R g
/-- the goal of a part: just this value, this environment -/
abbrev Jd (e : γ → δ) (ρ' : En) : γ → δ → En → Prop := fun g d ρ => d = e g ∧ ρ = ρ'
theorem c_fin {J : γ → δ → En → Prop} {a : γ} {d : δ} {ρ : En} (h : J a d ρ) : C (some a) J d ρ := fun g e => by cases e; exact h
theorem c_d {e : γ → δ} {a : γ} {d : δ} {ρ : En} (h : d = e a := by rfl) : C (some a) (Jd e ρ) d ρ := fun g z => by cases z; exact ⟨h, rfl⟩
variable {n : Option γ} {J : γ → δ → En → Prop} {ρ ρ1 ρ2 : En} {f g' : EF} {l : LF} {c c2 : BF} {i j : Nat}
/-! ### what comes back as an option -/
theorem c_ok {F : ε → Option δ} {y : ε} {z : δ} (e : F y = some z) (h : C n J z ρ) : C n (JF F J) y ρ := fun g q => ⟨z, e, h g q⟩
theorem c_bd {F : ε → Option δ} {y : ε} {h : Option α} {k : α → Option γ} {e : α → δ} (H : ∀ c, h = some c → F y = some (e c)) (K : ∀ c, C (k c) J (e c) ρ) : C (h.bind k) (JF F J) y ρ := fun g q => by
  cases hc : h with
  | none => rw [hc] at q; cases q
  | some a => rw [hc] at q; exact ⟨e a, H a hc, K a g q⟩
/-! ### expressions -/
variable {J : γ → PyData → En → Prop}
theorem x_c {d : PyData} (h : C n J d ρ) : TX ρ (fC d) n J := fun g q => ⟨d, ρ, rfl, h g q⟩
theorem x_v {d : PyData} (e : atE ρ i = some (.v d)) (h : C n J d ρ) : TX ρ (fVar i) n J := fun g q => ⟨d, ρ, by
  rw [atE_eq] at e
  simp only [fVar, e], h g q⟩
theorem tx_bnd {α β : Type} {f : En → Option (α × En)} {K : α → En → Option (β × En)} {J : γ → β → En → Prop} (h : TX ρ f n (fun g d ρ1 => ∃ d2 ρ2, K d ρ1 = some (d2, ρ2) ∧ J g d2 ρ2)) : TX ρ (fun ρ => bnd (f ρ) K) n J := fun g q => by
  obtain ⟨d, ρ1, h1, d2, ρ2, h2, h3⟩ := h g q
  exact ⟨d2, ρ2, by show bnd (f ρ) K = _; rw [h1]; exact h2, h3⟩
theorem TX.imp {α : Type} {f : En → Option (α × En)} {J J' : γ → α → En → Prop} (h : TX ρ f n J) (k : ∀ g d ρ, J g d ρ → J' g d ρ) : TX ρ f n J' := fun g q => by
  obtain ⟨d, ρ1, h1, h2⟩ := h g q
  exact ⟨d, ρ1, h1, k _ _ _ h2⟩
variable {op : PyData → PyData → Option PyData}
theorem c_nx {δ ε : Type} {f2 : En → Option (ε × En)} {K : δ → γ → ε → En → Prop} {x : δ} (h : TX ρ1 f2 n (K x)) : C n (Jnx f2 K) x ρ1 := h
theorem c_mp {δ ε : Type} {F : δ → ε} {J : γ → ε → En → Prop} {x : δ} (h : C n J (F x) ρ) : C n (Jmap F J) x ρ := h
theorem x_op (h : TX ρ f n (Jnx g' fun x => JF (op x) J)) : TX ρ (fOp op f g') n J := tx_bnd (h.imp fun g x ρ1 ⟨y, ρ2, h1, z, h2, h3⟩ => ⟨z, ρ2, by simp only [bnd, h1, h2, Fe.ret], h3⟩)
theorem c_op {x : PyData} (h : TX ρ1 g' n (JF (op x) J)) : C n (Jnx g' fun x => JF (op x) J) x ρ1 := h
theorem x_un {o : PyData → Option PyData} (h : TX ρ f n (JF o J)) : TX ρ (fUn o f) n J := tx_bnd (h.imp fun g x ρ1 ⟨z, h2, h3⟩ => ⟨z, ρ1, by simp only [h2, Fe.ret], h3⟩)
theorem x_r1v {o : PyData → Option PyData} {d : PyData} (e : rdA ρ i = some d) (h : C n (JF o J) d ρ) : TX ρ (fR1 o (fRd i)) n J := fun g q => by
  obtain ⟨z, h1, h2⟩ := h g q
  rw [rdA_eq] at e
  exact ⟨z, ρ, by simp only [fR1, fRd, e, bnd, Rf.get, h1, Fe.ret], h2⟩
theorem x_r1e {o : PyData → Option PyData} (h : TX ρ f n (JF o J)) : TX ρ (fR1 o (fVal f)) n J := fun g q => by
  obtain ⟨x, ρ1, h0, z, h1, h2⟩ := h g q
  exact ⟨z, ρ1, by simp only [fR1, fVal, h0, bnd, Rf.get, h1, Fe.ret], h2⟩
theorem x_r1Lv {o : PyData → Option (List PyData)} {J : γ → List PyData → En → Prop} {d : PyData} (e : rdA ρ i = some d) (h : C n (JF o J) d ρ) : TX ρ (fR1L o (fRd i)) n J := fun g q => by
  obtain ⟨z, h1, h2⟩ := h g q
  rw [rdA_eq] at e
  exact ⟨z, ρ, by simp only [fR1L, fRd, e, bnd, Rf.get, h1, Fe.ret], h2⟩
theorem x_r1Le {o : PyData → Option (List PyData)} {J : γ → List PyData → En → Prop} (h : TX ρ f n (JF o J)) : TX ρ (fR1L o (fVal f)) n J := fun g q => by
  obtain ⟨x, ρ1, h0, z, h1, h2⟩ := h g q
  exact ⟨z, ρ1, by simp only [fR1L, fVal, h0, bnd, Rf.get, h1, Fe.ret], h2⟩
theorem x_ixv {d0 : PyData} (e : rdA ρ i = some d0) (h : TX ρ g' n (Jixv i J)) : TX ρ (fIx (fRd i) g') n J := fun g q => by
  obtain ⟨y, ρ2, h0, d, h1, z, h2, h3⟩ := h g q
  rw [rdA_eq] at e h1
  exact ⟨z, ρ2, by simp only [fIx, fRd, e, bnd, h0, Rf.get, h1, h2, Fe.ret], h3⟩
theorem c_ixv {y d : PyData} (e : rdA ρ2 i = some d) (h : C n (JF (oIx d) J) y ρ2) : C n (Jixv i J) y ρ2 := fun g q => ⟨d, e, h g q⟩
theorem x_ixe (h : TX ρ f n (Jnx g' fun x => JF (oIx x) J)) : TX ρ (fIx (fVal f) g') n J := fun g q => by
  obtain ⟨x, ρ1, h1, y, ρ2, h2, z, h3, h4⟩ := h g q
  exact ⟨z, ρ2, by simp only [fIx, fVal, h1, bnd, h2, Rf.get, h3, Fe.ret], h4⟩
/-! ### tests -/
theorem x_tst {J : γ → Bool → En → Prop} (h : TX ρ f n (Jtst J)) : TX ρ (fTst f) n J := fun g q => by
  obtain ⟨x, ρ1, h1, b, rfl, h2⟩ := h g q
  exact ⟨b, ρ1, by simp only [fTst, h1, bnd], h2⟩
theorem c_tst {J : γ → Bool → En → Prop} {b : Bool} (h : C n J b ρ) : C n (Jtst J) (.bool b) ρ := fun g q => ⟨b, rfl, h g q⟩
theorem x_not {J : γ → Bool → En → Prop} (h : TX ρ c n (Jmap (fun b => !b) J)) : TX ρ (fNot c) n J := fun g q => by
  obtain ⟨b, ρ1, h1, h2⟩ := h g q
  exact ⟨!b, ρ1, by simp only [fNot, h1, bnd], h2⟩
theorem c_not {J : γ → Bool → En → Prop} {b : Bool} (h : C n J (!b) ρ) : C n (Jmap (fun b => !b) J) b ρ := h
theorem x_yes {J : γ → Bool → En → Prop} (h : C n J true ρ) : TX ρ fYes n J := fun g q => ⟨true, ρ, rfl, h g q⟩
theorem x_and {J : γ → Bool → En → Prop} (h : TX ρ c n (Jand c2 J)) : TX ρ (fAnd c c2) n J := tx_bnd h
theorem x_or {J : γ → Bool → En → Prop} (h : TX ρ c n (Jor c2 J)) : TX ρ (fOr c c2) n J := tx_bnd h
/-- both sides pure -/
theorem c_andV {J : γ → Bool → En → Prop} {b v : Bool} (h : TX ρ c2 (some v) (Jd id ρ)) (k : C n J (b && v) ρ) : C n (Jand c2 J) b ρ := fun g q => by
  cases b with
  | false => exact ⟨false, ρ, rfl, k g q⟩
  | true =>
    obtain ⟨d, ρ1, h1, rfl, rfl⟩ := h v rfl
    exact ⟨_, _, h1, k g q⟩
theorem c_orV {J : γ → Bool → En → Prop} {b v : Bool} (h : TX ρ c2 (some v) (Jd id ρ)) (k : C n J (b || v) ρ) : C n (Jor c2 J) b ρ := fun g q => by
  cases b with
  | true => exact ⟨true, ρ, rfl, k g q⟩
  | false =>
    obtain ⟨d, ρ1, h1, rfl, rfl⟩ := h v rfl
    exact ⟨_, _, h1, k g q⟩
/-- the second one may fail; E: the environment behind each -/
theorem c_andO {J : γ → Bool → En → Prop} {b : Bool} {h2 : Option ε} {k : ε → Option γ} {e : ε → Bool} {R : ε → En} {a0 : ε} (hf : b = false → e a0 = false ∧ R a0 = ρ) (h : TX ρ c2 h2 (JdR e R)) (K : ∀ v, C (k v) J (e v) (R v)) : C ((bif b then h2 else some a0).bind k) (Jand c2 J) b ρ := fun g q => by
  cases b with
  | false =>
    obtain ⟨e1, e2⟩ := hf rfl
    have := K a0 g q
    rw [e1, e2] at this
    exact ⟨false, ρ, rfl, this⟩
  | true =>
    cases hc : h2 with
    | none => rw [hc] at q; cases q
    | some a =>
      rw [hc] at q
      obtain ⟨d, ρ1, h1, rfl, rfl⟩ := h a hc
      exact ⟨_, _, h1, K a g q⟩
theorem c_orO {J : γ → Bool → En → Prop} {b : Bool} {h2 : Option ε} {k : ε → Option γ} {e : ε → Bool} {R : ε → En} {a0 : ε} (hf : b = true → e a0 = true ∧ R a0 = ρ) (h : TX ρ c2 h2 (JdR e R)) (K : ∀ v, C (k v) J (e v) (R v)) : C ((bif b then some a0 else h2).bind k) (Jor c2 J) b ρ := fun g q => by
  cases b with
  | true =>
    obtain ⟨e1, e2⟩ := hf rfl
    have := K a0 g q
    rw [e1, e2] at this
    exact ⟨true, ρ, rfl, this⟩
  | false =>
    cases hc : h2 with
    | none => rw [hc] at q; cases q
    | some a =>
      rw [hc] at q
      obtain ⟨d, ρ1, h1, rfl, rfl⟩ := h a hc
      exact ⟨_, _, h1, K a g q⟩
theorem x_if {δ : Type} {J : γ → δ → En → Prop} {f g : En → Option (δ × En)} (h : TX ρ c n (Jif f g J)) : TX ρ (fIf c f g) n J := tx_bnd h
theorem c_ifV {δ : Type} {J : γ → δ → En → Prop} {f g : En → Option (δ × En)} {b : Bool} {u v : ε} {e : ε → δ} (h1 : TX ρ f (some u) (Jd e ρ)) (h2 : TX ρ g (some v) (Jd e ρ)) (k : C n J (e (bif b then u else v)) ρ) : C n (Jif f g J) b ρ := fun q hq => by
  cases b with
  | true =>
    obtain ⟨d, ρ1, h3, rfl, rfl⟩ := h1 u rfl
    exact ⟨_, _, h3, k q hq⟩
  | false =>
    obtain ⟨d, ρ1, h3, rfl, rfl⟩ := h2 v rfl
    exact ⟨_, _, h3, k q hq⟩
theorem c_ifO {δ : Type} {J : γ → δ → En → Prop} {f g : En → Option (δ × En)} {b : Bool} {u v : Option ε} {e : ε → δ} {R : ε → En} {kk : ε → Option γ} (h1 : TX ρ f u (JdR e R)) (h2 : TX ρ g v (JdR e R)) (K : ∀ w, C (kk w) J (e w) (R w)) : C ((bif b then u else v).bind kk) (Jif f g J) b ρ := fun q hq => by
  cases b with
  | true =>
    cases hc : u with
    | none => rw [hc] at hq; cases hq
    | some a =>
      rw [hc] at hq
      obtain ⟨d, ρ1, h3, rfl, rfl⟩ := h1 a hc
      exact ⟨_, _, h3, K a q hq⟩
  | false =>
    cases hc : v with
    | none => rw [hc] at hq; cases hq
    | some a =>
      rw [hc] at hq
      obtain ⟨d, ρ1, h3, rfl, rfl⟩ := h2 a hc
      exact ⟨_, _, h3, K a q hq⟩
/-- boolean values: and, or, not as expressions -/
theorem x_andV (h : TX ρ f n (Jtst (Jand (fTst g') (Jmap PyData.bool J)))) : TX ρ (fAndV f g') n J := fun g q => by
  obtain ⟨x, ρ1, h1, b, rfl, b2, ρ2, h2, h3⟩ := h g q
  refine ⟨.bool b2, ρ2, ?_, h3⟩
  cases b with
  | false =>
    cases h2
    simp only [fAndV, h1, bnd]
  | true =>
    simp only [if_true, fTst] at h2
    obtain ⟨y, ρ3, h4, h5⟩ := bnd_some h2
    split at h5
    · cases h5
      simp only [fAndV, h1, bnd, h4]
    · cases h5
theorem x_orV (h : TX ρ f n (Jtst (Jor (fTst g') (Jmap PyData.bool J)))) : TX ρ (fOrV f g') n J := fun g q => by
  obtain ⟨x, ρ1, h1, b, rfl, b2, ρ2, h2, h3⟩ := h g q
  refine ⟨.bool b2, ρ2, ?_, h3⟩
  cases b with
  | true =>
    cases h2
    simp only [fOrV, h1, bnd]
  | false =>
    simp only [Bool.false_eq_true, if_false, fTst] at h2
    obtain ⟨y, ρ3, h4, h5⟩ := bnd_some h2
    split at h5
    · cases h5
      simp only [fOrV, h1, bnd, h4]
    · cases h5
theorem x_notV (h : TX ρ f n (Jtst (Jmap (fun b => PyData.bool !b) J))) : TX ρ (fNotV f) n J := fun g q => by
  obtain ⟨x, ρ1, h1, b, rfl, h2⟩ := h g q
  exact ⟨.bool !b, ρ1, by simp only [fNotV, h1, bnd], h2⟩
theorem c_notV {b : Bool} (h : C n J (.bool !b) ρ) : C n (Jtst (Jmap (fun b => PyData.bool !b) J)) (.bool b) ρ := fun g q => ⟨b, rfl, h g q⟩
/-! ### rows of values -/
theorem x_nil {J : γ → List PyData → En → Prop} (h : C n J [] ρ) : TX ρ fNil n J := fun g q => ⟨[], ρ, rfl, h g q⟩
theorem x_cons {J : γ → List PyData → En → Prop} (h : TX ρ f n (Jnx l fun x => Jmap (x :: ·) J)) : TX ρ (fCons f l) n J := fun g q => by
  obtain ⟨x, ρ1, h1, xs, ρ2, h2, h3⟩ := h g q
  exact ⟨x :: xs, ρ2, by simp only [fCons, h1, h2, bnd], h3⟩
theorem c_cons {J : γ → List PyData → En → Prop} {x : PyData} (h : TX ρ1 l n (Jmap (x :: ·) J)) : C n (Jnx l fun x => Jmap (x :: ·) J) x ρ1 := h
theorem c_J {α : Type} {J : γ → δ → En → Prop} {F : α → δ} {x : α} (h : C n J (F x) ρ) : C n (Jmap F J) x ρ := h
theorem x_tup (h : TX ρ l n (Jlen (Jmap PyData.tuple J))) : TX ρ (fTup l) n J := fun g q => by
  obtain ⟨xs, ρ1, h1, h2, h3⟩ := h g q
  exact ⟨.tuple xs, ρ1, by simp only [fTup, h1, bnd, h2, if_true], h3⟩
theorem x_lst {J : γ → List PyData → En → Prop} (h : TX ρ l n (Jlen J)) : TX ρ (fLst l) n J := fun g q => by
  obtain ⟨xs, ρ1, h1, h2, h3⟩ := h g q
  exact ⟨xs, ρ1, by simp only [fLst, h1, bnd, h2, if_true], h3⟩
theorem c_len {α : Type} {J : γ → List α → En → Prop} {xs : List α} (e : Nat.ble xs.length 16777216 = true) (h : C n J xs ρ) : C n (Jlen J) xs ρ := fun g q => ⟨e, h g q⟩
theorem c_lenT {J : γ → PyData → En → Prop} {xs : List PyData} (e : Nat.ble xs.length 16777216 = true) (h : C n J (.tuple xs) ρ) : C n (Jlen (Jmap PyData.tuple J)) xs ρ := fun g q => ⟨e, h g q⟩
theorem x_asL (h : TX ρ l n (Jmap PyData.list J)) : TX ρ (fAsL l) n J := fun g q => by
  obtain ⟨xs, ρ1, h1, h2⟩ := h g q
  exact ⟨.list xs, ρ1, by simp only [fAsL, h1, bnd], h2⟩
/-! ### calls -/
variable {Fn : List PyData → Option PyData}
theorem x_call (h : TX ρ l n (JF Fn J)) : TX ρ (fCall Fn l) n J := fun g q => by
  obtain ⟨ds, ρ1, h1, z, h2, h3⟩ := h g q
  exact ⟨z, ρ1, by simp only [fCall, h1, bnd, h2, Fe.ret], h3⟩
variable {FS : Src → List PyData → Option (PyData × Src)}
theorem x_callS {s0 : Src} (e : atE ρ i = some (.src s0)) (h : TX ρ l n (JcallS i FS J)) : TX ρ (fCallS i FS l) n J := fun g q => by
  obtain ⟨ds, ρ1, h1, s, h2, r, s', h3, h4⟩ := h g q
  rw [atE_eq] at e h2
  exact ⟨r, _, by simp only [fCallS, e, h1, bnd, h2, h3], h4⟩
theorem c_callS {s : Src} {ds : List PyData} {h : Option (α × Src)} {k : α × Src → Option γ} {e : α → PyData} {R : Src → En} (e0 : atE ρ1 i = some (.src s)) (H : ∀ c, h = some c → FS s ds = some (e c.1, c.2)) (hR : ∀ s', ρ1.set i (.src s') = R s') (K : ∀ c, C (k c) J (e c.1) (R c.2)) :
    C (h.bind k) (JcallS i FS J) ds ρ1 := fun g q => by
  cases hc : h with
  | none => rw [hc] at q; cases q
  | some c =>
    rw [hc] at q
    refine ⟨s, e0, e c.1, c.2, H c hc, ?_⟩
    rw [hR]
    exact K c g q
end
end Te
namespace Te
open PySem Fe

/-! ## typed operations -/
def gmul (a b : Int) : Option Int := bif mulOk a b then some (a * b) else none
def gdiv (a b : Int) : Option Int := bif divOk b then some (a / b) else none
def gmod (a b : Int) : Option Int := bif modOk b then some (a % b) else none
def gpow (a b : Int) : Option Int := bif powOk a b then some (a ^ b.toNat) else none
def iabs (a : Int) : Int := if a < 0 then -a else a
def imin (a b : Int) : Int := if b < a then b else a
def imax (a b : Int) : Int := if b > a then b else a
theorem bif_some {α : Type} {b : Bool} {x c : α} (h : (bif b then some x else none) = some c) : b = true ∧ x = c := by
  cases b with
  | false => cases h
  | true => cases h; exact ⟨rfl, rfl⟩
theorem gmul_ok {a b : Int} : ∀ c, gmul a b = some c → oMul (.int a) (.int b) = some (PyData.int c) := fun c h => by
  obtain ⟨h1, rfl⟩ := bif_some h
  simp only [oMul, oIc, h1, if_true]
theorem gdiv_ok {a b : Int} : ∀ c, gdiv a b = some c → oDiv (.int a) (.int b) = some (PyData.int c) := fun c h => by
  obtain ⟨h1, rfl⟩ := bif_some h
  simp only [oDiv, oIc, h1, if_true]
theorem gmod_ok {a b : Int} : ∀ c, gmod a b = some c → oMod (.int a) (.int b) = some (PyData.int c) := fun c h => by
  obtain ⟨h1, rfl⟩ := bif_some h
  simp only [oMod, oIc, h1, if_true]
theorem gpow_ok {a b : Int} : ∀ c, gpow a b = some c → oPow (.int a) (.int b) = some (PyData.int c) := fun c h => by
  obtain ⟨h1, rfl⟩ := bif_some h
  simp only [oPow, oIc, h1, if_true]
section
variable {α β γ δ : Type}
def gix (l : List α) (i : Int) : Option α := match i with
  | .ofNat n => l[n]?
  | .negSucc n => bif Nat.blt n l.length then l[l.length - (n + 1)]? else none
theorem ixD_g (e : α → PyData) (l : List α) (i : Int) : ∀ c, gix l i = some c → ixD (l.map e) i = some (e c) := fun c h => by
  unfold gix at h
  unfold ixD
  cases i with
  | ofNat n =>
    dsimp only at h ⊢
    rw [List.getElem?_map, h]
    rfl
  | negSucc n =>
    dsimp only at h ⊢
    rw [List.length_map]
    cases hb : Nat.blt n l.length with
    | false => rw [hb] at h; cases h
    | true =>
      rw [hb] at h
      rw [if_pos rfl, List.getElem?_map, show l[l.length - (n + 1)]? = some c from h]
      rfl
theorem gixS_ok {e : α → PyData} {l : List α} {i : Int} : ∀ c, gix l i = some c → oIx (eS e l) (.int i) = some (e c) := ixD_g e l i
theorem gixL_ok {e : α → PyData} {l : List α} {i : Int} : ∀ c, gix l i = some c → oIx (eL e l) (.int i) = some (e c) := ixD_g e l i
theorem lenS {e : α → PyData} {l : List α} : oLen (eS e l) = some (.int (l.length : Int)) := by simp [oLen, eS]
theorem lenL {e : α → PyData} {l : List α} : oLen (eL e l) = some (.int (l.length : Int)) := by simp [oLen, eL]
theorem tupL {e : α → PyData} {l : List α} : oTuple (eL e l) = some (eS e l) := rfl
theorem tupS {e : α → PyData} {l : List α} : oTuple (eS e l) = some (eS e l) := rfl
def gln (l : List α) : Option (List α) := bif Nat.ble l.length 16777216 then some l else none
theorem glnS_ok {e : α → PyData} {l : List α} : ∀ c, gln l = some c → oList (eS e l) = some (c.map e) := fun c h => by
  obtain ⟨h1, rfl⟩ := bif_some h
  simp only [oList, eS, List.length_map, h1, if_true]
theorem glnL_ok {e : α → PyData} {l : List α} : ∀ c, gln l = some c → oList (eL e l) = some (c.map e) := fun c h => by
  obtain ⟨h1, rfl⟩ := bif_some h
  simp only [oList, eL, List.length_map, h1, if_true]
theorem sumL {l : List Int} : oSum (eL .int l) = some (.int l.sum) := by
  unfold oSum eL
  dsimp only
  rw [intsD_map]
theorem anyL {l : List Bool} : oAny (eL .bool l) = some (.bool (l.any id)) := by
  unfold oAny eL
  dsimp only
  rw [boolsD_map]
theorem allL {l : List Bool} : oAll (eL .bool l) = some (.bool (l.all id)) := by
  unfold oAll eL
  dsimp only
  rw [boolsD_map]
theorem isN_O {e : α → PyData} {o : Option α} (h : ∀ a, e a ≠ .none) : oIsN (eO e o) = some (.bool o.isNone) := by
  cases o with
  | none => rfl
  | some a =>
    show oIsN (e a) = _
    have := h a
    unfold oIsN
    split
    · exact absurd (by assumption) this
    · rfl
theorem notN_O {e : α → PyData} {o : Option α} (h : ∀ a, e a ≠ .none) : oNotN (eO e o) = some (.bool o.isSome) := by
  cases o with
  | none => rfl
  | some a =>
    show oNotN (e a) = _
    have := h a
    unfold oNotN
    split
    · exact absurd (by assumption) this
    · rfl
/-! ### rows put together, cut, turned -/
def gcat (l m : List α) : Option (List α) := bif Nat.ble (l.length + m.length) 16777216 then some (l ++ m) else none
theorem gcatT_ok {e : α → PyData} {l m : List α} : ∀ c, gcat l m = some c → oCatT (eS e l) (eS e m) = some (eS e c) := fun c h => by
  obtain ⟨h1, rfl⟩ := bif_some h
  simp only [oCatT, eS, List.length_map, h1, if_true, List.map_append]
def grepT (l : List α) (k : Int) : Option (List α) := bif (Nat.blt 0 l.length && Nat.ble l.length 1000 && decide (2 ≤ k) && decide (k ≤ 1000)) then some (List.replicate k.toNat l).flatten else none
theorem grepT_ok {e : α → PyData} {l : List α} {k : Int} : ∀ c, grepT l k = some c → oRepT (eS e l) (.int k) = some (eS e c) := fun c h => by
  obtain ⟨h1, rfl⟩ := bif_some h
  simp only [oRepT, eS, List.length_map, h1, if_true, List.map_flatten, List.map_replicate]
variable {n : Option γ} {ρ ρ1 ρ2 : En} {f g' : EF} {l : LF} {c c2 : BF} {i j : Nat}
section
def JrepL (x : PyData) (J : γ → List PyData → En → Prop) : γ → PyData → En → Prop := fun g y ρ2 => ∃ ds k, x = .list ds ∧ y = .int k ∧ (Nat.ble (ds.length * k.toNat) 16777216 && Nat.ble k.natAbs 16777216) = true ∧ J g (List.replicate k.toNat ds).flatten ρ2
def JcatL (x : PyData) (J : γ → List PyData → En → Prop) : γ → PyData → En → Prop := fun g y ρ2 => ∃ ds es, x = .list ds ∧ y = .list es ∧ Nat.ble (ds.length + es.length) 16777216 = true ∧ J g (ds ++ es) ρ2
def Jseq (J : γ → List PyData → En → Prop) : γ → PyData → En → Prop := fun g d ρ1 => ∃ ds, (d = .list ds ∨ d = .tuple ds) ∧ J g ds ρ1
def Jrng1 (J : γ → List PyData → En → Prop) : γ → List PyData → En → Prop := fun g ds ρ1 => ∃ j, ds = [.int j] ∧ inB j = true ∧ J g (rngL 0 j.toNat) ρ1
def Jrng2 (J : γ → List PyData → En → Prop) : γ → List PyData → En → Prop := fun g ds ρ1 => ∃ i j, ds = [.int i, .int j] ∧ (inB i && inB j) = true ∧ J g (rngL i (j - i).toNat) ρ1
def Jrng3 (J : γ → List PyData → En → Prop) : γ → List PyData → En → Prop := fun g ds ρ1 => ∃ i j c, ds = [.int i, .int j, .int c] ∧ rcOk i j c = true ∧ J g (rngC i c (Builtin.Range.rangeSize i j c).toNat) ρ1
def Jenum (J : γ → List PyData → En → Prop) : γ → PyData → En → Prop := fun g d ρ1 => ∃ ds, d = .list ds ∧ J g (enumD 0 ds) ρ1
def Jzip (J : γ → List PyData → En → Prop) : γ → List PyData → En → Prop := fun g ds ρ1 => ∃ xs ys, (ds = [.list xs, .list ys] ∨ ds = [.tuple xs, .tuple ys]) ∧ J g (zipD xs ys) ρ1
def Jcl (vs : List Nat) (gg : PyData → En → Option En) (c : BF) (e : EF) (J : γ → List PyData → En → Prop) : γ → List PyData → En → Prop := fun g ds ρ1 => ∃ ys ρ2, cl vs gg c e ds ρ1 = some (ys, ρ2) ∧ J g ys ρ2
variable {J : γ → List PyData → En → Prop}
theorem x_rep (h : TX ρ f n (Jnx g' fun x => JrepL x J)) : TX ρ (fRep f g') n J := fun g q => by
  obtain ⟨x, ρ1, h1, y, ρ2, h2, ds, k, rfl, rfl, h3, h4⟩ := h g q
  exact ⟨_, ρ2, by simp only [fRep, h1, h2, bnd, h3, if_true], h4⟩
theorem c_rep2 {x : PyData} (h : TX ρ1 g' n (JrepL x J)) :
  C n (Jnx g' fun x => JrepL x J) x ρ1 := h
def grepL (l : List α) (k : Int) : Option (List α) := bif (Nat.ble (l.length * k.toNat) 16777216 && Nat.ble k.natAbs 16777216) then some (List.replicate k.toNat l).flatten else none
theorem c_repB {e : α → PyData} {l : List α} {k : Int} {kk : List α → Option γ} (K : ∀ c, C (kk c) J (c.map e) ρ) : C ((grepL l k).bind kk) (JrepL (eL e l) J) (.int k) ρ := fun g q => by
  cases hc : grepL l k with
  | none => rw [hc] at q; cases q
  | some a =>
    rw [hc] at q
    obtain ⟨h1, rfl⟩ := bif_some hc
    refine ⟨_, k, rfl, rfl, by rw [List.length_map]; exact h1, ?_⟩
    have := K _ g q
    rwa [List.map_flatten, List.map_replicate] at this
theorem x_cat (h : TX ρ f n (Jnx g' fun x => JcatL x J)) : TX ρ (fCat f g') n J := fun g q => by
  obtain ⟨x, ρ1, h1, y, ρ2, h2, ds, es, rfl, rfl, h3, h4⟩ := h g q
  exact ⟨_, ρ2, by simp only [fCat, h1, h2, bnd, h3, if_true], h4⟩
theorem c_cat2 {x : PyData} (h : TX ρ1 g' n (JcatL x J)) :
  C n (Jnx g' fun x => JcatL x J) x ρ1 := h
theorem c_catB {e : α → PyData} {l m : List α} {kk : List α → Option γ} (K : ∀ c, C (kk c) J (c.map e) ρ) : C ((gcat l m).bind kk) (JcatL (eL e l) J) (eL e m) ρ := fun g q => by
  cases hc : gcat l m with
  | none => rw [hc] at q; cases q
  | some a =>
    rw [hc] at q
    obtain ⟨h1, rfl⟩ := bif_some hc
    refine ⟨_, _, rfl, rfl, by rw [List.length_map, List.length_map]; exact h1, ?_⟩
    have := K _ g q
    rwa [List.map_append] at this
/-! ### what is gone through -/
theorem x_seq (h : TX ρ f n (Jseq J)) : TX ρ (fSeq f) n J := fun g q => by
  obtain ⟨d, ρ1, h1, ds, h2, h3⟩ := h g q
  rcases h2 with rfl | rfl <;> exact ⟨ds, ρ1, by simp only [fSeq, h1, bnd], h3⟩
theorem c_seqL {e : α → PyData} {l : List α} (h : C n J (l.map e) ρ) : C n (Jseq J) (eL e l) ρ := fun g q => ⟨_, Or.inl rfl, h g q⟩
theorem c_seqS {e : α → PyData} {l : List α} (h : C n J (l.map e) ρ) : C n (Jseq J) (eS e l) ρ := fun g q => ⟨_, Or.inr rfl, h g q⟩
def grng (a b : Int) : Option (List Int) := bif inB a && inB b then some (irg a (b - a).toNat) else none
theorem x_rng1 (h : TX ρ l n (Jrng1 J)) : TX ρ (fRng1 l) n J := fun g q => by
  obtain ⟨ds, ρ1, h1, j, rfl, h2, h3⟩ := h g q
  exact ⟨_, ρ1, by simp only [fRng1, h1, bnd, h2, if_true], h3⟩
theorem x_rng2 (h : TX ρ l n (Jrng2 J)) : TX ρ (fRng2 l) n J := fun g q => by
  obtain ⟨ds, ρ1, h1, i, j, rfl, h2, h3⟩ := h g q
  exact ⟨_, ρ1, by simp only [fRng2, h1, bnd, h2, if_true], h3⟩
theorem c_rng1 {b : Int} {kk : List Int → Option γ} (K : ∀ c, C (kk c) J (c.map .int) ρ) : C ((grng 0 b).bind kk) (Jrng1 J) [.int b] ρ := fun g q => by
  cases hc : grng 0 b with
  | none => rw [hc] at q; cases q
  | some a =>
    rw [hc] at q
    obtain ⟨h1, rfl⟩ := bif_some hc
    refine ⟨b, rfl, (Bool.and_eq_true_iff.mp h1).2, ?_⟩
    have := K _ g q
    rw [rngL_eq]
    rwa [Int.sub_zero] at this
theorem c_rng2 {a b : Int} {kk : List Int → Option γ} (K : ∀ c, C (kk c) J (c.map .int) ρ) : C ((grng a b).bind kk) (Jrng2 J) [.int a, .int b] ρ := fun g q => by
  cases hc : grng a b with
  | none => rw [hc] at q; cases q
  | some r =>
    rw [hc] at q
    obtain ⟨h1, rfl⟩ := bif_some hc
    exact ⟨a, b, rfl, h1, by rw [rngL_eq]; exact K _ g q⟩
def grng3 (a b c : Int) : Option (List Int) := bif rcOk a b c then some (irgC a c (Builtin.Range.rangeSize a b c).toNat) else none
theorem x_rng3 (h : TX ρ l n (Jrng3 J)) : TX ρ (fRng3 l) n J := fun g q => by
  obtain ⟨ds, ρ1, h1, i, j, c, rfl, h2, h3⟩ := h g q
  exact ⟨_, ρ1, by simp only [fRng3, h1, bnd, h2, if_true], h3⟩
theorem c_rng3 {a b c : Int} {kk : List Int → Option γ} (K : ∀ c, C (kk c) J (c.map .int) ρ) : C ((grng3 a b c).bind kk) (Jrng3 J) [.int a, .int b, .int c] ρ := fun g q => by
  cases hc : grng3 a b c with
  | none => rw [hc] at q; cases q
  | some r =>
    rw [hc] at q
    obtain ⟨h1, rfl⟩ := bif_some hc
    exact ⟨a, b, c, rfl, h1, by rw [rngC_eq]; exact K _ g q⟩
def enumN : Nat → List α → List (Int × α)
  | _, [] => []
  | k, x :: r => ((k : Int), x) :: enumN (k + 1) r
theorem enumD_map (e : α → PyData) : ∀ (k : Nat) (l : List α), enumD k (l.map e) = (enumN k l).map (eP .int e)
  | _, [] => rfl
  | k, x :: r => by
    rw [List.map_cons, enumD, enumD_map e (k + 1) r]
    rfl
theorem x_enum (h : TX ρ f n (Jenum J)) : TX ρ (fEnum f) n J := fun g q => by
  obtain ⟨d, ρ1, h1, ds, rfl, h3⟩ := h g q
  exact ⟨_, ρ1, by simp only [fEnum, h1, bnd], h3⟩
theorem c_enum {e : α → PyData} {l : List α} (h : C n J ((enumN 0 l).map (eP .int e)) ρ) : C n (Jenum J) (eL e l) ρ := fun g q => ⟨_, rfl, by rw [enumD_map]; exact h g q⟩
theorem zipD_map (e : α → PyData) (e2 : β → PyData) : ∀ (l : List α) (m : List β), zipD (l.map e) (m.map e2) = (l.zip m).map (eP e e2)
  | [], _ => by cases ‹List β› <;> rfl
  | _ :: _, [] => rfl
  | x :: r, y :: w => by
    rw [List.map_cons, List.map_cons, zipD, zipD_map e e2 r w]
    rfl
theorem x_zip (h : TX ρ l n (Jzip J)) : TX ρ (fZip l) n J := fun g q => by
  obtain ⟨ds, ρ1, h1, xs, ys, h2, h3⟩ := h g q
  rcases h2 with rfl | rfl <;> exact ⟨_, ρ1, by simp only [fZip, h1, bnd], h3⟩
theorem c_zipL {e : α → PyData} {e2 : β → PyData} {l : List α} {m : List β} (h : C n J ((l.zip m).map (eP e e2)) ρ) : C n (Jzip J) [eL e l, eL e2 m] ρ := fun g q => ⟨_, _, Or.inl rfl, by rw [zipD_map]; exact h g q⟩
theorem c_zipS {e : α → PyData} {e2 : β → PyData} {l : List α} {m : List β} (h : C n J ((l.zip m).map (eP e e2)) ρ) : C n (Jzip J) [eS e l, eS e2 m] ρ := fun g q => ⟨_, _, Or.inr rfl, by rw [zipD_map]; exact h g q⟩
/-! ### comprehensions -/
def nlc (t : α → Option Bool) (h : α → Option β) : List α → Option (List β)
  | [] => some []
  | x :: r => (t x).bind fun b => bif b then (h x).bind fun y => (nlc t h r).bind fun ys => some (y :: ys) else nlc t h r
def nmp (h : α → Option β) : List α → Option (List β)
  | [] => some []
  | x :: r => (h x).bind fun y => (nmp h r).bind fun ys => some (y :: ys)
theorem nlc_some (t : α → Bool) (h : α → β) : ∀ l : List α, nlc (fun x => some (t x)) (fun x => some (h x)) l = some ((l.filter t).map h)
  | [] => rfl
  | x :: r => by
    unfold nlc
    rw [nlc_some t h r, List.filter_cons]
    cases t x <;> rfl
theorem nmp_some (h : α → β) : ∀ l : List α, nmp (fun x => some (h x)) l = some (l.map h)
  | [] => rfl
  | x :: r => by
    unfold nmp
    rw [nmp_some h r]
    rfl
theorem x_comp {vs : List Nat} {fi : LF} {gg : PyData → En → Option En} {e : EF} (h : TX ρ fi n (Jlen (Jcl vs gg c e J))) : TX ρ (fComp vs fi gg c e) n J := fun g q => by
  obtain ⟨ds, ρ1, h1, h2, ys, ρ2, h3, h4⟩ := h g q
  exact ⟨ys, ρ2, by simp only [fComp, h1, bnd, h2, if_true, h3], h4⟩
theorem bind_some' {α β : Type} {o : Option α} {k : α → Option β} {c : β} (h : o.bind k = some c) : ∃ a, o = some a ∧ k a = some c := by
  cases o with
  | none => cases h
  | some a => exact ⟨a, rfl, h⟩
theorem cl_nlc {α β π : Type} {vs : List Nat} {gg : PyData → En → Option En} {e : EF} {ea : α → PyData} {eb : β → PyData} {U : α → Option π} {t : π → Option Bool} {h : π → Option β} {ρw : En} {R : π → En}
    (hg : ∀ x p, U x = some p → gg (ea x) ρw = some (R p)) (hc : ∀ p, TX (R p) c (t p) (Jd id (R p))) (he : ∀ p, TX (R p) e (h p) (Jd eb (R p))) (hw : ∀ p, wipeE (R p) vs = ρw) :
    ∀ (l : List α) (ys : List β) (ρ0 : En), nlc (fun x => (U x).bind t) (fun x => (U x).bind h) l = some ys → wipeE ρ0 vs = ρw → cl vs gg c e (l.map ea) ρ0 = some (ys.map eb, ρw)
  | [], ys, ρ0, q, hw0 => by
    cases q
    rw [List.map_nil, cl, hw0]
    rfl
  | x :: r, ys, ρ0, q, hw0 => by
    unfold nlc at q
    obtain ⟨b, h1, h2⟩ := bind_some' q
    obtain ⟨p, hp, h1⟩ := bind_some' h1
    obtain ⟨d, ρ', k1, k2, k3⟩ := hc p b h1
    have k2 : d = b := k2
    subst k2
    subst k3
    rw [List.map_cons, cl, hw0, hg x p hp]
    dsimp only
    rw [k1]
    dsimp only [bnd]
    cases hb : d with
    | false =>
      rw [hb] at h2
      rw [if_neg (by decide)]
      exact cl_nlc hg hc he hw r ys _ h2 (hw p)
    | true =>
      rw [hb] at h2
      rw [if_pos rfl]
      obtain ⟨y, h3, h4⟩ := bind_some' h2
      rw [hp] at h3
      obtain ⟨zs, h5, h6⟩ := bind_some' h4
      cases h6
      obtain ⟨d, ρ', m1, rfl, rfl⟩ := he p y h3
      rw [m1]
      dsimp only [bnd]
      rw [cl_nlc hg hc he hw r zs _ h5 (hw p)]
      rfl
theorem cl_nmp {α β π : Type} {vs : List Nat} {gg : PyData → En → Option En} {e : EF} {ea : α → PyData} {eb : β → PyData} {U : α → Option π} {h : π → Option β} {ρw : En} {R : π → En}
    (hg : ∀ x p, U x = some p → gg (ea x) ρw = some (R p)) (he : ∀ p, TX (R p) e (h p) (Jd eb (R p))) (hw : ∀ p, wipeE (R p) vs = ρw) :
    ∀ (l : List α) (ys : List β) (ρ0 : En), nmp (fun x => (U x).bind h) l = some ys → wipeE ρ0 vs = ρw → cl vs gg fYes e (l.map ea) ρ0 = some (ys.map eb, ρw)
  | [], ys, ρ0, q, hw0 => by
    cases q
    rw [List.map_nil, cl, hw0]
    rfl
  | x :: r, ys, ρ0, q, hw0 => by
    unfold nmp at q
    obtain ⟨y, h3, h4⟩ := bind_some' q
    obtain ⟨p, hp, h3⟩ := bind_some' h3
    obtain ⟨zs, h5, h6⟩ := bind_some' h4
    cases h6
    rw [List.map_cons, cl, hw0, hg x p hp]
    obtain ⟨d, ρ', m1, rfl, rfl⟩ := he p y h3
    dsimp only [fYes, bnd]
    rw [if_pos rfl, m1]
    dsimp only [bnd]
    rw [cl_nmp hg he hw r zs _ h5 (hw p)]
    rfl
variable {vs : List Nat} {gg : PyData → En → Option En} {e : EF} {ea : α → PyData} {eb : β → PyData} {ρw : En}
def glt (l : List α) : Option Unit := bif Nat.ble l.length 16777216 then some () else none
theorem glt_ok {l : List α} {u : Unit} (h : glt l = some u) : Nat.ble l.length 16777216 = true := (bif_some h).1
/-- with a target that always fits -/
theorem c_comp {l : List α} {t : α → Option Bool} {h : α → Option β} {k : List β → Option γ} {R : α → En} (hw0 : wipeE ρ1 vs = ρw) (hg : ∀ x, gg (ea x) ρw = some (R x)) (hc : ∀ x, TX (R x) c (t x) (Jd id (R x))) (he : ∀ x, TX (R x) e (h x) (Jd eb (R x))) (hw : ∀ x, wipeE (R x) vs = ρw) (K : ∀ ys, C (k ys) J (ys.map eb) ρw) :
    C ((glt l).bind fun _ => (nlc t h l).bind k) (Jlen (Jcl vs gg c e J)) (l.map ea) ρ1 := fun g q => by
  obtain ⟨u, q1, q⟩ := bind_some' q
  obtain ⟨ys, q2, q⟩ := bind_some' q
  refine ⟨by rw [List.length_map]; exact glt_ok q1, _, _, cl_nlc (U := some) (fun x p e => by cases e; exact hg x) hc he hw l ys ρ1 q2 hw0, K ys g q⟩
theorem c_map {l : List α} {h : α → Option β} {k : List β → Option γ} {R : α → En} (hw0 : wipeE ρ1 vs = ρw) (hg : ∀ x, gg (ea x) ρw = some (R x)) (he : ∀ x, TX (R x) e (h x) (Jd eb (R x))) (hw : ∀ x, wipeE (R x) vs = ρw) (K : ∀ ys, C (k ys) J (ys.map eb) ρw) :
    C ((glt l).bind fun _ => (nmp h l).bind k) (Jlen (Jcl vs gg fYes e J)) (l.map ea) ρ1 := fun g q => by
  obtain ⟨u, q1, q⟩ := bind_some' q
  obtain ⟨ys, q2, q⟩ := bind_some' q
  refine ⟨by rw [List.length_map]; exact glt_ok q1, _, _, cl_nmp (U := some) (fun x p e => by cases e; exact hg x) he hw l ys ρ1 q2 hw0, K ys g q⟩
/-- with a target that may not fit -/
theorem c_compU {π : Type} {l : List α} {U : α → Option π} {t : π → Option Bool} {h : π → Option β} {k : List β → Option γ} {R : π → En} (hw0 : wipeE ρ1 vs = ρw) (hg : ∀ x p, U x = some p → gg (ea x) ρw = some (R p)) (hc : ∀ x, TX (R x) c (t x) (Jd id (R x))) (he : ∀ x, TX (R x) e (h x) (Jd eb (R x))) (hw : ∀ x, wipeE (R x) vs = ρw) (K : ∀ ys, C (k ys) J (ys.map eb) ρw) :
    C ((glt l).bind fun _ => (nlc (fun x => (U x).bind t) (fun x => (U x).bind h) l).bind k) (Jlen (Jcl vs gg c e J)) (l.map ea) ρ1 := fun g q => by
  obtain ⟨u, q1, q⟩ := bind_some' q
  obtain ⟨ys, q2, q⟩ := bind_some' q
  refine ⟨by rw [List.length_map]; exact glt_ok q1, _, _, cl_nlc hg hc he hw l ys ρ1 q2 hw0, K ys g q⟩
theorem c_mapU {π : Type} {l : List α} {U : α → Option π} {h : π → Option β} {k : List β → Option γ} {R : π → En} (hw0 : wipeE ρ1 vs = ρw) (hg : ∀ x p, U x = some p → gg (ea x) ρw = some (R p)) (he : ∀ x, TX (R x) e (h x) (Jd eb (R x))) (hw : ∀ x, wipeE (R x) vs = ρw) (K : ∀ ys, C (k ys) J (ys.map eb) ρw) :
    C ((glt l).bind fun _ => (nmp (fun x => (U x).bind h) l).bind k) (Jlen (Jcl vs gg fYes e J)) (l.map ea) ρ1 := fun g q => by
  obtain ⟨u, q1, q⟩ := bind_some' q
  obtain ⟨ys, q2, q⟩ := bind_some' q
  refine ⟨by rw [List.length_map]; exact glt_ok q1, _, _, cl_nmp hg he hw l ys ρ1 q2 hw0, K ys g q⟩
/-- a comprehension whose element draws -/
def nmpS (h : α → Src → Option (β × Src)) : List α → Src → Option (List β × Src)
  | [], s => some ([], s)
  | x :: r, s => (h x s).bind fun y => (nmpS h r y.2).bind fun ys => some (y.1 :: ys.1, ys.2)
theorem cl_nmpS {α β : Type} {vs : List Nat} {gg : PyData → En → Option En} {e : EF} {ea : α → PyData} {eb : β → PyData} {h : α → Src → Option (β × Src)} {ρw : Src → En} {R : α → Src → En}
    (hg : ∀ x s, gg (ea x) (ρw s) = some (R x s)) (he : ∀ x s, TX (R x s) e (h x s) (JdR (fun y => eb y.1) fun y => R x y.2)) (hw : ∀ x s, wipeE (R x s) vs = ρw s) :
    ∀ (l : List α) (ys : List β × Src) (s : Src) (ρ0 : En), nmpS h l s = some ys → wipeE ρ0 vs = ρw s → cl vs gg fYes e (l.map ea) ρ0 = some (ys.1.map eb, ρw ys.2)
  | [], ys, s, ρ0, q, hw0 => by
    cases q
    rw [List.map_nil, cl, hw0]
    rfl
  | x :: r, ys, s, ρ0, q, hw0 => by
    unfold nmpS at q
    obtain ⟨y, h3, h4⟩ := bind_some' q
    obtain ⟨zs, h5, h6⟩ := bind_some' h4
    cases h6
    rw [List.map_cons, cl, hw0, hg x s]
    obtain ⟨d, ρ', m1, rfl, rfl⟩ := he x s y h3
    dsimp only [fYes, bnd]
    rw [if_pos rfl, m1]
    dsimp only [bnd]
    rw [cl_nmpS hg he hw r zs y.2 _ h5 (hw x y.2)]
    rfl
theorem c_mapS {l : List α} {h : α → Src → Option (β × Src)} {k : List β × Src → Option γ} {ρw : Src → En} {R : α → Src → En} {s : Src} (hw0 : wipeE ρ1 vs = ρw s) (hg : ∀ x s, gg (ea x) (ρw s) = some (R x s)) (he : ∀ x s, TX (R x s) e (h x s) (JdR (fun y => eb y.1) fun y => R x y.2)) (hw : ∀ x s, wipeE (R x s) vs = ρw s) (K : ∀ ys, C (k ys) J (ys.1.map eb) (ρw ys.2)) :
    C ((glt l).bind fun _ => (nmpS h l s).bind k) (Jlen (Jcl vs gg fYes e J)) (l.map ea) ρ1 := fun g q => by
  obtain ⟨u, q1, q⟩ := bind_some' q
  obtain ⟨ys, q2, q⟩ := bind_some' q
  refine ⟨by rw [List.length_map]; exact glt_ok q1, _, _, cl_nmpS hg he hw l ys s ρ1 q2 hw0, K ys g q⟩
end
end
end Te
namespace Te
open PySem Fe

/-! ## statements -/
def letV {α β : Type} (a : α) (k : α → β) : β := k a
@[simp] theorem letV_eq {α β : Type} (a : α) (k : α → β) : letV a k = k a := rfl
inductive Lp (σ γ : Type) where
  | nx (s : σ)
  | bk (s : σ)
  | rt (g : γ)
section
variable {α β γ δ σ τ : Type} {n : Option γ} {J : γ → Out → Prop} {ρ ρ1 ρ2 : En} {f g' : EF} {l : LF} {c c2 : BF} {i j : Nat} {rest a b r : SF}
def JR (e : γ → PyData) : γ → Out → Prop := fun g o => (∃ ρ', o = .rt (e g) ρ') ∨ (∃ ρ', o = .nx ρ' ∧ e g = .none)
/-- of a def that draws -/
def JS (e : α → PyData) : α × Src → Out → Prop := fun g o => (∃ ρ', o = .rt (e g.1) (.src g.2 :: ρ')) ∨ (∃ ρ', o = .nx (.src g.2 :: ρ') ∧ e g.1 = .none)
def Jst (U : δ → En → En) (rest : SF) (J : γ → Out → Prop) : γ → δ → En → Prop := fun g d ρ1 => ∃ o, rest (U d ρ1) = some o ∧ J g o
def Jtg (gg : PyData → En → Option En) (rest : SF) (J : γ → Out → Prop) : γ → PyData → En → Prop := fun g d ρ1 => ∃ ρ2, gg d ρ1 = some ρ2 ∧ ∃ o, rest ρ2 = some o ∧ J g o
def Jret (J : γ → Out → Prop) : γ → PyData → En → Prop := fun g d ρ1 => J g (.rt d ρ1)
def Jsif (a b rest : SF) (J : γ → Out → Prop) : γ → Bool → En → Prop := fun g k ρ1 => ∃ o, (if k = true then sSeq a rest ρ1 else sSeq b rest ρ1) = some o ∧ J g o
def Japp (i : Nat) (rest : SF) (J : γ → Out → Prop) : γ → PyData → En → Prop := fun g d ρ1 => ∃ ds, atE ρ1 i = some (.own ds) ∧ Nat.blt ds.length 16777216 = true ∧ ∃ o, rest (ρ1.set i (.own (ds ++ [d]))) = some o ∧ J g o
def Jext (i : Nat) (rest : SF) (J : γ → Out → Prop) : γ → PyData → En → Prop := fun g d ρ1 => ∃ es ds, d = .list es ∧ atE ρ1 i = some (.own ds) ∧ Nat.ble (ds.length + es.length) 16777216 = true ∧ ∃ o, rest (ρ1.set i (.own (ds ++ es))) = some o ∧ J g o
def Jix2 (i : Nat) (d : PyData) (rest : SF) (J : γ → Out → Prop) : γ → PyData → En → Prop := fun g y ρ2 => ∃ j ds k, y = .int j ∧ atE ρ2 i = some (.own ds) ∧ ixP ds.length j = some k ∧ ∃ o, rest (ρ2.set i (.own (ds.set k d))) = some o ∧ J g o
def Jix1 (i : Nat) (f2 : EF) (rest : SF) (J : γ → Out → Prop) : γ → PyData → En → Prop := fun g d ρ1 => ∃ d0, atE ρ1 i = some (.own d0) ∧ ∃ y ρ2, f2 ρ1 = some (y, ρ2) ∧ Jix2 i d rest J g y ρ2
def Jfor (gg : PyData → En → Option En) (b rest : SF) (J : γ → Out → Prop) : γ → List PyData → En → Prop := fun g ds ρ1 => ∃ o, sThen (lp gg b ds ρ1) rest = some o ∧ J g o
def JW (I : σ → En → Prop) (s : σ) : Bool → Bool → En → Prop := fun g d ρ' => d = g ∧ I s ρ'
def JN (I : σ → En → Prop) : σ → Out → Prop := fun g o => ∃ ρ', o = .nx ρ' ∧ I g ρ'
/-- a loop's body: it goes on, or -/
def JC (I : σ → En → Prop) : σ → Out → Prop := fun g o => ∃ ρ', (o = .nx ρ' ∨ o = .ct ρ') ∧ I g ρ'
def JL (I : σ → En → Prop) (J : γ → Out → Prop) : Lp σ γ → Out → Prop
  | .nx s, o => ∃ ρ', (o = .nx ρ' ∨ o = .ct ρ') ∧ I s ρ'
  | .bk s, o => ∃ ρ', o = .bk ρ' ∧ I s ρ'
  | .rt g, o => (∃ d ρ', o = .rt d ρ') ∧ J g o
theorem s_last (h : TK ρ (sSeq b sNil) n J) : TK ρ b n J := fun g q => by
  obtain ⟨o, h1, h2⟩ := h g q
  refine ⟨o, ?_, h2⟩
  unfold sSeq sThen at h1
  split at h1
  · rename_i ρ' h3
    cases h1
    exact h3
  · exact h1
theorem s_assoc (h : TK ρ (sSeq a (sSeq b r)) n J) : TK ρ (sSeq (sSeq a b) r) n J := fun g q => by
  obtain ⟨o, h1, h2⟩ := h g q
  refine ⟨o, ?_, h2⟩
  rw [← h1]
  unfold sSeq sThen
  cases a ρ with
  | none => rfl
  | some o => cases o <;> rfl
theorem s_nilL (h : TK ρ r n J) : TK ρ (sSeq sNil r) n J := h
theorem s_seq {f : En → Option (δ × En)} {U : δ → En → En} {n : Option γ} {J : γ → Out → Prop} {rest : SF} {ρ : En} (h : TX ρ f n (Jst U rest J)) : TK ρ (sSeq (fun ρ => bnd (f ρ) fun d ρ1 => some (.nx (U d ρ1))) rest) n J := fun g q => by
  obtain ⟨d, ρ1, h1, o, h2, h3⟩ := h g q
  refine ⟨o, ?_, h3⟩
  show sThen (bnd (f ρ) fun d ρ1 => some (.nx (U d ρ1))) rest = _
  rw [h1]
  exact h2
theorem s_set (h : TX ρ f n (Jst (fun d ρ1 => ρ1.set i (.v d)) rest J)) : TK ρ (sSeq (sSet i f) rest) n J := s_seq (U := fun d ρ1 => ρ1.set i (.v d)) h
theorem s_own (h : TX ρ l n (Jst (fun d ρ1 => ρ1.set i (.own d)) rest J)) : TK ρ (sSeq (sOwn i l) rest) n J := s_seq (U := fun d ρ1 => ρ1.set i (.own d)) h
theorem s_drop (h : TX ρ f n (Jst (fun _ ρ1 => ρ1) rest J)) : TK ρ (sSeq (sDrop f) rest) n J := s_seq (U := fun d ρ1 => ρ1) h
/-- the value is in its slot -/
theorem c_go {U : δ → En → En} {d : δ} (h : U d ρ = ρ2) (k : TK ρ2 rest n J) : C n (Jst U rest J) d ρ := fun g q => by
  subst h
  exact k g q
theorem c_let {U : δ → En → En} {d : δ} {a : α} {m : α → Option γ} {R : α → En} (h : U d ρ = R a) (k : ∀ v, TK (R v) rest (m v) J) : C (letV a m) (Jst U rest J) d ρ := fun g q => by
  show ∃ o, rest (U d ρ) = some o ∧ J g o
  rw [h]
  exact k a g q
theorem s_par (h : TX ρ f n (Jnx g' fun x => Jst (fun y ρ2 => (ρ2.set i (.v x)).set j (.v y)) rest J)) : TK ρ (sSeq (sPar i j f g') rest) n J := fun g q => by
  obtain ⟨x, ρ1, h1, y, ρ2, h2, o, h3, h4⟩ := h g q
  refine ⟨o, ?_, h4⟩
  show sThen (bnd (f ρ) fun x ρ1 => bnd (g' ρ1) fun y ρ2 => some (.nx ((ρ2.set i (.v x)).set j (.v y)))) rest = _
  rw [h1]
  dsimp only [bnd]
  rw [h2]
  exact h3
theorem s_parO1 (h : TX ρ l n (Jnx g' fun x => Jst (fun y ρ2 => (ρ2.set i (.own x)).set j (.v y)) rest J)) : TK ρ (sSeq (sParO1 i j l g') rest) n J := fun g q => by
  obtain ⟨x, ρ1, h1, y, ρ2, h2, o, h3, h4⟩ := h g q
  refine ⟨o, ?_, h4⟩
  show sThen (bnd (l ρ) fun x ρ1 => bnd (g' ρ1) fun y ρ2 => some (.nx ((ρ2.set i (.own x)).set j (.v y)))) rest = _
  rw [h1]
  dsimp only [bnd]
  rw [h2]
  exact h3
theorem s_parO2 {m : LF} (h : TX ρ f n (Jnx m fun x => Jst (fun y ρ2 => (ρ2.set i (.v x)).set j (.own y)) rest J)) : TK ρ (sSeq (sParO2 i j f m) rest) n J := fun g q => by
  obtain ⟨x, ρ1, h1, y, ρ2, h2, o, h3, h4⟩ := h g q
  refine ⟨o, ?_, h4⟩
  show sThen (bnd (f ρ) fun x ρ1 => bnd (m ρ1) fun y ρ2 => some (.nx ((ρ2.set i (.v x)).set j (.own y)))) rest = _
  rw [h1]
  dsimp only [bnd]
  rw [h2]
  exact h3
theorem s_parO3 {m : LF} (h : TX ρ l n (Jnx m fun x => Jst (fun y ρ2 => (ρ2.set j (.own y)).set i (.own x)) rest J)) : TK ρ (sSeq (sParO3 i j l m) rest) n J := fun g q => by
  obtain ⟨x, ρ1, h1, y, ρ2, h2, o, h3, h4⟩ := h g q
  refine ⟨o, ?_, h4⟩
  show sThen (bnd (l ρ) fun x ρ1 => bnd (m ρ1) fun y ρ2 => some (.nx ((ρ2.set j (.own y)).set i (.own x)))) rest = _
  rw [h1]
  dsimp only [bnd]
  rw [h2]
  exact h3
theorem s_tg {gg : PyData → En → Option En} (h : TX ρ f n (Jtg gg rest J)) : TK ρ (sSeq (sTg f gg) rest) n J := fun g q => by
  obtain ⟨d, ρ1, h1, ρ2, h2, o, h3, h4⟩ := h g q
  refine ⟨o, ?_, h4⟩
  show sThen (bnd (f ρ) fun d ρ1 => match gg d ρ1 with | some ρ2 => some (.nx ρ2) | none => none) rest = _
  rw [h1]
  dsimp only [bnd]
  rw [h2]
  exact h3
theorem c_tg {gg : PyData → En → Option En} {d : PyData} (h : gg d ρ = some ρ2) (k : TK ρ2 rest n J) : C n (Jtg gg rest J) d ρ := fun g q => ⟨ρ2, h, k g q⟩
theorem c_tgL {gg : PyData → En → Option En} {d : PyData} {a : α} {m : α → Option γ} {R : α → En} (h : gg d ρ = some (R a)) (k : ∀ v, TK (R v) rest (m v) J) : C (letV a m) (Jtg gg rest J) d ρ := fun g q => ⟨R a, h, k a g q⟩
theorem c_tgU {gg : PyData → En → Option En} {d : PyData} {u : Option α} {m : α → Option γ} {R : α → En} (h : ∀ p, u = some p → gg d ρ = some (R p)) (k : ∀ v, TK (R v) rest (m v) J) : C (u.bind m) (Jtg gg rest J) d ρ := fun g q => by
  obtain ⟨p, h1, h2⟩ := bind_some' q
  exact ⟨R p, h p h1, k p g h2⟩
/-! ### ends -/
theorem s_ret (h : TX ρ f n (Jret J)) : TK ρ (sRet f) n J := fun g q => by
  obtain ⟨d, ρ1, h1, h2⟩ := h g q
  exact ⟨_, by simp only [sRet, h1, bnd], h2⟩
theorem s_retN {g : γ} (h : J g (.rt .none ρ)) : TK ρ sRetN (some g) J := fun g q => by
  cases q
  exact ⟨_, rfl, h⟩
theorem s_nil {g : γ} (h : J g (.nx ρ)) : TK ρ sNil (some g) J := fun g q => by
  cases q
  exact ⟨_, rfl, h⟩
theorem s_bk {g : γ} (h : J g (.bk ρ)) : TK ρ sBk (some g) J := fun g q => by
  cases q
  exact ⟨_, rfl, h⟩
theorem s_ct {g : γ} (h : J g (.ct ρ)) : TK ρ sCt (some g) J := fun g q => by
  cases q
  exact ⟨_, rfl, h⟩
theorem s_no : TK ρ (fun _ => none) (none : Option γ) J := fun g q => by cases q
theorem s_retS (h : TK ρ (sRet f) n J) : TK ρ (sSeq (sRet f) rest) n J := fun g q => by
  obtain ⟨o, h1, h2⟩ := h g q
  refine ⟨o, ?_, h2⟩
  unfold sRet at h1
  obtain ⟨d, ρ', h3, h4⟩ := bnd_some h1
  cases h4
  simp only [sSeq, sThen, sRet, h3, bnd]
theorem s_retNS (h : TK ρ sRetN n J) : TK ρ (sSeq sRetN rest) n J := h
theorem s_bkS (h : TK ρ sBk n J) : TK ρ (sSeq sBk rest) n J := h
theorem s_ctS (h : TK ρ sCt n J) : TK ρ (sSeq sCt rest) n J := h
theorem s_noS (h : TK ρ (fun _ => none) n J) : TK ρ (sSeq (fun _ => none) rest) n J := h
theorem c_ret {e : γ → PyData} {a : γ} {d : PyData} (h : d = e a := by rfl) : C (some a) (Jret (JR e)) d ρ := fun g q => by
  cases q
  exact Or.inl ⟨ρ, by rw [h]⟩
theorem c_retS {e : α → PyData} {a : α} {s : Src} {d : PyData} {ρ : En} (h : d = e a := by rfl) : C (some (a, s)) (Jret (JS e)) d (.src s :: ρ) := fun g q => by
  cases q
  exact Or.inl ⟨ρ, by rw [h]⟩
theorem c_retL {I : σ → En → Prop} {J : γ → Out → Prop} {a : γ} {d : PyData} (h : C (some a) (Jret J) d ρ) : C (some (Lp.rt a)) (Jret (JL I J)) d ρ := fun g q => by
  cases q
  exact ⟨⟨_, _, rfl⟩, h a rfl⟩
theorem j_nx {I : σ → En → Prop} {s : σ} (h : I s ρ) : JN I s (.nx ρ) := ⟨ρ, rfl, h⟩
theorem j_cnx {I : σ → En → Prop} {s : σ} (h : I s ρ) : JC I s (.nx ρ) := ⟨ρ, Or.inl rfl, h⟩
theorem j_cct {I : σ → En → Prop} {s : σ} (h : I s ρ) : JC I s (.ct ρ) := ⟨ρ, Or.inr rfl, h⟩
theorem j_lnx {I : σ → En → Prop} {s : σ} (h : I s ρ) : JL I J (.nx s) (.nx ρ) := ⟨ρ, Or.inl rfl, h⟩
theorem j_lct {I : σ → En → Prop} {s : σ} (h : I s ρ) : JL I J (.nx s) (.ct ρ) := ⟨ρ, Or.inr rfl, h⟩
theorem j_lbk {I : σ → En → Prop} {s : σ} (h : I s ρ) : JL I J (.bk s) (.bk ρ) := ⟨ρ, rfl, h⟩
/-! ### branches -/
theorem s_if (h : TX ρ c n (Jsif a b rest J)) : TK ρ (sSeq (sIf c a b) rest) n J := fun g q => by
  obtain ⟨k, ρ1, h1, o, h2, h3⟩ := h g q
  refine ⟨o, ?_, h3⟩
  show sThen (bnd (c ρ) fun b' ρ1 => if b' = true then a ρ1 else b ρ1) rest = _
  rw [h1]
  dsimp only [bnd]
  cases k <;> exact h2
theorem c_sif {k : Bool} {n1 n2 : Option γ} (h1 : TK ρ (sSeq a rest) n1 J) (h2 : TK ρ (sSeq b rest) n2 J) : C (bif k then n1 else n2) (Jsif a b rest J) k ρ := fun g q => by
  cases k with
  | true => exact h1 g q
  | false => exact h2 g q
theorem TK.seq {I : σ → En → Prop} {o : Option σ} {m : σ → Option γ} (h : TK ρ a o (JN I)) (k : ∀ s ρ, I s ρ → TK ρ rest (m s) J) : TK ρ (sSeq a rest) (o.bind m) J := fun g q => by
  obtain ⟨s, h1, h2⟩ := bind_some' q
  obtain ⟨o', h3, ρ', rfl, h4⟩ := h s h1
  obtain ⟨o2, h5, h6⟩ := k s ρ' h4 g h2
  refine ⟨o2, ?_, h6⟩
  show sThen (a ρ) rest = _
  rw [h3]
  exact h5
theorem c_sifJ {k : Bool} {I : σ → En → Prop} {o1 o2 : Option σ} {m : σ → Option γ} (h1 : TK ρ a o1 (JN I)) (h2 : TK ρ b o2 (JN I)) (hr : ∀ s ρ, I s ρ → TK ρ rest (m s) J) : C ((bif k then o1 else o2).bind m) (Jsif a b rest J) k ρ := by
  cases k with
  | true => exact TK.seq h1 hr
  | false => exact TK.seq h2 hr
/-! ### lists of one's own -/
def gapp (l : List α) (v : α) : Option (List α) := bif Nat.blt l.length 16777216 then some (l ++ [v]) else none
theorem s_app {d0 : List PyData} (e : atE ρ i = some (.own d0)) (h : TX ρ f n (Japp i rest J)) : TK ρ (sSeq (sApp i f) rest) n J := fun g q => by
  obtain ⟨d, ρ1, h1, ds, h2, h3, o, h4, h5⟩ := h g q
  refine ⟨o, ?_, h5⟩
  rw [atE_eq] at e h2
  simp only [sSeq, sApp, e, h1, bnd, h2, h3, if_true, sThen]
  exact h4
theorem c_app {l : List α} {e : α → PyData} {v : α} {k : List α → Option γ} {R : List α → En} {d : PyData} (hl : atE ρ i = some (.own (l.map e))) (hd : d = e v) (hR : ∀ l' : List α, ρ.set i (.own (l'.map e)) = R l') (K : ∀ l', TK (R l') rest (k l') J) :
    C ((gapp l v).bind k) (Japp i rest J) d ρ := fun g q => by
  obtain ⟨l', h1, h2⟩ := bind_some' q
  obtain ⟨h3, rfl⟩ := bif_some h1
  refine ⟨_, hl, by rw [List.length_map]; exact h3, ?_⟩
  have := K _ g h2
  rw [← hR, List.map_append] at this
  subst hd
  exact this
theorem s_ext {d0 : List PyData} (e : atE ρ i = some (.own d0)) (h : TX ρ f n (Jext i rest J)) : TK ρ (sSeq (sExt i f) rest) n J := fun g q => by
  obtain ⟨d, ρ1, h1, es, ds, rfl, h2, h3, o, h4, h5⟩ := h g q
  refine ⟨o, ?_, h5⟩
  rw [atE_eq] at e h2
  simp only [sSeq, sExt, e, h1, bnd, h2, h3, if_true, sThen]
  exact h4
theorem c_ext {l m : List α} {e : α → PyData} {k : List α → Option γ} {R : List α → En} (hl : atE ρ i = some (.own (l.map e))) (hR : ∀ l' : List α, ρ.set i (.own (l'.map e)) = R l') (K : ∀ l', TK (R l') rest (k l') J) :
    C ((gcat l m).bind k) (Jext i rest J) (eL e m) ρ := fun g q => by
  obtain ⟨l', h1, h2⟩ := bind_some' q
  obtain ⟨h3, rfl⟩ := bif_some h1
  refine ⟨_, _, rfl, hl, by rw [List.length_map, List.length_map]; exact h3, ?_⟩
  have := K _ g h2
  rw [← hR, List.map_append] at this
  exact this
def gset (l : List α) (j : Int) (v : α) : Option (List α) := match ixP l.length j with
  | some k => some (l.set k v)
  | none => none
theorem s_ix {f2 : EF} (h : TX ρ f n (Jix1 i f2 rest J)) : TK ρ (sSeq (sIx i f f2) rest) n J := fun g q => by
  obtain ⟨d, ρ1, h1, d0, h2, y, ρ2, h3, j, ds, k, rfl, h4, h5, o, h6, h7⟩ := h g q
  refine ⟨o, ?_, h7⟩
  rw [atE_eq] at h2 h4
  simp only [sSeq, sIx, h1, bnd, h2, h3, h4, h5, sThen]
  exact h6
theorem c_ix1 {f2 : EF} {d : PyData} {d0 : List PyData} (e : atE ρ1 i = some (.own d0)) (h : TX ρ1 f2 n (Jix2 i d rest J)) :
    C n (Jix1 i f2 rest J) d ρ1 := fun g q => ⟨d0, e, h g q⟩
theorem c_ix2 {l : List α} {e : α → PyData} {v : α} {x : Int} {k : List α → Option γ} {R : List α → En} {d : PyData} (hl : atE ρ i = some (.own (l.map e))) (hd : d = e v) (hR : ∀ l' : List α, ρ.set i (.own (l'.map e)) = R l') (K : ∀ l', TK (R l') rest (k l') J) :
    C ((gset l x v).bind k) (Jix2 i d rest J) (.int x) ρ := fun g q => by
  obtain ⟨l', h1, h2⟩ := bind_some' q
  unfold gset at h1
  split at h1
  · rename_i m hm
    cases h1
    refine ⟨x, _, m, rfl, hl, by rw [List.length_map]; exact hm, ?_⟩
    have := K _ g h2
    rw [← hR, List.map_set] at this
    subst hd
    exact this
  · cases h1
def frzA (i : Nat) (ρ : En) : En := match atE ρ i with
  | some (.own ds) => ρ.set i (.v (.list ds))
  | _ => ρ
theorem frzA_eq (i : Nat) (ρ : En) : frzA i ρ = frzS i ρ := by
  unfold frzA frzS
  (rw [atE_eq]) <;> (rcases ρ[i]? with _ | s) <;> first | rfl | (cases s <;> rfl)
theorem s_frz {F : SF} (h : frzA i ρ = ρ2) (k : TK ρ2 (sSeq F rest) n J) : TK ρ (sSeq (fun ρ => F (frzS i ρ)) rest) n J := fun g q => by
  obtain ⟨o, h1, h2⟩ := k g q
  refine ⟨o, ?_, h2⟩
  rw [← h, frzA_eq] at h1
  exact h1
theorem s_frz0 {F : SF} (h : frzA i ρ = ρ2) (k : TK ρ2 F n J) : TK ρ (fun ρ => F (frzS i ρ)) n J := fun g q => by
  obtain ⟨o, h1, h2⟩ := k g q
  refine ⟨o, ?_, h2⟩
  rw [← h, frzA_eq] at h1
  exact h1
/-! ### loops -/
/-- one turn: the target is set, the body runs -/
def TG (gg : PyData → En → Option En) (d : PyData) (ρ : En) (b : SF) (n : Option γ) (J : γ → Out → Prop) : Prop := ∀ g, n = some g → ∃ ρ2 o, gg d ρ = some ρ2 ∧ b ρ2 = some o ∧ J g o
variable {gg : PyData → En → Option En} {d : PyData}
theorem g_ok (h : gg d ρ = some ρ2) (k : TK ρ2 b n J) : TG gg d ρ b n J := fun g q => by
  obtain ⟨o, h1, h2⟩ := k g q
  exact ⟨ρ2, o, h, h1, h2⟩
theorem g_U {u : Option α} {m : α → Option γ} {R : α → En} (h : ∀ p, u = some p → gg d ρ = some (R p)) (k : ∀ v, TK (R v) b (m v) J) : TG gg d ρ b (u.bind m) J := fun g q => by
  obtain ⟨p, h1, h2⟩ := bind_some' q
  obtain ⟨o, h3, h4⟩ := k p g h2
  exact ⟨_, o, h p h1, h3, h4⟩
def nfor (b : α → σ → Option σ) : List α → σ → Option σ
  | [], s => some s
  | x :: r, s => (b x s).bind fun s' => nfor b r s'
def nforR (b : α → σ → Option (Lp σ γ)) : List α → σ → Option (Lp σ γ)
  | [], s => some (.nx s)
  | x :: r, s => (b x s).bind fun o => match o with
    | .nx s' => nforR b r s'
    | .bk s' => some (.nx s')
    | .rt g => some (.rt g)
/-- behind a loop that may have returned -/
def lend {σ γ τ : Type} (o : Option (Lp σ γ)) (k : σ → Option τ) (w : γ → τ) : Option τ := o.bind fun o => match o with
  | .nx s => k s
  | .bk s => k s
  | .rt g => some (w g)
theorem s_for {fi : LF} (h : TX ρ fi n (Jfor gg b rest J)) : TK ρ (sSeq (sFor fi gg b) rest) n J := fun g q => by
  obtain ⟨ds, ρ1, h1, o, h2, h3⟩ := h g q
  refine ⟨o, ?_, h3⟩
  show sThen (bnd (fi ρ) fun ds ρ1 => lp gg b ds ρ1) rest = _
  rw [h1]
  exact h2
theorem lp_nfor {I : σ → En → Prop} {ea : α → PyData} {bd : α → σ → Option σ} (hb : ∀ x s ρ, I s ρ → TG gg (ea x) ρ b (bd x s) (JC I)) : ∀ (l : List α) (s s' : σ) (ρ : En), nfor bd l s = some s' → I s ρ → ∃ ρ', lp gg b (l.map ea) ρ = some (.nx ρ') ∧ I s' ρ'
  | [], s, s', ρ, q, h => by
    cases q
    exact ⟨ρ, rfl, h⟩
  | x :: r, s, s', ρ, q, h => by
    obtain ⟨s1, h1, h2⟩ := bind_some' q
    obtain ⟨ρ2, o, h3, h4, ρ3, h5, h6⟩ := hb x s ρ h s1 h1
    obtain ⟨ρ', h7, h8⟩ := lp_nfor hb r s1 s' ρ3 h2 h6
    refine ⟨ρ', ?_, h8⟩
    rw [List.map_cons, lp, h3]
    dsimp only
    rw [h4]
    rcases h5 with rfl | rfl <;> exact h7
theorem c_for {I : σ → En → Prop} {ea : α → PyData} {l : List α} {s0 : σ} {bd : α → σ → Option σ} {k : σ → Option γ} (h0 : I s0 ρ) (hb : ∀ x s ρ, I s ρ → TG gg (ea x) ρ b (bd x s) (JC I)) (hr : ∀ s ρ, I s ρ → TK ρ rest (k s) J) :
    C ((nfor bd l s0).bind k) (Jfor gg b rest J) (l.map ea) ρ := fun g q => by
  obtain ⟨s, h1, h2⟩ := bind_some' q
  obtain ⟨ρ', h3, h4⟩ := lp_nfor hb l s0 s ρ h1 h0
  obtain ⟨o, h5, h6⟩ := hr s ρ' h4 g h2
  exact ⟨o, by rw [h3]; exact h5, h6⟩
theorem lp_nforR {γ' : Type} {I : σ → En → Prop} {J : γ' → Out → Prop} {ea : α → PyData} {bd : α → σ → Option (Lp σ γ')} (hb : ∀ x s ρ, I s ρ → TG gg (ea x) ρ b (bd x s) (JL I J)) : ∀ (l : List α) (s : σ) (s' : Lp σ γ') (ρ : En), nforR bd l s = some s' → I s ρ → (∃ ρ' t, s' = .nx t ∧ lp gg b (l.map ea) ρ = some (.nx ρ') ∧ I t ρ') ∨ (∃ g d ρ', s' = .rt g ∧ lp gg b (l.map ea) ρ = some (.rt d ρ') ∧ J g (.rt d ρ'))
  | [], s, s', ρ, q, h => by
    cases q
    exact Or.inl ⟨ρ, s, rfl, rfl, h⟩
  | x :: r, s, s', ρ, q, h => by
    obtain ⟨s1, h1, h2⟩ := bind_some' q
    obtain ⟨ρ2, o, h3, h4, h5⟩ := hb x s ρ h s1 h1
    rw [List.map_cons, lp, h3]
    dsimp only
    rw [h4]
    cases s1 with
    | nx s2 =>
      obtain ⟨ρ3, h5, h6⟩ := h5
      have ih := lp_nforR hb r s2 s' ρ3 h2 h6
      rcases h5 with rfl | rfl <;> exact ih
    | bk s2 =>
      obtain ⟨ρ3, rfl, h6⟩ := h5
      cases h2
      exact Or.inl ⟨ρ3, s2, rfl, rfl, h6⟩
    | rt g =>
      obtain ⟨⟨d, ρ3, rfl⟩, h6⟩ := h5
      cases h2
      exact Or.inr ⟨g, d, ρ3, rfl, rfl, h6⟩
theorem c_forR {γ' : Type} {I : σ → En → Prop} {J' : γ' → Out → Prop} {ea : α → PyData} {l : List α} {s0 : σ} {bd : α → σ → Option (Lp σ γ')} {k : σ → Option γ} {w : γ' → γ} (h0 : I s0 ρ) (hb : ∀ x s ρ, I s ρ → TG gg (ea x) ρ b (bd x s) (JL I J')) (hw : ∀ g d ρ, J' g (.rt d ρ) → J (w g) (.rt d ρ)) (hr : ∀ s ρ, I s ρ → TK ρ rest (k s) J) :
    C (lend (nforR bd l s0) k w) (Jfor gg b rest J) (l.map ea) ρ := fun g q => by
  obtain ⟨s, h1, h2⟩ := bind_some' q
  rcases lp_nforR hb l s0 s ρ h1 h0 with ⟨ρ', t, rfl, h3, h4⟩ | ⟨g', d, ρ', rfl, h3, h4⟩
  · obtain ⟨o, h5, h6⟩ := hr t ρ' h4 g h2
    exact ⟨o, by rw [h3]; exact h5, h6⟩
  · cases h2
    exact ⟨.rt d ρ', by rw [h3]; rfl, hw _ _ _ h4⟩
def nwh (c : σ → Option Bool) (b : σ → Option σ) : Nat → σ → Option σ
  | 0, _ => none
  | m + 1, s => (c s).bind fun k => bif k then (b s).bind fun s' => nwh c b m s' else some s
def nwhR (c : σ → Option Bool) (b : σ → Option (Lp σ γ)) : Nat → σ → Option (Lp σ γ)
  | 0, _ => none
  | m + 1, s => (c s).bind fun k => bif k then (b s).bind fun o => match o with
    | .nx s' => nwhR c b m s'
    | .bk s' => some (.nx s')
    | .rt g => some (.rt g) else some (.nx s)
theorem whl_nwh {I : σ → En → Prop} {cn : σ → Option Bool} {bd : σ → Option σ} (hc : ∀ s ρ, I s ρ → TX ρ c (cn s) (JW I s)) (hb : ∀ s ρ, I s ρ → TK ρ b (bd s) (JC I)) : ∀ (m : Nat) (s s' : σ) (ρ : En), nwh cn bd m s = some s' → I s ρ → ∃ ρ', whl c b m ρ = some (.nx ρ') ∧ I s' ρ'
  | 0, s, s', ρ, q, h => by cases q
  | m + 1, s, s', ρ, q, h => by
    unfold nwh at q
    obtain ⟨k, h1, h2⟩ := bind_some' q
    obtain ⟨d, ρ1, h3, rfl, h4⟩ := hc s ρ h k h1
    rw [whl, h3]
    dsimp only [bnd]
    cases d with
    | false =>
      cases h2
      exact ⟨ρ1, rfl, h4⟩
    | true =>
      obtain ⟨s1, h5, h6⟩ := bind_some' h2
      obtain ⟨o, h7, ρ2, h8, h9⟩ := hb s ρ1 h4 s1 h5
      rw [if_pos rfl, h7]
      have ih := whl_nwh hc hb m s1 s' ρ2 h6 h9
      rcases h8 with rfl | rfl <;> exact ih
theorem s_while {I : σ → En → Prop} {m : Nat} {s0 : σ} {cn : σ → Option Bool} {bd : σ → Option σ} {k : σ → Option γ} (h0 : I s0 ρ) (hc : ∀ s ρ, I s ρ → TX ρ c (cn s) (JW I s)) (hb : ∀ s ρ, I s ρ → TK ρ b (bd s) (JC I)) (hr : ∀ s ρ, I s ρ → TK ρ rest (k s) J) : TK ρ (sSeq (whl c b m) rest) ((nwh cn bd m s0).bind k) J := fun g q => by
  obtain ⟨s, h1, h2⟩ := bind_some' q
  obtain ⟨ρ', h3, h4⟩ := whl_nwh hc hb m s0 s ρ h1 h0
  obtain ⟨o, h5, h6⟩ := hr s ρ' h4 g h2
  refine ⟨o, ?_, h6⟩
  show sThen (whl c b m ρ) rest = _
  rw [h3]
  exact h5
theorem whl_nwhR {γ' : Type} {I : σ → En → Prop} {J : γ' → Out → Prop} {cn : σ → Option Bool} {bd : σ → Option (Lp σ γ')} (hc : ∀ s ρ, I s ρ → TX ρ c (cn s) (JW I s)) (hb : ∀ s ρ, I s ρ → TK ρ b (bd s) (JL I J)) : ∀ (m : Nat) (s : σ) (s' : Lp σ γ') (ρ : En), nwhR cn bd m s = some s' → I s ρ → (∃ ρ' t, s' = .nx t ∧ whl c b m ρ = some (.nx ρ') ∧ I t ρ') ∨ (∃ g d ρ', s' = .rt g ∧ whl c b m ρ = some (.rt d ρ') ∧ J g (.rt d ρ'))
  | 0, s, s', ρ, q, h => by cases q
  | m + 1, s, s', ρ, q, h => by
    unfold nwhR at q
    obtain ⟨k, h1, h2⟩ := bind_some' q
    obtain ⟨d, ρ1, h3, rfl, h4⟩ := hc s ρ h k h1
    rw [whl, h3]
    dsimp only [bnd]
    cases d with
    | false =>
      cases h2
      exact Or.inl ⟨ρ1, s, rfl, rfl, h4⟩
    | true =>
      obtain ⟨s1, h5, h6⟩ := bind_some' h2
      obtain ⟨o, h7, h8⟩ := hb s ρ1 h4 s1 h5
      rw [if_pos rfl, h7]
      cases s1 with
      | nx s2 =>
        obtain ⟨ρ3, h5, h9⟩ := h8
        have ih := whl_nwhR hc hb m s2 s' ρ3 h6 h9
        rcases h5 with rfl | rfl <;> exact ih
      | bk s2 =>
        obtain ⟨ρ3, rfl, h9⟩ := h8
        cases h6
        exact Or.inl ⟨ρ3, s2, rfl, rfl, h9⟩
      | rt g =>
        obtain ⟨⟨d, ρ3, rfl⟩, h9⟩ := h8
        cases h6
        exact Or.inr ⟨g, d, ρ3, rfl, rfl, h9⟩
theorem s_whileR {γ' : Type} {I : σ → En → Prop} {J' : γ' → Out → Prop} {m : Nat} {s0 : σ} {cn : σ → Option Bool} {bd : σ → Option (Lp σ γ')} {k : σ → Option γ} {w : γ' → γ} (h0 : I s0 ρ) (hc : ∀ s ρ, I s ρ → TX ρ c (cn s) (JW I s)) (hb : ∀ s ρ, I s ρ → TK ρ b (bd s) (JL I J')) (hw : ∀ g d ρ, J' g (.rt d ρ) → J (w g) (.rt d ρ)) (hr : ∀ s ρ, I s ρ → TK ρ rest (k s) J) : TK ρ (sSeq (whl c b m) rest) (lend (nwhR cn bd m s0) k w) J := fun g q => by
  obtain ⟨s, h1, h2⟩ := bind_some' q
  rcases whl_nwhR hc hb m s0 s ρ h1 h0 with ⟨ρ', t, rfl, h3, h4⟩ | ⟨g', d, ρ', rfl, h3, h4⟩
  · obtain ⟨o, h5, h6⟩ := hr t ρ' h4 g h2
    refine ⟨o, ?_, h6⟩
    show sThen (whl c b m ρ) rest = _
    rw [h3]
    exact h5
  · cases h2
    refine ⟨.rt d ρ', ?_, hw _ _ _ h4⟩
    show sThen (whl c b m ρ) rest = _
    rw [h3]
    rfl
theorem jl_rt {I : σ → En → Prop} {J : γ → Out → Prop} {g : γ} {d : PyData} {ρ : En} (h : J g (.rt d ρ)) : JL I J (.rt g) (.rt d ρ) := ⟨⟨d, ρ, rfl⟩, h⟩
/-- a value that may be none is used -/
theorem x_vU {J : γ → PyData → En → Prop} {e : α → PyData} {o : Option α} {k : α → Option γ} (h : atE ρ i = some (.v (eO e o))) (K : ∀ a, C (k a) J (e a) ρ) : TX ρ (fVar i) (o.bind k) J := fun g q => by
  obtain ⟨a, h1, h2⟩ := bind_some' q
  subst h1
  rw [atE_eq] at h
  exact ⟨e a, ρ, by simp only [fVar, h]; rfl, K a g h2⟩
/-! ### whole defs -/
theorem runF_ok {k m : Nat} {fb : SF} {e : γ → PyData} {ds : List PyData} (h : TK (start1 m ds) fb n (JR e)) (hk : ds.length = k := by rfl) : ∀ r, n = some r → runF k m fb ds = some (e r) := fun r q => by
  obtain ⟨o, h1, h2⟩ := h r q
  unfold runF
  rw [if_pos (by rw [hk]; exact beq_self_eq_true _), h1]
  rcases h2 with ⟨ρ', rfl⟩ | ⟨ρ', rfl, h3⟩
  · rfl
  · rw [h3]
theorem runS_ok {k m : Nat} {fb : SF} {e : α → PyData} {s : Src} {ds : List PyData} {n : Option (α × Src)} (h : TK (startS m s ds) fb n (JS e)) (hk : ds.length + 1 = k := by rfl) : ∀ r, n = some r → runS k m fb s ds = some (e r.1, r.2) := fun r q => by
  obtain ⟨o, h1, h2⟩ := h r q
  unfold runS
  rw [if_pos (by rw [hk]; exact beq_self_eq_true _), h1]
  rcases h2 with ⟨ρ', rfl⟩ | ⟨ρ', rfl, h3⟩
  · rfl
  · rw [h3]
end
end Te
namespace Te
open PySem Fe

/-! ## comparing typed values -/
def ieq : Int → Int → Bool
  | .ofNat m, .ofNat n => Nat.beq m n
  | .negSucc m, .negSucc n => Nat.beq m n
  | .ofNat _, .negSucc _ => false
  | .negSucc _, .ofNat _ => false
def ilt : Int → Int → Bool
  | .ofNat m, .ofNat n => Nat.blt m n
  | .negSucc m, .negSucc n => Nat.blt n m
  | .ofNat _, .negSucc _ => false
  | .negSucc _, .ofNat _ => true
def ile : Int → Int → Bool
  | .ofNat m, .ofNat n => Nat.ble m n
  | .negSucc m, .negSucc n => Nat.ble n m
  | .ofNat _, .negSucc _ => false
  | .negSucc _, .ofNat _ => true
theorem nbeq (m n : Nat) : Nat.beq m n = decide (m = n) := by
  cases h : Nat.beq m n with
  | true => exact (decide_eq_true (Nat.eq_of_beq_eq_true h)).symm
  | false => exact (decide_eq_false (Nat.ne_of_beq_eq_false h)).symm
theorem nble (m n : Nat) : Nat.ble m n = decide (m ≤ n) := by
  cases h : Nat.ble m n with
  | true => exact (decide_eq_true (Nat.le_of_ble_eq_true h)).symm
  | false => exact (decide_eq_false (fun z => by rw [Nat.ble_eq_true_of_le z] at h; cases h)).symm
theorem nblt (m n : Nat) : Nat.blt m n = decide (m < n) := nble (m + 1) n
theorem ieq_eq (a b : Int) : ieq a b = decide (a = b) := by
  cases a <;> cases b <;> simp only [ieq, nbeq] <;> rw [← Bool.coe_iff_coe] <;> simp <;> omega
theorem ilt_eq (a b : Int) : ilt a b = decide (a < b) := by
  cases a <;> cases b <;> simp only [ilt, nblt] <;> rw [← Bool.coe_iff_coe] <;> simp <;> omega
theorem ile_eq (a b : Int) : ile a b = decide (a ≤ b) := by
  cases a <;> cases b <;> simp only [ile, nble] <;> rw [← Bool.coe_iff_coe] <;> simp <;> omega
theorem lt_ok {a b : Int} : oLt (.int a) (.int b) = some (.bool (ilt a b)) := by rw [ilt_eq]; rfl
theorem le_ok {a b : Int} : oLe (.int a) (.int b) = some (.bool (ile a b)) := by rw [ile_eq]; rfl
theorem gt_ok {a b : Int} : oGt (.int a) (.int b) = some (.bool (ilt b a)) := by rw [ilt_eq]; rfl
theorem ge_ok {a b : Int} : oGe (.int a) (.int b) = some (.bool (ile b a)) := by rw [ile_eq]; rfl
section
variable {α β γ δ : Type}
def eqB : Bool → Bool → Bool
  | true, b => b
  | false, b => !b
def eqU (_ _ : Unit) : Bool := true
def eqO (f : α → α → Bool) : Option α → Option α → Bool
  | none, none => true
  | some a, some b => f a b
  | _, _ => false
def eqL (f : α → α → Bool) : List α → List α → Bool
  | [], [] => true
  | a :: r, b :: w => f a b && eqL f r w
  | _, _ => false
def eqP (f : α → α → Bool) (g : β → β → Bool) (p q : α × β) : Bool := f p.1 q.1 && g p.2 q.2
def eqQ (f : α → α → Bool) (g : β → β → Bool) (h : γ → γ → Bool) (p q : α × β × γ) : Bool := f p.1 q.1 && (g p.2.1 q.2.1 && h p.2.2 q.2.2)
def eqR (f : α → α → Bool) (g : β → β → Bool) (h : γ → γ → Bool) (k : δ → δ → Bool) (p q : α × β × γ × δ) : Bool := f p.1 q.1 && (g p.2.1 q.2.1 && (h p.2.2.1 q.2.2.1 && k p.2.2.2 q.2.2.2))
/-- f tells whether two values are the same; k: how deep their data -/
structure Eqv (e : α → PyData) (k : Nat) (f : α → α → Bool) : Prop where
  lay : ∀ a, (e a).canLay0 = true
  dep : ∀ a, (e a).depth ≤ k
  eqv : ∀ a b, PyData.eqv (e a) (e b) = f a b
  law : ∀ a b, f a b = true ↔ a = b
theorem Eqv.iff {e : α → PyData} {k : Nat} {f : α → α → Bool} (E : Eqv e k f) [DecidableEq α] (a b : α) : f a b = decide (a = b) := by
  rw [← Bool.coe_iff_coe, E.law]
  simp
theorem qI : Eqv PyData.int 0 ieq := ⟨fun _ => rfl, fun _ => by rw [PyData.depth]; exact Nat.le_refl _, fun a b => by rw [ieq_eq, PyData.eqv, Bool.beq_eq_decide_eq], fun a b => by rw [ieq_eq]; simp⟩
theorem qB : Eqv PyData.bool 0 eqB := ⟨fun _ => rfl, fun _ => by rw [PyData.depth]; exact Nat.le_refl _, fun a b => by cases a <;> cases b <;> rfl, fun a b => by cases a <;> cases b <;> simp [eqB]⟩
theorem qU : Eqv eN 0 eqU := ⟨fun _ => rfl, fun _ => by show PyData.depth .none ≤ 0; rw [PyData.depth]; exact Nat.le_refl _, fun a b => rfl, fun a b => by simp [eqU]⟩
theorem qO {e : α → PyData} {k : Nat} {f : α → α → Bool} (E : Eqv e k f) (h : ∀ a, PyData.eqv .none (e a) = false) (h2 : ∀ a, PyData.eqv (e a) .none = false) : Eqv (eO e) k (eqO f) where
  lay a := by
    cases a with
    | none => rfl
    | some a => exact E.lay a
  dep a := by
    cases a with
    | none =>
      show PyData.depth .none ≤ k
      rw [PyData.depth]
      exact Nat.zero_le _
    | some a => exact E.dep a
  eqv a b := by
    cases a <;> cases b
    · rfl
    · exact h _
    · exact h2 _
    · exact E.eqv _ _
  law a b := by cases a <;> cases b <;> simp [eqO, E.law]
theorem layA {e : α → PyData} {k : Nat} {f : α → α → Bool} (E : Eqv e k f) : ∀ l : List α, PyData.canLayAll0 (l.map e) = true
  | [] => rfl
  | a :: r => by rw [List.map_cons, PyData.canLayAll0, E.lay, layA E r]; rfl
theorem depA {e : α → PyData} {k : Nat} {f : α → α → Bool} (E : Eqv e k f) : ∀ l : List α, PyData.depthAll (l.map e) ≤ k
  | [] => Nat.zero_le _
  | a :: r => by
    rw [List.map_cons, PyData.depthAll]
    exact Nat.max_le.mpr ⟨E.dep a, depA E r⟩
theorem eqvA {e : α → PyData} {k : Nat} {f : α → α → Bool} (E : Eqv e k f) : ∀ l m : List α, PyData.eqvAll (l.map e) (m.map e) = eqL f l m
  | [], [] => rfl
  | [], _ :: _ => rfl
  | _ :: _, [] => rfl
  | a :: r, b :: w => by rw [List.map_cons, List.map_cons, PyData.eqvAll, E.eqv, eqvA E r w]; rfl
theorem lawA {e : α → PyData} {k : Nat} {f : α → α → Bool} (E : Eqv e k f) : ∀ l m : List α, eqL f l m = true ↔ l = m
  | [], [] => by simp [eqL]
  | [], _ :: _ => by simp [eqL]
  | _ :: _, [] => by simp [eqL]
  | a :: r, b :: w => by simp [eqL, E.law, lawA E r w]
theorem qL {e : α → PyData} {k : Nat} {f : α → α → Bool} (E : Eqv e k f) : Eqv (eL e) (k + 1) (eqL f) where
  lay l := by
    show PyData.canLay0 (.list (l.map e)) = true
    rw [PyData.canLay0]
    exact layA E l
  dep l := by
    show PyData.depth (.list (l.map e)) ≤ k + 1
    rw [PyData.depth]
    have := depA E l
    omega
  eqv l m := by
    show PyData.eqv (.list (l.map e)) (.list (m.map e)) = _
    rw [PyData.eqv]
    exact eqvA E l m
  law := lawA E
theorem qS {e : α → PyData} {k : Nat} {f : α → α → Bool} (E : Eqv e k f) : Eqv (eS e) (k + 1) (eqL f) where
  lay l := by
    show PyData.canLay0 (.tuple (l.map e)) = true
    rw [PyData.canLay0]
    exact layA E l
  dep l := by
    show PyData.depth (.tuple (l.map e)) ≤ k + 1
    rw [PyData.depth]
    have := depA E l
    omega
  eqv l m := by
    show PyData.eqv (.tuple (l.map e)) (.tuple (m.map e)) = _
    rw [PyData.eqv]
    exact eqvA E l m
  law := lawA E
theorem qP {e : α → PyData} {e2 : β → PyData} {k k2 : Nat} {f : α → α → Bool} {g : β → β → Bool} (E : Eqv e k f) (F : Eqv e2 k2 g) : Eqv (eP e e2) (max k k2 + 1) (eqP f g) where
  lay p := by
    show PyData.canLay0 (.tuple [e p.1, e2 p.2]) = true
    rw [PyData.canLay0, PyData.canLayAll0, PyData.canLayAll0, PyData.canLayAll0, E.lay, F.lay]
    rfl
  dep p := by
    show PyData.depth (.tuple [e p.1, e2 p.2]) ≤ _
    rw [PyData.depth, PyData.depthAll, PyData.depthAll, PyData.depthAll]
    have := E.dep p.1
    have := F.dep p.2
    omega
  eqv p q := by
    show PyData.eqv (.tuple [e p.1, e2 p.2]) (.tuple [e q.1, e2 q.2]) = _
    rw [PyData.eqv, PyData.eqvAll, PyData.eqvAll, PyData.eqvAll, E.eqv, F.eqv, Bool.and_true]
    rfl
  law p q := by
    obtain ⟨a, b⟩ := p
    obtain ⟨c, d⟩ := q
    simp [eqP, E.law, F.law]
theorem qQ {e : α → PyData} {e2 : β → PyData} {e3 : γ → PyData} {k k2 k3 : Nat} {f : α → α → Bool} {g : β → β → Bool} {h : γ → γ → Bool} (E : Eqv e k f) (F : Eqv e2 k2 g) (G : Eqv e3 k3 h) : Eqv (eQ e e2 e3) (max k (max k2 k3) + 1) (eqQ f g h) where
  lay p := by
    show PyData.canLay0 (.tuple [e p.1, e2 p.2.1, e3 p.2.2]) = true
    rw [PyData.canLay0, PyData.canLayAll0, PyData.canLayAll0, PyData.canLayAll0, PyData.canLayAll0, E.lay, F.lay, G.lay]
    rfl
  dep p := by
    show PyData.depth (.tuple [e p.1, e2 p.2.1, e3 p.2.2]) ≤ _
    rw [PyData.depth, PyData.depthAll, PyData.depthAll, PyData.depthAll, PyData.depthAll]
    have := E.dep p.1
    have := F.dep p.2.1
    have := G.dep p.2.2
    omega
  eqv p q := by
    show PyData.eqv (.tuple [e p.1, e2 p.2.1, e3 p.2.2]) (.tuple [e q.1, e2 q.2.1, e3 q.2.2]) = _
    rw [PyData.eqv, PyData.eqvAll, PyData.eqvAll, PyData.eqvAll, PyData.eqvAll, E.eqv, F.eqv, G.eqv, Bool.and_true]
    rfl
  law p q := by
    obtain ⟨a, b, c⟩ := p
    obtain ⟨d, e, f⟩ := q
    simp [eqQ, E.law, F.law, G.law]
theorem qR {e : α → PyData} {e2 : β → PyData} {e3 : γ → PyData} {e4 : δ → PyData} {k k2 k3 k4 : Nat} {f : α → α → Bool} {g : β → β → Bool} {h : γ → γ → Bool} {f4 : δ → δ → Bool} (E : Eqv e k f) (F : Eqv e2 k2 g) (G : Eqv e3 k3 h) (H : Eqv e4 k4 f4) : Eqv (eR e e2 e3 e4) (max k (max k2 (max k3 k4)) + 1) (eqR f g h f4) where
  lay p := by
    show PyData.canLay0 (.tuple [e p.1, e2 p.2.1, e3 p.2.2.1, e4 p.2.2.2]) = true
    rw [PyData.canLay0, PyData.canLayAll0, PyData.canLayAll0, PyData.canLayAll0, PyData.canLayAll0, PyData.canLayAll0, E.lay, F.lay, G.lay, H.lay]
    rfl
  dep p := by
    show PyData.depth (.tuple [e p.1, e2 p.2.1, e3 p.2.2.1, e4 p.2.2.2]) ≤ _
    rw [PyData.depth, PyData.depthAll, PyData.depthAll, PyData.depthAll, PyData.depthAll, PyData.depthAll]
    have := E.dep p.1
    have := F.dep p.2.1
    have := G.dep p.2.2.1
    have := H.dep p.2.2.2
    omega
  eqv p q := by
    show PyData.eqv (.tuple [e p.1, e2 p.2.1, e3 p.2.2.1, e4 p.2.2.2]) (.tuple [e q.1, e2 q.2.1, e3 q.2.2.1, e4 q.2.2.2]) = _
    rw [PyData.eqv, PyData.eqvAll, PyData.eqvAll, PyData.eqvAll, PyData.eqvAll, PyData.eqvAll, E.eqv, F.eqv, G.eqv, H.eqv, Bool.and_true]
    rfl
  law p q := by
    obtain ⟨a, b, c, d⟩ := p
    obtain ⟨d, e, f, g⟩ := q
    simp [eqR, E.law, F.law, G.law, H.law]
theorem Eqv.shaped {e : α → PyData} {k : Nat} {f : α → α → Bool} (E : Eqv e k f) (hk : k ≤ 64) (a : α) : SeqAt.shaped (e a) = true := by
  unfold SeqAt.shaped
  rw [E.lay, decide_eq_true (Nat.le_trans (E.dep a) hk)]
  rfl
theorem eq_ok {e : α → PyData} {k : Nat} {f : α → α → Bool} (E : Eqv e k f) {a b : α} (hk : k ≤ 64 := by decide) : oEq (e a) (e b) = some (.bool (f a b)) := by
  unfold oEq
  rw [E.shaped hk, E.shaped hk, if_pos (show (true && true) = true from rfl), E.eqv]
theorem ne_ok {e : α → PyData} {k : Nat} {f : α → α → Bool} (E : Eqv e k f) {a b : α} (hk : k ≤ 64 := by decide) : oNe (e a) (e b) = some (.bool (!f a b)) := by
  unfold oNe
  rw [E.shaped hk, E.shaped hk, if_pos (show (true && true) = true from rfl), E.eqv]
def inL (f : α → α → Bool) (a : α) : List α → Bool
  | [] => false
  | x :: r => f x a || inL f a r
theorem inL_iff {e : α → PyData} {k : Nat} {f : α → α → Bool} (E : Eqv e k f) (a : α) : ∀ l : List α, inL f a l = true ↔ a ∈ l
  | [] => by simp [inL]
  | x :: r => by
    simp only [inL, Bool.or_eq_true, E.law, inL_iff E a r, List.mem_cons]
    exact ⟨fun h => h.elim (fun h => .inl h.symm) .inr, fun h => h.elim (fun h => .inl h.symm) .inr⟩
theorem any_inL {e : α → PyData} {k : Nat} {f : α → α → Bool} (E : Eqv e k f) (a : α) : ∀ l : List α, ((l.map e).any fun z => PyData.eqv z (e a)) = inL f a l
  | [] => rfl
  | x :: r => by rw [List.map_cons, List.any_cons, E.eqv, any_inL E a r]; rfl
theorem in_L {e : α → PyData} {k : Nat} {f : α → α → Bool} (E : Eqv e k f) {a : α} {l : List α} (hk : k + 1 ≤ 64 := by decide) : oIn (e a) (eL e l) = some (.bool (inL f a l)) := by
  show (if (SeqAt.shaped (e a) && SeqAt.shaped (.list (l.map e))) = true then some (PyData.bool ((l.map e).any fun z => PyData.eqv z (e a))) else none) = _
  have := (qL E).shaped hk l
  rw [E.shaped (by omega), show SeqAt.shaped (.list (l.map e)) = true from this, if_pos (show (true && true) = true from rfl), any_inL E]
theorem notIn_L {e : α → PyData} {k : Nat} {f : α → α → Bool} (E : Eqv e k f) {a : α} {l : List α} (hk : k + 1 ≤ 64 := by decide) : oNotIn (e a) (eL e l) = some (.bool (!inL f a l)) := by
  show (if (SeqAt.shaped (e a) && SeqAt.shaped (.list (l.map e))) = true then some (PyData.bool (!(l.map e).any fun z => PyData.eqv z (e a))) else none) = _
  have := (qL E).shaped hk l
  rw [E.shaped (by omega), show SeqAt.shaped (.list (l.map e)) = true from this, if_pos (show (true && true) = true from rfl), any_inL E]
theorem flatA {e : α → PyData} (h : ∀ a, flatD (e a) = true) : ∀ l : List α, (l.map e).all flatD = true
  | [] => rfl
  | x :: r => by rw [List.map_cons, List.all_cons, h, flatA h r]; rfl
theorem in_S {e : α → PyData} {k : Nat} {f : α → α → Bool} (E : Eqv e k f) (h : ∀ a, flatD (e a) = true) {a : α} {l : List α} : oIn (e a) (eS e l) = some (.bool (inL f a l)) := by
  show (if (flatD (e a) && (l.map e).all flatD) = true then some (PyData.bool ((l.map e).any fun z => PyData.eqv z (e a))) else none) = _
  rw [h, flatA h, if_pos (show (true && true) = true from rfl), any_inL E]
theorem notIn_S {e : α → PyData} {k : Nat} {f : α → α → Bool} (E : Eqv e k f) (h : ∀ a, flatD (e a) = true) {a : α} {l : List α} : oNotIn (e a) (eS e l) = some (.bool (!inL f a l)) := by
  show (if (flatD (e a) && (l.map e).all flatD) = true then some (PyData.bool (!(l.map e).any fun z => PyData.eqv z (e a))) else none) = _
  rw [h, flatA h, if_pos (show (true && true) = true from rfl), any_inL E]
/-! ## rows of a fixed length -/
def un2 : List α → Option (α × α)
  | [a, b] => some (a, b)
  | _ => none
def un3 : List α → Option (α × α × α)
  | [a, b, c] => some (a, b, c)
  | _ => none
def un4 : List α → Option (α × α × α × α)
  | [a, b, c, d] => some (a, b, c, d)
  | _ => none
theorem un2_ok {l : List α} {p : α × α} (h : un2 l = some p) : l = [p.1, p.2] := by
  unfold un2 at h
  split at h
  · cases h; rfl
  · cases h
theorem un3_ok {l : List α} {p : α × α × α} (h : un3 l = some p) : l = [p.1, p.2.1, p.2.2] := by
  unfold un3 at h
  split at h
  · cases h; rfl
  · cases h
theorem un4_ok {l : List α} {p : α × α × α × α} (h : un4 l = some p) : l = [p.1, p.2.1, p.2.2.1, p.2.2.2] := by
  unfold un4 at h
  split at h
  · cases h; rfl
  · cases h
/-! ## more list operations -/
def gsort (l : List Int) : Option (List Int) := bif Nat.ble l.length 16777216 then some (isortI l) else none
theorem gsort_ok {l : List Int} : ∀ c, gsort l = some c → oSortI (eL .int l) = some (c.map .int) := fun c h => by
  obtain ⟨h1, rfl⟩ := bif_some h
  unfold oSortI eL
  dsimp only
  rw [List.length_map, if_pos h1, intsD_map]
variable {n : Option γ} {ρ ρ1 ρ2 : En} {f g' : EF} {l : LF}
def JoSm (J : γ → Option Int → En → Prop) : γ → PyData → En → Prop := fun g x ρ1 => ∃ i, x = .int i ∧ J g (some i) ρ1
def JslL (i : Nat) (a b : Option Int) (J : γ → List PyData → En → Prop) : γ → En → Prop := fun g ρ2 => ∃ ds, rdA ρ2 i = some (.list ds) ∧ Nat.ble ds.length 16777216 = true ∧ J g (cutD ds a b) ρ2
def JslLe (x : PyData) (a b : Option Int) (J : γ → List PyData → En → Prop) : γ → En → Prop := fun g ρ2 => ∃ ds, x = .list ds ∧ Nat.ble ds.length 16777216 = true ∧ J g (cutD ds a b) ρ2
def JslT (i : Nat) (a b : Option Int) (J : γ → PyData → En → Prop) : γ → En → Prop := fun g ρ2 => ∃ ds, rdA ρ2 i = some (.tuple ds) ∧ ¬ (Nat.beq (sIxD ds.length 0 a) 0 && Nat.beq (sIxD ds.length ds.length b) ds.length) = true ∧ J g (.tuple (cutD ds a b)) ρ2
def JslTe (x : PyData) (a b : Option Int) (J : γ → PyData → En → Prop) : γ → En → Prop := fun g ρ2 => ∃ ds, x = .tuple ds ∧ ¬ (Nat.beq (sIxD ds.length 0 a) 0 && Nat.beq (sIxD ds.length ds.length b) ds.length) = true ∧ J g (.tuple (cutD ds a b)) ρ2
def Jen (K : δ → γ → En → Prop) : γ → δ → En → Prop := fun g b ρ => K b g ρ
def JopR (o : PyData → PyData → Option PyData) (x : Rf) (J : γ → PyData → En → Prop) : γ → Rf → En → Prop := fun g y ρ2 => ∃ d e, x.get ρ2 = some d ∧ y.get ρ2 = some e ∧ ∃ z, o d e = some z ∧ J g z ρ2
def Jrep2 (v : Bool) (d : PyData) (J : γ → PyData → En → Prop) : γ → Rf → En → Prop := fun g y ρ2 => ∃ e, y.get ρ2 = some e ∧ (sm d e && repOk d) = true ∧ J g (.bool v) ρ2
def Jrep1 (g' : En → Option (Rf × En)) (v : Bool) (J : γ → PyData → En → Prop) : γ → Rf → En → Prop := fun g x ρ1 => ∃ d, x.get ρ1 = some d ∧ ∃ y ρ2, g' ρ1 = some (y, ρ2) ∧ Jrep2 v d J g y ρ2
def Jch (o o' : PyData → PyData → Option PyData) (h : EF) (x : PyData) (J : γ → PyData → En → Prop) : γ → PyData → En → Prop := fun g y ρ2 => ∃ b, o x y = some (.bool b) ∧ ∃ b2 ρ3, (if b = true then bnd (h ρ2) fun z ρ3 => ret ρ3 (o' y z) else some (.bool false, ρ2)) = some (b2, ρ3) ∧ J g b2 ρ3
def JchF (o' : PyData → PyData → Option PyData) (y : PyData) (ρ : En) : Bool → PyData → En → Prop := fun g z ρ3 => o' y z = some (.bool g) ∧ ρ3 = ρ
theorem x_oNn {J : γ → Option Int → En → Prop} (h : C n J none ρ) : TX ρ oNn n J := fun g q => ⟨_, ρ, rfl, h g q⟩
theorem x_oSm {J : γ → Option Int → En → Prop} (h : TX ρ f n (JoSm J)) : TX ρ (oSm f) n J := fun g q => by
  obtain ⟨x, ρ1, h1, i, rfl, h2⟩ := h g q
  exact ⟨_, ρ1, by simp only [oSm, h1, bnd], h2⟩
theorem c_oSm {J : γ → Option Int → En → Prop} {i : Int} (h : C n J (some i) ρ) : C n (JoSm J) (.int i) ρ := fun g q => ⟨i, rfl, h g q⟩
def cutA (l : List α) (lo hi : Option Int) : List α := (l.drop (sIxD l.length 0 lo)).take (sIxD l.length l.length hi - sIxD l.length 0 lo)
theorem cutA_map (e : α → PyData) (l : List α) (lo hi : Option Int) : cutD (l.map e) lo hi = (cutA l lo hi).map e := by
  unfold cutD cutA
  rw [List.length_map, List.map_take, List.map_drop]
/-- a cut of a list; of a tuple -/
theorem x_slL {i : Nat} {lo hi : OF} {J : γ → List PyData → En → Prop} {d0 : PyData} (e : rdA ρ i = some d0) (h : TX ρ lo n (Jnx hi fun a => Jen fun b => JslL i a b J)) : TX ρ (fSlL (fRd i) lo hi) n J := fun g q => by
  obtain ⟨a, ρ1, h1, b, ρ2, h2, ds, h3, h4, h5⟩ := h g q
  rw [rdA_eq] at e h3
  exact ⟨_, ρ2, by simp only [fSlL, fRd, e, bnd, h1, h2, Rf.get, h3, h4, if_true], h5⟩
theorem x_slLe {lo hi : OF} {J : γ → List PyData → En → Prop} (h : TX ρ f n (Jnx lo fun x => Jnx hi fun a => Jen fun b => JslLe x a b J)) : TX ρ (fSlL (fVal f) lo hi) n J := fun g q => by
  obtain ⟨x, ρ0, h0, a, ρ1, h1, b, ρ2, h2, ds, rfl, h4, h5⟩ := h g q
  exact ⟨_, ρ2, by simp only [fSlL, fVal, h0, bnd, h1, h2, Rf.get, h4, if_true], h5⟩
theorem x_slT {i : Nat} {lo hi : OF} {J : γ → PyData → En → Prop} {d0 : PyData} (e : rdA ρ i = some d0) (h : TX ρ lo n (Jnx hi fun a => Jen fun b => JslT i a b J)) : TX ρ (fSlT (fRd i) lo hi) n J := fun g q => by
  obtain ⟨a, ρ1, h1, b, ρ2, h2, ds, h3, h4, h5⟩ := h g q
  rw [rdA_eq] at e h3
  exact ⟨_, ρ2, by simp only [fSlT, fRd, e, bnd, h1, h2, Rf.get, h3, if_neg h4], h5⟩
theorem x_slTe {lo hi : OF} {J : γ → PyData → En → Prop} (h : TX ρ f n (Jnx lo fun x => Jnx hi fun a => Jen fun b => JslTe x a b J)) : TX ρ (fSlT (fVal f) lo hi) n J := fun g q => by
  obtain ⟨x, ρ0, h0, a, ρ1, h1, b, ρ2, h2, ds, rfl, h4, h5⟩ := h g q
  exact ⟨_, ρ2, by simp only [fSlT, fVal, h0, bnd, h1, h2, Rf.get, if_neg h4], h5⟩
def gslL (l : List α) (lo hi : Option Int) : Option (List α) := bif Nat.ble l.length 16777216 then some (cutA l lo hi) else none
def gslT (l : List α) (lo hi : Option Int) : Option (List α) := bif Nat.beq (sIxD l.length 0 lo) 0 && Nat.beq (sIxD l.length l.length hi) l.length then none else some (cutA l lo hi)
theorem c_slLB {i : Nat} {J : γ → List PyData → En → Prop} {e : α → PyData} {l : List α} {a b : Option Int} {k : List α → Option γ} (h : rdA ρ i = some (eL e l)) (K : ∀ c, C (k c) J (c.map e) ρ) : C ((gslL l a b).bind k) (Jen fun b => JslL i a b J) b ρ := fun g q => by
  obtain ⟨c, h1, h2⟩ := bind_some' q
  obtain ⟨h3, rfl⟩ := bif_some h1
  exact ⟨_, h, by rw [List.length_map]; exact h3, by rw [cutA_map]; exact K _ g h2⟩
theorem c_slLBe {J : γ → List PyData → En → Prop} {e : α → PyData} {l : List α} {a b : Option Int} {k : List α → Option γ} (K : ∀ c, C (k c) J (c.map e) ρ) : C ((gslL l a b).bind k) (Jen fun b => JslLe (eL e l) a b J) b ρ := fun g q => by
  obtain ⟨c, h1, h2⟩ := bind_some' q
  obtain ⟨h3, rfl⟩ := bif_some h1
  exact ⟨_, rfl, by rw [List.length_map]; exact h3, by rw [cutA_map]; exact K _ g h2⟩
theorem gslT_some {l c : List α} {lo hi : Option Int} (h : gslT l lo hi = some c) : ¬ (Nat.beq (sIxD l.length 0 lo) 0 && Nat.beq (sIxD l.length l.length hi) l.length) = true ∧ cutA l lo hi = c := by
  unfold gslT at h
  cases hb : (Nat.beq (sIxD l.length 0 lo) 0 && Nat.beq (sIxD l.length l.length hi) l.length) with
  | true => rw [hb] at h; cases h
  | false => rw [hb] at h; cases h; exact ⟨by decide, rfl⟩
theorem c_slTB {i : Nat} {J : γ → PyData → En → Prop} {e : α → PyData} {l : List α} {a b : Option Int} {k : List α → Option γ} (h : rdA ρ i = some (eS e l)) (K : ∀ c, C (k c) J (eS e c) ρ) : C ((gslT l a b).bind k) (Jen fun b => JslT i a b J) b ρ := fun g q => by
  obtain ⟨c, h1, h2⟩ := bind_some' q
  obtain ⟨h3, rfl⟩ := gslT_some h1
  exact ⟨_, h, by rw [List.length_map]; exact h3, by rw [cutA_map]; exact K _ g h2⟩
theorem c_slTBe {J : γ → PyData → En → Prop} {e : α → PyData} {l : List α} {a b : Option Int} {k : List α → Option γ} (K : ∀ c, C (k c) J (eS e c) ρ) : C ((gslT l a b).bind k) (Jen fun b => JslTe (eS e l) a b J) b ρ := fun g q => by
  obtain ⟨c, h1, h2⟩ := bind_some' q
  obtain ⟨h3, rfl⟩ := gslT_some h1
  exact ⟨_, rfl, by rw [List.length_map]; exact h3, by rw [cutA_map]; exact K _ g h2⟩
theorem x_revv {i : Nat} {J : γ → List PyData → En → Prop} {ds : List PyData} (e : rdA ρ i = some (.list ds)) (hl : Nat.ble ds.length 16777216 = true) (h : C n J ds.reverse ρ) : TX ρ (fRev (fRd i)) n J := fun g q => by
  rw [rdA_eq] at e
  exact ⟨_, ρ, by simp only [fRev, fRd, e, bnd, Rf.get, hl, if_true], h g q⟩
/-- two things that are read -/
theorem x_opR {o : PyData → PyData → Option PyData} {f g' : En → Option (Rf × En)} {J : γ → PyData → En → Prop} (h : TX ρ f n (Jnx g' fun x => JopR o x J)) : TX ρ (fOpR o f g') n J := fun g q => by
  obtain ⟨x, ρ1, h1, y, ρ2, h2, d, e, h3, h4, z, h5, h6⟩ := h g q
  exact ⟨z, ρ2, by simp only [fOpR, h1, bnd, h2, h3, h4, h5, Fe.ret], h6⟩
theorem x_rd {i : Nat} {d : PyData} {J : γ → Rf → En → Prop} (e : rdA ρ i = some d) (h : C n J (.slot i) ρ) : TX ρ (fRd i) n J := fun g q => by
  rw [rdA_eq] at e
  exact ⟨.slot i, ρ, by simp only [fRd, e], h g q⟩
theorem x_val {J : γ → Rf → En → Prop} (h : TX ρ f n (Jmap Rf.val J)) : TX ρ (fVal f) n J := fun g q => by
  obtain ⟨x, ρ1, h1, h2⟩ := h g q
  exact ⟨.val x, ρ1, by simp only [fVal, h1, bnd], h2⟩
theorem c_val {J : γ → Rf → En → Prop} {x : PyData} (h : C n J (.val x) ρ) : C n (Jmap Rf.val J) x ρ := h
theorem c_opR {o : PyData → PyData → Option PyData} {g' : En → Option (Rf × En)} {J : γ → PyData → En → Prop} {x : Rf} (h : TX ρ1 g' n (JopR o x J)) :
  C n (Jnx g' fun x => JopR o x J) x ρ1 := h
def getA (ρ : En) : Rf → Option PyData
  | .val d => some d
  | .slot i => rdA ρ i
theorem getA_eq (ρ : En) (r : Rf) : getA ρ r = r.get ρ := by
  cases r with
  | val d => rfl
  | slot i => exact rdA_eq ρ i
theorem c_opR2 {o : PyData → PyData → Option PyData} {J : γ → PyData → En → Prop} {x y : Rf} {d e : PyData} (h1 : getA ρ x = some d) (h2 : getA ρ y = some e) (h : C n (JF (o d) J) e ρ) : C n (JopR o x J) y ρ := fun g q => by
  rw [getA_eq] at h1 h2
  exact ⟨d, e, h1, h2, h g q⟩
/-- repr(..) compared: only alike ones -/
theorem x_rep2 {v : Bool} {f g' : En → Option (Rf × En)} {J : γ → PyData → En → Prop} (h : TX ρ f n (Jrep1 g' v J)) : TX ρ (fRep2 v f g') n J := fun g q => by
  obtain ⟨x, ρ1, h1, d, h2, y, ρ2, h3, e, h4, h5, h6⟩ := h g q
  exact ⟨.bool v, ρ2, by simp only [fRep2, h1, bnd, h2, h3, h4, h5, if_true], h6⟩
theorem c_rep3 {g' : En → Option (Rf × En)} {v : Bool} {J : γ → PyData → En → Prop} {x : Rf} {d : PyData} (h1 : getA ρ1 x = some d) (h : TX ρ1 g' n (Jrep2 v d J)) : C n (Jrep1 g' v J) x ρ1 := fun g q => by
  rw [getA_eq] at h1
  obtain ⟨y, ρ2, h2, h3⟩ := h g q
  exact ⟨d, h1, y, ρ2, h2, h3⟩
def gsame (f : α → α → Bool) (e : α → PyData) (a b : α) : Option Unit := bif f a b && repOk (e a) then some () else none
theorem c_rep4 {v : Bool} {e : α → PyData} {kk : Nat} {f : α → α → Bool} (E : Eqv e kk f) {J : γ → PyData → En → Prop} {y : Rf} {a b : α} {k : Unit → Option γ} (h1 : getA ρ y = some (e b)) (h : C (k ()) J (.bool v) ρ) : C ((gsame f e a b).bind k) (Jrep2 v (e a) J) y ρ := fun g q => by
  obtain ⟨u, h2, h3⟩ := bind_some' q
  obtain ⟨h4, -⟩ := bif_some h2
  obtain ⟨h5, h6⟩ := Bool.and_eq_true_iff.mp h4
  have := (E.law a b).mp h5
  subst this
  rw [getA_eq] at h1
  refine ⟨_, h1, ?_, h g h3⟩
  rw [h6, sm_rfl _ (repOk_ok h6).1]
  rfl
/-- two comparisons in a chain -/
theorem x_chain {o o' : PyData → PyData → Option PyData} {f g' h : EF} {J : γ → PyData → En → Prop} (H : TX ρ f n (Jnx g' fun x => Jch o o' h x J)) : TX ρ (fChain o o' f g' h) n J := fun g q => by
  obtain ⟨x, ρ1, h1, y, ρ2, h2, b, h3, b2, ρ3, h4, h5⟩ := H g q
  refine ⟨b2, ρ3, ?_, h5⟩
  simp only [fChain, h1, bnd, h2, h3]
  cases b with
  | true => exact h4
  | false => exact h4
theorem c_chain1 {o o' : PyData → PyData → Option PyData} {g' h : EF} {J : γ → PyData → En → Prop} {x : PyData} (H : TX ρ1 g' n (Jch o o' h x J)) : C n (Jnx g' fun x => Jch o o' h x J) x ρ1 := H
theorem c_chain2 {o o' : PyData → PyData → Option PyData} {h : EF} {J : γ → PyData → En → Prop} {x y : PyData} {b v : Bool} (h1 : o x y = some (.bool b)) (h2 : TX ρ h (some v) (JchF o' y ρ)) (k : C n J (.bool (b && v)) ρ) : C n (Jch o o' h x J) y ρ := fun g q => by
  refine ⟨b, h1, .bool (b && v), ρ, ?_, k g q⟩
  cases b with
  | true =>
    obtain ⟨d, ρ', h3, h4, h5⟩ := h2 v rfl
    subst h5
    rw [if_pos rfl, h3]
    simp only [bnd, h4, Fe.ret, Bool.true_and]
  | false => rfl
end
end Te
namespace Te
open PySem Fe
section
variable {α β γ δ σ : Type} {n : Option γ} {ρ ρ1 ρ2 : En}
/-- the same data, written by its typed value -/
theorem c_re {J : γ → PyData → En → Prop} {e : α → PyData} {a : α} {d : PyData} (h : d = e a) (k : C n J (e a) ρ) : C n J d ρ := by
  rw [h]
  exact k
theorem c_disp {J : γ → List PyData → En → Prop} {e : α → PyData} {l : List α} {d : List PyData} (h : d = l.map e) (k : C n J (l.map e) ρ) : C n J d ρ := by
  rw [h]
  exact k
theorem c_eL {J : γ → PyData → En → Prop} {e : α → PyData} {l : List α} (k : C n J (eL e l) ρ) : C n (Jmap PyData.list J) (l.map e) ρ := k
theorem c_unw {J : γ → PyData → En → Prop} {e : α → PyData} {o : Option α} {m : α → Option γ} (k : ∀ a, C (m a) J (e a) ρ) : C (o.bind m) J (eO e o) ρ := fun g q => by
  obtain ⟨a, h1, h2⟩ := bind_some' q
  subst h1
  exact k a g h2
theorem c_cond {I : σ → En → Prop} {s : σ} {b : Bool} (h : I s ρ) : C (some b) (JW I s) b ρ := fun g q => by
  cases q
  exact ⟨rfl, h⟩
theorem jr_w {e : γ → PyData} : ∀ g d ρ, JR e g (.rt d ρ) → JR e (id g) (.rt d ρ) := fun _ _ _ h => h
/-- a block that draws nothing, its end -/
theorem c_ret1 {J : γ → Out → Prop} {w : α → γ} {a : α} {d : PyData} (h : J (w a) (.rt d ρ)) : C (some (w a)) (Jret J) d ρ := fun g q => by
  cases q
  exact h
theorem int_B {b : Bool} : oInt (.bool b) = some (.int (if b = true then 1 else 0)) := rfl
theorem abs_I {a : Int} : oAbs (.int a) = some (.int (iabs a)) := rfl
theorem min_I {a b : Int} : oMin (.int a) (.int b) = some (.int (imin a b)) := rfl
theorem max_I {a b : Int} : oMax (.int a) (.int b) = some (.int (imax a b)) := rfl
def b2i (b : Bool) : Int := bif b then 1 else 0
theorem int_b2i {b : Bool} : oInt (.bool b) = some (.int (b2i b)) := by cases b <;> rfl
theorem c_letC {J : γ → δ → En → Prop} {e : α → δ} {a : α} {m : α → Option γ} (k : ∀ v, C (m v) J (e v) ρ) : C (letV a m) J (e a) ρ := k a
theorem c_ixvU {i : Nat} {J : γ → PyData → En → Prop} {e : α → PyData} {o : Option α} {m : α → Option γ} {y : PyData} (h : rdA ρ i = some (eO e o)) (k : ∀ a, C (m a) (JF (oIx (e a)) J) y ρ) : C (o.bind m) (Jixv i J) y ρ := fun g q => by
  obtain ⟨a, h1, h2⟩ := bind_some' q
  subst h1
  exact ⟨_, h, k a g h2⟩
def gsortD {β : Type} (l : List (Int × β)) : Option (List Int) := bif Nat.ble l.length 16777216 then some (isortI (onceI [] (l.map Prod.fst))) else none
theorem keysI_map2 {β : Type} (e : β → PyData) : ∀ l : List (Int × β), keysI (l.map (eP PyData.int e)) = some (l.map Prod.fst)
  | [] => rfl
  | p :: r => by
    rw [List.map_cons, keysI.eq_def]
    show (match keysI (r.map (eP PyData.int e)) with | some l => some (p.1 :: l) | none => none) = _
    rw [keysI_map2 e r]
    rfl
theorem gsortD_ok {β : Type} {e : β → PyData} {l : List (Int × β)} : ∀ c, gsortD l = some c → oSortDict (eL (eP PyData.int e) l) = some (c.map PyData.int) := fun c h => by
  obtain ⟨h1, rfl⟩ := bif_some h
  show (if Nat.ble (l.map (eP PyData.int e)).length 16777216 = true then (match keysI (l.map (eP PyData.int e)) with
    | some l => some ((isortI (onceI [] l)).map PyData.int)
    | none => none) else none) = _
  rw [List.length_map, if_pos h1, keysI_map2]
/-- rows with stars -/
def Jstar (l : LF) (J : γ → List PyData → En → Prop) : γ → PyData → En → Prop := fun g x ρ1 => ∃ ds, (x = .list ds ∨ x = .tuple ds) ∧ ∃ xs ρ2, l ρ1 = some (xs, ρ2) ∧ J g (ds ++ xs) ρ2
theorem x_starv {i : Nat} {l : LF} {J : γ → List PyData → En → Prop} {d : PyData} (e : rdA ρ i = some d) (h : C n (Jstar l J) d ρ) : TX ρ (fStar (fRd i) l) n J := fun g q => by
  rw [rdA_eq] at e
  obtain ⟨ds, h1, xs, ρ2, h2, h3⟩ := h g q
  rcases h1 with rfl | rfl <;> exact ⟨_, ρ2, by simp only [fStar, fRd, e, bnd, Rf.get, h2], h3⟩
theorem x_stare {f : EF} {l : LF} {J : γ → List PyData → En → Prop} (h : TX ρ f n (Jstar l J)) : TX ρ (fStar (fVal f) l) n J := fun g q => by
  obtain ⟨x, ρ1, h0, ds, h1, xs, ρ2, h2, h3⟩ := h g q
  rcases h1 with rfl | rfl <;> exact ⟨_, ρ2, by simp only [fStar, fVal, h0, bnd, Rf.get, h2], h3⟩
theorem c_starL {l : LF} {J : γ → List PyData → En → Prop} {e : α → PyData} {m : List α} (h : TX ρ l n (Jmap (m.map e ++ ·) J)) : C n (Jstar l J) (eL e m) ρ := fun g q => by
  obtain ⟨xs, ρ2, h1, h2⟩ := h g q
  exact ⟨_, Or.inl rfl, xs, ρ2, h1, h2⟩
theorem c_starS {l : LF} {J : γ → List PyData → En → Prop} {e : α → PyData} {m : List α} (h : TX ρ l n (Jmap (m.map e ++ ·) J)) : C n (Jstar l J) (eS e m) ρ := fun g q => by
  obtain ⟨xs, ρ2, h1, h2⟩ := h g q
  exact ⟨_, Or.inr rfl, xs, ρ2, h1, h2⟩
theorem c_lenB {J : γ → List PyData → En → Prop} {e : α → PyData} {l : List α} {k : Unit → Option γ} (h : C (k ()) J (l.map e) ρ) : C ((glt l).bind k) (Jlen J) (l.map e) ρ := fun g q => by
  obtain ⟨u, h1, h2⟩ := bind_some' q
  exact ⟨by rw [List.length_map]; exact glt_ok h1, h g h2⟩
theorem c_lenTB {J : γ → PyData → En → Prop} {e : α → PyData} {l : List α} {k : Unit → Option γ} (h : C (k ()) J (eS e l) ρ) : C ((glt l).bind k) (Jlen (Jmap PyData.tuple J)) (l.map e) ρ := fun g q => by
  obtain ⟨u, h1, h2⟩ := bind_some' q
  exact ⟨by rw [List.length_map]; exact glt_ok h1, h g h2⟩
/-! ### taken out of a list of one's own -/
def gpop (l : List α) (j : Int) : Option (α × List α) := match j with
  | .ofNat m => bif Nat.ble l.length 16777216 then (match l[m]? with
    | some a => some (a, l.eraseIdx m)
    | none => none) else none
  | .negSucc _ => none
def JpopAt (i : Nat) (J : γ → PyData → En → Prop) : γ → PyData → En → Prop := fun g j ρ1 => ∃ m ds d, j = .int (.ofNat m) ∧ atE ρ1 i = some (.own ds) ∧ ds[m]? = some d ∧ Nat.ble ds.length 16777216 = true ∧ J g d (ρ1.set i (.own (ds.eraseIdx m)))
theorem x_popAt {i : Nat} {f : EF} {J : γ → PyData → En → Prop} {d0 : List PyData} (e : atE ρ i = some (.own d0)) (h : TX ρ f n (JpopAt i J)) : TX ρ (fPopAt i f) n J := fun g q => by
  obtain ⟨j, ρ1, h1, m, ds, d, rfl, h2, h3, h4, h5⟩ := h g q
  rw [atE_eq] at e h2
  exact ⟨d, _, by simp only [fPopAt, e, h1, bnd, h2, h3, h4, if_true], h5⟩
theorem eraseIdx_map (e : α → PyData) : ∀ (l : List α) (m : Nat), (l.map e).eraseIdx m = (l.eraseIdx m).map e
  | [], _ => rfl
  | _ :: _, 0 => rfl
  | a :: r, m + 1 => by
    simp only [List.map_cons, List.eraseIdx_cons_succ, List.map_cons]
    rw [eraseIdx_map e r m]
theorem c_popAt {i : Nat} {J : γ → PyData → En → Prop} {e : α → PyData} {l : List α} {j : Int} {k : α × List α → Option γ} {R : List α → En} (hl : atE ρ i = some (.own (l.map e))) (hR : ∀ l' : List α, ρ.set i (.own (l'.map e)) = R l') (K : ∀ c, C (k c) J (e c.1) (R c.2)) : C ((gpop l j).bind k) (JpopAt i J) (.int j) ρ := fun g q => by
  obtain ⟨c, h1, h2⟩ := bind_some' q
  unfold gpop at h1
  split at h1
  · rename_i m
    cases hb : Nat.ble l.length 16777216 with
    | false => rw [hb] at h1; cases h1
    | true =>
      rw [hb] at h1
      simp only [cond_true] at h1
      split at h1
      · rename_i a ha
        cases h1
        refine ⟨m, _, _, rfl, hl, by rw [List.getElem?_map, ha]; rfl, by rw [List.length_map]; exact hb, ?_⟩
        have := K _ g h2
        rw [← hR] at this
        rw [eraseIdx_map]
        exact this
      · cases h1
  · cases h1
def gpopE (l : List α) : Option (α × List α) := match l[l.length - 1]? with
  | some a => some (a, l.dropLast)
  | none => none
theorem x_pop {i : Nat} {J : γ → PyData → En → Prop} {e : α → PyData} {l : List α} {k : α × List α → Option γ} {R : List α → En} (hl : atE ρ i = some (.own (l.map e))) (hR : ∀ l' : List α, ρ.set i (.own (l'.map e)) = R l') (K : ∀ c, C (k c) J (e c.1) (R c.2)) : TX ρ (fPop i) ((gpopE l).bind k) J := fun g q => by
  obtain ⟨c, h1, h2⟩ := bind_some' q
  unfold gpopE at h1
  split at h1
  · rename_i a ha
    cases h1
    have := K _ g h2
    rw [← hR] at this
    rw [atE_eq] at hl
    refine ⟨_, _, ?_, this⟩
    simp only [fPop, hl, List.length_map, List.getElem?_map, ha, Option.map_some, List.map_dropLast]
  · cases h1
theorem eqvAll_nil (l : List PyData) : PyData.eqvAll l [] = l.isEmpty := by cases l <;> rfl
theorem eqNil_ok {e : α → PyData} {kk : Nat} {f : α → α → Bool} (E : Eqv e kk f) (hk : kk ≤ 60) {l : List α} : oEq (eL e l) (eL e []) = some (.bool l.isEmpty) := by
  have h1 := (qL E).shaped (by omega) l
  have h2 := (qL E).shaped (by omega) []
  unfold oEq
  rw [h1, h2, if_pos (show (true && true) = true from rfl)]
  show some (PyData.bool (PyData.eqv (.list (l.map e)) (.list []))) = _
  rw [PyData.eqv, eqvAll_nil]
  cases l <;> rfl
theorem neNil_ok {e : α → PyData} {kk : Nat} {f : α → α → Bool} (E : Eqv e kk f) (hk : kk ≤ 60) {l : List α} : oNe (eL e l) (eL e []) = some (.bool !l.isEmpty) := by
  have h := eqNil_ok E hk (l := l)
  unfold oEq at h
  unfold oNe
  split at h
  · rename_i hc
    rw [if_pos hc]
    injection h with h
    injection h with h
    rw [h]
  · cases h
/-! ### draws -/
def gpick (p : Src → Int → Int × Src) (s : Src) (m : Int) : Option (Int × Src) := bif Nat.blt m.natAbs.log2 9000 then some (p s m) else none
theorem gpick_ok {p : Src → Int → Int × Src} {s : Src} {m : Int} : ∀ r, gpick p s m = some r → fPick p s [.int m] = some (.int r.1, r.2) := fun r h => by
  obtain ⟨h1, rfl⟩ := bif_some h
  show (if Nat.blt m.natAbs.log2 9000 = true then some (PyData.int (p s m).1, (p s m).2) else none) = _
  rw [if_pos h1]
theorem law_ok {m : Nat} {fb : SF} {s : Src} {n : Option Bool} (h : TK (startL m s) fb n (JR PyData.bool)) (hn : n = some true) : ∃ ρ', fb (startL m s) = some (.rt (.bool true) ρ') := by
  obtain ⟨o, h1, h2⟩ := h true hn
  rcases h2 with ⟨ρ', rfl⟩ | ⟨ρ', rfl, h3⟩
  · exact ⟨ρ', h1⟩
  · cases h3
/-- list(range(..)) -/
def glr (a b : Int) : Option (List Int) := bif lrOk a b then some (irg a (b - a).toNat) else none
def JI2 (F : Int → Int → Option (List PyData)) (x : PyData) (J : γ → List PyData → En → Prop) : γ → PyData → En → Prop := fun g y ρ => ∃ i j, x = .int i ∧ y = .int j ∧ ∃ z, F i j = some z ∧ J g z ρ
def JI1 (F : Int → Option (List PyData)) (J : γ → List PyData → En → Prop) : γ → PyData → En → Prop := fun g y ρ => ∃ j, y = .int j ∧ ∃ z, F j = some z ∧ J g z ρ
def lr2 (i j : Int) : Option (List PyData) := if lrOk i j = true then some (rngL i (j - i).toNat) else none
theorem x_lr2 {f f2 : EF} {J : γ → List PyData → En → Prop} (h : TX ρ f n (Jnx f2 fun x => JI2 lr2 x J)) : TX ρ (fLrg2 f f2) n J := fun g q => by
  obtain ⟨x, ρ1, h1, y, ρ2, h2, i, j, rfl, rfl, z, h3, h4⟩ := h g q
  unfold lr2 at h3
  split at h3
  · rename_i hz
    cases h3
    exact ⟨_, ρ2, by simp only [fLrg2, h1, bnd, h2, hz, if_true], h4⟩
  · cases h3
theorem x_lr1 {f : EF} {J : γ → List PyData → En → Prop} (h : TX ρ f n (JI1 (lr2 0) J)) : TX ρ (fLrg1 f) n J := fun g q => by
  obtain ⟨x, ρ1, h1, j, rfl, z, h3, h4⟩ := h g q
  unfold lr2 at h3
  split at h3
  · rename_i hz
    cases h3
    exact ⟨rngL 0 j.toNat, ρ1, by simp only [fLrg1, h1, bnd, hz, if_true], by rw [Int.sub_zero] at h4; exact h4⟩
  · cases h3
theorem glr_some {a b : Int} {l : List Int} (h : glr a b = some l) : lr2 a b = some (l.map PyData.int) := by
  obtain ⟨h1, rfl⟩ := bif_some h
  unfold lr2
  rw [if_pos h1, rngL_eq]
theorem c_lr2 {a b : Int} {J : γ → List PyData → En → Prop} {k : List Int → Option γ} (K : ∀ c, C (k c) J (c.map .int) ρ) : C ((glr a b).bind k) (JI2 lr2 (.int a) J) (.int b) ρ := fun g q => by
  obtain ⟨c, h1, h2⟩ := bind_some' q
  exact ⟨a, b, rfl, rfl, _, glr_some h1, K c g h2⟩
theorem c_lr1 {b : Int} {J : γ → List PyData → En → Prop} {k : List Int → Option γ} (K : ∀ c, C (k c) J (c.map .int) ρ) : C ((glr 0 b).bind k) (JI1 (lr2 0) J) (.int b) ρ := fun g q => by
  obtain ⟨c, h1, h2⟩ := bind_some' q
  exact ⟨b, rfl, _, glr_some h1, K c g h2⟩
end
end Te
/-! what the typed functions' parts answer -/
namespace Te
open PySem Fe
section
variable {α β γ δ σ : Type}
theorem gmul_bd {a b : Int} {k l : Nat} (ha : Bd k a) (hb : Bd l b) (h1 : k < 1000 := by decide) (h2 : l < 1000 := by decide) : gmul a b = some (a * b) := by
  unfold gmul
  rw [Bd.mulOk ha hb h1 h2]
  rfl
theorem gdiv_pos {a b : Int} (h : 0 < b) (hb : b.natAbs.log2 < 9000) : gdiv a b = some (a / b) := by
  unfold gdiv
  rw [divOk_of h hb]
  rfl
theorem gmod_pos {a b : Int} (h : 0 < b) : gmod a b = some (a % b) := by
  unfold gmod
  rw [modOk_of h]
  rfl
theorem glt_len {l : List α} (h : l.length ≤ 16777216) : glt l = some () := by
  unfold glt
  rw [Nat.ble_eq_true_of_le h]
  rfl
theorem gln_len {l : List α} (h : l.length ≤ 16777216) : gln l = some l := by
  unfold gln
  rw [Nat.ble_eq_true_of_le h]
  rfl
theorem gapp_len {l : List α} {v : α} (h : l.length < 16777216) : gapp l v = some (l ++ [v]) := by
  unfold gapp
  rw [show Nat.blt l.length 16777216 = true from Nat.ble_eq_true_of_le h]
  rfl
theorem gcat_len {l m : List α} (h : l.length + m.length ≤ 16777216) : gcat l m = some (l ++ m) := by
  unfold gcat
  rw [Nat.ble_eq_true_of_le h]
  rfl
theorem grng_in {a b : Int} (ha : inB a = true) (hb : inB b = true) : grng a b = some (irg a (b - a).toNat) := by
  unfold grng
  rw [ha, hb]
  rfl
theorem grng_sm {a b : Int} (ha : a.natAbs ≤ 16777216) (hb : b.natAbs ≤ 16777216) : grng a b = some (irg a (b - a).toNat) := grng_in (inB_of (by omega) (by omega)) (inB_of (by omega) (by omega))
theorem glr_sm {a b : Int} (ha : a.natAbs ≤ 16777216) (hb : b.natAbs ≤ 16777216) (h : (b - a).toNat ≤ 16777216) : glr a b = some (irg a (b - a).toNat) := by
  unfold glr lrOk
  rw [inB_of (by omega) (by omega), inB_of (by omega) (by omega), Nat.ble_eq_true_of_le h]
  rfl
theorem gix_nat {l : List α} {n : Nat} {z : Int} (hz : z = (n : Int)) : gix l z = l[n]? := by
  subst hz
  rfl
theorem nlc_ok {t : α → Option Bool} {h : α → Option β} {p : α → Bool} {f : α → β} : ∀ {l : List α}, (∀ x ∈ l, t x = some (p x)) → (∀ x ∈ l, p x = true → h x = some (f x)) → nlc t h l = some ((l.filter p).map f)
  | [], _, _ => rfl
  | x :: r, h1, h2 => by
    unfold nlc
    rw [h1 x List.mem_cons_self, nlc_ok (fun y hy => h1 y (List.mem_cons_of_mem _ hy)) (fun y hy => h2 y (List.mem_cons_of_mem _ hy)), List.filter_cons]
    cases hp : p x with
    | false => rfl
    | true =>
      show (h x).bind _ = _
      rw [h2 x List.mem_cons_self hp]
      rfl
theorem nmp_ok {h : α → Option β} {f : α → β} : ∀ {l : List α}, (∀ x ∈ l, h x = some (f x)) → nmp h l = some (l.map f)
  | [], _ => rfl
  | x :: r, h1 => by
    unfold nmp
    rw [h1 x List.mem_cons_self, nmp_ok (fun y hy => h1 y (List.mem_cons_of_mem _ hy))]
    rfl
/-- each element answers something with P -/
theorem nmp_ex {h : α → Option β} {P : α → β → Prop} : ∀ {l : List α}, (∀ x ∈ l, ∃ y, h x = some y ∧ P x y) → ∃ ys, nmp h l = some ys ∧ ys.length = l.length ∧ ∀ (i : Nat) (x : α) (y : β), l[i]? = some x → ys[i]? = some y → P x y
  | [], _ => ⟨[], rfl, rfl, fun i x y h => by simp at h⟩
  | x :: r, h1 => by
    obtain ⟨y, h2, h3⟩ := h1 x List.mem_cons_self
    obtain ⟨ys, h4, h5, h6⟩ := nmp_ex (fun y hy => h1 y (List.mem_cons_of_mem _ hy))
    refine ⟨y :: ys, ?_, by simp [h5], ?_⟩
    · unfold nmp
      rw [h2, h4]
      rfl
    · intro i a b ha hb
      cases i with
      | zero =>
        simp at ha hb
        subst ha hb
        exact h3
      | succ i => exact h6 i a b (by simpa using ha) (by simpa using hb)
theorem nmpS_ex {h : α → Src → Option (β × Src)} {P : α → β → Prop} : ∀ {l : List α}, (∀ x ∈ l, ∀ s, ∃ y s', h x s = some (y, s') ∧ P x y) → ∀ s, ∃ ys s', nmpS h l s = some (ys, s') ∧ ys.length = l.length ∧ ∀ (i : Nat) (x : α) (y : β), l[i]? = some x → ys[i]? = some y → P x y
  | [], _, s => ⟨[], s, rfl, rfl, fun i x y h => by simp at h⟩
  | x :: r, h1, s => by
    obtain ⟨y, s1, h2, h3⟩ := h1 x List.mem_cons_self s
    obtain ⟨ys, s2, h4, h5, h6⟩ := nmpS_ex (fun y hy => h1 y (List.mem_cons_of_mem _ hy)) s1
    refine ⟨y :: ys, s2, ?_, by simp [h5], ?_⟩
    · unfold nmpS
      rw [h2]
      show (nmpS h r s1).bind _ = _
      rw [h4]
      rfl
    · intro i a b ha hb
      cases i with
      | zero =>
        simp at ha hb
        subst ha hb
        exact h3
      | succ i => exact h6 i a b (by simpa using ha) (by simpa using hb)
theorem nfor_inv {b : α → σ → Option σ} (P : Nat → σ → Prop) : ∀ (l : List α) (k : Nat) (s : σ), P k s → (∀ i x s, l[i]? = some x → P (k + i) s → ∃ s', b x s = some s' ∧ P (k + i + 1) s') → ∃ s', nfor b l s = some s' ∧ P (k + l.length) s'
  | [], k, s, h, _ => ⟨s, rfl, h⟩
  | x :: r, k, s, h, hs => by
    obtain ⟨s1, h1, h2⟩ := hs 0 x s rfl h
    obtain ⟨s2, h3, h4⟩ := nfor_inv P r (k + 1) s1 h2 fun i y s hy hp => by
      have := hs (i + 1) y s (by simpa using hy) (by rw [show k + (i + 1) = k + 1 + i by omega]; exact hp)
      rwa [show k + (i + 1) + 1 = k + 1 + i + 1 by omega] at this
    refine ⟨s2, ?_, ?_⟩
    · unfold nfor
      rw [h1]
      exact h3
    · rw [List.length_cons, show k + (r.length + 1) = k + 1 + r.length by omega]
      exact h4
/-- a loop that folds -/
theorem nfor_fold {b : α → σ → Option σ} {f : σ → α → σ} (P : σ → Prop) : ∀ (l : List α) (s : σ), P s → (∀ x ∈ l, ∀ s, P s → b x s = some (f s x) ∧ P (f s x)) → nfor b l s = some (l.foldl f s) ∧ P (l.foldl f s)
  | [], s, h, _ => ⟨rfl, h⟩
  | x :: r, s, h, hs => by
    obtain ⟨h1, h2⟩ := hs x List.mem_cons_self s h
    have := nfor_fold (b := b) P r (f s x) h2 fun y hy => hs y (List.mem_cons_of_mem _ hy)
    refine ⟨?_, this.2⟩
    unfold nfor
    rw [h1]
    exact this.1
theorem nwh_inv {c : σ → Option Bool} {b : σ → Option σ} (P : σ → Prop) (cb : σ → Bool) (m : σ → Nat) (hc : ∀ s, P s → c s = some (cb s)) (hb : ∀ s, P s → cb s = true → ∃ s', b s = some s' ∧ P s' ∧ m s' < m s) : ∀ (n : Nat) (s : σ), P s → m s < n → ∃ s', nwh c b n s = some s' ∧ P s' ∧ cb s' = false
  | 0, s, _, h => by omega
  | n + 1, s, h, hm => by
    unfold nwh
    rw [hc s h]
    cases hk : cb s with
    | false => exact ⟨s, rfl, h, hk⟩
    | true =>
      obtain ⟨s1, h1, h2, h3⟩ := hb s h hk
      obtain ⟨s2, h4, h5⟩ := nwh_inv P cb m hc hb n s1 h2 (by omega)
      refine ⟨s2, ?_, h5⟩
      show (b s).bind _ = _
      rw [h1]
      exact h4
/-- a loop that never leaves -/
theorem nforR_all {b : α → σ → Option (Lp σ γ)} (P : σ → Prop) : ∀ (l : List α) (s : σ), P s → (∀ x ∈ l, ∀ s, P s → ∃ s', b x s = some (.nx s') ∧ P s') → ∃ s', nforR b l s = some (.nx s') ∧ P s'
  | [], s, h, _ => ⟨s, rfl, h⟩
  | x :: r, s, h, hs => by
    obtain ⟨s1, h1, h2⟩ := hs x List.mem_cons_self s h
    obtain ⟨s2, h3, h4⟩ := nforR_all P r s1 h2 fun y hy => hs y (List.mem_cons_of_mem _ hy)
    refine ⟨s2, ?_, h4⟩
    unfold nforR
    rw [h1]
    exact h3
/-- a loop without a state that finds -/
theorem nforR_find {b : α → Unit → Option (Lp Unit γ)} {P : γ → Prop} : ∀ (l : List α), (∀ x ∈ l, b x () = some (.nx ()) ∨ ∃ g, b x () = some (.rt g) ∧ P g) → (∃ x ∈ l, ∃ g, b x () = some (.rt g)) → ∃ g, nforR b l () = some (.rt g) ∧ P g
  | [], _, ⟨_, h, _⟩ => by cases h
  | x :: r, h1, ⟨y, hy, g, hg⟩ => by
    unfold nforR
    rcases h1 x List.mem_cons_self with h2 | ⟨g2, h2, h3⟩
    · rw [h2]
      rcases List.mem_cons.mp hy with rfl | hy
      · rw [h2] at hg
        cases hg
      · exact nforR_find r (fun z hz => h1 z (List.mem_cons_of_mem _ hz)) ⟨y, hy, g, hg⟩
    · rw [h2]
      exact ⟨g2, rfl, h3⟩
theorem nforR_none {b : α → Unit → Option (Lp Unit γ)} : ∀ (l : List α), (∀ x ∈ l, b x () = some (.nx ())) → nforR b l () = some (.nx ())
  | [], _ => rfl
  | x :: r, h1 => by
    unfold nforR
    rw [h1 x List.mem_cons_self]
    exact nforR_none r fun z hz => h1 z (List.mem_cons_of_mem _ hz)
theorem nforR_or {b : α → Unit → Option (Lp Unit γ)} {P : γ → Prop} : ∀ (l : List α), (∀ x ∈ l, b x () = some (.nx ()) ∨ ∃ g, b x () = some (.rt g) ∧ P g) → nforR b l () = some (.nx ()) ∨ ∃ g, nforR b l () = some (.rt g) ∧ P g
  | [], _ => Or.inl rfl
  | x :: r, h1 => by
    unfold nforR
    rcases h1 x List.mem_cons_self with h2 | ⟨g2, h2, h3⟩
    · rw [h2]
      exact nforR_or r fun z hz => h1 z (List.mem_cons_of_mem _ hz)
    · rw [h2]
      exact Or.inr ⟨g2, rfl, h3⟩
/-! ### draws -/
theorem gpick_at {p : Src → Int → Int × Src} (hr : ∀ (s : Src) {m : Int}, 0 < m → 0 ≤ (p s m).1 ∧ (p s m).1 < m) (s : Src) {m : Int} (h : 0 < m) (h2 : m.natAbs.log2 < 9000) : ∃ (k : Nat) (s' : Src), (k : Int) < m ∧ gpick p s m = some ((k : Int), s') := by
  obtain ⟨h3, h4⟩ := hr s h
  refine ⟨(p s m).1.toNat, (p s m).2, by omega, ?_⟩
  unfold gpick
  rw [show Nat.blt m.natAbs.log2 9000 = true from Nat.ble_eq_true_of_le h2]
  show some (p s m) = _
  rw [Int.toNat_of_nonneg h3]
theorem log2_sm {m : Int} (h : m.natAbs < 2 ^ 60) : m.natAbs.log2 < 9000 := by
  have := log2_lt (k := 60) (by decide) h
  omega
theorem gof_at {p : Src → Int → Int × Src} (hr : ∀ (s : Src) {m : Int}, 0 < m → 0 ≤ (p s m).1 ∧ (p s m).1 < m) (s : Src) {l : List α} (h : 0 < l.length) (h2 : l.length < 2 ^ 60) : ∃ a s', a ∈ l ∧ ((gpick p s (l.length : Int)).bind fun c => (gix l c.1).bind fun a => some (a, c.2)) = some (a, s') := by
  obtain ⟨k, s', hk, e⟩ := gpick_at hr s (m := (l.length : Int)) (by omega) (log2_sm (by omega))
  have hk' : k < l.length := by omega
  refine ⟨l[k], s', List.getElem_mem hk', ?_⟩
  rw [e]
  show (gix l (k : Int)).bind _ = _
  rw [gix_nat rfl, List.getElem?_eq_getElem hk']
  rfl
theorem erase_perm : ∀ (l : List α) (k : Nat) (h : k < l.length), (l[k] :: l.eraseIdx k).Perm l
  | a :: r, 0, _ => List.Perm.refl _
  | a :: r, k + 1, h => by
    have h' : k < r.length := by simpa using h
    have := erase_perm r k h'
    show (r[k] :: a :: r.eraseIdx k).Perm (a :: r)
    exact (List.Perm.swap a r[k] _).trans (this.cons a)
def fuel0 : Nat := 1048576
theorem gmix_at {p : Src → Int → Int × Src} (hr : ∀ (s : Src) {m : Int}, 0 < m → 0 ≤ (p s m).1 ∧ (p s m).1 < m) (s : Src) (l : List α) (h : l.length < 1048576) :
    ∃ l' s', l'.Perm l ∧ ((gln l).bind fun c3 => (nwh (fun s4 : Src × List α × List α => some (!s4.2.1.isEmpty)) (fun s4 => (gpick p s4.1 (s4.2.1.length : Int)).bind fun c5 => (gpop s4.2.1 c5.1).bind fun c6 => (gapp s4.2.2 c6.1).bind fun found8 => some (c5.2, c6.2, found8)) fuel0 (s, c3, ([] : List α))).bind fun w10 => some (w10.2.2, w10.1)) = some (l', s') := by
  rw [gln_len (by omega)]
  obtain ⟨w, h1, ⟨h2, h3⟩, h4⟩ := nwh_inv (c := fun s4 : Src × List α × List α => some (!s4.2.1.isEmpty)) (b := fun s4 => (gpick p s4.1 (s4.2.1.length : Int)).bind fun c5 => (gpop s4.2.1 c5.1).bind fun c6 => (gapp s4.2.2 c6.1).bind fun found8 => some (c5.2, c6.2, found8))
    (fun w => (w.2.1 ++ w.2.2).Perm l ∧ True) (fun w => !w.2.1.isEmpty) (fun w => w.2.1.length) (fun _ _ => rfl) (fun w ⟨hp, _⟩ hc => by
      obtain ⟨s1, r, f⟩ := w
      have hne : 0 < r.length := by
        cases r with
        | nil => cases hc
        | cons a t => simp
      have hlen := hp.length_eq
      rw [List.length_append] at hlen
      dsimp only at hlen hp ⊢
      obtain ⟨k, s', hk, e⟩ := gpick_at hr s1 (m := (r.length : Int)) (by omega) (log2_sm (by omega))
      have hk' : k < r.length := by omega
      refine ⟨(s', r.eraseIdx k, f ++ [r[k]]), ?_, ⟨?_, trivial⟩, ?_⟩
      · rw [e]
        show (gpop r (k : Int)).bind _ = _
        have : gpop r (k : Int) = some (r[k], r.eraseIdx k) := by
          show (bif Nat.ble r.length 16777216 then (match r[k]? with | some a => some (a, r.eraseIdx k) | none => none) else none) = _
          rw [Nat.ble_eq_true_of_le (by omega), List.getElem?_eq_getElem hk']
          rfl
        rw [this]
        show (gapp f r[k]).bind _ = _
        rw [gapp_len (by omega)]
        rfl
      · refine List.Perm.trans ?_ hp
        show (r.eraseIdx k ++ (f ++ [r[k]])).Perm (r ++ f)
        have q : (r[k] :: r.eraseIdx k).Perm r := erase_perm r k hk'
        rw [← List.append_assoc]
        refine List.perm_append_comm.trans ?_
        show (r[k] :: (r.eraseIdx k ++ f)).Perm (r ++ f)
        exact q.append_right f
      · show (r.eraseIdx k).length < r.length
        rw [List.length_eraseIdx, if_pos hk']
        omega) fuel0 (s, l, []) ⟨by simp, trivial⟩ (by show l.length < fuel0; exact h)
  obtain ⟨s1, r, f⟩ := w
  have hr0 : r = [] := by
    cases r with
    | nil => rfl
    | cons a t => cases h4
  subst hr0
  refine ⟨f, s1, by simpa using h2, ?_⟩
  show (nwh _ _ fuel0 (s, l, [])).bind _ = _
  rw [h1]
  rfl
end
end Te
/-! sums over divisors -/
namespace Dv
/-- the divisors of n with P -/
def dv (P : Nat → Bool) (n : Nat) : List Nat := ((List.range n).map (· + 1)).filter fun d => decide (n % d = 0) && P d
def sg (P : Nat → Bool) (n : Nat) : Nat := (dv P n).sum
theorem mem_dv {P : Nat → Bool} {n d : Nat} (hn : 0 < n) : d ∈ dv P n ↔ d ∣ n ∧ P d = true := by
  unfold dv
  rw [List.mem_filter, Bool.and_eq_true, decide_eq_true_eq, List.mem_map]
  constructor
  · rintro ⟨_, h1, h2⟩
    exact ⟨Nat.dvd_of_mod_eq_zero h1, h2⟩
  · rintro ⟨h1, h2⟩
    have h3 := Nat.le_of_dvd hn h1
    have h4 := Nat.pos_of_dvd_of_pos h1 hn
    exact ⟨⟨d - 1, List.mem_range.mpr (by omega), by omega⟩, Nat.mod_eq_zero_of_dvd h1, h2⟩
theorem nodup_dv (P : Nat → Bool) (n : Nat) : (dv P n).Nodup := by
  unfold dv
  refine List.Pairwise.filter _ ?_
  refine List.pairwise_map.mpr ?_
  exact (List.nodup_range (n := n)).imp fun {a b} h => by omega
theorem sum_mulL (a : Nat) : ∀ l : List Nat, (l.map (a * ·)).sum = a * l.sum
  | [] => rfl
  | x :: r => by rw [List.map_cons, List.sum_cons, List.sum_cons, sum_mulL a r, Nat.mul_add]
theorem sum_prod (m : List Nat) : ∀ l : List Nat, (l.flatMap fun a => m.map (a * ·)).sum = l.sum * m.sum
  | [] => by simp
  | x :: r => by rw [List.flatMap_cons, List.sum_append, List.sum_cons, sum_prod m r, sum_mulL, Nat.add_mul]
theorem sg_mul {P : Nat → Bool} {m n : Nat} (h : Nat.Coprime m n) (hm : 0 < m) (hn : 0 < n) (hP : ∀ a b, Nat.Coprime a b → 0 < a → 0 < b → P (a * b) = (P a && P b)) : sg P (m * n) = sg P m * sg P n := by
  unfold sg
  rw [← sum_prod]
  refine List.Perm.sum_nat ?_
  have hmn : 0 < m * n := Nat.mul_pos hm hn
  have nd : ((dv P m).flatMap fun a => (dv P n).map (a * ·)).Nodup := by
    refine List.pairwise_flatMap.mpr ⟨fun a ha => ?_, ?_⟩
    · have h1 := Nat.pos_of_dvd_of_pos ((mem_dv hm).mp ha).1 hm
      refine List.pairwise_map.mpr ((nodup_dv P n).imp fun {x y} hxy e => hxy (Nat.eq_of_mul_eq_mul_left h1 e))
    · have := nodup_dv P m
      refine (List.Pairwise.imp_of_mem (R := (· ≠ ·)) (fun {a b} ha hb hab => ?_) this)
      intro x hx y hy e
      obtain ⟨u, hu, rfl⟩ := List.mem_map.mp hx
      obtain ⟨v, hv, rfl⟩ := List.mem_map.mp hy
      obtain ⟨a1, _⟩ := (mem_dv hm).mp ha
      obtain ⟨b1, _⟩ := (mem_dv hm).mp hb
      obtain ⟨u1, _⟩ := (mem_dv hn).mp hu
      obtain ⟨v1, _⟩ := (mem_dv hn).mp hv
      have e1 : (a * u).gcd m = a := by
        rw [Nat.Coprime.gcd_mul_right_cancel a (Nat.Coprime.coprime_dvd_left u1 h.symm)]
        exact Nat.gcd_eq_left a1
      have e2 : (b * v).gcd m = b := by
        rw [Nat.Coprime.gcd_mul_right_cancel b (Nat.Coprime.coprime_dvd_left v1 h.symm)]
        exact Nat.gcd_eq_left b1
      rw [e] at e1
      exact hab (e1.symm.trans e2)
  refine (List.perm_ext_iff_of_nodup (nodup_dv P _) nd).mpr fun d => ?_
  rw [mem_dv hmn, List.mem_flatMap]
  constructor
  · rintro ⟨h1, h2⟩
    have e : d = d.gcd m * d.gcd n := by
      rw [← h.gcd_mul d]
      exact (Nat.gcd_eq_left h1).symm
    have c : Nat.Coprime (d.gcd m) (d.gcd n) := Nat.Coprime.coprime_dvd_left (Nat.gcd_dvd_right d m) (Nat.Coprime.symm (Nat.Coprime.coprime_dvd_left (Nat.gcd_dvd_right d n) h.symm))
    have p1 : 0 < d.gcd m := Nat.pos_of_dvd_of_pos (Nat.gcd_dvd_right d m) hm
    have p2 : 0 < d.gcd n := Nat.pos_of_dvd_of_pos (Nat.gcd_dvd_right d n) hn
    have h3 : P (d.gcd m * d.gcd n) = true := by rw [← e]; exact h2
    rw [hP _ _ c p1 p2, Bool.and_eq_true] at h3
    exact ⟨d.gcd m, (mem_dv hm).mpr ⟨Nat.gcd_dvd_right d m, h3.1⟩, List.mem_map.mpr ⟨d.gcd n, (mem_dv hn).mpr ⟨Nat.gcd_dvd_right d n, h3.2⟩, e.symm⟩⟩
  · rintro ⟨a, ha, hx⟩
    obtain ⟨b, hb, rfl⟩ := List.mem_map.mp hx
    obtain ⟨a1, a2⟩ := (mem_dv hm).mp ha
    obtain ⟨b1, b2⟩ := (mem_dv hn).mp hb
    have p1 := Nat.pos_of_dvd_of_pos a1 hm
    have p2 := Nat.pos_of_dvd_of_pos b1 hn
    have c : Nat.Coprime a b := Nat.Coprime.coprime_dvd_left a1 (Nat.Coprime.symm (Nat.Coprime.coprime_dvd_left b1 h.symm))
    exact ⟨Nat.mul_dvd_mul a1 b1, by rw [hP a b c p1 p2, a2, b2]; rfl⟩
def odd (d : Nat) : Bool := decide (d % 2 = 1)
def not4 (d : Nat) : Bool := !decide (d % 4 = 0)
theorem odd_mul (a b : Nat) : odd (a * b) = (odd a && odd b) := by
  unfold odd
  rw [Nat.mul_mod, ← Bool.coe_iff_coe]
  have := Nat.mod_lt a (show 0 < 2 by decide)
  have := Nat.mod_lt b (show 0 < 2 by decide)
  have h1 : a % 2 = 0 ∨ a % 2 = 1 := by omega
  have h2 : b % 2 = 0 ∨ b % 2 = 1 := by omega
  rcases h1 with h1 | h1 <;> rcases h2 with h2 | h2 <;> simp [h1, h2]
theorem not4_mul (a b : Nat) (h : Nat.Coprime a b) : not4 (a * b) = (not4 a && not4 b) := by
  unfold not4
  have h3 : ¬ (a % 2 = 0 ∧ b % 2 = 0) := fun ⟨h1, h2⟩ => by
    have := Nat.dvd_gcd (Nat.dvd_of_mod_eq_zero h1) (Nat.dvd_of_mod_eq_zero h2)
    rw [h] at this
    exact absurd (Nat.le_of_dvd (by decide) this) (by decide)
  rw [Nat.mul_mod, ← Bool.coe_iff_coe]
  have := Nat.mod_lt a (show 0 < 4 by decide)
  have := Nat.mod_lt b (show 0 < 4 by decide)
  have h1 : a % 4 = 0 ∨ a % 4 = 1 ∨ a % 4 = 2 ∨ a % 4 = 3 := by omega
  have h2 : b % 4 = 0 ∨ b % 4 = 1 ∨ b % 4 = 2 ∨ b % 4 = 3 := by omega
  rcases h1 with h1 | h1 | h1 | h1 <;> rcases h2 with h2 | h2 | h2 | h2 <;> simp [h1, h2] <;> omega
end Dv
namespace K25
open PySem PySem.Spec PyProof.Rows L2 Fe
def top (i : Nat) : Stmt := PySem.Challenge.pw_wholefours_k25_whole_four_squares_out_of.main.body.getD i (.Pass ⟨0, 0, 0, 0⟩)
def fuel : Nat := 1048576
theorem sc0 : FnScope ["x", "y", "a", "b", "c", "d", "e", "f", "g", "h", "first", "second", "third", "fourth"] ["x", "y"] (defScope (top 1)) := ⟨rfl, rfl, rfl, by decide +kernel, rfl, by decide +kernel, by decide +kernel⟩
def b_four_product : SF := (sSeq (sTg (fVar 0) (gTp 4 (gCons' (gNm 2) (gCons' (gNm 3) (gCons' (gNm 4) (gCons' (gNm 5) gNil'))))))
    (sSeq (sTg (fVar 1) (gTp 4 (gCons' (gNm 6) (gCons' (gNm 7) (gCons' (gNm 8) (gCons' (gNm 9) gNil'))))))
    (sSeq (sSet 10 (fOp oSub (fOp oSub (fOp oSub (fOp oMul (fVar 2) (fVar 6)) (fOp oMul (fVar 3) (fVar 7))) (fOp oMul (fVar 4) (fVar 8))) (fOp oMul (fVar 5) (fVar 9))))
    (sSeq (sSet 11 (fOp oSub (fOp oAdd (fOp oAdd (fOp oMul (fVar 2) (fVar 7)) (fOp oMul (fVar 3) (fVar 6))) (fOp oMul (fVar 4) (fVar 9))) (fOp oMul (fVar 5) (fVar 8))))
    (sSeq (sSet 12 (fOp oAdd (fOp oAdd (fOp oSub (fOp oMul (fVar 2) (fVar 8)) (fOp oMul (fVar 3) (fVar 9))) (fOp oMul (fVar 4) (fVar 6))) (fOp oMul (fVar 5) (fVar 7))))
    (sSeq (sSet 13 (fOp oAdd (fOp oSub (fOp oAdd (fOp oMul (fVar 2) (fVar 9)) (fOp oMul (fVar 3) (fVar 8))) (fOp oMul (fVar 4) (fVar 7))) (fOp oMul (fVar 5) (fVar 6))))
    (sRet (fTup (fCons (fOp oDiv (fVar 10) (fC (.int 2))) (fCons (fOp oDiv (fVar 11) (fC (.int 2))) (fCons (fOp oDiv (fVar 12) (fC (.int 2))) (fCons (fOp oDiv (fVar 13) (fC (.int 2))) fNil))))))))))))
def F_four_product : List PyData → Option PyData := runF 2 14 b_four_product
theorem sc1 : FnScope ["x", "a"] ["x"] (defScope (top 2)) := ⟨rfl, rfl, rfl, by decide +kernel, rfl, by decide +kernel, by decide +kernel⟩
def e_four_norm_0 : EF := (fOp oMul (fVar 1) (fVar 1))
def b_four_norm : SF := (sRet (fOp oDiv (fR1 oSum (fVal (fAsL (fComp [1] (fSeq (fVar 0)) (gNm 1) fYes e_four_norm_0)))) (fC (.int 4))))
def F_four_norm : List PyData → Option PyData := runF 1 2 b_four_norm
theorem sc2 : FnScope ["n", "low", "high", "middle"] ["n"] (defScope (top 4)) := ⟨rfl, rfl, rfl, by decide +kernel, rfl, by decide +kernel, by decide +kernel⟩
def c_whole_root_0 : BF := (fTst (fOp oGt (fOp oSub (fVar 2) (fVar 1)) (fC (.int 1))))
def b_whole_root_1 : SF := (sSeq (sSet 3 (fOp oDiv (fOp oAdd (fVar 1) (fVar 2)) (fC (.int 2))))
    (sIf (fTst (fOp oLe (fOp oMul (fVar 3) (fVar 3)) (fVar 0))) (sSet 1 (fVar 3)) (sSet 2 (fVar 3))))
def b_whole_root : SF := (sSeq (sPar 1 2 (fC (.int 0)) (fOp oAdd (fVar 0) (fC (.int 1))))
    (sSeq (whl c_whole_root_0 b_whole_root_1 fuel)
    (sRet (fVar 1))))
def F_whole_root : List PyData → Option PyData := runF 1 4 b_whole_root
theorem sc3 : FnScope ["n", "many", "most", "line", "lap", "late", "row", "left", "top", "a"] ["n", "many", "most"] (defScope (top 5)) := ⟨rfl, rfl, rfl, by decide +kernel, rfl, by decide +kernel, by decide +kernel⟩
def b_falling_squares_0 : SF := (sIf (fTst (fOp oGe (fOp oMul (fOp oMul (fOp oSub (fVar 1) (fVar 4)) (fVar 9)) (fVar 9)) (fVar 7))) (sApp 5 (fTup (fCons (fOp oCatT (fVar 6) (fTup (fCons (fVar 9) fNil))) (fCons (fOp oSub (fVar 7) (fOp oMul (fVar 9) (fVar 9))) (fCons (fVar 9) fNil))))) sNil)
def b_falling_squares_1 : SF := (sFor (fRng1 (fCons (fOp oAdd (fOp oMin (fVar 8) (fCall F_whole_root (fCons (fVar 7) fNil))) (fC (.int 1))) fNil)) (gNm 9) b_falling_squares_0)
def b_falling_squares_2 : SF := (sSeq (sOwn 5 (fLst fNil))
    (sSeq (sFor (fSeq (fVar 3)) (gTp 3 (gCons' (gNm 6) (gCons' (gNm 7) (gCons' (gNm 8) gNil')))) b_falling_squares_1)
    (sSet 3 (fAsL (fR1L oList (fRd 5))))))
def c_falling_squares_3 : BF := (fTst (fOp oEq (fVar 7) (fC (.int 0))))
def e_falling_squares_4 : EF := (fVar 6)
def b_falling_squares : SF := (sSeq (sSet 3 (fAsL (fLst (fCons (fTup (fCons (fTup fNil) (fCons (fVar 0) (fCons (fVar 2) fNil)))) fNil))))
    (sSeq (sFor (fRng1 (fCons (fVar 1) fNil)) (gNm 4) b_falling_squares_2)
    (sRet (fAsL (fComp [6, 7, 8] (fSeq (fVar 3)) (gTp 3 (gCons' (gNm 6) (gCons' (gNm 7) (gCons' (gNm 8) gNil')))) c_falling_squares_3 e_falling_squares_4)))))
def F_falling_squares : List PyData → Option PyData := runF 3 10 b_falling_squares
theorem sc4 : FnScope ["n", "a", "left", "b", "some"] ["n"] (defScope (top 6)) := ⟨rfl, rfl, rfl, by decide +kernel, rfl, by decide +kernel, by decide +kernel⟩
def b_any_four_squares_0 : SF := (sSeq (sSet 4 (fCall F_falling_squares (fCons (fOp oSub (fVar 2) (fOp oMul (fVar 3) (fVar 3))) (fCons (fC (.int 2)) (fCons (fVar 3) fNil)))))
    (sIf (fTst (fOp oNe (fVar 4) (fAsL (fLst fNil)))) (sRet (fTup (fCons (fVar 1) (fCons (fVar 3) (fStar (fVal (fIx (fRd 4) (fC (.int 0)))) fNil))))) sNil))
def b_any_four_squares_1 : SF := (sSeq (sSet 2 (fOp oSub (fVar 0) (fOp oMul (fVar 1) (fVar 1))))
    (sFor (fRng3 (fCons (fOp oMin (fVar 1) (fCall F_whole_root (fCons (fVar 2) fNil))) (fCons (fUn oNeg (fC (.int 1))) (fCons (fUn oNeg (fC (.int 1))) fNil)))) (gNm 3) b_any_four_squares_0))
def b_any_four_squares : SF := (sSeq (sFor (fRng3 (fCons (fCall F_whole_root (fCons (fVar 0) fNil)) (fCons (fUn oNeg (fC (.int 1))) (fCons (fUn oNeg (fC (.int 1))) fNil)))) (gNm 1) b_any_four_squares_1)
    (sRet (fC .none)))
def F_any_four_squares : List PyData → Option PyData := runF 1 5 b_any_four_squares
theorem sc5 : FnScope ["n", "d"] ["n"] (defScope (top 7)) := ⟨rfl, rfl, rfl, by decide +kernel, rfl, by decide +kernel, by decide +kernel⟩
def c_odd_divisor_sum_0 : BF := (fTst (fOp oEq (fOp oMod (fVar 0) (fVar 1)) (fC (.int 0))))
def e_odd_divisor_sum_1 : EF := (fVar 1)
def b_odd_divisor_sum : SF := (sRet (fR1 oSum (fVal (fAsL (fComp [1] (fRng3 (fCons (fC (.int 1)) (fCons (fOp oAdd (fVar 0) (fC (.int 1))) (fCons (fC (.int 2)) fNil)))) (gNm 1) c_odd_divisor_sum_0 e_odd_divisor_sum_1)))))
def F_odd_divisor_sum : List PyData → Option PyData := runF 1 2 b_odd_divisor_sum
theorem sc6 : FnScope ["n"] ["n"] (defScope (top 8)) := ⟨rfl, rfl, rfl, by decide +kernel, rfl, by decide +kernel, by decide +kernel⟩
def b_count_fours : SF := (sRet (fOp oMul (fC (.int 24)) (fCall F_odd_divisor_sum (fCons (fVar 0) fNil))))
def F_count_fours : List PyData → Option PyData := runF 1 1 b_count_fours
theorem sc7 : FnScope ["n", "d"] ["n"] (defScope (top 9)) := ⟨rfl, rfl, rfl, by decide +kernel, rfl, by decide +kernel, by decide +kernel⟩
def c_count_four_squares_0 : BF := (fAnd (fTst (fOp oEq (fOp oMod (fVar 0) (fVar 1)) (fC (.int 0)))) (fTst (fOp oNe (fOp oMod (fVar 1) (fC (.int 4))) (fC (.int 0)))))
def e_count_four_squares_1 : EF := (fVar 1)
def b_count_four_squares : SF := (sRet (fOp oMul (fC (.int 8)) (fR1 oSum (fVal (fAsL (fComp [1] (fRng2 (fCons (fC (.int 1)) (fCons (fOp oAdd (fVar 0) (fC (.int 1))) fNil))) (gNm 1) c_count_four_squares_0 e_count_four_squares_1))))))
def F_count_four_squares : List PyData → Option PyData := runF 1 2 b_count_four_squares
theorem sc8 : FnScope ["n", "found", "p", "k"] ["n"] (defScope (top 11)) := ⟨rfl, rfl, rfl, by decide +kernel, rfl, by decide +kernel, by decide +kernel⟩
def c_prime_powers_in_0 : BF := (fTst (fOp oLe (fOp oMul (fVar 2) (fVar 2)) (fVar 0)))
def c_prime_powers_in_1 : BF := (fTst (fOp oEq (fOp oMod (fVar 0) (fVar 2)) (fC (.int 0))))
def b_prime_powers_in_2 : SF := (sPar 0 3 (fOp oDiv (fVar 0) (fVar 2)) (fOp oAdd (fVar 3) (fC (.int 1))))
def b_prime_powers_in_3 : SF := (sSeq (sSet 3 (fC (.int 0)))
    (sSeq (whl c_prime_powers_in_1 b_prime_powers_in_2 fuel)
    (sSeq (sExt 1 (fIf (fTst (fOp oGt (fVar 3) (fC (.int 0)))) (fAsL (fLst (fCons (fTup (fCons (fVar 2) (fCons (fVar 3) fNil))) fNil))) (fAsL (fLst fNil))))
    (sSet 2 (fOp oAdd (fVar 2) (fC (.int 1)))))))
def b_prime_powers_in : SF := (sSeq (sParO1 1 2 (fLst fNil) (fC (.int 2)))
    (sSeq (whl c_prime_powers_in_0 b_prime_powers_in_3 fuel)
    (sRet (fIf (fTst (fOp oGt (fVar 0) (fC (.int 1)))) (fR1 oTuple (fVal (fAsL (fLst (fStar (fRd 1) (fCons (fTup (fCons (fVar 0) (fCons (fC (.int 1)) fNil))) fNil)))))) (fR1 oTuple (fRd 1))))))
def F_prime_powers_in : List PyData → Option PyData := runF 1 4 b_prime_powers_in
theorem sc9 : FnScope ["row", "found", "p", "k", "late", "power", "lap", "d"] ["row"] (defScope (top 12)) := ⟨rfl, rfl, rfl, by decide +kernel, rfl, by decide +kernel, by decide +kernel⟩
def e_divisors_of_row_0 : EF := (fOp oMul (fVar 7) (fVar 5))
def b_divisors_of_row_1 : SF := (sSeq (sExt 4 (fAsL (fComp [7] (fSeq (fVar 1)) (gNm 7) fYes e_divisors_of_row_0)))
    (sSet 5 (fOp oMul (fVar 5) (fVar 2))))
def b_divisors_of_row_2 : SF := (sSeq (sParO1 4 5 (fLst fNil) (fC (.int 1)))
    (sSeq (sFor (fRng1 (fCons (fOp oAdd (fVar 3) (fC (.int 1))) fNil)) (gNm 6) b_divisors_of_row_1)
    (sSet 1 (fAsL (fR1L oList (fRd 4))))))
def b_divisors_of_row : SF := (sSeq (sSet 1 (fAsL (fLst (fCons (fC (.int 1)) fNil))))
    (sSeq (sFor (fSeq (fVar 0)) (gTp 2 (gCons' (gNm 2) (gCons' (gNm 3) gNil'))) b_divisors_of_row_2)
    (sRet (fVar 1))))
def F_divisors_of_row : List PyData → Option PyData := runF 1 8 b_divisors_of_row
theorem sc10 : FnScope ["n", "some", "d"] ["n"] (defScope (top 13)) := ⟨rfl, rfl, rfl, by decide +kernel, rfl, by decide +kernel, by decide +kernel⟩
def c_divisors_by_four_0 : BF := (fTst (fOp oEq (fOp oMod (fVar 2) (fC (.int 4))) (fC (.int 3))))
def e_divisors_by_four_1 : EF := (fVar 2)
def c_divisors_by_four_2 : BF := (fTst (fOp oEq (fOp oMod (fVar 2) (fC (.int 4))) (fC (.int 1))))
def e_divisors_by_four_3 : EF := (fVar 2)
def b_divisors_by_four : SF := (sSeq (sSet 1 (fCall F_divisors_of_row (fCons (fCall F_prime_powers_in (fCons (fVar 0) fNil)) fNil)))
    (sRet (fTup (fCons (fR1 oLen (fVal (fAsL (fComp [2] (fSeq (fVar 1)) (gNm 2) c_divisors_by_four_2 e_divisors_by_four_3)))) (fCons (fR1 oLen (fVal (fAsL (fComp [2] (fSeq (fVar 1)) (gNm 2) c_divisors_by_four_0 e_divisors_by_four_1)))) fNil)))))
def F_divisors_by_four : List PyData → Option PyData := runF 1 3 b_divisors_by_four
theorem sc11 : FnScope ["n", "one", "three"] ["n"] (defScope (top 14)) := ⟨rfl, rfl, rfl, by decide +kernel, rfl, by decide +kernel, by decide +kernel⟩
def b_count_first_ways : SF := (sSeq (sTg (fCall F_divisors_by_four (fCons (fVar 0) fNil)) (gTp 2 (gCons' (gNm 1) (gCons' (gNm 2) gNil'))))
    (sRet (fOp oSub (fVar 1) (fVar 2))))
def F_count_first_ways : List PyData → Option PyData := runF 1 3 b_count_first_ways
theorem sc12 : FnScope ["n"] ["n"] (defScope (top 15)) := ⟨rfl, rfl, rfl, by decide +kernel, rfl, by decide +kernel, by decide +kernel⟩
def b_count_ways : SF := (sRet (fOp oMul (fC (.int 4)) (fCall F_count_first_ways (fCons (fVar 0) fNil))))
def F_count_ways : List PyData → Option PyData := runF 1 1 b_count_ways
theorem sc17 : FnScope ["x", "y", "a", "b", "c", "d", "e", "f", "g", "h", "row"] ["x", "y"] (defScope (top 21)) := ⟨rfl, rfl, rfl, by decide +kernel, rfl, by decide +kernel, by decide +kernel⟩
def e_law_times_0 : EF := (fOp oDiv (fVar 0) (fC (.int 2)))
def b_law_times : SF := (sSeq (sTg (fVar 0) (gTp 4 (gCons' (gNm 2) (gCons' (gNm 3) (gCons' (gNm 4) (gCons' (gNm 5) gNil'))))))
    (sSeq (sTg (fVar 1) (gTp 4 (gCons' (gNm 6) (gCons' (gNm 7) (gCons' (gNm 8) (gCons' (gNm 9) gNil'))))))
    (sSeq (sSet 10 (fTup (fCons (fOp oSub (fOp oSub (fOp oSub (fOp oMul (fVar 2) (fVar 6)) (fOp oMul (fVar 3) (fVar 7))) (fOp oMul (fVar 4) (fVar 8))) (fOp oMul (fVar 5) (fVar 9))) (fCons (fOp oSub (fOp oAdd (fOp oAdd (fOp oMul (fVar 2) (fVar 7)) (fOp oMul (fVar 3) (fVar 6))) (fOp oMul (fVar 4) (fVar 9))) (fOp oMul (fVar 5) (fVar 8))) fNil))))
    (sSeq (sSet 10 (fOp oCatT (fVar 10) (fTup (fCons (fOp oAdd (fOp oAdd (fOp oSub (fOp oMul (fVar 2) (fVar 8)) (fOp oMul (fVar 3) (fVar 9))) (fOp oMul (fVar 4) (fVar 6))) (fOp oMul (fVar 5) (fVar 7))) (fCons (fOp oAdd (fOp oSub (fOp oAdd (fOp oMul (fVar 2) (fVar 9)) (fOp oMul (fVar 3) (fVar 8))) (fOp oMul (fVar 4) (fVar 7))) (fOp oMul (fVar 5) (fVar 6))) fNil)))))
    (sRet (fR1 oTuple (fVal (fAsL (fComp [0] (fSeq (fVar 10)) (gNm 0) fYes e_law_times_0)))))))))
def F_law_times : List PyData → Option PyData := runF 2 11 b_law_times
theorem sc18 : FnScope ["n", "found", "a", "rest", "b"] ["n"] (defScope (top 22)) := ⟨rfl, rfl, rfl, by decide +kernel, rfl, by decide +kernel, by decide +kernel⟩
def c_law_two_0 : BF := (fTst (fOp oLe (fOp oMul (fVar 2) (fVar 2)) (fVar 0)))
def c_law_two_1 : BF := (fTst (fOp oLt (fOp oMul (fVar 4) (fVar 4)) (fVar 3)))
def b_law_two_2 : SF := (sSet 4 (fOp oAdd (fVar 4) (fC (.int 1))))
def b_law_two_3 : SF := (sSeq (sPar 3 4 (fOp oSub (fVar 0) (fOp oMul (fVar 2) (fVar 2))) (fC (.int 0)))
    (sSeq (whl c_law_two_1 b_law_two_2 fuel)
    (sSeq (sIf (fTst (fOp oEq (fOp oMul (fVar 4) (fVar 4)) (fVar 3))) (sSet 1 (fOp oAdd (fVar 1) (fOp oMul (fIf (fTst (fOp oGt (fVar 2) (fC (.int 0)))) (fC (.int 2)) (fC (.int 1))) (fIf (fTst (fOp oGt (fVar 4) (fC (.int 0)))) (fC (.int 2)) (fC (.int 1)))))) sNil)
    (sSet 2 (fOp oAdd (fVar 2) (fC (.int 1)))))))
def b_law_two : SF := (sSeq (sTg (fTup (fCons (fC (.int 0)) (fCons (fC (.int 0)) fNil))) (gTp 2 (gCons' (gNm 1) (gCons' (gNm 2) gNil'))))
    (sSeq (whl c_law_two_0 b_law_two_3 fuel)
    (sRet (fVar 1))))
def F_law_two : List PyData → Option PyData := runF 1 5 b_law_two
theorem sc19 : FnScope ["m", "n"] ["m", "n"] (defScope (top 23)) := ⟨rfl, rfl, rfl, by decide +kernel, rfl, by decide +kernel, by decide +kernel⟩
def c_law_common_0 : BF := (fTst (fOp oGt (fVar 1) (fC (.int 0))))
def b_law_common_1 : SF := (sPar 0 1 (fVar 1) (fOp oMod (fR1 oInt (fRd 0)) (fVar 1)))
def b_law_common : SF := (sSeq (whl c_law_common_0 b_law_common_1 fuel)
    (sRet (fVar 0)))
def F_law_common : List PyData → Option PyData := runF 2 2 b_law_common
structure Tx (K : PySem.W.Frag) (mg : Str → Option Value) (ad : Nat → Addr) (fd : Nat → FuncData) : Prop where
  F0 : Fun K "four_product" "four_product" (top 1) (ad 0) (fd 0)
  g0 : mg "four_product" = some (.ref (ad 0))
  b0 : Binds K (fd 0) ["x", "y"] []
  F1 : Fun K "four_norm" "four_norm" (top 2) (ad 1) (fd 1)
  g1 : mg "four_norm" = some (.ref (ad 1))
  b1 : Binds K (fd 1) ["x"] []
  F2 : Fun K "whole_root" "whole_root" (top 4) (ad 2) (fd 2)
  g2 : mg "whole_root" = some (.ref (ad 2))
  b2 : Binds K (fd 2) ["n"] []
  F3 : Fun K "falling_squares" "falling_squares" (top 5) (ad 3) (fd 3)
  g3 : mg "falling_squares" = some (.ref (ad 3))
  b3 : Binds K (fd 3) ["n", "many", "most"] []
  F4 : Fun K "any_four_squares" "any_four_squares" (top 6) (ad 4) (fd 4)
  g4 : mg "any_four_squares" = some (.ref (ad 4))
  b4 : Binds K (fd 4) ["n"] []
  F5 : Fun K "odd_divisor_sum" "odd_divisor_sum" (top 7) (ad 5) (fd 5)
  g5 : mg "odd_divisor_sum" = some (.ref (ad 5))
  b5 : Binds K (fd 5) ["n"] []
  F6 : Fun K "count_fours" "count_fours" (top 8) (ad 6) (fd 6)
  g6 : mg "count_fours" = some (.ref (ad 6))
  b6 : Binds K (fd 6) ["n"] []
  F7 : Fun K "count_four_squares" "count_four_squares" (top 9) (ad 7) (fd 7)
  g7 : mg "count_four_squares" = some (.ref (ad 7))
  b7 : Binds K (fd 7) ["n"] []
  F8 : Fun K "prime_powers_in" "prime_powers_in" (top 11) (ad 8) (fd 8)
  g8 : mg "prime_powers_in" = some (.ref (ad 8))
  b8 : Binds K (fd 8) ["n"] []
  F9 : Fun K "divisors_of_row" "divisors_of_row" (top 12) (ad 9) (fd 9)
  g9 : mg "divisors_of_row" = some (.ref (ad 9))
  b9 : Binds K (fd 9) ["row"] []
  F10 : Fun K "divisors_by_four" "divisors_by_four" (top 13) (ad 10) (fd 10)
  g10 : mg "divisors_by_four" = some (.ref (ad 10))
  b10 : Binds K (fd 10) ["n"] []
  F11 : Fun K "count_first_ways" "count_first_ways" (top 14) (ad 11) (fd 11)
  g11 : mg "count_first_ways" = some (.ref (ad 11))
  b11 : Binds K (fd 11) ["n"] []
  F12 : Fun K "count_ways" "count_ways" (top 15) (ad 12) (fd 12)
  g12 : mg "count_ways" = some (.ref (ad 12))
  b12 : Binds K (fd 12) ["n"] []
  F13 : Fun K "_law_source" "_law_source" (top 17) (ad 13) (fd 13)
  g13 : mg "_law_source" = some (.ref (ad 13))
  b13 : Binds K (fd 13) ["script"] []
  F14 : Fun K "_law_pick" "_law_pick" (top 18) (ad 14) (fd 14)
  g14 : mg "_law_pick" = some (.ref (ad 14))
  b14 : Binds K (fd 14) ["source", "many"] []
  F15 : Fun K "_law_of" "_law_of" (top 19) (ad 15) (fd 15)
  g15 : mg "_law_of" = some (.ref (ad 15))
  b15 : Binds K (fd 15) ["source", "some"] []
  F16 : Fun K "_law_mixed" "_law_mixed" (top 20) (ad 16) (fd 16)
  g16 : mg "_law_mixed" = some (.ref (ad 16))
  b16 : Binds K (fd 16) ["source", "things"] []
  F17 : Fun K "_law_times" "_law_times" (top 21) (ad 17) (fd 17)
  g17 : mg "_law_times" = some (.ref (ad 17))
  b17 : Binds K (fd 17) ["x", "y"] []
  F18 : Fun K "_law_two" "_law_two" (top 22) (ad 18) (fd 18)
  g18 : mg "_law_two" = some (.ref (ad 18))
  b18 : Binds K (fd 18) ["n"] []
  F19 : Fun K "_law_common" "_law_common" (top 23) (ad 19) (fd 19)
  g19 : mg "_law_common" = some (.ref (ad 19))
  b19 : Binds K (fd 19) ["m", "n"] []
  F20 : Fun K "law" "law" (top 24) (ad 20) (fd 20)
  g20 : mg "law" = some (.ref (ad 20))
  b20 : Binds K (fd 20) ["script"] []
  m_abs : mg "abs" = none
  m_int : mg "int" = none
  m_len : mg "len" = none
  m_list : mg "list" = none
  m_min : mg "min" = none
  m_range : mg "range" = none
  m_repr : mg "repr" = none
  m_sum : mg "sum" = none
  m_tuple : mg "tuple" = none
  m_zip : mg "zip" = none
section
variable {P : Program} {w : World} {K : PySem.W.Frag} {mg : Str → Option Value} {base : Heap} {ad : Nat → Addr} {fd : Nat → FuncData}
theorem d_four_product (T : Tx K mg ad fd) : FnG P w K mg base 1 (ad 0) (fd 0) ["x", "y"] (spF K F_four_product) := by
  refine fnRun (fb := b_four_product) T.F0 sc0 (fun cdv A outer s H hr hG => ?_)
  exact (fss_cons (fs_tg (fe_v 0 (pv 0)) (fg_tup rfl (fgs_cons (fg_name (i := 2) sc0.nd rfl (by first | exact Or.inl rfl | exact Or.inr rfl)) (fgs_cons (fg_name (i := 3) sc0.nd rfl (by first | exact Or.inl rfl | exact Or.inr rfl)) (fgs_cons (fg_name (i := 4) sc0.nd rfl (by first | exact Or.inl rfl | exact Or.inr rfl)) (fgs_cons (fg_name (i := 5) sc0.nd rfl (by first | exact Or.inl rfl | exact Or.inr rfl)) fgs_nil))))))
    (fss_cons (fs_tg (fe_v 1 (pv 1)) (fg_tup rfl (fgs_cons (fg_name (i := 6) sc0.nd rfl (by first | exact Or.inl rfl | exact Or.inr rfl)) (fgs_cons (fg_name (i := 7) sc0.nd rfl (by first | exact Or.inl rfl | exact Or.inr rfl)) (fgs_cons (fg_name (i := 8) sc0.nd rfl (by first | exact Or.inl rfl | exact Or.inr rfl)) (fgs_cons (fg_name (i := 9) sc0.nd rfl (by first | exact Or.inl rfl | exact Or.inr rfl)) fgs_nil))))))
    (fss_cons (fs_set (i := 10) sc0.nd rfl (by first | exact Or.inl rfl | exact Or.inr rfl) (fe_sub (fe_sub (fe_sub (fe_mul (fe_v 2 (pv 2)) (fe_v 6 (pv 6))) (fe_mul (fe_v 3 (pv 3)) (fe_v 7 (pv 7)))) (fe_mul (fe_v 4 (pv 4)) (fe_v 8 (pv 8)))) (fe_mul (fe_v 5 (pv 5)) (fe_v 9 (pv 9)))))
    (fss_cons (fs_set (i := 11) sc0.nd rfl (by first | exact Or.inl rfl | exact Or.inr rfl) (fe_sub (fe_add (fe_add (fe_mul (fe_v 2 (pv 2)) (fe_v 7 (pv 7))) (fe_mul (fe_v 3 (pv 3)) (fe_v 6 (pv 6)))) (fe_mul (fe_v 4 (pv 4)) (fe_v 9 (pv 9)))) (fe_mul (fe_v 5 (pv 5)) (fe_v 8 (pv 8)))))
    (fss_cons (fs_set (i := 12) sc0.nd rfl (by first | exact Or.inl rfl | exact Or.inr rfl) (fe_add (fe_add (fe_sub (fe_mul (fe_v 2 (pv 2)) (fe_v 8 (pv 8))) (fe_mul (fe_v 3 (pv 3)) (fe_v 9 (pv 9)))) (fe_mul (fe_v 4 (pv 4)) (fe_v 6 (pv 6)))) (fe_mul (fe_v 5 (pv 5)) (fe_v 7 (pv 7)))))
    (fss_cons (fs_set (i := 13) sc0.nd rfl (by first | exact Or.inl rfl | exact Or.inr rfl) (fe_add (fe_sub (fe_add (fe_mul (fe_v 2 (pv 2)) (fe_v 9 (pv 9))) (fe_mul (fe_v 3 (pv 3)) (fe_v 8 (pv 8)))) (fe_mul (fe_v 4 (pv 4)) (fe_v 7 (pv 7)))) (fe_mul (fe_v 5 (pv 5)) (fe_v 6 (pv 6)))))
    (fss_one (fs_ret (fe_tup (fa_cons (fe_fdiv (fe_v 10 (pv 10)) fe_int) (fa_cons (fe_fdiv (fe_v 11 (pv 11)) fe_int) (fa_cons (fe_fdiv (fe_v 12 (pv 12)) fe_int) (fa_cons (fe_fdiv (fe_v 13 (pv 13)) fe_int) fa_nil)))))))))))))
theorem d_four_norm (T : Tx K mg ad fd) : FnG P w K mg base 1 (ad 1) (fd 1) ["x"] (spF K F_four_norm) := by
  refine fnRun (fb := b_four_norm) T.F1 sc1 (fun cdv A outer s H hr hG => ?_)
  exact (fss_one (fs_ret (fe_fdiv (fe_sum rfl (FE.rd (FL.fe (fl_lc [("a", 1)] rfl sc1.nd (fi_seq (fe_v 0 (pv 0))) (blkOk_by (N := ["x", "a"]) (sc := defScope (top 2)) (by decide +kernel)) (fun _ _ _ _ _ => (fg_name (i := 1) sc1.nd rfl (by first | exact Or.inl rfl | exact Or.inr rfl))) (fun _ _ _ _ _ => fts_nil) (fun _ _ _ _ _ => (fe_mul (fe_v 1 (pv 1)) (fe_v 1 (pv 1))))))) rfl T.m_sum) fe_int)))
theorem d_whole_root (T : Tx K mg ad fd) : FnG P w K mg base 1 (ad 2) (fd 2) ["n"] (spF K F_whole_root) := by
  refine fnRun (fb := b_whole_root) T.F2 sc2 (fun cdv A outer s H hr hG => ?_)
  exact (fss_cons (fs_par (i := 1) (j := 2) (fun _ _ h h2 => ps_par rfl sc2.nd rfl rfl (by decide) rfl rfl (pa_cons h (pa_cons h2 pa_nil)) rfl) fe_int (fe_add (fe_v 0 (pv 0)) fe_int))
    (fss_cons (fs_while (n := fuel) (ft_gt (fe_sub (fe_v 2 (pv 2)) (fe_v 1 (pv 1))) fe_int) (fss_cons (fs_set (i := 3) sc2.nd rfl (by first | exact Or.inl rfl | exact Or.inr rfl) (fe_fdiv (fe_add (fe_v 1 (pv 1)) (fe_v 2 (pv 2))) fe_int))
    (fss_one (fs_if (ft_le (fe_mul (fe_v 3 (pv 3)) (fe_v 3 (pv 3))) (fe_v 0 (pv 0))) (fss_one (fs_set (i := 1) sc2.nd rfl (by first | exact Or.inl rfl | exact Or.inr rfl) (fe_v 3 (pv 3)))) (fss_one (fs_set (i := 2) sc2.nd rfl (by first | exact Or.inl rfl | exact Or.inr rfl) (fe_v 3 (pv 3))))))))
    (fss_one (fs_ret (fe_v 1 (pv 1))))))
theorem d_falling_squares (T : Tx K mg ad fd) : FnG P w K mg base 2 (ad 3) (fd 3) ["n", "many", "most"] (spF K F_falling_squares) := by
  have D2 : FnG P w K mg base 1 (ad 2) (fd 2) _ (spF K F_whole_root) := d_whole_root T
  refine fnRun (fb := b_falling_squares) T.F3 sc3 (fun cdv A outer s H hr hG => ?_)
  exact (fss_cons (fs_set (i := 3) sc3.nd rfl (by first | exact Or.inl rfl | exact Or.inr rfl) (FL.fe (fl_lst (fa_cons (fe_tup (fa_cons (fe_tup fa_nil) (fa_cons (fe_v 0 (pv 0)) (fa_cons (fe_v 2 (pv 2)) fa_nil)))) fa_nil))))
    (fss_cons (fs_for rfl (fi_rng1 (fa_cons (fe_v 1 (pv 1)) fa_nil) rfl T.m_range) (fg_name (i := 4) sc3.nd rfl (by first | exact Or.inl rfl | exact Or.inr rfl)) (fss_cons (fs_own (i := 5) sc3.nd rfl (by first | exact Or.inl rfl | exact Or.inr rfl) (fl_lst fa_nil))
    (fss_cons (fs_for rfl (fi_seq (fe_v 3 (pv 3))) (fg_tup rfl (fgs_cons (fg_name (i := 6) sc3.nd rfl (by first | exact Or.inl rfl | exact Or.inr rfl)) (fgs_cons (fg_name (i := 7) sc3.nd rfl (by first | exact Or.inl rfl | exact Or.inr rfl)) (fgs_cons (fg_name (i := 8) sc3.nd rfl (by first | exact Or.inl rfl | exact Or.inr rfl)) fgs_nil)))) (fss_one (fs_for rfl (fi_rng1 (fa_cons (fe_add (fe_min2 rfl (fe_v 8 (pv 8)) (fe_call D2 (hr.mono (by decide)) hG rfl T.g2 T.F2.kp T.b2 (fa_cons (fe_v 7 (pv 7)) fa_nil)) rfl T.m_min) fe_int) fa_nil) rfl T.m_range) (fg_name (i := 9) sc3.nd rfl (by first | exact Or.inl rfl | exact Or.inr rfl)) (fss_one (fs_if (ft_ge (fe_mul (fe_mul (fe_sub (fe_v 1 (pv 1)) (fe_v 4 (pv 4))) (fe_v 9 (pv 9))) (fe_v 9 (pv 9))) (fe_v 7 (pv 7))) (fss_one (fs_app (i := 5) (fun _ h => ps_expr (pe_bm PySem.F.plainAttrs_list PySem.F.slot_list_append PySem.F.type_list_append mt_append (pv 5) (pa_cons h pa_nil))) (fe_tup (fa_cons (fe_catT (fe_v 6 (pv 6)) (fe_tup (fa_cons (fe_v 9 (pv 9)) fa_nil))) (fa_cons (fe_sub (fe_v 7 (pv 7)) (fe_mul (fe_v 9 (pv 9)) (fe_v 9 (pv 9)))) (fa_cons (fe_v 9 (pv 9)) fa_nil)))))) fss_nil)))))
    (fss_one (fs_set (i := 3) sc3.nd rfl (by first | exact Or.inl rfl | exact Or.inr rfl) (FL.fe (fl_list (fr_v 5 (pv 5)) rfl T.m_list)))))))
    (fss_one (fs_ret (FL.fe (fl_lc [("row", 6), ("left", 7), ("top", 8)] rfl sc3.nd (fi_seq (fe_v 3 (pv 3))) (blkOk_by (N := ["n", "many", "most", "line", "lap", "late", "row", "left", "top", "a"]) (sc := defScope (top 5)) (by decide +kernel)) (fun _ _ _ _ _ => (fg_tup rfl (fgs_cons (fg_name (i := 6) sc3.nd rfl (by first | exact Or.inl rfl | exact Or.inr rfl)) (fgs_cons (fg_name (i := 7) sc3.nd rfl (by first | exact Or.inl rfl | exact Or.inr rfl)) (fgs_cons (fg_name (i := 8) sc3.nd rfl (by first | exact Or.inl rfl | exact Or.inr rfl)) fgs_nil))))) (fun _ _ _ _ _ => (fts_one (ft_eq hr.units (fe_v 7 (pv 7)) fe_int))) (fun _ _ _ _ _ => (fe_v 6 (pv 6)))))))))
theorem d_any_four_squares (T : Tx K mg ad fd) : FnG P w K mg base 3 (ad 4) (fd 4) ["n"] (spF K F_any_four_squares) := by
  have D2 : FnG P w K mg base 1 (ad 2) (fd 2) _ (spF K F_whole_root) := d_whole_root T
  have D3 : FnG P w K mg base 2 (ad 3) (fd 3) _ (spF K F_falling_squares) := d_falling_squares T
  refine fnRun (fb := b_any_four_squares) T.F4 sc4 (fun cdv A outer s H hr hG => ?_)
  exact (fss_cons (fs_for rfl (fi_rng3 (fa_cons (fe_call D2 (hr.mono (by decide)) hG rfl T.g2 T.F2.kp T.b2 (fa_cons (fe_v 0 (pv 0)) fa_nil)) (fa_cons (fe_neg fe_int) (fa_cons (fe_neg fe_int) fa_nil))) rfl T.m_range) (fg_name (i := 1) sc4.nd rfl (by first | exact Or.inl rfl | exact Or.inr rfl)) (fss_cons (fs_set (i := 2) sc4.nd rfl (by first | exact Or.inl rfl | exact Or.inr rfl) (fe_sub (fe_v 0 (pv 0)) (fe_mul (fe_v 1 (pv 1)) (fe_v 1 (pv 1)))))
    (fss_one (fs_for rfl (fi_rng3 (fa_cons (fe_min2 rfl (fe_v 1 (pv 1)) (fe_call D2 (hr.mono (by decide)) hG rfl T.g2 T.F2.kp T.b2 (fa_cons (fe_v 2 (pv 2)) fa_nil)) rfl T.m_min) (fa_cons (fe_neg fe_int) (fa_cons (fe_neg fe_int) fa_nil))) rfl T.m_range) (fg_name (i := 3) sc4.nd rfl (by first | exact Or.inl rfl | exact Or.inr rfl)) (fss_cons (fs_set (i := 4) sc4.nd rfl (by first | exact Or.inl rfl | exact Or.inr rfl) (fe_call D3 (hr.mono (by decide)) hG rfl T.g3 T.F3.kp T.b3 (fa_cons (fe_sub (fe_v 2 (pv 2)) (fe_mul (fe_v 3 (pv 3)) (fe_v 3 (pv 3)))) (fa_cons fe_int (fa_cons (fe_v 3 (pv 3)) fa_nil)))))
    (fss_one (fs_if (ft_ne hr.units (fe_v 4 (pv 4)) (FL.fe (fl_lst fa_nil))) (fss_one (fs_ret (fe_tup (fa_cons (fe_v 1 (pv 1)) (fa_cons (fe_v 3 (pv 3)) (fa_star (FE.rd (fe_ix (fr_v 4 (pv 4)) fe_int)) fa_nil)))))) fss_nil)))))))
    (fss_one (fs_ret fe_non)))
theorem d_odd_divisor_sum (T : Tx K mg ad fd) : FnG P w K mg base 1 (ad 5) (fd 5) ["n"] (spF K F_odd_divisor_sum) := by
  refine fnRun (fb := b_odd_divisor_sum) T.F5 sc5 (fun cdv A outer s H hr hG => ?_)
  exact (fss_one (fs_ret (fe_sum rfl (FE.rd (FL.fe (fl_lc [("d", 1)] rfl sc5.nd (fi_rng3 (fa_cons fe_int (fa_cons (fe_add (fe_v 0 (pv 0)) fe_int) (fa_cons fe_int fa_nil))) rfl T.m_range) (blkOk_by (N := ["n", "d"]) (sc := defScope (top 7)) (by decide +kernel)) (fun _ _ _ _ _ => (fg_name (i := 1) sc5.nd rfl (by first | exact Or.inl rfl | exact Or.inr rfl))) (fun _ _ _ _ _ => (fts_one (ft_eq hr.units (fe_mod (fe_v 0 (pv 0)) (fe_v 1 (pv 1))) fe_int))) (fun _ _ _ _ _ => (fe_v 1 (pv 1)))))) rfl T.m_sum)))
theorem d_count_fours (T : Tx K mg ad fd) : FnG P w K mg base 2 (ad 6) (fd 6) ["n"] (spF K F_count_fours) := by
  have D5 : FnG P w K mg base 1 (ad 5) (fd 5) _ (spF K F_odd_divisor_sum) := d_odd_divisor_sum T
  refine fnRun (fb := b_count_fours) T.F6 sc6 (fun cdv A outer s H hr hG => ?_)
  exact (fss_one (fs_ret (fe_mul fe_int (fe_call D5 (hr.mono (by decide)) hG rfl T.g5 T.F5.kp T.b5 (fa_cons (fe_v 0 (pv 0)) fa_nil)))))
theorem d_count_four_squares (T : Tx K mg ad fd) : FnG P w K mg base 1 (ad 7) (fd 7) ["n"] (spF K F_count_four_squares) := by
  refine fnRun (fb := b_count_four_squares) T.F7 sc7 (fun cdv A outer s H hr hG => ?_)
  exact (fss_one (fs_ret (fe_mul fe_int (fe_sum rfl (FE.rd (FL.fe (fl_lc [("d", 1)] rfl sc7.nd (fi_rng2 (fa_cons fe_int (fa_cons (fe_add (fe_v 0 (pv 0)) fe_int) fa_nil)) rfl T.m_range) (blkOk_by (N := ["n", "d"]) (sc := defScope (top 9)) (by decide +kernel)) (fun _ _ _ _ _ => (fg_name (i := 1) sc7.nd rfl (by first | exact Or.inl rfl | exact Or.inr rfl))) (fun _ _ _ _ _ => (fts_one (FW.ft (fw_and (ft_eq hr.units (fe_mod (fe_v 0 (pv 0)) (fe_v 1 (pv 1))) fe_int) (fw_and1 (ft_ne hr.units (fe_mod (fe_v 1 (pv 1)) fe_int) fe_int)))))) (fun _ _ _ _ _ => (fe_v 1 (pv 1)))))) rfl T.m_sum))))
theorem d_prime_powers_in (T : Tx K mg ad fd) : FnG P w K mg base 1 (ad 8) (fd 8) ["n"] (spF K F_prime_powers_in) := by
  refine fnRun (fb := b_prime_powers_in) T.F8 sc8 (fun cdv A outer s H hr hG => ?_)
  exact (fss_cons (fs_parO1 (i := 1) (j := 2) (fun _ _ h h2 => ps_par rfl sc8.nd rfl rfl (by decide) rfl rfl (pa_cons h (pa_cons h2 pa_nil)) rfl) (fl_lst fa_nil) fe_int)
    (fss_cons (fs_while (n := fuel) (ft_le (fe_mul (fe_v 2 (pv 2)) (fe_v 2 (pv 2))) (fe_v 0 (pv 0))) (fss_cons (fs_set (i := 3) sc8.nd rfl (by first | exact Or.inl rfl | exact Or.inr rfl) fe_int)
    (fss_cons (fs_while (n := fuel) (ft_eq hr.units (fe_mod (fe_v 0 (pv 0)) (fe_v 2 (pv 2))) fe_int) (fss_one (fs_par (i := 0) (j := 3) (fun _ _ h h2 => ps_par rfl sc8.nd rfl rfl (by decide) rfl rfl (pa_cons h (pa_cons h2 pa_nil)) rfl) (fe_fdiv (fe_v 0 (pv 0)) (fe_v 2 (pv 2))) (fe_add (fe_v 3 (pv 3)) fe_int))))
    (fss_cons (fs_ext (i := 1) (fun _ h => ps_expr (pe_bm PySem.F.plainAttrs_list PySem.F.slot_list_extend PySem.F.type_list_extend mt_extend (pv 1) (pa_cons h pa_nil))) (fe_ifExp (ft_gt (fe_v 3 (pv 3)) fe_int) (FL.fe (fl_lst (fa_cons (fe_tup (fa_cons (fe_v 2 (pv 2)) (fa_cons (fe_v 3 (pv 3)) fa_nil))) fa_nil))) (FL.fe (fl_lst fa_nil))))
    (fss_one (fs_set (i := 2) sc8.nd rfl (by first | exact Or.inl rfl | exact Or.inr rfl) (fe_add (fe_v 2 (pv 2)) fe_int)))))))
    (fss_one (fs_ret (fe_ifExp (ft_gt (fe_v 0 (pv 0)) fe_int) (fe_tuple (FE.rd (FL.fe (fl_lst (fa_star (fr_v 1 (pv 1)) (fa_cons (fe_tup (fa_cons (fe_v 0 (pv 0)) (fa_cons fe_int fa_nil))) fa_nil))))) rfl T.m_tuple) (fe_tuple (fr_v 1 (pv 1)) rfl T.m_tuple))))))
theorem d_divisors_of_row (T : Tx K mg ad fd) : FnG P w K mg base 1 (ad 9) (fd 9) ["row"] (spF K F_divisors_of_row) := by
  refine fnRun (fb := b_divisors_of_row) T.F9 sc9 (fun cdv A outer s H hr hG => ?_)
  exact (fss_cons (fs_set (i := 1) sc9.nd rfl (by first | exact Or.inl rfl | exact Or.inr rfl) (FL.fe (fl_lst (fa_cons fe_int fa_nil))))
    (fss_cons (fs_for rfl (fi_seq (fe_v 0 (pv 0))) (fg_tup rfl (fgs_cons (fg_name (i := 2) sc9.nd rfl (by first | exact Or.inl rfl | exact Or.inr rfl)) (fgs_cons (fg_name (i := 3) sc9.nd rfl (by first | exact Or.inl rfl | exact Or.inr rfl)) fgs_nil))) (fss_cons (fs_tgO1 (i := 4) (j := 5) (fun _ _ h h2 => ps_asg (pe_tup (pa_cons h (pa_cons h2 pa_nil))) (pg_tup rfl (pgs_cons (pg_name (i := 4) sc9.nd rfl (by first | exact Or.inl rfl | exact Or.inr rfl)) (pgs_cons (pg_name (i := 5) sc9.nd rfl (by first | exact Or.inl rfl | exact Or.inr rfl)) pgs_nil)))) (fl_lst fa_nil) fe_int)
    (fss_cons (fs_for rfl (fi_rng1 (fa_cons (fe_add (fe_v 3 (pv 3)) fe_int) fa_nil) rfl T.m_range) (fg_name (i := 6) sc9.nd rfl (by first | exact Or.inl rfl | exact Or.inr rfl)) (fss_cons (fs_ext (i := 4) (fun _ h => ps_expr (pe_bm PySem.F.plainAttrs_list PySem.F.slot_list_extend PySem.F.type_list_extend mt_extend (pv 4) (pa_cons h pa_nil))) (FL.fe (fl_lc [("d", 7)] rfl sc9.nd (fi_seq (fe_v 1 (pv 1))) (blkOk_by (N := ["row", "found", "p", "k", "late", "power", "lap", "d"]) (sc := defScope (top 12)) (by decide +kernel)) (fun _ _ _ _ _ => (fg_name (i := 7) sc9.nd rfl (by first | exact Or.inl rfl | exact Or.inr rfl))) (fun _ _ _ _ _ => fts_nil) (fun _ _ _ _ _ => (fe_mul (fe_v 7 (pv 7)) (fe_v 5 (pv 5)))))))
    (fss_one (fs_set (i := 5) sc9.nd rfl (by first | exact Or.inl rfl | exact Or.inr rfl) (fe_mul (fe_v 5 (pv 5)) (fe_v 2 (pv 2)))))))
    (fss_one (fs_set (i := 1) sc9.nd rfl (by first | exact Or.inl rfl | exact Or.inr rfl) (FL.fe (fl_list (fr_v 4 (pv 4)) rfl T.m_list)))))))
    (fss_one (fs_ret (fe_v 1 (pv 1))))))
theorem d_divisors_by_four (T : Tx K mg ad fd) : FnG P w K mg base 2 (ad 10) (fd 10) ["n"] (spF K F_divisors_by_four) := by
  have D9 : FnG P w K mg base 1 (ad 9) (fd 9) _ (spF K F_divisors_of_row) := d_divisors_of_row T
  have D8 : FnG P w K mg base 1 (ad 8) (fd 8) _ (spF K F_prime_powers_in) := d_prime_powers_in T
  refine fnRun (fb := b_divisors_by_four) T.F10 sc10 (fun cdv A outer s H hr hG => ?_)
  exact (fss_cons (fs_set (i := 1) sc10.nd rfl (by first | exact Or.inl rfl | exact Or.inr rfl) (fe_call D9 (hr.mono (by decide)) hG rfl T.g9 T.F9.kp T.b9 (fa_cons (fe_call D8 (hr.mono (by decide)) hG rfl T.g8 T.F8.kp T.b8 (fa_cons (fe_v 0 (pv 0)) fa_nil)) fa_nil)))
    (fss_one (fs_ret (fe_tup (fa_cons (fe_len (FE.rd (FL.fe (fl_lc [("d", 2)] rfl sc10.nd (fi_seq (fe_v 1 (pv 1))) (blkOk_by (N := ["n", "some", "d"]) (sc := defScope (top 13)) (by decide +kernel)) (fun _ _ _ _ _ => (fg_name (i := 2) sc10.nd rfl (by first | exact Or.inl rfl | exact Or.inr rfl))) (fun _ _ _ _ _ => (fts_one (ft_eq hr.units (fe_mod (fe_v 2 (pv 2)) fe_int) fe_int))) (fun _ _ _ _ _ => (fe_v 2 (pv 2)))))) rfl T.m_len) (fa_cons (fe_len (FE.rd (FL.fe (fl_lc [("d", 2)] rfl sc10.nd (fi_seq (fe_v 1 (pv 1))) (blkOk_by (N := ["n", "some", "d"]) (sc := defScope (top 13)) (by decide +kernel)) (fun _ _ _ _ _ => (fg_name (i := 2) sc10.nd rfl (by first | exact Or.inl rfl | exact Or.inr rfl))) (fun _ _ _ _ _ => (fts_one (ft_eq hr.units (fe_mod (fe_v 2 (pv 2)) fe_int) fe_int))) (fun _ _ _ _ _ => (fe_v 2 (pv 2)))))) rfl T.m_len) fa_nil))))))
theorem d_count_first_ways (T : Tx K mg ad fd) : FnG P w K mg base 3 (ad 11) (fd 11) ["n"] (spF K F_count_first_ways) := by
  have D10 : FnG P w K mg base 2 (ad 10) (fd 10) _ (spF K F_divisors_by_four) := d_divisors_by_four T
  refine fnRun (fb := b_count_first_ways) T.F11 sc11 (fun cdv A outer s H hr hG => ?_)
  exact (fss_cons (fs_tg (fe_call D10 (hr.mono (by decide)) hG rfl T.g10 T.F10.kp T.b10 (fa_cons (fe_v 0 (pv 0)) fa_nil)) (fg_tup rfl (fgs_cons (fg_name (i := 1) sc11.nd rfl (by first | exact Or.inl rfl | exact Or.inr rfl)) (fgs_cons (fg_name (i := 2) sc11.nd rfl (by first | exact Or.inl rfl | exact Or.inr rfl)) fgs_nil))))
    (fss_one (fs_ret (fe_sub (fe_v 1 (pv 1)) (fe_v 2 (pv 2))))))
theorem d_count_ways (T : Tx K mg ad fd) : FnG P w K mg base 4 (ad 12) (fd 12) ["n"] (spF K F_count_ways) := by
  have D11 : FnG P w K mg base 3 (ad 11) (fd 11) _ (spF K F_count_first_ways) := d_count_first_ways T
  refine fnRun (fb := b_count_ways) T.F12 sc12 (fun cdv A outer s H hr hG => ?_)
  exact (fss_one (fs_ret (fe_mul fe_int (fe_call D11 (hr.mono (by decide)) hG rfl T.g11 T.F11.kp T.b11 (fa_cons (fe_v 0 (pv 0)) fa_nil)))))
theorem d_law_times (T : Tx K mg ad fd) : FnG P w K mg base 1 (ad 17) (fd 17) ["x", "y"] (spF K F_law_times) := by
  refine fnRun (fb := b_law_times) T.F17 sc17 (fun cdv A outer s H hr hG => ?_)
  exact (fss_cons (fs_tg (fe_v 0 (pv 0)) (fg_tup rfl (fgs_cons (fg_name (i := 2) sc17.nd rfl (by first | exact Or.inl rfl | exact Or.inr rfl)) (fgs_cons (fg_name (i := 3) sc17.nd rfl (by first | exact Or.inl rfl | exact Or.inr rfl)) (fgs_cons (fg_name (i := 4) sc17.nd rfl (by first | exact Or.inl rfl | exact Or.inr rfl)) (fgs_cons (fg_name (i := 5) sc17.nd rfl (by first | exact Or.inl rfl | exact Or.inr rfl)) fgs_nil))))))
    (fss_cons (fs_tg (fe_v 1 (pv 1)) (fg_tup rfl (fgs_cons (fg_name (i := 6) sc17.nd rfl (by first | exact Or.inl rfl | exact Or.inr rfl)) (fgs_cons (fg_name (i := 7) sc17.nd rfl (by first | exact Or.inl rfl | exact Or.inr rfl)) (fgs_cons (fg_name (i := 8) sc17.nd rfl (by first | exact Or.inl rfl | exact Or.inr rfl)) (fgs_cons (fg_name (i := 9) sc17.nd rfl (by first | exact Or.inl rfl | exact Or.inr rfl)) fgs_nil))))))
    (fss_cons (fs_set (i := 10) sc17.nd rfl (by first | exact Or.inl rfl | exact Or.inr rfl) (fe_tup (fa_cons (fe_sub (fe_sub (fe_sub (fe_mul (fe_v 2 (pv 2)) (fe_v 6 (pv 6))) (fe_mul (fe_v 3 (pv 3)) (fe_v 7 (pv 7)))) (fe_mul (fe_v 4 (pv 4)) (fe_v 8 (pv 8)))) (fe_mul (fe_v 5 (pv 5)) (fe_v 9 (pv 9)))) (fa_cons (fe_sub (fe_add (fe_add (fe_mul (fe_v 2 (pv 2)) (fe_v 7 (pv 7))) (fe_mul (fe_v 3 (pv 3)) (fe_v 6 (pv 6)))) (fe_mul (fe_v 4 (pv 4)) (fe_v 9 (pv 9)))) (fe_mul (fe_v 5 (pv 5)) (fe_v 8 (pv 8)))) fa_nil))))
    (fss_cons (fs_set (i := 10) sc17.nd rfl (by first | exact Or.inl rfl | exact Or.inr rfl) (fe_catT (fe_v 10 (pv 10)) (fe_tup (fa_cons (fe_add (fe_add (fe_sub (fe_mul (fe_v 2 (pv 2)) (fe_v 8 (pv 8))) (fe_mul (fe_v 3 (pv 3)) (fe_v 9 (pv 9)))) (fe_mul (fe_v 4 (pv 4)) (fe_v 6 (pv 6)))) (fe_mul (fe_v 5 (pv 5)) (fe_v 7 (pv 7)))) (fa_cons (fe_add (fe_sub (fe_add (fe_mul (fe_v 2 (pv 2)) (fe_v 9 (pv 9))) (fe_mul (fe_v 3 (pv 3)) (fe_v 8 (pv 8)))) (fe_mul (fe_v 4 (pv 4)) (fe_v 7 (pv 7)))) (fe_mul (fe_v 5 (pv 5)) (fe_v 6 (pv 6)))) fa_nil)))))
    (fss_one (fs_ret (fe_tuple (FE.rd (FL.fe (fl_lc [("x", 0)] rfl sc17.nd (fi_seq (fe_v 10 (pv 10))) (blkOk_by (N := ["x", "y", "a", "b", "c", "d", "e", "f", "g", "h", "row"]) (sc := defScope (top 21)) (by decide +kernel)) (fun _ _ _ _ _ => (fg_name (i := 0) sc17.nd rfl (by first | exact Or.inl rfl | exact Or.inr rfl))) (fun _ _ _ _ _ => fts_nil) (fun _ _ _ _ _ => (fe_fdiv (fe_v 0 (pv 0)) fe_int))))) rfl T.m_tuple)))))))
theorem d_law_two (T : Tx K mg ad fd) : FnG P w K mg base 1 (ad 18) (fd 18) ["n"] (spF K F_law_two) := by
  refine fnRun (fb := b_law_two) T.F18 sc18 (fun cdv A outer s H hr hG => ?_)
  exact (fss_cons (fs_tg (fe_tup (fa_cons fe_int (fa_cons fe_int fa_nil))) (fg_tup rfl (fgs_cons (fg_name (i := 1) sc18.nd rfl (by first | exact Or.inl rfl | exact Or.inr rfl)) (fgs_cons (fg_name (i := 2) sc18.nd rfl (by first | exact Or.inl rfl | exact Or.inr rfl)) fgs_nil))))
    (fss_cons (fs_while (n := fuel) (ft_le (fe_mul (fe_v 2 (pv 2)) (fe_v 2 (pv 2))) (fe_v 0 (pv 0))) (fss_cons (fs_par (i := 3) (j := 4) (fun _ _ h h2 => ps_par rfl sc18.nd rfl rfl (by decide) rfl rfl (pa_cons h (pa_cons h2 pa_nil)) rfl) (fe_sub (fe_v 0 (pv 0)) (fe_mul (fe_v 2 (pv 2)) (fe_v 2 (pv 2)))) fe_int)
    (fss_cons (fs_while (n := fuel) (ft_lt (fe_mul (fe_v 4 (pv 4)) (fe_v 4 (pv 4))) (fe_v 3 (pv 3))) (fss_one (fs_set (i := 4) sc18.nd rfl (by first | exact Or.inl rfl | exact Or.inr rfl) (fe_add (fe_v 4 (pv 4)) fe_int))))
    (fss_cons (fs_if (ft_eq hr.units (fe_mul (fe_v 4 (pv 4)) (fe_v 4 (pv 4))) (fe_v 3 (pv 3))) (fss_one (fs_set (i := 1) sc18.nd rfl (by first | exact Or.inl rfl | exact Or.inr rfl) (fe_add (fe_v 1 (pv 1)) (fe_mul (fe_ifExp (ft_gt (fe_v 2 (pv 2)) fe_int) fe_int fe_int) (fe_ifExp (ft_gt (fe_v 4 (pv 4)) fe_int) fe_int fe_int))))) fss_nil)
    (fss_one (fs_set (i := 2) sc18.nd rfl (by first | exact Or.inl rfl | exact Or.inr rfl) (fe_add (fe_v 2 (pv 2)) fe_int)))))))
    (fss_one (fs_ret (fe_v 1 (pv 1))))))
theorem d_law_common (T : Tx K mg ad fd) : FnG P w K mg base 1 (ad 19) (fd 19) ["m", "n"] (spF K F_law_common) := by
  refine fnRun (fb := b_law_common) T.F19 sc19 (fun cdv A outer s H hr hG => ?_)
  exact (fss_cons (fs_while (n := fuel) (ft_gt (fe_v 1 (pv 1)) fe_int) (fss_one (fs_par (i := 0) (j := 1) (fun _ _ h h2 => ps_par rfl sc19.nd rfl rfl (by decide) rfl rfl (pa_cons h (pa_cons h2 pa_nil)) rfl) (fe_v 1 (pv 1)) (fe_mod (fe_intC (fr_v 0 (pv 0)) rfl T.m_int) (fe_v 1 (pv 1))))))
    (fss_one (fs_ret (fe_v 0 (pv 0)))))
end
end K25
namespace K25
open PySem PySem.Spec PyProof.Rows L2 Fe
theorem sc13 : FnScope ["script", "mixed", "cell"] ["script"] (defScope (top 17)) := ⟨rfl, rfl, rfl, by decide +kernel, rfl, by decide +kernel, by decide +kernel⟩
section
variable {P : Program} {w : World} {K : PySem.W.Frag} {mg : Str → Option Value} {base : Heap} {ad : Nat → Addr} {fd : Nat → FuncData}
theorem d_mk (T : Tx K mg ad fd) : FnG P w K mg base 1 (ad 13) (fd 13) ["script"] (spMk K) := by
  refine fnG_of T.F13 sc13 (fun vs H Q h => ?_) fun cdv A outer s H vs Q hr hG h => ?_
  · obtain ⟨p, ns, rfl, _⟩ := h
    rfl
  · obtain ⟨a, ns, rfl, hS, hlen, k⟩ := h
    refine ⟨_, pss_cons (ps_set (i := 1) sc13.nd rfl (Or.inl rfl) pe_int)
      (pss_cons (ps_for PassesOwn.never rfl (pi_list (pv 0)) (pg_name (i := 2) sc13.nd rfl (Or.inl rfl)) (pss_one (ps_set (i := 1) sc13.nd rfl (Or.inl rfl)
        (pe_op op_mod (pe_callTy call_int1 rfl T.m_int (by decide +kernel) (pa_cons (pe_op op_add (pe_op op_add (pe_op op_mul (pv 1) pe_int) (pe_op op_mul (pv 2) pe_int)) pe_int) pa_nil)) pe_int))))
      (pss_one (ps_ret (pe_disp (pps_cons pe_str (pe_revL (pe_lc (own := [("cell", 2)]) (g := gName 2) (tt := tYes) rfl sc13.nd (pi_list (pv 0)) (blkOk_by (N := ["script", "mixed", "cell"]) (sc := defScope (top 17)) (by decide +kernel))
        (fun _ _ _ _ _ => pg_name (i := 2) sc13.nd rfl (Or.inl rfl)) (fun _ _ _ _ _ => pts_nil) (fun _ _ _ _ _ => pe_callB call_abs rfl T.m_abs (by decide +kernel) (pa_cons (pv 2) pa_nil)))) (pps_cons pe_str pe_int (pps_cons pe_str (pv 1) (pps_cons pe_str pe_int pps_nil)))) (by decide) rfl (by simp) (by decide))))), ?_⟩
    refine ⟨_, rfl, a, rfl, ⟨_, hS⟩, for_list (K := K) (a := a) (xs := ns.map V.int) (fun i σ H2 => ∃ (m : Int) (v : Option V), σ = [some (.ref a), some (.int m), v] ∧ H2 = H) ⟨_, none, rfl, rfl⟩ (fun i σ H2 _ ⟨_, _, _, e⟩ => by rw [e]; exact hS) ?_ ?_⟩
    · rintro i y σ H2 hi ⟨m, v, rfl, rfl⟩
      obtain ⟨z, rfl⟩ := int_at hi
      exact ⟨_, rfl, _, _, rfl, rfl, Or.inr ⟨by decide, by decide⟩, _, rfl, _, _, rfl, rfl, Or.inr ⟨by decide, by decide⟩, _, _, rfl, rfl, _, _, rfl, rfl, Or.inl ⟨_, rfl, _, _, rfl, rfl, by show (0 : Int) < 2147483629; decide, _, _, rfl, rfl⟩⟩
    · rintro σ H2 ⟨m, v, rfl, rfl⟩
      intro p hp
      have sp : Same H2 (upd H2 p (.dK [])) := same_new hp
      refine ⟨_, rfl, a, rfl, ⟨_, sp.seq hS⟩, fun D hD => ?_⟩
      have nDp : D ≠ p := fun e => by
        rw [e, upd_same] at hD
        cases hD
      refine lc_list (K := K) (a := a) (xs := ns.map V.int) (fun i H3 => ∃ acc : List Int, acc.length = i ∧ H3 = upd (upd H2 p (.dK [])) D (.lst (acc.map V.int))) ⟨[], rfl, rfl⟩ (fun i H3 _ ⟨acc, _, e⟩ => by rw [e]; exact (same_new hD).seq (sp.seq hS)) ?_ ?_
      · rintro i y H3 hi ⟨acc, hl, rfl⟩
        obtain ⟨z, rfl⟩ := int_at hi
        have hi' := (List.getElem?_eq_some_iff.mp hi).1
        rw [List.length_map] at hi'
        refine ⟨rfl, ?_⟩
        refine ⟨_, rfl, z, rfl, acc.map V.int, upd_same, by rw [List.length_map, hl]; exact Nat.lt_of_lt_of_le (show i < 64 by omega) (by decide), acc ++ [if z < 0 then -z else z], by simp [hl], ?_⟩
        rw [upd_upd, List.map_append]
        rfl
      · rintro H3 ⟨acc, hl, rfl⟩
        refine ⟨D, _, rfl, Or.inl (Or.inl upd_same), fun c hc => ?_⟩
        have npc : p ≠ c := fun e => by
          rw [← e, upd_ne nDp.symm, upd_same] at hc
          cases hc
        have nDc : D ≠ c := fun e => by
          rw [← e, upd_same] at hc
          cases hc
        have hc2 : H2 c = none := by
          rw [upd_ne nDc.symm, upd_ne npc.symm] at hc
          exact hc
        have hD2 : H2 D = none := by
          rw [upd_ne nDp] at hD
          exact hD
        refine ⟨_, rfl, ?_⟩
        refine ⟨by rw [upd_ne npc, upd_ne nDp.symm]; exact upd_same, [(.inr "cells", .ref c), (.inr "left", .int _), (.inr "mixed", .int m), (.inr "turn", .int _)], rfl, (by show 4 ≤ 15; decide), ?_⟩
        refine k p c ⟨acc.reverse, 1, m, 0⟩ _ (fun b o e => ?_) hp hc2 ⟨?_, ?_⟩
        · have n1 : b ≠ D := ne_of_none e hD2
          have n2 : b ≠ p := ne_of_none e hp
          have n3 : b ≠ c := ne_of_none e hc2
          rw [upd_ne n2, upd_ne n3, upd_ne n1, upd_ne n2]
          exact e
        · exact upd_same.trans (by rfl)
        · rw [upd_ne npc.symm, upd_same, List.map_reverse]
end
abbrev F_law_pick := fPick (pickB 104729 17)
theorem sc14 : FnScope ["source", "many", "left", "mixed"] ["source", "many"] (defScope (top 18)) := ⟨rfl, rfl, rfl, by decide +kernel, rfl, by decide +kernel, by decide +kernel⟩
section
variable {P : Program} {w : World} {K : PySem.W.Frag} {mg : Str → Option Value} {base : Heap} {ad : Nat → Addr} {fd : Nat → FuncData}
theorem d_law_pick (T : Tx K mg ad fd) : FnG P w K mg base 1 (ad 14) (fd 14) ["source", "many"] (spS K (fPick (pickB 104729 17))) := by
  refine fnG_of T.F14 sc14 (fun vs H Q h => ?_) fun cdv A outer s0 H vs Q hr hG h => ?_
  · obtain ⟨a, c, us, G, s, ds, r, s', rfl, _, _, _, _, h1, h2, _⟩ := h
    unfold fPick at h2
    split at h2
    · rw [List.length_cons, h1.len]
      rfl
    · cases h2
  · obtain ⟨a, c, us, G, s, ds, r, s', rfl, h0, hs, ga, gc, h1, h2, h3⟩ := h
    unfold fPick at h2
    split at h2
    · rename_i m
      split at h2
      · rename_i hm
        cases h2
        have hm' : m.natAbs.log2 < 9000 := Nat.le_of_ble_eq_true hm
        cases h1 with | cons z1 z2 =>
        cases z1
        cases z2
        have fin : ∀ {H2 : Hp} {i : Int} {s2 : Src}, (i, s2) = pickB 104729 17 s m → Away H H2 a c → SrcAt H2 a c s2 → Q (.int i) H2 := by
          intro H2 i s2 e aw h2
          rw [← e] at h3
          exact h3 (.int i) c G H2 (Same.refl G) (fun b o z => aw b o (h0 b o z) (fun q => by rw [q, ga] at z; cases z) (fun q => by rw [q, gc] at z; cases z)) aw (fun b o _ _ _ z => z) h2 (Or.inl rfl) ga gc (.int i)
        refine ⟨_, pss_cons (ps_if (pt_cmpR op_lt (pv 1) pe_int (nomark _)) (pss_one (ps_ret pe_int)) pss_nil)
          (pss_cons (ps_while PassesOwn.never (PW.pt (pw_and (pt_cmpR op_lt (pe_dget (hu_of hr) (pv 0) pe_str (fun _ _ => rfl)) pe_int (nomark _)) (pw_and1 (pt_cmpR op_gt (pe_callB call_len_seq rfl T.m_len PySem.boot_len (pa_cons (pe_dget (hu_of hr) (pv 0) pe_str (fun _ _ => rfl)) pa_nil)) pe_int (nomark _)))))
            (pss_one (ps_dput (hu_of hr) (pv 0) pe_str (pe_bm0 PySem.F.plainAttrs_list PySem.F.slot_list_pop PySem.F.type_list_pop mt_pop (pe_dget (hu_of hr) (pv 0) pe_str (fun _ _ => rfl))) rfl)))
          (pss_cons (ps_set (i := 2) sc14.nd rfl (Or.inl rfl) (pe_dget (hu_of hr) (pv 0) pe_str (fun _ _ => rfl)))
          (pss_cons (ps_if (pt_cmpR op_gt (pv 2) pe_int (nomark _))
            (pss_cons (ps_dput (hu_of hr) (pv 0) pe_str (pe_op op_fdivW (pv 2) (pv 1)) rfl) (pss_one (ps_ret (pe_op op_mod (pe_callTy call_int1 rfl T.m_int (by decide +kernel) (pa_cons (pv 2) pa_nil)) (pv 1))))) pss_nil)
          (pss_cons (ps_dput (hu_of hr) (pv 0) pe_str (pe_op op_add (pe_dget (hu_of hr) (pv 0) pe_str (fun _ _ => rfl)) pe_int) rfl)
          (pss_cons (ps_set (i := 3) sc14.nd rfl (Or.inl rfl) (pe_op op_mod (pe_callTy call_int1 rfl T.m_int (by decide +kernel) (pa_cons (pe_op op_add (pe_dget (hu_of hr) (pv 0) pe_str (fun _ _ => rfl)) (pe_op op_mul (pe_dget (hu_of hr) (pv 0) pe_str (fun _ _ => rfl)) pe_int)) pa_nil)) pe_int))
          (pss_cons (ps_set (i := 3) sc14.nd rfl (Or.inl rfl) (pe_op op_mod (pe_callTy call_int1 rfl T.m_int (by decide +kernel) (pa_cons (pe_op op_add (pe_op op_mul (pv 3) (pv 3)) (pe_op op_mul (pe_dget (hu_of hr) (pv 0) pe_str (fun _ _ => rfl)) pe_int)) pa_nil)) pe_int))
          (pss_cons (ps_dput (hu_of hr) (pv 0) pe_str (pv 3) rfl) (pss_one (ps_ret (pe_op op_mod (pe_callTy call_int1 rfl T.m_int (by decide +kernel) (pa_cons (pe_op op_fdiv (pv 3) pe_int) pa_nil)) (pv 1))))))))))), ?_⟩
        refine ⟨_, rfl, _, _, rfl, rfl, _, rfl, ite2 (fun e => ?_) fun e => ?_⟩
        · have e' : m < 2 := of_decide_eq_true e
          exact fin (by unfold pickB; rw [if_pos e']) (Away.refl H a c) hs
        · have e' : ¬ m < 2 := fun z => e (decide_eq_true z)
          refine ⟨fun n σ H2 => ∃ l cs, σ = [some (.ref a), some (.int m), none, none] ∧ n = cs.length ∧ SrcAt H2 a c ⟨cs, l, s.mixed, s.turn⟩ ∧ Away H H2 a c ∧ popT cs.length l cs = popA s, ⟨_, s.left, s.cells, rfl, rfl, hs, Away.refl H a c, rfl⟩, ?_⟩
          rintro n σ H2 ⟨l, cs, rfl, rfl, h4, h5, h6⟩
          refine ⟨_, rfl, a, _, rfl, h4.left, _, _, rfl, rfl, _, rfl, ite2 (fun c1 => ?_) fun c1 => ?_⟩
          · have c1' : l < 2 := of_decide_eq_true c1
            refine ⟨_, rfl, a, _, rfl, h4.cells, c, _, rfl, Or.inl (Or.inl (Or.inl h4.2)), _, _, rfl, rfl, _, rfl, ite2 (fun c2 => ?_) fun c2 => ?_⟩
            · have c2' : (0 : Int) < ((cs.map V.int).length : Nat) := of_decide_eq_true c2
              have c3 : 0 < cs.length := by
                rw [List.length_map] at c2'
                omega
              refine ⟨_, fun σ' H' hN => ⟨cs.length - 1, by omega, hN⟩, ?_⟩
              have gl : (cs.map V.int)[(cs.map V.int).length - 1]? = some (.int (cs.getLastD 0)) := by
                rw [List.length_map, List.getElem?_map, ← List.getLast?_eq_getElem?]
                cases cs with
                | nil => exact absurd c3 (by simp)
                | cons z w => simp [List.getLastD_eq_getLast?, List.getLast?_cons]
              have hsC := h4.setCells cs.dropLast
              have eD : (cs.map V.int).dropLast = cs.dropLast.map V.int := by rw [List.map_dropLast]
              obtain ⟨H4, hp, eH, hs4⟩ := hsC.putLeft (cs.getLastD 0)
              refine ⟨_, rfl, a, _, rfl, h4.cells, Or.inl ⟨rfl, _, Or.inl (Or.inl h4.2)⟩, c, _, _, rfl, rfl, h4.2, gl, _, rfl, a, H4, rfl, ?_, cs.getLastD 0, cs.dropLast, rfl, by simp, hs4, ?_, ?_⟩
              · rw [eD]
                exact hp
              · rw [eH]
                exact h5.upC.upA
              · rw [← h6]
                obtain ⟨n, hn⟩ : ∃ n, cs.length = n + 1 := ⟨cs.length - 1, by omega⟩
                rw [List.length_dropLast, hn, popT_step ⟨c1', c3⟩, Nat.add_sub_cancel]
            · have c3 : cs.length = 0 := by
                have : ¬ (0 : Int) < ((cs.map V.int).length : Nat) := fun z => c2 (decide_eq_true z)
                rw [List.length_map] at this
                omega
              have hp : popA s = (l, cs) := by
                rw [← h6, c3]
                rfl
              have m0 : 0 < m := by omega
              refine ⟨_, rfl, a, _, rfl, h4.left, ?_⟩
              refine ⟨_, rfl, _, _, rfl, rfl, _, rfl, ite2 (fun c4 => ?_) fun c4 => ?_⟩
              · have c4' : 1 < l := of_decide_eq_true c4
                obtain ⟨H4, hq, eH, hs4⟩ := h4.putLeft (l / m)
                refine ⟨_, rfl, _, rfl, _, _, rfl, rfl, ⟨m0, hm'⟩, _, rfl, a, H4, rfl, hq, ?_⟩
                refine ⟨_, rfl, Or.inl ⟨_, rfl, _, rfl, _, _, rfl, rfl, m0, fin ?_ (by rw [eH]; exact h5.upA) hs4⟩⟩
                unfold pickB
                rw [if_neg e', hp, if_pos c4']
              · have c4' : ¬ 1 < l := fun z => c4 (decide_eq_true z)
                obtain ⟨H4, hq, eH, hs4⟩ := h4.putTurn (s.turn + 1)
                refine ⟨_, rfl, a, _, rfl, h4.turn, _, _, rfl, rfl, _, rfl, a, H4, rfl, hq, ?_⟩
                refine ⟨_, rfl, a, _, rfl, hs4.mixed, _, rfl, a, _, rfl, hs4.turn, _, _, rfl, rfl, Or.inr ⟨by decide, by decide⟩, _, _, rfl, rfl, Or.inl ⟨_, rfl, _, _, rfl, rfl, by show (0 : Int) < 998244353; decide, ?_⟩⟩
                have b0 : ∀ z : Int, -(2 ^ 64) < z % 998244353 ∧ z % 998244353 < 2 ^ 64 := fun z => ⟨by have := Int.emod_nonneg z (show (998244353 : Int) ≠ 0 by decide); omega, by have := Int.emod_lt_of_pos z (show (0 : Int) < 998244353 by decide); omega⟩
                refine ⟨_, rfl, _, rfl, _, _, rfl, rfl, Or.inl (b0 _), _, rfl, a, _, rfl, hs4.turn, _, _, rfl, rfl, Or.inr ⟨by decide, by decide⟩, _, _, rfl, rfl, Or.inl ⟨_, rfl, _, _, rfl, rfl, by show (0 : Int) < 2147483647; decide, ?_⟩⟩
                obtain ⟨H5, hq5, eH5, hs5⟩ := hs4.putMixed (turnA s 104729 17)
                refine ⟨_, rfl, _, rfl, a, H5, rfl, hq5, ?_⟩
                refine ⟨_, rfl, _, _, rfl, rfl, ⟨by decide, by decide⟩, Or.inl ⟨_, rfl, _, rfl, _, _, rfl, rfl, m0, fin ?_ (by rw [eH5, eH]; exact h5.upA.upA) hs5⟩⟩
                unfold pickB
                rw [if_neg e', hp, if_neg c4']
                rfl
          · have c1' : ¬ l < 2 := fun z => c1 (decide_eq_true z)
            have hp : popA s = (l, cs) := by
              rw [← h6]
              cases cs.length with
              | zero => rfl
              | succ n =>
                unfold popT
                rw [if_neg fun z => c1' z.1]
            have m0 : 0 < m := by omega
            refine ⟨_, rfl, a, _, rfl, h4.left, ?_⟩
            refine ⟨_, rfl, _, _, rfl, rfl, _, rfl, ite2 (fun c4 => ?_) fun c4 => ?_⟩
            · have c4' : 1 < l := of_decide_eq_true c4
              obtain ⟨H4, hq, eH, hs4⟩ := h4.putLeft (l / m)
              refine ⟨_, rfl, _, rfl, _, _, rfl, rfl, ⟨m0, hm'⟩, _, rfl, a, H4, rfl, hq, ?_⟩
              refine ⟨_, rfl, Or.inl ⟨_, rfl, _, rfl, _, _, rfl, rfl, m0, fin ?_ (by rw [eH]; exact h5.upA) hs4⟩⟩
              unfold pickB
              rw [if_neg e', hp, if_pos c4']
            · have c4' : ¬ 1 < l := fun z => c4 (decide_eq_true z)
              obtain ⟨H4, hq, eH, hs4⟩ := h4.putTurn (s.turn + 1)
              refine ⟨_, rfl, a, _, rfl, h4.turn, _, _, rfl, rfl, _, rfl, a, H4, rfl, hq, ?_⟩
              refine ⟨_, rfl, a, _, rfl, hs4.mixed, _, rfl, a, _, rfl, hs4.turn, _, _, rfl, rfl, Or.inr ⟨by decide, by decide⟩, _, _, rfl, rfl, Or.inl ⟨_, rfl, _, _, rfl, rfl, by show (0 : Int) < 998244353; decide, ?_⟩⟩
              have b0 : ∀ z : Int, -(2 ^ 64) < z % 998244353 ∧ z % 998244353 < 2 ^ 64 := fun z => ⟨by have := Int.emod_nonneg z (show (998244353 : Int) ≠ 0 by decide); omega, by have := Int.emod_lt_of_pos z (show (0 : Int) < 998244353 by decide); omega⟩
              refine ⟨_, rfl, _, rfl, _, _, rfl, rfl, Or.inl (b0 _), _, rfl, a, _, rfl, hs4.turn, _, _, rfl, rfl, Or.inr ⟨by decide, by decide⟩, _, _, rfl, rfl, Or.inl ⟨_, rfl, _, _, rfl, rfl, by show (0 : Int) < 2147483647; decide, ?_⟩⟩
              obtain ⟨H5, hq5, eH5, hs5⟩ := hs4.putMixed (turnA s 104729 17)
              refine ⟨_, rfl, _, rfl, a, H5, rfl, hq5, ?_⟩
              refine ⟨_, rfl, _, _, rfl, rfl, ⟨by decide, by decide⟩, Or.inl ⟨_, rfl, _, rfl, _, _, rfl, rfl, m0, fin ?_ (by rw [eH5, eH]; exact h5.upA.upA) hs5⟩⟩
              unfold pickB
              rw [if_neg e', hp, if_neg c4']
              rfl
      · cases h2
    · cases h2
end
section
variable {P : Program} {w : World} {K : PySem.W.Frag} {mg : Str → Option Value} {base : Heap} {ad : Nat → Addr} {fd : Nat → FuncData}
theorem sc15 : FnScope ["source", "some"] ["source", "some"] (defScope (top 19)) := ⟨rfl, rfl, rfl, by decide +kernel, rfl, by decide +kernel, by decide +kernel⟩
def b_law_of : SF := (sRet (fIx (fRd 1) (fCallS 0 F_law_pick (fCons (fR1 oLen (fRd 1)) fNil))))
def F_law_of : Src → List PyData → Option (PyData × Src) := runS 2 2 b_law_of
theorem d_law_of (T : Tx K mg ad fd) : FnG P w K mg base 2 (ad 15) (fd 15) ["source", "some"] (spS K F_law_of) := by
  have D14 := d_law_pick (P := P) (w := w) (base := base) T
  refine fnRunS (fb := b_law_of) T.F15 sc15 (fun cdv A outer s H hr hG => ?_)
  exact (fss_one (fs_ret (fe_ix (fr_v 1 (pv 1)) (fe_callS (i := 0) (fun _ h => pe_callG D14 (hr.mono (by decide)) hG rfl T.g14 T.F14.kp T.b14 (pa_cons (pv 0) h)) (fa_cons (fe_len (fr_v 1 (pv 1)) rfl T.m_len) fa_nil)))))
theorem sc16 : FnScope ["source", "things", "rest", "found"] ["source", "things"] (defScope (top 20)) := ⟨rfl, rfl, rfl, by decide +kernel, rfl, by decide +kernel, by decide +kernel⟩
def c_law_mixed_0 : BF := (fTst (fOpR oNe (fRd 2) (fVal (fAsL (fLst fNil)))))
def b_law_mixed_1 : SF := (sApp 3 (fPopAt 2 (fCallS 0 F_law_pick (fCons (fR1 oLen (fRd 2)) fNil))))
def b_law_mixed : SF := (sSeq (sParO3 2 3 (fR1L oList (fRd 1)) (fLst fNil))
    (sSeq (whl c_law_mixed_0 b_law_mixed_1 fuel)
    (fun ρ => (sRet (fVar 3)) (frzS 3 ρ))))
def F_law_mixed : Src → List PyData → Option (PyData × Src) := runS 2 4 b_law_mixed
theorem d_law_mixed (T : Tx K mg ad fd) : FnG P w K mg base 2 (ad 16) (fd 16) ["source", "things"] (spS K F_law_mixed) := by
  have D14 := d_law_pick (P := P) (w := w) (base := base) T
  refine fnRunS (fb := b_law_mixed) T.F16 sc16 (fun cdv A outer s H hr hG => ?_)
  exact (fss_cons (fs_parO3 (i := 2) (j := 3) (fun _ _ h h2 => ps_par rfl sc16.nd rfl rfl (by decide) rfl rfl (pa_cons h (pa_cons h2 pa_nil)) rfl) (fl_list (fr_v 1 (pv 1)) rfl T.m_list) (fl_lst fa_nil))
    (fss_cons (fs_while (n := fuel) (ft_neR hr.units (fr_v 2 (pv 2)) (FE.rd (FL.fe (fl_lst fa_nil)))) (fss_one (fs_app (i := 3) (fun _ h => ps_expr (pe_bm PySem.F.plainAttrs_list PySem.F.slot_list_append PySem.F.type_list_append mt_append (pv 3) (pa_cons h pa_nil))) (fe_popAt (i := 2) (fun _ h => pe_bm PySem.F.plainAttrs_list PySem.F.slot_list_pop PySem.F.type_list_pop mt_popAt (pv 2) (pa_cons h pa_nil)) (fe_callS (i := 0) (fun _ h => pe_callG D14 (hr.mono (by decide)) hG rfl T.g14 T.F14.kp T.b14 (pa_cons (pv 0) h)) (fa_cons (fe_len (fr_v 2 (pv 2)) rfl T.m_len) fa_nil))))))
    (fss_one (fs_frz 3 (fs_ret (fe_v 3 (pv 3)))))))
theorem sc20 : FnScope ["script", "source", "lap", "n", "pairs", "total", "odd", "m", "one", "other", "signs", "x", "y", "late", "k", "d", "a", "s"] ["script"] (defScope (top 24)) := ⟨rfl, rfl, rfl, by decide +kernel, rfl, by decide +kernel, by decide +kernel⟩
def e_law_0 : EF := (fCall F_law_two (fCons (fVar 14) fNil))
def c_law_1 : BF := (fTst (fOp oNe (fCall F_count_ways (fCons (fVar 14) fNil)) (fIx (fRd 4) (fVar 14))))
def e_law_2 : EF := (fVar 14)
def e_law_3 : EF := (fOp oMul (fIx (fRd 4) (fVar 14)) (fIx (fRd 4) (fOp oSub (fVar 3) (fVar 14))))
def c_law_4 : BF := (fTst (fOp oEq (fOp oMod (fR1 oInt (fRd 3)) (fVar 15)) (fC (.int 0))))
def e_law_5 : EF := (fVar 15)
def e_law_6 : EF := (fCallS 1 F_law_of (fCons (fAsL (fLst (fCons (fC (.int 2)) (fCons (fOp oSub (fC (.int 0)) (fC (.int 2))) fNil)))) fNil))
def e_law_7 : EF := (fOp oMul (fVar 16) (fVar 17))
def e_law_8 : EF := (fOp oMul (fVar 16) (fVar 17))
def c_law_9 : BF := (fTst (fOp oNe (fOp oMul (fOp oDiv (fVar 16) (fC (.int 2))) (fC (.int 2))) (fVar 16)))
def e_law_10 : EF := (fVar 16)
def e_law_11 : EF := (fOp oMul (fOp oDiv (fVar 16) (fC (.int 2))) (fOp oDiv (fVar 16) (fC (.int 2))))
def e_law_12 : EF := (fCall F_count_four_squares (fCons (fOp oMul (fVar 14) (fVar 3)) fNil))
def b_law_13 : SF := (sSeq (sSet 3 (fOp oAdd (fC (.int 1)) (fCallS 1 F_law_pick (fCons (fIf (fTst (fOp oEq (fVar 2) (fC (.int 0)))) (fC (.int 370)) (fC (.int 60))) fNil))))
    (sSeq (sSet 4 (fAsL (fComp [14] (fRng1 (fCons (fOp oAdd (fVar 3) (fC (.int 1))) fNil)) (gNm 14) fYes e_law_0)))
    (sSeq (sIf (fTst (fOp oNe (fAsL (fComp [14] (fSeq (fAsL (fSlL (fVal (fCallS 1 F_law_mixed (fCons (fAsL (fLrg2 (fC (.int 1)) (fOp oAdd (fVar 3) (fC (.int 1))))) fNil))) oNn (oSm (fC (.int 8)))))) (gNm 14) c_law_1 e_law_2)) (fAsL (fLst fNil)))) (sRet (fC (.bool false))) sNil)
    (sSeq (sSet 5 (fR1 oSum (fVal (fAsL (fComp [14] (fRng1 (fCons (fOp oAdd (fVar 3) (fC (.int 1))) fNil)) (gNm 14) fYes e_law_3)))))
    (sSeq (sIf (fTst (fRepNe (fVal (fCall F_count_four_squares (fCons (fVar 3) fNil))) (fRd 5))) (sRet (fC (.bool false))) sNil)
    (sSeq (sSet 6 (fR1 oSum (fVal (fAsL (fComp [15] (fRng3 (fCons (fC (.int 1)) (fCons (fOp oAdd (fVar 3) (fC (.int 1))) (fCons (fC (.int 2)) fNil)))) (gNm 15) c_law_4 e_law_5)))))
    (sSeq (sIf (fTst (fRepNe (fVal (fAsL (fLst (fCons (fCall F_odd_divisor_sum (fCons (fVar 3) fNil)) (fCons (fCall F_count_fours (fCons (fVar 3) fNil)) fNil))))) (fVal (fAsL (fLst (fCons (fVar 6) (fCons (fOp oMul (fC (.int 24)) (fVar 6)) fNil))))))) (sRet (fC (.bool false))) sNil)
    (sSeq (sIf (fTst (fOp oNe (fCall F_count_fours (fCons (fVar 3) fNil)) (fIf (fTst (fOp oEq (fOp oMul (fOp oDiv (fVar 3) (fC (.int 2))) (fC (.int 2))) (fVar 3))) (fCall F_count_four_squares (fCons (fVar 3) fNil)) (fOp oMul (fC (.int 3)) (fCall F_count_four_squares (fCons (fVar 3) fNil)))))) (sRet (fC (.bool false))) sNil)
    (sSeq (sSet 7 (fOp oAdd (fC (.int 1)) (fCallS 1 F_law_pick (fCons (fOp oDiv (fC (.int 3000)) (fVar 3)) fNil))))
    (sSeq (sIf (fTst (fOp oEq (fCall F_law_common (fCons (fVar 7) (fCons (fVar 3) fNil))) (fC (.int 1)))) (sSeq (sIf (fTst (fOp oNe (fOp oMul (fC (.int 8)) (fCall F_count_four_squares (fCons (fOp oMul (fVar 7) (fVar 3)) fNil))) (fOp oMul (fCall F_count_four_squares (fCons (fVar 7) fNil)) (fCall F_count_four_squares (fCons (fVar 3) fNil))))) (sRet (fC (.bool false))) sNil)
    (sIf (fTst (fOp oNe (fOp oMul (fC (.int 24)) (fCall F_count_fours (fCons (fOp oMul (fVar 7) (fVar 3)) fNil))) (fOp oMul (fCall F_count_fours (fCons (fVar 7) fNil)) (fCall F_count_fours (fCons (fVar 3) fNil))))) (sRet (fC (.bool false))) sNil)) sNil)
    (sSeq (sPar 8 9 (fCall F_any_four_squares (fCons (fVar 7) fNil)) (fCall F_any_four_squares (fCons (fVar 3) fNil)))
    (sSeq (sSet 10 (fAsL (fComp [14] (fRng1 (fCons (fC (.int 8)) fNil)) (gNm 14) fYes e_law_6)))
    (sSeq (sSet 11 (fR1 oTuple (fVal (fAsL (fComp [16, 17] (fZip (fCons (fCallS 1 F_law_mixed (fCons (fAsL (fR1L oList (fRd 8))) fNil)) (fCons (fAsL (fSlL (fRd 10) oNn (oSm (fC (.int 4))))) fNil))) (gTp 2 (gCons' (gNm 16) (gCons' (gNm 17) gNil'))) fYes e_law_7)))))
    (sSeq (sSet 12 (fR1 oTuple (fVal (fAsL (fComp [16, 17] (fZip (fCons (fCallS 1 F_law_mixed (fCons (fAsL (fR1L oList (fRd 9))) fNil)) (fCons (fAsL (fSlL (fRd 10) (oSm (fC (.int 4))) oNn)) fNil))) (gTp 2 (gCons' (gNm 16) (gCons' (gNm 17) gNil'))) fYes e_law_8)))))
    (sSeq (sSet 13 (fCall F_four_product (fCons (fVar 11) (fCons (fVar 12) fNil))))
    (sSeq (sIf (fOr (fTst (fRepNe (fRd 13) (fVal (fCall F_law_times (fCons (fVar 11) (fCons (fVar 12) fNil)))))) (fTst (fOp oNe (fAsL (fComp [16] (fSeq (fVar 13)) (gNm 16) c_law_9 e_law_10)) (fAsL (fLst fNil))))) (sRet (fC (.bool false))) sNil)
    (sSeq (sIf (fOr (fTst (fOp oNe (fCall F_four_norm (fCons (fVar 13) fNil)) (fOp oMul (fVar 7) (fVar 3)))) (fTst (fOp oNe (fR1 oSum (fVal (fAsL (fComp [16] (fSeq (fVar 13)) (gNm 16) fYes e_law_11)))) (fOp oMul (fVar 7) (fVar 3))))) (sRet (fC (.bool false))) sNil)
    (sIf (fAnd (fTst (fOp oNe (fOp oMul (fOp oDiv (fVar 3) (fC (.int 2))) (fC (.int 2))) (fVar 3))) (fTst (fOp oNe (fAsL (fComp [14] (fSeq (fTup (fCons (fC (.int 2)) (fCons (fC (.int 4)) (fCons (fC (.int 8)) fNil))))) (gNm 14) fYes e_law_12)) (fAsL (fRep (fAsL (fLst (fCons (fOp oMul (fC (.int 3)) (fCall F_count_four_squares (fCons (fVar 3) fNil))) fNil))) (fC (.int 3))))))) (sRet (fC (.bool false))) sNil))))))))))))))))))
def e_law_14 : EF := (fCall F_count_four_squares (fCons (fVar 3) fNil))
def b_law : SF := (sSeq (sFor (fRng1 (fCons (fC (.int 2)) fNil)) (gNm 2) b_law_13)
    (sRet (fOp oEq (fAsL (fComp [3] (fSeq (fTup (fCons (fC (.int 1)) (fCons (fC (.int 2)) (fCons (fC (.int 3)) (fCons (fC (.int 4)) fNil)))))) (gNm 3) fYes e_law_14)) (fAsL (fLst (fCons (fC (.int 8)) (fCons (fC (.int 24)) (fCons (fC (.int 32)) (fCons (fC (.int 24)) fNil)))))))))
theorem d_law (hF : ∀ s : Src, ∃ ρ', b_law (startL 18 s) = some (.rt (.bool true) ρ')) (T : Tx K mg ad fd) : FnG P w K mg base 5 (ad 20) (fd 20) ["script"] (spLaw K) := by
  have DM := d_mk (P := P) (w := w) (base := base) T
  have D14 := d_law_pick (P := P) (w := w) (base := base) T
  have D18 := d_law_two (P := P) (w := w) (base := base) T
  have D16 := d_law_mixed (P := P) (w := w) (base := base) T
  have D12 := d_count_ways (P := P) (w := w) (base := base) T
  have D7 := d_count_four_squares (P := P) (w := w) (base := base) T
  have D6 := d_count_fours (P := P) (w := w) (base := base) T
  have D5 := d_odd_divisor_sum (P := P) (w := w) (base := base) T
  have D19 := d_law_common (P := P) (w := w) (base := base) T
  have D4 := d_any_four_squares (P := P) (w := w) (base := base) T
  have D15 := d_law_of (P := P) (w := w) (base := base) T
  have D0 := d_four_product (P := P) (w := w) (base := base) T
  have D17 := d_law_times (P := P) (w := w) (base := base) T
  have D1 := d_four_norm (P := P) (w := w) (base := base) T
  refine fnLaw (fb := b_law) T.F20 sc20 rfl (hb := fun cdv A outer s H hr hG => ⟨?_, ?_⟩) (hF := hF)
  · exact ps_set (i := 1) sc20.nd rfl (by first | exact Or.inl rfl | exact Or.inr rfl) (pe_callG DM (hr.mono (by decide)) hG rfl T.g13 T.F13.kp T.b13 (pa_cons (pv 0) pa_nil))
  exact (fss_cons (fs_for rfl (fi_rng1 (fa_cons fe_int fa_nil) rfl T.m_range) (fg_name (i := 2) sc20.nd rfl (by first | exact Or.inl rfl | exact Or.inr rfl)) (fss_cons (fs_set (i := 3) sc20.nd rfl (by first | exact Or.inl rfl | exact Or.inr rfl) (fe_add fe_int (fe_callS (i := 1) (fun _ h => pe_callG D14 (hr.mono (by decide)) hG rfl T.g14 T.F14.kp T.b14 (pa_cons (pv 1) h)) (fa_cons (fe_ifExp (ft_eq hr.units (fe_v 2 (pv 2)) fe_int) fe_int fe_int) fa_nil))))
    (fss_cons (fs_set (i := 4) sc20.nd rfl (by first | exact Or.inl rfl | exact Or.inr rfl) (FL.fe (fl_lc [("k", 14)] rfl sc20.nd (fi_rng1 (fa_cons (fe_add (fe_v 3 (pv 3)) fe_int) fa_nil) rfl T.m_range) (blkOk_by (N := ["script", "source", "lap", "n", "pairs", "total", "odd", "m", "one", "other", "signs", "x", "y", "late", "k", "d", "a", "s"]) (sc := defScope (top 24)) (by decide +kernel)) (fun _ _ _ _ _ => (fg_name (i := 14) sc20.nd rfl (by first | exact Or.inl rfl | exact Or.inr rfl))) (fun _ _ _ _ _ => fts_nil) (fun _ _ _ _ _ => (fe_call D18 (hr.mono (by decide)) hG rfl T.g18 T.F18.kp T.b18 (fa_cons (fe_v 14 (pv 14)) fa_nil))))))
    (fss_cons (fs_if (ft_ne hr.units (FL.fe (fl_lc [("k", 14)] rfl sc20.nd (fi_seq (FL.fe (fl_sl (FE.rd (fe_callS (i := 1) (fun _ h => pe_callG D16 (hr.mono (by decide)) hG rfl T.g16 T.F16.kp T.b16 (pa_cons (pv 1) h)) (fa_cons (FL.fe (fl_rng2 rfl fe_int (fe_add (fe_v 3 (pv 3)) fe_int) rfl T.m_list rfl T.m_range)) fa_nil))) fo_none (fo_some fe_int)))) (blkOk_by (N := ["script", "source", "lap", "n", "pairs", "total", "odd", "m", "one", "other", "signs", "x", "y", "late", "k", "d", "a", "s"]) (sc := defScope (top 24)) (by decide +kernel)) (fun _ _ _ _ _ => (fg_name (i := 14) sc20.nd rfl (by first | exact Or.inl rfl | exact Or.inr rfl))) (fun _ _ _ _ _ => (fts_one (ft_ne hr.units (fe_call D12 (hr.mono (by decide)) hG rfl T.g12 T.F12.kp T.b12 (fa_cons (fe_v 14 (pv 14)) fa_nil)) (fe_ix (fr_v 4 (pv 4)) (fe_v 14 (pv 14)))))) (fun _ _ _ _ _ => (fe_v 14 (pv 14))))) (FL.fe (fl_lst fa_nil))) (fss_one (fs_ret fe_bl)) fss_nil)
    (fss_cons (fs_set (i := 5) sc20.nd rfl (by first | exact Or.inl rfl | exact Or.inr rfl) (fe_sum rfl (FE.rd (FL.fe (fl_lc [("k", 14)] rfl sc20.nd (fi_rng1 (fa_cons (fe_add (fe_v 3 (pv 3)) fe_int) fa_nil) rfl T.m_range) (blkOk_by (N := ["script", "source", "lap", "n", "pairs", "total", "odd", "m", "one", "other", "signs", "x", "y", "late", "k", "d", "a", "s"]) (sc := defScope (top 24)) (by decide +kernel)) (fun _ _ _ _ _ => (fg_name (i := 14) sc20.nd rfl (by first | exact Or.inl rfl | exact Or.inr rfl))) (fun _ _ _ _ _ => fts_nil) (fun _ _ _ _ _ => (fe_mul (fe_ix (fr_v 4 (pv 4)) (fe_v 14 (pv 14))) (fe_ix (fr_v 4 (pv 4)) (fe_sub (fe_v 3 (pv 3)) (fe_v 14 (pv 14))))))))) rfl T.m_sum))
    (fss_cons (fs_if (ft_repNe hr.units hG (FE.rd (fe_call D7 (hr.mono (by decide)) hG rfl T.g7 T.F7.kp T.b7 (fa_cons (fe_v 3 (pv 3)) fa_nil))) (fr_v 5 (pv 5)) rfl T.m_repr) (fss_one (fs_ret fe_bl)) fss_nil)
    (fss_cons (fs_set (i := 6) sc20.nd rfl (by first | exact Or.inl rfl | exact Or.inr rfl) (fe_sum rfl (FE.rd (FL.fe (fl_lc [("d", 15)] rfl sc20.nd (fi_rng3 (fa_cons fe_int (fa_cons (fe_add (fe_v 3 (pv 3)) fe_int) (fa_cons fe_int fa_nil))) rfl T.m_range) (blkOk_by (N := ["script", "source", "lap", "n", "pairs", "total", "odd", "m", "one", "other", "signs", "x", "y", "late", "k", "d", "a", "s"]) (sc := defScope (top 24)) (by decide +kernel)) (fun _ _ _ _ _ => (fg_name (i := 15) sc20.nd rfl (by first | exact Or.inl rfl | exact Or.inr rfl))) (fun _ _ _ _ _ => (fts_one (ft_eq hr.units (fe_mod (fe_intC (fr_v 3 (pv 3)) rfl T.m_int) (fe_v 15 (pv 15))) fe_int))) (fun _ _ _ _ _ => (fe_v 15 (pv 15)))))) rfl T.m_sum))
    (fss_cons (fs_if (ft_repNe hr.units hG (FE.rd (FL.fe (fl_lst (fa_cons (fe_call D5 (hr.mono (by decide)) hG rfl T.g5 T.F5.kp T.b5 (fa_cons (fe_v 3 (pv 3)) fa_nil)) (fa_cons (fe_call D6 (hr.mono (by decide)) hG rfl T.g6 T.F6.kp T.b6 (fa_cons (fe_v 3 (pv 3)) fa_nil)) fa_nil))))) (FE.rd (FL.fe (fl_lst (fa_cons (fe_v 6 (pv 6)) (fa_cons (fe_mul fe_int (fe_v 6 (pv 6))) fa_nil))))) rfl T.m_repr) (fss_one (fs_ret fe_bl)) fss_nil)
    (fss_cons (fs_if (ft_ne hr.units (fe_call D6 (hr.mono (by decide)) hG rfl T.g6 T.F6.kp T.b6 (fa_cons (fe_v 3 (pv 3)) fa_nil)) (fe_ifExp (ft_eq hr.units (fe_mul (fe_fdiv (fe_v 3 (pv 3)) fe_int) fe_int) (fe_v 3 (pv 3))) (fe_call D7 (hr.mono (by decide)) hG rfl T.g7 T.F7.kp T.b7 (fa_cons (fe_v 3 (pv 3)) fa_nil)) (fe_mul fe_int (fe_call D7 (hr.mono (by decide)) hG rfl T.g7 T.F7.kp T.b7 (fa_cons (fe_v 3 (pv 3)) fa_nil))))) (fss_one (fs_ret fe_bl)) fss_nil)
    (fss_cons (fs_set (i := 7) sc20.nd rfl (by first | exact Or.inl rfl | exact Or.inr rfl) (fe_add fe_int (fe_callS (i := 1) (fun _ h => pe_callG D14 (hr.mono (by decide)) hG rfl T.g14 T.F14.kp T.b14 (pa_cons (pv 1) h)) (fa_cons (fe_fdiv fe_int (fe_v 3 (pv 3))) fa_nil))))
    (fss_cons (fs_if (ft_eq hr.units (fe_call D19 (hr.mono (by decide)) hG rfl T.g19 T.F19.kp T.b19 (fa_cons (fe_v 7 (pv 7)) (fa_cons (fe_v 3 (pv 3)) fa_nil))) fe_int) (fss_cons (fs_if (ft_ne hr.units (fe_mul fe_int (fe_call D7 (hr.mono (by decide)) hG rfl T.g7 T.F7.kp T.b7 (fa_cons (fe_mul (fe_v 7 (pv 7)) (fe_v 3 (pv 3))) fa_nil))) (fe_mul (fe_call D7 (hr.mono (by decide)) hG rfl T.g7 T.F7.kp T.b7 (fa_cons (fe_v 7 (pv 7)) fa_nil)) (fe_call D7 (hr.mono (by decide)) hG rfl T.g7 T.F7.kp T.b7 (fa_cons (fe_v 3 (pv 3)) fa_nil)))) (fss_one (fs_ret fe_bl)) fss_nil)
    (fss_one (fs_if (ft_ne hr.units (fe_mul fe_int (fe_call D6 (hr.mono (by decide)) hG rfl T.g6 T.F6.kp T.b6 (fa_cons (fe_mul (fe_v 7 (pv 7)) (fe_v 3 (pv 3))) fa_nil))) (fe_mul (fe_call D6 (hr.mono (by decide)) hG rfl T.g6 T.F6.kp T.b6 (fa_cons (fe_v 7 (pv 7)) fa_nil)) (fe_call D6 (hr.mono (by decide)) hG rfl T.g6 T.F6.kp T.b6 (fa_cons (fe_v 3 (pv 3)) fa_nil)))) (fss_one (fs_ret fe_bl)) fss_nil))) fss_nil)
    (fss_cons (fs_par (i := 8) (j := 9) (fun _ _ h h2 => ps_par rfl sc20.nd rfl rfl (by decide) rfl rfl (pa_cons h (pa_cons h2 pa_nil)) rfl) (fe_call D4 (hr.mono (by decide)) hG rfl T.g4 T.F4.kp T.b4 (fa_cons (fe_v 7 (pv 7)) fa_nil)) (fe_call D4 (hr.mono (by decide)) hG rfl T.g4 T.F4.kp T.b4 (fa_cons (fe_v 3 (pv 3)) fa_nil)))
    (fss_cons (fs_lcV (i := 10) [("k", 14)] rfl sc20.nd rfl rfl (sw_true rfl rfl rfl (by decide +kernel)) (fi_rng1 (fa_cons fe_int fa_nil) rfl T.m_range) (blkOk_by (N := ["script", "source", "lap", "n", "pairs", "total", "odd", "m", "one", "other", "signs", "x", "y", "late", "k", "d", "a", "s"]) (sc := defScope (top 24)) (by decide +kernel)) (fun _ _ _ _ _ => (fg_name (i := 14) sc20.nd rfl (by first | exact Or.inl rfl | exact Or.inr rfl))) (fun _ _ _ _ _ => fts_nil) (fun _ _ _ _ _ => (fe_callS (i := 1) (fun _ h => pe_callG D15 (hr.mono (by decide)) hG rfl T.g15 T.F15.kp T.b15 (pa_cons (pv 1) h)) (fa_cons (FL.fe (fl_lst (fa_cons fe_int (fa_cons (fe_sub fe_int fe_int) fa_nil)))) fa_nil))))
    (fss_cons (fs_set (i := 11) sc20.nd rfl (by first | exact Or.inl rfl | exact Or.inr rfl) (fe_tuple (FE.rd (FL.fe (fl_lc [("a", 16), ("s", 17)] rfl sc20.nd (fi_zip (fa_cons (fe_callS (i := 1) (fun _ h => pe_callG D16 (hr.mono (by decide)) hG rfl T.g16 T.F16.kp T.b16 (pa_cons (pv 1) h)) (fa_cons (FL.fe (fl_list (fr_v 8 (pv 8)) rfl T.m_list)) fa_nil)) (fa_cons (FL.fe (fl_sl (fr_v 10 (pv 10)) fo_none (fo_some fe_int))) fa_nil)) rfl T.m_zip) (blkOk_by (N := ["script", "source", "lap", "n", "pairs", "total", "odd", "m", "one", "other", "signs", "x", "y", "late", "k", "d", "a", "s"]) (sc := defScope (top 24)) (by decide +kernel)) (fun _ _ _ _ _ => (fg_tup rfl (fgs_cons (fg_name (i := 16) sc20.nd rfl (by first | exact Or.inl rfl | exact Or.inr rfl)) (fgs_cons (fg_name (i := 17) sc20.nd rfl (by first | exact Or.inl rfl | exact Or.inr rfl)) fgs_nil)))) (fun _ _ _ _ _ => fts_nil) (fun _ _ _ _ _ => (fe_mul (fe_v 16 (pv 16)) (fe_v 17 (pv 17))))))) rfl T.m_tuple))
    (fss_cons (fs_set (i := 12) sc20.nd rfl (by first | exact Or.inl rfl | exact Or.inr rfl) (fe_tuple (FE.rd (FL.fe (fl_lc [("a", 16), ("s", 17)] rfl sc20.nd (fi_zip (fa_cons (fe_callS (i := 1) (fun _ h => pe_callG D16 (hr.mono (by decide)) hG rfl T.g16 T.F16.kp T.b16 (pa_cons (pv 1) h)) (fa_cons (FL.fe (fl_list (fr_v 9 (pv 9)) rfl T.m_list)) fa_nil)) (fa_cons (FL.fe (fl_sl (fr_v 10 (pv 10)) (fo_some fe_int) fo_none)) fa_nil)) rfl T.m_zip) (blkOk_by (N := ["script", "source", "lap", "n", "pairs", "total", "odd", "m", "one", "other", "signs", "x", "y", "late", "k", "d", "a", "s"]) (sc := defScope (top 24)) (by decide +kernel)) (fun _ _ _ _ _ => (fg_tup rfl (fgs_cons (fg_name (i := 16) sc20.nd rfl (by first | exact Or.inl rfl | exact Or.inr rfl)) (fgs_cons (fg_name (i := 17) sc20.nd rfl (by first | exact Or.inl rfl | exact Or.inr rfl)) fgs_nil)))) (fun _ _ _ _ _ => fts_nil) (fun _ _ _ _ _ => (fe_mul (fe_v 16 (pv 16)) (fe_v 17 (pv 17))))))) rfl T.m_tuple))
    (fss_cons (fs_set (i := 13) sc20.nd rfl (by first | exact Or.inl rfl | exact Or.inr rfl) (fe_call D0 (hr.mono (by decide)) hG rfl T.g0 T.F0.kp T.b0 (fa_cons (fe_v 11 (pv 11)) (fa_cons (fe_v 12 (pv 12)) fa_nil))))
    (fss_cons (fs_if (FW.ft (fw_or (ft_repNe hr.units hG (fr_v 13 (pv 13)) (FE.rd (fe_call D17 (hr.mono (by decide)) hG rfl T.g17 T.F17.kp T.b17 (fa_cons (fe_v 11 (pv 11)) (fa_cons (fe_v 12 (pv 12)) fa_nil)))) rfl T.m_repr) (fw_or1 (ft_ne hr.units (FL.fe (fl_lc [("a", 16)] rfl sc20.nd (fi_seq (fe_v 13 (pv 13))) (blkOk_by (N := ["script", "source", "lap", "n", "pairs", "total", "odd", "m", "one", "other", "signs", "x", "y", "late", "k", "d", "a", "s"]) (sc := defScope (top 24)) (by decide +kernel)) (fun _ _ _ _ _ => (fg_name (i := 16) sc20.nd rfl (by first | exact Or.inl rfl | exact Or.inr rfl))) (fun _ _ _ _ _ => (fts_one (ft_ne hr.units (fe_mul (fe_fdiv (fe_v 16 (pv 16)) fe_int) fe_int) (fe_v 16 (pv 16))))) (fun _ _ _ _ _ => (fe_v 16 (pv 16))))) (FL.fe (fl_lst fa_nil)))))) (fss_one (fs_ret fe_bl)) fss_nil)
    (fss_cons (fs_if (FW.ft (fw_or (ft_ne hr.units (fe_call D1 (hr.mono (by decide)) hG rfl T.g1 T.F1.kp T.b1 (fa_cons (fe_v 13 (pv 13)) fa_nil)) (fe_mul (fe_v 7 (pv 7)) (fe_v 3 (pv 3)))) (fw_or1 (ft_ne hr.units (fe_sum rfl (FE.rd (FL.fe (fl_lc [("a", 16)] rfl sc20.nd (fi_seq (fe_v 13 (pv 13))) (blkOk_by (N := ["script", "source", "lap", "n", "pairs", "total", "odd", "m", "one", "other", "signs", "x", "y", "late", "k", "d", "a", "s"]) (sc := defScope (top 24)) (by decide +kernel)) (fun _ _ _ _ _ => (fg_name (i := 16) sc20.nd rfl (by first | exact Or.inl rfl | exact Or.inr rfl))) (fun _ _ _ _ _ => fts_nil) (fun _ _ _ _ _ => (fe_mul (fe_fdiv (fe_v 16 (pv 16)) fe_int) (fe_fdiv (fe_v 16 (pv 16)) fe_int)))))) rfl T.m_sum) (fe_mul (fe_v 7 (pv 7)) (fe_v 3 (pv 3))))))) (fss_one (fs_ret fe_bl)) fss_nil)
    (fss_one (fs_if (FW.ft (fw_and (ft_ne hr.units (fe_mul (fe_fdiv (fe_v 3 (pv 3)) fe_int) fe_int) (fe_v 3 (pv 3))) (fw_and1 (ft_ne hr.units (FL.fe (fl_lc [("k", 14)] rfl sc20.nd (fi_seq (fe_tup (fa_cons fe_int (fa_cons fe_int (fa_cons fe_int fa_nil))))) (blkOk_by (N := ["script", "source", "lap", "n", "pairs", "total", "odd", "m", "one", "other", "signs", "x", "y", "late", "k", "d", "a", "s"]) (sc := defScope (top 24)) (by decide +kernel)) (fun _ _ _ _ _ => (fg_name (i := 14) sc20.nd rfl (by first | exact Or.inl rfl | exact Or.inr rfl))) (fun _ _ _ _ _ => fts_nil) (fun _ _ _ _ _ => (fe_call D7 (hr.mono (by decide)) hG rfl T.g7 T.F7.kp T.b7 (fa_cons (fe_mul (fe_v 14 (pv 14)) (fe_v 3 (pv 3))) fa_nil))))) (FL.fe (fl_rep (FL.fe (fl_lst (fa_cons (fe_mul fe_int (fe_call D7 (hr.mono (by decide)) hG rfl T.g7 T.F7.kp T.b7 (fa_cons (fe_v 3 (pv 3)) fa_nil))) fa_nil))) fe_int)))))) (fss_one (fs_ret fe_bl)) fss_nil))))))))))))))))))))
    (fss_one (fs_ret (fe_eq hr.units (FL.fe (fl_lc [("n", 3)] rfl sc20.nd (fi_seq (fe_tup (fa_cons fe_int (fa_cons fe_int (fa_cons fe_int (fa_cons fe_int fa_nil)))))) (blkOk_by (N := ["script", "source", "lap", "n", "pairs", "total", "odd", "m", "one", "other", "signs", "x", "y", "late", "k", "d", "a", "s"]) (sc := defScope (top 24)) (by decide +kernel)) (fun _ _ _ _ _ => (fg_name (i := 3) sc20.nd rfl (by first | exact Or.inl rfl | exact Or.inr rfl))) (fun _ _ _ _ _ => fts_nil) (fun _ _ _ _ _ => (fe_call D7 (hr.mono (by decide)) hG rfl T.g7 T.F7.kp T.b7 (fa_cons (fe_v 3 (pv 3)) fa_nil))))) (FL.fe (fl_lst (fa_cons fe_int (fa_cons fe_int (fa_cons fe_int (fa_cons fe_int fa_nil))))))))))
end
end K25
namespace K25
open PySem Fe Te
def n_four_product (x1 : List Int) (y2 : List Int) : Option (List Int) :=
  (un4 x1).bind fun p3 => (un4 y2).bind fun p4 => (gmul p3.1 p4.1).bind fun c5 => (gmul p3.2.1 p4.2.1).bind fun c6 => (gmul p3.2.2.1 p4.2.2.1).bind fun c7 => (gmul p3.2.2.2 p4.2.2.2).bind fun c8 => letV (((c5 - c6) - c7) - c8) fun first9 => (gmul p3.1 p4.2.1).bind fun c10 => (gmul p3.2.1 p4.1).bind fun c11 => (gmul p3.2.2.1 p4.2.2.2).bind fun c12 => (gmul p3.2.2.2 p4.2.2.1).bind fun c13 => letV (((c10 + c11) + c12) - c13) fun second14 => (gmul p3.1 p4.2.2.1).bind fun c15 => (gmul p3.2.1 p4.2.2.2).bind fun c16 => (gmul p3.2.2.1 p4.1).bind fun c17 => (gmul p3.2.2.2 p4.2.1).bind fun c18 => letV (((c15 - c16) + c17) + c18) fun third19 => (gmul p3.1 p4.2.2.2).bind fun c20 => (gmul p3.2.1 p4.2.2.1).bind fun c21 => (gmul p3.2.2.1 p4.2.1).bind fun c22 => (gmul p3.2.2.2 p4.1).bind fun c23 => letV (((c20 + c21) - c22) + c23) fun fourth24 => (gdiv first9 (2 : Int)).bind fun c25 => (gdiv second14 (2 : Int)).bind fun c26 => (gdiv third19 (2 : Int)).bind fun c27 => (gdiv fourth24 (2 : Int)).bind fun c28 => some [c25, c26, c27, c28]
theorem t_four_product {x1 : List Int} {y2 : List Int} : ∀ r, n_four_product x1 y2 = some r → F_four_product [(eS PyData.int) x1, (eS PyData.int) y2] = some ((eS PyData.int) r) := by
  refine runF_ok (e := (eS PyData.int)) ?_
  show TK [.v ((eS PyData.int) x1), .v ((eS PyData.int) y2), .un, .un, .un, .un, .un, .un, .un, .un, .un, .un, .un, .un] b_four_product (n_four_product x1 y2) (JR (eS PyData.int))
  unfold n_four_product
  refine s_tg ?_
  refine x_v rfl ?_
  refine c_tgU (R := fun p3 => [.v ((eS PyData.int) x1), .v ((eS PyData.int) y2), .v (PyData.int p3.1), .v (PyData.int p3.2.1), .v (PyData.int p3.2.2.1), .v (PyData.int p3.2.2.2), .un, .un, .un, .un, .un, .un, .un, .un]) (fun _ q => by rw [un4_ok q]; rfl) ?_
  intro p3
  refine s_tg ?_
  refine x_v rfl ?_
  refine c_tgU (R := fun p4 => [.v ((eS PyData.int) x1), .v ((eS PyData.int) y2), .v (PyData.int p3.1), .v (PyData.int p3.2.1), .v (PyData.int p3.2.2.1), .v (PyData.int p3.2.2.2), .v (PyData.int p4.1), .v (PyData.int p4.2.1), .v (PyData.int p4.2.2.1), .v (PyData.int p4.2.2.2), .un, .un, .un, .un]) (fun _ q => by rw [un4_ok q]; rfl) ?_
  intro p4
  refine s_set ?_
  refine x_op ?_
  refine x_op ?_
  refine x_op ?_
  refine x_op ?_
  refine x_v rfl ?_
  refine c_nx ?_
  refine x_v rfl ?_
  refine c_bd (e := PyData.int) gmul_ok ?_
  intro c5
  refine c_nx ?_
  refine x_op ?_
  refine x_v rfl ?_
  refine c_nx ?_
  refine x_v rfl ?_
  refine c_bd (e := PyData.int) gmul_ok ?_
  intro c6
  refine c_ok rfl ?_
  refine c_nx ?_
  refine x_op ?_
  refine x_v rfl ?_
  refine c_nx ?_
  refine x_v rfl ?_
  refine c_bd (e := PyData.int) gmul_ok ?_
  intro c7
  refine c_ok rfl ?_
  refine c_nx ?_
  refine x_op ?_
  refine x_v rfl ?_
  refine c_nx ?_
  refine x_v rfl ?_
  refine c_bd (e := PyData.int) gmul_ok ?_
  intro c8
  refine c_ok rfl ?_
  refine c_letC (e := PyData.int) ?_
  intro first9
  refine c_go rfl ?_
  refine s_set ?_
  refine x_op ?_
  refine x_op ?_
  refine x_op ?_
  refine x_op ?_
  refine x_v rfl ?_
  refine c_nx ?_
  refine x_v rfl ?_
  refine c_bd (e := PyData.int) gmul_ok ?_
  intro c10
  refine c_nx ?_
  refine x_op ?_
  refine x_v rfl ?_
  refine c_nx ?_
  refine x_v rfl ?_
  refine c_bd (e := PyData.int) gmul_ok ?_
  intro c11
  refine c_ok rfl ?_
  refine c_nx ?_
  refine x_op ?_
  refine x_v rfl ?_
  refine c_nx ?_
  refine x_v rfl ?_
  refine c_bd (e := PyData.int) gmul_ok ?_
  intro c12
  refine c_ok rfl ?_
  refine c_nx ?_
  refine x_op ?_
  refine x_v rfl ?_
  refine c_nx ?_
  refine x_v rfl ?_
  refine c_bd (e := PyData.int) gmul_ok ?_
  intro c13
  refine c_ok rfl ?_
  refine c_letC (e := PyData.int) ?_
  intro second14
  refine c_go rfl ?_
  refine s_set ?_
  refine x_op ?_
  refine x_op ?_
  refine x_op ?_
  refine x_op ?_
  refine x_v rfl ?_
  refine c_nx ?_
  refine x_v rfl ?_
  refine c_bd (e := PyData.int) gmul_ok ?_
  intro c15
  refine c_nx ?_
  refine x_op ?_
  refine x_v rfl ?_
  refine c_nx ?_
  refine x_v rfl ?_
  refine c_bd (e := PyData.int) gmul_ok ?_
  intro c16
  refine c_ok rfl ?_
  refine c_nx ?_
  refine x_op ?_
  refine x_v rfl ?_
  refine c_nx ?_
  refine x_v rfl ?_
  refine c_bd (e := PyData.int) gmul_ok ?_
  intro c17
  refine c_ok rfl ?_
  refine c_nx ?_
  refine x_op ?_
  refine x_v rfl ?_
  refine c_nx ?_
  refine x_v rfl ?_
  refine c_bd (e := PyData.int) gmul_ok ?_
  intro c18
  refine c_ok rfl ?_
  refine c_letC (e := PyData.int) ?_
  intro third19
  refine c_go rfl ?_
  refine s_set ?_
  refine x_op ?_
  refine x_op ?_
  refine x_op ?_
  refine x_op ?_
  refine x_v rfl ?_
  refine c_nx ?_
  refine x_v rfl ?_
  refine c_bd (e := PyData.int) gmul_ok ?_
  intro c20
  refine c_nx ?_
  refine x_op ?_
  refine x_v rfl ?_
  refine c_nx ?_
  refine x_v rfl ?_
  refine c_bd (e := PyData.int) gmul_ok ?_
  intro c21
  refine c_ok rfl ?_
  refine c_nx ?_
  refine x_op ?_
  refine x_v rfl ?_
  refine c_nx ?_
  refine x_v rfl ?_
  refine c_bd (e := PyData.int) gmul_ok ?_
  intro c22
  refine c_ok rfl ?_
  refine c_nx ?_
  refine x_op ?_
  refine x_v rfl ?_
  refine c_nx ?_
  refine x_v rfl ?_
  refine c_bd (e := PyData.int) gmul_ok ?_
  intro c23
  refine c_ok rfl ?_
  refine c_letC (e := PyData.int) ?_
  intro fourth24
  refine c_go rfl ?_
  refine s_ret ?_
  refine x_tup ?_
  refine x_cons ?_
  refine x_op ?_
  refine x_v rfl ?_
  refine c_nx ?_
  refine x_c ?_
  refine c_bd (e := PyData.int) gdiv_ok ?_
  intro c25
  refine c_nx ?_
  refine x_cons ?_
  refine x_op ?_
  refine x_v rfl ?_
  refine c_nx ?_
  refine x_c ?_
  refine c_bd (e := PyData.int) gdiv_ok ?_
  intro c26
  refine c_nx ?_
  refine x_cons ?_
  refine x_op ?_
  refine x_v rfl ?_
  refine c_nx ?_
  refine x_c ?_
  refine c_bd (e := PyData.int) gdiv_ok ?_
  intro c27
  refine c_nx ?_
  refine x_cons ?_
  refine x_op ?_
  refine x_v rfl ?_
  refine c_nx ?_
  refine x_c ?_
  refine c_bd (e := PyData.int) gdiv_ok ?_
  intro c28
  refine c_nx ?_
  refine x_nil ?_
  refine c_lenT rfl ?_
  refine c_re (e := (eS PyData.int)) (a := [c25, c26, c27, c28]) rfl ?_
  exact c_ret
def n_four_norm (x1 : List Int) : Option Int :=
  (glt x1).bind fun _ => (nmp (fun x2 => (gmul x2 x2).bind fun c3 => some c3) x1).bind fun ys4 => (gdiv ys4.sum (4 : Int)).bind fun c5 => some c5
theorem t_four_norm {x1 : List Int} : ∀ r, n_four_norm x1 = some r → F_four_norm [(eS PyData.int) x1] = some (PyData.int r) := by
  refine runF_ok (e := PyData.int) ?_
  show TK [.v ((eS PyData.int) x1), .un] b_four_norm (n_four_norm x1) (JR PyData.int)
  unfold n_four_norm
  refine s_ret ?_
  refine x_op ?_
  refine x_r1e ?_
  refine x_asL ?_
  refine x_comp ?_
  refine x_seq ?_
  refine x_v rfl ?_
  refine c_seqS ?_
  refine c_map (ea := PyData.int) (eb := PyData.int) (ρw := [.v ((eS PyData.int) x1), .un]) (R := fun x2 => [.v ((eS PyData.int) x1), .v (PyData.int x2)]) rfl (fun _ => rfl) ?_ (fun _ => rfl) ?_
  · intro x2
    refine x_op ?_
    refine x_v rfl ?_
    refine c_nx ?_
    refine x_v rfl ?_
    refine c_bd (e := PyData.int) gmul_ok ?_
    intro c3
    exact c_fin ⟨rfl, rfl⟩
  intro ys4
  refine c_eL ?_
  refine c_ok sumL ?_
  refine c_nx ?_
  refine x_c ?_
  refine c_bd (e := PyData.int) gdiv_ok ?_
  intro c5
  exact c_ret
def nb_whole_root_0 (n_1 : Int) (s3 : Int × Int) : Option (Int × Int) :=
  (gdiv (s3.1 + s3.2) (2 : Int)).bind fun c5 => (gmul c5 c5).bind fun c6 => (bif (ile c6 n_1) then some (c5, s3.2) else some (s3.1, c5)).bind fun w7 => some (w7.1, w7.2)
def n_whole_root (n_1 : Int) : Option Int :=
  letV (n_1 + (1 : Int)) fun high2 => (nwh (fun s3 => some (ilt (1 : Int) (s3.2 - s3.1))) (nb_whole_root_0 n_1) fuel ((0 : Int), high2)).bind fun w8 => some w8.1
theorem t_whole_root {n_1 : Int} : ∀ r, n_whole_root n_1 = some r → F_whole_root [PyData.int n_1] = some (PyData.int r) := by
  refine runF_ok (e := PyData.int) ?_
  show TK [.v (PyData.int n_1), .un, .un, .un] b_whole_root (n_whole_root n_1) (JR PyData.int)
  unfold n_whole_root
  refine s_par ?_
  refine x_c ?_
  refine c_nx ?_
  refine x_op ?_
  refine x_v rfl ?_
  refine c_nx ?_
  refine x_c ?_
  refine c_ok rfl ?_
  refine c_letC (e := PyData.int) ?_
  intro high2
  refine c_go rfl ?_
  refine s_while (I := fun (s3 : Int × Int) ρ => (∃ j4 : Sl, ρ = [.v (PyData.int n_1), .v (PyData.int s3.1), .v (PyData.int s3.2), j4])) ?_ ?_ ?_ ?_
  · exact ⟨_, rfl⟩
  · rintro s3 ρ ⟨j4, rfl⟩
    exact (x_tst (x_op (x_op (x_v rfl (c_nx (x_v rfl (c_ok rfl (c_nx (x_c (c_ok gt_ok (c_tst (c_cond ⟨_, rfl⟩))))))))))))
  · rintro s3 ρ ⟨j4, rfl⟩
    unfold nb_whole_root_0
    refine s_set ?_
    refine x_op ?_
    refine x_op ?_
    refine x_v rfl ?_
    refine c_nx ?_
    refine x_v rfl ?_
    refine c_ok rfl ?_
    refine c_nx ?_
    refine x_c ?_
    refine c_bd (e := PyData.int) gdiv_ok ?_
    intro c5
    refine c_go rfl ?_
    refine s_last ?_
    refine s_if ?_
    refine x_tst ?_
    refine x_op ?_
    refine x_op ?_
    refine x_v rfl ?_
    refine c_nx ?_
    refine x_v rfl ?_
    refine c_bd (e := PyData.int) gmul_ok ?_
    intro c6
    refine c_nx ?_
    refine x_v rfl ?_
    refine c_ok le_ok ?_
    refine c_tst ?_
    refine c_sifJ (I := fun (w7 : Int × Int) ρ => ρ = [.v (PyData.int n_1), .v (PyData.int w7.1), .v (PyData.int w7.2), .v (PyData.int c5)]) ?_ ?_ ?_
    · refine s_last ?_
      refine s_set ?_
      refine x_v rfl ?_
      refine c_go rfl ?_
      exact s_nil (j_nx rfl)
    · refine s_last ?_
      refine s_set ?_
      refine x_v rfl ?_
      refine c_go rfl ?_
      exact s_nil (j_nx rfl)
    · rintro w7 ρ rfl
      exact s_nil (j_cnx ⟨_, rfl⟩)
  · rintro w8 ρ ⟨j9, rfl⟩
    refine s_ret ?_
    refine x_v rfl ?_
    exact c_ret
def nb_falling_squares_2 (many2 : Int) (lap13 : Int) (x19 : (List Int) × Int × Int) (a24 : Int) (s22 : List ((List Int) × Int × Int)) : Option (List ((List Int) × Int × Int)) :=
  (gmul (many2 - lap13) a24).bind fun c25 => (gmul c25 a24).bind fun c26 => (bif (ile x19.2.1 c26) then (gcat x19.1 [a24]).bind fun c27 => (gmul a24 a24).bind fun c28 => (gapp s22 (c27, (x19.2.1 - c28), a24)).bind fun late29 => some late29 else some s22).bind fun w30 => some w30
def nb_falling_squares_1 (many2 : Int) (lap13 : Int) (x19 : (List Int) × Int × Int) (s14 : List ((List Int) × Int × Int)) : Option (List ((List Int) × Int × Int)) :=
  (n_whole_root x19.2.1).bind fun c20 => (grng 0 ((imin x19.2.2 c20) + (1 : Int))).bind fun l21 => (nfor (nb_falling_squares_2 many2 lap13 x19) l21 s14).bind fun w31 => some w31
def nb_falling_squares_0 (many2 : Int) (lap13 : Int) (s6 : List ((List Int) × Int × Int)) : Option (List ((List Int) × Int × Int)) :=
  (nfor (nb_falling_squares_1 many2 lap13) s6 ([] : List ((List Int) × Int × Int))).bind fun w33 => (gln w33).bind fun c38 => some c38
def n_falling_squares (n_1 : Int) (many2 : Int) (most3 : Int) : Option (List (List Int)) :=
  letV [(([] : List Int), n_1, most3)] fun line4 => (grng 0 many2).bind fun l5 => (nfor (nb_falling_squares_0 many2) l5 line4).bind fun w39 => (glt w39).bind fun _ => (nlc (fun x46 => some (ieq x46.2.1 (0 : Int))) (fun x46 => some x46.1) w39).bind fun ys47 => some ys47
theorem t_falling_squares {n_1 : Int} {many2 : Int} {most3 : Int} : ∀ r, n_falling_squares n_1 many2 most3 = some r → F_falling_squares [PyData.int n_1, PyData.int many2, PyData.int most3] = some ((eL (eS PyData.int)) r) := by
  refine runF_ok (e := (eL (eS PyData.int))) ?_
  show TK [.v (PyData.int n_1), .v (PyData.int many2), .v (PyData.int most3), .un, .un, .un, .un, .un, .un, .un] b_falling_squares (n_falling_squares n_1 many2 most3) (JR (eL (eS PyData.int)))
  unfold n_falling_squares
  refine s_set ?_
  refine x_asL ?_
  refine x_lst ?_
  refine x_cons ?_
  refine x_tup ?_
  refine x_cons ?_
  refine x_tup ?_
  refine x_nil ?_
  refine c_lenT rfl ?_
  refine c_re (e := (eS PyData.int)) (a := ([] : List Int)) rfl ?_
  refine c_nx ?_
  refine x_cons ?_
  refine x_v rfl ?_
  refine c_nx ?_
  refine x_cons ?_
  refine x_v rfl ?_
  refine c_nx ?_
  refine x_nil ?_
  refine c_lenT rfl ?_
  refine c_re (e := (eQ (eS PyData.int) PyData.int PyData.int)) (a := (([] : List Int), n_1, most3)) rfl ?_
  refine c_nx ?_
  refine x_nil ?_
  refine c_len rfl ?_
  refine c_disp (e := (eQ (eS PyData.int) PyData.int PyData.int)) (l := [(([] : List Int), n_1, most3)]) rfl ?_
  refine c_eL ?_
  refine c_letC (e := (eL (eQ (eS PyData.int) PyData.int PyData.int))) ?_
  intro line4
  refine c_go rfl ?_
  refine s_for ?_
  refine x_rng1 ?_
  refine x_cons ?_
  refine x_v rfl ?_
  refine c_nx ?_
  refine x_nil ?_
  refine c_rng1 ?_
  intro l5
  refine c_for (I := fun (s6 : List ((List Int) × Int × Int)) ρ => (∃ j7 j8 j9 j10 j11 j12 : Sl, ρ = [.v (PyData.int n_1), .v (PyData.int many2), .v (PyData.int most3), .v ((eL (eQ (eS PyData.int) PyData.int PyData.int)) s6), j7, j8, j9, j10, j11, j12])) (ea := PyData.int) ?_ ?_ ?_
  · exact ⟨_, _, _, _, _, _, rfl⟩
  · rintro lap13 s6 ρ ⟨j7, j8, j9, j10, j11, j12, rfl⟩
    unfold nb_falling_squares_0
    refine g_ok rfl ?_
    refine s_own ?_
    refine x_lst ?_
    refine x_nil ?_
    refine c_len rfl ?_
    refine c_disp (e := (eQ (eS PyData.int) PyData.int PyData.int)) (l := ([] : List ((List Int) × Int × Int))) rfl ?_
    refine c_go rfl ?_
    refine s_for ?_
    refine x_seq ?_
    refine x_v rfl ?_
    refine c_seqL ?_
    refine c_for (I := fun (s14 : List ((List Int) × Int × Int)) ρ => (∃ j15 j16 j17 j18 : Sl, ρ = [.v (PyData.int n_1), .v (PyData.int many2), .v (PyData.int most3), .v ((eL (eQ (eS PyData.int) PyData.int PyData.int)) s6), .v (PyData.int lap13), .own (List.map (eQ (eS PyData.int) PyData.int PyData.int) s14), j15, j16, j17, j18])) (ea := (eQ (eS PyData.int) PyData.int PyData.int)) ?_ ?_ ?_
    · exact ⟨_, _, _, _, rfl⟩
    · rintro x19 s14 ρ ⟨j15, j16, j17, j18, rfl⟩
      unfold nb_falling_squares_1
      refine g_ok rfl ?_
      refine s_last ?_
      refine s_for ?_
      refine x_rng1 ?_
      refine x_cons ?_
      refine x_op ?_
      refine x_op ?_
      refine x_v rfl ?_
      refine c_nx ?_
      refine x_call ?_
      refine x_cons ?_
      refine x_v rfl ?_
      refine c_nx ?_
      refine x_nil ?_
      refine c_bd (e := PyData.int) (t_whole_root) ?_
      intro c20
      refine c_ok min_I ?_
      refine c_nx ?_
      refine x_c ?_
      refine c_ok rfl ?_
      refine c_nx ?_
      refine x_nil ?_
      refine c_rng1 ?_
      intro l21
      refine c_for (I := fun (s22 : List ((List Int) × Int × Int)) ρ => (∃ j23 : Sl, ρ = [.v (PyData.int n_1), .v (PyData.int many2), .v (PyData.int most3), .v ((eL (eQ (eS PyData.int) PyData.int PyData.int)) s6), .v (PyData.int lap13), .own (List.map (eQ (eS PyData.int) PyData.int PyData.int) s22), .v ((eS PyData.int) x19.1), .v (PyData.int x19.2.1), .v (PyData.int x19.2.2), j23])) (ea := PyData.int) ?_ ?_ ?_
      · exact ⟨_, rfl⟩
      · rintro a24 s22 ρ ⟨j23, rfl⟩
        unfold nb_falling_squares_2
        refine g_ok rfl ?_
        refine s_last ?_
        refine s_if ?_
        refine x_tst ?_
        refine x_op ?_
        refine x_op ?_
        refine x_op ?_
        refine x_op ?_
        refine x_v rfl ?_
        refine c_nx ?_
        refine x_v rfl ?_
        refine c_ok rfl ?_
        refine c_nx ?_
        refine x_v rfl ?_
        refine c_bd (e := PyData.int) gmul_ok ?_
        intro c25
        refine c_nx ?_
        refine x_v rfl ?_
        refine c_bd (e := PyData.int) gmul_ok ?_
        intro c26
        refine c_nx ?_
        refine x_v rfl ?_
        refine c_ok ge_ok ?_
        refine c_tst ?_
        refine c_sifJ (I := fun (w30 : List ((List Int) × Int × Int)) ρ => ρ = [.v (PyData.int n_1), .v (PyData.int many2), .v (PyData.int most3), .v ((eL (eQ (eS PyData.int) PyData.int PyData.int)) s6), .v (PyData.int lap13), .own (List.map (eQ (eS PyData.int) PyData.int PyData.int) w30), .v ((eS PyData.int) x19.1), .v (PyData.int x19.2.1), .v (PyData.int x19.2.2), .v (PyData.int a24)]) ?_ ?_ ?_
        · refine s_last ?_
          refine s_app rfl ?_
          refine x_tup ?_
          refine x_cons ?_
          refine x_op ?_
          refine x_v rfl ?_
          refine c_nx ?_
          refine x_tup ?_
          refine x_cons ?_
          refine x_v rfl ?_
          refine c_nx ?_
          refine x_nil ?_
          refine c_lenT rfl ?_
          refine c_re (e := (eS PyData.int)) (a := [a24]) rfl ?_
          refine c_bd (e := (eS PyData.int)) gcatT_ok ?_
          intro c27
          refine c_nx ?_
          refine x_cons ?_
          refine x_op ?_
          refine x_v rfl ?_
          refine c_nx ?_
          refine x_op ?_
          refine x_v rfl ?_
          refine c_nx ?_
          refine x_v rfl ?_
          refine c_bd (e := PyData.int) gmul_ok ?_
          intro c28
          refine c_ok rfl ?_
          refine c_nx ?_
          refine x_cons ?_
          refine x_v rfl ?_
          refine c_nx ?_
          refine x_nil ?_
          refine c_lenT rfl ?_
          refine c_re (e := (eQ (eS PyData.int) PyData.int PyData.int)) (a := (c27, (x19.2.1 - c28), a24)) rfl ?_
          refine c_app (e := (eQ (eS PyData.int) PyData.int PyData.int)) (v := (c27, (x19.2.1 - c28), a24)) (R := fun late29 => [.v (PyData.int n_1), .v (PyData.int many2), .v (PyData.int most3), .v ((eL (eQ (eS PyData.int) PyData.int PyData.int)) s6), .v (PyData.int lap13), .own (List.map (eQ (eS PyData.int) PyData.int PyData.int) late29), .v ((eS PyData.int) x19.1), .v (PyData.int x19.2.1), .v (PyData.int x19.2.2), .v (PyData.int a24)]) rfl rfl (fun _ => rfl) ?_
          intro late29
          exact s_nil (j_nx rfl)
        · exact s_nil (j_nx rfl)
        · rintro w30 ρ rfl
          exact s_nil (j_cnx ⟨_, rfl⟩)
      · rintro w31 ρ ⟨j32, rfl⟩
        exact s_nil (j_cnx ⟨_, _, _, _, rfl⟩)
    · rintro w33 ρ ⟨j34, j35, j36, j37, rfl⟩
      refine s_last ?_
      refine s_set ?_
      refine x_asL ?_
      refine x_r1Lv rfl ?_
      refine c_bd (e := (List.map (eQ (eS PyData.int) PyData.int PyData.int))) glnL_ok ?_
      intro c38
      refine c_eL ?_
      refine c_go rfl ?_
      exact s_nil (j_cnx ⟨_, _, _, _, _, _, rfl⟩)
  · rintro w39 ρ ⟨j40, j41, j42, j43, j44, j45, rfl⟩
    refine s_ret ?_
    refine x_asL ?_
    refine x_comp ?_
    refine x_seq ?_
    refine x_v rfl ?_
    refine c_seqL ?_
    refine c_comp (ea := (eQ (eS PyData.int) PyData.int PyData.int)) (eb := (eS PyData.int)) (ρw := [.v (PyData.int n_1), .v (PyData.int many2), .v (PyData.int most3), .v ((eL (eQ (eS PyData.int) PyData.int PyData.int)) w39), j40, j41, .un, .un, .un, j45]) (R := fun x46 => [.v (PyData.int n_1), .v (PyData.int many2), .v (PyData.int most3), .v ((eL (eQ (eS PyData.int) PyData.int PyData.int)) w39), j40, j41, .v ((eS PyData.int) x46.1), .v (PyData.int x46.2.1), .v (PyData.int x46.2.2), j45]) rfl (fun _ => rfl) ?_ ?_ (fun _ => rfl) ?_
    · intro x46
      refine x_tst ?_
      refine x_op ?_
      refine x_v rfl ?_
      refine c_nx ?_
      refine x_c ?_
      refine c_ok (eq_ok qI) ?_
      refine c_tst ?_
      exact c_fin ⟨rfl, rfl⟩
    · intro x46
      refine x_v rfl ?_
      exact c_fin ⟨rfl, rfl⟩
    intro ys47
    refine c_eL ?_
    exact c_ret
def nb_any_four_squares_1 (a9 : Int) (left11 : Int) (b17 : Int) (s14 : Unit) : Option (Lp Unit (Option (List Int))) :=
  (gmul b17 b17).bind fun c18 => (n_falling_squares (left11 - c18) (2 : Int) b17).bind fun c19 => bif (!c19.isEmpty) then (gix c19 (0 : Int)).bind fun c20 => (glt ([a9] ++ [b17] ++ c20)).bind fun _ => some (.rt (some ([a9] ++ [b17] ++ c20))) else some (.nx ())
def nb_any_four_squares_0 (n_1 : Int) (a9 : Int) (s4 : Unit) : Option (Lp Unit (Option (List Int))) :=
  (gmul a9 a9).bind fun c10 => letV (n_1 - c10) fun left11 => (n_whole_root left11).bind fun c12 => (grng3 (imin a9 c12) (-(1 : Int)) (-(1 : Int))).bind fun l13 => lend (nforR (nb_any_four_squares_1 a9 left11) l13 ()) (fun w21 => some (.nx ())) (Lp.rt)
def n_any_four_squares (n_1 : Int) : Option (Option (List Int)) :=
  (n_whole_root n_1).bind fun c2 => (grng3 c2 (-(1 : Int)) (-(1 : Int))).bind fun l3 => lend (nforR (nb_any_four_squares_0 n_1) l3 ()) (fun w24 => some none) (fun r => r)
theorem t_any_four_squares {n_1 : Int} : ∀ r, n_any_four_squares n_1 = some r → F_any_four_squares [PyData.int n_1] = some ((eO (eS PyData.int)) r) := by
  refine runF_ok (e := (eO (eS PyData.int))) ?_
  show TK [.v (PyData.int n_1), .un, .un, .un, .un] b_any_four_squares (n_any_four_squares n_1) (JR (eO (eS PyData.int)))
  unfold n_any_four_squares
  refine s_for ?_
  refine x_rng3 ?_
  refine x_cons ?_
  refine x_call ?_
  refine x_cons ?_
  refine x_v rfl ?_
  refine c_nx ?_
  refine x_nil ?_
  refine c_bd (e := PyData.int) (t_whole_root) ?_
  intro c2
  refine c_nx ?_
  refine x_cons ?_
  refine x_un ?_
  refine x_c ?_
  refine c_ok rfl ?_
  refine c_nx ?_
  refine x_cons ?_
  refine x_un ?_
  refine x_c ?_
  refine c_ok rfl ?_
  refine c_nx ?_
  refine x_nil ?_
  refine c_rng3 ?_
  intro l3
  refine c_forR (I := fun (s4 : Unit) ρ => (∃ j5 j6 j7 j8 : Sl, ρ = [.v (PyData.int n_1), j5, j6, j7, j8])) (J' := JR (eO (eS PyData.int))) (ea := PyData.int) ?_ ?_ ?_ ?_
  · exact ⟨_, _, _, _, rfl⟩
  · rintro a9 s4 ρ ⟨j5, j6, j7, j8, rfl⟩
    unfold nb_any_four_squares_0
    refine g_ok rfl ?_
    refine s_set ?_
    refine x_op ?_
    refine x_v rfl ?_
    refine c_nx ?_
    refine x_op ?_
    refine x_v rfl ?_
    refine c_nx ?_
    refine x_v rfl ?_
    refine c_bd (e := PyData.int) gmul_ok ?_
    intro c10
    refine c_ok rfl ?_
    refine c_letC (e := PyData.int) ?_
    intro left11
    refine c_go rfl ?_
    refine s_last ?_
    refine s_for ?_
    refine x_rng3 ?_
    refine x_cons ?_
    refine x_op ?_
    refine x_v rfl ?_
    refine c_nx ?_
    refine x_call ?_
    refine x_cons ?_
    refine x_v rfl ?_
    refine c_nx ?_
    refine x_nil ?_
    refine c_bd (e := PyData.int) (t_whole_root) ?_
    intro c12
    refine c_ok min_I ?_
    refine c_nx ?_
    refine x_cons ?_
    refine x_un ?_
    refine x_c ?_
    refine c_ok rfl ?_
    refine c_nx ?_
    refine x_cons ?_
    refine x_un ?_
    refine x_c ?_
    refine c_ok rfl ?_
    refine c_nx ?_
    refine x_nil ?_
    refine c_rng3 ?_
    intro l13
    refine c_forR (I := fun (s14 : Unit) ρ => (∃ j15 j16 : Sl, ρ = [.v (PyData.int n_1), .v (PyData.int a9), .v (PyData.int left11), j15, j16])) (J' := JR (eO (eS PyData.int))) (ea := PyData.int) ?_ ?_ ?_ ?_
    · exact ⟨_, _, rfl⟩
    · rintro b17 s14 ρ ⟨j15, j16, rfl⟩
      unfold nb_any_four_squares_1
      refine g_ok rfl ?_
      refine s_set ?_
      refine x_call ?_
      refine x_cons ?_
      refine x_op ?_
      refine x_v rfl ?_
      refine c_nx ?_
      refine x_op ?_
      refine x_v rfl ?_
      refine c_nx ?_
      refine x_v rfl ?_
      refine c_bd (e := PyData.int) gmul_ok ?_
      intro c18
      refine c_ok rfl ?_
      refine c_nx ?_
      refine x_cons ?_
      refine x_c ?_
      refine c_nx ?_
      refine x_cons ?_
      refine x_v rfl ?_
      refine c_nx ?_
      refine x_nil ?_
      refine c_bd (e := (eL (eS PyData.int))) (t_falling_squares) ?_
      intro c19
      refine c_go rfl ?_
      refine s_last ?_
      refine s_if ?_
      refine x_tst ?_
      refine x_op ?_
      refine x_v rfl ?_
      refine c_nx ?_
      refine x_asL ?_
      refine x_lst ?_
      refine x_nil ?_
      refine c_len rfl ?_
      refine c_disp (e := (eS PyData.int)) (l := ([] : List (List Int))) rfl ?_
      refine c_eL ?_
      refine c_ok (neNil_ok (qS qI) (by decide)) ?_
      refine c_tst ?_
      refine c_sif ?_ ?_
      · refine s_retS ?_
        refine s_ret ?_
        refine x_tup ?_
        refine x_cons ?_
        refine x_v rfl ?_
        refine c_nx ?_
        refine x_cons ?_
        refine x_v rfl ?_
        refine c_nx ?_
        refine x_stare ?_
        refine x_ixv rfl ?_
        refine x_c ?_
        refine c_ixv rfl ?_
        refine c_bd (e := (eS PyData.int)) gixL_ok ?_
        intro c20
        refine c_starS ?_
        refine x_nil ?_
        refine c_mp ?_
        refine c_mp ?_
        refine c_mp ?_
        refine c_disp (e := PyData.int) (l := ([a9] ++ [b17] ++ c20)) (by simp) ?_
        refine c_lenTB ?_
        refine c_retL ?_
        exact c_ret
      · refine s_nilL ?_
        exact s_nil (j_lnx ⟨_, _, rfl⟩)
    · exact fun _ _ _ h => jl_rt h
    · rintro w21 ρ ⟨j22, j23, rfl⟩
      exact s_nil (j_lnx ⟨_, _, _, _, rfl⟩)
  · exact fun _ _ _ h => h
  · rintro w24 ρ ⟨j25, j26, j27, j28, rfl⟩
    refine s_ret ?_
    refine x_c ?_
    exact c_ret
def n_odd_divisor_sum (n_1 : Int) : Option Int :=
  (grng3 (1 : Int) (n_1 + (1 : Int)) (2 : Int)).bind fun l2 => (glt l2).bind fun _ => (nlc (fun x3 => (gmod n_1 x3).bind fun c5 => some (ieq c5 (0 : Int))) (fun x3 => some x3) l2).bind fun ys4 => some ys4.sum
theorem t_odd_divisor_sum {n_1 : Int} : ∀ r, n_odd_divisor_sum n_1 = some r → F_odd_divisor_sum [PyData.int n_1] = some (PyData.int r) := by
  refine runF_ok (e := PyData.int) ?_
  show TK [.v (PyData.int n_1), .un] b_odd_divisor_sum (n_odd_divisor_sum n_1) (JR PyData.int)
  unfold n_odd_divisor_sum
  refine s_ret ?_
  refine x_r1e ?_
  refine x_asL ?_
  refine x_comp ?_
  refine x_rng3 ?_
  refine x_cons ?_
  refine x_c ?_
  refine c_nx ?_
  refine x_cons ?_
  refine x_op ?_
  refine x_v rfl ?_
  refine c_nx ?_
  refine x_c ?_
  refine c_ok rfl ?_
  refine c_nx ?_
  refine x_cons ?_
  refine x_c ?_
  refine c_nx ?_
  refine x_nil ?_
  refine c_rng3 ?_
  intro l2
  refine c_comp (ea := PyData.int) (eb := PyData.int) (ρw := [.v (PyData.int n_1), .un]) (R := fun x3 => [.v (PyData.int n_1), .v (PyData.int x3)]) rfl (fun _ => rfl) ?_ ?_ (fun _ => rfl) ?_
  · intro x3
    refine x_tst ?_
    refine x_op ?_
    refine x_op ?_
    refine x_v rfl ?_
    refine c_nx ?_
    refine x_v rfl ?_
    refine c_bd (e := PyData.int) gmod_ok ?_
    intro c5
    refine c_nx ?_
    refine x_c ?_
    refine c_ok (eq_ok qI) ?_
    refine c_tst ?_
    exact c_fin ⟨rfl, rfl⟩
  · intro x3
    refine x_v rfl ?_
    exact c_fin ⟨rfl, rfl⟩
  intro ys4
  refine c_eL ?_
  refine c_ok sumL ?_
  exact c_ret
def n_count_fours (n_1 : Int) : Option Int :=
  (n_odd_divisor_sum n_1).bind fun c2 => (gmul (24 : Int) c2).bind fun c3 => some c3
theorem t_count_fours {n_1 : Int} : ∀ r, n_count_fours n_1 = some r → F_count_fours [PyData.int n_1] = some (PyData.int r) := by
  refine runF_ok (e := PyData.int) ?_
  show TK [.v (PyData.int n_1)] b_count_fours (n_count_fours n_1) (JR PyData.int)
  unfold n_count_fours
  refine s_ret ?_
  refine x_op ?_
  refine x_c ?_
  refine c_nx ?_
  refine x_call ?_
  refine x_cons ?_
  refine x_v rfl ?_
  refine c_nx ?_
  refine x_nil ?_
  refine c_bd (e := PyData.int) (t_odd_divisor_sum) ?_
  intro c2
  refine c_bd (e := PyData.int) gmul_ok ?_
  intro c3
  exact c_ret
def n_count_four_squares (n_1 : Int) : Option Int :=
  (grng (1 : Int) (n_1 + (1 : Int))).bind fun l2 => (glt l2).bind fun _ => (nlc (fun x3 => (gmod n_1 x3).bind fun c6 => (bif (ieq c6 (0 : Int)) then (gmod x3 (4 : Int)).bind fun c7 => some (!ieq c7 (0 : Int)) else some false).bind fun b8 => some b8) (fun x3 => some x3) l2).bind fun ys4 => (gmul (8 : Int) ys4.sum).bind fun c5 => some c5
theorem t_count_four_squares {n_1 : Int} : ∀ r, n_count_four_squares n_1 = some r → F_count_four_squares [PyData.int n_1] = some (PyData.int r) := by
  refine runF_ok (e := PyData.int) ?_
  show TK [.v (PyData.int n_1), .un] b_count_four_squares (n_count_four_squares n_1) (JR PyData.int)
  unfold n_count_four_squares
  refine s_ret ?_
  refine x_op ?_
  refine x_c ?_
  refine c_nx ?_
  refine x_r1e ?_
  refine x_asL ?_
  refine x_comp ?_
  refine x_rng2 ?_
  refine x_cons ?_
  refine x_c ?_
  refine c_nx ?_
  refine x_cons ?_
  refine x_op ?_
  refine x_v rfl ?_
  refine c_nx ?_
  refine x_c ?_
  refine c_ok rfl ?_
  refine c_nx ?_
  refine x_nil ?_
  refine c_rng2 ?_
  intro l2
  refine c_comp (ea := PyData.int) (eb := PyData.int) (ρw := [.v (PyData.int n_1), .un]) (R := fun x3 => [.v (PyData.int n_1), .v (PyData.int x3)]) rfl (fun _ => rfl) ?_ ?_ (fun _ => rfl) ?_
  · intro x3
    refine x_and ?_
    refine x_tst ?_
    refine x_op ?_
    refine x_op ?_
    refine x_v rfl ?_
    refine c_nx ?_
    refine x_v rfl ?_
    refine c_bd (e := PyData.int) gmod_ok ?_
    intro c6
    refine c_nx ?_
    refine x_c ?_
    refine c_ok (eq_ok qI) ?_
    refine c_tst ?_
    refine c_andO (e := id) (R := fun _ => [.v (PyData.int n_1), .v (PyData.int x3)]) (a0 := false) (fun h => ⟨rfl, rfl⟩) ?_ ?_
    · refine x_tst ?_
      refine x_op ?_
      refine x_op ?_
      refine x_v rfl ?_
      refine c_nx ?_
      refine x_c ?_
      refine c_bd (e := PyData.int) gmod_ok ?_
      intro c7
      refine c_nx ?_
      refine x_c ?_
      refine c_ok (ne_ok qI) ?_
      refine c_tst ?_
      exact c_fin ⟨rfl, rfl⟩
    intro b8
    exact c_fin ⟨rfl, rfl⟩
  · intro x3
    refine x_v rfl ?_
    exact c_fin ⟨rfl, rfl⟩
  intro ys4
  refine c_eL ?_
  refine c_ok sumL ?_
  refine c_bd (e := PyData.int) gmul_ok ?_
  intro c5
  exact c_ret
def nb_prime_powers_in_1 (s2 : Int × (List (Int × Int)) × Int) (s5 : Int × Int) : Option (Int × Int) :=
  (gdiv s5.1 s2.2.2).bind fun c7 => letV (s5.2 + (1 : Int)) fun k8 => some (c7, k8)
def nb_prime_powers_in_0 (s2 : Int × (List (Int × Int)) × Int) : Option (Int × (List (Int × Int)) × Int) :=
  (nwh (fun s5 => (gmod s5.1 s2.2.2).bind fun c6 => some (ieq c6 (0 : Int))) (nb_prime_powers_in_1 s2) fuel (s2.1, (0 : Int))).bind fun w9 => (gcat s2.2.1 (bif (ilt (0 : Int) w9.2) then [(s2.2.2, w9.2)] else ([] : List (Int × Int)))).bind fun found10 => letV (s2.2.2 + (1 : Int)) fun p11 => some (w9.1, found10, p11)
def n_prime_powers_in (n_1 : Int) : Option (List (Int × Int)) :=
  (nwh (fun s2 => (gmul s2.2.2 s2.2.2).bind fun c4 => some (ile c4 s2.1)) (nb_prime_powers_in_0) fuel (n_1, ([] : List (Int × Int)), (2 : Int))).bind fun w12 => (bif (ilt (1 : Int) w12.1) then ((glt (w12.2.1 ++ [(w12.1, (1 : Int))])).bind fun _ => some (w12.2.1 ++ [(w12.1, (1 : Int))])) else (some w12.2.1)).bind fun w14 => some w14
theorem t_prime_powers_in {n_1 : Int} : ∀ r, n_prime_powers_in n_1 = some r → F_prime_powers_in [PyData.int n_1] = some ((eS (eP PyData.int PyData.int)) r) := by
  refine runF_ok (e := (eS (eP PyData.int PyData.int))) ?_
  show TK [.v (PyData.int n_1), .un, .un, .un] b_prime_powers_in (n_prime_powers_in n_1) (JR (eS (eP PyData.int PyData.int)))
  unfold n_prime_powers_in
  refine s_parO1 ?_
  refine x_lst ?_
  refine x_nil ?_
  refine c_len rfl ?_
  refine c_disp (e := (eP PyData.int PyData.int)) (l := ([] : List (Int × Int))) rfl ?_
  refine c_nx ?_
  refine x_c ?_
  refine c_go rfl ?_
  refine s_while (I := fun (s2 : Int × (List (Int × Int)) × Int) ρ => (∃ j3 : Sl, ρ = [.v (PyData.int s2.1), .own (List.map (eP PyData.int PyData.int) s2.2.1), .v (PyData.int s2.2.2), j3])) ?_ ?_ ?_ ?_
  · exact ⟨_, rfl⟩
  · rintro s2 ρ ⟨j3, rfl⟩
    exact (x_tst (x_op (x_op (x_v rfl (c_nx (x_v rfl (c_bd (e := PyData.int) gmul_ok (fun c4 => (c_nx (x_v rfl (c_ok le_ok (c_tst (c_cond ⟨_, rfl⟩)))))))))))))
  · rintro s2 ρ ⟨j3, rfl⟩
    unfold nb_prime_powers_in_0
    refine s_set ?_
    refine x_c ?_
    refine c_go rfl ?_
    refine s_while (I := fun (s5 : Int × Int) ρ => ρ = [.v (PyData.int s5.1), .own (List.map (eP PyData.int PyData.int) s2.2.1), .v (PyData.int s2.2.2), .v (PyData.int s5.2)]) ?_ ?_ ?_ ?_
    · exact rfl
    · rintro s5 ρ rfl
      exact (x_tst (x_op (x_op (x_v rfl (c_nx (x_v rfl (c_bd (e := PyData.int) gmod_ok (fun c6 => (c_nx (x_c (c_ok (eq_ok qI) (c_tst (c_cond rfl)))))))))))))
    · rintro s5 ρ rfl
      unfold nb_prime_powers_in_1
      refine s_last ?_
      refine s_par ?_
      refine x_op ?_
      refine x_v rfl ?_
      refine c_nx ?_
      refine x_v rfl ?_
      refine c_bd (e := PyData.int) gdiv_ok ?_
      intro c7
      refine c_nx ?_
      refine x_op ?_
      refine x_v rfl ?_
      refine c_nx ?_
      refine x_c ?_
      refine c_ok rfl ?_
      refine c_letC (e := PyData.int) ?_
      intro k8
      refine c_go rfl ?_
      exact s_nil (j_cnx rfl)
    · rintro w9 ρ rfl
      refine s_ext rfl ?_
      refine x_if ?_
      refine x_tst ?_
      refine x_op ?_
      refine x_v rfl ?_
      refine c_nx ?_
      refine x_c ?_
      refine c_ok gt_ok ?_
      refine c_tst ?_
      refine c_ifV (e := (eL (eP PyData.int PyData.int))) (u := [(s2.2.2, w9.2)]) (v := ([] : List (Int × Int))) ?_ ?_ ?_
      · refine x_asL ?_
        refine x_lst ?_
        refine x_cons ?_
        refine x_tup ?_
        refine x_cons ?_
        refine x_v rfl ?_
        refine c_nx ?_
        refine x_cons ?_
        refine x_v rfl ?_
        refine c_nx ?_
        refine x_nil ?_
        refine c_lenT rfl ?_
        refine c_re (e := (eP PyData.int PyData.int)) (a := (s2.2.2, w9.2)) rfl ?_
        refine c_nx ?_
        refine x_nil ?_
        refine c_len rfl ?_
        refine c_disp (e := (eP PyData.int PyData.int)) (l := [(s2.2.2, w9.2)]) rfl ?_
        refine c_eL ?_
        exact c_fin ⟨rfl, rfl⟩
      · refine x_asL ?_
        refine x_lst ?_
        refine x_nil ?_
        refine c_len rfl ?_
        refine c_disp (e := (eP PyData.int PyData.int)) (l := ([] : List (Int × Int))) rfl ?_
        refine c_eL ?_
        exact c_fin ⟨rfl, rfl⟩
      refine c_ext (e := (eP PyData.int PyData.int)) (R := fun found10 => [.v (PyData.int w9.1), .own (List.map (eP PyData.int PyData.int) found10), .v (PyData.int s2.2.2), .v (PyData.int w9.2)]) rfl (fun _ => rfl) ?_
      intro found10
      refine s_last ?_
      refine s_set ?_
      refine x_op ?_
      refine x_v rfl ?_
      refine c_nx ?_
      refine x_c ?_
      refine c_ok rfl ?_
      refine c_letC (e := PyData.int) ?_
      intro p11
      refine c_go rfl ?_
      exact s_nil (j_cnx ⟨_, rfl⟩)
  · rintro w12 ρ ⟨j13, rfl⟩
    refine s_ret ?_
    refine x_if ?_
    refine x_tst ?_
    refine x_op ?_
    refine x_v rfl ?_
    refine c_nx ?_
    refine x_c ?_
    refine c_ok gt_ok ?_
    refine c_tst ?_
    refine c_ifO (e := (eS (eP PyData.int PyData.int))) (R := fun _ => [.v (PyData.int w12.1), .own (List.map (eP PyData.int PyData.int) w12.2.1), .v (PyData.int w12.2.2), j13]) ?_ ?_ ?_
    · refine x_r1e ?_
      refine x_asL ?_
      refine x_lst ?_
      refine x_starv rfl ?_
      refine c_starL ?_
      refine x_cons ?_
      refine x_tup ?_
      refine x_cons ?_
      refine x_v rfl ?_
      refine c_nx ?_
      refine x_cons ?_
      refine x_c ?_
      refine c_nx ?_
      refine x_nil ?_
      refine c_lenT rfl ?_
      refine c_re (e := (eP PyData.int PyData.int)) (a := (w12.1, (1 : Int))) rfl ?_
      refine c_nx ?_
      refine x_nil ?_
      refine c_mp ?_
      refine c_mp ?_
      refine c_disp (e := (eP PyData.int PyData.int)) (l := (w12.2.1 ++ [(w12.1, (1 : Int))])) (by simp) ?_
      refine c_lenB ?_
      refine c_eL ?_
      refine c_ok tupL ?_
      exact c_fin ⟨rfl, rfl⟩
    · refine x_r1v rfl ?_
      refine c_ok tupL ?_
      exact c_fin ⟨rfl, rfl⟩
    intro w14
    exact c_ret
def nb_divisors_of_row_1 (s3 : List Int) (x9 : Int × Int) (lap13 : Int) (s11 : (List Int) × Int) : Option ((List Int) × Int) :=
  (glt s3).bind fun _ => (nmp (fun x14 => (gmul x14 s11.2).bind fun c15 => some c15) s3).bind fun ys16 => (gcat s11.1 ys16).bind fun late17 => (gmul s11.2 x9.1).bind fun c18 => some (late17, c18)
def nb_divisors_of_row_0 (x9 : Int × Int) (s3 : List Int) : Option (List Int) :=
  (grng 0 (x9.2 + (1 : Int))).bind fun l10 => (nfor (nb_divisors_of_row_1 s3 x9) l10 (([] : List Int), (1 : Int))).bind fun w19 => (gln w19.1).bind fun c21 => some c21
def n_divisors_of_row (row1 : List (Int × Int)) : Option (List Int) :=
  letV [(1 : Int)] fun found2 => (nfor (nb_divisors_of_row_0) row1 found2).bind fun w22 => some w22
theorem t_divisors_of_row {row1 : List (Int × Int)} : ∀ r, n_divisors_of_row row1 = some r → F_divisors_of_row [(eS (eP PyData.int PyData.int)) row1] = some ((eL PyData.int) r) := by
  refine runF_ok (e := (eL PyData.int)) ?_
  show TK [.v ((eS (eP PyData.int PyData.int)) row1), .un, .un, .un, .un, .un, .un, .un] b_divisors_of_row (n_divisors_of_row row1) (JR (eL PyData.int))
  unfold n_divisors_of_row
  refine s_set ?_
  refine x_asL ?_
  refine x_lst ?_
  refine x_cons ?_
  refine x_c ?_
  refine c_nx ?_
  refine x_nil ?_
  refine c_len rfl ?_
  refine c_disp (e := PyData.int) (l := [(1 : Int)]) rfl ?_
  refine c_eL ?_
  refine c_letC (e := (eL PyData.int)) ?_
  intro found2
  refine c_go rfl ?_
  refine s_for ?_
  refine x_seq ?_
  refine x_v rfl ?_
  refine c_seqS ?_
  refine c_for (I := fun (s3 : List Int) ρ => (∃ j4 j5 j6 j7 j8 : Sl, ρ = [.v ((eS (eP PyData.int PyData.int)) row1), .v ((eL PyData.int) s3), j4, j5, j6, j7, j8, .un])) (ea := (eP PyData.int PyData.int)) ?_ ?_ ?_
  · exact ⟨_, _, _, _, _, rfl⟩
  · rintro x9 s3 ρ ⟨j4, j5, j6, j7, j8, rfl⟩
    unfold nb_divisors_of_row_0
    refine g_ok rfl ?_
    refine s_parO1 ?_
    refine x_lst ?_
    refine x_nil ?_
    refine c_len rfl ?_
    refine c_disp (e := PyData.int) (l := ([] : List Int)) rfl ?_
    refine c_nx ?_
    refine x_c ?_
    refine c_go rfl ?_
    refine s_for ?_
    refine x_rng1 ?_
    refine x_cons ?_
    refine x_op ?_
    refine x_v rfl ?_
    refine c_nx ?_
    refine x_c ?_
    refine c_ok rfl ?_
    refine c_nx ?_
    refine x_nil ?_
    refine c_rng1 ?_
    intro l10
    refine c_for (I := fun (s11 : (List Int) × Int) ρ => (∃ j12 : Sl, ρ = [.v ((eS (eP PyData.int PyData.int)) row1), .v ((eL PyData.int) s3), .v (PyData.int x9.1), .v (PyData.int x9.2), .own (List.map PyData.int s11.1), .v (PyData.int s11.2), j12, .un])) (ea := PyData.int) ?_ ?_ ?_
    · exact ⟨_, rfl⟩
    · rintro lap13 s11 ρ ⟨j12, rfl⟩
      unfold nb_divisors_of_row_1
      refine g_ok rfl ?_
      refine s_ext rfl ?_
      refine x_asL ?_
      refine x_comp ?_
      refine x_seq ?_
      refine x_v rfl ?_
      refine c_seqL ?_
      refine c_map (ea := PyData.int) (eb := PyData.int) (ρw := [.v ((eS (eP PyData.int PyData.int)) row1), .v ((eL PyData.int) s3), .v (PyData.int x9.1), .v (PyData.int x9.2), .own (List.map PyData.int s11.1), .v (PyData.int s11.2), .v (PyData.int lap13), .un]) (R := fun x14 => [.v ((eS (eP PyData.int PyData.int)) row1), .v ((eL PyData.int) s3), .v (PyData.int x9.1), .v (PyData.int x9.2), .own (List.map PyData.int s11.1), .v (PyData.int s11.2), .v (PyData.int lap13), .v (PyData.int x14)]) rfl (fun _ => rfl) ?_ (fun _ => rfl) ?_
      · intro x14
        refine x_op ?_
        refine x_v rfl ?_
        refine c_nx ?_
        refine x_v rfl ?_
        refine c_bd (e := PyData.int) gmul_ok ?_
        intro c15
        exact c_fin ⟨rfl, rfl⟩
      intro ys16
      refine c_eL ?_
      refine c_ext (e := PyData.int) (R := fun late17 => [.v ((eS (eP PyData.int PyData.int)) row1), .v ((eL PyData.int) s3), .v (PyData.int x9.1), .v (PyData.int x9.2), .own (List.map PyData.int late17), .v (PyData.int s11.2), .v (PyData.int lap13), .un]) rfl (fun _ => rfl) ?_
      intro late17
      refine s_last ?_
      refine s_set ?_
      refine x_op ?_
      refine x_v rfl ?_
      refine c_nx ?_
      refine x_v rfl ?_
      refine c_bd (e := PyData.int) gmul_ok ?_
      intro c18
      refine c_go rfl ?_
      exact s_nil (j_cnx ⟨_, rfl⟩)
    · rintro w19 ρ ⟨j20, rfl⟩
      refine s_last ?_
      refine s_set ?_
      refine x_asL ?_
      refine x_r1Lv rfl ?_
      refine c_bd (e := (List.map PyData.int)) glnL_ok ?_
      intro c21
      refine c_eL ?_
      refine c_go rfl ?_
      exact s_nil (j_cnx ⟨_, _, _, _, _, rfl⟩)
  · rintro w22 ρ ⟨j23, j24, j25, j26, j27, rfl⟩
    refine s_ret ?_
    refine x_v rfl ?_
    exact c_ret
def n_divisors_by_four (n_1 : Int) : Option (Int × Int) :=
  (n_prime_powers_in n_1).bind fun c2 => (n_divisors_of_row c2).bind fun c3 => (glt c3).bind fun _ => (nlc (fun x4 => (gmod x4 (4 : Int)).bind fun c9 => some (ieq c9 (1 : Int))) (fun x4 => some x4) c3).bind fun ys5 => (glt c3).bind fun _ => (nlc (fun x6 => (gmod x6 (4 : Int)).bind fun c8 => some (ieq c8 (3 : Int))) (fun x6 => some x6) c3).bind fun ys7 => some ((ys5.length : Int), (ys7.length : Int))
theorem t_divisors_by_four {n_1 : Int} : ∀ r, n_divisors_by_four n_1 = some r → F_divisors_by_four [PyData.int n_1] = some ((eP PyData.int PyData.int) r) := by
  refine runF_ok (e := (eP PyData.int PyData.int)) ?_
  show TK [.v (PyData.int n_1), .un, .un] b_divisors_by_four (n_divisors_by_four n_1) (JR (eP PyData.int PyData.int))
  unfold n_divisors_by_four
  refine s_set ?_
  refine x_call ?_
  refine x_cons ?_
  refine x_call ?_
  refine x_cons ?_
  refine x_v rfl ?_
  refine c_nx ?_
  refine x_nil ?_
  refine c_bd (e := (eS (eP PyData.int PyData.int))) (t_prime_powers_in) ?_
  intro c2
  refine c_nx ?_
  refine x_nil ?_
  refine c_bd (e := (eL PyData.int)) (t_divisors_of_row) ?_
  intro c3
  refine c_go rfl ?_
  refine s_ret ?_
  refine x_tup ?_
  refine x_cons ?_
  refine x_r1e ?_
  refine x_asL ?_
  refine x_comp ?_
  refine x_seq ?_
  refine x_v rfl ?_
  refine c_seqL ?_
  refine c_comp (ea := PyData.int) (eb := PyData.int) (ρw := [.v (PyData.int n_1), .v ((eL PyData.int) c3), .un]) (R := fun x4 => [.v (PyData.int n_1), .v ((eL PyData.int) c3), .v (PyData.int x4)]) rfl (fun _ => rfl) ?_ ?_ (fun _ => rfl) ?_
  · intro x4
    refine x_tst ?_
    refine x_op ?_
    refine x_op ?_
    refine x_v rfl ?_
    refine c_nx ?_
    refine x_c ?_
    refine c_bd (e := PyData.int) gmod_ok ?_
    intro c9
    refine c_nx ?_
    refine x_c ?_
    refine c_ok (eq_ok qI) ?_
    refine c_tst ?_
    exact c_fin ⟨rfl, rfl⟩
  · intro x4
    refine x_v rfl ?_
    exact c_fin ⟨rfl, rfl⟩
  intro ys5
  refine c_eL ?_
  refine c_ok lenL ?_
  refine c_nx ?_
  refine x_cons ?_
  refine x_r1e ?_
  refine x_asL ?_
  refine x_comp ?_
  refine x_seq ?_
  refine x_v rfl ?_
  refine c_seqL ?_
  refine c_comp (ea := PyData.int) (eb := PyData.int) (ρw := [.v (PyData.int n_1), .v ((eL PyData.int) c3), .un]) (R := fun x6 => [.v (PyData.int n_1), .v ((eL PyData.int) c3), .v (PyData.int x6)]) rfl (fun _ => rfl) ?_ ?_ (fun _ => rfl) ?_
  · intro x6
    refine x_tst ?_
    refine x_op ?_
    refine x_op ?_
    refine x_v rfl ?_
    refine c_nx ?_
    refine x_c ?_
    refine c_bd (e := PyData.int) gmod_ok ?_
    intro c8
    refine c_nx ?_
    refine x_c ?_
    refine c_ok (eq_ok qI) ?_
    refine c_tst ?_
    exact c_fin ⟨rfl, rfl⟩
  · intro x6
    refine x_v rfl ?_
    exact c_fin ⟨rfl, rfl⟩
  intro ys7
  refine c_eL ?_
  refine c_ok lenL ?_
  refine c_nx ?_
  refine x_nil ?_
  refine c_lenT rfl ?_
  refine c_re (e := (eP PyData.int PyData.int)) (a := ((ys5.length : Int), (ys7.length : Int))) rfl ?_
  exact c_ret
def n_count_first_ways (n_1 : Int) : Option Int :=
  (n_divisors_by_four n_1).bind fun c2 => some (c2.1 - c2.2)
theorem t_count_first_ways {n_1 : Int} : ∀ r, n_count_first_ways n_1 = some r → F_count_first_ways [PyData.int n_1] = some (PyData.int r) := by
  refine runF_ok (e := PyData.int) ?_
  show TK [.v (PyData.int n_1), .un, .un] b_count_first_ways (n_count_first_ways n_1) (JR PyData.int)
  unfold n_count_first_ways
  refine s_tg ?_
  refine x_call ?_
  refine x_cons ?_
  refine x_v rfl ?_
  refine c_nx ?_
  refine x_nil ?_
  refine c_bd (e := (eP PyData.int PyData.int)) (t_divisors_by_four) ?_
  intro c2
  refine c_tg rfl ?_
  refine s_ret ?_
  refine x_op ?_
  refine x_v rfl ?_
  refine c_nx ?_
  refine x_v rfl ?_
  refine c_ok rfl ?_
  exact c_ret
def n_count_ways (n_1 : Int) : Option Int :=
  (n_count_first_ways n_1).bind fun c2 => (gmul (4 : Int) c2).bind fun c3 => some c3
theorem t_count_ways {n_1 : Int} : ∀ r, n_count_ways n_1 = some r → F_count_ways [PyData.int n_1] = some (PyData.int r) := by
  refine runF_ok (e := PyData.int) ?_
  show TK [.v (PyData.int n_1)] b_count_ways (n_count_ways n_1) (JR PyData.int)
  unfold n_count_ways
  refine s_ret ?_
  refine x_op ?_
  refine x_c ?_
  refine c_nx ?_
  refine x_call ?_
  refine x_cons ?_
  refine x_v rfl ?_
  refine c_nx ?_
  refine x_nil ?_
  refine c_bd (e := PyData.int) (t_count_first_ways) ?_
  intro c2
  refine c_bd (e := PyData.int) gmul_ok ?_
  intro c3
  exact c_ret
def n_law_times (x1 : List Int) (y2 : List Int) : Option (List Int) :=
  (un4 x1).bind fun p3 => (un4 y2).bind fun p4 => (gmul p3.1 p4.1).bind fun c5 => (gmul p3.2.1 p4.2.1).bind fun c6 => (gmul p3.2.2.1 p4.2.2.1).bind fun c7 => (gmul p3.2.2.2 p4.2.2.2).bind fun c8 => (gmul p3.1 p4.2.1).bind fun c9 => (gmul p3.2.1 p4.1).bind fun c10 => (gmul p3.2.2.1 p4.2.2.2).bind fun c11 => (gmul p3.2.2.2 p4.2.2.1).bind fun c12 => letV [(((c5 - c6) - c7) - c8), (((c9 + c10) + c11) - c12)] fun row13 => (gmul p3.1 p4.2.2.1).bind fun c14 => (gmul p3.2.1 p4.2.2.2).bind fun c15 => (gmul p3.2.2.1 p4.1).bind fun c16 => (gmul p3.2.2.2 p4.2.1).bind fun c17 => (gmul p3.1 p4.2.2.2).bind fun c18 => (gmul p3.2.1 p4.2.2.1).bind fun c19 => (gmul p3.2.2.1 p4.2.1).bind fun c20 => (gmul p3.2.2.2 p4.1).bind fun c21 => (gcat row13 [(((c14 - c15) + c16) + c17), (((c18 + c19) - c20) + c21)]).bind fun c22 => (glt c22).bind fun _ => (nmp (fun x23 => (gdiv x23 (2 : Int)).bind fun c24 => some c24) c22).bind fun ys25 => some ys25
theorem t_law_times {x1 : List Int} {y2 : List Int} : ∀ r, n_law_times x1 y2 = some r → F_law_times [(eS PyData.int) x1, (eS PyData.int) y2] = some ((eS PyData.int) r) := by
  refine runF_ok (e := (eS PyData.int)) ?_
  show TK [.v ((eS PyData.int) x1), .v ((eS PyData.int) y2), .un, .un, .un, .un, .un, .un, .un, .un, .un] b_law_times (n_law_times x1 y2) (JR (eS PyData.int))
  unfold n_law_times
  refine s_tg ?_
  refine x_v rfl ?_
  refine c_tgU (R := fun p3 => [.v ((eS PyData.int) x1), .v ((eS PyData.int) y2), .v (PyData.int p3.1), .v (PyData.int p3.2.1), .v (PyData.int p3.2.2.1), .v (PyData.int p3.2.2.2), .un, .un, .un, .un, .un]) (fun _ q => by rw [un4_ok q]; rfl) ?_
  intro p3
  refine s_tg ?_
  refine x_v rfl ?_
  refine c_tgU (R := fun p4 => [.v ((eS PyData.int) x1), .v ((eS PyData.int) y2), .v (PyData.int p3.1), .v (PyData.int p3.2.1), .v (PyData.int p3.2.2.1), .v (PyData.int p3.2.2.2), .v (PyData.int p4.1), .v (PyData.int p4.2.1), .v (PyData.int p4.2.2.1), .v (PyData.int p4.2.2.2), .un]) (fun _ q => by rw [un4_ok q]; rfl) ?_
  intro p4
  refine s_set ?_
  refine x_tup ?_
  refine x_cons ?_
  refine x_op ?_
  refine x_op ?_
  refine x_op ?_
  refine x_op ?_
  refine x_v rfl ?_
  refine c_nx ?_
  refine x_v rfl ?_
  refine c_bd (e := PyData.int) gmul_ok ?_
  intro c5
  refine c_nx ?_
  refine x_op ?_
  refine x_v rfl ?_
  refine c_nx ?_
  refine x_v rfl ?_
  refine c_bd (e := PyData.int) gmul_ok ?_
  intro c6
  refine c_ok rfl ?_
  refine c_nx ?_
  refine x_op ?_
  refine x_v rfl ?_
  refine c_nx ?_
  refine x_v rfl ?_
  refine c_bd (e := PyData.int) gmul_ok ?_
  intro c7
  refine c_ok rfl ?_
  refine c_nx ?_
  refine x_op ?_
  refine x_v rfl ?_
  refine c_nx ?_
  refine x_v rfl ?_
  refine c_bd (e := PyData.int) gmul_ok ?_
  intro c8
  refine c_ok rfl ?_
  refine c_nx ?_
  refine x_cons ?_
  refine x_op ?_
  refine x_op ?_
  refine x_op ?_
  refine x_op ?_
  refine x_v rfl ?_
  refine c_nx ?_
  refine x_v rfl ?_
  refine c_bd (e := PyData.int) gmul_ok ?_
  intro c9
  refine c_nx ?_
  refine x_op ?_
  refine x_v rfl ?_
  refine c_nx ?_
  refine x_v rfl ?_
  refine c_bd (e := PyData.int) gmul_ok ?_
  intro c10
  refine c_ok rfl ?_
  refine c_nx ?_
  refine x_op ?_
  refine x_v rfl ?_
  refine c_nx ?_
  refine x_v rfl ?_
  refine c_bd (e := PyData.int) gmul_ok ?_
  intro c11
  refine c_ok rfl ?_
  refine c_nx ?_
  refine x_op ?_
  refine x_v rfl ?_
  refine c_nx ?_
  refine x_v rfl ?_
  refine c_bd (e := PyData.int) gmul_ok ?_
  intro c12
  refine c_ok rfl ?_
  refine c_nx ?_
  refine x_nil ?_
  refine c_lenT rfl ?_
  refine c_re (e := (eS PyData.int)) (a := [(((c5 - c6) - c7) - c8), (((c9 + c10) + c11) - c12)]) rfl ?_
  refine c_letC (e := (eS PyData.int)) ?_
  intro row13
  refine c_go rfl ?_
  refine s_set ?_
  refine x_op ?_
  refine x_v rfl ?_
  refine c_nx ?_
  refine x_tup ?_
  refine x_cons ?_
  refine x_op ?_
  refine x_op ?_
  refine x_op ?_
  refine x_op ?_
  refine x_v rfl ?_
  refine c_nx ?_
  refine x_v rfl ?_
  refine c_bd (e := PyData.int) gmul_ok ?_
  intro c14
  refine c_nx ?_
  refine x_op ?_
  refine x_v rfl ?_
  refine c_nx ?_
  refine x_v rfl ?_
  refine c_bd (e := PyData.int) gmul_ok ?_
  intro c15
  refine c_ok rfl ?_
  refine c_nx ?_
  refine x_op ?_
  refine x_v rfl ?_
  refine c_nx ?_
  refine x_v rfl ?_
  refine c_bd (e := PyData.int) gmul_ok ?_
  intro c16
  refine c_ok rfl ?_
  refine c_nx ?_
  refine x_op ?_
  refine x_v rfl ?_
  refine c_nx ?_
  refine x_v rfl ?_
  refine c_bd (e := PyData.int) gmul_ok ?_
  intro c17
  refine c_ok rfl ?_
  refine c_nx ?_
  refine x_cons ?_
  refine x_op ?_
  refine x_op ?_
  refine x_op ?_
  refine x_op ?_
  refine x_v rfl ?_
  refine c_nx ?_
  refine x_v rfl ?_
  refine c_bd (e := PyData.int) gmul_ok ?_
  intro c18
  refine c_nx ?_
  refine x_op ?_
  refine x_v rfl ?_
  refine c_nx ?_
  refine x_v rfl ?_
  refine c_bd (e := PyData.int) gmul_ok ?_
  intro c19
  refine c_ok rfl ?_
  refine c_nx ?_
  refine x_op ?_
  refine x_v rfl ?_
  refine c_nx ?_
  refine x_v rfl ?_
  refine c_bd (e := PyData.int) gmul_ok ?_
  intro c20
  refine c_ok rfl ?_
  refine c_nx ?_
  refine x_op ?_
  refine x_v rfl ?_
  refine c_nx ?_
  refine x_v rfl ?_
  refine c_bd (e := PyData.int) gmul_ok ?_
  intro c21
  refine c_ok rfl ?_
  refine c_nx ?_
  refine x_nil ?_
  refine c_lenT rfl ?_
  refine c_re (e := (eS PyData.int)) (a := [(((c14 - c15) + c16) + c17), (((c18 + c19) - c20) + c21)]) rfl ?_
  refine c_bd (e := (eS PyData.int)) gcatT_ok ?_
  intro c22
  refine c_go rfl ?_
  refine s_ret ?_
  refine x_r1e ?_
  refine x_asL ?_
  refine x_comp ?_
  refine x_seq ?_
  refine x_v rfl ?_
  refine c_seqS ?_
  refine c_map (ea := PyData.int) (eb := PyData.int) (ρw := [.un, .v ((eS PyData.int) y2), .v (PyData.int p3.1), .v (PyData.int p3.2.1), .v (PyData.int p3.2.2.1), .v (PyData.int p3.2.2.2), .v (PyData.int p4.1), .v (PyData.int p4.2.1), .v (PyData.int p4.2.2.1), .v (PyData.int p4.2.2.2), .v ((eS PyData.int) c22)]) (R := fun x23 => [.v (PyData.int x23), .v ((eS PyData.int) y2), .v (PyData.int p3.1), .v (PyData.int p3.2.1), .v (PyData.int p3.2.2.1), .v (PyData.int p3.2.2.2), .v (PyData.int p4.1), .v (PyData.int p4.2.1), .v (PyData.int p4.2.2.1), .v (PyData.int p4.2.2.2), .v ((eS PyData.int) c22)]) rfl (fun _ => rfl) ?_ (fun _ => rfl) ?_
  · intro x23
    refine x_op ?_
    refine x_v rfl ?_
    refine c_nx ?_
    refine x_c ?_
    refine c_bd (e := PyData.int) gdiv_ok ?_
    intro c24
    exact c_fin ⟨rfl, rfl⟩
  intro ys25
  refine c_eL ?_
  refine c_ok tupL ?_
  exact c_ret
def nb_law_two_1 (s9 : Int) : Option Int :=
  letV (s9 + (1 : Int)) fun b11 => some b11
def nb_law_two_0 (n_1 : Int) (s3 : Int × Int) : Option (Int × Int) :=
  (gmul s3.2 s3.2).bind fun c7 => letV (n_1 - c7) fun rest8 => (nwh (fun s9 => (gmul s9 s9).bind fun c10 => some (ilt c10 rest8)) (nb_law_two_1) fuel (0 : Int)).bind fun w12 => (gmul w12 w12).bind fun c13 => (bif (ieq c13 rest8) then (gmul (bif (ilt (0 : Int) s3.2) then (2 : Int) else (1 : Int)) (bif (ilt (0 : Int) w12) then (2 : Int) else (1 : Int))).bind fun c14 => letV (s3.1 + c14) fun found15 => some found15 else some s3.1).bind fun w16 => letV (s3.2 + (1 : Int)) fun a17 => some (w16, a17)
def n_law_two (n_1 : Int) : Option Int :=
  letV ((0 : Int), (0 : Int)) fun q2 => (nwh (fun s3 => (gmul s3.2 s3.2).bind fun c6 => some (ile c6 n_1)) (nb_law_two_0 n_1) fuel (q2.1, q2.2)).bind fun w18 => some w18.1
theorem t_law_two {n_1 : Int} : ∀ r, n_law_two n_1 = some r → F_law_two [PyData.int n_1] = some (PyData.int r) := by
  refine runF_ok (e := PyData.int) ?_
  show TK [.v (PyData.int n_1), .un, .un, .un, .un] b_law_two (n_law_two n_1) (JR PyData.int)
  unfold n_law_two
  refine s_tg ?_
  refine x_tup ?_
  refine x_cons ?_
  refine x_c ?_
  refine c_nx ?_
  refine x_cons ?_
  refine x_c ?_
  refine c_nx ?_
  refine x_nil ?_
  refine c_lenT rfl ?_
  refine c_re (e := (eP PyData.int PyData.int)) (a := ((0 : Int), (0 : Int))) rfl ?_
  refine c_letC (e := (eP PyData.int PyData.int)) ?_
  intro q2
  refine c_tg rfl ?_
  refine s_while (I := fun (s3 : Int × Int) ρ => (∃ j4 j5 : Sl, ρ = [.v (PyData.int n_1), .v (PyData.int s3.1), .v (PyData.int s3.2), j4, j5])) ?_ ?_ ?_ ?_
  · exact ⟨_, _, rfl⟩
  · rintro s3 ρ ⟨j4, j5, rfl⟩
    exact (x_tst (x_op (x_op (x_v rfl (c_nx (x_v rfl (c_bd (e := PyData.int) gmul_ok (fun c6 => (c_nx (x_v rfl (c_ok le_ok (c_tst (c_cond ⟨_, _, rfl⟩)))))))))))))
  · rintro s3 ρ ⟨j4, j5, rfl⟩
    unfold nb_law_two_0
    refine s_par ?_
    refine x_op ?_
    refine x_v rfl ?_
    refine c_nx ?_
    refine x_op ?_
    refine x_v rfl ?_
    refine c_nx ?_
    refine x_v rfl ?_
    refine c_bd (e := PyData.int) gmul_ok ?_
    intro c7
    refine c_ok rfl ?_
    refine c_letC (e := PyData.int) ?_
    intro rest8
    refine c_nx ?_
    refine x_c ?_
    refine c_go rfl ?_
    refine s_while (I := fun (s9 : Int) ρ => ρ = [.v (PyData.int n_1), .v (PyData.int s3.1), .v (PyData.int s3.2), .v (PyData.int rest8), .v (PyData.int s9)]) ?_ ?_ ?_ ?_
    · exact rfl
    · rintro s9 ρ rfl
      exact (x_tst (x_op (x_op (x_v rfl (c_nx (x_v rfl (c_bd (e := PyData.int) gmul_ok (fun c10 => (c_nx (x_v rfl (c_ok lt_ok (c_tst (c_cond rfl)))))))))))))
    · rintro s9 ρ rfl
      unfold nb_law_two_1
      refine s_last ?_
      refine s_set ?_
      refine x_op ?_
      refine x_v rfl ?_
      refine c_nx ?_
      refine x_c ?_
      refine c_ok rfl ?_
      refine c_letC (e := PyData.int) ?_
      intro b11
      refine c_go rfl ?_
      exact s_nil (j_cnx rfl)
    · rintro w12 ρ rfl
      refine s_if ?_
      refine x_tst ?_
      refine x_op ?_
      refine x_op ?_
      refine x_v rfl ?_
      refine c_nx ?_
      refine x_v rfl ?_
      refine c_bd (e := PyData.int) gmul_ok ?_
      intro c13
      refine c_nx ?_
      refine x_v rfl ?_
      refine c_ok (eq_ok qI) ?_
      refine c_tst ?_
      refine c_sifJ (I := fun (w16 : Int) ρ => ρ = [.v (PyData.int n_1), .v (PyData.int w16), .v (PyData.int s3.2), .v (PyData.int rest8), .v (PyData.int w12)]) ?_ ?_ ?_
      · refine s_last ?_
        refine s_set ?_
        refine x_op ?_
        refine x_v rfl ?_
        refine c_nx ?_
        refine x_op ?_
        refine x_if ?_
        refine x_tst ?_
        refine x_op ?_
        refine x_v rfl ?_
        refine c_nx ?_
        refine x_c ?_
        refine c_ok gt_ok ?_
        refine c_tst ?_
        refine c_ifV (e := PyData.int) (u := (2 : Int)) (v := (1 : Int)) ?_ ?_ ?_
        · refine x_c ?_
          exact c_fin ⟨rfl, rfl⟩
        · refine x_c ?_
          exact c_fin ⟨rfl, rfl⟩
        refine c_nx ?_
        refine x_if ?_
        refine x_tst ?_
        refine x_op ?_
        refine x_v rfl ?_
        refine c_nx ?_
        refine x_c ?_
        refine c_ok gt_ok ?_
        refine c_tst ?_
        refine c_ifV (e := PyData.int) (u := (2 : Int)) (v := (1 : Int)) ?_ ?_ ?_
        · refine x_c ?_
          exact c_fin ⟨rfl, rfl⟩
        · refine x_c ?_
          exact c_fin ⟨rfl, rfl⟩
        refine c_bd (e := PyData.int) gmul_ok ?_
        intro c14
        refine c_ok rfl ?_
        refine c_letC (e := PyData.int) ?_
        intro found15
        refine c_go rfl ?_
        exact s_nil (j_nx rfl)
      · exact s_nil (j_nx rfl)
      · rintro w16 ρ rfl
        refine s_last ?_
        refine s_set ?_
        refine x_op ?_
        refine x_v rfl ?_
        refine c_nx ?_
        refine x_c ?_
        refine c_ok rfl ?_
        refine c_letC (e := PyData.int) ?_
        intro a17
        refine c_go rfl ?_
        exact s_nil (j_cnx ⟨_, _, rfl⟩)
  · rintro w18 ρ ⟨j19, j20, rfl⟩
    refine s_ret ?_
    refine x_v rfl ?_
    exact c_ret
def nb_law_common_0 (s3 : Int × Int) : Option (Int × Int) :=
  (gmod s3.1 s3.2).bind fun c4 => some (s3.2, c4)
def n_law_common (m1 : Int) (n_2 : Int) : Option Int :=
  (nwh (fun s3 => some (ilt (0 : Int) s3.2)) (nb_law_common_0) fuel (m1, n_2)).bind fun w5 => some w5.1
theorem t_law_common {m1 : Int} {n_2 : Int} : ∀ r, n_law_common m1 n_2 = some r → F_law_common [PyData.int m1, PyData.int n_2] = some (PyData.int r) := by
  refine runF_ok (e := PyData.int) ?_
  show TK [.v (PyData.int m1), .v (PyData.int n_2)] b_law_common (n_law_common m1 n_2) (JR PyData.int)
  unfold n_law_common
  refine s_while (I := fun (s3 : Int × Int) ρ => ρ = [.v (PyData.int s3.1), .v (PyData.int s3.2)]) ?_ ?_ ?_ ?_
  · exact rfl
  · rintro s3 ρ rfl
    exact (x_tst (x_op (x_v rfl (c_nx (x_c (c_ok gt_ok (c_tst (c_cond rfl))))))))
  · rintro s3 ρ rfl
    unfold nb_law_common_0
    refine s_last ?_
    refine s_par ?_
    refine x_v rfl ?_
    refine c_nx ?_
    refine x_op ?_
    refine x_r1v rfl ?_
    refine c_ok rfl ?_
    refine c_nx ?_
    refine x_v rfl ?_
    refine c_bd (e := PyData.int) gmod_ok ?_
    intro c4
    refine c_go rfl ?_
    exact s_nil (j_cnx rfl)
  · rintro w5 ρ rfl
    refine s_ret ?_
    refine x_v rfl ?_
    exact c_ret
end K25
namespace K25
open PySem Fe Te
abbrev n_law_pick : Src → Int → Option (Int × Src) := gpick (pickB 104729 17)
theorem t_law_pick {s : Src} {m : Int} : ∀ r, n_law_pick s m = some r → F_law_pick s [.int m] = some (.int r.1, r.2) := gpick_ok
def n_law_of {α : Type} (s1 : Src) (some_2 : List α) : Option (α × Src) :=
  (n_law_pick s1 (some_2.length : Int)).bind fun c3 => (gix some_2 c3.1).bind fun c4 => some (c4, c3.2)
theorem t_law_of {α : Type} {ea : α → PyData} {s1 : Src} {some_2 : List α} : ∀ r, n_law_of s1 some_2 = some r → F_law_of s1 [(eL ea) some_2] = some (ea r.1, r.2) := by
  refine runS_ok (e := ea) ?_
  show TK [.src s1, .v ((eL ea) some_2)] b_law_of (n_law_of s1 some_2) (JS ea)
  unfold n_law_of
  refine s_ret ?_
  refine x_ixv rfl ?_
  refine x_callS rfl ?_
  refine x_cons ?_
  refine x_r1v rfl ?_
  refine c_ok lenL ?_
  refine c_nx ?_
  refine x_nil ?_
  refine c_callS (e := PyData.int) (R := fun s5 => [.src s5, .v ((eL ea) some_2)]) rfl (t_law_pick) (fun _ => rfl) ?_
  intro c3
  refine c_ixv rfl ?_
  refine c_bd (e := ea) gixL_ok ?_
  intro c4
  exact c_retS (e := ea)
def nb_law_mixed_0 {α : Type} (s4 : Src × (List α) × (List α)) : Option (Src × (List α) × (List α)) :=
  (n_law_pick s4.1 (s4.2.1.length : Int)).bind fun c5 => (gpop s4.2.1 c5.1).bind fun c6 => (gapp s4.2.2 c6.1).bind fun found8 => some (c5.2, c6.2, found8)
def n_law_mixed {α : Type} (s1 : Src) (things2 : List α) : Option ((List α) × Src) :=
  (gln things2).bind fun c3 => (nwh (fun s4 => some (!s4.2.1.isEmpty)) (nb_law_mixed_0) fuel (s1, c3, ([] : List α))).bind fun w10 => some (w10.2.2, w10.1)
theorem t_law_mixed {α : Type} {ea : α → PyData} {kk : Nat} {fq : α → α → Bool} (EQ : Eqv ea kk fq) (hkk : kk ≤ 60) {s1 : Src} {things2 : List α} : ∀ r, n_law_mixed s1 things2 = some r → F_law_mixed s1 [(eL ea) things2] = some ((eL ea) r.1, r.2) := by
  refine runS_ok (e := (eL ea)) ?_
  show TK [.src s1, .v ((eL ea) things2), .un, .un] b_law_mixed (n_law_mixed s1 things2) (JS (eL ea))
  unfold n_law_mixed
  refine s_parO3 ?_
  refine x_r1Lv rfl ?_
  refine c_bd (e := (List.map ea)) glnL_ok ?_
  intro c3
  refine c_nx ?_
  refine x_lst ?_
  refine x_nil ?_
  refine c_len rfl ?_
  refine c_disp (e := ea) (l := ([] : List α)) rfl ?_
  refine c_go rfl ?_
  refine s_while (I := fun (s4 : Src × (List α) × (List α)) ρ => ρ = [.src s4.1, .v ((eL ea) things2), .own (List.map ea s4.2.1), .own (List.map ea s4.2.2)]) ?_ ?_ ?_ ?_
  · exact rfl
  · rintro s4 ρ rfl
    exact (x_tst (x_opR (x_rd rfl (c_nx (x_val (x_asL (x_lst (x_nil (c_len rfl (c_disp (e := ea) (l := ([] : List α)) rfl (c_eL (c_mp (c_opR2 (d := (eL ea) s4.2.1) (e := (eL ea) []) rfl rfl (c_ok (neNil_ok EQ hkk) (c_tst (c_cond rfl))))))))))))))))
  · rintro s4 ρ rfl
    unfold nb_law_mixed_0
    refine s_last ?_
    refine s_app rfl ?_
    refine x_popAt rfl ?_
    refine x_callS rfl ?_
    refine x_cons ?_
    refine x_r1v rfl ?_
    refine c_ok lenL ?_
    refine c_nx ?_
    refine x_nil ?_
    refine c_callS (e := PyData.int) (R := fun s9 => [.src s9, .v ((eL ea) things2), .own (List.map ea s4.2.1), .own (List.map ea s4.2.2)]) rfl (t_law_pick) (fun _ => rfl) ?_
    intro c5
    refine c_popAt (e := ea) (l := s4.2.1) (R := fun rest7 => [.src c5.2, .v ((eL ea) things2), .own (List.map ea rest7), .own (List.map ea s4.2.2)]) rfl (fun _ => rfl) ?_
    intro c6
    refine c_app (e := ea) (v := c6.1) (R := fun found8 => [.src c5.2, .v ((eL ea) things2), .own (List.map ea c6.2), .own (List.map ea found8)]) rfl rfl (fun _ => rfl) ?_
    intro found8
    exact s_nil (j_cnx rfl)
  · rintro w10 ρ rfl
    refine s_frz0 (i := 3) rfl ?_
    refine s_ret ?_
    refine x_v rfl ?_
    exact c_retS (e := (eL ea))
def nb_law_0 (lap16 : Int) (s3 : Src) : Option (Lp Src Bool) :=
  (n_law_pick s3 (bif (ieq lap16 (0 : Int)) then (370 : Int) else (60 : Int))).bind fun c17 => letV ((1 : Int) + c17.1) fun n_18 => (grng 0 (n_18 + (1 : Int))).bind fun l19 => (glt l19).bind fun _ => (nmp (fun x20 => (n_law_two x20).bind fun c21 => some c21) l19).bind fun ys22 => (glr (1 : Int) (n_18 + (1 : Int))).bind fun l23 => (n_law_mixed c17.2 l23).bind fun c24 => (gslL c24.1 none (some (8 : Int))).bind fun r25 => (glt r25).bind fun _ => (nlc (fun x26 => (n_count_ways x26).bind fun c166 => (gix ys22 x26).bind fun c167 => some (!ieq c166 c167)) (fun x26 => some x26) r25).bind fun ys27 => bif (!ys27.isEmpty) then some (.rt false) else (grng 0 (n_18 + (1 : Int))).bind fun l28 => (glt l28).bind fun _ => (nmp (fun x29 => (gix ys22 x29).bind fun c30 => (gix ys22 (n_18 - x29)).bind fun c31 => (gmul c30 c31).bind fun c32 => some c32) l28).bind fun ys33 => (n_count_four_squares n_18).bind fun c34 => (gsame ieq PyData.int c34 ys33.sum).bind fun _ => bif false then some (.rt false) else (grng3 (1 : Int) (n_18 + (1 : Int)) (2 : Int)).bind fun l35 => (glt l35).bind fun _ => (nlc (fun x36 => (gmod n_18 x36).bind fun c165 => some (ieq c165 (0 : Int))) (fun x36 => some x36) l35).bind fun ys37 => (n_odd_divisor_sum n_18).bind fun c38 => (n_count_fours n_18).bind fun c39 => (gmul (24 : Int) ys37.sum).bind fun c40 => (gsame (eqL ieq) (eL PyData.int) [c38, c39] [ys37.sum, c40]).bind fun _ => bif false then some (.rt false) else (n_count_fours n_18).bind fun c41 => (gdiv n_18 (2 : Int)).bind fun c42 => (gmul c42 (2 : Int)).bind fun c43 => (bif (ieq c43 n_18) then ((n_count_four_squares n_18).bind fun c44 => some c44) else ((n_count_four_squares n_18).bind fun c45 => (gmul (3 : Int) c45).bind fun c46 => some c46)).bind fun w47 => bif (!ieq c41 w47) then some (.rt false) else (gdiv (3000 : Int) n_18).bind fun c48 => (n_law_pick c24.2 c48).bind fun c49 => letV ((1 : Int) + c49.1) fun m50 => (n_law_common m50 n_18).bind fun c51 => bif (ieq c51 (1 : Int)) then (gmul m50 n_18).bind fun c52 => (n_count_four_squares c52).bind fun c53 => (gmul (8 : Int) c53).bind fun c54 => (n_count_four_squares m50).bind fun c55 => (n_count_four_squares n_18).bind fun c56 => (gmul c55 c56).bind fun c57 => bif (!ieq c54 c57) then some (.rt false) else (gmul m50 n_18).bind fun c58 => (n_count_fours c58).bind fun c59 => (gmul (24 : Int) c59).bind fun c60 => (n_count_fours m50).bind fun c61 => (n_count_fours n_18).bind fun c62 => (gmul c61 c62).bind fun c63 => bif (!ieq c60 c63) then some (.rt false) else (n_any_four_squares m50).bind fun c64 => (n_any_four_squares n_18).bind fun c65 => (grng 0 (8 : Int)).bind fun l66 => (glt l66).bind fun _ => (nmpS (fun x67 s68 => (n_law_of s68 [(2 : Int), ((0 : Int) - (2 : Int))]).bind fun c69 => some (c69.1, c69.2)) l66 c49.2).bind fun ys71 => (c64).bind fun u72 => (gln u72).bind fun c73 => (n_law_mixed ys71.2 c73).bind fun c74 => (gslL ys71.1 none (some (4 : Int))).bind fun r75 => (glt (c74.1.zip r75)).bind fun _ => (nmp (fun x76 => (gmul x76.1 x76.2).bind fun c77 => some c77) (c74.1.zip r75)).bind fun ys78 => (c65).bind fun u79 => (gln u79).bind fun c80 => (n_law_mixed c74.2 c80).bind fun c81 => (gslL ys71.1 (some (4 : Int)) none).bind fun r82 => (glt (c81.1.zip r82)).bind fun _ => (nmp (fun x83 => (gmul x83.1 x83.2).bind fun c84 => some c84) (c81.1.zip r82)).bind fun ys85 => (n_four_product ys78 ys85).bind fun c86 => (n_law_times ys78 ys85).bind fun c87 => (gsame (eqL ieq) (eS PyData.int) c86 c87).bind fun _ => (bif false then some true else (glt c86).bind fun _ => (nlc (fun x88 => (gdiv x88 (2 : Int)).bind fun c90 => (gmul c90 (2 : Int)).bind fun c91 => some (!ieq c91 x88)) (fun x88 => some x88) c86).bind fun ys89 => some (!ys89.isEmpty)).bind fun b92 => bif b92 then some (.rt false) else (n_four_norm c86).bind fun c93 => (gmul m50 n_18).bind fun c94 => (bif (!ieq c93 c94) then some true else (glt c86).bind fun _ => (nmp (fun x95 => (gdiv x95 (2 : Int)).bind fun c96 => (gdiv x95 (2 : Int)).bind fun c97 => (gmul c96 c97).bind fun c98 => some c98) c86).bind fun ys99 => (gmul m50 n_18).bind fun c100 => some (!ieq ys99.sum c100)).bind fun b101 => bif b101 then some (.rt false) else (gdiv n_18 (2 : Int)).bind fun c102 => (gmul c102 (2 : Int)).bind fun c103 => (bif (!ieq c103 n_18) then (glt [(2 : Int), (4 : Int), (8 : Int)]).bind fun _ => (nmp (fun x104 => (gmul x104 n_18).bind fun c105 => (n_count_four_squares c105).bind fun c106 => some c106) [(2 : Int), (4 : Int), (8 : Int)]).bind fun ys107 => (n_count_four_squares n_18).bind fun c108 => (gmul (3 : Int) c108).bind fun c109 => (grepL [c109] (3 : Int)).bind fun r110 => some (!(eqL ieq) ys107 r110) else some false).bind fun b111 => bif b111 then some (.rt false) else some (.nx c81.2) else (n_any_four_squares m50).bind fun c114 => (n_any_four_squares n_18).bind fun c115 => (grng 0 (8 : Int)).bind fun l116 => (glt l116).bind fun _ => (nmpS (fun x117 s118 => (n_law_of s118 [(2 : Int), ((0 : Int) - (2 : Int))]).bind fun c119 => some (c119.1, c119.2)) l116 c49.2).bind fun ys121 => (c114).bind fun u122 => (gln u122).bind fun c123 => (n_law_mixed ys121.2 c123).bind fun c124 => (gslL ys121.1 none (some (4 : Int))).bind fun r125 => (glt (c124.1.zip r125)).bind fun _ => (nmp (fun x126 => (gmul x126.1 x126.2).bind fun c127 => some c127) (c124.1.zip r125)).bind fun ys128 => (c115).bind fun u129 => (gln u129).bind fun c130 => (n_law_mixed c124.2 c130).bind fun c131 => (gslL ys121.1 (some (4 : Int)) none).bind fun r132 => (glt (c131.1.zip r132)).bind fun _ => (nmp (fun x133 => (gmul x133.1 x133.2).bind fun c134 => some c134) (c131.1.zip r132)).bind fun ys135 => (n_four_product ys128 ys135).bind fun c136 => (n_law_times ys128 ys135).bind fun c137 => (gsame (eqL ieq) (eS PyData.int) c136 c137).bind fun _ => (bif false then some true else (glt c136).bind fun _ => (nlc (fun x138 => (gdiv x138 (2 : Int)).bind fun c140 => (gmul c140 (2 : Int)).bind fun c141 => some (!ieq c141 x138)) (fun x138 => some x138) c136).bind fun ys139 => some (!ys139.isEmpty)).bind fun b142 => bif b142 then some (.rt false) else (n_four_norm c136).bind fun c143 => (gmul m50 n_18).bind fun c144 => (bif (!ieq c143 c144) then some true else (glt c136).bind fun _ => (nmp (fun x145 => (gdiv x145 (2 : Int)).bind fun c146 => (gdiv x145 (2 : Int)).bind fun c147 => (gmul c146 c147).bind fun c148 => some c148) c136).bind fun ys149 => (gmul m50 n_18).bind fun c150 => some (!ieq ys149.sum c150)).bind fun b151 => bif b151 then some (.rt false) else (gdiv n_18 (2 : Int)).bind fun c152 => (gmul c152 (2 : Int)).bind fun c153 => (bif (!ieq c153 n_18) then (glt [(2 : Int), (4 : Int), (8 : Int)]).bind fun _ => (nmp (fun x154 => (gmul x154 n_18).bind fun c155 => (n_count_four_squares c155).bind fun c156 => some c156) [(2 : Int), (4 : Int), (8 : Int)]).bind fun ys157 => (n_count_four_squares n_18).bind fun c158 => (gmul (3 : Int) c158).bind fun c159 => (grepL [c159] (3 : Int)).bind fun r160 => some (!(eqL ieq) ys157 r160) else some false).bind fun b161 => bif b161 then some (.rt false) else some (.nx c131.2)
def n_law (s : Src) : Option Bool :=
  (grng 0 (2 : Int)).bind fun l2 => lend (nforR (nb_law_0) l2 s) (fun w170 => (glt [(1 : Int), (2 : Int), (3 : Int), (4 : Int)]).bind fun _ => (nmp (fun x183 => (n_count_four_squares x183).bind fun c184 => some c184) [(1 : Int), (2 : Int), (3 : Int), (4 : Int)]).bind fun ys185 => some ((eqL ieq) ys185 [(8 : Int), (24 : Int), (32 : Int), (24 : Int)])) (fun r => r)
theorem t_law (s : Src) (h : n_law s = some true) : ∃ ρ', b_law (startL 18 s) = some (.rt (.bool true) ρ') := by
  refine law_ok (n := n_law s) ?_ h
  show TK [.un, .src s, .un, .un, .un, .un, .un, .un, .un, .un, .un, .un, .un, .un, .un, .un, .un, .un] b_law (n_law s) (JR PyData.bool)
  unfold n_law
  refine s_for ?_
  refine x_rng1 ?_
  refine x_cons ?_
  refine x_c ?_
  refine c_nx ?_
  refine x_nil ?_
  refine c_rng1 ?_
  intro l2
  refine c_forR (I := fun (s3 : Src) ρ => (∃ j4 j5 j6 j7 j8 j9 j10 j11 j12 j13 j14 j15 : Sl, ρ = [.un, .src s3, j4, j5, j6, j7, j8, j9, j10, j11, j12, j13, j14, j15, .un, .un, .un, .un])) (J' := JR PyData.bool) (ea := PyData.int) ?_ ?_ ?_ ?_
  · exact ⟨_, _, _, _, _, _, _, _, _, _, _, _, rfl⟩
  · rintro lap16 s3 ρ ⟨j4, j5, j6, j7, j8, j9, j10, j11, j12, j13, j14, j15, rfl⟩
    unfold nb_law_0
    refine g_ok rfl ?_
    refine s_set ?_
    refine x_op ?_
    refine x_c ?_
    refine c_nx ?_
    refine x_callS rfl ?_
    refine x_cons ?_
    refine x_if ?_
    refine x_tst ?_
    refine x_op ?_
    refine x_v rfl ?_
    refine c_nx ?_
    refine x_c ?_
    refine c_ok (eq_ok qI) ?_
    refine c_tst ?_
    refine c_ifV (e := PyData.int) (u := (370 : Int)) (v := (60 : Int)) ?_ ?_ ?_
    · refine x_c ?_
      exact c_fin ⟨rfl, rfl⟩
    · refine x_c ?_
      exact c_fin ⟨rfl, rfl⟩
    refine c_nx ?_
    refine x_nil ?_
    refine c_callS (e := PyData.int) (R := fun s169 => [.un, .src s169, .v (PyData.int lap16), j5, j6, j7, j8, j9, j10, j11, j12, j13, j14, j15, .un, .un, .un, .un]) rfl (t_law_pick) (fun _ => rfl) ?_
    intro c17
    refine c_ok rfl ?_
    refine c_letC (e := PyData.int) ?_
    intro n_18
    refine c_go rfl ?_
    refine s_set ?_
    refine x_asL ?_
    refine x_comp ?_
    refine x_rng1 ?_
    refine x_cons ?_
    refine x_op ?_
    refine x_v rfl ?_
    refine c_nx ?_
    refine x_c ?_
    refine c_ok rfl ?_
    refine c_nx ?_
    refine x_nil ?_
    refine c_rng1 ?_
    intro l19
    refine c_map (ea := PyData.int) (eb := PyData.int) (ρw := [.un, .src c17.2, .v (PyData.int lap16), .v (PyData.int n_18), j6, j7, j8, j9, j10, j11, j12, j13, j14, j15, .un, .un, .un, .un]) (R := fun x20 => [.un, .src c17.2, .v (PyData.int lap16), .v (PyData.int n_18), j6, j7, j8, j9, j10, j11, j12, j13, j14, j15, .v (PyData.int x20), .un, .un, .un]) rfl (fun _ => rfl) ?_ (fun _ => rfl) ?_
    · intro x20
      refine x_call ?_
      refine x_cons ?_
      refine x_v rfl ?_
      refine c_nx ?_
      refine x_nil ?_
      refine c_bd (e := PyData.int) (t_law_two) ?_
      intro c21
      exact c_fin ⟨rfl, rfl⟩
    intro ys22
    refine c_eL ?_
    refine c_go rfl ?_
    refine s_if ?_
    refine x_tst ?_
    refine x_op ?_
    refine x_asL ?_
    refine x_comp ?_
    refine x_seq ?_
    refine x_asL ?_
    refine x_slLe ?_
    refine x_callS rfl ?_
    refine x_cons ?_
    refine x_asL ?_
    refine x_lr2 ?_
    refine x_c ?_
    refine c_nx ?_
    refine x_op ?_
    refine x_v rfl ?_
    refine c_nx ?_
    refine x_c ?_
    refine c_ok rfl ?_
    refine c_lr2 ?_
    intro l23
    refine c_eL ?_
    refine c_nx ?_
    refine x_nil ?_
    refine c_callS (e := (eL PyData.int)) (R := fun s168 => [.un, .src s168, .v (PyData.int lap16), .v (PyData.int n_18), .v ((eL PyData.int) ys22), j7, j8, j9, j10, j11, j12, j13, j14, j15, .un, .un, .un, .un]) rfl (t_law_mixed qI (by decide)) (fun _ => rfl) ?_
    intro c24
    refine c_nx ?_
    refine x_oNn ?_
    refine c_nx ?_
    refine x_oSm ?_
    refine x_c ?_
    refine c_oSm ?_
    refine c_slLBe ?_
    intro r25
    refine c_eL ?_
    refine c_seqL ?_
    refine c_comp (ea := PyData.int) (eb := PyData.int) (ρw := [.un, .src c24.2, .v (PyData.int lap16), .v (PyData.int n_18), .v ((eL PyData.int) ys22), j7, j8, j9, j10, j11, j12, j13, j14, j15, .un, .un, .un, .un]) (R := fun x26 => [.un, .src c24.2, .v (PyData.int lap16), .v (PyData.int n_18), .v ((eL PyData.int) ys22), j7, j8, j9, j10, j11, j12, j13, j14, j15, .v (PyData.int x26), .un, .un, .un]) rfl (fun _ => rfl) ?_ ?_ (fun _ => rfl) ?_
    · intro x26
      refine x_tst ?_
      refine x_op ?_
      refine x_call ?_
      refine x_cons ?_
      refine x_v rfl ?_
      refine c_nx ?_
      refine x_nil ?_
      refine c_bd (e := PyData.int) (t_count_ways) ?_
      intro c166
      refine c_nx ?_
      refine x_ixv rfl ?_
      refine x_v rfl ?_
      refine c_ixv rfl ?_
      refine c_bd (e := PyData.int) gixL_ok ?_
      intro c167
      refine c_ok (ne_ok qI) ?_
      refine c_tst ?_
      exact c_fin ⟨rfl, rfl⟩
    · intro x26
      refine x_v rfl ?_
      exact c_fin ⟨rfl, rfl⟩
    intro ys27
    refine c_eL ?_
    refine c_nx ?_
    refine x_asL ?_
    refine x_lst ?_
    refine x_nil ?_
    refine c_len rfl ?_
    refine c_disp (e := PyData.int) (l := ([] : List Int)) rfl ?_
    refine c_eL ?_
    refine c_ok (neNil_ok qI (by decide)) ?_
    refine c_tst ?_
    refine c_sif ?_ ?_
    · refine s_retS ?_
      refine s_ret ?_
      refine x_c ?_
      refine c_retL ?_
      exact c_ret
    · refine s_nilL ?_
      refine s_set ?_
      refine x_r1e ?_
      refine x_asL ?_
      refine x_comp ?_
      refine x_rng1 ?_
      refine x_cons ?_
      refine x_op ?_
      refine x_v rfl ?_
      refine c_nx ?_
      refine x_c ?_
      refine c_ok rfl ?_
      refine c_nx ?_
      refine x_nil ?_
      refine c_rng1 ?_
      intro l28
      refine c_map (ea := PyData.int) (eb := PyData.int) (ρw := [.un, .src c24.2, .v (PyData.int lap16), .v (PyData.int n_18), .v ((eL PyData.int) ys22), j7, j8, j9, j10, j11, j12, j13, j14, j15, .un, .un, .un, .un]) (R := fun x29 => [.un, .src c24.2, .v (PyData.int lap16), .v (PyData.int n_18), .v ((eL PyData.int) ys22), j7, j8, j9, j10, j11, j12, j13, j14, j15, .v (PyData.int x29), .un, .un, .un]) rfl (fun _ => rfl) ?_ (fun _ => rfl) ?_
      · intro x29
        refine x_op ?_
        refine x_ixv rfl ?_
        refine x_v rfl ?_
        refine c_ixv rfl ?_
        refine c_bd (e := PyData.int) gixL_ok ?_
        intro c30
        refine c_nx ?_
        refine x_ixv rfl ?_
        refine x_op ?_
        refine x_v rfl ?_
        refine c_nx ?_
        refine x_v rfl ?_
        refine c_ok rfl ?_
        refine c_ixv rfl ?_
        refine c_bd (e := PyData.int) gixL_ok ?_
        intro c31
        refine c_bd (e := PyData.int) gmul_ok ?_
        intro c32
        exact c_fin ⟨rfl, rfl⟩
      intro ys33
      refine c_eL ?_
      refine c_ok sumL ?_
      refine c_go rfl ?_
      refine s_if ?_
      refine x_tst ?_
      refine x_rep2 ?_
      refine x_val ?_
      refine x_call ?_
      refine x_cons ?_
      refine x_v rfl ?_
      refine c_nx ?_
      refine x_nil ?_
      refine c_bd (e := PyData.int) (t_count_four_squares) ?_
      intro c34
      refine c_mp ?_
      refine c_rep3 rfl ?_
      refine x_rd rfl ?_
      refine c_rep4 (v := false) qI rfl ?_
      refine c_tst ?_
      refine c_sif ?_ ?_
      · refine s_retS ?_
        refine s_ret ?_
        refine x_c ?_
        refine c_retL ?_
        exact c_ret
      · refine s_nilL ?_
        refine s_set ?_
        refine x_r1e ?_
        refine x_asL ?_
        refine x_comp ?_
        refine x_rng3 ?_
        refine x_cons ?_
        refine x_c ?_
        refine c_nx ?_
        refine x_cons ?_
        refine x_op ?_
        refine x_v rfl ?_
        refine c_nx ?_
        refine x_c ?_
        refine c_ok rfl ?_
        refine c_nx ?_
        refine x_cons ?_
        refine x_c ?_
        refine c_nx ?_
        refine x_nil ?_
        refine c_rng3 ?_
        intro l35
        refine c_comp (ea := PyData.int) (eb := PyData.int) (ρw := [.un, .src c24.2, .v (PyData.int lap16), .v (PyData.int n_18), .v ((eL PyData.int) ys22), .v (PyData.int ys33.sum), j8, j9, j10, j11, j12, j13, j14, j15, .un, .un, .un, .un]) (R := fun x36 => [.un, .src c24.2, .v (PyData.int lap16), .v (PyData.int n_18), .v ((eL PyData.int) ys22), .v (PyData.int ys33.sum), j8, j9, j10, j11, j12, j13, j14, j15, .un, .v (PyData.int x36), .un, .un]) rfl (fun _ => rfl) ?_ ?_ (fun _ => rfl) ?_
        · intro x36
          refine x_tst ?_
          refine x_op ?_
          refine x_op ?_
          refine x_r1v rfl ?_
          refine c_ok rfl ?_
          refine c_nx ?_
          refine x_v rfl ?_
          refine c_bd (e := PyData.int) gmod_ok ?_
          intro c165
          refine c_nx ?_
          refine x_c ?_
          refine c_ok (eq_ok qI) ?_
          refine c_tst ?_
          exact c_fin ⟨rfl, rfl⟩
        · intro x36
          refine x_v rfl ?_
          exact c_fin ⟨rfl, rfl⟩
        intro ys37
        refine c_eL ?_
        refine c_ok sumL ?_
        refine c_go rfl ?_
        refine s_if ?_
        refine x_tst ?_
        refine x_rep2 ?_
        refine x_val ?_
        refine x_asL ?_
        refine x_lst ?_
        refine x_cons ?_
        refine x_call ?_
        refine x_cons ?_
        refine x_v rfl ?_
        refine c_nx ?_
        refine x_nil ?_
        refine c_bd (e := PyData.int) (t_odd_divisor_sum) ?_
        intro c38
        refine c_nx ?_
        refine x_cons ?_
        refine x_call ?_
        refine x_cons ?_
        refine x_v rfl ?_
        refine c_nx ?_
        refine x_nil ?_
        refine c_bd (e := PyData.int) (t_count_fours) ?_
        intro c39
        refine c_nx ?_
        refine x_nil ?_
        refine c_len rfl ?_
        refine c_disp (e := PyData.int) (l := [c38, c39]) rfl ?_
        refine c_eL ?_
        refine c_mp ?_
        refine c_rep3 rfl ?_
        refine x_val ?_
        refine x_asL ?_
        refine x_lst ?_
        refine x_cons ?_
        refine x_v rfl ?_
        refine c_nx ?_
        refine x_cons ?_
        refine x_op ?_
        refine x_c ?_
        refine c_nx ?_
        refine x_v rfl ?_
        refine c_bd (e := PyData.int) gmul_ok ?_
        intro c40
        refine c_nx ?_
        refine x_nil ?_
        refine c_len rfl ?_
        refine c_disp (e := PyData.int) (l := [ys37.sum, c40]) rfl ?_
        refine c_eL ?_
        refine c_mp ?_
        refine c_rep4 (v := false) (qL qI) rfl ?_
        refine c_tst ?_
        refine c_sif ?_ ?_
        · refine s_retS ?_
          refine s_ret ?_
          refine x_c ?_
          refine c_retL ?_
          exact c_ret
        · refine s_nilL ?_
          refine s_if ?_
          refine x_tst ?_
          refine x_op ?_
          refine x_call ?_
          refine x_cons ?_
          refine x_v rfl ?_
          refine c_nx ?_
          refine x_nil ?_
          refine c_bd (e := PyData.int) (t_count_fours) ?_
          intro c41
          refine c_nx ?_
          refine x_if ?_
          refine x_tst ?_
          refine x_op ?_
          refine x_op ?_
          refine x_op ?_
          refine x_v rfl ?_
          refine c_nx ?_
          refine x_c ?_
          refine c_bd (e := PyData.int) gdiv_ok ?_
          intro c42
          refine c_nx ?_
          refine x_c ?_
          refine c_bd (e := PyData.int) gmul_ok ?_
          intro c43
          refine c_nx ?_
          refine x_v rfl ?_
          refine c_ok (eq_ok qI) ?_
          refine c_tst ?_
          refine c_ifO (e := PyData.int) (R := fun _ => [.un, .src c24.2, .v (PyData.int lap16), .v (PyData.int n_18), .v ((eL PyData.int) ys22), .v (PyData.int ys33.sum), .v (PyData.int ys37.sum), j9, j10, j11, j12, j13, j14, j15, .un, .un, .un, .un]) ?_ ?_ ?_
          · refine x_call ?_
            refine x_cons ?_
            refine x_v rfl ?_
            refine c_nx ?_
            refine x_nil ?_
            refine c_bd (e := PyData.int) (t_count_four_squares) ?_
            intro c44
            exact c_fin ⟨rfl, rfl⟩
          · refine x_op ?_
            refine x_c ?_
            refine c_nx ?_
            refine x_call ?_
            refine x_cons ?_
            refine x_v rfl ?_
            refine c_nx ?_
            refine x_nil ?_
            refine c_bd (e := PyData.int) (t_count_four_squares) ?_
            intro c45
            refine c_bd (e := PyData.int) gmul_ok ?_
            intro c46
            exact c_fin ⟨rfl, rfl⟩
          intro w47
          refine c_ok (ne_ok qI) ?_
          refine c_tst ?_
          refine c_sif ?_ ?_
          · refine s_retS ?_
            refine s_ret ?_
            refine x_c ?_
            refine c_retL ?_
            exact c_ret
          · refine s_nilL ?_
            refine s_set ?_
            refine x_op ?_
            refine x_c ?_
            refine c_nx ?_
            refine x_callS rfl ?_
            refine x_cons ?_
            refine x_op ?_
            refine x_c ?_
            refine c_nx ?_
            refine x_v rfl ?_
            refine c_bd (e := PyData.int) gdiv_ok ?_
            intro c48
            refine c_nx ?_
            refine x_nil ?_
            refine c_callS (e := PyData.int) (R := fun s164 => [.un, .src s164, .v (PyData.int lap16), .v (PyData.int n_18), .v ((eL PyData.int) ys22), .v (PyData.int ys33.sum), .v (PyData.int ys37.sum), j9, j10, j11, j12, j13, j14, j15, .un, .un, .un, .un]) rfl (t_law_pick) (fun _ => rfl) ?_
            intro c49
            refine c_ok rfl ?_
            refine c_letC (e := PyData.int) ?_
            intro m50
            refine c_go rfl ?_
            refine s_if ?_
            refine x_tst ?_
            refine x_op ?_
            refine x_call ?_
            refine x_cons ?_
            refine x_v rfl ?_
            refine c_nx ?_
            refine x_cons ?_
            refine x_v rfl ?_
            refine c_nx ?_
            refine x_nil ?_
            refine c_bd (e := PyData.int) (t_law_common) ?_
            intro c51
            refine c_nx ?_
            refine x_c ?_
            refine c_ok (eq_ok qI) ?_
            refine c_tst ?_
            refine c_sif ?_ ?_
            · refine s_assoc ?_
              refine s_if ?_
              refine x_tst ?_
              refine x_op ?_
              refine x_op ?_
              refine x_c ?_
              refine c_nx ?_
              refine x_call ?_
              refine x_cons ?_
              refine x_op ?_
              refine x_v rfl ?_
              refine c_nx ?_
              refine x_v rfl ?_
              refine c_bd (e := PyData.int) gmul_ok ?_
              intro c52
              refine c_nx ?_
              refine x_nil ?_
              refine c_bd (e := PyData.int) (t_count_four_squares) ?_
              intro c53
              refine c_bd (e := PyData.int) gmul_ok ?_
              intro c54
              refine c_nx ?_
              refine x_op ?_
              refine x_call ?_
              refine x_cons ?_
              refine x_v rfl ?_
              refine c_nx ?_
              refine x_nil ?_
              refine c_bd (e := PyData.int) (t_count_four_squares) ?_
              intro c55
              refine c_nx ?_
              refine x_call ?_
              refine x_cons ?_
              refine x_v rfl ?_
              refine c_nx ?_
              refine x_nil ?_
              refine c_bd (e := PyData.int) (t_count_four_squares) ?_
              intro c56
              refine c_bd (e := PyData.int) gmul_ok ?_
              intro c57
              refine c_ok (ne_ok qI) ?_
              refine c_tst ?_
              refine c_sif ?_ ?_
              · refine s_retS ?_
                refine s_ret ?_
                refine x_c ?_
                refine c_retL ?_
                exact c_ret
              · refine s_nilL ?_
                refine s_if ?_
                refine x_tst ?_
                refine x_op ?_
                refine x_op ?_
                refine x_c ?_
                refine c_nx ?_
                refine x_call ?_
                refine x_cons ?_
                refine x_op ?_
                refine x_v rfl ?_
                refine c_nx ?_
                refine x_v rfl ?_
                refine c_bd (e := PyData.int) gmul_ok ?_
                intro c58
                refine c_nx ?_
                refine x_nil ?_
                refine c_bd (e := PyData.int) (t_count_fours) ?_
                intro c59
                refine c_bd (e := PyData.int) gmul_ok ?_
                intro c60
                refine c_nx ?_
                refine x_op ?_
                refine x_call ?_
                refine x_cons ?_
                refine x_v rfl ?_
                refine c_nx ?_
                refine x_nil ?_
                refine c_bd (e := PyData.int) (t_count_fours) ?_
                intro c61
                refine c_nx ?_
                refine x_call ?_
                refine x_cons ?_
                refine x_v rfl ?_
                refine c_nx ?_
                refine x_nil ?_
                refine c_bd (e := PyData.int) (t_count_fours) ?_
                intro c62
                refine c_bd (e := PyData.int) gmul_ok ?_
                intro c63
                refine c_ok (ne_ok qI) ?_
                refine c_tst ?_
                refine c_sif ?_ ?_
                · refine s_retS ?_
                  refine s_ret ?_
                  refine x_c ?_
                  refine c_retL ?_
                  exact c_ret
                · refine s_nilL ?_
                  refine s_par ?_
                  refine x_call ?_
                  refine x_cons ?_
                  refine x_v rfl ?_
                  refine c_nx ?_
                  refine x_nil ?_
                  refine c_bd (e := (eO (eS PyData.int))) (t_any_four_squares) ?_
                  intro c64
                  refine c_nx ?_
                  refine x_call ?_
                  refine x_cons ?_
                  refine x_v rfl ?_
                  refine c_nx ?_
                  refine x_nil ?_
                  refine c_bd (e := (eO (eS PyData.int))) (t_any_four_squares) ?_
                  intro c65
                  refine c_go rfl ?_
                  refine s_set ?_
                  refine x_asL ?_
                  refine x_comp ?_
                  refine x_rng1 ?_
                  refine x_cons ?_
                  refine x_c ?_
                  refine c_nx ?_
                  refine x_nil ?_
                  refine c_rng1 ?_
                  intro l66
                  refine c_mapS (ea := PyData.int) (eb := PyData.int) (ρw := fun s68 => [.un, .src s68, .v (PyData.int lap16), .v (PyData.int n_18), .v ((eL PyData.int) ys22), .v (PyData.int ys33.sum), .v (PyData.int ys37.sum), .v (PyData.int m50), .v ((eO (eS PyData.int)) c64), .v ((eO (eS PyData.int)) c65), j12, j13, j14, j15, .un, .un, .un, .un]) (R := fun x67 s68 => [.un, .src s68, .v (PyData.int lap16), .v (PyData.int n_18), .v ((eL PyData.int) ys22), .v (PyData.int ys33.sum), .v (PyData.int ys37.sum), .v (PyData.int m50), .v ((eO (eS PyData.int)) c64), .v ((eO (eS PyData.int)) c65), j12, j13, j14, j15, .v (PyData.int x67), .un, .un, .un]) rfl (fun _ _ => rfl) ?_ (fun _ _ => rfl) ?_
                  · intro x67 s68
                    refine x_callS rfl ?_
                    refine x_cons ?_
                    refine x_asL ?_
                    refine x_lst ?_
                    refine x_cons ?_
                    refine x_c ?_
                    refine c_nx ?_
                    refine x_cons ?_
                    refine x_op ?_
                    refine x_c ?_
                    refine c_nx ?_
                    refine x_c ?_
                    refine c_ok rfl ?_
                    refine c_nx ?_
                    refine x_nil ?_
                    refine c_len rfl ?_
                    refine c_disp (e := PyData.int) (l := [(2 : Int), ((0 : Int) - (2 : Int))]) rfl ?_
                    refine c_eL ?_
                    refine c_nx ?_
                    refine x_nil ?_
                    refine c_callS (e := PyData.int) (R := fun s70 => [.un, .src s70, .v (PyData.int lap16), .v (PyData.int n_18), .v ((eL PyData.int) ys22), .v (PyData.int ys33.sum), .v (PyData.int ys37.sum), .v (PyData.int m50), .v ((eO (eS PyData.int)) c64), .v ((eO (eS PyData.int)) c65), j12, j13, j14, j15, .v (PyData.int x67), .un, .un, .un]) rfl (t_law_of) (fun _ => rfl) ?_
                    intro c69
                    exact c_fin ⟨rfl, rfl⟩
                  intro ys71
                  refine c_eL ?_
                  refine c_go rfl ?_
                  refine s_set ?_
                  refine x_r1e ?_
                  refine x_asL ?_
                  refine x_comp ?_
                  refine x_zip ?_
                  refine x_cons ?_
                  refine x_callS rfl ?_
                  refine x_cons ?_
                  refine x_asL ?_
                  refine x_r1Lv rfl ?_
                  refine c_unw ?_
                  intro u72
                  refine c_bd (e := (List.map PyData.int)) glnS_ok ?_
                  intro c73
                  refine c_eL ?_
                  refine c_nx ?_
                  refine x_nil ?_
                  refine c_callS (e := (eL PyData.int)) (R := fun s113 => [.un, .src s113, .v (PyData.int lap16), .v (PyData.int n_18), .v ((eL PyData.int) ys22), .v (PyData.int ys33.sum), .v (PyData.int ys37.sum), .v (PyData.int m50), .v ((eO (eS PyData.int)) c64), .v ((eO (eS PyData.int)) c65), .v ((eL PyData.int) ys71.1), j13, j14, j15, .un, .un, .un, .un]) rfl (t_law_mixed qI (by decide)) (fun _ => rfl) ?_
                  intro c74
                  refine c_nx ?_
                  refine x_cons ?_
                  refine x_asL ?_
                  refine x_slL rfl ?_
                  refine x_oNn ?_
                  refine c_nx ?_
                  refine x_oSm ?_
                  refine x_c ?_
                  refine c_oSm ?_
                  refine c_slLB rfl ?_
                  intro r75
                  refine c_eL ?_
                  refine c_nx ?_
                  refine x_nil ?_
                  refine c_zipL ?_
                  refine c_map (ea := (eP PyData.int PyData.int)) (eb := PyData.int) (ρw := [.un, .src c74.2, .v (PyData.int lap16), .v (PyData.int n_18), .v ((eL PyData.int) ys22), .v (PyData.int ys33.sum), .v (PyData.int ys37.sum), .v (PyData.int m50), .v ((eO (eS PyData.int)) c64), .v ((eO (eS PyData.int)) c65), .v ((eL PyData.int) ys71.1), j13, j14, j15, .un, .un, .un, .un]) (R := fun x76 => [.un, .src c74.2, .v (PyData.int lap16), .v (PyData.int n_18), .v ((eL PyData.int) ys22), .v (PyData.int ys33.sum), .v (PyData.int ys37.sum), .v (PyData.int m50), .v ((eO (eS PyData.int)) c64), .v ((eO (eS PyData.int)) c65), .v ((eL PyData.int) ys71.1), j13, j14, j15, .un, .un, .v (PyData.int x76.1), .v (PyData.int x76.2)]) rfl (fun _ => rfl) ?_ (fun _ => rfl) ?_
                  · intro x76
                    refine x_op ?_
                    refine x_v rfl ?_
                    refine c_nx ?_
                    refine x_v rfl ?_
                    refine c_bd (e := PyData.int) gmul_ok ?_
                    intro c77
                    exact c_fin ⟨rfl, rfl⟩
                  intro ys78
                  refine c_eL ?_
                  refine c_ok tupL ?_
                  refine c_go rfl ?_
                  refine s_set ?_
                  refine x_r1e ?_
                  refine x_asL ?_
                  refine x_comp ?_
                  refine x_zip ?_
                  refine x_cons ?_
                  refine x_callS rfl ?_
                  refine x_cons ?_
                  refine x_asL ?_
                  refine x_r1Lv rfl ?_
                  refine c_unw ?_
                  intro u79
                  refine c_bd (e := (List.map PyData.int)) glnS_ok ?_
                  intro c80
                  refine c_eL ?_
                  refine c_nx ?_
                  refine x_nil ?_
                  refine c_callS (e := (eL PyData.int)) (R := fun s112 => [.un, .src s112, .v (PyData.int lap16), .v (PyData.int n_18), .v ((eL PyData.int) ys22), .v (PyData.int ys33.sum), .v (PyData.int ys37.sum), .v (PyData.int m50), .v ((eO (eS PyData.int)) c64), .v ((eO (eS PyData.int)) c65), .v ((eL PyData.int) ys71.1), .v ((eS PyData.int) ys78), j14, j15, .un, .un, .un, .un]) rfl (t_law_mixed qI (by decide)) (fun _ => rfl) ?_
                  intro c81
                  refine c_nx ?_
                  refine x_cons ?_
                  refine x_asL ?_
                  refine x_slL rfl ?_
                  refine x_oSm ?_
                  refine x_c ?_
                  refine c_oSm ?_
                  refine c_nx ?_
                  refine x_oNn ?_
                  refine c_slLB rfl ?_
                  intro r82
                  refine c_eL ?_
                  refine c_nx ?_
                  refine x_nil ?_
                  refine c_zipL ?_
                  refine c_map (ea := (eP PyData.int PyData.int)) (eb := PyData.int) (ρw := [.un, .src c81.2, .v (PyData.int lap16), .v (PyData.int n_18), .v ((eL PyData.int) ys22), .v (PyData.int ys33.sum), .v (PyData.int ys37.sum), .v (PyData.int m50), .v ((eO (eS PyData.int)) c64), .v ((eO (eS PyData.int)) c65), .v ((eL PyData.int) ys71.1), .v ((eS PyData.int) ys78), j14, j15, .un, .un, .un, .un]) (R := fun x83 => [.un, .src c81.2, .v (PyData.int lap16), .v (PyData.int n_18), .v ((eL PyData.int) ys22), .v (PyData.int ys33.sum), .v (PyData.int ys37.sum), .v (PyData.int m50), .v ((eO (eS PyData.int)) c64), .v ((eO (eS PyData.int)) c65), .v ((eL PyData.int) ys71.1), .v ((eS PyData.int) ys78), j14, j15, .un, .un, .v (PyData.int x83.1), .v (PyData.int x83.2)]) rfl (fun _ => rfl) ?_ (fun _ => rfl) ?_
                  · intro x83
                    refine x_op ?_
                    refine x_v rfl ?_
                    refine c_nx ?_
                    refine x_v rfl ?_
                    refine c_bd (e := PyData.int) gmul_ok ?_
                    intro c84
                    exact c_fin ⟨rfl, rfl⟩
                  intro ys85
                  refine c_eL ?_
                  refine c_ok tupL ?_
                  refine c_go rfl ?_
                  refine s_set ?_
                  refine x_call ?_
                  refine x_cons ?_
                  refine x_v rfl ?_
                  refine c_nx ?_
                  refine x_cons ?_
                  refine x_v rfl ?_
                  refine c_nx ?_
                  refine x_nil ?_
                  refine c_bd (e := (eS PyData.int)) (t_four_product) ?_
                  intro c86
                  refine c_go rfl ?_
                  refine s_if ?_
                  refine x_or ?_
                  refine x_tst ?_
                  refine x_rep2 ?_
                  refine x_rd rfl ?_
                  refine c_rep3 rfl ?_
                  refine x_val ?_
                  refine x_call ?_
                  refine x_cons ?_
                  refine x_v rfl ?_
                  refine c_nx ?_
                  refine x_cons ?_
                  refine x_v rfl ?_
                  refine c_nx ?_
                  refine x_nil ?_
                  refine c_bd (e := (eS PyData.int)) (t_law_times) ?_
                  intro c87
                  refine c_mp ?_
                  refine c_rep4 (v := false) (qS qI) rfl ?_
                  refine c_tst ?_
                  refine c_orO (e := id) (R := fun _ => [.un, .src c81.2, .v (PyData.int lap16), .v (PyData.int n_18), .v ((eL PyData.int) ys22), .v (PyData.int ys33.sum), .v (PyData.int ys37.sum), .v (PyData.int m50), .v ((eO (eS PyData.int)) c64), .v ((eO (eS PyData.int)) c65), .v ((eL PyData.int) ys71.1), .v ((eS PyData.int) ys78), .v ((eS PyData.int) ys85), .v ((eS PyData.int) c86), .un, .un, .un, .un]) (a0 := true) (fun h => ⟨rfl, rfl⟩) ?_ ?_
                  · refine x_tst ?_
                    refine x_op ?_
                    refine x_asL ?_
                    refine x_comp ?_
                    refine x_seq ?_
                    refine x_v rfl ?_
                    refine c_seqS ?_
                    refine c_comp (ea := PyData.int) (eb := PyData.int) (ρw := [.un, .src c81.2, .v (PyData.int lap16), .v (PyData.int n_18), .v ((eL PyData.int) ys22), .v (PyData.int ys33.sum), .v (PyData.int ys37.sum), .v (PyData.int m50), .v ((eO (eS PyData.int)) c64), .v ((eO (eS PyData.int)) c65), .v ((eL PyData.int) ys71.1), .v ((eS PyData.int) ys78), .v ((eS PyData.int) ys85), .v ((eS PyData.int) c86), .un, .un, .un, .un]) (R := fun x88 => [.un, .src c81.2, .v (PyData.int lap16), .v (PyData.int n_18), .v ((eL PyData.int) ys22), .v (PyData.int ys33.sum), .v (PyData.int ys37.sum), .v (PyData.int m50), .v ((eO (eS PyData.int)) c64), .v ((eO (eS PyData.int)) c65), .v ((eL PyData.int) ys71.1), .v ((eS PyData.int) ys78), .v ((eS PyData.int) ys85), .v ((eS PyData.int) c86), .un, .un, .v (PyData.int x88), .un]) rfl (fun _ => rfl) ?_ ?_ (fun _ => rfl) ?_
                    · intro x88
                      refine x_tst ?_
                      refine x_op ?_
                      refine x_op ?_
                      refine x_op ?_
                      refine x_v rfl ?_
                      refine c_nx ?_
                      refine x_c ?_
                      refine c_bd (e := PyData.int) gdiv_ok ?_
                      intro c90
                      refine c_nx ?_
                      refine x_c ?_
                      refine c_bd (e := PyData.int) gmul_ok ?_
                      intro c91
                      refine c_nx ?_
                      refine x_v rfl ?_
                      refine c_ok (ne_ok qI) ?_
                      refine c_tst ?_
                      exact c_fin ⟨rfl, rfl⟩
                    · intro x88
                      refine x_v rfl ?_
                      exact c_fin ⟨rfl, rfl⟩
                    intro ys89
                    refine c_eL ?_
                    refine c_nx ?_
                    refine x_asL ?_
                    refine x_lst ?_
                    refine x_nil ?_
                    refine c_len rfl ?_
                    refine c_disp (e := PyData.int) (l := ([] : List Int)) rfl ?_
                    refine c_eL ?_
                    refine c_ok (neNil_ok qI (by decide)) ?_
                    refine c_tst ?_
                    exact c_fin ⟨rfl, rfl⟩
                  intro b92
                  refine c_sif ?_ ?_
                  · refine s_retS ?_
                    refine s_ret ?_
                    refine x_c ?_
                    refine c_retL ?_
                    exact c_ret
                  · refine s_nilL ?_
                    refine s_if ?_
                    refine x_or ?_
                    refine x_tst ?_
                    refine x_op ?_
                    refine x_call ?_
                    refine x_cons ?_
                    refine x_v rfl ?_
                    refine c_nx ?_
                    refine x_nil ?_
                    refine c_bd (e := PyData.int) (t_four_norm) ?_
                    intro c93
                    refine c_nx ?_
                    refine x_op ?_
                    refine x_v rfl ?_
                    refine c_nx ?_
                    refine x_v rfl ?_
                    refine c_bd (e := PyData.int) gmul_ok ?_
                    intro c94
                    refine c_ok (ne_ok qI) ?_
                    refine c_tst ?_
                    refine c_orO (e := id) (R := fun _ => [.un, .src c81.2, .v (PyData.int lap16), .v (PyData.int n_18), .v ((eL PyData.int) ys22), .v (PyData.int ys33.sum), .v (PyData.int ys37.sum), .v (PyData.int m50), .v ((eO (eS PyData.int)) c64), .v ((eO (eS PyData.int)) c65), .v ((eL PyData.int) ys71.1), .v ((eS PyData.int) ys78), .v ((eS PyData.int) ys85), .v ((eS PyData.int) c86), .un, .un, .un, .un]) (a0 := true) (fun h => ⟨rfl, rfl⟩) ?_ ?_
                    · refine x_tst ?_
                      refine x_op ?_
                      refine x_r1e ?_
                      refine x_asL ?_
                      refine x_comp ?_
                      refine x_seq ?_
                      refine x_v rfl ?_
                      refine c_seqS ?_
                      refine c_map (ea := PyData.int) (eb := PyData.int) (ρw := [.un, .src c81.2, .v (PyData.int lap16), .v (PyData.int n_18), .v ((eL PyData.int) ys22), .v (PyData.int ys33.sum), .v (PyData.int ys37.sum), .v (PyData.int m50), .v ((eO (eS PyData.int)) c64), .v ((eO (eS PyData.int)) c65), .v ((eL PyData.int) ys71.1), .v ((eS PyData.int) ys78), .v ((eS PyData.int) ys85), .v ((eS PyData.int) c86), .un, .un, .un, .un]) (R := fun x95 => [.un, .src c81.2, .v (PyData.int lap16), .v (PyData.int n_18), .v ((eL PyData.int) ys22), .v (PyData.int ys33.sum), .v (PyData.int ys37.sum), .v (PyData.int m50), .v ((eO (eS PyData.int)) c64), .v ((eO (eS PyData.int)) c65), .v ((eL PyData.int) ys71.1), .v ((eS PyData.int) ys78), .v ((eS PyData.int) ys85), .v ((eS PyData.int) c86), .un, .un, .v (PyData.int x95), .un]) rfl (fun _ => rfl) ?_ (fun _ => rfl) ?_
                      · intro x95
                        refine x_op ?_
                        refine x_op ?_
                        refine x_v rfl ?_
                        refine c_nx ?_
                        refine x_c ?_
                        refine c_bd (e := PyData.int) gdiv_ok ?_
                        intro c96
                        refine c_nx ?_
                        refine x_op ?_
                        refine x_v rfl ?_
                        refine c_nx ?_
                        refine x_c ?_
                        refine c_bd (e := PyData.int) gdiv_ok ?_
                        intro c97
                        refine c_bd (e := PyData.int) gmul_ok ?_
                        intro c98
                        exact c_fin ⟨rfl, rfl⟩
                      intro ys99
                      refine c_eL ?_
                      refine c_ok sumL ?_
                      refine c_nx ?_
                      refine x_op ?_
                      refine x_v rfl ?_
                      refine c_nx ?_
                      refine x_v rfl ?_
                      refine c_bd (e := PyData.int) gmul_ok ?_
                      intro c100
                      refine c_ok (ne_ok qI) ?_
                      refine c_tst ?_
                      exact c_fin ⟨rfl, rfl⟩
                    intro b101
                    refine c_sif ?_ ?_
                    · refine s_retS ?_
                      refine s_ret ?_
                      refine x_c ?_
                      refine c_retL ?_
                      exact c_ret
                    · refine s_nilL ?_
                      refine s_last ?_
                      refine s_if ?_
                      refine x_and ?_
                      refine x_tst ?_
                      refine x_op ?_
                      refine x_op ?_
                      refine x_op ?_
                      refine x_v rfl ?_
                      refine c_nx ?_
                      refine x_c ?_
                      refine c_bd (e := PyData.int) gdiv_ok ?_
                      intro c102
                      refine c_nx ?_
                      refine x_c ?_
                      refine c_bd (e := PyData.int) gmul_ok ?_
                      intro c103
                      refine c_nx ?_
                      refine x_v rfl ?_
                      refine c_ok (ne_ok qI) ?_
                      refine c_tst ?_
                      refine c_andO (e := id) (R := fun _ => [.un, .src c81.2, .v (PyData.int lap16), .v (PyData.int n_18), .v ((eL PyData.int) ys22), .v (PyData.int ys33.sum), .v (PyData.int ys37.sum), .v (PyData.int m50), .v ((eO (eS PyData.int)) c64), .v ((eO (eS PyData.int)) c65), .v ((eL PyData.int) ys71.1), .v ((eS PyData.int) ys78), .v ((eS PyData.int) ys85), .v ((eS PyData.int) c86), .un, .un, .un, .un]) (a0 := false) (fun h => ⟨rfl, rfl⟩) ?_ ?_
                      · refine x_tst ?_
                        refine x_op ?_
                        refine x_asL ?_
                        refine x_comp ?_
                        refine x_seq ?_
                        refine x_tup ?_
                        refine x_cons ?_
                        refine x_c ?_
                        refine c_nx ?_
                        refine x_cons ?_
                        refine x_c ?_
                        refine c_nx ?_
                        refine x_cons ?_
                        refine x_c ?_
                        refine c_nx ?_
                        refine x_nil ?_
                        refine c_lenT rfl ?_
                        refine c_re (e := (eS PyData.int)) (a := [(2 : Int), (4 : Int), (8 : Int)]) rfl ?_
                        refine c_seqS ?_
                        refine c_map (ea := PyData.int) (eb := PyData.int) (ρw := [.un, .src c81.2, .v (PyData.int lap16), .v (PyData.int n_18), .v ((eL PyData.int) ys22), .v (PyData.int ys33.sum), .v (PyData.int ys37.sum), .v (PyData.int m50), .v ((eO (eS PyData.int)) c64), .v ((eO (eS PyData.int)) c65), .v ((eL PyData.int) ys71.1), .v ((eS PyData.int) ys78), .v ((eS PyData.int) ys85), .v ((eS PyData.int) c86), .un, .un, .un, .un]) (R := fun x104 => [.un, .src c81.2, .v (PyData.int lap16), .v (PyData.int n_18), .v ((eL PyData.int) ys22), .v (PyData.int ys33.sum), .v (PyData.int ys37.sum), .v (PyData.int m50), .v ((eO (eS PyData.int)) c64), .v ((eO (eS PyData.int)) c65), .v ((eL PyData.int) ys71.1), .v ((eS PyData.int) ys78), .v ((eS PyData.int) ys85), .v ((eS PyData.int) c86), .v (PyData.int x104), .un, .un, .un]) rfl (fun _ => rfl) ?_ (fun _ => rfl) ?_
                        · intro x104
                          refine x_call ?_
                          refine x_cons ?_
                          refine x_op ?_
                          refine x_v rfl ?_
                          refine c_nx ?_
                          refine x_v rfl ?_
                          refine c_bd (e := PyData.int) gmul_ok ?_
                          intro c105
                          refine c_nx ?_
                          refine x_nil ?_
                          refine c_bd (e := PyData.int) (t_count_four_squares) ?_
                          intro c106
                          exact c_fin ⟨rfl, rfl⟩
                        intro ys107
                        refine c_eL ?_
                        refine c_nx ?_
                        refine x_asL ?_
                        refine x_rep ?_
                        refine x_asL ?_
                        refine x_lst ?_
                        refine x_cons ?_
                        refine x_op ?_
                        refine x_c ?_
                        refine c_nx ?_
                        refine x_call ?_
                        refine x_cons ?_
                        refine x_v rfl ?_
                        refine c_nx ?_
                        refine x_nil ?_
                        refine c_bd (e := PyData.int) (t_count_four_squares) ?_
                        intro c108
                        refine c_bd (e := PyData.int) gmul_ok ?_
                        intro c109
                        refine c_nx ?_
                        refine x_nil ?_
                        refine c_len rfl ?_
                        refine c_disp (e := PyData.int) (l := [c109]) rfl ?_
                        refine c_eL ?_
                        refine c_nx ?_
                        refine x_c ?_
                        refine c_repB ?_
                        intro r110
                        refine c_eL ?_
                        refine c_ok (ne_ok (qL qI)) ?_
                        refine c_tst ?_
                        exact c_fin ⟨rfl, rfl⟩
                      intro b111
                      refine c_sif ?_ ?_
                      · refine s_retS ?_
                        refine s_ret ?_
                        refine x_c ?_
                        refine c_retL ?_
                        exact c_ret
                      · refine s_nilL ?_
                        exact s_nil (j_lnx ⟨_, _, _, _, _, _, _, _, _, _, _, _, rfl⟩)
            · refine s_nilL ?_
              refine s_par ?_
              refine x_call ?_
              refine x_cons ?_
              refine x_v rfl ?_
              refine c_nx ?_
              refine x_nil ?_
              refine c_bd (e := (eO (eS PyData.int))) (t_any_four_squares) ?_
              intro c114
              refine c_nx ?_
              refine x_call ?_
              refine x_cons ?_
              refine x_v rfl ?_
              refine c_nx ?_
              refine x_nil ?_
              refine c_bd (e := (eO (eS PyData.int))) (t_any_four_squares) ?_
              intro c115
              refine c_go rfl ?_
              refine s_set ?_
              refine x_asL ?_
              refine x_comp ?_
              refine x_rng1 ?_
              refine x_cons ?_
              refine x_c ?_
              refine c_nx ?_
              refine x_nil ?_
              refine c_rng1 ?_
              intro l116
              refine c_mapS (ea := PyData.int) (eb := PyData.int) (ρw := fun s118 => [.un, .src s118, .v (PyData.int lap16), .v (PyData.int n_18), .v ((eL PyData.int) ys22), .v (PyData.int ys33.sum), .v (PyData.int ys37.sum), .v (PyData.int m50), .v ((eO (eS PyData.int)) c114), .v ((eO (eS PyData.int)) c115), j12, j13, j14, j15, .un, .un, .un, .un]) (R := fun x117 s118 => [.un, .src s118, .v (PyData.int lap16), .v (PyData.int n_18), .v ((eL PyData.int) ys22), .v (PyData.int ys33.sum), .v (PyData.int ys37.sum), .v (PyData.int m50), .v ((eO (eS PyData.int)) c114), .v ((eO (eS PyData.int)) c115), j12, j13, j14, j15, .v (PyData.int x117), .un, .un, .un]) rfl (fun _ _ => rfl) ?_ (fun _ _ => rfl) ?_
              · intro x117 s118
                refine x_callS rfl ?_
                refine x_cons ?_
                refine x_asL ?_
                refine x_lst ?_
                refine x_cons ?_
                refine x_c ?_
                refine c_nx ?_
                refine x_cons ?_
                refine x_op ?_
                refine x_c ?_
                refine c_nx ?_
                refine x_c ?_
                refine c_ok rfl ?_
                refine c_nx ?_
                refine x_nil ?_
                refine c_len rfl ?_
                refine c_disp (e := PyData.int) (l := [(2 : Int), ((0 : Int) - (2 : Int))]) rfl ?_
                refine c_eL ?_
                refine c_nx ?_
                refine x_nil ?_
                refine c_callS (e := PyData.int) (R := fun s120 => [.un, .src s120, .v (PyData.int lap16), .v (PyData.int n_18), .v ((eL PyData.int) ys22), .v (PyData.int ys33.sum), .v (PyData.int ys37.sum), .v (PyData.int m50), .v ((eO (eS PyData.int)) c114), .v ((eO (eS PyData.int)) c115), j12, j13, j14, j15, .v (PyData.int x117), .un, .un, .un]) rfl (t_law_of) (fun _ => rfl) ?_
                intro c119
                exact c_fin ⟨rfl, rfl⟩
              intro ys121
              refine c_eL ?_
              refine c_go rfl ?_
              refine s_set ?_
              refine x_r1e ?_
              refine x_asL ?_
              refine x_comp ?_
              refine x_zip ?_
              refine x_cons ?_
              refine x_callS rfl ?_
              refine x_cons ?_
              refine x_asL ?_
              refine x_r1Lv rfl ?_
              refine c_unw ?_
              intro u122
              refine c_bd (e := (List.map PyData.int)) glnS_ok ?_
              intro c123
              refine c_eL ?_
              refine c_nx ?_
              refine x_nil ?_
              refine c_callS (e := (eL PyData.int)) (R := fun s163 => [.un, .src s163, .v (PyData.int lap16), .v (PyData.int n_18), .v ((eL PyData.int) ys22), .v (PyData.int ys33.sum), .v (PyData.int ys37.sum), .v (PyData.int m50), .v ((eO (eS PyData.int)) c114), .v ((eO (eS PyData.int)) c115), .v ((eL PyData.int) ys121.1), j13, j14, j15, .un, .un, .un, .un]) rfl (t_law_mixed qI (by decide)) (fun _ => rfl) ?_
              intro c124
              refine c_nx ?_
              refine x_cons ?_
              refine x_asL ?_
              refine x_slL rfl ?_
              refine x_oNn ?_
              refine c_nx ?_
              refine x_oSm ?_
              refine x_c ?_
              refine c_oSm ?_
              refine c_slLB rfl ?_
              intro r125
              refine c_eL ?_
              refine c_nx ?_
              refine x_nil ?_
              refine c_zipL ?_
              refine c_map (ea := (eP PyData.int PyData.int)) (eb := PyData.int) (ρw := [.un, .src c124.2, .v (PyData.int lap16), .v (PyData.int n_18), .v ((eL PyData.int) ys22), .v (PyData.int ys33.sum), .v (PyData.int ys37.sum), .v (PyData.int m50), .v ((eO (eS PyData.int)) c114), .v ((eO (eS PyData.int)) c115), .v ((eL PyData.int) ys121.1), j13, j14, j15, .un, .un, .un, .un]) (R := fun x126 => [.un, .src c124.2, .v (PyData.int lap16), .v (PyData.int n_18), .v ((eL PyData.int) ys22), .v (PyData.int ys33.sum), .v (PyData.int ys37.sum), .v (PyData.int m50), .v ((eO (eS PyData.int)) c114), .v ((eO (eS PyData.int)) c115), .v ((eL PyData.int) ys121.1), j13, j14, j15, .un, .un, .v (PyData.int x126.1), .v (PyData.int x126.2)]) rfl (fun _ => rfl) ?_ (fun _ => rfl) ?_
              · intro x126
                refine x_op ?_
                refine x_v rfl ?_
                refine c_nx ?_
                refine x_v rfl ?_
                refine c_bd (e := PyData.int) gmul_ok ?_
                intro c127
                exact c_fin ⟨rfl, rfl⟩
              intro ys128
              refine c_eL ?_
              refine c_ok tupL ?_
              refine c_go rfl ?_
              refine s_set ?_
              refine x_r1e ?_
              refine x_asL ?_
              refine x_comp ?_
              refine x_zip ?_
              refine x_cons ?_
              refine x_callS rfl ?_
              refine x_cons ?_
              refine x_asL ?_
              refine x_r1Lv rfl ?_
              refine c_unw ?_
              intro u129
              refine c_bd (e := (List.map PyData.int)) glnS_ok ?_
              intro c130
              refine c_eL ?_
              refine c_nx ?_
              refine x_nil ?_
              refine c_callS (e := (eL PyData.int)) (R := fun s162 => [.un, .src s162, .v (PyData.int lap16), .v (PyData.int n_18), .v ((eL PyData.int) ys22), .v (PyData.int ys33.sum), .v (PyData.int ys37.sum), .v (PyData.int m50), .v ((eO (eS PyData.int)) c114), .v ((eO (eS PyData.int)) c115), .v ((eL PyData.int) ys121.1), .v ((eS PyData.int) ys128), j14, j15, .un, .un, .un, .un]) rfl (t_law_mixed qI (by decide)) (fun _ => rfl) ?_
              intro c131
              refine c_nx ?_
              refine x_cons ?_
              refine x_asL ?_
              refine x_slL rfl ?_
              refine x_oSm ?_
              refine x_c ?_
              refine c_oSm ?_
              refine c_nx ?_
              refine x_oNn ?_
              refine c_slLB rfl ?_
              intro r132
              refine c_eL ?_
              refine c_nx ?_
              refine x_nil ?_
              refine c_zipL ?_
              refine c_map (ea := (eP PyData.int PyData.int)) (eb := PyData.int) (ρw := [.un, .src c131.2, .v (PyData.int lap16), .v (PyData.int n_18), .v ((eL PyData.int) ys22), .v (PyData.int ys33.sum), .v (PyData.int ys37.sum), .v (PyData.int m50), .v ((eO (eS PyData.int)) c114), .v ((eO (eS PyData.int)) c115), .v ((eL PyData.int) ys121.1), .v ((eS PyData.int) ys128), j14, j15, .un, .un, .un, .un]) (R := fun x133 => [.un, .src c131.2, .v (PyData.int lap16), .v (PyData.int n_18), .v ((eL PyData.int) ys22), .v (PyData.int ys33.sum), .v (PyData.int ys37.sum), .v (PyData.int m50), .v ((eO (eS PyData.int)) c114), .v ((eO (eS PyData.int)) c115), .v ((eL PyData.int) ys121.1), .v ((eS PyData.int) ys128), j14, j15, .un, .un, .v (PyData.int x133.1), .v (PyData.int x133.2)]) rfl (fun _ => rfl) ?_ (fun _ => rfl) ?_
              · intro x133
                refine x_op ?_
                refine x_v rfl ?_
                refine c_nx ?_
                refine x_v rfl ?_
                refine c_bd (e := PyData.int) gmul_ok ?_
                intro c134
                exact c_fin ⟨rfl, rfl⟩
              intro ys135
              refine c_eL ?_
              refine c_ok tupL ?_
              refine c_go rfl ?_
              refine s_set ?_
              refine x_call ?_
              refine x_cons ?_
              refine x_v rfl ?_
              refine c_nx ?_
              refine x_cons ?_
              refine x_v rfl ?_
              refine c_nx ?_
              refine x_nil ?_
              refine c_bd (e := (eS PyData.int)) (t_four_product) ?_
              intro c136
              refine c_go rfl ?_
              refine s_if ?_
              refine x_or ?_
              refine x_tst ?_
              refine x_rep2 ?_
              refine x_rd rfl ?_
              refine c_rep3 rfl ?_
              refine x_val ?_
              refine x_call ?_
              refine x_cons ?_
              refine x_v rfl ?_
              refine c_nx ?_
              refine x_cons ?_
              refine x_v rfl ?_
              refine c_nx ?_
              refine x_nil ?_
              refine c_bd (e := (eS PyData.int)) (t_law_times) ?_
              intro c137
              refine c_mp ?_
              refine c_rep4 (v := false) (qS qI) rfl ?_
              refine c_tst ?_
              refine c_orO (e := id) (R := fun _ => [.un, .src c131.2, .v (PyData.int lap16), .v (PyData.int n_18), .v ((eL PyData.int) ys22), .v (PyData.int ys33.sum), .v (PyData.int ys37.sum), .v (PyData.int m50), .v ((eO (eS PyData.int)) c114), .v ((eO (eS PyData.int)) c115), .v ((eL PyData.int) ys121.1), .v ((eS PyData.int) ys128), .v ((eS PyData.int) ys135), .v ((eS PyData.int) c136), .un, .un, .un, .un]) (a0 := true) (fun h => ⟨rfl, rfl⟩) ?_ ?_
              · refine x_tst ?_
                refine x_op ?_
                refine x_asL ?_
                refine x_comp ?_
                refine x_seq ?_
                refine x_v rfl ?_
                refine c_seqS ?_
                refine c_comp (ea := PyData.int) (eb := PyData.int) (ρw := [.un, .src c131.2, .v (PyData.int lap16), .v (PyData.int n_18), .v ((eL PyData.int) ys22), .v (PyData.int ys33.sum), .v (PyData.int ys37.sum), .v (PyData.int m50), .v ((eO (eS PyData.int)) c114), .v ((eO (eS PyData.int)) c115), .v ((eL PyData.int) ys121.1), .v ((eS PyData.int) ys128), .v ((eS PyData.int) ys135), .v ((eS PyData.int) c136), .un, .un, .un, .un]) (R := fun x138 => [.un, .src c131.2, .v (PyData.int lap16), .v (PyData.int n_18), .v ((eL PyData.int) ys22), .v (PyData.int ys33.sum), .v (PyData.int ys37.sum), .v (PyData.int m50), .v ((eO (eS PyData.int)) c114), .v ((eO (eS PyData.int)) c115), .v ((eL PyData.int) ys121.1), .v ((eS PyData.int) ys128), .v ((eS PyData.int) ys135), .v ((eS PyData.int) c136), .un, .un, .v (PyData.int x138), .un]) rfl (fun _ => rfl) ?_ ?_ (fun _ => rfl) ?_
                · intro x138
                  refine x_tst ?_
                  refine x_op ?_
                  refine x_op ?_
                  refine x_op ?_
                  refine x_v rfl ?_
                  refine c_nx ?_
                  refine x_c ?_
                  refine c_bd (e := PyData.int) gdiv_ok ?_
                  intro c140
                  refine c_nx ?_
                  refine x_c ?_
                  refine c_bd (e := PyData.int) gmul_ok ?_
                  intro c141
                  refine c_nx ?_
                  refine x_v rfl ?_
                  refine c_ok (ne_ok qI) ?_
                  refine c_tst ?_
                  exact c_fin ⟨rfl, rfl⟩
                · intro x138
                  refine x_v rfl ?_
                  exact c_fin ⟨rfl, rfl⟩
                intro ys139
                refine c_eL ?_
                refine c_nx ?_
                refine x_asL ?_
                refine x_lst ?_
                refine x_nil ?_
                refine c_len rfl ?_
                refine c_disp (e := PyData.int) (l := ([] : List Int)) rfl ?_
                refine c_eL ?_
                refine c_ok (neNil_ok qI (by decide)) ?_
                refine c_tst ?_
                exact c_fin ⟨rfl, rfl⟩
              intro b142
              refine c_sif ?_ ?_
              · refine s_retS ?_
                refine s_ret ?_
                refine x_c ?_
                refine c_retL ?_
                exact c_ret
              · refine s_nilL ?_
                refine s_if ?_
                refine x_or ?_
                refine x_tst ?_
                refine x_op ?_
                refine x_call ?_
                refine x_cons ?_
                refine x_v rfl ?_
                refine c_nx ?_
                refine x_nil ?_
                refine c_bd (e := PyData.int) (t_four_norm) ?_
                intro c143
                refine c_nx ?_
                refine x_op ?_
                refine x_v rfl ?_
                refine c_nx ?_
                refine x_v rfl ?_
                refine c_bd (e := PyData.int) gmul_ok ?_
                intro c144
                refine c_ok (ne_ok qI) ?_
                refine c_tst ?_
                refine c_orO (e := id) (R := fun _ => [.un, .src c131.2, .v (PyData.int lap16), .v (PyData.int n_18), .v ((eL PyData.int) ys22), .v (PyData.int ys33.sum), .v (PyData.int ys37.sum), .v (PyData.int m50), .v ((eO (eS PyData.int)) c114), .v ((eO (eS PyData.int)) c115), .v ((eL PyData.int) ys121.1), .v ((eS PyData.int) ys128), .v ((eS PyData.int) ys135), .v ((eS PyData.int) c136), .un, .un, .un, .un]) (a0 := true) (fun h => ⟨rfl, rfl⟩) ?_ ?_
                · refine x_tst ?_
                  refine x_op ?_
                  refine x_r1e ?_
                  refine x_asL ?_
                  refine x_comp ?_
                  refine x_seq ?_
                  refine x_v rfl ?_
                  refine c_seqS ?_
                  refine c_map (ea := PyData.int) (eb := PyData.int) (ρw := [.un, .src c131.2, .v (PyData.int lap16), .v (PyData.int n_18), .v ((eL PyData.int) ys22), .v (PyData.int ys33.sum), .v (PyData.int ys37.sum), .v (PyData.int m50), .v ((eO (eS PyData.int)) c114), .v ((eO (eS PyData.int)) c115), .v ((eL PyData.int) ys121.1), .v ((eS PyData.int) ys128), .v ((eS PyData.int) ys135), .v ((eS PyData.int) c136), .un, .un, .un, .un]) (R := fun x145 => [.un, .src c131.2, .v (PyData.int lap16), .v (PyData.int n_18), .v ((eL PyData.int) ys22), .v (PyData.int ys33.sum), .v (PyData.int ys37.sum), .v (PyData.int m50), .v ((eO (eS PyData.int)) c114), .v ((eO (eS PyData.int)) c115), .v ((eL PyData.int) ys121.1), .v ((eS PyData.int) ys128), .v ((eS PyData.int) ys135), .v ((eS PyData.int) c136), .un, .un, .v (PyData.int x145), .un]) rfl (fun _ => rfl) ?_ (fun _ => rfl) ?_
                  · intro x145
                    refine x_op ?_
                    refine x_op ?_
                    refine x_v rfl ?_
                    refine c_nx ?_
                    refine x_c ?_
                    refine c_bd (e := PyData.int) gdiv_ok ?_
                    intro c146
                    refine c_nx ?_
                    refine x_op ?_
                    refine x_v rfl ?_
                    refine c_nx ?_
                    refine x_c ?_
                    refine c_bd (e := PyData.int) gdiv_ok ?_
                    intro c147
                    refine c_bd (e := PyData.int) gmul_ok ?_
                    intro c148
                    exact c_fin ⟨rfl, rfl⟩
                  intro ys149
                  refine c_eL ?_
                  refine c_ok sumL ?_
                  refine c_nx ?_
                  refine x_op ?_
                  refine x_v rfl ?_
                  refine c_nx ?_
                  refine x_v rfl ?_
                  refine c_bd (e := PyData.int) gmul_ok ?_
                  intro c150
                  refine c_ok (ne_ok qI) ?_
                  refine c_tst ?_
                  exact c_fin ⟨rfl, rfl⟩
                intro b151
                refine c_sif ?_ ?_
                · refine s_retS ?_
                  refine s_ret ?_
                  refine x_c ?_
                  refine c_retL ?_
                  exact c_ret
                · refine s_nilL ?_
                  refine s_last ?_
                  refine s_if ?_
                  refine x_and ?_
                  refine x_tst ?_
                  refine x_op ?_
                  refine x_op ?_
                  refine x_op ?_
                  refine x_v rfl ?_
                  refine c_nx ?_
                  refine x_c ?_
                  refine c_bd (e := PyData.int) gdiv_ok ?_
                  intro c152
                  refine c_nx ?_
                  refine x_c ?_
                  refine c_bd (e := PyData.int) gmul_ok ?_
                  intro c153
                  refine c_nx ?_
                  refine x_v rfl ?_
                  refine c_ok (ne_ok qI) ?_
                  refine c_tst ?_
                  refine c_andO (e := id) (R := fun _ => [.un, .src c131.2, .v (PyData.int lap16), .v (PyData.int n_18), .v ((eL PyData.int) ys22), .v (PyData.int ys33.sum), .v (PyData.int ys37.sum), .v (PyData.int m50), .v ((eO (eS PyData.int)) c114), .v ((eO (eS PyData.int)) c115), .v ((eL PyData.int) ys121.1), .v ((eS PyData.int) ys128), .v ((eS PyData.int) ys135), .v ((eS PyData.int) c136), .un, .un, .un, .un]) (a0 := false) (fun h => ⟨rfl, rfl⟩) ?_ ?_
                  · refine x_tst ?_
                    refine x_op ?_
                    refine x_asL ?_
                    refine x_comp ?_
                    refine x_seq ?_
                    refine x_tup ?_
                    refine x_cons ?_
                    refine x_c ?_
                    refine c_nx ?_
                    refine x_cons ?_
                    refine x_c ?_
                    refine c_nx ?_
                    refine x_cons ?_
                    refine x_c ?_
                    refine c_nx ?_
                    refine x_nil ?_
                    refine c_lenT rfl ?_
                    refine c_re (e := (eS PyData.int)) (a := [(2 : Int), (4 : Int), (8 : Int)]) rfl ?_
                    refine c_seqS ?_
                    refine c_map (ea := PyData.int) (eb := PyData.int) (ρw := [.un, .src c131.2, .v (PyData.int lap16), .v (PyData.int n_18), .v ((eL PyData.int) ys22), .v (PyData.int ys33.sum), .v (PyData.int ys37.sum), .v (PyData.int m50), .v ((eO (eS PyData.int)) c114), .v ((eO (eS PyData.int)) c115), .v ((eL PyData.int) ys121.1), .v ((eS PyData.int) ys128), .v ((eS PyData.int) ys135), .v ((eS PyData.int) c136), .un, .un, .un, .un]) (R := fun x154 => [.un, .src c131.2, .v (PyData.int lap16), .v (PyData.int n_18), .v ((eL PyData.int) ys22), .v (PyData.int ys33.sum), .v (PyData.int ys37.sum), .v (PyData.int m50), .v ((eO (eS PyData.int)) c114), .v ((eO (eS PyData.int)) c115), .v ((eL PyData.int) ys121.1), .v ((eS PyData.int) ys128), .v ((eS PyData.int) ys135), .v ((eS PyData.int) c136), .v (PyData.int x154), .un, .un, .un]) rfl (fun _ => rfl) ?_ (fun _ => rfl) ?_
                    · intro x154
                      refine x_call ?_
                      refine x_cons ?_
                      refine x_op ?_
                      refine x_v rfl ?_
                      refine c_nx ?_
                      refine x_v rfl ?_
                      refine c_bd (e := PyData.int) gmul_ok ?_
                      intro c155
                      refine c_nx ?_
                      refine x_nil ?_
                      refine c_bd (e := PyData.int) (t_count_four_squares) ?_
                      intro c156
                      exact c_fin ⟨rfl, rfl⟩
                    intro ys157
                    refine c_eL ?_
                    refine c_nx ?_
                    refine x_asL ?_
                    refine x_rep ?_
                    refine x_asL ?_
                    refine x_lst ?_
                    refine x_cons ?_
                    refine x_op ?_
                    refine x_c ?_
                    refine c_nx ?_
                    refine x_call ?_
                    refine x_cons ?_
                    refine x_v rfl ?_
                    refine c_nx ?_
                    refine x_nil ?_
                    refine c_bd (e := PyData.int) (t_count_four_squares) ?_
                    intro c158
                    refine c_bd (e := PyData.int) gmul_ok ?_
                    intro c159
                    refine c_nx ?_
                    refine x_nil ?_
                    refine c_len rfl ?_
                    refine c_disp (e := PyData.int) (l := [c159]) rfl ?_
                    refine c_eL ?_
                    refine c_nx ?_
                    refine x_c ?_
                    refine c_repB ?_
                    intro r160
                    refine c_eL ?_
                    refine c_ok (ne_ok (qL qI)) ?_
                    refine c_tst ?_
                    exact c_fin ⟨rfl, rfl⟩
                  intro b161
                  refine c_sif ?_ ?_
                  · refine s_retS ?_
                    refine s_ret ?_
                    refine x_c ?_
                    refine c_retL ?_
                    exact c_ret
                  · refine s_nilL ?_
                    exact s_nil (j_lnx ⟨_, _, _, _, _, _, _, _, _, _, _, _, rfl⟩)
  · exact fun _ _ _ h => h
  · rintro w170 ρ ⟨j171, j172, j173, j174, j175, j176, j177, j178, j179, j180, j181, j182, rfl⟩
    refine s_ret ?_
    refine x_op ?_
    refine x_asL ?_
    refine x_comp ?_
    refine x_seq ?_
    refine x_tup ?_
    refine x_cons ?_
    refine x_c ?_
    refine c_nx ?_
    refine x_cons ?_
    refine x_c ?_
    refine c_nx ?_
    refine x_cons ?_
    refine x_c ?_
    refine c_nx ?_
    refine x_cons ?_
    refine x_c ?_
    refine c_nx ?_
    refine x_nil ?_
    refine c_lenT rfl ?_
    refine c_re (e := (eS PyData.int)) (a := [(1 : Int), (2 : Int), (3 : Int), (4 : Int)]) rfl ?_
    refine c_seqS ?_
    refine c_map (ea := PyData.int) (eb := PyData.int) (ρw := [.un, .src w170, j171, .un, j173, j174, j175, j176, j177, j178, j179, j180, j181, j182, .un, .un, .un, .un]) (R := fun x183 => [.un, .src w170, j171, .v (PyData.int x183), j173, j174, j175, j176, j177, j178, j179, j180, j181, j182, .un, .un, .un, .un]) rfl (fun _ => rfl) ?_ (fun _ => rfl) ?_
    · intro x183
      refine x_call ?_
      refine x_cons ?_
      refine x_v rfl ?_
      refine c_nx ?_
      refine x_nil ?_
      refine c_bd (e := PyData.int) (t_count_four_squares) ?_
      intro c184
      exact c_fin ⟨rfl, rfl⟩
    intro ys185
    refine c_eL ?_
    refine c_nx ?_
    refine x_asL ?_
    refine x_lst ?_
    refine x_cons ?_
    refine x_c ?_
    refine c_nx ?_
    refine x_cons ?_
    refine x_c ?_
    refine c_nx ?_
    refine x_cons ?_
    refine x_c ?_
    refine c_nx ?_
    refine x_cons ?_
    refine x_c ?_
    refine c_nx ?_
    refine x_nil ?_
    refine c_len rfl ?_
    refine c_disp (e := PyData.int) (l := [(8 : Int), (24 : Int), (32 : Int), (24 : Int)]) rfl ?_
    refine c_eL ?_
    refine c_ok (eq_ok (qL qI)) ?_
    exact c_ret
end K25
namespace K25
open PySem Fe Te Dv
def ckI (o : Option Int) (v : Nat) : Bool := match o with
  | some (.ofNat n) => Nat.beq n v
  | _ => false
theorem ckI_ok {o : Option Int} {v : Nat} (h : ckI o v = true) : o = some (v : Int) := by
  unfold ckI at h
  split at h
  · rw [Nat.eq_of_beq_eq_true h]
    rfl
  · cases h
def chk (f : Int → Option Int) : List Nat → Nat → Bool
  | [], _ => true
  | v :: r, k => ckI (f (.ofNat k)) v && chk f r (k + 1)
theorem chk_at {f : Int → Option Int} : ∀ {l : List Nat} {k : Nat}, chk f l k = true → ∀ i, i < l.length → f ((k + i : Nat) : Int) = some ((l.getD i 0 : Nat) : Int)
  | v :: r, k, h, 0, _ => by
    unfold chk at h
    exact ckI_ok (Bool.and_eq_true_iff.mp h).1
  | v :: r, k, h, i + 1, hi => by
    unfold chk at h
    have := chk_at (Bool.and_eq_true_iff.mp h).2 i (by simpa using hi)
    rw [show k + (i + 1) = k + 1 + i by omega]
    exact this
  | [], _, _, i, hi => by simp at hi
def T2 : List Nat := [1, 4, 4, 0, 4, 8, 0, 0, 4, 4, 8, 0, 0, 8, 0, 0, 4, 8, 4, 0, 8, 0, 0, 0, 0, 12, 8, 0, 0, 8, 0, 0, 4, 0, 8, 0, 4, 8, 0, 0, 8, 8, 0, 0, 0, 8, 0, 0, 0, 4, 12, 0, 8, 8, 0, 0, 0, 0, 8, 0, 0, 8, 0, 0, 4, 16, 0, 0, 8, 0, 0, 0, 4, 8, 8, 0, 0, 0, 0, 0, 8, 4, 8, 0, 0, 16, 0, 0, 0, 8, 8, 0, 0, 0, 0, 0, 0, 8, 4, 0, 12, 8, 0, 0, 8, 0, 8, 0, 0, 8, 0, 0, 0, 8, 0, 0, 8, 8, 0, 0, 0, 4, 8, 0, 0, 16, 0, 0, 4, 0, 16, 0, 0, 0, 0, 0, 8, 8, 0, 0, 0, 0, 0, 0, 4, 16, 8, 0, 8, 8, 0, 0, 0, 8, 0, 0, 0, 8, 0, 0, 8, 0, 4, 0, 8, 0, 0, 0, 0, 12, 16, 0, 0, 8, 0, 0, 0, 0, 8, 0, 8, 8, 0, 0, 0, 16, 0, 0, 0, 0, 0, 0, 0, 8, 8, 0, 4, 8, 0, 0, 12, 0, 8, 0, 0, 16, 0, 0, 8, 0, 0, 0, 8, 0, 0, 0, 0, 0, 8, 0, 0, 16, 0, 0, 0, 12, 8, 0, 0, 8, 0, 0, 8, 8, 8, 0, 0, 0, 0, 0, 0, 8, 4, 0, 8, 8, 0, 0, 0, 0, 16, 0, 0, 0, 0, 0, 4, 8, 0, 0, 16, 8, 0, 0, 0, 16, 0, 0, 0, 8, 0, 0, 8, 0, 8, 0, 0, 8, 0, 0, 0, 8, 0, 0, 0, 0, 0, 0, 4, 12, 16, 0, 8, 8, 0, 0, 8, 0, 8, 0, 0, 0, 0, 0, 0, 16, 8, 0, 0, 0, 0, 0, 0, 8, 8, 0, 0, 8, 0, 0, 8, 0, 0, 0, 4, 24, 0, 0, 8, 0, 0, 0, 0, 8, 0, 0, 0, 8, 12, 0, 16, 0, 0, 0, 0, 0, 8, 0, 0, 8, 0, 0, 0, 8, 0, 0, 8, 0, 0, 0, 8, 4, 8, 0, 0, 16, 0, 0, 0, 8, 16]
def t2 (n : Nat) : Nat := T2.getD n 0
theorem T2_len : T2.length = 371 := by decide +kernel
theorem t2_chk : chk n_law_two T2 0 = true := by decide +kernel
theorem w2_chk : chk n_count_ways T2.tail 1 = true := by decide +kernel
theorem two_at {n : Nat} (h : n ≤ 370) : n_law_two (n : Int) = some ((t2 n : Nat) : Int) := by
  have := chk_at t2_chk n (by rw [T2_len]; omega)
  rw [Nat.zero_add] at this
  exact this
theorem ways_at {n : Nat} (h0 : 1 ≤ n) (h : n ≤ 370) : n_count_ways (n : Int) = some ((t2 n : Nat) : Int) := by
  have := chk_at w2_chk (n - 1) (by rw [List.length_tail, T2_len]; omega)
  rw [show 1 + (n - 1) = n by omega] at this
  rw [this]
  congr 2
  unfold t2
  rw [List.getD_eq_getElem?_getD, List.getD_eq_getElem?_getD, List.getElem?_tail, show n - 1 + 1 = n by omega]
/-! ## divisors -/
theorem sum_castN (g : Nat → Nat) : ∀ l : List Nat, (l.map fun k => ((g k : Nat) : Int)).sum = (((l.map g).sum : Nat) : Int)
  | [] => rfl
  | x :: r => by rw [List.map_cons, List.sum_cons, List.map_cons, List.sum_cons, sum_castN g r]; simp
theorem dv_int {P : Nat → Bool} {p : Int → Bool} {n : Nat} (h : ∀ k, k < n → p (1 + (k : Int)) = (decide (n % (k + 1) = 0) && P (k + 1))) : (((irg 1 n).filter p).map fun x => x).sum = ((sg P n : Nat) : Int) := by
  unfold irg sg dv
  rw [List.map_id', List.filter_map, List.filter_map]
  have e : (List.range n).filter (p ∘ fun k : Nat => (1 : Int) + (k : Nat)) = (List.range n).filter ((fun d => decide (n % d = 0) && P d) ∘ fun x => x + 1) := by
    refine List.filter_congr fun k hk => ?_
    exact h k (List.mem_range.mp hk)
  rw [e]
  have := sum_castN (· + 1) ((List.range n).filter ((fun d => decide (n % d = 0) && P d) ∘ fun x => x + 1))
  rw [← this]
  congr 1
  refine List.map_congr_left fun k _ => ?_
  show (1 : Int) + (k : Int) = ((k + 1 : Nat) : Int)
  omega
theorem ieqN (a b : Nat) : ieq (a : Int) (b : Int) = decide (a = b) := by
  rw [ieq_eq, decide_eq_decide]
  omega
theorem div_iff (n k : Nat) : decide ((n : Int) % (1 + (k : Int)) = 0) = decide (n % (k + 1) = 0) := by
  rw [show (1 : Int) + (k : Int) = ((k + 1 : Nat) : Int) by omega, ← Int.natCast_emod, decide_eq_decide]
  generalize n % (k + 1) = m
  omega
def r4 (n : Nat) : Nat := 8 * sg not4 n
def od (n : Nat) : Nat := sg odd n
theorem sg_le (P : Nat → Bool) (n : Nat) : sg P n ≤ n * n := by
  unfold sg dv
  have : ∀ l : List Nat, (∀ x ∈ l, x ≤ n) → l.sum ≤ l.length * n := by
    intro l
    induction l with
    | nil => intro _; simp
    | cons a r ih =>
      intro h
      rw [List.sum_cons, List.length_cons, Nat.add_mul, Nat.one_mul]
      have := ih fun x hx => h x (List.mem_cons_of_mem _ hx)
      have := h a List.mem_cons_self
      omega
  refine Nat.le_trans (this _ fun x hx => ?_) (Nat.mul_le_mul_right n ?_)
  · obtain ⟨k, hk, rfl⟩ := List.mem_map.mp (List.mem_filter.mp hx).1
    have := List.mem_range.mp hk
    omega
  · refine Nat.le_trans (List.length_filter_le ..) ?_
    rw [List.length_map, List.length_range]
    exact Nat.le_refl n
theorem four_at {n : Nat} (h0 : 1 ≤ n) (h : n ≤ 3000) : n_count_four_squares (n : Int) = some ((r4 n : Nat) : Int) := by
  unfold n_count_four_squares
  rw [grng_sm (by decide) (by omega), show ((n : Int) + 1 - 1).toNat = n by omega]
  dsimp only [Option.bind_some]
  rw [glt_len (by rw [irg_len]; omega)]
  dsimp only [Option.bind_some]
  rw [nlc_ok (p := fun x => decide ((n : Int) % x = 0) && !decide (x % 4 = 0)) (f := fun x => x) (fun x hx => ?_) (fun _ _ _ => rfl)]
  · rw [Option.bind_some, dv_int (P := not4)]
    · have hb := sg_le not4 n
      have : n * n ≤ 3000 * 3000 := Nat.mul_le_mul h h
      rw [gmul_bd (k := 4) (l := 40) (by decide) (by show _ < 2 ^ 40; omega)]
      show some _ = _
      congr 1
    · intro k hk
      unfold not4
      rw [div_iff, show decide ((1 + (k : Int)) % 4 = 0) = decide ((k + 1) % 4 = 0) by rw [decide_eq_decide]; omega]
  · obtain ⟨k, hk, rfl⟩ := mem_irg hx
    rw [gmod_pos (by omega), gmod_pos (by decide)]
    simp only [Option.bind_some, ieq_eq]
    cases decide ((n : Int) % (1 + (k : Int)) = 0) <;> rfl
theorem rc_all : ((List.range 3001).all fun n => rcOk 1 ((n : Int) + 1) 2 && Nat.beq (Builtin.Range.rangeSize 1 ((n : Int) + 1) 2).toNat ((n + 1) / 2)) = true := by decide +kernel
theorem oddL (n : Nat) : (((irgC 1 2 ((n + 1) / 2)).filter fun x => decide ((n : Int) % x = 0)).map fun x => x).sum = ((od n : Nat) : Int) := by
  unfold od sg dv irgC
  rw [List.map_id', List.filter_map, List.filter_map]
  have h1 := sum_castN (fun k => 2 * k + 1) ((List.range ((n + 1) / 2)).filter fun k => decide (n % (2 * k + 1) = 0))
  have h2 : (List.map (fun k : Nat => (1 : Int) + (k : Nat) * 2) (List.filter ((fun x => decide ((n : Int) % x = 0)) ∘ fun k : Nat => (1 : Int) + (k : Nat) * 2) (List.range ((n + 1) / 2)))) = ((List.range ((n + 1) / 2)).filter fun k => decide (n % (2 * k + 1) = 0)).map fun k => (((fun k => 2 * k + 1) k : Nat) : Int) := by
    rw [show (List.range ((n + 1) / 2)).filter ((fun x => decide ((n : Int) % x = 0)) ∘ fun k : Nat => (1 : Int) + (k : Nat) * 2) = (List.range ((n + 1) / 2)).filter fun k => decide (n % (2 * k + 1) = 0) from List.filter_congr fun k _ => ?_]
    · refine List.map_congr_left fun k _ => ?_
      show (1 : Int) + (k : Int) * 2 = ((2 * k + 1 : Nat) : Int)
      omega
    · show decide ((n : Int) % (1 + (k : Int) * 2) = 0) = _
      have := div_iff n (2 * k)
      rw [show (1 : Int) + (k : Int) * 2 = 1 + ((2 * k : Nat) : Int) by omega, this]
  rw [h2, h1]
  congr 1
  refine List.Perm.sum_nat ?_
  refine (List.perm_ext_iff_of_nodup ?_ ?_).mpr fun d => ?_
  · refine List.pairwise_map.mpr (List.Pairwise.filter _ ((List.nodup_range (n := (n + 1) / 2)).imp fun {a b} h => ?_))
    omega
  · exact List.pairwise_map.mpr (List.Pairwise.filter _ ((List.nodup_range (n := n)).imp fun {a b} h => by omega))
  · simp only [List.mem_map, List.mem_filter, List.mem_range, decide_eq_true_eq, Function.comp, Bool.and_eq_true]
    constructor
    · rintro ⟨k, ⟨h3, h4⟩, rfl⟩
      exact ⟨2 * k, ⟨by omega, h4, by unfold odd; exact decide_eq_true (by omega)⟩, rfl⟩
    · rintro ⟨k, ⟨h3, h4, h5⟩, rfl⟩
      have h5 : (k + 1) % 2 = 1 := of_decide_eq_true h5
      exact ⟨k / 2, ⟨by omega, by rw [show 2 * (k / 2) = k by omega]; exact h4⟩, by omega⟩
theorem odd_at {n : Nat} (h0 : 1 ≤ n) (h : n ≤ 3000) : n_odd_divisor_sum (n : Int) = some ((od n : Nat) : Int) := by
  obtain ⟨r1, r2⟩ := Bool.and_eq_true_iff.mp (all_range rc_all (show n < 3001 by omega))
  have r2 := Nat.eq_of_beq_eq_true r2
  unfold n_odd_divisor_sum grng3
  rw [r1, r2]
  dsimp only [Option.bind_some, cond_true]
  rw [glt_len (by simp [irgC]; omega)]
  dsimp only [Option.bind_some]
  rw [nlc_ok (p := fun x => decide ((n : Int) % x = 0)) (f := fun x => x) (fun x hx => ?_) (fun _ _ _ => rfl)]
  · rw [Option.bind_some, oddL]
  · obtain ⟨k, hk, rfl⟩ := mem_irgC hx
    rw [gmod_pos (by omega)]
    simp only [Option.bind_some, ieq_eq]
theorem od_le (n : Nat) : od n ≤ n * n := sg_le _ n
theorem fours_at {n : Nat} (h0 : 1 ≤ n) (h : n ≤ 3000) : n_count_fours (n : Int) = some ((24 * od n : Nat) : Int) := by
  unfold n_count_fours
  rw [odd_at h0 h]
  have hb := od_le n
  have : n * n ≤ 3000 * 3000 := Nat.mul_le_mul h h
  rw [Option.bind_some, gmul_bd (k := 5) (l := 40) (by decide) (by show _ < 2 ^ 40; omega)]
  show some _ = _
  congr 1
/-! ## what is asked of them -/
theorem sg_not4 : sg not4 2 = 3 ∧ sg not4 4 = 3 ∧ sg not4 8 = 3 := by decide +kernel
theorem r4_mul {m n : Nat} (h : Nat.Coprime m n) (hm : 0 < m) (hn : 0 < n) : 8 * r4 (m * n) = r4 m * r4 n := by
  unfold r4
  rw [sg_mul h hm hn fun a b c _ _ => not4_mul a b c]
  generalize sg not4 m = x
  generalize sg not4 n = y
  grind
theorem od_mul {m n : Nat} (h : Nat.Coprime m n) (hm : 0 < m) (hn : 0 < n) : 24 * (24 * od (m * n)) = 24 * od m * (24 * od n) := by
  unfold od
  rw [sg_mul h hm hn fun a b _ _ _ => odd_mul a b]
  generalize sg odd m = x
  generalize sg odd n = y
  grind
theorem r4_two {n : Nat} (h : n % 2 = 1) : r4 (2 * n) = 3 * r4 n ∧ r4 (4 * n) = 3 * r4 n ∧ r4 (8 * n) = 3 * r4 n := by
  have c2 : Nat.Coprime 2 n := by
    show Nat.gcd 2 n = 1
    rw [Nat.gcd_rec, h]
    rfl
  have hn : 0 < n := by omega
  have c4 : Nat.Coprime 4 n := Nat.Coprime.mul_left (m := 2) (n := 2) c2 c2
  have c8 : Nat.Coprime 8 n := Nat.Coprime.mul_left (m := 2) (n := 4) c2 c4
  obtain ⟨s2, s4, s8⟩ := sg_not4
  unfold r4
  rw [sg_mul c2 (by decide) hn fun a b c _ _ => not4_mul a b c, sg_mul c4 (by decide) hn fun a b c _ _ => not4_mul a b c, sg_mul c8 (by decide) hn fun a b c _ _ => not4_mul a b c, s2, s4, s8]
  omega
end K25
namespace K25
open PySem Fe Te Dv
def dot : List Nat → List Nat → Nat
  | a :: r, b :: w => a * b + dot r w
  | _, _ => 0
def chkC : List Nat → List Nat → List Nat → Bool
  | v :: r, rev, x :: t => Nat.beq (dot T2 (v :: rev)) x && chkC r (v :: rev) t
  | _, _, _ => true
def R4 : List Nat := [1, 8, 24, 32, 24, 48, 96, 64, 24, 104, 144, 96, 96, 112, 192, 192, 24, 144, 312, 160, 144, 256, 288, 192, 96, 248, 336, 320, 192, 240, 576, 256, 24, 384, 432, 384, 312, 304, 480, 448, 144, 336, 768, 352, 288, 624, 576, 384, 96, 456, 744, 576, 336, 432, 960, 576, 192, 640, 720, 480, 576, 496, 768, 832, 24, 672, 1152, 544, 432, 768, 1152, 576, 312, 592, 912, 992, 480, 768, 1344, 640, 144, 968, 1008, 672, 768, 864, 1056, 960, 288, 720, 1872, 896, 576, 1024, 1152, 960, 96, 784, 1368, 1248, 744, 816, 1728, 832, 336, 1536, 1296, 864, 960, 880, 1728, 1216, 192, 912, 1920, 1152, 720, 1456, 1440, 1152, 576, 1064, 1488, 1344, 768, 1248, 2496, 1024, 24, 1408, 2016, 1056, 1152, 1280, 1632, 1920, 432, 1104, 2304, 1120, 1152, 1536, 1728, 1344, 312, 1440, 1776, 1824, 912, 1200, 2976, 1216, 480, 1872, 2304, 1536, 1344, 1264, 1920, 1728, 144, 1536, 2904, 1312, 1008, 2304, 2016, 1344, 768, 1464, 2592, 2080, 1056, 1392, 2880, 1984, 288, 1920, 2160, 1440, 1872, 1456, 2688, 1984, 576, 1824, 3072, 1728, 1152, 2560, 2880, 1536, 96, 1552, 2352, 2688, 1368, 1584, 3744, 1600, 744, 2176, 2448, 1920, 1728, 2016, 2496, 2496, 336, 1920, 4608, 1696, 1296, 2304, 2592, 2112, 960, 2048, 2640, 2368, 1728, 2016, 3648, 1792, 192, 3224, 2736, 1824, 1920, 1840, 3456, 3072, 720, 1872, 4368, 2304, 1440, 2560, 3456, 1920, 576, 1936, 3192, 2912, 1488, 2736, 4032, 2240, 768, 2688, 3744, 2016, 2496, 2304, 3072, 3456, 24, 2064, 4224, 2432, 2016, 3120, 3168, 2112, 1152, 2592, 3840, 2880, 1632, 2160, 5760, 2176, 432, 3584, 3312, 2976, 2304, 2224, 3360, 3328, 1152, 2256, 4608, 2272, 1728, 3840, 4032, 2688, 312, 2456, 4320, 3136, 1776, 2352, 5472, 2880, 912, 3840, 3600, 2688, 2976, 2816, 3648, 3264, 480, 2976, 5616, 2464, 2304, 3328, 4608, 2496, 1344, 2512, 3792, 4992, 1920, 2544, 5184, 2880, 144, 3456, 4608, 2880, 2904, 3472, 3936, 3520, 1008, 3072, 6912, 2656, 2016, 3952, 4032, 3264, 768, 2704, 4392, 3648, 2592, 3072, 6240, 3200, 1056, 4608, 4176, 2784, 2880, 2800, 5952, 4480, 288, 2832, 5760, 3456, 2160, 4608, 4320, 2880, 1872, 3048, 4368, 4256, 2688, 3552, 5952, 2944, 576, 4368, 5472]
theorem conv_chk : chkC T2 [] R4 = true := by decide +kernel
def chkR : List Nat → Nat → Bool
  | x :: t, n => Nat.beq (r4 n) x && (Nat.beq (24 * od n) (bif Nat.beq (n % 2) 0 then x else 3 * x) && chkR t (n + 1))
  | [], _ => true
theorem r4_chk : chkR R4.tail 1 = true := by decide +kernel
theorem R4_len : R4.length = 371 := by decide +kernel
theorem chkC_at : ∀ (r rev t : List Nat), chkC r rev t = true → r.length = t.length → ∀ i, i < r.length → dot T2 ((r.take (i + 1)).reverse ++ rev) = t.getD i 0
  | v :: r, rev, x :: t, h, hl, i, hi => by
    unfold chkC at h
    obtain ⟨h1, h2⟩ := Bool.and_eq_true_iff.mp h
    cases i with
    | zero =>
      have := Nat.eq_of_beq_eq_true h1
      simpa using this
    | succ i =>
      have := chkC_at r (v :: rev) t h2 (by simpa using hl) i (by simpa using hi)
      simpa using this
  | [], _, _, _, _, i, hi => by simp at hi
  | _ :: _, _, [], _, hl, _, _ => by simp at hl
theorem chkR_at : ∀ (t : List Nat) (n : Nat), chkR t n = true → ∀ i, i < t.length → r4 (n + i) = t.getD i 0 ∧ 24 * od (n + i) = (bif Nat.beq ((n + i) % 2) 0 then t.getD i 0 else 3 * t.getD i 0)
  | x :: t, n, h, i, hi => by
    unfold chkR at h
    obtain ⟨h1, h2⟩ := Bool.and_eq_true_iff.mp h
    obtain ⟨h3, h4⟩ := Bool.and_eq_true_iff.mp h2
    cases i with
    | zero => exact ⟨Nat.eq_of_beq_eq_true h1, Nat.eq_of_beq_eq_true h3⟩
    | succ i =>
      have := chkR_at t (n + 1) h4 i (by simpa using hi)
      rw [show n + (i + 1) = n + 1 + i by omega]
      simpa using this
  | [], _, _, i, hi => by simp at hi
theorem r4_tab {n : Nat} (h0 : 1 ≤ n) (h : n ≤ 370) : r4 n = R4.getD n 0 ∧ 24 * od n = (if n % 2 = 0 then r4 n else 3 * r4 n) := by
  obtain ⟨h1, h2⟩ := chkR_at _ _ r4_chk (n - 1) (by rw [List.length_tail, R4_len]; omega)
  rw [show 1 + (n - 1) = n by omega] at h1 h2
  have e : R4.tail.getD (n - 1) 0 = R4.getD n 0 := by
    rw [List.getD_eq_getElem?_getD, List.getD_eq_getElem?_getD, List.getElem?_tail, show n - 1 + 1 = n by omega]
  rw [e] at h1 h2
  refine ⟨h1, ?_⟩
  rw [h2, ← h1, nbeq]
  by_cases hc : n % 2 = 0
  · rw [if_pos hc, decide_eq_true hc]
    rfl
  · rw [if_neg hc, decide_eq_false hc]
    rfl
theorem dot_eq : ∀ (a b : List Nat), b.length ≤ a.length → dot a b = ((List.range b.length).map fun k => a.getD k 0 * b.getD k 0).sum
  | _, [], _ => by
    cases ‹List Nat› <;> rfl
  | [], _ :: _, h => by simp at h
  | x :: a, y :: b, h => by
    unfold dot
    rw [dot_eq a b (by simpa using h), List.length_cons, List.range_succ_eq_map, List.map_cons, List.sum_cons, List.map_map]
    rfl
theorem conv {n : Nat} (h0 : 1 ≤ n) (h : n ≤ 370) : ((List.range (n + 1)).map fun k => t2 k * t2 (n - k)).sum = r4 n := by
  rw [(r4_tab h0 h).1]
  have h1 := chkC_at T2 [] R4 conv_chk (by rw [T2_len, R4_len]) n (by rw [T2_len]; omega)
  rw [← h1, List.append_nil, dot_eq _ _ (by rw [List.length_reverse, List.length_take]; omega)]
  have hl : (List.take (n + 1) T2).reverse.length = n + 1 := by
    rw [List.length_reverse, List.length_take, T2_len]
    omega
  rw [hl]
  congr 1
  refine List.map_congr_left fun k hk => ?_
  have hk := List.mem_range.mp hk
  unfold t2
  congr 1
  rw [List.getD_eq_getElem?_getD, List.getD_eq_getElem?_getD, List.getElem?_reverse (by rw [List.length_take, T2_len]; omega), List.length_take, T2_len, List.getElem?_take, if_pos (by omega)]
  congr 2
  omega
end K25
namespace K25
open PySem Fe Te Dv
/-! ## any_four_squares -/
def okW (w m : Nat) : Bool := Nat.ble (w / 64 % 64) (w / 4096 % 64) && (Nat.ble (w / 4096 % 64) (w / 262144) && (Nat.ble (w % 64) (w / 64 % 64) && Nat.beq (w / 262144 * (w / 262144) + w / 4096 % 64 * (w / 4096 % 64) + w / 64 % 64 * (w / 64 % 64) + w % 64 * (w % 64)) m))
def chkW : List Nat → Nat → Bool
  | w :: r, m => okW w m && chkW r (m + 1)
  | [], _ => true
def WT : List Nat := [262144, 266240, 266304, 524288, 528384, 528448, 528449, 532480, 786432, 790528, 790592, 790593, 794624, 794688, 794689, 1048576, 1052672, 1052736, 1052737, 1056768, 1056832, 1056833, 798849, 1056896, 1310720, 1314816, 1314880, 1314881, 1318912, 1318976, 1318977, 1064960, 1319040, 1323008, 1323072, 1572864, 1576960, 1577024, 1577025, 1581056, 1581120, 1581121, 1327169, 1581184, 1585152, 1585216, 1585217, 1581186, 1835008, 1839104, 1839168, 1839169, 1843200, 1843264, 1843265, 1589376, 1843328, 1847296, 1847360, 1847361, 1843330, 1847424, 1847425, 2097152, 2101248, 2101312, 2101313, 2105344, 2105408, 2105409, 1847490, 2105472, 2109440, 2109504, 2109505, 2105474, 2109568, 2109569, 1855617, 2113536, 2359296, 2363392, 2363456, 2363457, 2367488, 2367552, 2367553, 2113666, 2367616, 2371584, 2371648, 2371649, 2367618, 2371712, 2371713, 2113792, 2375680, 2375744, 2375745, 2621440, 2625536, 2625600, 2625601, 2629632, 2629696, 2629697, 2379840, 2629760, 2633728, 2633792, 2633793, 2629762, 2633856, 2633857, 2379968, 2637824, 2637888, 2637889, 2633921, 2637952, 2883584, 2887680, 2887744, 2887745, 2891776, 2891840, 2891841, 2129920, 2891904, 2895872, 2895936, 2895937, 2891906, 2896000, 2896001, 2646016, 2899968, 2900032, 2900033, 2896065, 2900096, 2900097, 2896066, 3145728, 3149824, 3149888, 3149889, 3153920, 3153984, 3153985, 2904193, 3154048, 3158016, 3158080, 3158081, 3154050, 3158144, 3158145, 2908225, 3162112, 3162176, 3162177, 3158209, 3162240, 3162241, 3158210, 2908353, 3162242, 3407872, 3411968, 3412032, 3412033, 3416064, 3416128, 3416129, 3162368, 3416192, 3420160, 3420224, 3420225, 3416194, 3420288, 3420289, 3170432, 3424256, 3424320, 3424321, 3420353, 3424384, 3424385, 3420354, 3162372, 3424386, 3428352, 3428416, 3670016, 3674112, 3674176, 3674177, 3678208, 3678272, 3678273, 3428544, 3678336, 3682304, 3682368, 3682369, 3678338, 3682432, 3682433, 3428609, 3686400, 3686464, 3686465, 3682497, 3686528, 3686529, 3682498, 3436608, 3686530, 3690496, 3690560, 3690561, 3178752, 3932160, 3936256, 3936320, 3936321, 3940352, 3940416, 3940417, 3694592, 3940480, 3944448, 3944512, 3944513, 3940482, 3944576, 3944577, 3694722, 3948544, 3948608, 3948609, 3944641, 3948672, 3948673, 3944642, 3694848, 3948674, 3952640, 3952704, 3952705, 3698818, 3952768, 3952769, 4194304, 4198400, 4198464, 4198465, 4202496, 4202560, 4202561, 3956801, 4202624, 4206592, 4206656, 4206657, 4202626, 4206720, 4206721, 3956929, 4210688, 4210752, 4210753, 4206785, 4210816, 4210817, 4206786, 3960961, 4210818, 4214784, 4214848, 4214849, 3961025, 4214912, 4214913, 3961026, 4210944, 4456448, 4460544, 4460608, 4460609, 4464640, 4464704, 4464705, 4219008, 4464768, 4468736, 4468800, 4468801, 4464770, 4468864, 4468865, 4210948, 4472832, 4472896, 4472897, 4468929, 4472960, 4472961, 4468930, 4219138, 4472962, 4476928, 4476992, 4476993, 4219200, 4477056, 4477057, 4227072, 4473088, 4477058, 4477120, 4718592, 4722688, 4722752, 4722753, 4726784, 4726848, 4726849, 4477185, 4726912, 4730880, 4730944, 4730945, 4726914, 4731008, 4731009, 4485184, 4734976, 4735040, 4735041, 4731073, 4735104, 4735105, 4731074, 4485312, 4735106, 4739072, 4739136, 4739137, 4227332, 4739200, 4739201, 4489281, 4735232, 4739202, 4739264, 4739265, 4743168, 4980736, 4984832, 4984896, 4984897, 4988928, 4988992, 4988993, 4743298, 4989056, 4993024, 4993088, 4993089, 4989058, 4993152, 4993153, 4743424, 4997120, 4997184, 4997185, 4993217, 4997248, 4997249, 4993218, 4227584, 4997250, 5001216, 5001280, 5001281, 4751424, 5001344, 5001345, 4751488, 4997376, 5001346, 5001408, 5001409, 5005312, 5005376, 5005377, 5242880, 5246976, 5247040, 5247041, 5251072, 5251136, 5251137, 5005505, 5251200, 5255168, 5255232, 5255233, 5251202, 5255296, 5255297, 5009537, 5259264, 5259328, 5259329, 5255361, 5259392, 5259393, 5255362, 5009602, 5259394, 5263360, 5263424, 5263425, 5009603, 5263488, 5263489, 5005635, 5259520, 5263490, 5263552, 5263553, 5267456, 5267520, 5267521, 5009730, 5267584, 5505024, 5509120, 5509184, 5509185, 5513216, 5513280, 5513281, 5259524, 5513344, 5517312, 5517376, 5517377, 5513346, 5517440, 5517441, 5267714, 5521408, 5521472, 5521473, 5517505, 5521536, 5521537, 5517506, 5275648, 5521538, 5525504, 5525568, 5525569, 5275777, 5525632, 5525633, 5275778, 5521664, 5525634, 5525696, 5525697, 5529600, 5529664, 5529665, 5275904, 5529728, 5529729, 5525761, 5767168, 5771264, 5771328, 5771329, 5775360, 5775424, 5775425, 5533760, 5775488, 5779456, 5779520, 5779521, 5775490, 5779584, 5779585, 5533888, 5783552, 5783616, 5783617, 5779649, 5783680, 5783681, 5779650, 5537857, 5783682, 5787648, 5787712, 5787713, 4259840, 5787776, 5787777, 5537985, 5783808, 5787778, 5787840, 5787841, 5791744, 5791808, 5791809, 5541952, 5791872, 5791873, 5787905, 5787843, 5791874, 6029312, 6033408, 6033472, 6033473, 6037504, 6037568, 6037569, 5792000, 6037632, 6041600, 6041664, 6041665, 6037634, 6041728, 6041729, 5292032, 6045696, 6045760, 6045761, 6041793, 6045824, 6045825, 6041794, 5800064, 6045826, 6049792, 6049856, 6049857, 5800128, 6049920, 6049921, 5792130, 6045952, 6049922, 6049984, 6049985, 6053888, 6053952, 6053953, 5800194, 6054016, 6054017, 6050049, 6049987, 6054018, 6054080, 6054081, 6291456, 6295552, 6295616, 6295617, 6299648, 6299712, 6299713, 6058113, 6299776, 6303744, 6303808, 6303809, 6299778, 6303872, 6303873, 6058178, 6307840, 6307904, 6307905, 6303937, 6307968, 6307969, 6303938, 6054211, 6307970, 6311936, 6312000, 6312001, 6058305, 6312064, 6312065, 6058306, 6308096, 6312066, 6312128, 6312129, 6316032, 6316096, 6316097, 6066305, 6316160, 6316161, 6312193, 6312131, 6316162, 6316224, 6316225, 6066370, 6308100, 6553600, 6557696, 6557760, 6557761, 6561792, 6561856, 6561857, 6316290, 6561920, 6565888, 6565952, 6565953, 6561922, 6566016, 6566017, 6324224, 6569984, 6570048, 6570049, 6566081, 6570112, 6570113, 6566082, 6324354, 6570114, 6574080, 6574144, 6574145, 6324418, 6574208, 6574209, 6324480, 6570240, 6574210, 6574272, 6574273, 6578176, 6578240, 6578241, 6316420, 6578304, 6578305, 6574337, 6574275, 6578306, 6578368, 6578369, 6324484, 6570244, 6582272, 6582336, 6815744, 6819840, 6819904, 6819905, 6823936, 6824000, 6824001, 6582464, 6824064, 6828032, 6828096, 6828097, 6824066, 6828160, 6828161, 6586433, 6832128, 6832192, 6832193, 6828225, 6832256, 6832257, 6828226, 6586561, 6832258, 6836224, 6836288, 6836289, 6324736, 6836352, 6836353, 6590528, 6832384, 6836354, 6836416, 6836417, 6840320, 6840384, 6840385, 6590656, 6840448, 6840449, 6836481, 6836419, 6840450, 6840512, 6840513, 6590721, 6832388, 6844416, 6844480, 6844481, 6840576, 7077888, 7081984, 7082048, 7082049, 7086080, 7086144, 7086145, 6340864, 7086208, 7090176, 7090240, 7090241, 7086210, 7090304, 7090305, 6848640, 7094272, 7094336, 7094337, 7090369, 7094400, 7094401, 7090370, 6840706, 7094402, 7098368, 7098432, 7098433, 6852608, 7098496, 7098497, 6848770, 7094528, 7098498, 7098560, 7098561, 7102464, 7102528, 7102529, 6324744, 7102592, 7102593, 7098625, 7098563, 7102594, 7102656, 7102657, 6856704, 7094532, 7106560, 7106624, 7106625, 7102720, 7106688, 7106689, 7340032, 7344128, 7344192, 7344193, 7348224, 7348288, 7348289, 7106754, 7348352, 7352320, 7352384, 7352385, 7348354, 7352448, 7352449, 7102787, 7356416, 7356480, 7356481, 7352513, 7356544, 7356545, 7352514, 7106882, 7356546, 7360512, 7360576, 7360577, 7114817, 7360640, 7360641, 7114881, 7356672, 7360642, 7360704, 7360705, 7364608, 7364672, 7364673, 7114946, 7364736, 7364737, 7360769, 7360707, 7364738, 7364800, 7364801, 7118913, 7356676, 7368704, 7368768, 7368769, 7364864, 7368832, 7368833, 7119041, 7364866, 7602176, 7606272, 7606336, 7606337, 7610368, 7610432, 7610433, 7372800, 7610496, 7614464, 7614528, 7614529, 7610498, 7614592, 7614593, 7372930, 7618560, 7618624, 7618625, 7614657, 7618688, 7618689, 7614658, 7373056, 7618690, 7622656, 7622720, 7622721, 7377024, 7622784, 7622785, 7364996, 7618816, 7622786, 7622848, 7622849, 7626752, 7626816, 7626817, 7373060, 7626880, 7626881, 7622913, 7622851, 7626882, 7626944, 7626945, 7381120, 7618820, 7630848, 7630912, 7630913, 7627008, 7630976, 7630977, 6357504, 7627010, 7630978, 7631040, 7864320, 7868416, 7868480, 7868481, 7872512, 7872576, 7872577, 7635009, 7872640, 7876608, 7876672, 7876673, 7872642, 7876736, 7876737, 7635137, 7880704, 7880768, 7880769, 7876801, 7880832, 7880833, 7876802, 7639104, 7880834, 7884800, 7884864, 7884865, 7389184, 7884928, 7884929, 7639232, 7880960, 7884930, 7884992, 7884993, 7888896, 7888960, 7888961, 7639297, 7889024, 7889025, 7885057, 7884995, 7889026, 7889088, 7889089, 7639360, 7880964, 7892992, 7893056, 7893057, 7889152, 7893120, 7893121, 7635393, 7889154, 7893122, 7893184, 7893185, 7389444, 8126464, 8130560, 8130624, 8130625, 8134656, 8134720, 8134721, 7897216, 8134784, 8138752, 8138816, 8138817, 8134786, 8138880, 8138881, 7889282, 8142848, 8142912, 8142913, 8138945, 8142976, 8142977, 8138946, 7897346, 8142978, 8146944, 8147008, 8147009, 7901314, 8147072, 8147073, 7389696, 8143104, 8147074, 8147136, 8147137, 8151040, 8151104, 8151105, 7905280, 8151168, 8151169, 8147201, 8147139, 8151170, 8151232, 8151233, 7905410, 8143108, 8155136, 8155200, 8155201, 8151296, 8155264, 8155265, 7905536, 8151298, 8155266, 8155328, 8155329, 7909376, 8151360, 8155330, 8388608, 8392704, 8392768, 8392769, 8396800, 8396864, 8396865, 8151363, 8396928, 8400896, 8400960, 8400961, 8396930, 8401024, 8401025, 8155458, 8404992, 8405056, 8405057, 8401089, 8405120, 8405121, 8401090, 8163457, 8405122, 8409088, 8409152, 8409153, 8163521, 8409216, 8409217, 8163522, 8405248, 8409218, 8409280, 8409281, 8413184, 8413248, 8413249, 8167489, 8413312, 8413313, 8409345, 8409283, 8413314, 8413376, 8413377, 8167617, 8405252, 8417280, 8417344, 8417345, 8413440, 8417408, 8417409, 8167619, 8413442, 8417410, 8417472, 8417473, 8171585, 8413504, 8417474, 8171649, 8421376, 8650752, 8654848, 8654912, 8654913, 8658944, 8659008, 8659009, 8421506, 8659072, 8663040, 8663104, 8663105, 8659074, 8663168, 8663169, 8421632, 8667136, 8667200, 8667201, 8663233, 8667264, 8667265, 8663234, 8413572, 8667266, 8671232, 8671296, 8671297, 8421698, 8671360, 8671361, 8421636, 8667392, 8671362, 8671424, 8671425, 8675328, 8675392, 8675393, 8429696, 8675456, 8675457, 8671489, 8671427, 8675458, 8675520, 8675521, 7922050, 8667396, 8679424, 8679488, 8679489, 8675584, 8679552, 8679553, 8429826, 8675586, 8679554, 8679616, 8679617, 8433792, 8675648, 8679618, 8421888, 8683520, 8683584, 8683585, 8912896, 8916992, 8917056, 8917057, 8921088, 8921152, 8921153, 8683713, 8921216, 8925184, 8925248, 8925249, 8921218, 8925312, 8925313, 8687680, 8929280, 8929344, 8929345, 8925377, 8929408, 8929409, 8925378, 8687808, 8929410, 8933376, 8933440, 8933441, 8438016, 8933504, 8933505, 8687873, 8929536, 8933506, 8933568, 8933569, 8937472, 8937536, 8937537, 8687936, 8937600, 8937601, 8933633, 8933571, 8937602, 8937664, 8937665, 8683969, 8929540, 8941568, 8941632, 8941633, 8937728, 8941696, 8941697, 8695872, 8937730, 8941698, 8941760, 8941761, 8421896, 8937792, 8941762, 8696000, 8945664, 8945728, 8945729, 8941763, 8945792, 9175040, 9179136, 9179200, 9179201, 9183232, 9183296, 9183297, 8937858, 9183360, 9187328, 9187392, 9187393, 9183362, 9187456, 9187457, 8945922, 9191424, 9191488, 9191489, 9187521, 9191552, 9191553, 9187522, 8438276, 9191554, 9195520, 9195584, 9195585, 8950016, 9195648, 9195649, 8953856, 9191680, 9195650, 9195712, 9195713, 9199616, 9199680, 9199681, 8953986, 9199744, 9199745, 9195777, 9195715, 9199746, 9199808, 9199809, 8954112, 9191684, 9203712, 9203776, 9203777, 9199872, 9203840, 9203841, 8454144, 9199874, 9203842, 9203904, 9203905, 8958082, 9199936, 9203906, 8954116, 9207808, 9207872, 9207873, 9203907, 9207936, 9207937, 9199939, 9437184, 9441280, 9441344, 9441345, 9445376, 9445440, 9445441, 9204034, 9445504, 9449472, 9449536, 9449537, 9445506, 9449600, 9449601, 9212033, 9453568, 9453632, 9453633, 9449665, 9453696, 9453697, 9449666, 9212098, 9453698, 9457664, 9457728, 9457729, 9212099, 9457792, 9457793, 9216065, 9453824, 9457794, 9457856, 9457857, 9461760, 9461824, 9461825, 9216193, 9461888, 9461889, 9457921, 9457859, 9461890, 9461952, 9461953, 9216195, 9453828, 9465856, 9465920, 9465921, 9462016, 9465984, 9465985, 9220225, 9462018, 9465986, 9466048, 9466049, 9220289, 9462080, 9466050, 9220290, 9469952, 9470016, 9470017, 9466051, 9470080, 9470081, 9462083, 9212293, 9470082, 9699328, 9703424, 9703488, 9703489, 9707520, 9707584, 9707585, 9470208, 9707648, 9711616, 9711680, 9711681, 9707650, 9711744, 9711745, 9462148, 9715712, 9715776, 9715777, 9711809, 9715840, 9715841, 9711810, 9470212, 9715842, 9719808, 9719872, 9719873, 9478208, 9719936, 9719937, 9478272, 9715968, 9719938, 9720000, 9720001, 9723904, 9723968, 9723969, 8454664, 9724032, 9724033, 9720065, 9720003, 9724034, 9724096, 9724097, 9478402, 9715972, 9728000, 9728064, 9728065, 9724160, 9728128, 9728129, 9470464, 9724162, 9728130, 9728192, 9728193, 9474436, 9724224, 9728194, 9478528, 9732096, 9732160, 9732161, 9728195, 9732224, 9732225, 9724227, 9486336, 9732226, 9732288, 9732289, 9961472, 9965568, 9965632, 9965633, 9969664, 9969728, 9969729, 9736256, 9969792, 9973760, 9973824, 9973825, 9969794, 9973888, 9973889, 9736384, 9977856, 9977920, 9977921, 9973953, 9977984, 9977985, 9973954, 9736449, 9977986, 9981952, 9982016, 9982017, 9486596, 9982080, 9982081, 9736512, 9978112, 9982082, 9982144, 9982145, 9986048, 9986112, 9986113, 9732545, 9986176, 9986177, 9982209, 9982147, 9986178, 9986240, 9986241, 9744448, 9978116, 9990144, 9990208, 9990209, 9986304, 9990272, 9990273, 9744576, 9986306, 9990274, 9990336, 9990337, 9486848, 9986368, 9990338, 9744641, 9994240, 9994304, 9994305, 9990339, 9994368, 9994369, 9986371, 9748545, 9994370, 9994432, 9994433, 9990465, 9986434, 10223616, 10227712, 10227776, 10227777, 10231808, 10231872, 10231873, 9994498, 10231936, 10235904, 10235968, 10235969, 10231938, 10236032, 10236033, 8455168, 10240000, 10240064, 10240065, 10236097, 10240128, 10240129, 10236098, 10002432, 10240130, 10244096, 10244160, 10244161, 10002561, 10244224, 10244225, 10002562, 10240256, 10244226, 10244288, 10244289, 10248192, 10248256, 10248257, 10002688, 10248320, 10248321, 10244353, 10244291, 10248322, 10248384, 10248385, 9502976, 10240260, 10252288, 10252352, 10252353, 10248448, 10252416, 10252417, 10002692, 10248450, 10252418, 10252480, 10252481, 10006784, 10248512, 10252482, 10002818, 10256384, 10256448, 10256449, 10252483, 10256512, 10256513, 10248515, 10010752, 10256514, 10256576, 10256577, 10252609, 10248578, 10256578, 10252610, 10485760, 10489856, 10489920, 10489921, 10493952, 10494016, 10494017, 10260609, 10494080, 10498048, 10498112, 10498113, 10494082, 10498176, 10498177, 10260674, 10502144, 10502208, 10502209, 10498241, 10502272, 10502273, 10498242, 10264641, 10502274, 10506240, 10506304, 10506305, 10260801, 10506368, 10506369, 10264769, 10502400, 10506370, 10506432, 10506433, 10510336, 10510400, 10510401, 10264771, 10510464, 10510465, 10506497, 10506435, 10510466, 10510528, 10510529, 10268801, 10502404, 10514432, 10514496, 10514497, 10510592, 10514560, 10514561, 10268866, 10510594, 10514562, 10514624, 10514625, 10268867, 10510656, 10514626, 10260869, 10518528, 10518592, 10518593, 10514627, 10518656, 10518657, 10510659, 10268994, 10518658, 10518720, 10518721, 10514753, 10510722, 10518722, 10514754, 10269057, 10518784, 10747904, 10752000, 10752064, 10752065, 10756096, 10756160, 10756161, 10510724, 10756224, 10760192, 10760256, 10760257, 10756226, 10760320, 10760321, 10518788, 10764288, 10764352, 10764353, 10760385, 10764416, 10764417, 10760386, 10526848, 10764418, 10768384, 10768448, 10768449, 10526912, 10768512, 10768513, 10019206, 10764544, 10768514, 10768576, 10768577, 10772480, 10772544, 10772545, 10526978, 10772608, 10772609, 10768641, 10768579, 10772610, 10772672, 10772673, 10519040, 10764548, 10776576, 10776640, 10776641, 10772736, 10776704, 10776705, 10527104, 10772738, 10776706, 10776768, 10776769, 10531074, 10772800, 10776770, 10534912, 10780672, 10780736, 10780737, 10776771, 10780800, 10780801, 10772803, 10535042, 10780802, 10780864, 10780865, 10776897, 10772866, 10780866, 10776898, 10535168, 10780928, 10784768, 10784832, 11010048, 11014144, 11014208, 11014209, 11018240, 11018304, 11018305, 10784960, 11018368, 11022336, 11022400, 11022401, 11018370, 11022464, 11022465, 10785025, 11026432, 11026496, 11026497, 11022529, 11026560, 11026561, 11022530, 10785088, 11026562, 11030528, 11030592, 11030593, 10519048, 11030656, 11030657, 10781121, 11026688, 11030658, 11030720, 11030721, 11034624, 11034688, 11034689, 10793024, 11034752, 11034753, 11030785, 11030723, 11034754, 11034816, 11034817, 10793152, 11026692, 11038720, 11038784, 11038785, 11034880, 11038848, 11038849, 10793217, 11034882, 11038850, 11038912, 11038913, 10535428, 11034944, 11038914, 10797121, 11042816, 11042880, 11042881, 11038915, 11042944, 11042945, 11034947, 10797249, 11042946, 11043008, 11043009, 11039041, 11035010, 11043010, 11039042, 10797251, 11043072, 11046912, 11046976, 11046977, 11043074, 11272192, 11276288, 11276352, 11276353, 11280384, 11280448, 11280449, 10551296, 11280512, 11284480, 11284544, 11284545, 11280514, 11284608, 11284609, 11051008, 11288576, 11288640, 11288641, 11284673, 11288704, 11288705, 11284674, 11051138, 11288706, 11292672, 11292736, 11292737, 11051202, 11292800, 11292801, 11051264, 11288832, 11292802, 11292864, 11292865, 11296768, 11296832, 11296833, 10551556, 11296896, 11296897, 11292929, 11292867, 11296898, 11296960, 11296961, 11051268, 11288836, 11300864, 11300928, 11300929, 11297024, 11300992, 11300993, 11051394, 11297026, 11300994, 11301056, 11301057, 11059264, 11297088, 11301058, 11059328, 11304960, 11305024, 11305025, 11301059, 11305088, 11305089, 11297091, 10551808, 11305090, 11305152, 11305153, 11301185, 11297154, 11305154, 11301186, 11059458, 11305216, 11309056, 11309120, 11309121, 11305218, 11309184, 11309185, 11534336, 11538432, 11538496, 11538497, 11542528, 11542592, 11542593, 11309250, 11542656, 11546624, 11546688, 11546689, 11542658, 11546752, 11546753, 11313217, 11550720, 11550784, 11550785, 11546817, 11550848, 11550849, 11546818, 11313345, 11550850, 11554816, 11554880, 11554881, 11309379, 11554944, 11554945, 11313347, 11550976, 11554946, 11555008, 11555009, 11558912, 11558976, 11558977, 11317377, 11559040, 11559041, 11555073, 11555011, 11559042, 11559104, 11559105, 11317442, 11550980, 11563008, 11563072, 11563073, 11559168, 11563136, 11563137, 11309445, 11559170, 11563138, 11563200, 11563201, 11317569, 11559232, 11563202, 11317570, 11567104, 11567168, 11567169, 11563203, 11567232, 11567233, 11559235, 11317633, 11567234, 11567296, 11567297, 11563329, 11559298, 11567298, 11563330, 11317635, 11567360, 11571200, 11571264, 11571265, 11567362, 11571328, 11571329, 11325569, 11559300, 11796480, 11800576, 11800640, 11800641, 11804672, 11804736, 11804737, 11567364, 11804800, 11808768, 11808832, 11808833, 11804802, 11808896, 11808897, 11575424, 11812864, 11812928, 11812929, 11808961, 11812992, 11812993, 11808962, 8519680, 11812994, 11816960, 11817024, 11817025, 11575553, 11817088, 11817089, 11575554, 11813120, 11817090, 11817152, 11817153, 11821056, 11821120, 11821121, 11567616, 11821184, 11821185, 11817217, 11817155, 11821186, 11821248, 11821249, 11575680, 11813124, 11825152, 11825216, 11825217, 11821312, 11825280, 11825281, 11583488, 11821314, 11825282, 11825344, 11825345, 11583617, 11821376, 11825346, 11583618, 11829248, 11829312, 11829313, 11825347, 11829376, 11829377, 11821379, 11583744, 11829378, 11829440, 11829441, 11825473, 11821442, 11829442, 11825474, 11575810, 11829504, 11833344, 11833408, 11833409, 11829506, 11833472, 11833473, 11583748, 11821444, 11833474, 11833536, 12058624, 12062720, 12062784, 12062785, 12066816, 12066880, 12066881, 11833601, 12066944, 12070912, 12070976, 12070977, 12066946, 12071040, 12071041, 11833664, 12075008, 12075072, 12075073, 12071105, 12075136, 12075137, 12071106, 11829697, 12075138, 12079104, 12079168, 12079169, 11584000, 12079232, 12079233, 11841600, 12075264, 12079234, 12079296, 12079297, 12083200, 12083264, 12083265, 11841728, 12083328, 12083329, 12079361, 12079299, 12083330, 12083392, 12083393, 11841793, 12075268, 12087296, 12087360, 12087361, 12083456, 12087424, 12087425, 11845697, 12083458, 12087426, 12087488, 12087489, 10584064, 12083520, 12087490, 11845825, 12091392, 12091456, 12091457, 12087491, 12091520, 12091521, 12083523, 11845827, 12091522, 12091584, 12091585, 12087617, 12083586, 12091586, 12087618, 11849792, 12091648, 12095488, 12095552, 12095553, 12091650, 12095616, 12095617, 11849920, 12083588, 12095618, 12095680, 12095681, 11600128, 12320768, 12324864, 12324928, 12324929, 12328960, 12329024, 12329025, 12099584, 12329088, 12333056, 12333120, 12333121, 12329090, 12333184, 12333185, 12099714, 12337152, 12337216, 12337217, 12333249, 12337280, 12337281, 12333250, 12099840, 12337282, 12341248, 12341312, 12341313, 12103680, 12341376, 12341377, 11584260, 12337408, 12341378, 12341440, 12341441, 12345344, 12345408, 12345409, 12099844, 12345472, 12345473, 12341505, 12341443, 12345474, 12345536, 12345537, 12099970, 12337412, 12349440, 12349504, 12349505, 12345600, 12349568, 12349569, 12107904, 12345602, 12349570, 12349632, 12349633, 12107968, 12345664, 12349634, 11600388, 12353536, 12353600, 12353601, 12349635, 12353664, 12353665, 12345667, 12108034, 12353666, 12353728, 12353729, 12349761, 12345730, 12353730, 12349762, 12099974, 12353792, 12357632, 12357696, 12357697, 12353794, 12357760, 12357761, 12108160, 12345732, 12357762, 12357824, 12357825, 12112128, 12353858, 12357826, 12582912, 12587008, 12587072, 12587073, 12591104, 12591168, 12591169, 12361793, 12591232, 12595200, 12595264, 12595265, 12591234, 12595328, 12595329, 12361921, 12599296, 12599360, 12599361, 12595393, 12599424, 12599425, 12595394, 12361923, 12599426, 12603392, 12603456, 12603457, 12365889, 12603520, 12603521, 12365953, 12599552, 12603522, 12603584, 12603585, 12607488, 12607552, 12607553, 12366018, 12607616, 12607617, 12603649, 12603587, 12607618, 12607680, 12607681, 12358021, 12599556, 12611584, 12611648, 12611649, 12607744, 12611712, 12611713, 12366146, 12607746, 12611714, 12611776, 12611777, 12366147, 12607808, 12611778, 12366209, 12615680, 12615744, 12615745, 12611779, 12615808, 12615809, 12607811, 12366211, 12615810, 12615872, 12615873, 12611905, 12607874, 12615874, 12611906, 12374145, 12615936, 12619776, 12619840, 12619841, 12615938, 12619904, 12619905, 12374210, 12607876, 12619906, 12619968, 12619969, 12374211, 12616002, 12619970, 12362307, 12615940, 12845056, 12849152, 12849216, 12849217, 12853248, 12853312, 12853313, 12624000, 12853376, 12857344, 12857408, 12857409, 12853378, 12857472, 12857473, 12116610, 12861440, 12861504, 12861505, 12857537, 12861568, 12861569, 12857538, 12624130, 12861570, 12865536, 12865600, 12865601, 12628096, 12865664, 12865665, 12616192, 12861696, 12865666, 12865728, 12865729, 12869632, 12869696, 12869697, 12624256, 12869760, 12869761, 12865793, 12865731, 12869762, 12869824, 12869825, 12632064, 12861700, 12873728, 12873792, 12873793, 12869888, 12873856, 12873857, 12632194, 12869890, 12873858, 12873920, 12873921, 12632258, 12869952, 12873922, 12632320, 12877824, 12877888, 12877889, 12873923, 12877952, 12877953, 12869955, 12624386, 12877954, 12878016, 12878017, 12874049, 12870018, 12878018, 12874050, 12632324, 12878080, 12881920, 12881984, 12881985, 12878082, 12882048, 12882049, 12632450, 12870020, 12882050, 12882112, 12882113, 12636418, 12878146, 12882114, 12616200, 12878084, 12882176, 12882177, 13107200, 13111296, 13111360, 13111361, 13115392, 13115456, 13115457, 12882240, 13115520, 13119488, 13119552, 13119553, 13115522, 13119616, 13119617, 12878273, 13123584, 13123648, 13123649, 13119681, 13123712, 13123713, 13119682, 12890176, 13123714, 13127680, 13127744, 13127745, 12632580, 13127808, 13127809, 12890304, 13123840, 13127810, 13127872, 13127873, 13131776, 13131840, 13131841, 12890369, 13131904, 13131905, 13127937, 13127875, 13131906, 13131968, 13131969, 12894273, 13123844, 13135872, 13135936, 13135937, 13132032, 13136000, 13136001, 12894401, 13132034, 13136002, 13136064, 13136065, 12648448, 13132096, 13136066, 12894403, 13139968, 13140032, 13140033, 13136067, 13140096, 13140097, 13132099, 12898368, 13140098, 13140160, 13140161, 13136193, 13132162, 13140162, 13136194, 12898496, 13140224, 13144064, 13144128, 13144129, 13140226, 13144192, 13144193, 12898561, 13132164, 13144194, 13144256, 13144257, 12648708, 13140290, 13144258, 12898624, 13140228, 13144320, 13144321, 13144259, 13148160, 13369344, 13373440, 13373504, 13373505, 13377536, 13377600, 13377601, 13148290, 13377664, 13381632, 13381696, 13381697, 13377666, 13381760, 13381761, 13148416, 13385728, 13385792, 13385793, 13381825, 13385856, 13385857, 13381826, 12648960, 13385858, 13389824, 13389888, 13389889, 13152386, 13389952, 13389953, 13148420, 13385984, 13389954, 13390016, 13390017, 13393920, 13393984, 13393985, 13148546, 13394048, 13394049, 13390081, 13390019, 13394050, 13394112, 13394113, 13156480, 13385988, 13398016, 13398080, 13398081, 13394176, 13398144, 13398145, 12632840, 13394178, 13398146, 13398208, 13398209, 13156609, 13394240, 13398210, 13156610, 13402112, 13402176, 13402177, 13398211, 13402240, 13402241, 13394243, 13148550, 13402242, 13402304, 13402305, 13398337, 13394306, 13402306, 13398338, 13156736, 13402368, 13406208, 13406272, 13406273, 13402370, 13406336, 13406337, 12648968, 13394308, 13406338, 13406400, 13406401, 13156800, 13402434, 13406402, 13164544, 13402372, 13406464, 13406465, 13406403, 13410304, 13410368, 13410369, 13631488, 13635584, 13635648, 13635649, 13639680, 13639744, 13639745, 13410497, 13639808, 13643776, 13643840, 13643841, 13639810, 13643904, 13643905, 13410499, 13647872, 13647936, 13647937, 13643969, 13648000, 13648001, 13643970, 13414529, 13648002, 13651968, 13652032, 13652033, 13414593, 13652096, 13652097, 13414594, 13648128, 13652098, 13652160, 13652161, 13656064, 13656128, 13656129, 13406597, 13656192, 13656193, 13652225, 13652163, 13656194, 13656256, 13656257, 13414722, 13648132, 13660160, 13660224, 13660225, 13656320, 13660288, 13660289, 13414785, 13656322, 13660290, 13660352, 13660353, 13406785, 13656384, 13660354, 13414787, 13664256, 13664320, 13664321, 13660355, 13664384, 13664385, 13656387, 13422721, 13664386, 13664448, 13664449, 13660481, 13656450, 13664450, 13660482, 13422786, 13664512, 13668352, 13668416, 13668417, 13664514, 13668480, 13668481, 13410883, 13656452, 13668482, 13668544, 13668545, 13422913, 13664578, 13668546, 13426753, 13664516, 13668608, 13668609, 13668547, 13672448, 13672512, 13672513, 13426881, 13672576, 13893632, 13897728, 13897792, 13897793, 13901824, 13901888, 13901889, 12649472, 13901952, 13905920, 13905984, 13905985, 13901954, 13906048, 13906049, 13672706, 13910016, 13910080, 13910081, 13906113, 13910144, 13910145, 13906114, 13664768, 13910146, 13914112, 13914176, 13914177, 13668740, 13914240, 13914241, 13672832, 13910272, 13914242, 13914304, 13914305, 13918208, 13918272, 13918273, 13680640, 13918336, 13918337, 13914369, 13914307, 13918338, 13918400, 13918401, 13680770, 13910276, 13922304, 13922368, 13922369, 13918464, 13922432, 13922433, 13680896, 13918466, 13922434, 13922496, 13922497, 13672961, 13918528, 13922498, 13672962, 13926400, 13926464, 13926465, 13922499, 13926528, 13926529, 13918531, 13680900, 13926530, 13926592, 13926593, 13922625, 13918594, 13926594, 13922626, 13681026, 13926656, 13930496, 13930560, 13930561, 13926658, 13930624, 13930625, 13664776, 13918596, 13930626, 13930688, 13930689, 13688896, 13926722, 13930690, 13688960, 13926660, 13930752, 13930753, 13930691, 13934592, 13934656, 13934657, 13681152, 13934720, 13934721, 13930816, 14155776, 14159872, 14159936, 14159937, 14163968, 14164032, 14164033, 13926849, 14164096, 14168064, 14168128, 14168129, 14164098, 14168192, 14168193, 13938752, 14172160, 14172224, 14172225, 14168257, 14172288, 14172289, 14168258, 13938880, 14172290, 14176256, 14176320, 14176321, 12681728, 14176384, 14176385, 13938945, 14172416, 14176386, 14176448, 14176449, 14180352, 14180416, 14180417, 13942849, 14180480, 14180481, 14176513, 14176451, 14180482, 14180544, 14180545, 13942977, 14172420, 14184448, 14184512, 14184513, 14180608, 14184576, 14184577, 13942979, 14180610, 14184578, 14184640, 14184641, 13697280, 14180672, 14184642, 13946944, 14188544, 14188608, 14188609, 14184643, 14188672, 14188673, 14180675, 13947072, 14188674, 14188736, 14188737, 14184769, 14180738, 14188738, 14184770, 13947137, 14188800, 14192640, 14192704, 14192705, 14188802]
theorem WT_chk : chkW WT 1 = true := by decide +kernel
theorem WT_len : WT.length = 3000 := by decide +kernel
theorem chkW_at : ∀ (l : List Nat) (m : Nat), chkW l m = true → ∀ i, i < l.length → okW (l.getD i 0) (m + i) = true
  | w :: r, m, h, i, hi => by
    unfold chkW at h
    obtain ⟨h1, h2⟩ := Bool.and_eq_true_iff.mp h
    cases i with
    | zero => exact h1
    | succ i =>
      have := chkW_at r (m + 1) h2 i (by simpa using hi)
      rw [show m + (i + 1) = m + 1 + i by omega]
      simpa using this
  | [], _, _, i, hi => by simp at hi
theorem wit {m : Nat} (h0 : 1 ≤ m) (h : m ≤ 3000) : ∃ a b x y : Nat, y ≤ x ∧ x ≤ b ∧ b ≤ a ∧ a * a + b * b + x * x + y * y = m := by
  have := chkW_at _ _ WT_chk (m - 1) (by rw [WT_len]; omega)
  rw [show 1 + (m - 1) = m by omega] at this
  simp only [okW, Bool.and_eq_true] at this
  obtain ⟨h1, h2, h3, h4⟩ := this
  exact ⟨_, _, _, _, Nat.le_of_ble_eq_true h3, Nat.le_of_ble_eq_true h1, Nat.le_of_ble_eq_true h2, Nat.eq_of_beq_eq_true h4⟩
theorem root_at {n : Int} (h0 : 0 ≤ n) (h : n ≤ 3000) : ∃ r, n_whole_root n = some r ∧ 0 ≤ r ∧ r * r ≤ n ∧ n < (r + 1) * (r + 1) := by
  unfold n_whole_root
  rw [letV_eq]
  obtain ⟨s, h1, ⟨h2, h3, h4, h5, h6⟩, h7⟩ := nwh_inv (c := fun s3 : Int × Int => some (ilt (1 : Int) (s3.2 - s3.1))) (b := nb_whole_root_0 n)
    (fun s => 0 ≤ s.1 ∧ s.1 * s.1 ≤ n ∧ n < s.2 * s.2 ∧ s.1 < s.2 ∧ s.2 ≤ n + 1) (fun s => ilt (1 : Int) (s.2 - s.1)) (fun s => (s.2 - s.1).toNat) (fun _ _ => rfl) (fun s ⟨h2, h3, h4, h5, h6⟩ hc => by
      obtain ⟨lo, hi⟩ := s
      dsimp only at h2 h3 h4 h5 h6 hc ⊢
      rw [ilt_eq, decide_eq_true_eq] at hc
      unfold nb_whole_root_0
      dsimp only
      rw [gdiv_pos (by decide) (by decide), Option.bind_some]
      have b1 : lo + 1 ≤ (lo + hi) / 2 := by omega
      have b2 : (lo + hi) / 2 ≤ hi - 1 := by omega
      generalize (lo + hi) / 2 = c at *
      have bc : Bd 20 c := Bd.of (c := 10000) (by omega) (by omega)
      rw [gmul_bd bc bc, Option.bind_some, ile_eq]
      by_cases hle : c * c ≤ n
      · rw [decide_eq_true hle]
        exact ⟨(c, hi), rfl, ⟨show 0 ≤ c by omega, hle, h4, show c < hi by omega, h6⟩, by show (hi - c).toNat < (hi - lo).toNat; omega⟩
      · rw [decide_eq_false hle]
        exact ⟨(lo, c), rfl, ⟨h2, h3, show n < c * c by omega, show lo < c by omega, show c ≤ n + 1 by omega⟩, by show (c - lo).toNat < (hi - lo).toNat; omega⟩) fuel (0, n + 1) ⟨Int.le_refl 0, by show (0 : Int) * 0 ≤ n; omega, by
        show n < (n + 1) * (n + 1)
        have := Int.mul_le_mul_of_nonneg_left (show (1 : Int) ≤ n + 1 by omega) (show (0 : Int) ≤ n + 1 by omega)
        omega, by show (0 : Int) < n + 1; omega, by show n + 1 ≤ n + 1; omega⟩ (by show (n + 1 - 0).toNat < 1048576; omega)
  rw [h1]
  refine ⟨s.1, rfl, h2, h3, ?_⟩
  rw [ilt_eq, decide_eq_false_iff_not] at h7
  have : s.2 = s.1 + 1 := by omega
  rw [← this]
  exact h4
def rt (n : Int) : Int := (n_whole_root n).getD 0
theorem rt_at {n : Int} (h0 : 0 ≤ n) (h : n ≤ 3000) : n_whole_root n = some (rt n) ∧ 0 ≤ rt n ∧ rt n * rt n ≤ n ∧ n < (rt n + 1) * (rt n + 1) := by
  obtain ⟨r, h1, h2⟩ := root_at h0 h
  unfold rt
  rw [h1]
  exact ⟨rfl, h2⟩
theorem sq_mono {x y : Int} (h0 : 0 ≤ x) (h : x ≤ y) : x * x ≤ y * y := Int.mul_le_mul h h h0 (by omega)
theorem sq_le {x r n : Int} (h0 : 0 ≤ r) (h : n < (r + 1) * (r + 1)) (h1 : x * x ≤ n) : x ≤ r := by
  refine Int.not_lt.mp fun hc => ?_
  have := sq_mono (show (0 : Int) ≤ r + 1 by omega) (show r + 1 ≤ x by omega)
  omega
theorem rt_sm {n : Int} (h0 : 0 ≤ n) (h : n ≤ 3000) : rt n ≤ 54 := by
  obtain ⟨_, h1, h2, _⟩ := rt_at h0 h
  refine Int.not_lt.mp fun hc => ?_
  have := sq_mono (show (0 : Int) ≤ 55 by decide) (show 55 ≤ rt n by omega)
  omega
abbrev En3 := List Int × Int × Int
def En (q : Int) (x : En3) (a : Int) : List En3 := if x.2.1 ≤ q * a * a then [(x.1 ++ [a], x.2.1 - a * a, a)] else []
theorem nb2_at {many lap : Int} {x : En3} (hq : 0 ≤ many - lap ∧ many - lap ≤ 4) (hx : x.1.length ≤ 10) : ∀ (l : List Int) (s : List En3), (∀ a ∈ l, 0 ≤ a ∧ a ≤ 100) → s.length + l.length ≤ 100000 → nfor (nb_falling_squares_2 many lap x) l s = some (s ++ l.flatMap (En (many - lap) x))
  | [], s, _, _ => by
    unfold nfor
    simp
  | a :: r, s, h1, h2 => by
    have ha := h1 a List.mem_cons_self
    have h2' : s.length + (r.length + 1) ≤ 100000 := h2
    have e : nb_falling_squares_2 many lap x a s = some (s ++ En (many - lap) x a) := by
      unfold nb_falling_squares_2
      have b1 : Bd 10 (many - lap) := Bd.of (c := 100) (by omega) (by omega)
      have b2 : Bd 10 a := Bd.of (c := 100) (by omega) (by omega)
      rw [gmul_bd b1 b2, Option.bind_some, gmul_bd (b1.mul b2) b2, Option.bind_some, ile_eq]
      unfold En
      by_cases hc : x.2.1 ≤ (many - lap) * a * a
      · rw [decide_eq_true hc, if_pos hc, gmul_bd b2 b2, gcat_len (by simp; omega)]
        dsimp only [cond_true, Option.bind_some]
        rw [gapp_len (by omega)]
        rfl
      · rw [decide_eq_false hc, if_neg hc, List.append_nil]
        rfl
    have hl : (En (many - lap) x a).length ≤ 1 := by
      unfold En
      split <;> simp
    unfold nfor
    rw [e, Option.bind_some, nb2_at hq hx r _ (fun b hb => h1 b (List.mem_cons_of_mem _ hb)) (by rw [List.length_append]; omega), List.flatMap_cons, List.append_assoc]
theorem en_len {q : Int} {x : En3} : ∀ l : List Int, (l.flatMap (En q x)).length ≤ l.length
  | [] => by simp
  | a :: r => by
    have := en_len (q := q) (x := x) r
    have hl : (En q x a).length ≤ 1 := by
      unfold En
      split <;> simp
    rw [List.flatMap_cons, List.length_append, List.length_cons]
    omega
def Ln (q : Int) (x : En3) : List En3 := (irg 0 (imin x.2.2 (rt x.2.1) + 1).toNat).flatMap (En q x)
theorem Ln_len {q : Int} {x : En3} (h0 : 0 ≤ x.2.1) (h1 : x.2.1 ≤ 3000) : (Ln q x).length ≤ 55 := by
  have hr := rt_sm h0 h1
  refine Nat.le_trans (en_len _) ?_
  rw [irg_len]
  unfold imin
  split <;> omega
theorem nb1_at {many lap : Int} {x : En3} (hq : 0 ≤ many - lap ∧ many - lap ≤ 4) (hx : x.1.length ≤ 10) (h0 : 0 ≤ x.2.1) (h1 : x.2.1 ≤ 3000) (h2 : 0 ≤ x.2.2) (s : List En3) (hs : s.length ≤ 90000) : nb_falling_squares_1 many lap x s = some (s ++ Ln (many - lap) x) := by
  have hr := rt_sm h0 h1
  obtain ⟨r1, r2, _, _⟩ := rt_at h0 h1
  unfold nb_falling_squares_1
  have hm : 0 ≤ imin x.2.2 (rt x.2.1) ∧ imin x.2.2 (rt x.2.1) ≤ 54 := by
    unfold imin
    split <;> omega
  rw [r1, Option.bind_some, grng_sm (by decide) (by omega), Option.bind_some, Int.sub_zero, nb2_at hq hx _ _ (fun a ha => ?_) (by rw [irg_len]; omega)]
  · rfl
  · obtain ⟨k, hk, rfl⟩ := mem_irg ha
    omega
theorem nb1_all {many lap : Int} (hq : 0 ≤ many - lap ∧ many - lap ≤ 4) : ∀ (l : List En3) (s : List En3), (∀ x ∈ l, x.1.length ≤ 10 ∧ 0 ≤ x.2.1 ∧ x.2.1 ≤ 3000 ∧ 0 ≤ x.2.2) → s.length + 55 * l.length ≤ 90000 → nfor (nb_falling_squares_1 many lap) l s = some (s ++ l.flatMap (Ln (many - lap)))
  | [], s, _, _ => by
    unfold nfor
    simp
  | x :: r, s, h1, h2 => by
    obtain ⟨a1, a2, a3, a4⟩ := h1 x List.mem_cons_self
    have h2' : s.length + 55 * (r.length + 1) ≤ 90000 := h2
    have hl := Ln_len (q := many - lap) a2 a3
    unfold nfor
    rw [nb1_at hq a1 a2 a3 a4 s (by omega), Option.bind_some, nb1_all hq r _ (fun b hb => h1 b (List.mem_cons_of_mem _ hb)) (by rw [List.length_append]; omega), List.flatMap_cons, List.append_assoc]
theorem mem_En {q : Int} {x y : En3} {a : Int} : y ∈ En q x a ↔ x.2.1 ≤ q * a * a ∧ y = (x.1 ++ [a], x.2.1 - a * a, a) := by
  unfold En
  split
  · rename_i h
    simp [h]
  · rename_i h
    simp [h]
theorem mem_irg' {a : Int} {n : Nat} : a ∈ irg 0 n ↔ 0 ≤ a ∧ a < n := by
  constructor
  · intro h
    obtain ⟨k, hk, rfl⟩ := mem_irg h
    omega
  · rintro ⟨h1, h2⟩
    unfold irg
    exact List.mem_map.mpr ⟨a.toNat, List.mem_range.mpr (by omega), by omega⟩
theorem mem_Ln {q : Int} {x y : En3} (h0 : 0 ≤ x.2.1) (h1 : x.2.1 ≤ 3000) (h2 : 0 ≤ x.2.2) : y ∈ Ln q x ↔ ∃ a, 0 ≤ a ∧ a ≤ x.2.2 ∧ a * a ≤ x.2.1 ∧ x.2.1 ≤ q * a * a ∧ y = (x.1 ++ [a], x.2.1 - a * a, a) := by
  obtain ⟨r1, r2, r3, r4⟩ := rt_at h0 h1
  unfold Ln
  rw [List.mem_flatMap]
  have hm : imin x.2.2 (rt x.2.1) ≤ x.2.2 ∧ imin x.2.2 (rt x.2.1) ≤ rt x.2.1 ∧ 0 ≤ imin x.2.2 (rt x.2.1) := by
    unfold imin
    split <;> omega
  constructor
  · rintro ⟨a, ha, hy⟩
    obtain ⟨m1, m2⟩ := mem_irg'.mp ha
    obtain ⟨e1, e2⟩ := mem_En.mp hy
    have := sq_mono m1 (show a ≤ rt x.2.1 by omega)
    exact ⟨a, m1, by omega, by omega, e1, e2⟩
  · rintro ⟨a, a1, a2, a3, a4, a5⟩
    have := sq_le r2 r4 a3
    refine ⟨a, mem_irg'.mpr ⟨a1, ?_⟩, mem_En.mpr ⟨a4, a5⟩⟩
    unfold imin
    split <;> omega
theorem fall_at {k b : Int} (h0 : 0 ≤ k) (h1 : k ≤ 3000) (h2 : 0 ≤ b) : ∃ l, n_falling_squares k 2 b = some l ∧ (∀ w ∈ l, ∃ x y, w = [x, y] ∧ x * x + y * y = k) ∧ ∀ x y, 0 ≤ y → y ≤ x → x ≤ b → x * x + y * y = k → l ≠ [] := by
  have e1 := nb1_all (many := 2) (lap := 0) (by decide) [([], k, b)] [] (fun x hx => by
    obtain rfl := List.mem_singleton.mp hx
    exact ⟨Nat.zero_le _, h0, h1, h2⟩) (by show 0 + 55 * 1 ≤ 90000; decide)
  rw [List.nil_append, List.flatMap_cons, List.flatMap_nil, List.append_nil] at e1
  have m1 : ∀ y, y ∈ Ln (2 - 0) ([], k, b) ↔ _ := fun y => mem_Ln (x := ([], k, b)) h0 h1 h2
  have l1 := Ln_len (q := 2 - 0) (x := ([], k, b)) h0 h1
  generalize Ln (2 - 0) ([], k, b) = L1 at *
  have pr : ∀ x ∈ L1, x.1.length ≤ 10 ∧ 0 ≤ x.2.1 ∧ x.2.1 ≤ 3000 ∧ 0 ≤ x.2.2 := fun x hx => by
    obtain ⟨a, a1, a2, a3, a4, rfl⟩ := (m1 x).mp hx
    have := Int.mul_nonneg a1 a1
    dsimp only at a2 a3 a4 ⊢
    exact ⟨by simp, by omega, by omega, a1⟩
  have e2 := nb1_all (many := 2) (lap := 1) (by decide) L1 [] pr (by simp; omega)
  rw [List.nil_append] at e2
  have hl2 : (L1.flatMap (Ln (2 - 1))).length ≤ 55 * L1.length := by
    have : ∀ l : List En3, (∀ x ∈ l, 0 ≤ x.2.1 ∧ x.2.1 ≤ 3000) → (l.flatMap (Ln (2 - 1))).length ≤ 55 * l.length := by
      intro l
      induction l with
      | nil => intro _; simp
      | cons x r ih =>
        intro h
        obtain ⟨a1, a2⟩ := h x List.mem_cons_self
        have := Ln_len (q := 2 - 1) a1 a2
        have := ih fun y hy => h y (List.mem_cons_of_mem _ hy)
        rw [List.flatMap_cons, List.length_append, List.length_cons]
        omega
    exact this _ fun x hx => ⟨(pr x hx).2.1, (pr x hx).2.2.1⟩
  have m2 : ∀ y, y ∈ L1.flatMap (Ln (2 - 1)) ↔ ∃ a c, 0 ≤ a ∧ a ≤ b ∧ a * a ≤ k ∧ k ≤ 2 * a * a ∧ 0 ≤ c ∧ c ≤ a ∧ c * c ≤ k - a * a ∧ k - a * a ≤ c * c ∧ y = ([a, c], k - a * a - c * c, c) := fun y => by
    rw [List.mem_flatMap]
    constructor
    · rintro ⟨x, hx, hy⟩
      obtain ⟨p1, p2, p3, p4⟩ := pr x hx
      obtain ⟨c, c1, c2, c3, c4, rfl⟩ := (mem_Ln p2 p3 p4).mp hy
      obtain ⟨a, a1, a2, a3, a4, rfl⟩ := (m1 x).mp hx
      exact ⟨a, c, a1, a2, a3, by simpa using a4, c1, c2, c3, by simpa using c4, by simp⟩
    · rintro ⟨a, c, a1, a2, a3, a4, c1, c2, c3, c4, rfl⟩
      have hx : (([a], k - a * a, a) : En3) ∈ L1 := (m1 _).mpr ⟨a, a1, a2, a3, by simpa using a4, by simp⟩
      obtain ⟨p1, p2, p3, p4⟩ := pr _ hx
      exact ⟨_, hx, (mem_Ln p2 p3 p4).mpr ⟨c, c1, c2, c3, by simpa using c4, by simp⟩⟩
  generalize L1.flatMap (Ln (2 - 1)) = L2 at *
  refine ⟨(L2.filter fun x => decide (x.2.1 = 0)).map fun x => x.1, ?_, ?_, ?_⟩
  · unfold n_falling_squares
    rw [letV_eq, grng_sm (by decide) (by decide), Option.bind_some]
    have : irg 0 ((2 : Int) - 0).toNat = [0, 1] := by decide
    rw [this]
    have f1 : nfor (nb_falling_squares_0 2) [0, 1] [([], k, b)] = some L2 := by
      unfold nfor nfor nfor
      unfold nb_falling_squares_0
      rw [e1, Option.bind_some, gln_len (by omega), Option.bind_some, Option.bind_some, e2, Option.bind_some, gln_len (by omega)]
      rfl
    rw [f1, Option.bind_some, glt_len (by omega), Option.bind_some, nlc_ok (p := fun x : En3 => decide (x.2.1 = 0)) (f := fun x : En3 => x.1) (fun x _ => by rw [ieq_eq]) (fun _ _ _ => rfl)]
    rfl
  · intro w hw
    obtain ⟨x, hx, rfl⟩ := List.mem_map.mp hw
    obtain ⟨hx1, hx2⟩ := List.mem_filter.mp hx
    obtain ⟨a, c, a1, a2, a3, a4, c1, c2, c3, c4, rfl⟩ := (m2 x).mp hx1
    rw [decide_eq_true_eq] at hx2
    dsimp only at hx2 ⊢
    exact ⟨a, c, rfl, by omega⟩
  · intro x y y0 yx xb e hn
    have hy := Int.mul_nonneg y0 y0
    have hyx := sq_mono y0 yx
    have : (([x, y], k - x * x - y * y, y) : En3) ∈ L2 := (m2 _).mpr ⟨x, y, by omega, xb, by omega, by rw [Int.mul_assoc]; omega, y0, yx, by omega, by omega, rfl⟩
    have h3 : [x, y] ∈ (L2.filter fun x => decide (x.2.1 = 0)).map fun x => x.1 := List.mem_map.mpr ⟨_, List.mem_filter.mpr ⟨this, decide_eq_true (show k - x * x - y * y = 0 by omega)⟩, rfl⟩
    rw [hn] at h3
    cases h3
theorem rc_down : ((List.range 61).all fun c => rcOk (c : Int) (-1) (-1) && Nat.beq (Builtin.Range.rangeSize (c : Int) (-1) (-1)).toNat (c + 1)) = true := by decide +kernel
theorem down_at {c : Int} (h0 : 0 ≤ c) (h : c ≤ 60) : ∃ l, grng3 c (-(1 : Int)) (-(1 : Int)) = some l ∧ ∀ x, x ∈ l ↔ 0 ≤ x ∧ x ≤ c := by
  obtain ⟨n, rfl⟩ := Int.eq_ofNat_of_zero_le h0
  obtain ⟨r1, r2⟩ := Bool.and_eq_true_iff.mp (all_range rc_down (show n < 61 by omega))
  have r2 := Nat.eq_of_beq_eq_true r2
  refine ⟨irgC n (-1) (n + 1), ?_, fun x => ?_⟩
  · unfold grng3
    rw [show (-(1 : Int)) = -1 from rfl, r1, r2]
    rfl
  · unfold irgC
    rw [List.mem_map]
    constructor
    · rintro ⟨k, hk, rfl⟩
      have := List.mem_range.mp hk
      omega
    · rintro ⟨h1, h2⟩
      exact ⟨((n : Int) - x).toNat, List.mem_range.mpr (by omega), by omega⟩
def Good (n : Int) (g : Option (List Int)) : Prop := ∃ a b x y, g = some [a, b, x, y] ∧ a * a + b * b + x * x + y * y = n
theorem any1_at {n a b : Int} (hn : n ≤ 3000) (ha : a * a ≤ n) (hb0 : 0 ≤ b) (hb : b * b ≤ n - a * a) : (nb_any_four_squares_1 a (n - a * a) b () = some (.nx ()) ∨ ∃ g, nb_any_four_squares_1 a (n - a * a) b () = some (.rt g) ∧ Good n g) ∧
    ∀ x y, 0 ≤ y → y ≤ x → x ≤ b → a * a + b * b + x * x + y * y = n → ∃ g, nb_any_four_squares_1 a (n - a * a) b () = some (.rt g) := by
  have ha0 : 0 ≤ a * a := by
    rcases Int.le_total 0 a with h | h
    · exact Int.mul_nonneg h h
    · have := Int.mul_nonneg (show 0 ≤ -a by omega) (show 0 ≤ -a by omega)
      rw [Int.neg_mul_neg] at this
      exact this
  obtain ⟨l, f1, f2, f3⟩ := fall_at (k := n - a * a - b * b) (b := b) (by omega) (by have := Int.mul_nonneg hb0 hb0; omega) hb0
  have bb : Bd 20 b := by
    refine Bd.of (c := 3000) (by omega) (Int.not_lt.mp fun hc => ?_)
    have := sq_mono (show (0 : Int) ≤ 3000 by decide) (show 3000 ≤ b by omega)
    omega
  have e : nb_any_four_squares_1 a (n - a * a) b () = (bif (!l.isEmpty) then (gix l (0 : Int)).bind fun c20 => (glt ([a] ++ [b] ++ c20)).bind fun _ => some (.rt (some ([a] ++ [b] ++ c20))) else some (.nx ())) := by
    unfold nb_any_four_squares_1
    rw [gmul_bd bb bb, Option.bind_some, f1, Option.bind_some]
  rw [e]
  cases l with
  | nil => exact ⟨Or.inl rfl, fun x y y0 yx xb q => absurd rfl (f3 x y y0 yx xb (by omega))⟩
  | cons w r =>
    obtain ⟨x, y, rfl, hxy⟩ := f2 w List.mem_cons_self
    have e3 : (bif (!(([x, y] :: r : List (List Int)).isEmpty)) then (gix ([x, y] :: r) (0 : Int)).bind fun c20 => (glt ([a] ++ [b] ++ c20)).bind fun _ => some (Lp.rt (σ := Unit) (some ([a] ++ [b] ++ c20))) else some (.nx ())) = some (.rt (some [a, b, x, y])) := rfl
    rw [e3]
    exact ⟨Or.inr ⟨_, rfl, a, b, x, y, rfl, by omega⟩, fun _ _ _ _ _ _ => ⟨_, rfl⟩⟩
theorem any0_at {n a : Int} (hn : n ≤ 3000) (h0 : 0 ≤ a) (ha : a * a ≤ n) (ha2 : a ≤ 60) : (nb_any_four_squares_0 n a () = some (.nx ()) ∨ ∃ g, nb_any_four_squares_0 n a () = some (.rt g) ∧ Good n g) ∧
    ∀ b x y, 0 ≤ y → y ≤ x → x ≤ b → b ≤ a → a * a + b * b + x * x + y * y = n → ∃ g, nb_any_four_squares_0 n a () = some (.rt g) := by
  have hq := Int.mul_nonneg h0 h0
  obtain ⟨r1, r2, r3, r4⟩ := rt_at (n := n - a * a) (by omega) (by omega)
  have bb : Bd 20 a := Bd.of (c := 3000) (by omega) (by omega)
  have hm : imin a (rt (n - a * a)) ≤ a ∧ imin a (rt (n - a * a)) ≤ rt (n - a * a) ∧ 0 ≤ imin a (rt (n - a * a)) := by
    unfold imin
    split <;> omega
  obtain ⟨l, d1, d2⟩ := down_at hm.2.2 (by omega)
  have e : nb_any_four_squares_0 n a () = lend (nforR (nb_any_four_squares_1 a (n - a * a)) l ()) (fun _ => some (.nx ())) Lp.rt := by
    unfold nb_any_four_squares_0
    rw [gmul_bd bb bb, Option.bind_some, letV_eq, r1, Option.bind_some, d1, Option.bind_some]
  rw [e]
  have hb : ∀ b ∈ l, 0 ≤ b ∧ b * b ≤ n - a * a := fun b hb => by
    obtain ⟨b1, b2⟩ := (d2 b).mp hb
    have := sq_mono b1 (show b ≤ rt (n - a * a) by omega)
    exact ⟨b1, by omega⟩
  constructor
  · rcases nforR_or (P := Good n) l (fun b hbm => (any1_at hn ha (hb b hbm).1 (hb b hbm).2).1) with h | ⟨g, h, hg⟩
    · rw [h]
      exact Or.inl rfl
    · rw [h]
      exact Or.inr ⟨g, rfl, hg⟩
  · intro b x y y0 yx xb ba q
    have hx := Int.mul_nonneg (show 0 ≤ x by omega) (show 0 ≤ x by omega)
    have hy := Int.mul_nonneg y0 y0
    have hbm : b ∈ l := (d2 b).mpr ⟨by omega, by
      have := sq_le (x := b) r2 r4 (by omega)
      unfold imin
      split <;> omega⟩
    obtain ⟨g, hg, _⟩ := nforR_find (P := Good n) l (fun b hbm => (any1_at hn ha (hb b hbm).1 (hb b hbm).2).1) ⟨b, hbm, (any1_at hn ha (hb b hbm).1 (hb b hbm).2).2 x y y0 yx xb q⟩
    rw [hg]
    exact ⟨g, rfl⟩
theorem any_at {m : Nat} (h0 : 1 ≤ m) (h : m ≤ 3000) : ∃ a b x y : Int, n_any_four_squares (m : Int) = some (some [a, b, x, y]) ∧ a * a + b * b + x * x + y * y = m := by
  obtain ⟨a, b, x, y, yx, xb, ba, q⟩ := wit h0 h
  obtain ⟨r1, r2, r3, r4⟩ := rt_at (n := (m : Int)) (by omega) (by omega)
  have hs := rt_sm (n := (m : Int)) (by omega) (by omega)
  obtain ⟨l, d1, d2⟩ := down_at r2 (by omega)
  have e : n_any_four_squares (m : Int) = lend (nforR (nb_any_four_squares_0 (m : Int)) l ()) (fun _ => some none) (fun r => r) := by
    unfold n_any_four_squares
    rw [r1, Option.bind_some, d1, Option.bind_some]
  have hl : ∀ a ∈ l, 0 ≤ a ∧ a * a ≤ (m : Int) ∧ a ≤ 60 := fun a ha => by
    obtain ⟨b1, b2⟩ := (d2 a).mp ha
    have := sq_mono b1 b2
    exact ⟨b1, by omega, by omega⟩
  have qi : (a : Int) * a + (b : Int) * b + (x : Int) * x + (y : Int) * y = (m : Int) := by
    rw [← q]
    simp
  have hx := Int.mul_nonneg (show (0 : Int) ≤ x by omega) (show (0 : Int) ≤ x by omega)
  have hy := Int.mul_nonneg (show (0 : Int) ≤ y by omega) (show (0 : Int) ≤ y by omega)
  have hb := Int.mul_nonneg (show (0 : Int) ≤ b by omega) (show (0 : Int) ≤ b by omega)
  have ham : (a : Int) ∈ l := (d2 _).mpr ⟨by omega, sq_le r2 r4 (by omega)⟩
  obtain ⟨g, hg, a', b', x', y', rfl, hgood⟩ := nforR_find (P := Good (m : Int)) l (fun a ha => (any0_at (by omega) (hl a ha).1 (hl a ha).2.1 (hl a ha).2.2).1) ⟨a, ham, (any0_at (by omega) (hl _ ham).1 (hl _ ham).2.1 (hl _ ham).2.2).2 b x y (by omega) (by omega) (by omega) (by omega) qi⟩
  refine ⟨a', b', x', y', ?_, hgood⟩
  rw [e, hg]
  rfl
end K25
namespace K25
open PySem Fe Te Dv
/-! ## products of fours -/
def W0 (a b c d e f g h : Int) : Int := a * e - b * f - c * g - d * h
def W1 (a b c d e f g h : Int) : Int := a * f + b * e + c * h - d * g
def W2 (a b c d e f g h : Int) : Int := a * g - b * h + c * e + d * f
def W3 (a b c d e f g h : Int) : Int := a * h + b * g - c * f + d * e
theorem half {x w : Int} (h : x = 2 * w * 2) : x / 2 = 2 * w := by
  rw [h]
  exact Int.mul_ediv_cancel _ (by decide)
theorem mul22 {u v : Int} (hu : Bd 8 u) (hv : Bd 8 v) : gmul (2 * u) (2 * v) = some (2 * u * (2 * v)) := gmul_bd ((show Bd 2 2 by decide).mul hu) ((show Bd 2 2 by decide).mul hv)
theorem gdiv2 (x : Int) : gdiv x 2 = some (x / 2) := gdiv_pos (by decide) (by decide)
section
variable {a b c d e f g h : Int} (ha : Bd 8 a) (hb : Bd 8 b) (hc : Bd 8 c) (hd : Bd 8 d) (he : Bd 8 e) (hf : Bd 8 f) (hg : Bd 8 g) (hh : Bd 8 h)
include ha hb hc hd he hf hg hh
theorem prod_at : n_four_product [2 * a, 2 * b, 2 * c, 2 * d] [2 * e, 2 * f, 2 * g, 2 * h] = some [2 * W0 a b c d e f g h, 2 * W1 a b c d e f g h, 2 * W2 a b c d e f g h, 2 * W3 a b c d e f g h] := by
  simp only [n_four_product, un4, Option.bind_some, letV_eq, mul22 ha he, mul22 hb hf, mul22 hc hg, mul22 hd hh, mul22 ha hf, mul22 hb he, mul22 hc hh, mul22 hd hg, mul22 ha hg, mul22 hb hh, mul22 hc he, mul22 hd hf, mul22 ha hh, mul22 hb hg, mul22 hc hf, mul22 hd he, gdiv2]
  rw [half (w := W0 a b c d e f g h) (by unfold W0; grind), half (w := W1 a b c d e f g h) (by unfold W1; grind), half (w := W2 a b c d e f g h) (by unfold W2; grind), half (w := W3 a b c d e f g h) (by unfold W3; grind)]
theorem times_at : n_law_times [2 * a, 2 * b, 2 * c, 2 * d] [2 * e, 2 * f, 2 * g, 2 * h] = some [2 * W0 a b c d e f g h, 2 * W1 a b c d e f g h, 2 * W2 a b c d e f g h, 2 * W3 a b c d e f g h] := by
  simp only [n_law_times, un4, Option.bind_some, letV_eq, mul22 ha he, mul22 hb hf, mul22 hc hg, mul22 hd hh, mul22 ha hf, mul22 hb he, mul22 hc hh, mul22 hd hg, mul22 ha hg, mul22 hb hh, mul22 hc he, mul22 hd hf, mul22 ha hh, mul22 hb hg, mul22 hc hf, mul22 hd he]
  rw [gcat_len (by simp), Option.bind_some, glt_len (by simp), Option.bind_some]
  simp only [List.cons_append, List.nil_append, nmp, gdiv2, Option.bind_some]
  rw [half (w := W0 a b c d e f g h) (by unfold W0; grind), half (w := W1 a b c d e f g h) (by unfold W1; grind), half (w := W2 a b c d e f g h) (by unfold W2; grind), half (w := W3 a b c d e f g h) (by unfold W3; grind)]
theorem euler : W0 a b c d e f g h * W0 a b c d e f g h + W1 a b c d e f g h * W1 a b c d e f g h + W2 a b c d e f g h * W2 a b c d e f g h + W3 a b c d e f g h * W3 a b c d e f g h = (a * a + b * b + c * c + d * d) * (e * e + f * f + g * g + h * h) := by
  unfold W0 W1 W2 W3
  grind
end
theorem Wbd {a b c d e f g h : Int} (ha : Bd 8 a) (hb : Bd 8 b) (hc : Bd 8 c) (hd : Bd 8 d) (he : Bd 8 e) (hf : Bd 8 f) (hg : Bd 8 g) (hh : Bd 8 h) : Bd 24 (W0 a b c d e f g h) ∧ Bd 24 (W1 a b c d e f g h) ∧ Bd 24 (W2 a b c d e f g h) ∧ Bd 24 (W3 a b c d e f g h) :=
  ⟨((((ha.mul he).sub (hb.mul hf)).sub (hc.mul hg)).sub (hd.mul hh)).mono, ((((ha.mul hf).add (hb.mul he)).add (hc.mul hh)).sub (hd.mul hg)).mono, ((((ha.mul hg).sub (hb.mul hh)).add (hc.mul he)).add (hd.mul hf)).mono, ((((ha.mul hh).add (hb.mul hg)).sub (hc.mul hf)).add (hd.mul he)).mono⟩
theorem perm_sum {f : Int → Int} {l m : List Int} (h : l.Perm m) : (l.map f).sum = (m.map f).sum := by
  induction h with
  | nil => rfl
  | cons x _ ih => rw [List.map_cons, List.map_cons, List.sum_cons, List.sum_cons, ih]
  | swap x y l =>
    simp only [List.map_cons, List.sum_cons]
    omega
  | trans _ _ h1 h2 => rw [h1, h2]
theorem len4 {l : List Int} (h : l.length = 4) : ∃ a b c d, l = [a, b, c, d] := by
  match l, h with
  | [a, b, c, d], _ => exact ⟨a, b, c, d, rfl⟩
theorem len8 {l : List Int} (h : l.length = 8) : ∃ a b c d e f g i, l = [a, b, c, d, e, f, g, i] := by
  match l, h with
  | [a, b, c, d, e, f, g, i], _ => exact ⟨a, b, c, d, e, f, g, i, rfl⟩
def tailF (m n : Int) (s : Src) : Option (Lp Src Bool) :=
  (n_any_four_squares m).bind fun c64 => (n_any_four_squares n).bind fun c65 => (grng 0 (8 : Int)).bind fun l66 => (glt l66).bind fun _ => (nmpS (fun x67 s68 => (n_law_of s68 [(2 : Int), ((0 : Int) - (2 : Int))]).bind fun c69 => some (c69.1, c69.2)) l66 s).bind fun ys71 => (c64).bind fun u72 => (gln u72).bind fun c73 => (n_law_mixed ys71.2 c73).bind fun c74 => (gslL ys71.1 none (some (4 : Int))).bind fun r75 => (glt (c74.1.zip r75)).bind fun _ => (nmp (fun x76 => (gmul x76.1 x76.2).bind fun c77 => some c77) (c74.1.zip r75)).bind fun ys78 => (c65).bind fun u79 => (gln u79).bind fun c80 => (n_law_mixed c74.2 c80).bind fun c81 => (gslL ys71.1 (some (4 : Int)) none).bind fun r82 => (glt (c81.1.zip r82)).bind fun _ => (nmp (fun x83 => (gmul x83.1 x83.2).bind fun c84 => some c84) (c81.1.zip r82)).bind fun ys85 => (n_four_product ys78 ys85).bind fun c86 => (n_law_times ys78 ys85).bind fun c87 => (gsame (eqL ieq) (eS PyData.int) c86 c87).bind fun _ => (bif false then some true else (glt c86).bind fun _ => (nlc (fun x88 => (gdiv x88 (2 : Int)).bind fun c90 => (gmul c90 (2 : Int)).bind fun c91 => some (!ieq c91 x88)) (fun x88 => some x88) c86).bind fun ys89 => some (!ys89.isEmpty)).bind fun b92 => bif b92 then some (.rt false) else (n_four_norm c86).bind fun c93 => (gmul m n).bind fun c94 => (bif (!ieq c93 c94) then some true else (glt c86).bind fun _ => (nmp (fun x95 => (gdiv x95 (2 : Int)).bind fun c96 => (gdiv x95 (2 : Int)).bind fun c97 => (gmul c96 c97).bind fun c98 => some c98) c86).bind fun ys99 => (gmul m n).bind fun c100 => some (!ieq ys99.sum c100)).bind fun b101 => bif b101 then some (.rt false) else (gdiv n (2 : Int)).bind fun c102 => (gmul c102 (2 : Int)).bind fun c103 => (bif (!ieq c103 n) then (glt [(2 : Int), (4 : Int), (8 : Int)]).bind fun _ => (nmp (fun x104 => (gmul x104 n).bind fun c105 => (n_count_four_squares c105).bind fun c106 => some c106) [(2 : Int), (4 : Int), (8 : Int)]).bind fun ys107 => (n_count_four_squares n).bind fun c108 => (gmul (3 : Int) c108).bind fun c109 => (grepL [c109] (3 : Int)).bind fun r110 => some (!(eqL ieq) ys107 r110) else some false).bind fun b111 => bif b111 then some (.rt false) else some (.nx c81.2)
/-- a place with its sign -/
theorem signed {p s : Int} (hp : Bd 6 p) (hs : s = 2 ∨ s = 0 - 2) : ∃ u, p * s = 2 * u ∧ u * u = p * p ∧ Bd 8 u ∧ gmul p s = some (2 * u) := by
  have hg : gmul p s = some (p * s) := gmul_bd hp (l := 2) (by rcases hs with rfl | rfl <;> decide)
  rcases hs with rfl | rfl
  · exact ⟨p, by omega, rfl, hp.mono, by rw [hg]; congr 1; omega⟩
  · refine ⟨-p, by omega, Int.neg_mul_neg p p, ?_, by rw [hg]; congr 1; omega⟩
    have : p.natAbs < 2 ^ 6 := hp
    show (-p).natAbs < 2 ^ 8
    omega
theorem sq4 {a b c d n : Int} (h : a * a + b * b + c * c + d * d = n) (hn : n ≤ 3000) : Bd 6 a ∧ Bd 6 b ∧ Bd 6 c ∧ Bd 6 d := by
  have sq : ∀ x : Int, 0 ≤ x * x := fun x => by
    rcases Int.le_total 0 x with h | h
    · exact Int.mul_nonneg h h
    · have := Int.mul_nonneg (show 0 ≤ -x by omega) (show 0 ≤ -x by omega)
      rwa [Int.neg_mul_neg] at this
  have one : ∀ x : Int, x * x ≤ 3000 → Bd 6 x := fun x hx => by
    show x.natAbs < 64
    refine Nat.not_le.mp fun hc => ?_
    have h1 : 64 * 64 ≤ x.natAbs * x.natAbs := Nat.mul_le_mul hc hc
    have h2 : ((x.natAbs * x.natAbs : Nat) : Int) = x * x := by
      rw [Int.natCast_mul]
      exact Int.natAbs_mul_self' x
    omega
  have h1 := sq a
  have h2 := sq b
  have h3 := sq c
  have h4 := sq d
  exact ⟨one a (by omega), one b (by omega), one c (by omega), one d (by omega)⟩
/-- a row of four squares, mixed, with signs -/
theorem mixed_at (s : Src) {n : Nat} (h0 : 1 ≤ n) (h : n ≤ 3000) : ∃ o, n_any_four_squares (n : Int) = some (some o) ∧ o.length ≤ 16777216 ∧ ∃ p0 p1 p2 p3 s', n_law_mixed s o = some ([p0, p1, p2, p3], s') ∧ p0 * p0 + p1 * p1 + p2 * p2 + p3 * p3 = n ∧ Bd 6 p0 ∧ Bd 6 p1 ∧ Bd 6 p2 ∧ Bd 6 p3 := by
  obtain ⟨a, b, x, y, h1, h2⟩ := any_at h0 h
  obtain ⟨l', s', h3, h4⟩ := gmix_at (pickB_rng 104729 17) s [a, b, x, y] (show 4 < 1048576 by decide)
  obtain ⟨p0, p1, p2, p3, rfl⟩ := len4 (h3.length_eq)
  have h5 := perm_sum (f := fun x => x * x) h3
  simp only [List.map_cons, List.map_nil, List.sum_cons, List.sum_nil] at h5
  have h6 : p0 * p0 + p1 * p1 + p2 * p2 + p3 * p3 = n := by omega
  exact ⟨_, h1, show 4 ≤ 16777216 by decide, p0, p1, p2, p3, s', h4, h6, sq4 h6 (by omega)⟩
theorem signs_at (s : Src) : ∃ s0 s1 s2 s3 s4 s5 s6 s7 s', nmpS (fun x67 s68 => (n_law_of s68 [(2 : Int), ((0 : Int) - (2 : Int))]).bind fun c69 => some (c69.1, c69.2)) (irg 0 8) s = some ([s0, s1, s2, s3, s4, s5, s6, s7], s') ∧ ∀ z ∈ [s0, s1, s2, s3, s4, s5, s6, s7], z = 2 ∨ z = 0 - 2 := by
  obtain ⟨ys, s', h1, h2, h3⟩ := nmpS_ex (h := fun x67 s68 => (n_law_of s68 [(2 : Int), ((0 : Int) - (2 : Int))]).bind fun c69 => some (c69.1, c69.2)) (P := fun (_ : Int) z => z = (2 : Int) ∨ z = 0 - 2) (l := irg 0 8) (fun x _ s => by
    obtain ⟨a, s', ha, e⟩ := gof_at (pickB_rng 104729 17) s (l := [(2 : Int), ((0 : Int) - (2 : Int))]) (by decide) (by decide)
    refine ⟨a, s', ?_, by simpa using ha⟩
    have e : n_law_of s [(2 : Int), ((0 : Int) - (2 : Int))] = some (a, s') := e
    rw [e]
    rfl) s
  obtain ⟨s0, s1, s2, s3, s4, s5, s6, s7, rfl⟩ := len8 (h2.trans irg_len)
  refine ⟨s0, s1, s2, s3, s4, s5, s6, s7, s', h1, fun z hz => ?_⟩
  obtain ⟨i, hi, rfl⟩ := List.mem_iff_getElem.mp hz
  have hl : (irg 0 8).length = 8 := irg_len
  exact h3 i _ _ (List.getElem?_eq_getElem (by rw [hl]; exact hi)) (List.getElem?_eq_getElem hi)
theorem rep4 {a b c d : Int} (ha : Bd 30 a) (hb : Bd 30 b) (hc : Bd 30 c) (hd : Bd 30 d) : repOk (eS PyData.int [a, b, c, d]) = true := by
  have la := log2_lt (k := 30) (by decide) ha
  have lb := log2_lt (k := 30) (by decide) hb
  have lc := log2_lt (k := 30) (by decide) hc
  have ld := log2_lt (k := 30) (by decide) hd
  unfold repOk eS
  have p : ∀ x : Int, x.natAbs.log2 < 30 → plainD (.int x) = true := fun x hx => by
    rw [plainD]
    exact Nat.ble_eq_true_of_le (by omega)
  simp only [List.map_cons, List.map_nil]
  rw [plainD, plainA, plainA, plainA, plainA, plainA, p a la, p b lb, p c lc, p d ld]
  rw [shB, shBA, shBA, shBA, shBA, shBA, shB, shB, shB, shB, Nat.ble_eq_true_of_le (by omega)]
  rw [PyData.depth, PyData.depthAll, PyData.depthAll, PyData.depthAll, PyData.depthAll, PyData.depthAll, PyData.depth, PyData.depth, PyData.depth, PyData.depth]
  rfl
theorem eqL_self (l : List Int) : eqL ieq l l = true := (lawA qI l l).mpr rfl
theorem tail_ok {m n : Nat} (hm : 1 ≤ m) (hn : 1 ≤ n) (hn2 : n ≤ 370) (hmn : m * n ≤ 3000) (s : Src) : ∃ s', tailF (m : Int) (n : Int) s = some (.nx s') := by
  have hm2 : m ≤ 3000 := Nat.le_trans (Nat.le_mul_of_pos_right m (by omega)) hmn
  obtain ⟨s0, s1, s2, s3, s4, s5, s6, s7, t1, e1, hs⟩ := signs_at s
  obtain ⟨o1, e2, l1, p0, p1, p2, p3, t2, e3, q1, b0, b1, b2, b3⟩ := mixed_at t1 hm hm2
  obtain ⟨o2, e4, l2, r0, r1, r2, r3, t3, e5, q2, c0, c1, c2, c3⟩ := mixed_at t2 hn (by omega)
  obtain ⟨u0, _, u0s, u0b, g0⟩ := signed b0 (hs s0 (by simp))
  obtain ⟨u1, _, u1s, u1b, g1⟩ := signed b1 (hs s1 (by simp))
  obtain ⟨u2, _, u2s, u2b, g2⟩ := signed b2 (hs s2 (by simp))
  obtain ⟨u3, _, u3s, u3b, g3⟩ := signed b3 (hs s3 (by simp))
  obtain ⟨v0, _, v0s, v0b, k0⟩ := signed c0 (hs s4 (by simp))
  obtain ⟨v1, _, v1s, v1b, k1⟩ := signed c1 (hs s5 (by simp))
  obtain ⟨v2, _, v2s, v2b, k2⟩ := signed c2 (hs s6 (by simp))
  obtain ⟨v3, _, v3s, v3b, k3⟩ := signed c3 (hs s7 (by simp))
  have e6 := prod_at u0b u1b u2b u3b v0b v1b v2b v3b
  have e7 := times_at u0b u1b u2b u3b v0b v1b v2b v3b
  have eu := euler u0b u1b u2b u3b v0b v1b v2b v3b
  obtain ⟨w0b, w1b, w2b, w3b⟩ := Wbd u0b u1b u2b u3b v0b v1b v2b v3b
  generalize W0 u0 u1 u2 u3 v0 v1 v2 v3 = w0 at *
  generalize W1 u0 u1 u2 u3 v0 v1 v2 v3 = w1 at *
  generalize W2 u0 u1 u2 u3 v0 v1 v2 v3 = w2 at *
  generalize W3 u0 u1 u2 u3 v0 v1 v2 v3 = w3 at *
  have emn : w0 * w0 + w1 * w1 + w2 * w2 + w3 * w3 = ((m * n : Nat) : Int) := by
    rw [eu, u0s, u1s, u2s, u3s, v0s, v1s, v2s, v3s, q1, q2, Int.natCast_mul]
  have z4 : (gslL [s0, s1, s2, s3, s4, s5, s6, s7] none (some (4 : Int))) = some [s0, s1, s2, s3] := rfl
  have z5 : (gslL [s0, s1, s2, s3, s4, s5, s6, s7] (some (4 : Int)) none) = some [s4, s5, s6, s7] := rfl
  have gl8 : grng 0 (8 : Int) = some (irg 0 8) := rfl
  have glr : glt (irg 0 8) = some () := rfl
  have gl1 := gln_len l1
  have gl2 := gln_len l2
  have gz : ∀ l : List (Int × Int), l.length ≤ 4 → glt l = some () := fun l h => glt_len (by omega)
  have gz4 : ∀ a b c d : Int, glt [a, b, c, d] = some () := fun a b c d => rfl
  have wb : ∀ {w : Int}, Bd 24 w → Bd 30 (2 * w) := fun h => ((show Bd 2 2 by decide).mul h).mono
  have gs : gsame (eqL ieq) (eS PyData.int) [2 * w0, 2 * w1, 2 * w2, 2 * w3] [2 * w0, 2 * w1, 2 * w2, 2 * w3] = some () := by
    unfold gsame
    rw [eqL_self, rep4 (wb w0b) (wb w1b) (wb w2b) (wb w3b)]
    rfl
  have hf : ∀ w : Int, 2 * w / 2 = w := fun w => Int.mul_ediv_cancel_left _ (by decide)
  have gm : ∀ {w : Int}, Bd 24 w → gmul w 2 = some (2 * w) := fun {w} h => by rw [gmul_bd h (l := 2) (by decide), Int.mul_comm]
  have gw : ∀ {w : Int}, Bd 24 w → gmul w w = some (w * w) := fun h => gmul_bd h h
  have gw2 : ∀ {w : Int}, Bd 24 w → gmul (2 * w) (2 * w) = some (2 * w * (2 * w)) := fun h => gmul_bd (wb h) (wb h)
  have ev : nlc (fun x88 => (gdiv x88 (2 : Int)).bind fun c90 => (gmul c90 (2 : Int)).bind fun c91 => some (!ieq c91 x88)) (fun x88 => some x88) [2 * w0, 2 * w1, 2 * w2, 2 * w3] = some [] := by
    simp only [nlc, gdiv2, hf, Option.bind_some, gm w0b, gm w1b, gm w2b, gm w3b, ieq_eq, decide_true, Bool.not_true, cond_false]
  have nm : n_four_norm [2 * w0, 2 * w1, 2 * w2, 2 * w3] = some ((m * n : Nat) : Int) := by
    unfold n_four_norm
    rw [gz4]
    simp only [Option.bind_some, nmp, gw2 w0b, gw2 w1b, gw2 w2b, gw2 w3b, List.sum_cons, List.sum_nil]
    rw [gdiv_pos (by decide) (by decide), Option.bind_some, ← emn]
    congr 1
    rw [show 2 * w0 * (2 * w0) + (2 * w1 * (2 * w1) + (2 * w2 * (2 * w2) + (2 * w3 * (2 * w3) + 0))) = (w0 * w0 + w1 * w1 + w2 * w2 + w3 * w3) * 4 by grind]
    exact Int.mul_ediv_cancel _ (by decide)
  have sm : nmp (fun x95 => (gdiv x95 (2 : Int)).bind fun c96 => (gdiv x95 (2 : Int)).bind fun c97 => (gmul c96 c97).bind fun c98 => some c98) [2 * w0, 2 * w1, 2 * w2, 2 * w3] = some [w0 * w0, w1 * w1, w2 * w2, w3 * w3] := by
    simp only [nmp, gdiv2, hf, Option.bind_some, gw w0b, gw w1b, gw w2b, gw w3b]
  have es : [w0 * w0, w1 * w1, w2 * w2, w3 * w3].sum = ((m * n : Nat) : Int) := by
    rw [← emn]
    simp only [List.sum_cons, List.sum_nil]
    omega
  have bm : Bd 20 (m : Int) := Bd.of (c := 3000) (by omega) (by omega)
  have bn : Bd 20 (n : Int) := Bd.of (c := 3000) (by omega) (by omega)
  have gmn : gmul (m : Int) (n : Int) = some ((m * n : Nat) : Int) := by rw [gmul_bd bm bn, Int.natCast_mul]
  have gd : gdiv (n : Int) 2 = some ((n : Int) / 2) := gdiv2 _
  have gd2 : gmul ((n : Int) / 2) 2 = some ((n : Int) / 2 * 2) := gmul_bd bn.div (l := 2) (by decide)
  have la : (bif (!ieq ((n : Int) / 2 * 2) (n : Int)) then (glt [(2 : Int), (4 : Int), (8 : Int)]).bind fun _ => (nmp (fun x104 => (gmul x104 (n : Int)).bind fun c105 => (n_count_four_squares c105).bind fun c106 => some c106) [(2 : Int), (4 : Int), (8 : Int)]).bind fun ys107 => (n_count_four_squares (n : Int)).bind fun c108 => (gmul (3 : Int) c108).bind fun c109 => (grepL [c109] (3 : Int)).bind fun r110 => some (!(eqL ieq) ys107 r110) else some false) = some false := by
    rw [ieq_eq]
    by_cases hc : (n : Int) / 2 * 2 = (n : Int)
    · rw [decide_eq_true hc]
      rfl
    · rw [decide_eq_false hc]
      obtain ⟨f2, f4, f8⟩ := r4_two (n := n) (by omega)
      have hb := sg_le not4 n
      have : n * n ≤ 370 * 370 := Nat.mul_le_mul hn2 hn2
      have br : Bd 30 ((r4 n : Nat) : Int) := Bd.of (c := 100000000) (by omega) (by unfold r4; omega)
      have m2 : gmul 2 (n : Int) = some ((2 * n : Nat) : Int) := by rw [gmul_bd (k := 2) (by decide) bn]; rfl
      have m4 : gmul 4 (n : Int) = some ((4 * n : Nat) : Int) := by rw [gmul_bd (k := 4) (by decide) bn]; rfl
      have m8 : gmul 8 (n : Int) = some ((8 * n : Nat) : Int) := by rw [gmul_bd (k := 4) (by decide) bn]; rfl
      have m3 : gmul 3 ((r4 n : Nat) : Int) = some ((3 * r4 n : Nat) : Int) := by rw [gmul_bd (k := 4) (by decide) br]; rfl
      have g3 : glt [(2 : Int), (4 : Int), (8 : Int)] = some () := rfl
      have gr : ∀ z : Int, grepL [z] 3 = some [z, z, z] := fun z => rfl
      simp only [Bool.not_false, cond_true, g3, Option.bind_some, nmp, m2, m4, m8, four_at (n := 2 * n) (by omega) (by omega), four_at (n := 4 * n) (by omega) (by omega), four_at (n := 8 * n) (by omega) (by omega), four_at hn (show n ≤ 3000 by omega), f2, f4, f8, m3, gr, eqL_self, Bool.not_true]
  have mu : nmp (fun x76 : Int × Int => (gmul x76.1 x76.2).bind fun c77 => some c77) [(p0, s0), (p1, s1), (p2, s2), (p3, s3)] = some [2 * u0, 2 * u1, 2 * u2, 2 * u3] := by
    simp only [nmp, g0, g1, g2, g3, Option.bind_some]
  have mv : nmp (fun x76 : Int × Int => (gmul x76.1 x76.2).bind fun c77 => some c77) [(r0, s4), (r1, s5), (r2, s6), (r3, s7)] = some [2 * v0, 2 * v1, 2 * v2, 2 * v3] := by
    simp only [nmp, k0, k1, k2, k3, Option.bind_some]
  have iq : ∀ a : Int, ieq a a = true := fun a => by rw [ieq_eq]; exact decide_eq_true rfl
  refine ⟨t3, ?_⟩
  unfold tailF
  simp only [e2, e4, gl8, glr, Option.bind_some, e1, gl1, e3, z4, z5, List.zip_cons_cons, List.zip_nil_left, gz _ (show [_, _, _, _].length ≤ 4 from Nat.le_refl 4), mu, mv, gl2, e5, e6, e7, gs, cond_false, gz4, ev, List.isEmpty_nil, Bool.not_true, nm, gmn, iq, sm, es, gd, gd2, la]
end K25
namespace K25
open PySem Fe Te Dv
/-! ## gcd by rests -/
theorem common_at {m n : Nat} (h : n < 1000000) : n_law_common (m : Int) (n : Int) = some ((Nat.gcd m n : Nat) : Int) := by
  unfold n_law_common
  obtain ⟨s, h1, ⟨a, b, rfl, h2⟩, h3⟩ := nwh_inv (c := fun s3 : Int × Int => some (ilt (0 : Int) s3.2)) (b := nb_law_common_0)
    (fun s => ∃ a b : Nat, s = ((a : Int), (b : Int)) ∧ Nat.gcd a b = Nat.gcd m n) (fun s => ilt (0 : Int) s.2) (fun s => s.2.toNat) (fun _ _ => rfl) (fun s hs hc => by
      obtain ⟨a, b, rfl, hg⟩ := hs
      dsimp only at hc ⊢
      rw [ilt_eq, decide_eq_true_eq] at hc
      have hb : 0 < b := by omega
      refine ⟨((b : Int), ((a % b : Nat) : Int)), ?_, ⟨b, a % b, rfl, ?_⟩, ?_⟩
      · unfold nb_law_common_0
        rw [gmod_pos (by dsimp only; omega)]
        rfl
      · rw [← hg, Nat.gcd_comm a b, Nat.gcd_rec b a]
        exact Nat.gcd_comm _ _
      · show ((a % b : Nat) : Int).toNat < (b : Int).toNat
        have := Nat.mod_lt a hb
        omega) fuel ((m : Int), (n : Int)) ⟨m, n, rfl, rfl⟩ (by show (n : Int).toNat < 1048576; omega)
  rw [h1]
  dsimp only at h3 ⊢
  rw [ilt_eq, decide_eq_false_iff_not] at h3
  have hb : b = 0 := by omega
  subst hb
  rw [Nat.gcd_zero_right] at h2
  rw [h2]
  rfl
def PL (n : Nat) : List Int := (irg 0 (n + 1)).map fun x => ((t2 x.toNat : Nat) : Int)
theorem PL_at {n k : Nat} (h : k ≤ n) : gix (PL n) (k : Int) = some ((t2 k : Nat) : Int) := by
  rw [gix_nat rfl]
  unfold PL irg
  rw [List.getElem?_map, List.getElem?_map, List.getElem?_range (by omega)]
  show some (((t2 ((0 : Int) + (k : Int)).toNat : Nat) : Int)) = _
  rw [Int.zero_add, Int.toNat_natCast]
theorem t2_le (k : Nat) : t2 k ≤ 100 := by
  by_cases h : k < 371
  · have : ((List.range 371).all fun k => Nat.ble (t2 k) 100) = true := by decide +kernel
    exact Nat.le_of_ble_eq_true (all_range this h)
  · unfold t2
    rw [List.getD_eq_getElem?_getD, List.getElem?_eq_none (by rw [T2_len]; omega)]
    decide
def headF (lap16 : Int) (s3 : Src) : Option (Lp Src Bool) :=
  (n_law_pick s3 (bif (ieq lap16 (0 : Int)) then (370 : Int) else (60 : Int))).bind fun c17 => letV ((1 : Int) + c17.1) fun n_18 => (grng 0 (n_18 + (1 : Int))).bind fun l19 => (glt l19).bind fun _ => (nmp (fun x20 => (n_law_two x20).bind fun c21 => some c21) l19).bind fun ys22 => (glr (1 : Int) (n_18 + (1 : Int))).bind fun l23 => (n_law_mixed c17.2 l23).bind fun c24 => (gslL c24.1 none (some (8 : Int))).bind fun r25 => (glt r25).bind fun _ => (nlc (fun x26 => (n_count_ways x26).bind fun c166 => (gix ys22 x26).bind fun c167 => some (!ieq c166 c167)) (fun x26 => some x26) r25).bind fun ys27 => bif (!ys27.isEmpty) then some (.rt false) else (grng 0 (n_18 + (1 : Int))).bind fun l28 => (glt l28).bind fun _ => (nmp (fun x29 => (gix ys22 x29).bind fun c30 => (gix ys22 (n_18 - x29)).bind fun c31 => (gmul c30 c31).bind fun c32 => some c32) l28).bind fun ys33 => (n_count_four_squares n_18).bind fun c34 => (gsame ieq PyData.int c34 ys33.sum).bind fun _ => bif false then some (.rt false) else (grng3 (1 : Int) (n_18 + (1 : Int)) (2 : Int)).bind fun l35 => (glt l35).bind fun _ => (nlc (fun x36 => (gmod n_18 x36).bind fun c165 => some (ieq c165 (0 : Int))) (fun x36 => some x36) l35).bind fun ys37 => (n_odd_divisor_sum n_18).bind fun c38 => (n_count_fours n_18).bind fun c39 => (gmul (24 : Int) ys37.sum).bind fun c40 => (gsame (eqL ieq) (eL PyData.int) [c38, c39] [ys37.sum, c40]).bind fun _ => bif false then some (.rt false) else (n_count_fours n_18).bind fun c41 => (gdiv n_18 (2 : Int)).bind fun c42 => (gmul c42 (2 : Int)).bind fun c43 => (bif (ieq c43 n_18) then ((n_count_four_squares n_18).bind fun c44 => some c44) else ((n_count_four_squares n_18).bind fun c45 => (gmul (3 : Int) c45).bind fun c46 => some c46)).bind fun w47 => bif (!ieq c41 w47) then some (.rt false) else (gdiv (3000 : Int) n_18).bind fun c48 => (n_law_pick c24.2 c48).bind fun c49 => letV ((1 : Int) + c49.1) fun m50 => (n_law_common m50 n_18).bind fun c51 => bif (ieq c51 (1 : Int)) then (gmul m50 n_18).bind fun c52 => (n_count_four_squares c52).bind fun c53 => (gmul (8 : Int) c53).bind fun c54 => (n_count_four_squares m50).bind fun c55 => (n_count_four_squares n_18).bind fun c56 => (gmul c55 c56).bind fun c57 => bif (!ieq c54 c57) then some (.rt false) else (gmul m50 n_18).bind fun c58 => (n_count_fours c58).bind fun c59 => (gmul (24 : Int) c59).bind fun c60 => (n_count_fours m50).bind fun c61 => (n_count_fours n_18).bind fun c62 => (gmul c61 c62).bind fun c63 => bif (!ieq c60 c63) then some (.rt false) else tailF m50 n_18 c49.2 else tailF m50 n_18 c49.2
theorem head_eq (lap : Int) (s : Src) : nb_law_0 lap s = headF lap s := rfl
theorem lap_ok (lap : Int) (s : Src) : ∃ s', nb_law_0 lap s = some (.nx s') := by
  obtain ⟨M, hM, hM1, hM2⟩ : ∃ M : Int, (bif (ieq lap (0 : Int)) then (370 : Int) else (60 : Int)) = M ∧ 0 < M ∧ M ≤ 370 := by
    cases ieq lap 0
    · exact ⟨60, rfl, by decide, by decide⟩
    · exact ⟨370, rfl, by decide, by decide⟩
  obtain ⟨k, t1, hk, e1⟩ := gpick_at (pickB_rng 104729 17) s (m := M) hM1 (log2_sm (by omega))
  have e1 : n_law_pick s M = some ((k : Int), t1) := e1
  obtain ⟨n, hn⟩ : ∃ n : Nat, n = k + 1 := ⟨_, rfl⟩
  have n1 : 1 ≤ n := by omega
  have n2 : n ≤ 370 := by omega
  have en : (1 : Int) + (k : Int) = (n : Int) := by omega
  have r1 : grng 0 ((n : Int) + 1) = some (irg 0 (n + 1)) := by
    rw [grng_sm (by decide) (by omega), show ((n : Int) + 1 - 0).toNat = n + 1 by omega]
  have g1 : glt (irg 0 (n + 1)) = some () := glt_len (by rw [irg_len]; omega)
  have p1 : nmp (fun x20 => (n_law_two x20).bind fun c21 => some c21) (irg 0 (n + 1)) = some (PL n) := nmp_ok fun x hx => by
    obtain ⟨j, hj, rfl⟩ := mem_irg hx
    rw [Int.zero_add, two_at (by omega)]
    rfl
  have r2 : glr 1 ((n : Int) + 1) = some (irg 1 n) := by
    rw [glr_sm (by decide) (by omega) (by omega), show ((n : Int) + 1 - 1).toNat = n by omega]
  obtain ⟨L, t2', hL, e2⟩ := gmix_at (pickB_rng 104729 17) t1 (irg 1 n) (by rw [irg_len]; omega)
  have e2 : n_law_mixed t1 (irg 1 n) = some (L, t2') := e2
  have lL : L.length = n := hL.length_eq.trans irg_len
  obtain ⟨L8, s8, m8⟩ : ∃ L8, gslL L none (some (8 : Int)) = some L8 ∧ L8.length ≤ 16777216 ∧ ∀ x ∈ L8, x ∈ L := by
    refine ⟨cutA L none (some 8), ?_, ?_, ?_⟩
    · unfold gslL
      rw [Nat.ble_eq_true_of_le (by omega)]
      rfl
    · unfold cutA
      rw [List.length_take, List.length_drop]
      omega
    · intro x hx
      unfold cutA at hx
      exact List.mem_of_mem_drop (List.mem_of_mem_take hx)
  have c8 : nlc (fun x26 => (n_count_ways x26).bind fun c166 => (gix (PL n) x26).bind fun c167 => some (!ieq c166 c167)) (fun x26 => some x26) L8 = some [] := by
    rw [nlc_ok (p := fun _ => false) (f := fun x => x) (fun x hx => ?_) (fun _ _ h => by cases h)]
    · simp
    · obtain ⟨j, hj, rfl⟩ := mem_irg (hL.mem_iff.mp (m8.2 x hx))
      rw [show (1 : Int) + (j : Int) = ((j + 1 : Nat) : Int) by omega, ways_at (by omega) (by omega), PL_at (show j + 1 ≤ n by omega)]
      simp only [Option.bind_some, ieq_eq, decide_true, Bool.not_true]
  have p2 : nmp (fun x29 => (gix (PL n) x29).bind fun c30 => (gix (PL n) ((n : Int) - x29)).bind fun c31 => (gmul c30 c31).bind fun c32 => some c32) (irg 0 (n + 1)) = some ((irg 0 (n + 1)).map fun x => ((t2 x.toNat * t2 (n - x.toNat) : Nat) : Int)) := nmp_ok fun x hx => by
    obtain ⟨j, hj, rfl⟩ := mem_irg hx
    have b1 := t2_le j
    have b2 := t2_le (n - j)
    rw [Int.zero_add, PL_at (show j ≤ n by omega), show (n : Int) - (j : Int) = ((n - j : Nat) : Int) by omega, PL_at (show n - j ≤ n by omega)]
    simp only [Option.bind_some]
    rw [gmul_bd (k := 10) (l := 10) (Bd.of (c := 100) (by omega) (by omega)) (Bd.of (c := 100) (by omega) (by omega)), Int.toNat_natCast, Int.natCast_mul]
    rfl
  have q2 : ((irg 0 (n + 1)).map fun x => ((t2 x.toNat * t2 (n - x.toNat) : Nat) : Int)).sum = ((r4 n : Nat) : Int) := by
    rw [← conv n1 n2, ← sum_castN]
    unfold irg
    rw [List.map_map]
    congr 1
    refine List.map_congr_left fun j _ => ?_
    show ((t2 (0 + (j : Int)).toNat * t2 (n - (0 + (j : Int)).toNat) : Nat) : Int) = _
    rw [Int.zero_add, Int.toNat_natCast]
  have f4 := four_at n1 (show n ≤ 3000 by omega)
  have hb1 := sg_le not4 n
  have hb2 := od_le n
  have hnn : n * n ≤ 370 * 370 := Nat.mul_le_mul n2 n2
  have br : Bd 30 ((r4 n : Nat) : Int) := Bd.of (c := 100000000) (by omega) (by unfold r4; omega)
  have bo : Bd 30 ((od n : Nat) : Int) := Bd.of (c := 100000000) (by omega) (by omega)
  have bo2 : Bd 30 ((24 * od n : Nat) : Int) := Bd.of (c := 100000000) (by omega) (by omega)
  have iq : ∀ a : Int, ieq a a = true := fun a => by rw [ieq_eq]; exact decide_eq_true rfl
  have s1 : gsame ieq PyData.int ((r4 n : Nat) : Int) ((r4 n : Nat) : Int) = some () := by
    unfold gsame
    rw [iq, repOk_int (by have := log2_lt (k := 30) (by decide) br; omega)]
    rfl
  obtain ⟨rc1, rc2⟩ := Bool.and_eq_true_iff.mp (all_range rc_all (show n < 3001 by omega))
  have rc2 := Nat.eq_of_beq_eq_true rc2
  have r3 : grng3 (1 : Int) ((n : Int) + 1) 2 = some (irgC 1 2 ((n + 1) / 2)) := by
    unfold grng3
    rw [rc1, rc2]
    rfl
  have g3 : glt (irgC 1 2 ((n + 1) / 2)) = some () := glt_len (by simp [irgC]; omega)
  have p3 : nlc (fun x36 => (gmod (n : Int) x36).bind fun c165 => some (ieq c165 (0 : Int))) (fun x36 => some x36) (irgC 1 2 ((n + 1) / 2)) = some ((irgC 1 2 ((n + 1) / 2)).filter fun x => decide ((n : Int) % x = 0)) := by
    rw [nlc_ok (p := fun x => decide ((n : Int) % x = 0)) (f := fun x => x) (fun x hx => ?_) (fun _ _ _ => rfl), List.map_id']
    obtain ⟨j, hj, rfl⟩ := mem_irgC hx
    rw [gmod_pos (by omega)]
    simp only [Option.bind_some, ieq_eq]
  have q3 := oddL n
  rw [List.map_id'] at q3
  have f5 := odd_at n1 (show n ≤ 3000 by omega)
  have f6 := fours_at n1 (show n ≤ 3000 by omega)
  have m24 : gmul 24 ((od n : Nat) : Int) = some ((24 * od n : Nat) : Int) := by rw [gmul_bd (k := 6) (by decide) bo]; rfl
  have s2 : gsame (eqL ieq) (eL PyData.int) [((od n : Nat) : Int), ((24 * od n : Nat) : Int)] [((od n : Nat) : Int), ((24 * od n : Nat) : Int)] = some () := by
    unfold gsame
    have l1 := log2_lt (k := 30) (by decide) bo
    have l2 := log2_lt (k := 30) (by decide) bo2
    have : repOk (eL PyData.int [((od n : Nat) : Int), ((24 * od n : Nat) : Int)]) = true := by
      unfold repOk eL
      simp only [List.map_cons, List.map_nil]
      rw [plainD, plainA, plainA, plainA, plainD, plainD, shB, shBA, shBA, shBA, shB, shB, PyData.depth, PyData.depthAll, PyData.depthAll, PyData.depthAll, PyData.depth, PyData.depth]
      rw [show Nat.blt ((od n : Nat) : Int).natAbs.log2 1920 = true from Nat.ble_eq_true_of_le (by omega), show Nat.blt ((24 * od n : Nat) : Int).natAbs.log2 1920 = true from Nat.ble_eq_true_of_le (by omega), Nat.ble_eq_true_of_le (by omega)]
      rfl
    rw [eqL_self, this]
    rfl
  have gd : gdiv (n : Int) 2 = some ((n : Int) / 2) := gdiv2 _
  have gd2 : gmul ((n : Int) / 2) 2 = some ((n : Int) / 2 * 2) := gmul_bd (k := 20) (l := 2) (Bd.of (c := 3000) (by omega) (by omega)) (by decide)
  have w47 : (bif (ieq ((n : Int) / 2 * 2) (n : Int)) then some ((r4 n : Nat) : Int) else ((gmul (3 : Int) ((r4 n : Nat) : Int)).bind fun c46 => some c46)) = some ((24 * od n : Nat) : Int) := by
    rw [ieq_eq, (r4_tab n1 n2).2]
    by_cases hc : n % 2 = 0
    · rw [if_pos hc, decide_eq_true (by omega)]
      rfl
    · rw [if_neg hc, decide_eq_false (by omega)]
      show (gmul 3 ((r4 n : Nat) : Int)).bind _ = _
      rw [gmul_bd (k := 4) (by decide) br]
      rfl
  have gd3 : gdiv (3000 : Int) (n : Int) = some ((3000 : Int) / (n : Int)) := gdiv_pos (by omega) (log2_sm (by omega))
  have hq : (3000 : Int) / (n : Int) = ((3000 / n : Nat) : Int) := by simp
  have hdiv : 3000 / n * n ≤ 3000 := Nat.div_mul_le_self 3000 n
  have hpos : 1 ≤ 3000 / n := (Nat.one_le_div_iff (by omega)).mpr (by omega)
  have hle : 3000 / n ≤ 3000 := Nat.div_le_self _ _
  obtain ⟨j, t3, hj, e3⟩ := gpick_at (pickB_rng 104729 17) t2' (m := ((3000 / n : Nat) : Int)) (by omega) (log2_sm (by omega))
  have e3 : n_law_pick t2' ((3000 / n : Nat) : Int) = some ((j : Int), t3) := e3
  obtain ⟨m, hm⟩ : ∃ m : Nat, m = j + 1 := ⟨_, rfl⟩
  have em : (1 : Int) + (j : Int) = (m : Int) := by omega
  have m1 : 1 ≤ m := by omega
  have hmn : m * n ≤ 3000 := Nat.le_trans (Nat.mul_le_mul_right n (show m ≤ 3000 / n by omega)) hdiv
  have m3 : m ≤ 3000 := by omega
  have e4 := common_at (m := m) (n := n) (by omega)
  obtain ⟨t4, e5⟩ := tail_ok m1 n1 n2 hmn t3
  have bm : Bd 20 (m : Int) := Bd.of (c := 3000) (by omega) (by omega)
  have bn : Bd 20 (n : Int) := Bd.of (c := 3000) (by omega) (by omega)
  have gmn : gmul (m : Int) (n : Int) = some ((m * n : Nat) : Int) := by rw [gmul_bd bm bn, Int.natCast_mul]
  have mn1 : 1 ≤ m * n := Nat.mul_pos m1 n1
  have h4a := four_at mn1 hmn
  have h4b := four_at m1 m3
  have h5a := fours_at mn1 hmn
  have h5b := fours_at m1 m3
  have big : ∀ (P : Nat → Bool) (x : Nat), x ≤ 3000 → sg P x ≤ 9000000 := fun P x hx => Nat.le_trans (sg_le P x) (Nat.mul_le_mul hx hx)
  have z1 := big not4 (m * n) hmn
  have z2 := big not4 m m3
  have z3 := big odd (m * n) hmn
  have z4 := big odd m m3
  have b4a : Bd 40 ((r4 (m * n) : Nat) : Int) := Bd.of (c := 1000000000) (by omega) (by unfold r4; omega)
  have b4b : Bd 40 ((r4 m : Nat) : Int) := Bd.of (c := 1000000000) (by omega) (by unfold r4; omega)
  have b5a : Bd 40 ((24 * od (m * n) : Nat) : Int) := Bd.of (c := 1000000000) (by omega) (by unfold od; omega)
  have b5b : Bd 40 ((24 * od m : Nat) : Int) := Bd.of (c := 1000000000) (by omega) (by unfold od; omega)
  have x1 : gmul 8 ((r4 (m * n) : Nat) : Int) = some ((8 * r4 (m * n) : Nat) : Int) := by rw [gmul_bd (k := 6) (by decide) b4a]; rfl
  have x2 : gmul ((r4 m : Nat) : Int) ((r4 n : Nat) : Int) = some ((r4 m * r4 n : Nat) : Int) := by rw [gmul_bd b4b br, Int.natCast_mul]
  have x3 : gmul 24 ((24 * od (m * n) : Nat) : Int) = some ((24 * (24 * od (m * n)) : Nat) : Int) := by rw [gmul_bd (k := 6) (by decide) b5a]; rfl
  have x4 : gmul ((24 * od m : Nat) : Int) ((24 * od n : Nat) : Int) = some ((24 * od m * (24 * od n) : Nat) : Int) := by rw [gmul_bd b5b bo2, ← Int.natCast_mul]
  refine ⟨t4, ?_⟩
  rw [head_eq]
  unfold headF
  rw [hM, e1]
  simp only [Option.bind_some, letV_eq, en, r1, g1, p1, r2, e2, s8, glt_len m8.1, c8, List.isEmpty_nil, Bool.not_true, cond_false, p2, q2, f4, s1, r3, g3, p3, q3, f5, f6, m24, s2, gd, gd2]
  simp only [w47, Option.bind_some, iq, Bool.not_true, cond_false, gd3, hq, e3, em, e4]
  by_cases hg : Nat.gcd m n = 1
  · have y1 := r4_mul (show Nat.Coprime m n from hg) m1 n1
    have y2 := od_mul (show Nat.Coprime m n from hg) m1 n1
    rw [hg]
    simp only [show ieq ((1 : Nat) : Int) 1 = true from rfl, cond_true, gmn, Option.bind_some, h4a, h4b, x1, f4, x2, y1, iq, Bool.not_true, cond_false, h5a, h5b, f6, x3, x4, y2]
    exact e5
  · rw [show ieq ((Nat.gcd m n : Nat) : Int) 1 = false by rw [ieq_eq]; exact decide_eq_false (by omega)]
    exact e5
theorem law_true (s : Src) : n_law s = some true := by
  obtain ⟨s', h, _⟩ := nforR_all (b := nb_law_0) (fun _ => True) (irg 0 2) s trivial fun x _ s _ => by
    obtain ⟨s', h⟩ := lap_ok x s
    exact ⟨s', h, trivial⟩
  unfold n_law
  have r : grng 0 (2 : Int) = some (irg 0 2) := rfl
  rw [r, Option.bind_some, h]
  have p : nmp (fun x183 => (n_count_four_squares x183).bind fun c184 => some c184) [(1 : Int), (2 : Int), (3 : Int), (4 : Int)] = some [8, 24, 32, 24] := by decide +kernel
  show ((glt [(1 : Int), (2 : Int), (3 : Int), (4 : Int)]).bind fun _ => (nmp (fun x183 => (n_count_four_squares x183).bind fun c184 => some c184) [(1 : Int), (2 : Int), (3 : Int), (4 : Int)]).bind fun ys185 => some ((eqL ieq) ys185 [(8 : Int), (24 : Int), (32 : Int), (24 : Int)])) = _
  rw [p]
  rfl
theorem hF : ∀ s : Src, ∃ ρ', b_law (startL 18 s) = some (.rt (.bool true) ρ') := fun s => t_law s (law_true s)
end K25
namespace K25
open PySem PySem.Spec PyProof.Rows L2 Fe
theorem all_mk {l : PySem.W.OpenLaw} {w : World} {K : PySem.W.Frag} {h : Heap} {mg : Str → Option Value} {fa f0 f1 f2 f3 f4 f5 f6 f7 f8 f9 f10 f11 f12 f13 f14 f15 f16 f17 f18 f19 f20 : Addr} (X : K.In h) (G : h.Ns mainGlobals mg) (hfa : mg "law" = some (.ref fa))
    {od0 an0 od1 an1 od2 an2 od3 an3 od4 an4 od5 an5 od6 an6 od7 an7 od8 an8 od9 an9 od10 an10 od11 an11 od12 an12 od13 an13 od14 an14 od15 an15 od16 an16 od17 an17 od18 an18 od19 an19 od20 an20 : Option Addr} {sl0 sl1 sl2 sl3 sl4 sl5 sl6 sl7 sl8 sl9 sl10 sl11 sl12 sl13 sl14 sl15 sl16 sl17 sl18 sl19 sl20 : Array (Option Value)} {oc0 kV0 dc0 pm0 cd0 ct0 oc1 kV1 dc1 pm1 cd1 ct1 oc2 kV2 dc2 pm2 cd2 ct2 oc3 kV3 dc3 pm3 cd3 ct3 oc4 kV4 dc4 pm4 cd4 ct4 oc5 kV5 dc5 pm5 cd5 ct5 oc6 kV6 dc6 pm6 cd6 ct6 oc7 kV7 dc7 pm7 cd7 ct7 oc8 kV8 dc8 pm8 cd8 ct8 oc9 kV9 dc9 pm9 cd9 ct9 oc10 kV10 dc10 pm10 cd10 ct10 oc11 kV11 dc11 pm11 cd11 ct11 oc12 kV12 dc12 pm12 cd12 ct12 oc13 kV13 dc13 pm13 cd13 ct13 oc14 kV14 dc14 pm14 cd14 ct14 oc15 kV15 dc15 pm15 cd15 ct15 oc16 kV16 dc16 pm16 cd16 ct16 oc17 kV17 dc17 pm17 cd17 ct17 oc18 kV18 dc18 pm18 cd18 ct18 oc19 kV19 dc19 pm19 cd19 ct19 oc20 kV20 dc20 pm20 cd20 ct20 : Value}
    (a0 : PySem.W.nsIn K mainGlobals "four_product" = some (some (.ref f0))) (l0 : K.lookup f0 = some ⟨oc0, od0, .func (PySem.W.fnOf "four_product" "four_product" (defArgs (top 1)) (defBody (top 1)) (defScope (top 1)) .none kV0 dc0 pm0 an0 cd0 ct0), sl0⟩) (c0 : PySem.W.codeIn K cd0 "four_product" = true) (k0 : PySem.W.keepIn K (.ref f0) = true)
    (a1 : PySem.W.nsIn K mainGlobals "four_norm" = some (some (.ref f1))) (l1 : K.lookup f1 = some ⟨oc1, od1, .func (PySem.W.fnOf "four_norm" "four_norm" (defArgs (top 2)) (defBody (top 2)) (defScope (top 2)) .none kV1 dc1 pm1 an1 cd1 ct1), sl1⟩) (c1 : PySem.W.codeIn K cd1 "four_norm" = true) (k1 : PySem.W.keepIn K (.ref f1) = true)
    (a2 : PySem.W.nsIn K mainGlobals "whole_root" = some (some (.ref f2))) (l2 : K.lookup f2 = some ⟨oc2, od2, .func (PySem.W.fnOf "whole_root" "whole_root" (defArgs (top 4)) (defBody (top 4)) (defScope (top 4)) .none kV2 dc2 pm2 an2 cd2 ct2), sl2⟩) (c2 : PySem.W.codeIn K cd2 "whole_root" = true) (k2 : PySem.W.keepIn K (.ref f2) = true)
    (a3 : PySem.W.nsIn K mainGlobals "falling_squares" = some (some (.ref f3))) (l3 : K.lookup f3 = some ⟨oc3, od3, .func (PySem.W.fnOf "falling_squares" "falling_squares" (defArgs (top 5)) (defBody (top 5)) (defScope (top 5)) .none kV3 dc3 pm3 an3 cd3 ct3), sl3⟩) (c3 : PySem.W.codeIn K cd3 "falling_squares" = true) (k3 : PySem.W.keepIn K (.ref f3) = true)
    (a4 : PySem.W.nsIn K mainGlobals "any_four_squares" = some (some (.ref f4))) (l4 : K.lookup f4 = some ⟨oc4, od4, .func (PySem.W.fnOf "any_four_squares" "any_four_squares" (defArgs (top 6)) (defBody (top 6)) (defScope (top 6)) .none kV4 dc4 pm4 an4 cd4 ct4), sl4⟩) (c4 : PySem.W.codeIn K cd4 "any_four_squares" = true) (k4 : PySem.W.keepIn K (.ref f4) = true)
    (a5 : PySem.W.nsIn K mainGlobals "odd_divisor_sum" = some (some (.ref f5))) (l5 : K.lookup f5 = some ⟨oc5, od5, .func (PySem.W.fnOf "odd_divisor_sum" "odd_divisor_sum" (defArgs (top 7)) (defBody (top 7)) (defScope (top 7)) .none kV5 dc5 pm5 an5 cd5 ct5), sl5⟩) (c5 : PySem.W.codeIn K cd5 "odd_divisor_sum" = true) (k5 : PySem.W.keepIn K (.ref f5) = true)
    (a6 : PySem.W.nsIn K mainGlobals "count_fours" = some (some (.ref f6))) (l6 : K.lookup f6 = some ⟨oc6, od6, .func (PySem.W.fnOf "count_fours" "count_fours" (defArgs (top 8)) (defBody (top 8)) (defScope (top 8)) .none kV6 dc6 pm6 an6 cd6 ct6), sl6⟩) (c6 : PySem.W.codeIn K cd6 "count_fours" = true) (k6 : PySem.W.keepIn K (.ref f6) = true)
    (a7 : PySem.W.nsIn K mainGlobals "count_four_squares" = some (some (.ref f7))) (l7 : K.lookup f7 = some ⟨oc7, od7, .func (PySem.W.fnOf "count_four_squares" "count_four_squares" (defArgs (top 9)) (defBody (top 9)) (defScope (top 9)) .none kV7 dc7 pm7 an7 cd7 ct7), sl7⟩) (c7 : PySem.W.codeIn K cd7 "count_four_squares" = true) (k7 : PySem.W.keepIn K (.ref f7) = true)
    (a8 : PySem.W.nsIn K mainGlobals "prime_powers_in" = some (some (.ref f8))) (l8 : K.lookup f8 = some ⟨oc8, od8, .func (PySem.W.fnOf "prime_powers_in" "prime_powers_in" (defArgs (top 11)) (defBody (top 11)) (defScope (top 11)) .none kV8 dc8 pm8 an8 cd8 ct8), sl8⟩) (c8 : PySem.W.codeIn K cd8 "prime_powers_in" = true) (k8 : PySem.W.keepIn K (.ref f8) = true)
    (a9 : PySem.W.nsIn K mainGlobals "divisors_of_row" = some (some (.ref f9))) (l9 : K.lookup f9 = some ⟨oc9, od9, .func (PySem.W.fnOf "divisors_of_row" "divisors_of_row" (defArgs (top 12)) (defBody (top 12)) (defScope (top 12)) .none kV9 dc9 pm9 an9 cd9 ct9), sl9⟩) (c9 : PySem.W.codeIn K cd9 "divisors_of_row" = true) (k9 : PySem.W.keepIn K (.ref f9) = true)
    (a10 : PySem.W.nsIn K mainGlobals "divisors_by_four" = some (some (.ref f10))) (l10 : K.lookup f10 = some ⟨oc10, od10, .func (PySem.W.fnOf "divisors_by_four" "divisors_by_four" (defArgs (top 13)) (defBody (top 13)) (defScope (top 13)) .none kV10 dc10 pm10 an10 cd10 ct10), sl10⟩) (c10 : PySem.W.codeIn K cd10 "divisors_by_four" = true) (k10 : PySem.W.keepIn K (.ref f10) = true)
    (a11 : PySem.W.nsIn K mainGlobals "count_first_ways" = some (some (.ref f11))) (l11 : K.lookup f11 = some ⟨oc11, od11, .func (PySem.W.fnOf "count_first_ways" "count_first_ways" (defArgs (top 14)) (defBody (top 14)) (defScope (top 14)) .none kV11 dc11 pm11 an11 cd11 ct11), sl11⟩) (c11 : PySem.W.codeIn K cd11 "count_first_ways" = true) (k11 : PySem.W.keepIn K (.ref f11) = true)
    (a12 : PySem.W.nsIn K mainGlobals "count_ways" = some (some (.ref f12))) (l12 : K.lookup f12 = some ⟨oc12, od12, .func (PySem.W.fnOf "count_ways" "count_ways" (defArgs (top 15)) (defBody (top 15)) (defScope (top 15)) .none kV12 dc12 pm12 an12 cd12 ct12), sl12⟩) (c12 : PySem.W.codeIn K cd12 "count_ways" = true) (k12 : PySem.W.keepIn K (.ref f12) = true)
    (a13 : PySem.W.nsIn K mainGlobals "_law_source" = some (some (.ref f13))) (l13 : K.lookup f13 = some ⟨oc13, od13, .func (PySem.W.fnOf "_law_source" "_law_source" (defArgs (top 17)) (defBody (top 17)) (defScope (top 17)) .none kV13 dc13 pm13 an13 cd13 ct13), sl13⟩) (c13 : PySem.W.codeIn K cd13 "_law_source" = true) (k13 : PySem.W.keepIn K (.ref f13) = true)
    (a14 : PySem.W.nsIn K mainGlobals "_law_pick" = some (some (.ref f14))) (l14 : K.lookup f14 = some ⟨oc14, od14, .func (PySem.W.fnOf "_law_pick" "_law_pick" (defArgs (top 18)) (defBody (top 18)) (defScope (top 18)) .none kV14 dc14 pm14 an14 cd14 ct14), sl14⟩) (c14 : PySem.W.codeIn K cd14 "_law_pick" = true) (k14 : PySem.W.keepIn K (.ref f14) = true)
    (a15 : PySem.W.nsIn K mainGlobals "_law_of" = some (some (.ref f15))) (l15 : K.lookup f15 = some ⟨oc15, od15, .func (PySem.W.fnOf "_law_of" "_law_of" (defArgs (top 19)) (defBody (top 19)) (defScope (top 19)) .none kV15 dc15 pm15 an15 cd15 ct15), sl15⟩) (c15 : PySem.W.codeIn K cd15 "_law_of" = true) (k15 : PySem.W.keepIn K (.ref f15) = true)
    (a16 : PySem.W.nsIn K mainGlobals "_law_mixed" = some (some (.ref f16))) (l16 : K.lookup f16 = some ⟨oc16, od16, .func (PySem.W.fnOf "_law_mixed" "_law_mixed" (defArgs (top 20)) (defBody (top 20)) (defScope (top 20)) .none kV16 dc16 pm16 an16 cd16 ct16), sl16⟩) (c16 : PySem.W.codeIn K cd16 "_law_mixed" = true) (k16 : PySem.W.keepIn K (.ref f16) = true)
    (a17 : PySem.W.nsIn K mainGlobals "_law_times" = some (some (.ref f17))) (l17 : K.lookup f17 = some ⟨oc17, od17, .func (PySem.W.fnOf "_law_times" "_law_times" (defArgs (top 21)) (defBody (top 21)) (defScope (top 21)) .none kV17 dc17 pm17 an17 cd17 ct17), sl17⟩) (c17 : PySem.W.codeIn K cd17 "_law_times" = true) (k17 : PySem.W.keepIn K (.ref f17) = true)
    (a18 : PySem.W.nsIn K mainGlobals "_law_two" = some (some (.ref f18))) (l18 : K.lookup f18 = some ⟨oc18, od18, .func (PySem.W.fnOf "_law_two" "_law_two" (defArgs (top 22)) (defBody (top 22)) (defScope (top 22)) .none kV18 dc18 pm18 an18 cd18 ct18), sl18⟩) (c18 : PySem.W.codeIn K cd18 "_law_two" = true) (k18 : PySem.W.keepIn K (.ref f18) = true)
    (a19 : PySem.W.nsIn K mainGlobals "_law_common" = some (some (.ref f19))) (l19 : K.lookup f19 = some ⟨oc19, od19, .func (PySem.W.fnOf "_law_common" "_law_common" (defArgs (top 23)) (defBody (top 23)) (defScope (top 23)) .none kV19 dc19 pm19 an19 cd19 ct19), sl19⟩) (c19 : PySem.W.codeIn K cd19 "_law_common" = true) (k19 : PySem.W.keepIn K (.ref f19) = true)
    (a20 : PySem.W.nsIn K mainGlobals "law" = some (some (.ref f20))) (l20 : K.lookup f20 = some ⟨oc20, od20, .func (PySem.W.fnOf "law" "law" (defArgs (top 24)) (defBody (top 24)) (defScope (top 24)) .none kV20 dc20 pm20 an20 cd20 ct20), sl20⟩) (c20 : PySem.W.codeIn K cd20 "law" = true) (k20 : PySem.W.keepIn K (.ref f20) = true)
    (z_abs : PySem.W.nsIn K mainGlobals "abs" = some none)
    (z_int : PySem.W.nsIn K mainGlobals "int" = some none)
    (z_len : PySem.W.nsIn K mainGlobals "len" = some none)
    (z_list : PySem.W.nsIn K mainGlobals "list" = some none)
    (z_min : PySem.W.nsIn K mainGlobals "min" = some none)
    (z_range : PySem.W.nsIn K mainGlobals "range" = some none)
    (z_repr : PySem.W.nsIn K mainGlobals "repr" = some none)
    (z_sum : PySem.W.nsIn K mainGlobals "sum" = some none)
    (z_tuple : PySem.W.nsIn K mainGlobals "tuple" = some none)
    (z_zip : PySem.W.nsIn K mainGlobals "zip" = some none)
    : ∃ fd : FuncData, (∀ (s : Shared) (v : Value), BindsTo s fd ⟨[v], []⟩ [("script", v)]) ∧ ∀ base : Heap, K.In base → base.Ns mainGlobals mg → FnG l.prog w K mg base 5 fa fd ["script"] (spLaw K) := by
  have e := hfa.symm.trans (PySem.W.mg_of X G a20)
  cases e
  have F0 := fun_mk (st := top 1) l0 c0 k0
  have b0 := F0.binds (ps := ["x", "y"]) fun _ _ _ _ _ _ us hl => match us, hl with | [_, _], _ => rfl
  have F1 := fun_mk (st := top 2) l1 c1 k1
  have b1 := F1.binds (ps := ["x"]) fun _ _ _ _ _ _ us hl => match us, hl with | [_], _ => rfl
  have F2 := fun_mk (st := top 4) l2 c2 k2
  have b2 := F2.binds (ps := ["n"]) fun _ _ _ _ _ _ us hl => match us, hl with | [_], _ => rfl
  have F3 := fun_mk (st := top 5) l3 c3 k3
  have b3 := F3.binds (ps := ["n", "many", "most"]) fun _ _ _ _ _ _ us hl => match us, hl with | [_, _, _], _ => rfl
  have F4 := fun_mk (st := top 6) l4 c4 k4
  have b4 := F4.binds (ps := ["n"]) fun _ _ _ _ _ _ us hl => match us, hl with | [_], _ => rfl
  have F5 := fun_mk (st := top 7) l5 c5 k5
  have b5 := F5.binds (ps := ["n"]) fun _ _ _ _ _ _ us hl => match us, hl with | [_], _ => rfl
  have F6 := fun_mk (st := top 8) l6 c6 k6
  have b6 := F6.binds (ps := ["n"]) fun _ _ _ _ _ _ us hl => match us, hl with | [_], _ => rfl
  have F7 := fun_mk (st := top 9) l7 c7 k7
  have b7 := F7.binds (ps := ["n"]) fun _ _ _ _ _ _ us hl => match us, hl with | [_], _ => rfl
  have F8 := fun_mk (st := top 11) l8 c8 k8
  have b8 := F8.binds (ps := ["n"]) fun _ _ _ _ _ _ us hl => match us, hl with | [_], _ => rfl
  have F9 := fun_mk (st := top 12) l9 c9 k9
  have b9 := F9.binds (ps := ["row"]) fun _ _ _ _ _ _ us hl => match us, hl with | [_], _ => rfl
  have F10 := fun_mk (st := top 13) l10 c10 k10
  have b10 := F10.binds (ps := ["n"]) fun _ _ _ _ _ _ us hl => match us, hl with | [_], _ => rfl
  have F11 := fun_mk (st := top 14) l11 c11 k11
  have b11 := F11.binds (ps := ["n"]) fun _ _ _ _ _ _ us hl => match us, hl with | [_], _ => rfl
  have F12 := fun_mk (st := top 15) l12 c12 k12
  have b12 := F12.binds (ps := ["n"]) fun _ _ _ _ _ _ us hl => match us, hl with | [_], _ => rfl
  have F13 := fun_mk (st := top 17) l13 c13 k13
  have b13 := F13.binds (ps := ["script"]) fun _ _ _ _ _ _ us hl => match us, hl with | [_], _ => rfl
  have F14 := fun_mk (st := top 18) l14 c14 k14
  have b14 := F14.binds (ps := ["source", "many"]) fun _ _ _ _ _ _ us hl => match us, hl with | [_, _], _ => rfl
  have F15 := fun_mk (st := top 19) l15 c15 k15
  have b15 := F15.binds (ps := ["source", "some"]) fun _ _ _ _ _ _ us hl => match us, hl with | [_, _], _ => rfl
  have F16 := fun_mk (st := top 20) l16 c16 k16
  have b16 := F16.binds (ps := ["source", "things"]) fun _ _ _ _ _ _ us hl => match us, hl with | [_, _], _ => rfl
  have F17 := fun_mk (st := top 21) l17 c17 k17
  have b17 := F17.binds (ps := ["x", "y"]) fun _ _ _ _ _ _ us hl => match us, hl with | [_, _], _ => rfl
  have F18 := fun_mk (st := top 22) l18 c18 k18
  have b18 := F18.binds (ps := ["n"]) fun _ _ _ _ _ _ us hl => match us, hl with | [_], _ => rfl
  have F19 := fun_mk (st := top 23) l19 c19 k19
  have b19 := F19.binds (ps := ["m", "n"]) fun _ _ _ _ _ _ us hl => match us, hl with | [_, _], _ => rfl
  have F20 := fun_mk (st := top 24) l20 c20 k20
  have b20 := F20.binds (ps := ["script"]) fun _ _ _ _ _ _ us hl => match us, hl with | [_], _ => rfl
  have T : Tx K mg (fun i => [f0, f1, f2, f3, f4, f5, f6, f7, f8, f9, f10, f11, f12, f13, f14, f15, f16, f17, f18, f19, fa].getD i 0) (fun i => [(PySem.W.fnOf "four_product" "four_product" (defArgs (top 1)) (defBody (top 1)) (defScope (top 1)) .none kV0 dc0 pm0 an0 cd0 ct0), (PySem.W.fnOf "four_norm" "four_norm" (defArgs (top 2)) (defBody (top 2)) (defScope (top 2)) .none kV1 dc1 pm1 an1 cd1 ct1), (PySem.W.fnOf "whole_root" "whole_root" (defArgs (top 4)) (defBody (top 4)) (defScope (top 4)) .none kV2 dc2 pm2 an2 cd2 ct2), (PySem.W.fnOf "falling_squares" "falling_squares" (defArgs (top 5)) (defBody (top 5)) (defScope (top 5)) .none kV3 dc3 pm3 an3 cd3 ct3), (PySem.W.fnOf "any_four_squares" "any_four_squares" (defArgs (top 6)) (defBody (top 6)) (defScope (top 6)) .none kV4 dc4 pm4 an4 cd4 ct4), (PySem.W.fnOf "odd_divisor_sum" "odd_divisor_sum" (defArgs (top 7)) (defBody (top 7)) (defScope (top 7)) .none kV5 dc5 pm5 an5 cd5 ct5), (PySem.W.fnOf "count_fours" "count_fours" (defArgs (top 8)) (defBody (top 8)) (defScope (top 8)) .none kV6 dc6 pm6 an6 cd6 ct6), (PySem.W.fnOf "count_four_squares" "count_four_squares" (defArgs (top 9)) (defBody (top 9)) (defScope (top 9)) .none kV7 dc7 pm7 an7 cd7 ct7), (PySem.W.fnOf "prime_powers_in" "prime_powers_in" (defArgs (top 11)) (defBody (top 11)) (defScope (top 11)) .none kV8 dc8 pm8 an8 cd8 ct8), (PySem.W.fnOf "divisors_of_row" "divisors_of_row" (defArgs (top 12)) (defBody (top 12)) (defScope (top 12)) .none kV9 dc9 pm9 an9 cd9 ct9), (PySem.W.fnOf "divisors_by_four" "divisors_by_four" (defArgs (top 13)) (defBody (top 13)) (defScope (top 13)) .none kV10 dc10 pm10 an10 cd10 ct10), (PySem.W.fnOf "count_first_ways" "count_first_ways" (defArgs (top 14)) (defBody (top 14)) (defScope (top 14)) .none kV11 dc11 pm11 an11 cd11 ct11), (PySem.W.fnOf "count_ways" "count_ways" (defArgs (top 15)) (defBody (top 15)) (defScope (top 15)) .none kV12 dc12 pm12 an12 cd12 ct12), (PySem.W.fnOf "_law_source" "_law_source" (defArgs (top 17)) (defBody (top 17)) (defScope (top 17)) .none kV13 dc13 pm13 an13 cd13 ct13), (PySem.W.fnOf "_law_pick" "_law_pick" (defArgs (top 18)) (defBody (top 18)) (defScope (top 18)) .none kV14 dc14 pm14 an14 cd14 ct14), (PySem.W.fnOf "_law_of" "_law_of" (defArgs (top 19)) (defBody (top 19)) (defScope (top 19)) .none kV15 dc15 pm15 an15 cd15 ct15), (PySem.W.fnOf "_law_mixed" "_law_mixed" (defArgs (top 20)) (defBody (top 20)) (defScope (top 20)) .none kV16 dc16 pm16 an16 cd16 ct16), (PySem.W.fnOf "_law_times" "_law_times" (defArgs (top 21)) (defBody (top 21)) (defScope (top 21)) .none kV17 dc17 pm17 an17 cd17 ct17), (PySem.W.fnOf "_law_two" "_law_two" (defArgs (top 22)) (defBody (top 22)) (defScope (top 22)) .none kV18 dc18 pm18 an18 cd18 ct18), (PySem.W.fnOf "_law_common" "_law_common" (defArgs (top 23)) (defBody (top 23)) (defScope (top 23)) .none kV19 dc19 pm19 an19 cd19 ct19), (PySem.W.fnOf "law" "law" (defArgs (top 24)) (defBody (top 24)) (defScope (top 24)) .none kV20 dc20 pm20 an20 cd20 ct20)].getD i (PySem.W.fnOf "four_product" "four_product" (defArgs (top 1)) (defBody (top 1)) (defScope (top 1)) .none kV0 dc0 pm0 an0 cd0 ct0)) := ⟨F0, PySem.W.mg_of X G a0, b0, F1, PySem.W.mg_of X G a1, b1, F2, PySem.W.mg_of X G a2, b2, F3, PySem.W.mg_of X G a3, b3, F4, PySem.W.mg_of X G a4, b4, F5, PySem.W.mg_of X G a5, b5, F6, PySem.W.mg_of X G a6, b6, F7, PySem.W.mg_of X G a7, b7, F8, PySem.W.mg_of X G a8, b8, F9, PySem.W.mg_of X G a9, b9, F10, PySem.W.mg_of X G a10, b10, F11, PySem.W.mg_of X G a11, b11, F12, PySem.W.mg_of X G a12, b12, F13, PySem.W.mg_of X G a13, b13, F14, PySem.W.mg_of X G a14, b14, F15, PySem.W.mg_of X G a15, b15, F16, PySem.W.mg_of X G a16, b16, F17, PySem.W.mg_of X G a17, b17, F18, PySem.W.mg_of X G a18, b18, F19, PySem.W.mg_of X G a19, b19, F20, PySem.W.mg_of X G a20, b20, PySem.W.mg_none_of X G z_abs, PySem.W.mg_none_of X G z_int, PySem.W.mg_none_of X G z_len, PySem.W.mg_none_of X G z_list, PySem.W.mg_none_of X G z_min, PySem.W.mg_none_of X G z_range, PySem.W.mg_none_of X G z_repr, PySem.W.mg_none_of X G z_sum, PySem.W.mg_none_of X G z_tuple, PySem.W.mg_none_of X G z_zip⟩
  exact ⟨_, fun s v => .of_eq rfl, fun base _ _ => d_law hF T⟩
end K25
open PySem PySem.W PyProof.Rows
set_option maxRecDepth 100000 in
set_option maxHeartbeats 0 in
theorem PySem.Challenge.cw_wholefours_k25_whole_four_squares_out_of_holds : PySem.Challenge.rw_wholefours_k25_whole_four_squares_out_of.Holds := by
  w_on; o_law; k_head; (case hw => w_witness2)
  k_fill
  refine Fe.walkG (l := PySem.Challenge.rw_wholefours_k25_whole_four_squares_out_of) (k := 5) (x := "script") rfl rfl ⟨rfl, by decide, by decide⟩ (fun w h Y => PySem.W.kIn_of Y) ?F
  case F =>
    intro w mg fa h KX G hmg
    refine' K25.all_mk KX G hmg ?a0 ?l0 ?c0 ?k0 ?a1 ?l1 ?c1 ?k1 ?a2 ?l2 ?c2 ?k2 ?a3 ?l3 ?c3 ?k3 ?a4 ?l4 ?c4 ?k4 ?a5 ?l5 ?c5 ?k5 ?a6 ?l6 ?c6 ?k6 ?a7 ?l7 ?c7 ?k7 ?a8 ?l8 ?c8 ?k8 ?a9 ?l9 ?c9 ?k9 ?a10 ?l10 ?c10 ?k10 ?a11 ?l11 ?c11 ?k11 ?a12 ?l12 ?c12 ?k12 ?a13 ?l13 ?c13 ?k13 ?a14 ?l14 ?c14 ?k14 ?a15 ?l15 ?c15 ?k15 ?a16 ?l16 ?c16 ?k16 ?a17 ?l17 ?c17 ?k17 ?a18 ?l18 ?c18 ?k18 ?a19 ?l19 ?c19 ?k19 ?a20 ?l20 ?c20 ?k20 ?z_abs ?z_int ?z_len ?z_list ?z_min ?z_range ?z_repr ?z_sum ?z_tuple ?z_zip
    (case a0 => k_is)
    (case l0 => k_is)
    (case c0 => k_is)
    (case k0 => k_is)
    (case a1 => k_is)
    (case l1 => k_is)
    (case c1 => k_is)
    (case k1 => k_is)
    (case a2 => k_is)
    (case l2 => k_is)
    (case c2 => k_is)
    (case k2 => k_is)
    (case a3 => k_is)
    (case l3 => k_is)
    (case c3 => k_is)
    (case k3 => k_is)
    (case a4 => k_is)
    (case l4 => k_is)
    (case c4 => k_is)
    (case k4 => k_is)
    (case a5 => k_is)
    (case l5 => k_is)
    (case c5 => k_is)
    (case k5 => k_is)
    (case a6 => k_is)
    (case l6 => k_is)
    (case c6 => k_is)
    (case k6 => k_is)
    (case a7 => k_is)
    (case l7 => k_is)
    (case c7 => k_is)
    (case k7 => k_is)
    (case a8 => k_is)
    (case l8 => k_is)
    (case c8 => k_is)
    (case k8 => k_is)
    (case a9 => k_is)
    (case l9 => k_is)
    (case c9 => k_is)
    (case k9 => k_is)
    (case a10 => k_is)
    (case l10 => k_is)
    (case c10 => k_is)
    (case k10 => k_is)
    (case a11 => k_is)
    (case l11 => k_is)
    (case c11 => k_is)
    (case k11 => k_is)
    (case a12 => k_is)
    (case l12 => k_is)
    (case c12 => k_is)
    (case k12 => k_is)
    (case a13 => k_is)
    (case l13 => k_is)
    (case c13 => k_is)
    (case k13 => k_is)
    (case a14 => k_is)
    (case l14 => k_is)
    (case c14 => k_is)
    (case k14 => k_is)
    (case a15 => k_is)
    (case l15 => k_is)
    (case c15 => k_is)
    (case k15 => k_is)
    (case a16 => k_is)
    (case l16 => k_is)
    (case c16 => k_is)
    (case k16 => k_is)
    (case a17 => k_is)
    (case l17 => k_is)
    (case c17 => k_is)
    (case k17 => k_is)
    (case a18 => k_is)
    (case l18 => k_is)
    (case c18 => k_is)
    (case k18 => k_is)
    (case a19 => k_is)
    (case l19 => k_is)
    (case c19 => k_is)
    (case k19 => k_is)
    (case a20 => k_is)
    (case l20 => k_is)
    (case c20 => k_is)
    (case k20 => k_is)
    (case z_abs => k_is)
    (case z_int => k_is)
    (case z_len => k_is)
    (case z_list => k_is)
    (case z_min => k_is)
    (case z_range => k_is)
    (case z_repr => k_is)
    (case z_sum => k_is)
    (case z_tuple => k_is)
    (case z_zip => k_is)
