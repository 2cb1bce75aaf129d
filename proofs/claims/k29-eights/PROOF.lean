import PyProof.Rows.All
import Wide.All
import OpenK.AllK
import Wide.FinOn
import HandS.ForMost
import HandS.Wide
import HandS.TupAny
import HandS.SortInts
import HandS.Gcd
import HandS.Zip
import HandS.Style
import HandS.RaiseMore
import PySem.Challenge.RW_wholefours_k29_whole_eight_squares_and_o
import HandS.Deep
import HandS.Star
import HandS.TupMul
set_option Elab.async false
set_option linter.all false
set_option maxRecDepth 100000
set_option maxHeartbeats 8000000
/-! Fe: a layer of our own: what an expression or a statement computes, as a plain function over data. -/
namespace Fe
open PySem PySem.Spec PyProof.Rows L2

/-! ## data in the heap -/
mutual
inductive Dq (K : PySem.W.Frag) (H : Hp) : V → PyData → Prop
  | non : Dq K H .non .none
  | bl (b : Bool) : Dq K H (.bl b) (.bool b)
  | int (i : Int) : Dq K H (.int i) (.int i)
  | str (x : Str) : Dq K H (.str x) (.str x)
  | lst {a : Addr} {xs : List V} {ds : List PyData} : H a = some (.lst xs) → DqA K H xs ds → Dq K H (.ref a) (.list ds)
  | tup {a : Addr} {xs : List V} {ds : List PyData} : SqT K H a xs → DqA K H xs ds → Dq K H (.ref a) (.tuple ds)
inductive DqA (K : PySem.W.Frag) (H : Hp) : List V → List PyData → Prop
  | nil : DqA K H [] []
  | cons {v : V} {vs : List V} {d : PyData} {ds : List PyData} : Dq K H v d → DqA K H vs ds → DqA K H (v :: vs) (d :: ds)
end
section
variable {K : PySem.W.Frag} {G H H' : Hp}
theorem sqT_up (e : Same H H') {a : Addr} {xs : List V} (h : SqT K H a xs) : SqT K H' a xs := by
  obtain (q | ⟨o, q⟩) | q := h
  · exact Or.inl (Or.inl (e a _ q))
  · exact Or.inl (Or.inr ⟨o, e a _ q⟩)
  · exact Or.inr q
mutual
theorem Dq.up (e : Same H H') : ∀ {d : PyData} {v : V}, Dq K H v d → Dq K H' v d
  | .none, _, h => by cases h; exact .non
  | .bool _, _, h => by cases h; exact .bl _
  | .int _, _, h => by cases h; exact .int _
  | .str _, _, h => by cases h; exact .str _
  | .list _, _, h => by cases h with | lst q r => exact .lst (e _ _ q) (DqA.up e r)
  | .tuple _, _, h => by cases h with | tup q r => exact .tup (sqT_up e q) (DqA.up e r)
  | .dict _, _, h => by cases h
theorem DqA.up (e : Same H H') : ∀ {ds : List PyData} {vs : List V}, DqA K H vs ds → DqA K H' vs ds
  | [], _, h => by cases h; exact .nil
  | _ :: _, _, h => by cases h with | cons q r => exact .cons (Dq.up e q) (DqA.up e r)
end
mutual
theorem Dq.dp : ∀ {d : PyData} {v : V}, Dq K H v d → Dp K H v d
  | .none, _, h => by cases h; exact .non
  | .bool _, _, h => by cases h; exact .bl _
  | .int _, _, h => by cases h; exact .int _
  | .str _, _, h => by cases h; exact .str _
  | .list _, _, h => by cases h with | lst q r => exact .lst (Or.inl (Or.inl q)) (DqA.dp r)
  | .tuple _, _, h => by cases h with | tup q r => exact .tup q (DqA.dp r)
  | .dict _, _, h => by cases h
theorem DqA.dp : ∀ {ds : List PyData} {vs : List V}, DqA K H vs ds → DpAll K H vs ds
  | [], _, h => by cases h; exact .nil
  | _ :: _, _, h => by cases h with | cons q r => exact .cons (Dq.dp q) (DqA.dp r)
end
theorem DqA.len : ∀ {ds : List PyData} {vs : List V}, DqA K H vs ds → vs.length = ds.length
  | [], _, h => by cases h; rfl
  | _ :: _, _, h => by cases h with | cons q r => exact congrArg (· + 1) (DqA.len r)
theorem DqA.get : ∀ {ds : List PyData} {vs : List V} {i : Nat} {d : PyData}, DqA K H vs ds → ds[i]? = some d → ∃ v, vs[i]? = some v ∧ Dq K H v d
  | [], _, _, _, _, h => by simp at h
  | _ :: _, _, 0, _, r, h => by
    cases r with | cons q r => exact ⟨_, rfl, by simp at h; exact h ▸ q⟩
  | _ :: _, _, i + 1, _, r, h => by
    cases r with | cons q r => simpa using DqA.get r (by simpa using h)
theorem DqA.app : ∀ {ds es : List PyData} {vs us : List V}, DqA K H vs ds → DqA K H us es → DqA K H (vs ++ us) (ds ++ es)
  | [], _, _, _, h, k => by cases h; exact k
  | _ :: _, _, _, _, h, k => by cases h with | cons q r => exact .cons q (DqA.app r k)
theorem DqA.one {v : V} {d : PyData} (h : Dq K H v d) : DqA K H [v] [d] := .cons h .nil
theorem DqA.tk : ∀ {ds : List PyData} {vs : List V} (n : Nat), DqA K H vs ds → DqA K H (vs.take n) (ds.take n)
  | [], _, n, h => by cases h; simp; exact .nil
  | _ :: _, _, 0, _ => by simp; exact .nil
  | _ :: _, _, n + 1, h => by cases h with | cons q r => exact .cons q (DqA.tk n r)
theorem DqA.dr : ∀ {ds : List PyData} {vs : List V} (n : Nat), DqA K H vs ds → DqA K H (vs.drop n) (ds.drop n)
  | [], _, n, h => by cases h; simp; exact .nil
  | _ :: _, _, 0, h => by simpa using h
  | _ :: _, _, n + 1, h => by cases h with | cons q r => exact DqA.dr n r
theorem DqA.st {v : V} {d : PyData} (k : Dq K H v d) : ∀ {ds : List PyData} {vs : List V} (n : Nat), DqA K H vs ds → DqA K H (vs.set n v) (ds.set n d)
  | [], _, n, h => by cases h; simp; exact .nil
  | _ :: _, _, 0, h => by cases h with | cons q r => exact .cons k r
  | _ :: _, _, n + 1, h => by cases h with | cons q r => exact .cons q (DqA.st k n r)
theorem DqA.ints : ∀ (ns : List Int), DqA K H (ns.map V.int) (ns.map PyData.int)
  | [] => .nil
  | n :: r => .cons (.int n) (DqA.ints r)
end

/-! ## the draws' source -/
structure Src where
  cells : List Int
  left : Int
  mixed : Int
  turn : Int
def SrcAt (H : Hp) (a c : Addr) (s : Src) : Prop :=
  H a = some (.dK [(.inr "cells", .ref c), (.inr "left", .int s.left), (.inr "mixed", .int s.mixed), (.inr "turn", .int s.turn)]) ∧ H c = some (.lst (s.cells.map V.int))

/-! ## environments -/
/-- a slot: unknown, a value that stays, a list of one's own, the draws' source -/
inductive Sl where
  | un
  | v (d : PyData)
  | own (ds : List PyData)
  | src (s : Src)
abbrev En := List Sl

def SlOk (K : PySem.W.Frag) (A : Option Addr) (G H : Hp) (x : Option V) : Sl → List Addr → Prop
  | .un, R => R = []
  | .v d, R => R = [] ∧ ∃ v, x = some v ∧ Dq K G v d
  | .own ds, R => ∃ a xs, R = [a] ∧ x = some (.ref a) ∧ H a = some (.lst xs) ∧ DqA K G xs ds
  | .src s, R => ∃ a c, R = [a, c] ∧ A = some a ∧ x = some (.ref a) ∧ SrcAt H a c s

/-- the slots' own objects, one slot changed -/
def Rg (R : Nat → List Addr) (i : Nat) (r : List Addr) : Nat → List Addr := fun j => if j = i then r else R j
theorem rg_same {R : Nat → List Addr} {i : Nat} {r : List Addr} : Rg R i r i = r := if_pos rfl
theorem rg_ne {R : Nat → List Addr} {i j : Nat} {r : List Addr} (h : j ≠ i) : Rg R i r j = R j := if_neg h
/-- F: what others own; G: what stays as it is; H: the whole -/
structure Rel (K : PySem.W.Frag) (A : Option Addr) (F G H : Hp) (ρ : En) (σ : L2.St) : Prop where
  gh : Same G H
  fh : Same F H
  fg : ∀ a o, F a = some o → G a = none
  len : ρ.length = σ.length
  rg : ∃ R : Nat → List Addr, (∀ i s, ρ[i]? = some s → ∃ x, σ[i]? = some x ∧ SlOk K A G H x s (R i)) ∧ (∀ i j a, a ∈ R i → a ∈ R j → i = j) ∧ (∀ i a, a ∈ R i → F a = none ∧ G a = none ∧ ∃ o, H a = some o)

section
variable {K : PySem.W.Frag} {A : Option Addr} {F G G' H H' : Hp} {ρ ρ' : En} {σ : L2.St} {p : Addr} {o : HO} {x : Option V} {s : Sl} {R : List Addr}
theorem same_new (h : H p = none) : Same H (upd H p o) := fun b u e => (upd_ne (ne_of_none e h)).trans e
theorem same_two {H1 : Hp} (h : Same G H1) : Same (upd G p o) (upd H1 p o) := fun b u e => by
  by_cases hb : b = p
  · subst hb
    rw [upd_same] at e ⊢
    exact e
  · rw [upd_ne hb] at e ⊢
    exact h b u e
theorem none_of (h : Same G H) (e : H p = none) : G p = none := h.free e
theorem SlOk.up (g : Same G G') (h : ∀ a ∈ R, H' a = H a) (k : SlOk K A G H x s R) : SlOk K A G' H' x s R := by
  cases s with
  | un => exact k
  | v d => obtain ⟨e, v, q, r⟩ := k; exact ⟨e, v, q, r.up g⟩
  | own ds =>
    obtain ⟨a, xs, e, q, r, t⟩ := k
    exact ⟨a, xs, e, q, (h a (by rw [e]; simp)).trans r, t.up g⟩
  | src s =>
    obtain ⟨a, c, e, q1, q, r, t⟩ := k
    exact ⟨a, c, e, q1, q, (h a (by rw [e]; simp)).trans r, (h c (by rw [e]; simp)).trans t⟩
/-- the general step: G grows, H changes away from the slots' own objects -/
theorem Rel.to {F' : Hp} (k : Rel K A F G H ρ σ) (g : Same G G') (gh : Same G' H') (fh : Same F' H') (fg : ∀ a o, F' a = some o → G' a = none)
    (ow : ∀ a o, F a = none → G a = none → H a = some o → H' a = some o) (fn : ∀ a, F a = none → G a = none → H a ≠ none → F' a = none ∧ G' a = none) : Rel K A F' G' H' ρ σ := by
  obtain ⟨R, r1, r2, r3⟩ := k.rg
  refine ⟨gh, fh, fg, k.len, R, fun i s h => ?_, r2, fun i a h => ?_⟩
  · obtain ⟨x, h1, h2⟩ := r1 i s h
    refine ⟨x, h1, h2.up g fun a ha => ?_⟩
    obtain ⟨f1, f2, o, f3⟩ := r3 i a ha
    rw [f3]
    exact ow a o f1 f2 f3
  · obtain ⟨f1, f2, o, f3⟩ := r3 i a h
    obtain ⟨g1, g2⟩ := fn a f1 f2 (by rw [f3]; simp)
    exact ⟨g1, g2, o, ow a o f1 f2 f3⟩
/-- a new object that stays -/
theorem Rel.new (k : Rel K A F G H ρ σ) (hp : H p = none) : Rel K A F (upd G p o) (upd H p o) ρ σ :=
  k.to (same_new (none_of k.gh hp)) (same_two k.gh) (k.fh.trans (same_new hp)) (fun a u e => by
    rw [upd_ne (ne_of_none (k.fh _ _ e) hp)]
    exact k.fg a u e) (fun a u _ _ e => same_new hp _ _ e) fun a f g e => ⟨f, by
      have : a ≠ p := fun z => e (z ▸ hp)
      rw [upd_ne this]
      exact g⟩
/-- a new object of no one's -/
theorem Rel.newF (k : Rel K A F G H ρ σ) (hp : H p = none) : Rel K A (upd F p o) G (upd H p o) ρ σ :=
  k.to (Same.refl G) (k.gh.trans (same_new hp)) (same_two k.fh) (fun a u e => by
    by_cases ha : a = p
    · subst ha
      exact none_of k.gh hp
    · rw [upd_ne ha] at e
      exact k.fg a u e) (fun a u _ _ e => same_new hp _ _ e) fun a f g e => ⟨by
      have : a ≠ p := fun z => e (z ▸ hp)
      rw [upd_ne this]
      exact f, g⟩
/-- what is no one's is to stay -/
theorem Rel.keepF (k : Rel K A (upd F p o) G H ρ σ) (hf : F p = none) : Rel K A F (upd G p o) H ρ σ := by
  have hp : H p = some o := k.fh p o upd_same
  have gp : G p = none := k.fg p o upd_same
  refine k.to (same_new gp) (fun b u e => ?_) (fun b u e => ?_) (fun a u e => ?_) (fun a u _ _ e => e) fun a f g e => ?_
  · by_cases hb : b = p
    · subst hb
      rw [upd_same] at e
      exact hp.trans e
    · rw [upd_ne hb] at e
      exact k.gh b u e
  · refine k.fh b u ?_
    rw [upd_ne (ne_of_none e hf)]
    exact e
  · have : a ≠ p := ne_of_none e hf
    rw [upd_ne this]
    refine k.fg a u ?_
    rw [upd_ne this]
    exact e
  · have : a ≠ p := fun z => by
      subst z
      rw [upd_same] at f
      cases f
    rw [upd_ne this] at f ⊢
    exact ⟨f, g⟩
/-- an object of no one's changes -/
theorem Rel.chgF {o' : HO} (k : Rel K A (upd F p o) G H ρ σ) : Rel K A (upd F p o') G (upd H p o') ρ σ := by
  have gp : G p = none := k.fg p o upd_same
  refine k.to (Same.refl G) (fun b u e => ?_) (fun b u e => ?_) (fun a u e => ?_) (fun a u f g e => ?_) fun a f g e => ?_
  · rw [upd_ne (ne_of_none e gp)]
    exact k.gh b u e
  · by_cases hb : b = p
    · subst hb
      rw [upd_same] at e ⊢
      exact e
    · rw [upd_ne hb] at e ⊢
      refine k.fh b u ?_
      rw [upd_ne hb]
      exact e
  · by_cases ha : a = p
    · subst ha
      exact gp
    · rw [upd_ne ha] at e
      refine k.fg a u ?_
      rw [upd_ne ha]
      exact e
  · have : a ≠ p := fun z => by
      subst z
      rw [upd_same] at f
      cases f
    rw [upd_ne this]
    exact e
  · have : a ≠ p := fun z => by
      subst z
      rw [upd_same] at f
      cases f
    rw [upd_ne this] at f ⊢
    exact ⟨f, g⟩
/-- what no one needs is forgotten -/
theorem Rel.dropF (k : Rel K A (upd F p o) G H ρ σ) (hf : F p = none) : Rel K A F G H ρ σ := by
  have gp : G p = none := k.fg p o upd_same
  refine k.to (Same.refl G) k.gh (fun b u e => k.fh b u ?_) (fun a u e => k.fg a u ?_) (fun a u f g e => e) fun a f g e => ?_
  · rw [upd_ne (ne_of_none e hf)]
    exact e
  · rw [upd_ne (ne_of_none e hf)]
    exact e
  · by_cases ha : a = p
    · subst ha
      exact ⟨hf, gp⟩
    · rw [upd_ne ha] at f
      exact ⟨f, g⟩
theorem Rel.at (k : Rel K A F G H ρ σ) {i : Nat} {d : PyData} (h : ρ[i]? = some (.v d)) : ∃ v, σ[i]? = some (some v) ∧ Dq K G v d := by
  obtain ⟨R, r1, _⟩ := k.rg
  obtain ⟨x, h1, _, v, rfl, h2⟩ := r1 i _ h
  exact ⟨v, h1, h2⟩
theorem Rel.atOwn (k : Rel K A F G H ρ σ) {i : Nat} {ds : List PyData} (h : ρ[i]? = some (.own ds)) : ∃ a xs, σ[i]? = some (some (.ref a)) ∧ H a = some (.lst xs) ∧ DqA K G xs ds ∧ F a = none ∧ G a = none := by
  obtain ⟨R, r1, _, r3⟩ := k.rg
  obtain ⟨x, h1, a, xs, e, rfl, h2, h3⟩ := r1 i _ h
  obtain ⟨f1, f2, _⟩ := r3 i a (by rw [e]; simp)
  exact ⟨a, xs, h1, h2, h3, f1, f2⟩
/-- a slot is set -/
theorem Rel.put (k : Rel K A F G H ρ σ) {i : Nat} {y : Option V} {t : Sl} (h : SlOk K A G H y t []) : Rel K A F G H (ρ.set i t) (σ.set i y) := by
  obtain ⟨R, r1, r2, r3⟩ := k.rg
  refine ⟨k.gh, k.fh, k.fg, by simp [k.len], Rg R i [], fun j u e => ?_, fun j l a e1 e2 => ?_, fun j a e => ?_⟩
  · by_cases hj : j = i
    · subst hj
      rw [rg_same]
      rw [List.getElem?_set_self'] at e ⊢
      have hl := k.len
      by_cases hlt : j < ρ.length
      · rw [List.getElem?_eq_getElem hlt] at e
        rw [List.getElem?_eq_getElem (by omega)]
        simp at e ⊢
        exact e ▸ h
      · rw [List.getElem?_eq_none (by omega)] at e
        simp at e
    · rw [rg_ne hj]
      rw [List.getElem?_set_ne (Ne.symm hj)] at e ⊢
      exact r1 j u e
  · by_cases hj : j = i
    · rw [hj, rg_same] at e1
      cases e1
    · rw [rg_ne hj] at e1
      by_cases hl : l = i
      · rw [hl, rg_same] at e2
        cases e2
      · rw [rg_ne hl] at e2
        exact r2 j l a e1 e2
  · by_cases hj : j = i
    · rw [hj, rg_same] at e
      cases e
    · rw [rg_ne hj] at e
      exact r3 j a e
theorem Rel.putV (k : Rel K A F G H ρ σ) (i : Nat) {v : V} {d : PyData} (h : Dq K G v d) : Rel K A F G H (ρ.set i (.v d)) (σ.set i (some v)) := k.put ⟨rfl, v, rfl, h⟩
theorem Rel.putU (k : Rel K A F G H ρ σ) (i : Nat) (y : Option V) : Rel K A F G H (ρ.set i .un) (σ.set i y) := k.put rfl
/-- a list of no one's becomes the slot's own -/
theorem Rel.putOwn {a : Addr} {xs : List V} {ds : List PyData} (k : Rel K A (upd F a (.lst xs)) G H ρ σ) (hf : F a = none) (i : Nat) (h : DqA K G xs ds) : Rel K A F G H (ρ.set i (.own ds)) (σ.set i (some (.ref a))) := by
  have ha : H a = some (.lst xs) := k.fh a _ upd_same
  have ga : G a = none := k.fg a _ upd_same
  obtain ⟨R, r1, r2, r3⟩ := k.rg
  have nR : ∀ j, a ∉ R j := fun j z => by
    have := (r3 j a z).1
    rw [upd_same] at this
    cases this
  refine ⟨k.gh, (k.dropF hf).fh, (k.dropF hf).fg, by simp [k.len], Rg R i [a], fun j u e => ?_, fun j l b e1 e2 => ?_, fun j b e => ?_⟩
  · by_cases hj : j = i
    · subst hj
      rw [rg_same]
      rw [List.getElem?_set_self'] at e ⊢
      have hl := k.len
      by_cases hlt : j < ρ.length
      · rw [List.getElem?_eq_getElem hlt] at e
        rw [List.getElem?_eq_getElem (by omega)]
        simp at e ⊢
        subst e
        exact ⟨a, xs, rfl, rfl, ha, h⟩
      · rw [List.getElem?_eq_none (by omega)] at e
        simp at e
    · rw [rg_ne hj]
      rw [List.getElem?_set_ne (Ne.symm hj)] at e ⊢
      exact r1 j u e
  · by_cases hj : j = i
    · rw [hj, rg_same] at e1
      by_cases hl : l = i
      · rw [hj, hl]
      · rw [rg_ne hl] at e2
        have : b = a := by simpa using e1
        exact absurd (this ▸ e2) (nR l)
    · rw [rg_ne hj] at e1
      by_cases hl : l = i
      · rw [hl, rg_same] at e2
        have : b = a := by simpa using e2
        exact absurd (this ▸ e1) (nR j)
      · rw [rg_ne hl] at e2
        exact r2 j l b e1 e2
  · by_cases hj : j = i
    · rw [hj, rg_same] at e
      have : b = a := by simpa using e
      subst this
      exact ⟨hf, ga, _, ha⟩
    · rw [rg_ne hj] at e
      obtain ⟨f1, f2, f3⟩ := r3 j b e
      rw [upd_ne (show b ≠ a from fun z => nR j (z ▸ e))] at f1
      exact ⟨f1, f2, f3⟩
/-- a slot's own list changes -/
theorem Rel.chgOwn (k : Rel K A F G H ρ σ) {i : Nat} {a : Addr} {ds es : List PyData} {ys : List V} (h : ρ[i]? = some (.own ds)) (hσ : σ[i]? = some (some (.ref a))) (hy : DqA K G ys es) : Rel K A F G (upd H a (.lst ys)) (ρ.set i (.own es)) σ := by
  obtain ⟨R, r1, r2, r3⟩ := k.rg
  obtain ⟨x, h1, b, xs, eR, rfl, h2, h3⟩ := r1 i _ h
  have eb : b = a := by
    rw [hσ] at h1
    cases h1
    rfl
  subst eb
  have bR : b ∈ R i := by rw [eR]; simp
  obtain ⟨fb, gb, _⟩ := r3 i b bR
  refine ⟨fun c u e => ?_, fun c u e => ?_, k.fg, by simp [k.len], R, fun j u e => ?_, r2, fun j c e => ?_⟩
  · rw [upd_ne (ne_of_none e gb)]
    exact k.gh c u e
  · rw [upd_ne (ne_of_none e fb)]
    exact k.fh c u e
  · by_cases hj : j = i
    · subst hj
      rw [List.getElem?_set_self (List.getElem?_eq_some_iff.mp h).1] at e
      cases e
      exact ⟨_, h1, b, ys, eR, rfl, upd_same, hy⟩
    · rw [List.getElem?_set_ne (Ne.symm hj)] at e
      obtain ⟨x, q1, q2⟩ := r1 j u e
      refine ⟨x, q1, q2.up (Same.refl G) fun c hc => upd_ne fun z => hj ?_⟩
      exact r2 j i b (z ▸ hc) bR
  · obtain ⟨f1, f2, u, f3⟩ := r3 j c e
    by_cases hc : c = b
    · subst hc
      exact ⟨f1, f2, _, upd_same⟩
    · exact ⟨f1, f2, u, (upd_ne hc).trans f3⟩
/-- a slot's own list is to stay -/
theorem Rel.frz (k : Rel K A F G H ρ σ) {i : Nat} {ds : List PyData} (h : ρ[i]? = some (.own ds)) : ∃ G', Same G G' ∧ Rel K A F G' H (ρ.set i (.v (.list ds))) σ := by
  obtain ⟨R, r1, r2, r3⟩ := k.rg
  obtain ⟨x, h1, b, xs, eR, rfl, h2, h3⟩ := r1 i _ h
  have bR : b ∈ R i := by rw [eR]; simp
  obtain ⟨fb, gb, _⟩ := r3 i b bR
  have gg : Same G (upd G b (.lst xs)) := same_new gb
  refine ⟨upd G b (.lst xs), gg, fun c u e => ?_, k.fh, fun c u e => ?_, by simp [k.len], Rg R i [], fun j u e => ?_, fun j l c e1 e2 => ?_, fun j c e => ?_⟩
  · by_cases hc : c = b
    · subst hc
      rw [upd_same] at e
      exact h2.trans e
    · rw [upd_ne hc] at e
      exact k.gh c u e
  · rw [upd_ne (ne_of_none e fb)]
    exact k.fg c u e
  · by_cases hj : j = i
    · subst hj
      rw [List.getElem?_set_self (List.getElem?_eq_some_iff.mp h).1] at e
      cases e
      rw [rg_same]
      exact ⟨_, h1, rfl, _, rfl, .lst upd_same (h3.up gg)⟩
    · rw [List.getElem?_set_ne (Ne.symm hj)] at e
      rw [rg_ne hj]
      obtain ⟨x, q1, q2⟩ := r1 j u e
      exact ⟨x, q1, q2.up gg fun c hc => rfl⟩
  · by_cases hj : j = i
    · rw [hj, rg_same] at e1
      cases e1
    · rw [rg_ne hj] at e1
      by_cases hl : l = i
      · rw [hl, rg_same] at e2
        cases e2
      · rw [rg_ne hl] at e2
        exact r2 j l c e1 e2
  · by_cases hj : j = i
    · rw [hj, rg_same] at e
      cases e
    · rw [rg_ne hj] at e
      obtain ⟨f1, f2, f3⟩ := r3 j c e
      refine ⟨f1, ?_, f3⟩
      rw [upd_ne (show c ≠ b from fun z => hj (r2 j i b (z ▸ e) bR))]
      exact f2
end
end Fe
namespace Fe
open PySem PySem.Spec PyProof.Rows L2

/-! ## what an expression computes -/
abbrev EF := En → Option (PyData × En)
abbrev BF := En → Option (Bool × En)
abbrev LF := En → Option (List PyData × En)
/-- a value that stays -/
def FE (X : Cx) (e : Expr) (f : EF) : Prop := ∃ t, PE X e t ∧ ∀ ρ d ρ', f ρ = some (d, ρ') → ∀ A F G H σ Q, Rel X.K A F G H ρ σ →
  (∀ x G' H', Same G G' → Rel X.K A F G' H' ρ' σ → Dq X.K G' x d → Q x H') → t σ H Q
/-- a test -/
def FT (X : Cx) (e : Expr) (f : BF) : Prop := ∃ t, PT X e t ∧ ∀ ρ d ρ', f ρ = some (d, ρ') → ∀ A F G H σ Q, Rel X.K A F G H ρ σ →
  (∀ G' H', Same G G' → Rel X.K A F G' H' ρ' σ → Q d H') → t σ H Q
/-- a new list -/
def FL (X : Cx) (e : Expr) (f : LF) : Prop := ∃ t, PE X e t ∧ ∀ ρ ds ρ', f ρ = some (ds, ρ') → ∀ A F G H σ Q, Rel X.K A F G H ρ σ →
  (∀ a xs G' H', F a = none → Same G G' → Rel X.K A (upd F a (.lst xs)) G' H' ρ' σ → DqA X.K G' xs ds → xs.length ≤ sizeLine → Q (.ref a) H') → t σ H Q
/-- several values -/
def FA (X : Cx) (es : List Expr) (f : LF) : Prop := ∃ t, PA X es t ∧ ∀ ρ ds ρ', f ρ = some (ds, ρ') → ∀ A F G H σ Q, Rel X.K A F G H ρ σ →
  (∀ xs G' H', Same G G' → Rel X.K A F G' H' ρ' σ → DqA X.K G' xs ds → Q xs H') → t σ H Q
/-- a value to be read: a value that stays, or a list that may change later -/
def Dr (K : PySem.W.Frag) (G H : Hp) (x : V) (d : PyData) : Prop := Dq K G x d ∨ ∃ a xs ds, x = .ref a ∧ d = .list ds ∧ H a = some (.lst xs) ∧ DqA K G xs ds
inductive Rf where
  | val (d : PyData)
  | slot (i : Nat)
@[simp] def rdS : Option Sl → Option PyData
  | some (.v d) => some d
  | some (.own ds) => some (.list ds)
  | _ => none
@[simp] def Rf.get (ρ : En) : Rf → Option PyData
  | .val d => some d
  | .slot i => rdS ρ[i]?
def RfOk (K : PySem.W.Frag) (G : Hp) (σ : L2.St) (x : V) : Rf → Prop
  | .val d => Dq K G x d
  | .slot i => σ[i]? = some (some x)
theorem RfOk.up {K : PySem.W.Frag} {G G' : Hp} {σ : L2.St} {x : V} {r : Rf} (h : RfOk K G σ x r) (s : Same G G') : RfOk K G' σ x r := by
  cases r with
  | val d => exact Dq.up s h
  | slot i => exact h
theorem RfOk.dr {K : PySem.W.Frag} {A : Option Addr} {F G H : Hp} {ρ : En} {σ : L2.St} {x : V} {r : Rf} {d : PyData} (h : RfOk K G σ x r) (R : Rel K A F G H ρ σ) (e : r.get ρ = some d) : Dr K G H x d := by
  cases r with
  | val d' =>
    cases e
    exact Or.inl h
  | slot i =>
    have h' : σ[i]? = some (some x) := h
    have e' : rdS ρ[i]? = some d := e
    unfold rdS at e'
    split at e'
    · rename_i d' q
      cases e'
      obtain ⟨v, h1, h2⟩ := R.at q
      rw [h'] at h1
      cases h1
      exact Or.inl h2
    · rename_i ds q
      cases e'
      obtain ⟨a, xs, h1, h2, h3, _⟩ := R.atOwn q
      rw [h'] at h1
      cases h1
      exact Or.inr ⟨a, xs, ds, rfl, rfl, h2, h3⟩
    · cases e'
def FR (X : Cx) (e : Expr) (f : En → Option (Rf × En)) : Prop := ∃ t, PE X e t ∧ ∀ ρ d ρ', f ρ = some (d, ρ') → ∀ A F G H σ Q, Rel X.K A F G H ρ σ →
  (∀ x G' H', Same G G' → Rel X.K A F G' H' ρ' σ → RfOk X.K G' σ x d → Q x H') → t σ H Q

/-! ### the functions -/
@[simp] def fC (d : PyData) : EF := fun ρ => some (d, ρ)
@[simp] def fVar (i : Nat) : EF := fun ρ => match ρ[i]? with
  | some (.v d) => some (d, ρ)
  | _ => none
@[simp] def fRd (i : Nat) : En → Option (Rf × En) := fun ρ => match rdS ρ[i]? with
  | some _ => some (.slot i, ρ)
  | none => none
@[simp] def bnd {α β : Type} (x : Option (α × En)) (k : α → En → Option β) : Option β := match x with
  | none => none
  | some (a, ρ) => k a ρ
@[simp] def ret {α : Type} (ρ : En) : Option α → Option (α × En)
  | none => none
  | some a => some (a, ρ)
@[simp] def fOp (o : PyData → PyData → Option PyData) (f g : EF) : EF := fun ρ => bnd (f ρ) fun x ρ1 => bnd (g ρ1) fun y ρ2 => ret ρ2 (o x y)
@[simp] def fUn (o : PyData → Option PyData) (f : EF) : EF := fun ρ => bnd (f ρ) fun x ρ1 => ret ρ1 (o x)
@[simp] def fTst (f : EF) : BF := fun ρ => bnd (f ρ) fun x ρ1 => match x with
  | .bool b => some (b, ρ1)
  | _ => none
@[simp] def fNot (f : BF) : BF := fun ρ => bnd (f ρ) fun b ρ1 => some (!b, ρ1)
@[simp] def fAnd (f g : BF) : BF := fun ρ => bnd (f ρ) fun b ρ1 => if b = true then g ρ1 else some (false, ρ1)
@[simp] def fOr (f g : BF) : BF := fun ρ => bnd (f ρ) fun b ρ1 => if b = true then some (true, ρ1) else g ρ1
@[simp] def fIf {α : Type} (c : BF) (f g : En → Option α) : En → Option α := fun ρ => bnd (c ρ) fun b ρ1 => if b = true then f ρ1 else g ρ1
@[simp] def fBool (f : BF) : EF := fun ρ => bnd (f ρ) fun b ρ1 => some (.bool b, ρ1)
@[simp] def fNil : LF := fun ρ => some ([], ρ)
@[simp] def fCons (f : EF) (g : LF) : LF := fun ρ => bnd (f ρ) fun x ρ1 => bnd (g ρ1) fun xs ρ2 => some (x :: xs, ρ2)
@[simp] def fTup (f : LF) : EF := fun ρ => bnd (f ρ) fun xs ρ1 => if Nat.ble xs.length 16777216 = true then some (.tuple xs, ρ1) else none
@[simp] def fLst (f : LF) : LF := fun ρ => bnd (f ρ) fun xs ρ1 => if Nat.ble xs.length 16777216 = true then some (xs, ρ1) else none
@[simp] def fAsL (f : LF) : EF := fun ρ => bnd (f ρ) fun xs ρ1 => some (.list xs, ρ1)
@[simp] def fVal (f : EF) : En → Option (Rf × En) := fun ρ => bnd (f ρ) fun x ρ1 => some (.val x, ρ1)
theorem bnd_some {α β : Type} {x : Option (α × En)} {k : α → En → Option β} {b : β} (h : bnd x k = some b) : ∃ a ρ, x = some (a, ρ) ∧ k a ρ = some b := by
  unfold bnd at h
  split at h
  · cases h
  · exact ⟨_, _, rfl, h⟩
theorem ret_some {α : Type} {ρ ρ' : En} {o : Option α} {a : α} (h : ret ρ o = some (a, ρ')) : o = some a ∧ ρ = ρ' := by
  unfold ret at h
  split at h
  · cases h
  · cases h
    exact ⟨rfl, rfl⟩
theorem ble_line {n : Nat} (h : Nat.ble n 16777216 = true) : n ≤ sizeLine := by
  rw [sizeLine_eq]
  exact Nat.le_of_ble_eq_true h

section
variable {X : Cx} {e a b : Expr} {es : List Expr} {pos : Pos} {f g : EF} {c : BF} {l : LF}

theorem FE.rd (h : FE X e f) : FR X e (fVal f) := by
  obtain ⟨t, p, q⟩ := h
  refine ⟨t, p, fun ρ d ρ' h A F G H σ Q R k => ?_⟩
  obtain ⟨x, ρ1, h1, h2⟩ := bnd_some h
  cases h2
  exact q ρ x _ h1 A F G H σ Q R fun x G' H' s r z => k x G' H' s r z
/-- a new list is handed on: it stays -/
theorem FL.fe (h : FL X e l) : FE X e (fAsL l) := by
  obtain ⟨t, p, q⟩ := h
  refine ⟨t, p, fun ρ d ρ' h A F G H σ Q R k => ?_⟩
  obtain ⟨xs, ρ1, h1, h2⟩ := bnd_some h
  cases h2
  refine q ρ _ _ h1 A F G H σ Q R fun a xs G' H' fa s r z _ => ?_
  have g0 : G' a = none := r.fg a _ upd_same
  exact k _ _ H' (s.trans (same_new g0)) (r.keepF fa) (.lst upd_same (z.up (same_new g0)))
theorem fe_c {d : PyData} {v : V} (h : PE X e (tC v)) (hd : ∀ H, Dq X.K H v d) : FE X e (fC d) := by
  refine ⟨_, h, fun ρ d ρ' h A F G H σ Q R k => ?_⟩
  cases h
  exact k v G H (Same.refl G) R (hd G)
theorem fe_int {i : Int} {j} : FE X (.Constant (.int i) j pos) (fC (.int i)) := fe_c pe_int fun _ => .int i
theorem fe_bl {b : Bool} {j} : FE X (.Constant (.bool b) j pos) (fC (.bool b)) := fe_c pe_bl fun _ => .bl b
theorem fe_non {j} : FE X (.Constant .none j pos) (fC .none) := fe_c pe_non fun _ => .non
theorem fe_str {x : Str} {j} : FE X (.Constant (.str x) j pos) (fC (.str x)) := fe_c pe_str fun _ => .str x
theorem fe_v (i : Nat) (h : PE X e (tVar i)) : FE X e (fVar i) := by
  refine ⟨_, h, fun ρ d ρ' h A F G H σ Q R k => ?_⟩
  unfold fVar at h
  split at h
  · rename_i d' e
    cases h
    obtain ⟨v, h1, h2⟩ := R.at e
    exact ⟨v, h1, k v G H (Same.refl G) R h2⟩
  · cases h
theorem fr_v (i : Nat) (h : PE X e (tVar i)) : FR X e (fRd i) := by
  refine ⟨_, h, fun ρ d ρ' h A F G H σ Q R k => ?_⟩
  unfold fRd at h
  split at h
  · rename_i d' e
    cases h
    have : ∃ v, σ[i]? = some (some v) := by
      unfold rdS at e
      split at e
      · rename_i q
        obtain ⟨v, h1, _⟩ := R.at q
        exact ⟨v, h1⟩
      · rename_i q
        obtain ⟨a, xs, h1, _⟩ := R.atOwn q
        exact ⟨_, h1⟩
      · cases e
    obtain ⟨v, h1⟩ := this
    exact ⟨v, h1, k v G H (Same.refl G) R h1⟩
  · cases h

/-! ### operators -/
def OpF (K : PySem.W.Frag) (r : R2) (o : PyData → PyData → Option PyData) : Prop := ∀ x y d e c, o d e = some c → ∀ A F G H ρ σ Q, Rel K A F G H ρ σ → Dq K G x d → Dq K G y e →
  (∀ z G' H', Same G G' → Rel K A F G' H' ρ σ → Dq K G' z c → Q z H') → r x y H Q
def oOr (o o' : PyData → PyData → Option PyData) : PyData → PyData → Option PyData := fun d e => match o d e with
  | some c => some c
  | none => o' d e
theorem OpF.or {K : PySem.W.Frag} {r r' : R2} {o o' : PyData → PyData → Option PyData} (h : OpF K r o) (h' : OpF K r' o') : OpF K (fun x y H Q => r x y H Q ∨ r' x y H Q) (oOr o o') := by
  intro x y d e c q A F G H ρ σ Q R hx hy k
  unfold oOr at q
  split at q
  · cases q
    rename_i q
    exact Or.inl (h x y d e _ q A F G H ρ σ Q R hx hy k)
  · exact Or.inr (h' x y d e c q A F G H ρ σ Q R hx hy k)
theorem two {ta tb : TE} {r : R2} {o : PyData → PyData → Option PyData} (ho : OpF X.K r o)
    (ha : ∀ ρ d ρ', f ρ = some (d, ρ') → ∀ A F G H σ Q, Rel X.K A F G H ρ σ → (∀ x G' H', Same G G' → Rel X.K A F G' H' ρ' σ → Dq X.K G' x d → Q x H') → ta σ H Q)
    (hb : ∀ ρ d ρ', g ρ = some (d, ρ') → ∀ A F G H σ Q, Rel X.K A F G H ρ σ → (∀ x G' H', Same G G' → Rel X.K A F G' H' ρ' σ → Dq X.K G' x d → Q x H') → tb σ H Q) :
    ∀ ρ d ρ', fOp o f g ρ = some (d, ρ') → ∀ A F G H σ Q, Rel X.K A F G H ρ σ → (∀ x G' H', Same G G' → Rel X.K A F G' H' ρ' σ → Dq X.K G' x d → Q x H') → tOp r ta tb σ H Q := by
  intro ρ d ρ' h A F G H σ Q R k
  obtain ⟨x, ρ1, h1, h2⟩ := bnd_some h
  obtain ⟨y, ρ2, h3, h4⟩ := bnd_some h2
  obtain ⟨h5, rfl⟩ := ret_some h4
  refine ha ρ x ρ1 h1 A F G H σ _ R fun u G1 H1 s1 R1 d1 => ?_
  refine hb ρ1 y _ h3 A F G1 H1 σ _ R1 fun v G2 H2 s2 R2 d2 => ?_
  exact ho u v x y d h5 A F G2 H2 _ σ Q R2 (d1.up s2) d2 fun z G3 H3 s3 R3 d3 => k z G3 H3 ((s1.trans s2).trans s3) R3 d3
theorem fe_op {op : Operator} {r : R2} {o : PyData → PyData → Option PyData} (ho : OpR X (binaryOp op) r) (hf : OpF X.K r o) (ha : FE X a f) (hb : FE X b g) : FE X (.BinOp a op b pos) (fOp o f g) := by
  obtain ⟨ta, pa, qa⟩ := ha
  obtain ⟨tb, pb, qb⟩ := hb
  exact ⟨_, pe_op ho pa pb, two hf qa qb⟩
theorem fe_cmp {op : CmpOp} {r : R2} {o : PyData → PyData → Option PyData} (ho : OpR X (compareOp op) r) (hf : OpF X.K r o) (ha : FE X a f) (hb : FE X b g) (hm : behindInMarks op b = false) : FE X (.Compare a [op] [b] pos) (fOp o f g) := by
  obtain ⟨ta, pa, qa⟩ := ha
  obtain ⟨tb, pb, qb⟩ := hb
  exact ⟨_, pe_cmpR ho pa pb hm, two hf qa qb⟩
theorem tst {t : TE} (ha : ∀ ρ d ρ', f ρ = some (d, ρ') → ∀ A F G H σ Q, Rel X.K A F G H ρ σ → (∀ x G' H', Same G G' → Rel X.K A F G' H' ρ' σ → Dq X.K G' x d → Q x H') → t σ H Q) :
    ∀ ρ d ρ', fTst f ρ = some (d, ρ') → ∀ A F G H σ Q, Rel X.K A F G H ρ σ → (∀ G' H', Same G G' → Rel X.K A F G' H' ρ' σ → Q d H') → tTest t σ H Q := by
  intro ρ d ρ' h A F G H σ Q R k
  obtain ⟨x, ρ1, h1, h2⟩ := bnd_some h
  split at h2
  · cases h2
    refine ha ρ _ _ h1 A F G H σ _ R fun x G' H' s r z => ?_
    cases z
    exact ⟨_, rfl, k G' H' s r⟩
  · cases h2
theorem ft_cmp {op : CmpOp} {r : R2} {o : PyData → PyData → Option PyData} (ho : OpR X (compareOp op) r) (hf : OpF X.K r o) (ha : FE X a f) (hb : FE X b g) (hm : behindInMarks op b = false) : FT X (.Compare a [op] [b] pos) (fTst (fOp o f g)) := by
  obtain ⟨ta, pa, qa⟩ := ha
  obtain ⟨tb, pb, qb⟩ := hb
  exact ⟨_, pt_cmpR ho pa pb hm, tst (two hf qa qb)⟩
/-- a bool's value as a test -/
theorem ft_val (h : FE X e f) (he : ∀ whole, isTrue e X.env whole = (do let v ← whole; standAt e.pos; holding [v] (truthy v)) := by intro _; rfl) : FT X e (fTst f) := by
  obtain ⟨t, p, q⟩ := h
  refine ⟨_, pt_val p he, fun ρ d ρ' h A F G H σ Q R k => ?_⟩
  exact tst q ρ d ρ' h A F G H σ Q R k
theorem ft_not (h : FT X a c) : FT X (.UnaryOp .Not a pos) (fNot c) := by
  obtain ⟨t, p, q⟩ := h
  refine ⟨_, pt_not p, fun ρ d ρ' h A F G H σ Q R k => ?_⟩
  obtain ⟨x, ρ1, h1, h2⟩ := bnd_some h
  cases h2
  exact q ρ x _ h1 A F G H σ _ R fun G' H' s r => k G' H' s r
def FW (X : Cx) (e : Expr) (f : BF) : Prop := ∃ t, PW X e t ∧ ∀ ρ d ρ', f ρ = some (d, ρ') → ∀ A F G H σ Q, Rel X.K A F G H ρ σ →
  (∀ G' H', Same G G' → Rel X.K A F G' H' ρ' σ → Q d H') → t σ H Q
theorem FW.ft (h : FW X e c) : FT X e c := by
  obtain ⟨t, p, q⟩ := h
  exact ⟨t, p.pt, q⟩
variable {c1 c2 : BF} {rest : List Expr}
theorem fw_and1 (h : FT X a c) : FW X (.BoolOp .And [a] pos) c := by
  obtain ⟨t, p, q⟩ := h
  exact ⟨t, pw_and1 p, q⟩
theorem fw_or1 (h : FT X a c) : FW X (.BoolOp .Or [a] pos) c := by
  obtain ⟨t, p, q⟩ := h
  exact ⟨t, pw_or1 p, q⟩
theorem fw_and (h1 : FT X a c1) (h2 : FW X (.BoolOp .And (b :: rest) pos) c2) : FW X (.BoolOp .And (a :: b :: rest) pos) (fAnd c1 c2) := by
  obtain ⟨t, p, q⟩ := h1
  obtain ⟨t2, p2, q2⟩ := h2
  refine ⟨_, pw_and p p2, fun ρ d ρ' h A F G H σ Q R k => ?_⟩
  obtain ⟨x, ρ1, h3, h4⟩ := bnd_some h
  refine q ρ x _ h3 A F G H σ _ R fun G' H' s r => ?_
  cases x with
  | true => exact q2 _ _ _ h4 A F G' H' σ _ r fun G2 H2 s2 r2 => k G2 H2 (s.trans s2) r2
  | false =>
    cases h4
    exact k G' H' s r
theorem fw_or (h1 : FT X a c1) (h2 : FW X (.BoolOp .Or (b :: rest) pos) c2) : FW X (.BoolOp .Or (a :: b :: rest) pos) (fOr c1 c2) := by
  obtain ⟨t, p, q⟩ := h1
  obtain ⟨t2, p2, q2⟩ := h2
  refine ⟨_, pw_or p p2, fun ρ d ρ' h A F G H σ Q R k => ?_⟩
  obtain ⟨x, ρ1, h3, h4⟩ := bnd_some h
  refine q ρ x _ h3 A F G H σ _ R fun G' H' s r => ?_
  cases x with
  | true =>
    cases h4
    exact k G' H' s r
  | false => exact q2 _ _ _ h4 A F G' H' σ _ r fun G2 H2 s2 r2 => k G2 H2 (s.trans s2) r2
theorem fe_ifExp (hc : FT X e c) (ha : FE X a f) (hb : FE X b g) : FE X (.IfExp e a b pos) (fIf c f g) := by
  obtain ⟨t, p, q⟩ := hc
  obtain ⟨ta, pa, qa⟩ := ha
  obtain ⟨tb, pb, qb⟩ := hb
  refine ⟨_, pe_ifExp p pa pb, fun ρ d ρ' h A F G H σ Q R k => ?_⟩
  obtain ⟨x, ρ1, h3, h4⟩ := bnd_some h
  refine q ρ x _ h3 A F G H σ _ R fun G' H' s r => ?_
  cases x with
  | true => exact qa _ _ _ h4 A F G' H' σ _ r fun x G2 H2 s2 r2 => k x G2 H2 (s.trans s2) r2
  | false => exact qb _ _ _ h4 A F G' H' σ _ r fun x G2 H2 s2 r2 => k x G2 H2 (s.trans s2) r2

/-! ### values of bools: and, or, not -/
@[simp] def fAndV (f g : EF) : EF := fun ρ => bnd (f ρ) fun x ρ1 => match x with
  | .bool true => bnd (g ρ1) fun y ρ2 => match y with
    | .bool b => some (.bool b, ρ2)
    | _ => none
  | .bool false => some (.bool false, ρ1)
  | _ => none
@[simp] def fOrV (f g : EF) : EF := fun ρ => bnd (f ρ) fun x ρ1 => match x with
  | .bool true => some (.bool true, ρ1)
  | .bool false => bnd (g ρ1) fun y ρ2 => match y with
    | .bool b => some (.bool b, ρ2)
    | _ => none
  | _ => none
@[simp] def fNotV (f : EF) : EF := fun ρ => bnd (f ρ) fun x ρ1 => match x with
  | .bool b => some (.bool (!b), ρ1)
  | _ => none
theorem fe_one {op : BoolOp} (h : FE X a f) : FE X (.BoolOp op [a] pos) f := by
  obtain ⟨t, p, q⟩ := h
  exact ⟨t, pe_one p, q⟩
theorem fe_and (h1 : FE X a f) (h2 : FE X (.BoolOp .And (b :: rest) pos) g) : FE X (.BoolOp .And (a :: b :: rest) pos) (fAndV f g) := by
  obtain ⟨t, p, q⟩ := h1
  obtain ⟨t2, p2, q2⟩ := h2
  refine ⟨_, pe_and p p2, fun ρ d ρ' h A F G H σ Q R k => ?_⟩
  obtain ⟨x, ρ1, h3, h4⟩ := bnd_some h
  refine q ρ x _ h3 A F G H σ _ R fun y G' H' s r z => ?_
  split at h4
  · obtain ⟨u, ρ2, h5, h6⟩ := bnd_some h4
    cases z
    refine ⟨true, rfl, ?_⟩
    split at h6
    · cases h6
      exact q2 _ _ _ h5 A F G' H' σ _ r fun x G2 H2 s2 r2 => k x G2 H2 (s.trans s2) r2
    · cases h6
  · cases h4
    cases z
    exact ⟨false, rfl, k _ G' H' s r (.bl false)⟩
  · cases h4
theorem fe_or (h1 : FE X a f) (h2 : FE X (.BoolOp .Or (b :: rest) pos) g) : FE X (.BoolOp .Or (a :: b :: rest) pos) (fOrV f g) := by
  obtain ⟨t, p, q⟩ := h1
  obtain ⟨t2, p2, q2⟩ := h2
  refine ⟨_, pe_or p p2, fun ρ d ρ' h A F G H σ Q R k => ?_⟩
  obtain ⟨x, ρ1, h3, h4⟩ := bnd_some h
  refine q ρ x _ h3 A F G H σ _ R fun y G' H' s r z => ?_
  split at h4
  · cases h4
    cases z
    exact ⟨true, rfl, k _ G' H' s r (.bl true)⟩
  · obtain ⟨u, ρ2, h5, h6⟩ := bnd_some h4
    cases z
    refine ⟨false, rfl, ?_⟩
    split at h6
    · cases h6
      exact q2 _ _ _ h5 A F G' H' σ _ r fun x G2 H2 s2 r2 => k x G2 H2 (s.trans s2) r2
    · cases h6
  · cases h4
theorem fe_not (h1 : FE X a f) : FE X (.UnaryOp .Not a pos) (fNotV f) := by
  obtain ⟨t, p, q⟩ := h1
  refine ⟨_, pe_not p, fun ρ d ρ' h A F G H σ Q R k => ?_⟩
  obtain ⟨x, ρ1, h3, h4⟩ := bnd_some h
  refine q ρ x _ h3 A F G H σ _ R fun y G' H' s r z => ?_
  split at h4
  · cases h4
    cases z
    exact ⟨_, rfl, k _ G' H' s r (.bl _)⟩
  · cases h4

/-! ### argument lists, displays -/
theorem fa_nil : FA X [] fNil := by
  refine ⟨_, pa_nil, fun ρ d ρ' h A F G H σ Q R k => ?_⟩
  cases h
  exact k _ G H (Same.refl G) R .nil
theorem fa_cons (h1 : FE X e f) (h2 : FA X es l) (hs : starEach (e :: es) X.env = (false, eval e X.env) :: starEach es X.env := by rfl) : FA X (e :: es) (fCons f l) := by
  obtain ⟨t, p, q⟩ := h1
  obtain ⟨t2, p2, q2⟩ := h2
  refine ⟨_, pa_cons p p2 hs, fun ρ d ρ' h A F G H σ Q R k => ?_⟩
  obtain ⟨x, ρ1, h3, h4⟩ := bnd_some h
  obtain ⟨xs, ρ2, h5, h6⟩ := bnd_some h4
  cases h6
  refine q ρ x _ h3 A F G H σ _ R fun y G' H' s r z => ?_
  exact q2 _ _ _ h5 A F G' H' σ _ r fun ys G2 H2 s2 r2 z2 => k _ G2 H2 (s.trans s2) r2 (.cons (z.up s2) z2)
theorem fe_tup {x1} (h : FA X es l) : FE X (.Tuple es x1 pos) (fTup l) := by
  obtain ⟨t, p, q⟩ := h
  refine ⟨_, pe_tup p, fun ρ d ρ' h A F G H σ Q R k => ?_⟩
  obtain ⟨xs, ρ1, h3, h4⟩ := bnd_some h
  split at h4
  · rename_i hz
    cases h4
    refine q ρ xs _ h3 A F G H σ _ R fun ys G' H' s r z => ⟨?_, fun p hp => ?_⟩
    · rw [z.len]
      exact ble_line hz
    · have g0 := none_of r.gh hp
      exact k _ _ _ (s.trans (same_new g0)) (r.new hp) (.tup (Or.inl (Or.inl upd_same)) (z.up (same_new g0)))
  · cases h4
theorem fl_lst (h : FA X es l) : FL X (.List es pos) (fLst l) := by
  obtain ⟨t, p, q⟩ := h
  refine ⟨_, pe_lst p, fun ρ d ρ' h A F G H σ Q R k => ?_⟩
  obtain ⟨xs, ρ1, h3, h4⟩ := bnd_some h
  split at h4
  · rename_i hz
    cases h4
    have hz' := ble_line hz
    refine q ρ _ _ h3 A F G H σ _ R fun ys G' H' s r z => ⟨by rw [z.len]; exact hz', fun p hp => ?_⟩
    exact k p ys G' _ (none_of r.fh hp) s (r.newF hp) z (by rw [z.len]; exact hz')
  · cases h4
end
end Fe
namespace Fe
open PySem PySem.Spec PyProof.Rows L2

/-! ## values: operators -/
@[simp] def oI (f : Int → Int → PyData) : PyData → PyData → Option PyData
  | .int i, .int j => some (f i j)
  | _, _ => none
@[simp] def oIc (c : Int → Int → Bool) (f : Int → Int → PyData) : PyData → PyData → Option PyData
  | .int i, .int j => if c i j = true then some (f i j) else none
  | _, _ => none
section
variable {K : PySem.W.Frag}
theorem of_I0 {g : Int → Int → V} {f : Int → Int → PyData} (h : ∀ i j H, Dq K H (g i j) (f i j)) : OpF K (rI0 g) (oI f) := by
  intro x y d e c q A F G H ρ σ Q R hx hy k
  unfold oI at q
  split at q
  · cases q
    cases hx
    cases hy
    exact ⟨_, _, rfl, rfl, k _ G H (Same.refl G) R (h _ _ _)⟩
  · cases q
theorem of_I {C : Int → Int → Prop} {cb : Int → Int → Bool} {g : Int → Int → V} {f : Int → Int → PyData} (hc : ∀ i j, cb i j = true → C i j) (h : ∀ i j H, Dq K H (g i j) (f i j)) : OpF K (rI C g) (oIc cb f) := by
  intro x y d e c q A F G H ρ σ Q R hx hy k
  unfold oIc at q
  split at q
  · split at q
    · rename_i hcc
      cases q
      cases hx
      cases hy
      exact ⟨_, _, rfl, rfl, hc _ _ hcc, k _ G H (Same.refl G) R (h _ _ _)⟩
    · cases q
  · cases q
end
abbrev oAdd := oI fun i j => .int (i + j)
abbrev oSub := oI fun i j => .int (i - j)
abbrev oLt := oI fun i j => .bool (decide (i < j))
abbrev oLe := oI fun i j => .bool (decide (i ≤ j))
abbrev oGt := oI fun i j => .bool (decide (j < i))
abbrev oGe := oI fun i j => .bool (decide (j ≤ i))
def mulOk (i j : Int) : Bool := Nat.blt (i.natAbs.log2 + j.natAbs.log2) 1000000
def divOk (j : Int) : Bool := decide (0 < j) && Nat.blt j.natAbs.log2 9000
def modOk (j : Int) : Bool := decide (0 < j)
abbrev oMul := oIc mulOk fun i j => .int (i * j)
abbrev oDiv := oIc (fun _ j => divOk j) fun i j => .int (i / j)
abbrev oMod := oIc (fun _ j => modOk j) fun i j => .int (i % j)
section
variable {X : Cx} {e a b : Expr} {pos : Pos} {f g : EF}
theorem fe_add (ha : FE X a f) (hb : FE X b g) : FE X (.BinOp a .Add b pos) (fOp oAdd f g) := fe_op op_add (of_I0 fun i j _ => .int _) ha hb
theorem fe_sub (ha : FE X a f) (hb : FE X b g) : FE X (.BinOp a .Sub b pos) (fOp oSub f g) := fe_op op_sub (of_I0 fun i j _ => .int _) ha hb
theorem fe_mul (ha : FE X a f) (hb : FE X b g) : FE X (.BinOp a .Mult b pos) (fOp oMul f g) := fe_op op_mulW (of_I (fun i j h => Nat.le_of_ble_eq_true h) fun i j _ => .int _) ha hb
theorem fe_fdiv (ha : FE X a f) (hb : FE X b g) : FE X (.BinOp a .FloorDiv b pos) (fOp oDiv f g) := fe_op op_fdivW (of_I (fun i j h => by
  have h' := Bool.and_eq_true_iff.mp h
  exact ⟨of_decide_eq_true h'.1, Nat.le_of_ble_eq_true h'.2⟩) fun i j _ => .int _) ha hb
theorem fe_mod (ha : FE X a f) (hb : FE X b g) : FE X (.BinOp a .Mod b pos) (fOp oMod f g) := fe_op op_mod (of_I (fun i j h => of_decide_eq_true h) fun i j _ => .int _) ha hb
theorem fe_lt (ha : FE X a f) (hb : FE X b g) : FE X (.Compare a [.Lt] [b] pos) (fOp oLt f g) := fe_cmp op_lt (of_I0 fun i j _ => .bl _) ha hb (nobehind _ (by decide) (by decide))
theorem fe_le (ha : FE X a f) (hb : FE X b g) : FE X (.Compare a [.LtE] [b] pos) (fOp oLe f g) := fe_cmp op_le (of_I0 fun i j _ => .bl _) ha hb (nobehind _ (by decide) (by decide))
theorem fe_gt (ha : FE X a f) (hb : FE X b g) : FE X (.Compare a [.Gt] [b] pos) (fOp oGt f g) := fe_cmp op_gt (of_I0 fun i j _ => .bl _) ha hb (nobehind _ (by decide) (by decide))
theorem fe_ge (ha : FE X a f) (hb : FE X b g) : FE X (.Compare a [.GtE] [b] pos) (fOp oGe f g) := fe_cmp op_ge (of_I0 fun i j _ => .bl _) ha hb (nobehind _ (by decide) (by decide))
theorem ft_lt (ha : FE X a f) (hb : FE X b g) : FT X (.Compare a [.Lt] [b] pos) (fTst (fOp oLt f g)) := ft_cmp op_lt (of_I0 fun i j _ => .bl _) ha hb (nobehind _ (by decide) (by decide))
theorem ft_le (ha : FE X a f) (hb : FE X b g) : FT X (.Compare a [.LtE] [b] pos) (fTst (fOp oLe f g)) := ft_cmp op_le (of_I0 fun i j _ => .bl _) ha hb (nobehind _ (by decide) (by decide))
theorem ft_gt (ha : FE X a f) (hb : FE X b g) : FT X (.Compare a [.Gt] [b] pos) (fTst (fOp oGt f g)) := ft_cmp op_gt (of_I0 fun i j _ => .bl _) ha hb (nobehind _ (by decide) (by decide))
theorem ft_ge (ha : FE X a f) (hb : FE X b g) : FT X (.Compare a [.GtE] [b] pos) (fTst (fOp oGe f g)) := ft_cmp op_ge (of_I0 fun i j _ => .bl _) ha hb (nobehind _ (by decide) (by decide))
@[simp] def oNeg : PyData → Option PyData
  | .int i => some (.int (-i))
  | _ => none
theorem fe_neg (ha : FE X a f) : FE X (.UnaryOp .USub a pos) (fUn oNeg f) := by
  obtain ⟨t, p, q⟩ := ha
  refine ⟨_, pe_un un_neg p, fun ρ d ρ' h A F G H σ Q R k => ?_⟩
  obtain ⟨x, ρ1, h1, h2⟩ := bnd_some h
  obtain ⟨h3, rfl⟩ := ret_some h2
  refine q ρ x _ h1 A F G H σ _ R fun y G' H' s r z => ?_
  unfold oNeg at h3
  split at h3
  · cases h3
    cases z
    exact ⟨_, rfl, k _ G' H' s r (.int _)⟩
  · cases h3
/-! ### == and != -/
def oEq (d e : PyData) : Option PyData := if (SeqAt.shaped d && SeqAt.shaped e) = true then some (.bool (PyData.eqv d e)) else none
def oNe (d e : PyData) : Option PyData := if (SeqAt.shaped d && SeqAt.shaped e) = true then some (.bool (!PyData.eqv d e)) else none
theorem of_eq {K : PySem.W.Frag} : OpF K (rEqD K) oEq := by
  intro x y d e c q A F G H ρ σ Q R hx hy k
  unfold oEq at q
  split at q
  · rename_i hs
    cases q
    have hs' := Bool.and_eq_true_iff.mp hs
    exact ⟨d, e, (hx.up R.gh).dp, (hy.up R.gh).dp, hs'.1, hs'.2, k _ G H (Same.refl G) R (.bl _)⟩
  · cases q
theorem of_ne {K : PySem.W.Frag} : OpF K (rNeD K) oNe := by
  intro x y d e c q A F G H ρ σ Q R hx hy k
  unfold oNe at q
  split at q
  · rename_i hs
    cases q
    have hs' := Bool.and_eq_true_iff.mp hs
    exact ⟨d, e, (hx.up R.gh).dp, (hy.up R.gh).dp, hs'.1, hs'.2, k _ G H (Same.refl G) R (.bl _)⟩
  · cases q
theorem fe_eq (hu : X.A.units + 64 < cLine) (ha : FE X a f) (hb : FE X b g) : FE X (.Compare a [.Eq] [b] pos) (fOp oEq f g) := fe_cmp (op_eqD hu) of_eq ha hb (nobehind _ (by decide) (by decide))
theorem fe_ne (hu : X.A.units + 64 < cLine) (ha : FE X a f) (hb : FE X b g) : FE X (.Compare a [.NotEq] [b] pos) (fOp oNe f g) := fe_cmp (op_neD hu) of_ne ha hb (nobehind _ (by decide) (by decide))
theorem ft_eq (hu : X.A.units + 64 < cLine) (ha : FE X a f) (hb : FE X b g) : FT X (.Compare a [.Eq] [b] pos) (fTst (fOp oEq f g)) := ft_cmp (op_eqD hu) of_eq ha hb (nobehind _ (by decide) (by decide))
theorem ft_ne (hu : X.A.units + 64 < cLine) (ha : FE X a f) (hb : FE X b g) : FT X (.Compare a [.NotEq] [b] pos) (fTst (fOp oNe f g)) := ft_cmp (op_neD hu) of_ne ha hb (nobehind _ (by decide) (by decide))
/-! ### is None -/
@[simp] def oIsN : PyData → Option PyData
  | .none => some (.bool true)
  | _ => some (.bool false)
@[simp] def oNotN : PyData → Option PyData
  | .none => some (.bool false)
  | _ => some (.bool true)
theorem fe_isN {j pos'} (ha : FE X a f) : FE X (.Compare a [.Is] [.Constant .none j pos'] pos) (fUn oIsN f) := by
  obtain ⟨t, p, q⟩ := ha
  refine ⟨_, pe_cmp (pc_isN p), fun ρ d ρ' h A F G H σ Q R k => ?_⟩
  obtain ⟨x, ρ1, h1, h2⟩ := bnd_some h
  obtain ⟨h3, rfl⟩ := ret_some h2
  refine q ρ x _ h1 A F G H σ _ R fun y G' H' s r z => ?_
  cases z <;> (cases h3; exact k _ G' H' s r (.bl _))
theorem fe_notN {j pos'} (ha : FE X a f) : FE X (.Compare a [.IsNot] [.Constant .none j pos'] pos) (fUn oNotN f) := by
  obtain ⟨t, p, q⟩ := ha
  refine ⟨_, pe_cmp (pc_notN p), fun ρ d ρ' h A F G H σ Q R k => ?_⟩
  obtain ⟨x, ρ1, h1, h2⟩ := bnd_some h
  obtain ⟨h3, rfl⟩ := ret_some h2
  refine q ρ x _ h1 A F G H σ _ R fun y G' H' s r z => ?_
  cases z <;> (cases h3; exact k _ G' H' s r (.bl _))
theorem ft_isN {j pos'} (ha : FE X a f) : FT X (.Compare a [.Is] [.Constant .none j pos'] pos) (fTst (fUn oIsN f)) := by
  obtain ⟨t, p, q⟩ := ha
  refine ⟨_, pt_cmp (pc_isN p), tst fun ρ d ρ' h A F G H σ Q R k => ?_⟩
  obtain ⟨x, ρ1, h1, h2⟩ := bnd_some h
  obtain ⟨h3, rfl⟩ := ret_some h2
  refine q ρ x _ h1 A F G H σ _ R fun y G' H' s r z => ?_
  cases z <;> (cases h3; exact k _ G' H' s r (.bl _))
theorem ft_notN {j pos'} (ha : FE X a f) : FT X (.Compare a [.IsNot] [.Constant .none j pos'] pos) (fTst (fUn oNotN f)) := by
  obtain ⟨t, p, q⟩ := ha
  refine ⟨_, pt_cmp (pc_notN p), tst fun ρ d ρ' h A F G H σ Q R k => ?_⟩
  obtain ⟨x, ρ1, h1, h2⟩ := bnd_some h
  obtain ⟨h3, rfl⟩ := ret_some h2
  refine q ρ x _ h1 A F G H σ _ R fun y G' H' s r z => ?_
  cases z <;> (cases h3; exact k _ G' H' s r (.bl _))

/-! ### items -/
/-- the place of an index -/
def ixD (ds : List PyData) (i : Int) : Option PyData := match i with
  | .ofNat n => ds[n]?
  | .negSucc n => if Nat.blt n ds.length = true then ds[ds.length - (n + 1)]? else none
theorem ixD_at {K : PySem.W.Frag} {H : Hp} {vs : List V} {ds : List PyData} {i : Int} {d : PyData} (h : DqA K H vs ds) (k : ixD ds i = some d) : ∃ v, atI vs i = some v ∧ Dq K H v d := by
  have hl := h.len
  unfold ixD at k
  split at k
  · rename_i n
    obtain ⟨v, h1, h2⟩ := h.get k
    refine ⟨v, ?_, h2⟩
    have hn : n < vs.length := (List.getElem?_eq_some_iff.mp h1).1
    unfold atI ixN
    rw [if_pos (show (0 : Int) ≤ Int.ofNat n from Int.natCast_nonneg n), if_pos (show Int.ofNat n < (vs.length : Int) from Int.ofNat_lt.mpr hn)]
    exact h1
  · rename_i n
    split at k
    · rename_i hn
      have hn : n + 1 ≤ ds.length := Nat.le_of_ble_eq_true hn
      obtain ⟨v, h1, h2⟩ := h.get k
      refine ⟨v, ?_, h2⟩
      unfold atI ixN
      rw [if_neg (by omega), if_pos (by omega)]
      have e : (Int.negSucc n + (vs.length : Int)).toNat = ds.length - (n + 1) := by omega
      show (some (Int.negSucc n + (vs.length : Int)).toNat).bind (fun j => vs[j]?) = some v
      rw [e]
      exact h1
    · cases k
@[simp] def oIx : PyData → PyData → Option PyData
  | .list ds, .int i => ixD ds i
  | .tuple ds, .int i => ixD ds i
  | _, _ => none
@[simp] def fIx (f : En → Option (Rf × En)) (g : EF) : EF := fun ρ => bnd (f ρ) fun r ρ1 => bnd (g ρ1) fun y ρ2 => match r.get ρ2 with
  | some x => ret ρ2 (oIx x y)
  | none => none
theorem Dr.sq {K : PySem.W.Frag} {G H : Hp} {x : V} {ds : List PyData} (g : Same G H) (h : Dr K G H x (.list ds)) : ∃ a xs, x = .ref a ∧ H a = some (.lst xs) ∧ DqA K G xs ds := by
  rcases h with h | ⟨a, xs, es, e1, e2, h1, h2⟩
  · cases h with | lst q r => exact ⟨_, _, rfl, g _ _ q, r⟩
  · cases e2
    exact ⟨a, xs, e1, h1, h2⟩
theorem Dr.st {K : PySem.W.Frag} {G H : Hp} {x : V} {ds : List PyData} (g : Same G H) (h : Dr K G H x (.tuple ds)) : ∃ a xs, x = .ref a ∧ SqT K H a xs ∧ DqA K G xs ds := by
  rcases h with h | ⟨a, xs, es, e1, e2, h1, h2⟩
  · cases h with | tup q r => exact ⟨_, _, rfl, sqT_up g q, r⟩
  · cases e2
theorem fe_ix {r : En → Option (Rf × En)} (ha : FR X a r) (hb : FE X b g) (hs : PlainIx b := by exact fun _ _ => rfl) : FE X (.Subscript a b pos) (fIx r g) := by
  obtain ⟨ta, pa, qa⟩ := ha
  obtain ⟨tb, pb, qb⟩ := hb
  refine ⟨_, pe_ix ix_seq pa pb hs, fun ρ d ρ' h A F G H σ Q R k => ?_⟩
  obtain ⟨u, ρ1, h1, h2⟩ := bnd_some h
  obtain ⟨y, ρ2, h3, h4⟩ := bnd_some h2
  refine qa ρ u ρ1 h1 A F G H σ _ R fun x G1 H1 s1 R1 z1 => ?_
  refine qb ρ1 y ρ2 h3 A F G1 H1 σ _ R1 fun w G2 H2 s2 R2 z2 => ?_
  split at h4
  · rename_i dx hx
    obtain ⟨h5, rfl⟩ := ret_some h4
    have z3 := (z1.up s2).dr R2 hx
    unfold oIx at h5
    split at h5
    · cases z2
      obtain ⟨p, xs, e1, q1, q2⟩ := z3.sq R2.gh
      obtain ⟨v, q3, q4⟩ := ixD_at q2 h5
      exact Or.inl ⟨p, xs, _, v, e1, rfl, Or.inl (Or.inl q1), q3, k v G2 H2 (s1.trans s2) R2 q4⟩
    · cases z2
      obtain ⟨p, xs, e1, q1, q2⟩ := z3.st R2.gh
      obtain ⟨v, q3, q4⟩ := ixD_at q2 h5
      exact Or.inr (Or.inl ⟨p, xs, _, v, e1, rfl, q1, q3, k v G2 H2 (s1.trans s2) R2 q4⟩)
    · cases h5
  · cases h4

/-! ### built-ins of one value that is read -/
/-- what a built-in makes of a value -/
@[simp] def fR1 (o : PyData → Option PyData) (f : En → Option (Rf × En)) : EF := fun ρ => bnd (f ρ) fun r ρ1 => match r.get ρ1 with
  | some x => ret ρ1 (o x)
  | none => none
theorem fe_r1 {r : En → Option (Rf × En)} {cr : List V → Hp → VK → Prop} {o : PyData → Option PyData} {e' : Expr} (mk : ∀ t, PE X a t → PE X e' (tCB cr (tCons t tNil))) (ha : FR X a r)
    (hr : ∀ x d c, o d = some c → ∀ A F G H ρ σ Q, Rel X.K A F G H ρ σ → Dr X.K G H x d → (∀ z G' H', Same G G' → Rel X.K A F G' H' ρ σ → Dq X.K G' z c → Q z H') → cr [x] H Q) : FE X e' (fR1 o r) := by
  obtain ⟨ta, pa, qa⟩ := ha
  refine ⟨_, mk _ pa, fun ρ d ρ' h A F G H σ Q R k => ?_⟩
  obtain ⟨u, ρ1, h1, h2⟩ := bnd_some h
  refine qa ρ u ρ1 h1 A F G H σ _ R fun x G1 H1 s1 R1 z1 => ?_
  split at h2
  · rename_i dx hx
    obtain ⟨h5, rfl⟩ := ret_some h2
    exact hr x dx d h5 A F G1 H1 _ σ Q R1 (z1.dr R1 hx) fun z G' H' s r w => k z G' H' (s1.trans s) r w
  · cases h2
/-- .. a new list -/
@[simp] def fR1L (o : PyData → Option (List PyData)) (f : En → Option (Rf × En)) : LF := fun ρ => bnd (f ρ) fun r ρ1 => match r.get ρ1 with
  | some x => ret ρ1 (o x)
  | none => none
theorem fl_r1 {r : En → Option (Rf × En)} {cr : List V → Hp → VK → Prop} {o : PyData → Option (List PyData)} {e' : Expr} (mk : ∀ t, PE X a t → PE X e' (tCB cr (tCons t tNil))) (ha : FR X a r)
    (hr : ∀ x d c, o d = some c → ∀ A F G H ρ σ Q, Rel X.K A F G H ρ σ → Dr X.K G H x d →
      (∀ a xs G' H', F a = none → Same G G' → Rel X.K A (upd F a (.lst xs)) G' H' ρ σ → DqA X.K G' xs c → xs.length ≤ sizeLine → Q (.ref a) H') → cr [x] H Q) : FL X e' (fR1L o r) := by
  obtain ⟨ta, pa, qa⟩ := ha
  refine ⟨_, mk _ pa, fun ρ d ρ' h A F G H σ Q R k => ?_⟩
  obtain ⟨u, ρ1, h1, h2⟩ := bnd_some h
  refine qa ρ u ρ1 h1 A F G H σ _ R fun x G1 H1 s1 R1 z1 => ?_
  split at h2
  · rename_i dx hx
    obtain ⟨h5, rfl⟩ := ret_some h2
    exact hr x dx d h5 A F G1 H1 _ σ Q R1 (z1.dr R1 hx) fun a xs G' H' fa s r w hl => k a xs G' H' fa (s1.trans s) r w hl
  · cases h2
@[simp] def oLen : PyData → Option PyData
  | .list ds => some (.int ds.length)
  | .tuple ds => some (.int ds.length)
  | _ => none
variable {p : Pos} {r : En → Option (Rf × En)}
theorem fe_len (ha : FR X a r) (hg : Gl X "len") (hm : X.mg "len" = none) (hs : starEach (a :: []) X.env = (false, eval a X.env) :: starEach [] X.env := by rfl) : FE X (.Call (.Name "len" p) [a] [] pos) (fR1 oLen r) := by
  refine fe_r1 (fun t h => pe_callB call_len_seq hg hm PySem.boot_len (pa_cons h pa_nil hs) (he := hs)) ha fun x d c h A F G H ρ σ Q R z k => ?_
  unfold oLen at h
  split at h
  · cases h
    obtain ⟨q, xs, rfl, h1, h2⟩ := z.sq R.gh
    rw [← h2.len] at k
    exact ⟨q, xs, rfl, Or.inl (Or.inl (Or.inl h1)), k _ G H (Same.refl G) R (.int _)⟩
  · cases h
    obtain ⟨q, xs, rfl, h1, h2⟩ := z.st R.gh
    rw [← h2.len] at k
    exact ⟨q, xs, rfl, Or.inr h1, k _ G H (Same.refl G) R (.int _)⟩
  · cases h
/-- list(..) -/
@[simp] def oList : PyData → Option (List PyData)
  | .list ds => if Nat.ble ds.length 16777216 = true then some ds else none
  | .tuple ds => if Nat.ble ds.length 16777216 = true then some ds else none
  | _ => none
theorem fl_list (ha : FR X a r) (hg : Gl X "list") (hm : X.mg "list" = none) (hs : starEach (a :: []) X.env = (false, eval a X.env) :: starEach [] X.env := by rfl) : FL X (.Call (.Name "list" p) [a] [] pos) (fR1L oList r) := by
  refine fl_r1 (fun t h => pe_callTy call_list_of hg hm (by decide +kernel) (pa_cons h pa_nil hs) (he := hs)) ha fun x d c h A F G H ρ σ Q R z k => ?_
  unfold oList at h
  split at h
  · split at h
    · rename_i hz
      cases h
      obtain ⟨q, xs, rfl, h1, h2⟩ := z.sq R.gh
      exact ⟨q, xs, rfl, Or.inl (Or.inl (Or.inl h1)), fun l hl => k l xs G _ (none_of R.fh hl) (Same.refl G) (R.newF hl) h2 (by rw [h2.len]; exact ble_line hz)⟩
    · cases h
  · split at h
    · rename_i hz
      cases h
      obtain ⟨q, xs, rfl, h1, h2⟩ := z.st R.gh
      exact ⟨q, xs, rfl, Or.inr h1, fun l hl => k l xs G _ (none_of R.fh hl) (Same.refl G) (R.newF hl) h2 (by rw [h2.len]; exact ble_line hz)⟩
    · cases h
  · cases h
/-- tuple(..) -/
@[simp] def oTuple : PyData → Option PyData
  | .list ds => some (.tuple ds)
  | .tuple ds => some (.tuple ds)
  | _ => none
theorem fe_tuple (ha : FR X a r) (hg : Gl X "tuple") (hm : X.mg "tuple" = none) (hs : starEach (a :: []) X.env = (false, eval a X.env) :: starEach [] X.env := by rfl) : FE X (.Call (.Name "tuple" p) [a] [] pos) (fR1 oTuple r) := by
  refine fe_r1 (fun t h => pe_callTy call_tuple_of hg hm (by decide +kernel) (pa_cons h pa_nil hs) (he := hs)) ha fun x d c h A F G H ρ σ Q R z k => ?_
  unfold oTuple at h
  split at h
  · cases h
    obtain ⟨q, xs, rfl, h1, h2⟩ := z.sq R.gh
    exact ⟨q, xs, rfl, Or.inl ⟨Or.inl (Or.inl h1), fun l hl => k _ _ _ (same_new (none_of R.gh hl)) (R.new hl) (.tup (Or.inl (Or.inl upd_same)) (h2.up (same_new (none_of R.gh hl))))⟩⟩
  · cases h
    rcases z with z | ⟨_, _, _, _, e, _⟩
    · cases z with | tup h1 h2 => exact ⟨_, _, rfl, Or.inr ⟨sqT_up R.gh h1, k _ G H (Same.refl G) R (.tup h1 h2)⟩⟩
    · cases e
  · cases h
/-- sum of a list of ints -/
def intsD : List PyData → Option (List Int)
  | [] => some []
  | .int i :: r => match intsD r with
    | some l => some (i :: l)
    | none => none
  | _ :: _ => none
theorem intsD_ok {K : PySem.W.Frag} {H : Hp} : ∀ {ds : List PyData} {vs : List V} {ns : List Int}, DqA K H vs ds → intsD ds = some ns → vs = ns.map V.int
  | [], _, _, h, e => by
    cases h
    cases e
    rfl
  | d :: r, _, _, h, e => by
    cases h with | cons q w =>
    cases d with
    | int i =>
      unfold intsD at e
      split at e
      · rename_i l hl
        cases e
        cases q
        rw [intsD_ok w hl]
        rfl
      · cases e
    | none => cases e
    | bool b => cases e
    | str s => cases e
    | list l => cases e
    | tuple l => cases e
    | dict l => cases e
def sumI : List Int → Int
  | [] => 0
  | i :: r => i + sumI r
theorem sumI_eq : ∀ l : List Int, sumI l = l.sum
  | [] => rfl
  | i :: r => by rw [List.sum_cons, ← sumI_eq r]; rfl
def oSum : PyData → Option PyData
  | .list ds => match intsD ds with
    | some l => some (.int l.sum)
    | none => none
  | _ => none
theorem fe_sum (hc : X.calm = true) (ha : FR X a r) (hg : Gl X "sum") (hm : X.mg "sum" = none) (hs : starEach (a :: []) X.env = (false, eval a X.env) :: starEach [] X.env := by rfl) : FE X (.Call (.Name "sum" p) [a] [] pos) (fR1 oSum r) := by
  refine fe_r1 (fun t h => pe_callB (cr_sum hc) hg hm (by decide +kernel) (pa_cons h pa_nil hs) (he := hs)) ha fun x d c h A F G H ρ σ Q R z k => ?_
  unfold oSum at h
  split at h
  · split at h
    · rename_i l hl
      cases h
      obtain ⟨q, xs, rfl, h1, h2⟩ := z.sq R.gh
      have e := intsD_ok h2 hl
      subst e
      exact ⟨q, l, rfl, Or.inl (Or.inl h1), k _ G H (Same.refl G) R (.int _)⟩
    · cases h
  · cases h
def boolsD : List PyData → Option (List Bool)
  | [] => some []
  | .bool i :: r => match boolsD r with
    | some l => some (i :: l)
    | none => none
  | _ :: _ => none
theorem boolsD_ok {K : PySem.W.Frag} {H : Hp} : ∀ {ds : List PyData} {vs : List V} {ns : List Bool}, DqA K H vs ds → boolsD ds = some ns → vs = ns.map V.bl
  | [], _, _, h, e => by
    cases h
    cases e
    rfl
  | d :: r, _, _, h, e => by
    cases h with | cons q w =>
    cases d with
    | bool i =>
      unfold boolsD at e
      split at e
      · rename_i l hl
        cases e
        cases q
        rw [boolsD_ok w hl]
        rfl
      · cases e
    | none => cases e
    | int b => cases e
    | str s => cases e
    | list l => cases e
    | tuple l => cases e
    | dict l => cases e
def oAny : PyData → Option PyData
  | .list ds => match boolsD ds with
    | some l => some (.bool (l.any id))
    | none => none
  | _ => none
def oAll : PyData → Option PyData
  | .list ds => match boolsD ds with
    | some l => some (.bool (l.all id))
    | none => none
  | _ => none
theorem fe_any (hc : X.calm = true) (ha : FR X a r) (hg : Gl X "any") (hm : X.mg "any" = none) (hs : starEach (a :: []) X.env = (false, eval a X.env) :: starEach [] X.env := by rfl) : FE X (.Call (.Name "any" p) [a] [] pos) (fR1 oAny r) := by
  refine fe_r1 (fun t h => pe_callB (cr_any hc) hg hm (by decide +kernel) (pa_cons h pa_nil hs) (he := hs)) ha fun x d c h A F G H ρ σ Q R z k => ?_
  unfold oAny at h
  split at h
  · split at h
    · rename_i l hl
      cases h
      obtain ⟨q, xs, rfl, h1, h2⟩ := z.sq R.gh
      have e := boolsD_ok h2 hl
      subst e
      exact ⟨q, l, rfl, Or.inl (Or.inl h1), k _ G H (Same.refl G) R (.bl _)⟩
    · cases h
  · cases h
theorem fe_all (hc : X.calm = true) (ha : FR X a r) (hg : Gl X "all") (hm : X.mg "all" = none) (hs : starEach (a :: []) X.env = (false, eval a X.env) :: starEach [] X.env := by rfl) : FE X (.Call (.Name "all" p) [a] [] pos) (fR1 oAll r) := by
  refine fe_r1 (fun t h => pe_callB (cr_all hc) hg hm (by decide +kernel) (pa_cons h pa_nil hs) (he := hs)) ha fun x d c h A F G H ρ σ Q R z k => ?_
  unfold oAll at h
  split at h
  · split at h
    · rename_i l hl
      cases h
      obtain ⟨q, xs, rfl, h1, h2⟩ := z.sq R.gh
      have e := boolsD_ok h2 hl
      subst e
      exact ⟨q, l, rfl, Or.inl (Or.inl h1), k _ G H (Same.refl G) R (.bl _)⟩
    · cases h
  · cases h
/-- int(..), abs(..) -/
@[simp] def oInt : PyData → Option PyData
  | .int i => some (.int i)
  | .bool b => some (.int (if b = true then 1 else 0))
  | _ => none
theorem fe_intC (ha : FR X a r) (hg : Gl X "int") (hm : X.mg "int" = none) (hs : starEach (a :: []) X.env = (false, eval a X.env) :: starEach [] X.env := by rfl) : FE X (.Call (.Name "int" p) [a] [] pos) (fR1 oInt r) := by
  refine fe_r1 (fun t h => pe_callTy call_int1 hg hm (by decide +kernel) (pa_cons h pa_nil hs) (he := hs)) ha fun x d c h A F G H ρ σ Q R z k => ?_
  unfold oInt at h
  rcases z with z | ⟨_, _, _, _, e, _⟩
  · split at h
    · cases h
      cases z
      exact Or.inl ⟨_, rfl, k _ G H (Same.refl G) R (.int _)⟩
    · cases h
      cases z
      exact Or.inr ⟨_, rfl, k _ G H (Same.refl G) R (.int _)⟩
    · cases h
  · subst e
    cases h
@[simp] def oAbs : PyData → Option PyData
  | .int i => some (.int (if i < 0 then -i else i))
  | _ => none
theorem fe_abs (ha : FR X a r) (hg : Gl X "abs") (hm : X.mg "abs" = none) (hs : starEach (a :: []) X.env = (false, eval a X.env) :: starEach [] X.env := by rfl) : FE X (.Call (.Name "abs" p) [a] [] pos) (fR1 oAbs r) := by
  refine fe_r1 (fun t h => pe_callB call_abs hg hm (by decide +kernel) (pa_cons h pa_nil hs) (he := hs)) ha fun x d c h A F G H ρ σ Q R z k => ?_
  unfold oAbs at h
  rcases z with z | ⟨_, _, _, _, e, _⟩
  · split at h
    · cases h
      cases z
      exact ⟨_, rfl, k _ G H (Same.refl G) R (.int _)⟩
    · cases h
  · subst e
    cases h
/-! ### built-ins of two ints -/
theorem fe_cb2 {cr : List V → Hp → VK → Prop} {o : PyData → PyData → Option PyData} {e' : Expr} (mk : ∀ t u, PE X a t → PE X b u → PE X e' (tCB cr (tCons t (tCons u tNil)))) (ha : FE X a f) (hb : FE X b g)
    (hr : ∀ x y d e c, o d e = some c → ∀ A F G H ρ σ Q, Rel X.K A F G H ρ σ → Dq X.K G x d → Dq X.K G y e → (∀ z G' H', Same G G' → Rel X.K A F G' H' ρ σ → Dq X.K G' z c → Q z H') → cr [x, y] H Q) : FE X e' (fOp o f g) := by
  obtain ⟨ta, pa, qa⟩ := ha
  obtain ⟨tb, pb, qb⟩ := hb
  refine ⟨_, mk _ _ pa pb, fun ρ d ρ' h A F G H σ Q R k => ?_⟩
  exact two (r := fun x y H Q => cr [x, y] H Q) hr qa qb ρ d ρ' h A F G H σ Q R k
abbrev oMin := oI fun i j => .int (if j < i then j else i)
abbrev oMax := oI fun i j => .int (if j > i then j else i)
theorem fe_min2 (hc : X.calm = true) (ha : FE X a f) (hb : FE X b g) (hg : Gl X "min") (hm : X.mg "min" = none) (hs : starEach (a :: [b]) X.env = (false, eval a X.env) :: starEach [b] X.env := by rfl) (hs2 : starEach (b :: []) X.env = (false, eval b X.env) :: starEach [] X.env := by rfl) (h3 : (backTo pos (starEach [b] X.env)).any (·.1) = false := by rfl) :
    FE X (.Call (.Name "min" p) [a, b] [] pos) (fOp oMin f g) := by
  refine fe_cb2 (fun t u h h' => pe_callB (call_min2 hc) hg hm (by decide +kernel) (pa_cons h (pa_cons h' pa_nil hs2) hs) (he := hs) (hpl := h3)) ha hb fun x y d e c h A F G H ρ σ Q R z z' k => ?_
  unfold oMin oI at h
  split at h
  · cases h
    cases z
    cases z'
    exact ⟨_, _, rfl, k _ G H (Same.refl G) R (.int _)⟩
  · cases h
theorem fe_max2 (hc : X.calm = true) (ha : FE X a f) (hb : FE X b g) (hg : Gl X "max") (hm : X.mg "max" = none) (hs : starEach (a :: [b]) X.env = (false, eval a X.env) :: starEach [b] X.env := by rfl) (hs2 : starEach (b :: []) X.env = (false, eval b X.env) :: starEach [] X.env := by rfl) (h3 : (backTo pos (starEach [b] X.env)).any (·.1) = false := by rfl) :
    FE X (.Call (.Name "max" p) [a, b] [] pos) (fOp oMax f g) := by
  refine fe_cb2 (fun t u h h' => pe_callB (call_max2 hc) hg hm (by decide +kernel) (pa_cons h (pa_cons h' pa_nil hs2) hs) (he := hs) (hpl := h3)) ha hb fun x y d e c h A F G H ρ σ Q R z z' k => ?_
  unfold oMax oI at h
  split at h
  · cases h
    cases z
    cases z'
    exact ⟨_, _, rfl, k _ G H (Same.refl G) R (.int _)⟩
  · cases h
/-! ### lists: * and +, slices -/
@[simp] def fRep (f g : EF) : LF := fun ρ => bnd (f ρ) fun x ρ1 => bnd (g ρ1) fun y ρ2 => match x, y with
  | .list ds, .int k => if (Nat.ble (ds.length * k.toNat) 16777216 && Nat.ble k.natAbs 16777216) = true then some ((List.replicate k.toNat ds).flatten, ρ2) else none
  | _, _ => none
theorem DqA.rep {K : PySem.W.Frag} {H : Hp} {ds : List PyData} {vs : List V} (h : DqA K H vs ds) : ∀ n : Nat, DqA K H (List.replicate n vs).flatten (List.replicate n ds).flatten
  | 0 => .nil
  | n + 1 => by
    rw [List.replicate_succ, List.replicate_succ, List.flatten_cons, List.flatten_cons]
    exact h.app (DqA.rep h n)
theorem fl_rep (ha : FE X a f) (hb : FE X b g) : FL X (.BinOp a .Mult b pos) (fRep f g) := by
  obtain ⟨ta, pa, qa⟩ := ha
  obtain ⟨tb, pb, qb⟩ := hb
  refine ⟨_, pe_op op_rep pa pb, fun ρ d ρ' h A F G H σ Q R k => ?_⟩
  obtain ⟨u, ρ1, h1, h2⟩ := bnd_some h
  obtain ⟨y, ρ2, h3, h4⟩ := bnd_some h2
  refine qa ρ u ρ1 h1 A F G H σ _ R fun x G1 H1 s1 R1 z1 => ?_
  refine qb ρ1 y ρ2 h3 A F G1 H1 σ _ R1 fun w G2 H2 s2 R2 z2 => ?_
  split at h4
  · split at h4
    · rename_i ds n hz
      cases h4
      have hz' := Bool.and_eq_true_iff.mp hz
      have hz1 := ble_line hz'.1
      have hz2 : n.natAbs ≤ 16777216 := Nat.le_of_ble_eq_true hz'.2
      cases z2
      have z3 := z1.up s2
      cases z3 with | lst q1 q2 =>
      have hl := q2.len
      refine ⟨_, n, _, rfl, rfl, R2.gh _ _ q1, by omega, by omega, by rw [hl]; exact hz1, fun p hp => ?_⟩
      have q3 := q2.rep n.toNat
      refine k p _ G2 _ (none_of R2.fh hp) (s1.trans s2) (R2.newF hp) q3 ?_
      rw [List.length_flatten, List.map_replicate, List.sum_replicate_nat, hl, Nat.mul_comm]
      exact hz1
    · cases h4
  · cases h4
@[simp] def fCat (f g : EF) : LF := fun ρ => bnd (f ρ) fun x ρ1 => bnd (g ρ1) fun y ρ2 => match x, y with
  | .list ds, .list es => if Nat.ble (ds.length + es.length) 16777216 = true then some (ds ++ es, ρ2) else none
  | _, _ => none
theorem fl_cat (ha : FE X a f) (hb : FE X b g) : FL X (.BinOp a .Add b pos) (fCat f g) := by
  obtain ⟨ta, pa, qa⟩ := ha
  obtain ⟨tb, pb, qb⟩ := hb
  refine ⟨_, pe_op op_cat pa pb, fun ρ d ρ' h A F G H σ Q R k => ?_⟩
  obtain ⟨u, ρ1, h1, h2⟩ := bnd_some h
  obtain ⟨y, ρ2, h3, h4⟩ := bnd_some h2
  refine qa ρ u ρ1 h1 A F G H σ _ R fun x G1 H1 s1 R1 z1 => ?_
  refine qb ρ1 y ρ2 h3 A F G1 H1 σ _ R1 fun w G2 H2 s2 R2 z2 => ?_
  split at h4
  · split at h4
    · rename_i ds es hz
      cases h4
      have hz1 := ble_line hz
      have z3 := z1.up s2
      cases z3 with | lst q1 q2 =>
      cases z2 with | lst w1 w2 =>
      have hl := q2.len
      have hl2 := w2.len
      refine ⟨_, _, _, _, rfl, rfl, R2.gh _ _ q1, R2.gh _ _ w1, by rw [hl, hl2]; exact hz1, fun p hp => ?_⟩
      exact k p _ G2 _ (none_of R2.fh hp) (s1.trans s2) (R2.newF hp) (q2.app w2) (by rw [List.length_append, hl, hl2]; exact hz1)
    · cases h4
  · cases h4
end
end Fe
namespace Fe
open PySem PySem.Spec PyProof.Rows L2

/-! ## statements -/
inductive Out where
  | nx (ρ : En)
  | rt (d : PyData) (ρ : En)
  | bk (ρ : En)
  | ct (ρ : En)
abbrev SF := En → Option Out
def OutOk (K : PySem.W.Frag) (A : Option Addr) (F G : Hp) (D : Ends) : Out → Prop
  | .nx ρ => ∀ σ G' H, Same G G' → Rel K A F G' H ρ σ → D.nx σ H
  | .rt d ρ => ∀ x σ G' H, Same G G' → Rel K A F G' H ρ σ → Dq K G' x d → D.rt x H
  | .bk ρ => ∀ σ G' H, Same G G' → Rel K A F G' H ρ σ → D.bk σ H
  | .ct ρ => ∀ σ G' H, Same G G' → Rel K A F G' H ρ σ → D.ct σ H
theorem OutOk.up {K : PySem.W.Frag} {A : Option Addr} {F G G' : Hp} {D : Ends} {o : Out} (h : OutOk K A F G D o) (s : Same G G') : OutOk K A F G' D o := by
  cases o with
  | nx ρ => exact fun σ G2 H s2 => h σ G2 H (s.trans s2)
  | rt d ρ => exact fun x σ G2 H s2 => h x σ G2 H (s.trans s2)
  | bk ρ => exact fun σ G2 H s2 => h σ G2 H (s.trans s2)
  | ct ρ => exact fun σ G2 H s2 => h σ G2 H (s.trans s2)
def FS (X : Cx) (st : Stmt) (f : SF) : Prop := ∃ t, PS X st t ∧ ∀ ρ o, f ρ = some o → ∀ A F G H σ D, Rel X.K A F G H ρ σ → OutOk X.K A F G D o → t D σ H
def FSs (X : Cx) (sts : List Stmt) (f : SF) : Prop := ∃ t, PSs X sts t ∧ ∀ ρ o, f ρ = some o → ∀ A F G H σ D, Rel X.K A F G H ρ σ → OutOk X.K A F G D o → t D σ H
/-- what a target does with a value; the slots that it sets -/
def FG (X : Cx) (tg : Expr) (is : List Nat) (g : PyData → En → Option En) : Prop := ∃ t, PG X tg t ∧ ∀ d ρ ρ', g d ρ = some ρ' → ∀ A F G H σ x Q, Rel X.K A F G H ρ σ → Dq X.K G x d →
  (∀ σ', Rel X.K A F G H ρ' σ' → (∀ vs, (∀ i ∈ is, i ∈ vs) → wipe σ' vs = wipe σ vs) → Q σ' H) → t x σ H Q
def FGs (X : Cx) (tgs : List Expr) (is : List Nat) (g : List PyData → En → Option En) : Prop := ∃ t, PGs X tgs t ∧ ∀ ds ρ ρ', g ds ρ = some ρ' → ∀ A F G H σ xs Q, Rel X.K A F G H ρ σ → DqA X.K G xs ds →
  (∀ σ', Rel X.K A F G H ρ' σ' → (∀ vs, (∀ i ∈ is, i ∈ vs) → wipe σ' vs = wipe σ vs) → Q σ' H) → t xs σ H Q
/-- what a for walks, as a list -/
structure Yld (K : PySem.W.Frag) (J : It) (G0 : Hp) (ds : List PyData) : Prop where
  go : ∀ i H, Same G0 H → i < ds.length → J.go i H
  stop : ∀ H, Same G0 H → J.stop ds.length H
  yl : ∀ i H x H' d, J.yld i H x H' → ds[i]? = some d → ∀ A F G ρ σ, Same G0 G → Rel K A F G H ρ σ → ∃ G', Same G G' ∧ Rel K A F G' H' ρ σ ∧ Dq K G' x d
def FI (X : Cx) (tg e : Expr) (f : LF) : Prop := ∃ wi, PI X tg e wi ∧ ∀ ρ ds ρ', f ρ = some (ds, ρ') → ∀ A F G H σ R, Rel X.K A F G H ρ σ →
  (∀ J G' H', Same G G' → Rel X.K A F G' H' ρ' σ → Yld X.K J G' ds → R J H') → wi σ H R

/-! ### the functions -/
@[simp] def sNil : SF := fun ρ => some (.nx ρ)
@[simp] def sThen (o : Option Out) (g : SF) : Option Out := match o with
  | some (.nx ρ) => g ρ
  | o => o
@[simp] def sSeq (f g : SF) : SF := fun ρ => sThen (f ρ) g
@[simp] def sSet (i : Nat) (f : EF) : SF := fun ρ => bnd (f ρ) fun d ρ1 => some (.nx (ρ1.set i (.v d)))
@[simp] def sOwn (i : Nat) (f : LF) : SF := fun ρ => bnd (f ρ) fun d ρ1 => some (.nx (ρ1.set i (.own d)))
@[simp] def sRet (f : EF) : SF := fun ρ => bnd (f ρ) fun d ρ1 => some (.rt d ρ1)
@[simp] def sRetN : SF := fun ρ => some (.rt .none ρ)
@[simp] def sDrop (f : EF) : SF := fun ρ => bnd (f ρ) fun _ ρ1 => some (.nx ρ1)
@[simp] def sIf (c : BF) (f g : SF) : SF := fIf c f g
@[simp] def sTg (f : EF) (g : PyData → En → Option En) : SF := fun ρ => bnd (f ρ) fun d ρ1 => match g d ρ1 with
  | some ρ2 => some (.nx ρ2)
  | none => none
@[simp] def gNm (i : Nat) : PyData → En → Option En := fun d ρ => some (ρ.set i (.v d))
@[simp] def gNil' : List PyData → En → Option En := fun ds ρ => match ds with
  | [] => some ρ
  | _ => none
@[simp] def gCons' (g : PyData → En → Option En) (h : List PyData → En → Option En) : List PyData → En → Option En := fun ds ρ => match ds with
  | d :: r => match g d ρ with
    | some ρ1 => h r ρ1
    | none => none
  | [] => none
@[simp] def gTp (n : Nat) (g : List PyData → En → Option En) : PyData → En → Option En := fun d ρ => match d with
  | .tuple ds => if (ds.length == n) = true then g ds ρ else none
  | _ => none
def lp (g : PyData → En → Option En) (b : SF) : List PyData → SF
  | [], ρ => some (.nx ρ)
  | d :: r, ρ => match g d ρ with
    | none => none
    | some ρ1 => match b ρ1 with
      | some (.nx ρ2) => lp g b r ρ2
      | some (.ct ρ2) => lp g b r ρ2
      | some (.bk ρ2) => some (.nx ρ2)
      | some (.rt d ρ2) => some (.rt d ρ2)
      | none => none
@[simp] def sFor (f : LF) (g : PyData → En → Option En) (b : SF) : SF := fun ρ => bnd (f ρ) fun ds ρ1 => lp g b ds ρ1
def whl (c : BF) (b : SF) : Nat → SF
  | 0, _ => none
  | n + 1, ρ => bnd (c ρ) fun k ρ1 => if k = true then (match b ρ1 with
      | some (.nx ρ2) => whl c b n ρ2
      | some (.ct ρ2) => whl c b n ρ2
      | some (.bk ρ2) => some (.nx ρ2)
      | some (.rt d ρ2) => some (.rt d ρ2)
      | none => none) else some (.nx ρ1)
section
variable {X : Cx} {e a b : Expr} {pos : Pos} {f g : EF} {c : BF} {l : LF} {st : Stmt} {sts : List Stmt} {s1 s2 : SF}

theorem fss_nil : FSs X [] sNil := by
  refine ⟨_, pss_nil, fun ρ o h A F G H σ D R k => ?_⟩
  cases h
  exact k σ G H (Same.refl G) R
theorem fss_one (h : FS X st s1) : FSs X [st] s1 := by
  obtain ⟨t, p, q⟩ := h
  exact ⟨t, pss_one p, q⟩
theorem fss_cons (h : FS X st s1) (h2 : FSs X sts s2) : FSs X (st :: sts) (sSeq s1 s2) := by
  obtain ⟨t, p, q⟩ := h
  obtain ⟨t2, p2, q2⟩ := h2
  refine ⟨_, pss_cons p p2, fun ρ o h A F G H σ D R k => ?_⟩
  unfold sSeq sThen at h
  split at h
  · rename_i ρ1 h1
    exact q ρ _ h1 A F G H σ _ R fun σ' G' H' s r => q2 ρ1 o h A F G' H' σ' D r (k.up s)
  · rename_i o1 h1
    refine q ρ o h A F G H σ _ R ?_
    cases o with
    | nx ρ' => exact (h1 ρ' h).elim
    | rt d ρ' => exact k
    | bk ρ' => exact k
    | ct ρ' => exact k
theorem fs_tg {tg : Expr} {is : List Nat} {gg : PyData → En → Option En} (he : FE X e f) (hg : FG X tg is gg) (hs : swapsWithSole [tg] e pos.line X.env = pure false := by rfl) (hw : swappedStores [tg] e X.env = pure none := by rfl)
    (h1 : (assignEach [tg] X.env).map (·.2) = [assign tg X.env] := by rfl) : FS X (.Assign [tg] e pos) (sTg f gg) := by
  obtain ⟨t, p, q⟩ := he
  obtain ⟨t2, p2, q2⟩ := hg
  refine ⟨_, ps_asg p p2 hs hw h1, fun ρ o h A F G H σ D R k => ?_⟩
  obtain ⟨d, ρ1, h3, h4⟩ := bnd_some h
  split at h4
  · rename_i ρ2 h5
    cases h4
    exact q ρ d ρ1 h3 A F G H σ _ R fun x G' H' s r z => q2 d ρ1 ρ2 h5 A F G' H' σ x _ r z fun σ' r' _ => k σ' G' H' s r'
  · cases h4
theorem fs_set {i : Nat} {x : Str} {pos' : Pos} (hN : X.N.Nodup) (hi : X.N[i]? = some x) (hx : Loc X.env.scope x) (he : FE X e f) (hs : swapsWith e (some (.Name x pos')) pos.line X.env = pure false := by rfl) (hf : X.fn x = true ∨ X.env.scope.names.lookup x = some .local := by first | exact .inl rfl | exact .inr rfl | assumption) :
    FS X (.Assign [.Name x pos'] e pos) (sSet i f) := by
  obtain ⟨t, p, q⟩ := he
  refine ⟨_, ps_set hN hi hx p hs hf, fun ρ o h A F G H σ D R k => ?_⟩
  obtain ⟨d, ρ1, h3, h4⟩ := bnd_some h
  cases h4
  exact q ρ d ρ1 h3 A F G H σ _ R fun x G' H' s r z => k _ G' H' s (r.putV i z)
theorem fs_own {i : Nat} {x : Str} {pos' : Pos} (hN : X.N.Nodup) (hi : X.N[i]? = some x) (hx : Loc X.env.scope x) (he : FL X e l) (hs : swapsWith e (some (.Name x pos')) pos.line X.env = pure false := by rfl) (hf : X.fn x = true ∨ X.env.scope.names.lookup x = some .local := by first | exact .inl rfl | exact .inr rfl | assumption) :
    FS X (.Assign [.Name x pos'] e pos) (sOwn i l) := by
  obtain ⟨t, p, q⟩ := he
  refine ⟨_, ps_set hN hi hx p hs hf, fun ρ o h A F G H σ D R k => ?_⟩
  obtain ⟨d, ρ1, h3, h4⟩ := bnd_some h
  cases h4
  exact q ρ d ρ1 h3 A F G H σ _ R fun a xs G' H' fa s r z _ => k _ G' H' s (r.putOwn fa i z)
theorem fs_ret (he : FE X e f) : FS X (.Return (some e) pos) (sRet f) := by
  obtain ⟨t, p, q⟩ := he
  refine ⟨_, ps_ret p, fun ρ o h A F G H σ D R k => ?_⟩
  obtain ⟨d, ρ1, h3, h4⟩ := bnd_some h
  cases h4
  exact q ρ d ρ1 h3 A F G H σ _ R fun x G' H' s r z => k x σ G' H' s r z
theorem fs_retN : FS X (.Return none pos) sRetN := by
  refine ⟨_, ps_retN, fun ρ o h A F G H σ D R k => ?_⟩
  cases h
  exact k .non σ G H (Same.refl G) R .non
theorem fs_drop (he : FE X e f) (hs : swapsWith e none pos.line X.env = pure false := by rfl) : FS X (.Expr e pos) (sDrop f) := by
  obtain ⟨t, p, q⟩ := he
  refine ⟨_, ps_expr p hs, fun ρ o h A F G H σ D R k => ?_⟩
  obtain ⟨d, ρ1, h3, h4⟩ := bnd_some h
  cases h4
  exact q ρ d ρ1 h3 A F G H σ _ R fun x G' H' s r z => k σ G' H' s r
theorem fs_doc {x j pos'} : FS X (.Expr (.Constant (.str x) j pos) pos') sNil := by
  refine ⟨_, ps_doc, fun ρ o h A F G H σ D R k => ?_⟩
  cases h
  exact k σ G H (Same.refl G) R
theorem fs_if {p q : List Stmt} (hc : FT X e c) (ha : FSs X p s1) (hb : FSs X q s2) : FS X (.If e p q pos) (sIf c s1 s2) := by
  obtain ⟨t, hp, hq⟩ := hc
  obtain ⟨t1, p1, q1⟩ := ha
  obtain ⟨t2, p2, q2⟩ := hb
  refine ⟨_, ps_if hp p1 p2, fun ρ o h A F G H σ D R k => ?_⟩
  obtain ⟨d, ρ1, h3, h4⟩ := bnd_some h
  refine hq ρ d ρ1 h3 A F G H σ _ R fun G' H' s r => ?_
  cases d with
  | true => exact q1 _ o h4 A F G' H' σ D r (k.up s)
  | false => exact q2 _ o h4 A F G' H' σ D r (k.up s)
@[simp] def sBk : SF := fun ρ => some (.bk ρ)
@[simp] def sCt : SF := fun ρ => some (.ct ρ)
theorem fs_break : FS X (.Break pos) sBk := by
  refine ⟨_, ps_break, fun ρ o h A F G H σ D R k => ?_⟩
  cases h
  exact k σ G H (Same.refl G) R
theorem fs_continue : FS X (.Continue pos) sCt := by
  refine ⟨_, ps_continue, fun ρ o h A F G H σ D R k => ?_⟩
  cases h
  exact k σ G H (Same.refl G) R
/-- a statement that the proof never comes to -/
def sNo : SF := fun _ => none
theorem fs_no : FS X st sNo := ⟨_, ps_never, fun _ _ h => nomatch h⟩
theorem fss_no : FSs X sts sNo := ⟨_, pss_never, fun _ _ h => nomatch h⟩
/-- a list of one's own is to stay from here on -/
@[simp] def frzS (i : Nat) (ρ : En) : En := match ρ[i]? with
  | some (.own ds) => ρ.set i (.v (.list ds))
  | _ => ρ
theorem Rel.frzS {K : PySem.W.Frag} {A : Option Addr} {F G H : Hp} {ρ : En} {σ : L2.St} (k : Rel K A F G H ρ σ) (i : Nat) : ∃ G', Same G G' ∧ Rel K A F G' H (Fe.frzS i ρ) σ := by
  unfold Fe.frzS
  split
  · rename_i ds h
    exact k.frz h
  · exact ⟨G, Same.refl G, k⟩
theorem fs_frz (i : Nat) (h : FS X st s1) : FS X st (fun ρ => s1 (Fe.frzS i ρ)) := by
  obtain ⟨t, p, q⟩ := h
  refine ⟨t, p, fun ρ o h A F G H σ D R k => ?_⟩
  obtain ⟨G', s, r⟩ := R.frzS i
  exact q _ o h A F G' H σ D r (k.up s)

/-! ### targets -/
theorem wipe_set {σ : L2.St} {i : Nat} {v : Option V} : ∀ {vs : List Nat}, i ∈ vs → wipe (σ.set i v) vs = wipe σ vs
  | [], h => nomatch h
  | j :: r, h => by
    show (wipe (σ.set i v) r).set j none = (wipe σ r).set j none
    by_cases hr : i ∈ r
    · rw [wipe_set hr]
    · have e : i = j := by
        rcases List.mem_cons.mp h with e | e
        · exact e
        · exact absurd e hr
      subst e
      have aux : ∀ {vs : List Nat}, i ∉ vs → wipe (σ.set i v) vs = (wipe σ vs).set i v := by
        intro vs
        induction vs with
        | nil => intro _; rfl
        | cons u w ih =>
          intro hu
          show (wipe (σ.set i v) w).set u none = ((wipe σ w).set u none).set i v
          rw [ih fun z => hu (List.mem_cons_of_mem _ z), List.set_comm _ _ (show i ≠ u from fun z => hu (List.mem_cons.mpr (Or.inl z)))]
      rw [aux hr, List.set_set]
theorem fg_name {i : Nat} {x : Str} (hN : X.N.Nodup) (hi : X.N[i]? = some x) (hx : Loc X.env.scope x) (hf : X.fn x = true ∨ X.env.scope.names.lookup x = some .local := by first | exact .inl rfl | exact .inr rfl | assumption) : FG X (.Name x pos) [i] (gNm i) := by
  refine ⟨_, pg_name hN hi hx hf, fun d ρ ρ' h A F G H σ x Q R z k => ?_⟩
  cases h
  exact k _ (R.putV i z) fun vs hv => wipe_set (hv i (by simp))
theorem fgs_nil : FGs X [] [] gNil' := by
  refine ⟨_, pgs_nil, fun ds ρ ρ' h A F G H σ xs Q R z k => ?_⟩
  unfold gNil' at h
  split at h
  · cases h
    cases z
    exact ⟨rfl, k σ R fun _ _ => rfl⟩
  · cases h
theorem fgs_cons {es : List Expr} {is js : List Nat} {gg : PyData → En → Option En} {hh : List PyData → En → Option En} (h1 : FG X e is gg) (h2 : FGs X es js hh)
    (hs : (assignEach (e :: es) X.env).map (·.2) = assign e X.env :: (assignEach es X.env).map (·.2) := by rfl) : FGs X (e :: es) (is ++ js) (gCons' gg hh) := by
  obtain ⟨t, p, q⟩ := h1
  obtain ⟨t2, p2, q2⟩ := h2
  refine ⟨_, pgs_cons p p2 hs, fun ds ρ ρ' h A F G H σ xs Q R z k => ?_⟩
  unfold gCons' at h
  split at h
  · split at h
    · rename_i ρ1 h3
      cases z with | cons z1 z2 =>
      refine ⟨_, _, rfl, q _ ρ ρ1 h3 A F G H σ _ _ R z1 fun σ1 r1 w1 => ?_⟩
      exact q2 _ ρ1 ρ' h A F G H σ1 _ _ r1 z2 fun σ2 r2 w2 => k σ2 r2 fun vs hv => (w2 vs fun i hi => hv i (List.mem_append_right _ hi)).trans (w1 vs fun i hi => hv i (List.mem_append_left _ hi))
    · cases h
  · cases h
theorem fg_tup {es : List Expr} {k' : Nat} {is : List Nat} {hh : List PyData → En → Option En} {n : Nat} (hc : X.calm = true) (h : FGs X es is hh) (hn : (assignEach es X.env).length = n := by rfl) (hst : (assignEach es X.env).findIdx? (·.1) = none := by rfl) :
    FG X (.Tuple es k' pos) is (gTp n hh) := by
  obtain ⟨t, p, q⟩ := h
  refine ⟨_, pg_tup hc p hn hst, fun d ρ ρ' h A F G H σ x Q R z k => ?_⟩
  unfold gTp at h
  split at h
  · split at h
    · rename_i ds hl
      have hl' : ds.length = n := by simpa using hl
      cases z with | tup z1 z2 =>
      refine ⟨_, _, rfl, sqT_up R.gh z1, by rw [z2.len]; exact hl', ?_⟩
      exact q ds ρ ρ' h A F G H σ _ Q R z2 k
    · cases h
  · cases h

/-! ### for -/
theorem fs_for {tg iter : Expr} {body : List Stmt} {is : List Nat} {gg : PyData → En → Option En} (hc : X.calm = true) (hi : FI X tg iter l) (hg : FG X tg is gg) (hb : FSs X body s1) (hp : PassesOwn (model X.prog X.w) X.A X.env X.xe := by exact PassesOwn.never)
    (hs : ∀ x, foldedSetIterable iter X.env x = pure x := by intro _; rfl) : FS X (.For tg iter body [] pos) (sFor l gg s1) := by
  obtain ⟨wi, p, q⟩ := hi
  obtain ⟨tg', p2, q2⟩ := hg
  obtain ⟨tb, p3, q3⟩ := hb
  refine ⟨_, ps_for hp hc p p2 p3 hs, fun ρ o h A F G H σ D R k => ?_⟩
  obtain ⟨ds, ρ1, h1, h2⟩ := bnd_some h
  refine q ρ ds ρ1 h1 A F G H σ _ R fun J G1 H1 sG r1 Y => ?_
  refine ⟨fun i m τ H2 => m = ds.length - i ∧ i ≤ ds.length ∧ ∃ ρi Gi, Same G1 Gi ∧ Rel X.K A F Gi H2 ρi τ ∧ lp gg s1 (ds.drop i) ρi = some o, ⟨ds.length, by simp, by simp, ρ1, G1, Same.refl _, r1, by simpa using h2⟩, ?_⟩
  rintro i m τ H2 ⟨rfl, hi, ρi, Gi, si, ri, hl⟩
  by_cases hlt : i < ds.length
  · have hd : ds.drop i = ds[i] :: ds.drop (i + 1) := List.drop_eq_getElem_cons hlt
    rw [hd] at hl
    refine .inr ⟨Y.go i H2 (si.trans ri.gh) hlt, _, fun σ' H' hN => ⟨ds.length - (i + 1), by omega, hN⟩, fun x H' hy => ?_⟩
    obtain ⟨G', s', r', z⟩ := Y.yl i H2 x H' ds[i] hy (List.getElem?_eq_getElem hlt) A F Gi ρi τ si ri
    unfold lp at hl
    split at hl
    · cases hl
    · rename_i ρ2 hg2
      refine q2 ds[i] ρi ρ2 hg2 A F G' H' τ x _ r' z fun σ2 r2 _ => ?_
      split at hl
      · rename_i ρ3 hb3
        exact q3 ρ2 _ hb3 A F G' H' σ2 _ r2 fun σ3 G3 H3 s3 r3 => ⟨rfl, by omega, ρ3, G3, (si.trans s').trans s3, r3, hl⟩
      · rename_i ρ3 hb3
        exact q3 ρ2 _ hb3 A F G' H' σ2 _ r2 fun σ3 G3 H3 s3 r3 => ⟨rfl, by omega, ρ3, G3, (si.trans s').trans s3, r3, hl⟩
      · rename_i ρ3 hb3
        cases hl
        exact q3 ρ2 _ hb3 A F G' H' σ2 _ r2 fun σ3 G3 H3 s3 r3 => k σ3 G3 H3 (((sG.trans si).trans s').trans s3) r3
      · rename_i d3 ρ3 hb3
        cases hl
        exact q3 ρ2 _ hb3 A F G' H' σ2 _ r2 fun x σ3 G3 H3 s3 r3 => k x σ3 G3 H3 (((sG.trans si).trans s').trans s3) r3
      · cases hl
  · have e : i = ds.length := by omega
    subst e
    rw [List.drop_length] at hl
    unfold lp at hl
    cases hl
    exact .inl ⟨Y.stop H2 (si.trans ri.gh), k τ Gi H2 (sG.trans si) ri⟩
/-! ### while -/
theorem fs_while {n : Nat} {body : List Stmt} (hc : FT X e c) (hb : FSs X body s1) (hp : PassesOwn (model X.prog X.w) X.A X.env X.xe := by exact PassesOwn.never) : FS X (.While e body [] pos) (whl c s1 n) := by
  obtain ⟨t, p, q⟩ := hc
  obtain ⟨tb, p3, q3⟩ := hb
  refine ⟨_, ps_while hp p p3, fun ρ o h A F G H σ D R k => ?_⟩
  refine ⟨fun m τ H2 => ∃ ρi Gi, Same G Gi ∧ Rel X.K A F Gi H2 ρi τ ∧ whl c s1 m ρi = some o, ⟨n, ρ, G, Same.refl _, R, h⟩, ?_⟩
  rintro m τ H2 ⟨ρi, Gi, si, ri, hl⟩
  cases m with
  | zero => cases hl
  | succ m =>
    unfold whl at hl
    obtain ⟨b, ρ1, h1, h2⟩ := bnd_some hl
    refine q ρi b ρ1 h1 A F Gi H2 τ _ ri fun G' H' s' r' => ?_
    cases b with
    | true =>
      rw [if_pos rfl]
      rw [if_pos rfl] at h2
      refine ⟨_, fun σ' H' hN => ⟨m, by omega, hN⟩, ?_⟩
      split at h2
      · rename_i ρ3 hb3
        exact q3 ρ1 _ hb3 A F G' H' τ _ r' fun σ3 G3 H3 s3 r3 => ⟨ρ3, G3, (si.trans s').trans s3, r3, h2⟩
      · rename_i ρ3 hb3
        exact q3 ρ1 _ hb3 A F G' H' τ _ r' fun σ3 G3 H3 s3 r3 => ⟨ρ3, G3, (si.trans s').trans s3, r3, h2⟩
      · rename_i ρ3 hb3
        cases h2
        exact q3 ρ1 _ hb3 A F G' H' τ _ r' fun σ3 G3 H3 s3 r3 => k σ3 G3 H3 ((si.trans s').trans s3) r3
      · rename_i d3 ρ3 hb3
        cases h2
        exact q3 ρ1 _ hb3 A F G' H' τ _ r' fun x σ3 G3 H3 s3 r3 => k x σ3 G3 H3 ((si.trans s').trans s3) r3
      · cases h2
    | false =>
      rw [if_neg (by decide)]
      rw [if_neg (by decide)] at h2
      cases h2
      exact k τ G' H' (si.trans s') r'
end
end Fe
namespace Fe
open PySem PySem.Spec PyProof.Rows L2 RZ

/-! ## one reading for each function -/
def TF (K : PySem.W.Frag) (f : EF) : TE := fun σ H Q => ∃ ρ d ρ' A F G, f ρ = some (d, ρ') ∧ Rel K A F G H ρ σ ∧ ∀ x G' H', Same G G' → Rel K A F G' H' ρ' σ → Dq K G' x d → Q x H'
def TB (K : PySem.W.Frag) (f : BF) : TT := fun σ H Q => ∃ ρ d ρ' A F G, f ρ = some (d, ρ') ∧ Rel K A F G H ρ σ ∧ ∀ G' H', Same G G' → Rel K A F G' H' ρ' σ → Q d H'
def TGt (K : PySem.W.Frag) (is : List Nat) (g : PyData → En → Option En) : TG := fun x σ H Q => ∃ d ρ ρ' A F G, g d ρ = some ρ' ∧ Rel K A F G H ρ σ ∧ Dq K G x d ∧ ∀ σ', Rel K A F G H ρ' σ' → (∀ vs, (∀ i ∈ is, i ∈ vs) → wipe σ' vs = wipe σ vs) → Q σ' H
section
variable {X : Cx} {e a b : Expr} {pos : Pos} {f g : EF} {c : BF} {l : LF} {st : Stmt} {sts : List Stmt} {s1 s2 : SF}
theorem FE.can (h : FE X e f) : PE X e (TF X.K f) := by
  obtain ⟨t, p, q⟩ := h
  refine ⟨fun pins s σ H Q I w => p.run pins s σ H Q I ?_⟩
  obtain ⟨ρ, d, ρ', A, F, G, h1, h2, h3⟩ := w
  exact q ρ d ρ' h1 A F G H σ Q h2 h3
theorem FT.can (h : FT X e c) : PT X e (TB X.K c) := by
  obtain ⟨t, p, q⟩ := h
  refine ⟨fun pins s σ H Q I w => p.run pins s σ H Q I ?_⟩
  obtain ⟨ρ, d, ρ', A, F, G, h1, h2, h3⟩ := w
  exact q ρ d ρ' h1 A F G H σ Q h2 h3
theorem FG.can {is : List Nat} {gg : PyData → En → Option En} (h : FG X e is gg) : PG X e (TGt X.K is gg) := by
  obtain ⟨t, p, q⟩ := h
  refine ⟨fun pins s σ H v u Q I r w => p.run pins s σ H v u Q I r ?_⟩
  obtain ⟨d, ρ, ρ', A, F, G, h1, h2, h3, h4⟩ := w
  exact q d ρ ρ' h1 A F G H σ v Q h2 h3 h4

/-! ### what is walked -/
def rngL (lo : Int) (n : Nat) : List PyData := (List.range n).map fun k => .int (lo + (k : Nat))
theorem rngL_len {lo : Int} {n : Nat} : (rngL lo n).length = n := by simp [rngL]
theorem rngL_get {lo : Int} {n i : Nat} {d : PyData} (h : (rngL lo n)[i]? = some d) : d = .int (lo + (i : Nat)) := by
  unfold rngL at h
  rw [List.getElem?_map] at h
  by_cases hi : i < n
  · rw [List.getElem?_range hi] at h
    exact (Option.some.inj h).symm
  · rw [List.getElem?_eq_none (by simpa using hi)] at h
    cases h
theorem yld_rng {K : PySem.W.Frag} {lo : Int} {n : Nat} {G : Hp} : Yld K (Itr lo n) G (rngL lo n) where
  go := fun i H _ h => by
    rw [rngL_len] at h
    exact h
  stop := fun H _ => by
    rw [rngL_len]
    exact Nat.le_refl n
  yl := fun i H x H' d hy hd A F G ρ σ _ R => by
    obtain ⟨e1, e2⟩ := hy
    subst e1
    rw [rngL_get hd, e2]
    exact ⟨G, Same.refl G, R, .int _⟩
theorem yld_lst {K : PySem.W.Frag} {a : Addr} {xs : List V} {ds : List PyData} {G : Hp} (h : G a = some (.lst xs)) (k : DqA K G xs ds) : Yld K (Itl K a) G ds where
  go := fun i H s hi => by
    obtain ⟨v, h1, _⟩ := k.get (List.getElem?_eq_getElem hi)
    exact ⟨xs, v, Or.inl (Or.inl (s _ _ h)), h1⟩
  stop := fun H s => ⟨xs, Or.inl (Or.inl (s _ _ h)), Nat.le_of_eq k.len⟩
  yl := fun i H x H' d hy hd A F G2 ρ σ s R => by
    obtain ⟨rfl, hx⟩ := hy
    have h1 := hx xs (Or.inl (Or.inl (R.gh _ _ (s _ _ h))))
    obtain ⟨v, h2, h3⟩ := k.get hd
    rw [h1] at h2
    cases h2
    exact ⟨G2, Same.refl _, R, h3.up s⟩
theorem yld_tup {K : PySem.W.Frag} {a : Addr} {xs : List V} {ds : List PyData} {G : Hp} (h : SqT K G a xs) (k : DqA K G xs ds) : Yld K (Itt K a) G ds where
  go := fun i H s hi => by
    obtain ⟨v, h1, _⟩ := k.get (List.getElem?_eq_getElem hi)
    exact ⟨xs, v, sqT_up s h, h1⟩
  stop := fun H s => ⟨xs, sqT_up s h, Nat.le_of_eq k.len⟩
  yl := fun i H x H' d hy hd A F G2 ρ σ s R => by
    obtain ⟨rfl, hx⟩ := hy
    have h1 := hx xs (sqT_up (s.trans R.gh) h)
    obtain ⟨v, h2, h3⟩ := k.get hd
    rw [h1] at h2
    cases h2
    exact ⟨G2, Same.refl _, R, h3.up s⟩
/-- a list or a tuple -/
theorem pi_seqAny {tg : Expr} {tl : TE} (hl : PE X e tl) : PI X tg e (fun σ H R => tl σ H fun x H1 => ∃ a, x = .ref a ∧ ((∃ xs, SqL X.K H1 a xs ∧ R (Itl X.K a) H1) ∨ (∃ xs, SqT X.K H1 a xs ∧ R (Itt X.K a) H1))) := by
  constructor
  intro pins s σ H R I w
  refine thn (hl.run pins s σ H _ I w) ?_
  rintro v s1 ⟨x, H1, J, rx, a, ex, (⟨xs, hq, q⟩ | ⟨xs, hq, q⟩)⟩ <;> subst ex <;> cases rx
  · obtain ⟨its, _, pl, _⟩ := J.list hq
    refine wpAny_pyIter_list pl.isList ⟨s1.heap.objs.size, [s1.heap.objs.size], _, _, H1, rfl, J.kept (t' := s1.toks) (fun _ _ z => Heap.get?_push_of_some _ z), turn_list a _, ⟨_, Heap.get?_push_size _ rfl, rfl, rfl⟩, ?_, q⟩
    intro c hc
    obtain rfl := List.mem_singleton.mp hc
    exact J.fpOk (Nat.le_refl _) (J.hok.fresh (Nat.le_refl _))
  · obtain ⟨its, _, pt, _⟩ := J.tuple hq
    refine wpAny_pyIter_tuple (show s1.heap.IsTuple a its.toArray from pt) ⟨s1.heap.objs.size, [s1.heap.objs.size], _, _, H1, rfl, J.kept (t' := s1.toks) (fun _ _ z => Heap.get?_push_of_some _ z), turn_tuple a _, ⟨_, Heap.get?_push_size _ rfl, rfl, rfl⟩, ?_, q⟩
    intro c hc
    obtain rfl := List.mem_singleton.mp hc
    exact J.fpOk (Nat.le_refl _) (J.hok.fresh (Nat.le_refl _))
@[simp] def fSeq (f : EF) : LF := fun ρ => bnd (f ρ) fun d ρ1 => match d with
  | .list ds => some (ds, ρ1)
  | .tuple ds => some (ds, ρ1)
  | _ => none
variable {tg : Expr}
theorem fi_seq (h : FE X e f) : FI X tg e (fSeq f) := by
  obtain ⟨t, p, q⟩ := h
  refine ⟨_, pi_seqAny p, fun ρ ds ρ' h A F G H σ R r k => ?_⟩
  obtain ⟨d, ρ1, h1, h2⟩ := bnd_some h
  refine q ρ d ρ1 h1 A F G H σ _ r fun x G' H' s r' z => ?_
  split at h2
  · cases h2
    cases z with | lst z1 z2 => exact ⟨_, rfl, Or.inl ⟨_, Or.inl (Or.inl (r'.gh _ _ z1)), k _ G' H' s r' (yld_lst z1 z2)⟩⟩
  · cases h2
    cases z with | tup z1 z2 => exact ⟨_, rfl, Or.inr ⟨_, sqT_up r'.gh z1, k _ G' H' s r' (yld_tup z1 z2)⟩⟩
  · cases h2
/-- range(n), range(m, n) -/
def inB (j : Int) : Bool := Nat.ble j.natAbs 4611686018427387903
theorem inB_ok {j : Int} (h : inB j = true) : -(2 ^ 62) ≤ j ∧ j < 2 ^ 62 := by
  have := Nat.le_of_ble_eq_true h
  omega
@[simp] def fRng1 (l : LF) : LF := fun ρ => bnd (l ρ) fun ds ρ1 => match ds with
  | [.int j] => if inB j = true then some (rngL 0 j.toNat, ρ1) else none
  | _ => none
@[simp] def fRng2 (l : LF) : LF := fun ρ => bnd (l ρ) fun ds ρ1 => match ds with
  | [.int i, .int j] => if (inB i && inB j) = true then some (rngL i (j - i).toNat, ρ1) else none
  | _ => none
variable {pp : Pos}
theorem fi_rng1 (ha : FA X [a] l) (hg : Gl X "range") (hm : X.mg "range" = none) (hs : starEach [a] X.env = [(false, eval a X.env)] := by rfl) : FI X tg (.Call (.Name "range" pp) [a] [] pos) (fRng1 l) := by
  obtain ⟨t, p, q⟩ := ha
  refine ⟨_, pi_range1 hg hm p hs, fun ρ ds ρ' h A F G H σ R r k => ?_⟩
  obtain ⟨d, ρ1, h1, h2⟩ := bnd_some h
  refine q ρ d ρ1 h1 A F G H σ _ r fun x G' H' s r' z => ?_
  split at h2
  · split at h2
    · rename_i j hj
      cases h2
      have hb := inB_ok hj
      cases z with | cons z1 z2 =>
      cases z1
      cases z2
      exact ⟨j, rfl, hb.1, hb.2, k _ G' H' s r' yld_rng⟩
    · cases h2
  · cases h2
theorem fi_rng2 (ha : FA X [a, b] l) (hg : Gl X "range") (hm : X.mg "range" = none) (hs : starEach [a, b] X.env = [(false, eval a X.env), (false, eval b X.env)] := by rfl) (hs2 : starEach [b] X.env = [(false, eval b X.env)] := by rfl) : FI X tg (.Call (.Name "range" pp) [a, b] [] pos) (fRng2 l) := by
  obtain ⟨t, p, q⟩ := ha
  refine ⟨_, pi_range2 hg hm p hs hs2, fun ρ ds ρ' h A F G H σ R r k => ?_⟩
  obtain ⟨d, ρ1, h1, h2⟩ := bnd_some h
  refine q ρ d ρ1 h1 A F G H σ _ r fun x G' H' s r' z => ?_
  split at h2
  · split at h2
    · rename_i i j hj
      cases h2
      have hj' := Bool.and_eq_true_iff.mp hj
      have hb := inB_ok hj'.1
      have hc := inB_ok hj'.2
      cases z with | cons z1 z2 =>
      cases z2 with | cons z2 z3 =>
      cases z1
      cases z2
      cases z3
      exact ⟨i, j, rfl, ⟨hb.1, hb.2, hc.1, hc.2⟩, k _ G' H' s r' yld_rng⟩
    · cases h2
  · cases h2
def rngC (lo c : Int) (n : Nat) : List PyData := (List.range n).map fun (k : Nat) => PyData.int (lo + (k : Nat) * c)
def rcOk (i j c : Int) : Bool := Nat.ble (i.natAbs + j.natAbs) 16777216 && (decide (c ≠ 0) && (Nat.blt c.natAbs 1073741824 && (Builtin.Range.small i j c && decide (0 ≤ Builtin.Range.rangeSize i j c))))
def fRng3 (l : LF) : LF := fun ρ => bnd (l ρ) fun ds ρ1 => match ds with
  | [.int i, .int j, .int c] => if rcOk i j c = true then some (rngC i c (Builtin.Range.rangeSize i j c).toNat, ρ1) else none
  | _ => none
theorem yld_rngC {K : PySem.W.Frag} {lo c : Int} {n : Nat} {G : Hp} : Yld K (Itc lo c n) G (rngC lo c n) where
  go := fun i H _ h => by
    have e : (rngC lo c n).length = n := by simp [rngC]
    rw [e] at h
    exact h
  stop := fun H _ => by
    have e : (rngC lo c n).length = n := by simp [rngC]
    rw [e]
    exact Nat.le_refl n
  yl := fun i H x H' d hy hd A F G ρ σ _ R => by
    obtain ⟨e1, e2⟩ := hy
    subst e1
    unfold rngC at hd
    rw [List.getElem?_map] at hd
    by_cases hi : i < n
    · rw [List.getElem?_range hi] at hd
      cases hd
      rw [e2]
      exact ⟨G, Same.refl G, R, .int _⟩
    · rw [List.getElem?_eq_none (by simpa using hi)] at hd
      cases hd
theorem fi_rng3 {d : Expr} (ha : FA X [a, b, d] l) (hg : Gl X "range") (hm : X.mg "range" = none) (hs : starEach [a, b, d] X.env = (false, eval a X.env) :: starEach [b, d] X.env := by rfl) (hpl : (backTo pos (starEach [b, d] X.env)).any (·.1) = false := by rfl) : FI X tg (.Call (.Name "range" pp) [a, b, d] [] pos) (fRng3 l) := by
  obtain ⟨t, p, q⟩ := ha
  refine ⟨_, pi_range3 hg hm p hs hpl, fun ρ ds ρ' h A F G H σ R r k => ?_⟩
  obtain ⟨d, ρ1, h1, h2⟩ := bnd_some h
  refine q ρ d ρ1 h1 A F G H σ _ r fun x G' H' s r' z => ?_
  split at h2
  · split at h2
    · rename_i i j c hj
      cases h2
      unfold rcOk at hj
      simp only [Bool.and_eq_true, decide_eq_true_eq] at hj
      obtain ⟨_, g1, g2, g3, g4⟩ := hj
      cases z with | cons z1 z2 =>
      cases z2 with | cons z2 z3 =>
      cases z3 with | cons z3 z4 =>
      cases z1
      cases z2
      cases z3
      cases z4
      exact ⟨i, j, c, _, rfl, ⟨g1, Nat.le_of_ble_eq_true g2, g3, (Int.toNat_of_nonneg g4).symm⟩, k _ G' H' s r' yld_rngC⟩
    · cases h2
  · cases h2
/-- enumerate(a list) -/
def enumD : Nat → List PyData → List PyData
  | _, [] => []
  | n, d :: r => .tuple [.int n, d] :: enumD (n + 1) r
theorem enumD_get : ∀ {ds : List PyData} {n i : Nat} {t : PyData}, (enumD n ds)[i]? = some t → ∃ d, ds[i]? = some d ∧ t = .tuple [.int (n + i : Nat), d]
  | [], _, _, _, h => by simp [enumD] at h
  | d :: r, n, 0, t, h => by
    simp [enumD] at h
    exact ⟨d, rfl, h.symm⟩
  | d :: r, n, i + 1, t, h => by
    obtain ⟨d', h1, h2⟩ := enumD_get (ds := r) (n := n + 1) (i := i) (by simpa [enumD] using h)
    refine ⟨d', by simpa using h1, ?_⟩
    rw [h2, show n + 1 + i = n + (i + 1) by omega]
theorem enumD_len : ∀ {ds : List PyData} {n : Nat}, (enumD n ds).length = ds.length
  | [], _ => rfl
  | _ :: r, n => congrArg (· + 1) (enumD_len (ds := r) (n := n + 1))
theorem yld_enum {K : PySem.W.Frag} {a : Addr} {xs : List V} {ds : List PyData} {G : Hp} (h : G a = some (.lst xs)) (k : DqA K G xs ds) : Yld K (Ite K a) G (enumD 0 ds) where
  go := fun i H s hi => by
    rw [enumD_len] at hi
    obtain ⟨v, h1, _⟩ := k.get (List.getElem?_eq_getElem hi)
    exact ⟨xs, v, Or.inl (Or.inl (s _ _ h)), h1⟩
  stop := fun H s => ⟨xs, Or.inl (Or.inl (s _ _ h)), by rw [enumD_len]; exact Nat.le_of_eq k.len⟩
  yl := fun i H x H' d hy hd A F G2 ρ σ s R => by
    obtain ⟨T, y, rfl, hT, rfl, hx⟩ := hy
    obtain ⟨d', hd', rfl⟩ := enumD_get hd
    have h1 := hx xs (Or.inl (Or.inl (R.gh _ _ (s _ _ h))))
    obtain ⟨v, h2, h3⟩ := k.get hd'
    rw [h1] at h2
    cases h2
    have gT := none_of R.gh hT
    refine ⟨_, same_new gT, R.new hT, .tup (Or.inl (Or.inl upd_same)) (.cons ?_ (.cons (h3.up (s.trans (same_new gT))) .nil))⟩
    rw [Nat.zero_add]
    exact .int _
@[simp] def fEnum (f : EF) : LF := fun ρ => bnd (f ρ) fun d ρ1 => match d with
  | .list ds => some (enumD 0 ds, ρ1)
  | _ => none
theorem fi_enum {elts : List Expr} {kk : Nat} {tpos : Pos} (h : FE X e f) (hg : Gl X "enumerate") (hm : X.mg "enumerate" = none) (hs : starEach [e] X.env = [(false, eval e X.env)] := by rfl) (hs2 : starEach (e :: []) X.env = (false, eval e X.env) :: starEach [] X.env := by rfl) :
    FI X (.Tuple elts kk tpos) (.Call (.Name "enumerate" pp) [e] [] pos) (fEnum f) := by
  obtain ⟨t, p, q⟩ := h
  refine ⟨_, pi_enum hg hm (pa_cons p pa_nil hs2) hs, fun ρ ds ρ' h A F G H σ R r k => ?_⟩
  obtain ⟨d, ρ1, h1, h2⟩ := bnd_some h
  refine q ρ d ρ1 h1 A F G H σ _ r fun x G' H' s r' z => ?_
  split at h2
  · cases h2
    cases z with | lst z1 z2 => exact ⟨_, _, rfl, Or.inl (Or.inl (r'.gh _ _ z1)), k _ G' H' s r' (yld_enum z1 z2)⟩
  · cases h2
/-- zip of two lists, of two tuples -/
def zipD : List PyData → List PyData → List PyData
  | x :: r, y :: w => .tuple [x, y] :: zipD r w
  | _, _ => []
theorem zipD_get : ∀ {ds es : List PyData} {i : Nat} {t : PyData}, (zipD ds es)[i]? = some t → ∃ d e, ds[i]? = some d ∧ es[i]? = some e ∧ t = .tuple [d, e]
  | [], _, _, _, h => by simp [zipD] at h
  | _ :: _, [], _, _, h => by simp [zipD] at h
  | x :: r, y :: w, 0, t, h => by
    simp [zipD] at h
    exact ⟨x, y, rfl, rfl, h.symm⟩
  | x :: r, y :: w, i + 1, t, h => by
    obtain ⟨d, e, h1, h2, h3⟩ := zipD_get (ds := r) (es := w) (i := i) (by simpa [zipD] using h)
    exact ⟨d, e, by simpa using h1, by simpa using h2, h3⟩
theorem zipD_len : ∀ {ds es : List PyData}, (zipD ds es).length = min ds.length es.length
  | [], _ => by simp [zipD]
  | _ :: _, [] => by simp [zipD]
  | _ :: r, _ :: w => by simp [zipD, zipD_len (ds := r) (es := w)]
theorem yld_zip {K : PySem.W.Frag} {a b : Addr} {xs ys : List V} {ds es : List PyData} {G : Hp} (h : G a = some (.lst xs)) (k : DqA K G xs ds) (h' : G b = some (.lst ys)) (k' : DqA K G ys es) : Yld K (Itz K a b) G (zipD ds es) where
  go := fun i H s hi => by
    rw [zipD_len] at hi
    obtain ⟨v, h1, _⟩ := k.get (List.getElem?_eq_getElem (show i < ds.length by omega))
    obtain ⟨u, h2, _⟩ := k'.get (List.getElem?_eq_getElem (show i < es.length by omega))
    exact ⟨xs, ys, v, u, Or.inl (Or.inl (s _ _ h)), Or.inl (Or.inl (s _ _ h')), h1, h2⟩
  stop := fun H s => ⟨xs, ys, Or.inl (Or.inl (s _ _ h)), Or.inl (Or.inl (s _ _ h')), by
    have e1 := k.len
    have e2 := k'.len
    rw [zipD_len]
    omega⟩
  yl := fun i H x H' d hy hd A F G2 ρ σ s R => by
    obtain ⟨T, y, u, rfl, hT, rfl, hx, hu⟩ := hy
    obtain ⟨d', e', hd', he', rfl⟩ := zipD_get hd
    have h1 := hx xs (Or.inl (Or.inl (R.gh _ _ (s _ _ h))))
    have h4 := hu ys (Or.inl (Or.inl (R.gh _ _ (s _ _ h'))))
    obtain ⟨v, h2, h3⟩ := k.get hd'
    obtain ⟨v', h5, h6⟩ := k'.get he'
    rw [h1] at h2
    cases h2
    rw [h4] at h5
    cases h5
    have gT := none_of R.gh hT
    exact ⟨_, same_new gT, R.new hT, .tup (Or.inl (Or.inl upd_same)) (.cons (h3.up (s.trans (same_new gT))) (.cons (h6.up (s.trans (same_new gT))) .nil))⟩
theorem yld_zipT {K : PySem.W.Frag} {a b : Addr} {xs ys : List V} {ds es : List PyData} {G : Hp} (h : SqT K G a xs) (k : DqA K G xs ds) (h' : SqT K G b ys) (k' : DqA K G ys es) : Yld K (ItzT K a b) G (zipD ds es) where
  go := fun i H s hi => by
    rw [zipD_len] at hi
    obtain ⟨v, h1, _⟩ := k.get (List.getElem?_eq_getElem (show i < ds.length by omega))
    obtain ⟨u, h2, _⟩ := k'.get (List.getElem?_eq_getElem (show i < es.length by omega))
    exact ⟨xs, ys, v, u, sqT_up s h, sqT_up s h', h1, h2⟩
  stop := fun H s => ⟨xs, ys, sqT_up s h, sqT_up s h', by
    have e1 := k.len
    have e2 := k'.len
    rw [zipD_len]
    omega⟩
  yl := fun i H x H' d hy hd A F G2 ρ σ s R => by
    obtain ⟨T, y, u, rfl, hT, rfl, hx, hu⟩ := hy
    obtain ⟨d', e', hd', he', rfl⟩ := zipD_get hd
    have h1 := hx xs (sqT_up (s.trans R.gh) h)
    have h4 := hu ys (sqT_up (s.trans R.gh) h')
    obtain ⟨v, h2, h3⟩ := k.get hd'
    obtain ⟨v', h5, h6⟩ := k'.get he'
    rw [h1] at h2
    cases h2
    rw [h4] at h5
    cases h5
    have gT := none_of R.gh hT
    exact ⟨_, same_new gT, R.new hT, .tup (Or.inl (Or.inl upd_same)) (.cons (h3.up (s.trans (same_new gT))) (.cons (h6.up (s.trans (same_new gT))) .nil))⟩
@[simp] def fZip (l : LF) : LF := fun ρ => bnd (l ρ) fun ds ρ1 => match ds with
  | [.list xs, .list ys] => some (zipD xs ys, ρ1)
  | [.tuple xs, .tuple ys] => some (zipD xs ys, ρ1)
  | _ => none
theorem fi_zip {elts : List Expr} {kk : Nat} {tpos : Pos} (ha : FA X [a, b] l) (hg : Gl X "zip") (hm : X.mg "zip" = none) (hs : starEach [a, b] X.env = (false, eval a X.env) :: starEach [b] X.env := by rfl) (hpl : (backTo pos (starEach [b] X.env)).any (·.1) = false := by rfl) :
    FI X (.Tuple elts kk tpos) (.Call (.Name "zip" pp) [a, b] [] pos) (fZip l) := by
  obtain ⟨t, p, q⟩ := ha
  refine ⟨_, pi_zipA hg hm p hs hpl, fun ρ ds ρ' h A F G H σ R r k => ?_⟩
  obtain ⟨d, ρ1, h1, h2⟩ := bnd_some h
  refine q ρ d ρ1 h1 A F G H σ _ r fun x G' H' s r' z => ?_
  split at h2
  · cases h2
    cases z with | cons z1 z2 =>
    cases z2 with | cons z2 z3 =>
    cases z3
    cases z1 with | lst u1 u2 =>
    cases z2 with | lst w1 w2 =>
    exact ⟨_, _, _, _, rfl, Or.inl ⟨Or.inl (Or.inl (r'.gh _ _ u1)), Or.inl (Or.inl (r'.gh _ _ w1)), k _ G' H' s r' (yld_zip u1 u2 w1 w2)⟩⟩
  · cases h2
    cases z with | cons z1 z2 =>
    cases z2 with | cons z2 z3 =>
    cases z3
    cases z1 with | tup u1 u2 =>
    cases z2 with | tup w1 w2 =>
    exact ⟨_, _, _, _, rfl, Or.inr ⟨sqT_up r'.gh u1, sqT_up r'.gh w1, k _ G' H' s r' (yld_zipT u1 u2 w1 w2)⟩⟩
  · cases h2
end
end Fe
namespace Fe
open PySem PySem.Spec PyProof.Rows L2

/-! ## comprehensions -/
@[simp] def wipeE (ρ : En) : List Nat → En
  | [] => ρ
  | v :: vs => (wipeE ρ vs).set v .un
section
variable {K : PySem.W.Frag} {A : Option Addr} {F G G' H H' : Hp} {ρ ρ' : En} {σ τ : L2.St}
theorem Rel.wipe (R : Rel K A F G H ρ σ) : ∀ vs : List Nat, Rel K A F G H (wipeE ρ vs) (L2.wipe σ vs)
  | [] => R
  | v :: vs => (R.wipe vs).putU v none
/-- other values where nothing is known -/
theorem Rel.other (R : Rel K A F G H ρ τ) (hl : σ.length = τ.length) (h : ∀ (i : Nat) (s : Sl), ρ[i]? = some s → s ≠ Sl.un → σ[i]? = τ[i]?) : Rel K A F G H ρ σ := by
  obtain ⟨P, r1, r2, r3⟩ := R.rg
  refine ⟨R.gh, R.fh, R.fg, R.len.trans hl.symm, P, fun i s e => ?_, r2, r3⟩
  obtain ⟨x, e1, e2⟩ := r1 i s e
  by_cases hs : s = Sl.un
  · subst hs
    have hi : i < σ.length := by
      have := (List.getElem?_eq_some_iff.mp e1).1
      omega
    exact ⟨σ[i], List.getElem?_eq_getElem hi, e2⟩
  · exact ⟨x, (h i s e hs).trans e1, e2⟩
theorem wipeE_in {i : Nat} : ∀ {vs : List Nat} {s : Sl}, i ∈ vs → (wipeE ρ vs)[i]? = some s → s = .un
  | v :: vs, s, h, e => by
    unfold wipeE at e
    by_cases hi : v = i
    · subst hi
      rw [List.getElem?_set_self'] at e
      cases q : (wipeE ρ vs)[v]? with
      | none => rw [q] at e; cases e
      | some u =>
        rw [q] at e
        exact (Option.some.inj e).symm
    · rw [List.getElem?_set_ne hi] at e
      rcases List.mem_cons.mp h with z | z
      · exact absurd z.symm hi
      · exact wipeE_in z e
theorem Rel.unwipe {vs : List Nat} (R : Rel K A F G H (wipeE ρ vs) (L2.wipe σ vs)) : Rel K A F G H (wipeE ρ vs) σ :=
  R.other (wipe_length σ vs).symm fun i s e hs => (wipe_out fun hi => hs (wipeE_in hi e)).symm
theorem wipe_idem : ∀ {vs : List Nat}, L2.wipe (L2.wipe σ vs) vs = L2.wipe σ vs := by
  have aux : ∀ us vs : List Nat, (∀ i ∈ us, i ∈ vs) → L2.wipe (L2.wipe σ us) vs = L2.wipe σ vs := by
    intro us
    induction us with
    | nil => intro vs _; rfl
    | cons u w ih =>
      intro vs h
      show L2.wipe ((L2.wipe σ w).set u none) vs = _
      rw [wipe_set (h u List.mem_cons_self)]
      exact ih vs fun i hi => h i (List.mem_cons_of_mem _ hi)
  exact fun {vs} => aux vs vs fun _ h => h
end
def cl (vs : List Nat) (g : PyData → En → Option En) (c : BF) (e : EF) : List PyData → LF
  | [], ρ => some ([], wipeE ρ vs)
  | d :: r, ρ => match g d (wipeE ρ vs) with
    | none => none
    | some ρ1 => bnd (c ρ1) fun k ρ2 => if k = true then bnd (e ρ2) fun y ρ3 => bnd (cl vs g c e r ρ3) fun ys ρ4 => some (y :: ys, ρ4) else cl vs g c e r ρ2
@[simp] def fComp (vs : List Nat) (fi : LF) (g : PyData → En → Option En) (c : BF) (e : EF) : LF := fun ρ => bnd (fi ρ) fun ds ρ1 => if Nat.ble ds.length 16777216 = true then cl vs g c e ds ρ1 else none
@[simp] def fYes : BF := fun ρ => some (true, ρ)
section
variable {X : Cx} {elt tg iter : Expr} {ifs : List Expr} {scope : Scope} {own : List (Str × Nat)} {pos : Pos} {fi : LF} {gg : PyData → En → Option En} {c : BF} {f : EF} {is : List Nat}
/-- a comprehension's test list -/
def FTs (X : Cx) (es : List Expr) (f : BF) : Prop := ∃ t, PTs X es t ∧ ∀ ρ d ρ', f ρ = some (d, ρ') → ∀ A F G H σ Q, Rel X.K A F G H ρ σ →
  (∀ G' H', Same G G' → Rel X.K A F G' H' ρ' σ → Q d H') → t σ H Q
theorem fts_nil : FTs X [] fYes := by
  refine ⟨_, pts_nil, fun ρ d ρ' h A F G H σ Q R k => ?_⟩
  cases h
  exact k G H (Same.refl G) R
theorem fts_one {e : Expr} (h : FT X e c) : FTs X [e] c := by
  obtain ⟨t, p, q⟩ := h
  exact ⟨t, pts_one p, q⟩
theorem FTs.can {es : List Expr} (h : FTs X es c) : PTs X es (TB X.K c) := by
  obtain ⟨t, p, q⟩ := h
  refine ⟨fun pins s σ H Q I w => p.run pins s σ H Q I ?_⟩
  obtain ⟨ρ, d, ρ', A, F, G, h1, h2, h3⟩ := w
  exact q ρ d ρ' h1 A F G H σ Q h2 h3
theorem lc_spec {K : PySem.W.Frag} {wi : TI} {vs : List Nat} (hv : ∀ i ∈ is, i ∈ vs)
    (q : ∀ ρ ds ρ', fi ρ = some (ds, ρ') → ∀ A F G H σ R, Rel K A F G H ρ σ → (∀ J G' H', Same G G' → Rel K A F G' H' ρ' σ → Yld K J G' ds → R J H') → wi σ H R) :
    ∀ ρ ds ρ', fComp vs fi gg c f ρ = some (ds, ρ') → ∀ A F G H σ (Q : VK), Rel K A F G H ρ σ →
      (∀ a xs G' H', F a = none → Same G G' → Rel K A (upd F a (.lst xs)) G' H' ρ' σ → DqA K G' xs ds → xs.length ≤ sizeLine → Q (.ref a) H') → tLc wi (TGt K is gg) (TB K c) (TF K f) vs σ H Q := by
  intro ρ es ρ' h A F G H σ Q R k
  obtain ⟨ds, ρ1, h1, h2⟩ := bnd_some h
  split at h2
  · rename_i hz
    have hz' := ble_line hz
    refine q ρ ds ρ1 h1 A F G H σ _ R fun J G1 H1 s1 r1 Y D hD => ?_
    have fD := none_of r1.fh hD
    refine ⟨fun i m H2 => m = ds.length - i ∧ i ≤ ds.length ∧ ∃ τ ρi Gi acc da rest, L2.wipe τ vs = L2.wipe σ vs ∧ Same G1 Gi ∧ Rel K A (upd F D (.lst acc)) Gi H2 ρi τ ∧ DqA K Gi acc da ∧ acc.length ≤ i ∧ cl vs gg c f (ds.drop i) ρi = some (rest, ρ') ∧ da ++ rest = es,
      ⟨ds.length, by simp, by simp, σ, ρ1, G1, [], [], es, rfl, Same.refl _, r1.newF hD, .nil, Nat.le_refl _, by simpa using h2, rfl⟩, ?_⟩
    rintro i m H2 ⟨rfl, hi, τ, ρi, Gi, acc, da, rest, hw, si, ri, ha, hal, hl, hes⟩
    by_cases hlt : i < ds.length
    · rw [List.drop_eq_getElem_cons hlt] at hl
      refine .inr ⟨Y.go i H2 (si.trans ri.gh) hlt, _, fun H' hN => ⟨ds.length - (i + 1), by omega, hN⟩, fun x H' hy => ?_⟩
      obtain ⟨G', s', r', z⟩ := Y.yl i H2 x H' ds[i] hy (List.getElem?_eq_getElem hlt) A _ Gi ρi τ si ri
      have rw' : Rel K A (upd F D (.lst acc)) G' H' (wipeE ρi vs) (L2.wipe σ vs) := hw ▸ r'.wipe vs
      unfold cl at hl
      split at hl
      · cases hl
      · rename_i ρ2 hg2
        obtain ⟨b, ρ3, hc3, hl⟩ := bnd_some hl
        refine ⟨ds[i], _, ρ2, A, _, G', hg2, rw', z, fun σ2 r2 w2 => ⟨(w2 vs hv).trans wipe_idem, ?_⟩⟩
        have w2' : L2.wipe σ2 vs = L2.wipe σ vs := (w2 vs hv).trans wipe_idem
        refine ⟨ρ2, b, ρ3, A, _, G', hc3, r2, fun G3 H3 s3 r3 => ?_⟩
        cases b with
        | true =>
          rw [if_pos rfl] at hl
          rw [if_pos rfl]
          obtain ⟨y, ρ4, he4, hl⟩ := bnd_some hl
          obtain ⟨ys, ρ5, he5, hl⟩ := bnd_some hl
          cases hl
          refine ⟨ρ3, y, ρ4, A, _, G3, he4, r3, fun v G4 H4 s4 r4 z4 => ?_⟩
          have s04 : Same Gi G4 := (s'.trans s3).trans s4
          refine ⟨acc, r4.fh D _ upd_same, by omega, rfl, by omega, σ2, ρ4, G4, acc ++ [v], da ++ [y], ys, w2', si.trans s04, r4.chgF, (ha.up s04).app (.one z4), ?_, he5, ?_⟩
          · rw [List.length_append]
            exact Nat.add_le_add_right hal 1
          · rw [List.append_assoc]
            exact hes
        | false =>
          rw [if_neg (by decide)] at hl
          rw [if_neg (by decide)]
          exact ⟨rfl, by omega, σ2, ρ3, G3, acc, da, rest, w2', si.trans (s'.trans s3), r3, ha.up (s'.trans s3), by omega, hl, hes⟩
    · have e : i = ds.length := by omega
      subst e
      rw [List.drop_length] at hl
      unfold cl at hl
      cases hl
      rw [List.append_nil] at hes
      subst hes
      refine .inl ⟨Y.stop H2 (si.trans ri.gh), k D acc Gi H2 fD (s1.trans si) ?_ ha (by omega)⟩
      exact Rel.unwipe (hw ▸ ri.wipe vs)
  · cases h2
theorem fl_lc (own : List (Str × Nat)) (hc : X.calm = true) (hN : X.N.Nodup) (hi : FI X tg iter fi) (ok : BlkOk X.N X.env.scope scope own)
    (hg : ∀ s H C cl fp, FG (X.blk s H scope (compEnvC scope cl C X.env) fp) tg is gg) (ht : ∀ s H C cl fp, FTs (X.blk s H scope (compEnvC scope cl C X.env) fp) ifs c)
    (he : ∀ s H C cl fp, FE (X.blk s H scope (compEnvC scope cl C X.env) fp) elt f) (hv : ∀ i ∈ is, i ∈ own.map (·.2) := by decide) (hs : ∀ x, foldedSetIterable iter X.env x = pure x := by intro _; rfl) :
    FL X (.ListComp elt [⟨tg, iter, ifs, 0⟩] scope pos) (fComp (own.map (·.2)) fi gg c f) := by
  obtain ⟨wi, p, q⟩ := hi
  exact ⟨_, pe_lc hc hN p ok (fun s H C cl fp => (show PG _ tg (TGt X.K is gg) from (hg s H C cl fp).can)) (fun s H C cl fp => (show PTs _ ifs (TB X.K c) from (ht s H C cl fp).can)) (fun s H C cl fp => (show PE _ elt (TF X.K f) from (he s H C cl fp).can)) hs, lc_spec hv q⟩
/-- y = [..], kept -/
theorem fs_lcV {i : Nat} {y : Str} {py spos : Pos} (own : List (Str × Nat)) (hc : X.calm = true) (hN : X.N.Nodup) (hy : X.N[i]? = some y) (hyl : X.env.scope.names.lookup y = some .local) (hsw : swapsWith (.ListComp elt [⟨tg, iter, ifs, 0⟩] scope pos) (some (.Name y py)) spos.line X.env = pure true)
    (hi : FI X tg iter fi) (ok : BlkOk X.N X.env.scope scope own) (hg : ∀ s H C cl fp, FG (X.blk s H scope (compEnvC scope cl C X.env) fp) tg is gg) (ht : ∀ s H C cl fp, FTs (X.blk s H scope (compEnvC scope cl C X.env) fp) ifs c)
    (he : ∀ s H C cl fp, FE (X.blk s H scope (compEnvC scope cl C X.env) fp) elt f) (hv : ∀ i ∈ is, i ∈ own.map (·.2) := by decide) (hs : ∀ x, foldedSetIterable iter X.env x = pure x := by intro _; rfl) :
    FS X (.Assign [.Name y py] (.ListComp elt [⟨tg, iter, ifs, 0⟩] scope pos) spos) (sSet i (fAsL (fComp (own.map (·.2)) fi gg c f))) := by
  obtain ⟨wi, p, q⟩ := hi
  refine ⟨_, ps_setLc hc hN hy hyl hsw p ok (fun s H C cl fp => (show PG _ tg (TGt X.K is gg) from (hg s H C cl fp).can)) (fun s H C cl fp => (show PTs _ ifs (TB X.K c) from (ht s H C cl fp).can)) (fun s H C cl fp => (show PE _ elt (TF X.K f) from (he s H C cl fp).can)) hs, fun ρ o h A F G H σ D R k => ?_⟩
  obtain ⟨d, ρ1, h3, h4⟩ := bnd_some h
  obtain ⟨es, ρ2, h5, h6⟩ := bnd_some h3
  cases h6
  cases h4
  refine lc_spec hv q ρ es _ h5 A F G H σ _ R fun a xs G' H' fa s r z _ => ?_
  have g0 : G' a = none := r.fg a _ upd_same
  exact k _ _ H' (s.trans (same_new g0)) ((r.keepF fa).putV i (.lst upd_same (z.up (same_new g0))))
/-- y = [..], one's own -/
theorem fs_lcO {i : Nat} {y : Str} {py spos : Pos} (own : List (Str × Nat)) (hc : X.calm = true) (hN : X.N.Nodup) (hy : X.N[i]? = some y) (hyl : X.env.scope.names.lookup y = some .local) (hsw : swapsWith (.ListComp elt [⟨tg, iter, ifs, 0⟩] scope pos) (some (.Name y py)) spos.line X.env = pure true)
    (hi : FI X tg iter fi) (ok : BlkOk X.N X.env.scope scope own) (hg : ∀ s H C cl fp, FG (X.blk s H scope (compEnvC scope cl C X.env) fp) tg is gg) (ht : ∀ s H C cl fp, FTs (X.blk s H scope (compEnvC scope cl C X.env) fp) ifs c)
    (he : ∀ s H C cl fp, FE (X.blk s H scope (compEnvC scope cl C X.env) fp) elt f) (hv : ∀ i ∈ is, i ∈ own.map (·.2) := by decide) (hs : ∀ x, foldedSetIterable iter X.env x = pure x := by intro _; rfl) :
    FS X (.Assign [.Name y py] (.ListComp elt [⟨tg, iter, ifs, 0⟩] scope pos) spos) (sOwn i (fComp (own.map (·.2)) fi gg c f)) := by
  obtain ⟨wi, p, q⟩ := hi
  refine ⟨_, ps_setLc hc hN hy hyl hsw p ok (fun s H C cl fp => (show PG _ tg (TGt X.K is gg) from (hg s H C cl fp).can)) (fun s H C cl fp => (show PTs _ ifs (TB X.K c) from (ht s H C cl fp).can)) (fun s H C cl fp => (show PE _ elt (TF X.K f) from (he s H C cl fp).can)) hs, fun ρ o h A F G H σ D R k => ?_⟩
  obtain ⟨es, ρ2, h5, h6⟩ := bnd_some h
  cases h6
  exact lc_spec hv q ρ es _ h5 A F G H σ _ R fun a xs G' H' fa s r z _ => k _ G' H' s (r.putOwn fa i z)
end

/-! ## changing a list of one's own -/
section
variable {X : Cx} {e o a b : Expr} {st : Stmt} {f g : EF} {i : Nat}
@[simp] def sApp (i : Nat) (f : EF) : SF := fun ρ => match ρ[i]? with
  | some (.own _) => bnd (f ρ) fun d ρ1 => match ρ1[i]? with
    | some (.own ds) => if Nat.blt ds.length 16777216 = true then some (.nx (ρ1.set i (.own (ds ++ [d])))) else none
    | _ => none
  | _ => none
theorem blt_line {n : Nat} (h : Nat.blt n 16777216 = true) : n < sizeLine := by
  rw [sizeLine_eq]
  exact Nat.le_of_ble_eq_true h
theorem fs_app (mk : ∀ t, PE X e t → PS X st (tDrop (tBM X.K "list" rAppend (tVar i) (tCons t tNil)))) (he : FE X e f) : FS X st (sApp i f) := by
  obtain ⟨t, p, q⟩ := he
  refine ⟨_, mk t p, fun ρ o h A F G H σ D R k => ?_⟩
  unfold sApp at h
  split at h
  · rename_i ds0 hi0
    obtain ⟨d, ρ1, h1, h2⟩ := bnd_some h
    obtain ⟨p0, xs0, e0, e1, e2, _⟩ := R.atOwn hi0
    refine ⟨_, e0, Or.inl ⟨rfl, _, Or.inl (Or.inl e1)⟩, q ρ d ρ1 h1 A F G H σ _ R fun x G' H' s r z => ?_⟩
    split at h2
    · rename_i ds hi
      split at h2
      · rename_i hz
        cases h2
        obtain ⟨p1, xs, e3, e4, e5, _⟩ := r.atOwn hi
        rw [e0] at e3
        cases e3
        refine ⟨_, xs, x, rfl, rfl, e4, by rw [e5.len]; exact blt_line hz, ?_⟩
        exact k σ G' _ s (r.chgOwn hi e0 (e5.app (.one z)))
      · cases h2
    · cases h2
  · cases h
/-- xs.extend(a list) -/
@[simp] def sExt (i : Nat) (f : EF) : SF := fun ρ => match ρ[i]? with
  | some (.own _) => bnd (f ρ) fun d ρ1 => match d, ρ1[i]? with
    | .list es, some (.own ds) => if Nat.ble (ds.length + es.length) 16777216 = true then some (.nx (ρ1.set i (.own (ds ++ es)))) else none
    | _, _ => none
  | _ => none
theorem fs_ext (mk : ∀ t, PE X e t → PS X st (tDrop (tBM X.K "list" rExtend (tVar i) (tCons t tNil)))) (he : FE X e f) : FS X st (sExt i f) := by
  obtain ⟨t, p, q⟩ := he
  refine ⟨_, mk t p, fun ρ o h A F G H σ D R k => ?_⟩
  unfold sExt at h
  split at h
  · rename_i ds0 hi0
    obtain ⟨d, ρ1, h1, h2⟩ := bnd_some h
    obtain ⟨p0, xs0, e0, e1, e2, _⟩ := R.atOwn hi0
    refine ⟨_, e0, Or.inl ⟨rfl, _, Or.inl (Or.inl e1)⟩, q ρ d ρ1 h1 A F G H σ _ R fun x G' H' s r z => ?_⟩
    split at h2
    · rename_i es ds hi
      split at h2
      · rename_i hz
        cases h2
        obtain ⟨p1, xs, e3, e4, e5, _⟩ := r.atOwn hi
        rw [e0] at e3
        cases e3
        cases z with | lst z1 z2 =>
        refine ⟨_, _, xs, _, rfl, rfl, e4, r.gh _ _ z1, by rw [e5.len, z2.len]; exact ble_line hz, ?_⟩
        exact k σ G' _ s (r.chgOwn hi e0 (e5.app z2))
      · cases h2
    · cases h2
  · cases h
/-- xs[j] = e -/
def ixP (n : Nat) (i : Int) : Option Nat := match i with
  | .ofNat k => if Nat.blt k n = true then some k else none
  | .negSucc k => if Nat.blt k n = true then some (n - (k + 1)) else none
theorem ixP_ok {n : Nat} {i : Int} {j : Nat} (h : ixP n i = some j) : ixN n i = some j := by
  unfold ixN
  cases i with
  | ofNat k =>
    have h' : (if Nat.blt k n = true then some k else none) = some j := h
    by_cases hk : Nat.blt k n = true
    · rw [if_pos hk] at h'
      have e : k = j := Option.some.inj h'
      subst e
      have hk' : k + 1 ≤ n := Nat.le_of_ble_eq_true hk
      rw [if_pos (show (0 : Int) ≤ Int.ofNat k from Int.natCast_nonneg k), if_pos (show Int.ofNat k < (n : Int) from Int.ofNat_lt.mpr (by omega))]
      rfl
    · rw [if_neg hk] at h'
      cases h'
  | negSucc k =>
    have h' : (if Nat.blt k n = true then some (n - (k + 1)) else none) = some j := h
    by_cases hk : Nat.blt k n = true
    · rw [if_pos hk] at h'
      cases h'
      have hk' : k + 1 ≤ n := Nat.le_of_ble_eq_true hk
      rw [if_neg (show ¬ (0 : Int) ≤ Int.negSucc k by omega), if_pos (show -(n : Int) ≤ Int.negSucc k by omega)]
      congr 1
      omega
    · rw [if_neg hk] at h'
      cases h'
@[simp] def sIx (i : Nat) (f g : EF) : SF := fun ρ => bnd (f ρ) fun d ρ1 => match ρ1[i]? with
  | some (.own _) => bnd (g ρ1) fun j ρ2 => match j, ρ2[i]? with
    | .int j, some (.own ds) => match ixP ds.length j with
      | some n => some (.nx (ρ2.set i (.own (ds.set n d))))
      | none => none
    | _, _ => none
  | _ => none
theorem fs_ix (mk : ∀ t u, PE X e t → PE X b u → PS X st (tAsg t (gSub (tVar i) u rSetL))) (hi : FE X b g) (he : FE X e f) : FS X st (sIx i f g) := by
  obtain ⟨t, p, q⟩ := he
  obtain ⟨t2, p2, q2⟩ := hi
  refine ⟨_, mk t t2 p p2, fun ρ o h A F G H σ D R k => ?_⟩
  obtain ⟨d, ρ1, h3, h4⟩ := bnd_some h
  refine q ρ d ρ1 h3 A F G H σ _ R fun x G1 H1 s1 r1 z1 => ?_
  split at h4
  · rename_i ds0 hi0
    obtain ⟨j, ρ2, h5, h6⟩ := bnd_some h4
    obtain ⟨p0, xs0, e0, e1, e2, _⟩ := r1.atOwn hi0
    refine ⟨_, e0, q2 ρ1 j ρ2 h5 A F G1 H1 σ _ r1 fun y G2 H2 s2 r2 z2 => ?_⟩
    split at h6
    · rename_i j ds hi
      split at h6
      · rename_i n hn
        cases h6
        obtain ⟨p1, xs, e3, e4, e5, _⟩ := r2.atOwn hi
        rw [e0] at e3
        cases e3
        cases z2
        refine ⟨_, xs, j, n, rfl, rfl, e4, by rw [e5.len]; exact ixP_ok hn, ?_⟩
        exact k σ G2 _ (s1.trans s2) (r2.chgOwn hi e0 (e5.st (z1.up s2) n))
      · cases h6
    · cases h6
  · cases h4
/-- xs.pop() -/
@[simp] def fPop (i : Nat) : EF := fun ρ => match ρ[i]? with
  | some (.own ds) => match ds[ds.length - 1]? with
    | some d => some (d, ρ.set i (.own ds.dropLast))
    | none => none
  | _ => none
theorem DqA.dl {K : PySem.W.Frag} {H : Hp} {ds : List PyData} {vs : List V} (h : DqA K H vs ds) : DqA K H vs.dropLast ds.dropLast := by
  rw [List.dropLast_eq_take, List.dropLast_eq_take, h.len]
  exact h.tk _
theorem fe_pop (h : PE X e (tBM0 X.K "list" rPop (tVar i))) : FE X e (fPop i) := by
  refine ⟨_, h, fun ρ d ρ' h A F G H σ Q R k => ?_⟩
  unfold fPop at h
  split at h
  · rename_i ds hi
    split at h
    · rename_i d' hd
      cases h
      obtain ⟨p0, xs, e0, e1, e2, _⟩ := R.atOwn hi
      obtain ⟨v, h1, h2⟩ := e2.get hd
      rw [← e2.len] at h1
      exact ⟨_, e0, Or.inl ⟨rfl, _, Or.inl (Or.inl e1)⟩, _, xs, v, rfl, rfl, e1, h1, k v G _ (Same.refl G) (R.chgOwn hi e0 e2.dl) h2⟩
    · cases h
  · cases h
/-- xs.pop(j), j from 0 on -/
@[simp] def fPopAt (i : Nat) (g : EF) : EF := fun ρ => match ρ[i]? with
  | some (.own _) => bnd (g ρ) fun j ρ1 => match j, ρ1[i]? with
    | .int (.ofNat n), some (.own ds) => match ds[n]? with
      | some d => if Nat.ble ds.length 16777216 = true then some (d, ρ1.set i (.own (ds.eraseIdx n))) else none
      | none => none
    | _, _ => none
  | _ => none
theorem DqA.er {K : PySem.W.Frag} {H : Hp} : ∀ {ds : List PyData} {vs : List V} (n : Nat), DqA K H vs ds → DqA K H (vs.eraseIdx n) (ds.eraseIdx n)
  | [], _, n, h => by cases h; simp; exact .nil
  | _ :: _, _, 0, h => by cases h with | cons q r => exact r
  | _ :: _, _, n + 1, h => by cases h with | cons q r => exact .cons q (DqA.er n r)
theorem fe_popAt (mk : ∀ t, PE X e t → PE X o (tBM X.K "list" rPopAt (tVar i) (tCons t tNil))) (he : FE X e f) : FE X o (fPopAt i f) := by
  obtain ⟨t, p, q⟩ := he
  refine ⟨_, mk t p, fun ρ d ρ' h A F G H σ Q R k => ?_⟩
  unfold fPopAt at h
  split at h
  · rename_i ds0 hi0
    obtain ⟨j, ρ1, h1, h2⟩ := bnd_some h
    obtain ⟨p0, xs0, e0, e1, e2, _⟩ := R.atOwn hi0
    refine ⟨_, e0, Or.inl ⟨rfl, _, Or.inl (Or.inl e1)⟩, q ρ j ρ1 h1 A F G H σ _ R fun x G' H' s r z => ?_⟩
    split at h2
    · rename_i n ds hi
      split at h2
      · rename_i d' hd
        split at h2
        · rename_i hz
          cases h2
          obtain ⟨p1, xs, e3, e4, e5, _⟩ := r.atOwn hi
          rw [e0] at e3
          cases e3
          cases z
          obtain ⟨v, h3, h4⟩ := e5.get hd
          have hn : n < xs.length := (List.getElem?_eq_some_iff.mp h3).1
          have hl := e5.len
          have hz' : ds.length ≤ 16777216 := Nat.le_of_ble_eq_true hz
          have hk : ixN xs.length (Int.ofNat n) = some n := by
            unfold ixN
            rw [if_pos (show (0 : Int) ≤ Int.ofNat n from Int.natCast_nonneg n), if_pos (show Int.ofNat n < (xs.length : Int) from Int.ofNat_lt.mpr hn)]
            rfl
          refine ⟨_, xs, Int.ofNat n, n, v, rfl, rfl, e4, ?_, ?_, (ixN_seq hk).1, h3, k v G' _ s (r.chgOwn hi e0 (e5.er n)) h4⟩
          · show -(2 ^ 63) ≤ ((n : Nat) : Int)
            omega
          · show ((n : Nat) : Int) < 2 ^ 63
            omega
        · cases h2
      · cases h2
    · cases h2
  · cases h
end
/-! ## a, b = x, y -/
section
variable {X : Cx} {a b : Expr} {f g : EF}
@[simp] def sPar (i j : Nat) (f g : EF) : SF := fun ρ => bnd (f ρ) fun x ρ1 => bnd (g ρ1) fun y ρ2 => some (.nx ((ρ2.set i (.v x)).set j (.v y)))
theorem fs_par {st : Stmt} {i j : Nat} (mk : ∀ t u, PE X a t → PE X b u → PS X st (tPar i j (tCons t (tCons u tNil)))) (ha : FE X a f) (hb : FE X b g) : FS X st (sPar i j f g) := by
  obtain ⟨ta, pa, qa⟩ := ha
  obtain ⟨tb, pb, qb⟩ := hb
  refine ⟨_, mk ta tb pa pb, fun ρ o h A F G H σ D R k => ?_⟩
  obtain ⟨d, ρ1, h3, h4⟩ := bnd_some h
  obtain ⟨d2, ρ2, h5, h6⟩ := bnd_some h4
  cases h6
  refine qa ρ d ρ1 h3 A F G H σ _ R fun u G1 H1 s1 r1 z1 => qb ρ1 d2 ρ2 h5 A F G1 H1 σ _ r1 fun v G2 H2 s2 r2 z2 => ⟨u, v, rfl, ?_⟩
  exact k _ G2 H2 (s1.trans s2) ((r2.putV i (z1.up s2)).putV j z2)
end
end Fe
namespace Fe
open PySem PySem.Spec PyProof.Rows L2

/-! ## defs -/
/-- a promise: arguments, heap, what is wanted -/
abbrev Pr := List V → Hp → VK → Prop
/-- the def at f keeps the promise, called where nothing is being shown and no exception leaves -/
structure FnG (P : Program) (w : World) (K : PySem.W.Frag) (mg : Str → Option Value) (base : Heap) (k : Nat) (f : Addr) (fd : FuncData) (ps : List Str) (sp : Pr) : Prop where
  len : ∀ vs H Q, sp vs H Q → vs.length = ps.length
  run : ∀ (A : Around) (outer : List Env) (s : Shared) (H : Hp) (args : Args) (us : List Value) (vs : List V) (Q : VK), Room k A → A.guards = some [] → Env0 P w K mg base A outer s H → BindsTo s fd args (ps.zip us) → Vals vs us → sp vs H Q →
    codeAny (model P w) A (.call (.ref f) args) (CR CX0 outer P w H s Q E0) s
section
variable {P : Program} {w : World} {K : PySem.W.Frag} {mg : Str → Option Value} {base : Heap}
theorem FnG.up {j k : Nat} {f : Addr} {fd : FuncData} {ps : List Str} {sp : Pr} (F : FnG P w K mg base j f fd ps sp) (h : j ≤ k) : FnG P w K mg base k f fd ps sp :=
  ⟨F.len, fun A outer s H args us vs Q r => F.run A outer s H args us vs Q (r.mono h)⟩
end
section
variable {X : Cx} {k : Nat} {f : Addr} {fd : FuncData} {ps : List Str} {sp : Pr} {x : Str} {p pos : Pos} {e : Expr} {es : List Expr} {t : TA}
theorem callG {pins : List (Addr × Obj)} {σ : L2.St} {H : Hp} {s : Shared} {Q : VK} {us : List Value} {vs : List V} (F : FnG X.prog X.w X.K X.mg X.base k f fd ps sp) (hr : Room k X.A) (hG : X.A.guards = some []) (hb : Binds X.K fd ps [])
    (I : Inv X pins σ H s) (rv : Vals vs us) (q : sp vs H Q) : wpAny (model X.prog X.w) X.A (call (.ref f) us) (EP X pins σ Q) X.xe s := by
  have hl : (us ++ []).length = ps.length := by
    rw [List.append_nil, ← rv.length]
    exact F.len _ _ _ q
  have hb' : BindsTo s fd ⟨us, []⟩ (ps.zip us) := by
    have z := hb s us I.kIn hl
    rwa [List.append_nil] at z
  refine wpAny_call (codeAny_mono (F.run X.A X.stack s H ⟨us, []⟩ us vs Q hr hG I.env0 hb' rv q) ?_)
  rintro (e | fl) s' z
  · exact False.elim z
  · cases fl with
    | ret u => exact I.after z
    | next => exact False.elim z
    | brk => exact False.elim z
    | cont => exact False.elim z
theorem pe_callG (F : FnG X.prog X.w X.K X.mg X.base k f fd ps sp) (hr : Room k X.A) (hG : X.A.guards = some []) (hg : Gl X x) (hm : X.mg x = some (.ref f)) (hk : PySem.W.keepIn X.K (.ref f) = true) (hb : Binds X.K fd ps [])
    (ha : PA X (e :: es) t) (hdb : (x == ("__debug__" : Str)) = false := by decide) (he : starEach (e :: es) X.env = (false, eval e X.env) :: starEach es X.env := by rfl) (hpl : (backTo pos (starEach es X.env)).any (·.1) = false := by rfl) :
    PE X (.Call (.Name x p) (e :: es) [] pos) (fun σ H Q => t σ H fun vs H1 => sp vs H1 Q) := by
  constructor
  intro pins s σ H Q I q
  exact wpAny_Call_Name_kw (ld_glob I hg hm (PySem.W.callWith_K (h₀ := X.base) I.ok.mod.kin hk (thn (ha.run pos pins s σ H _ I q) fun us s1 ⟨vs, H1, J, rv, z⟩ => ⟨J.kIn, callG F hr hG hb J rv z⟩) he hpl) hdb)
theorem pe_callG0 (F : FnG X.prog X.w X.K X.mg X.base k f fd ps sp) (hr : Room k X.A) (hG : X.A.guards = some []) (hg : Gl X x) (hm : X.mg x = some (.ref f)) (hk : PySem.W.keepIn X.K (.ref f) = true) (hb : Binds X.K fd ps []) (hdb : (x == ("__debug__" : Str)) = false := by decide) :
    PE X (.Call (.Name x p) [] [] pos) (fun σ H Q => sp [] H Q) := by
  constructor
  intro pins s σ H Q I q
  exact wpAny_Call_Name_kw (ld_glob I hg hm (PySem.W.callWith_K0 I.kIn hk (callG (us := []) F hr hG hb I .nil q)) hdb)
end
/-- the context of a def's body -/
abbrev cx (P : Program) (w : World) (K : PySem.W.Frag) (mg : Str → Option Value) (base : Heap) (N : List Str) (qual : Str) (scope : Scope) (f : Addr) (cdv : Value) (A : Around) (outer : List Env) (s : Shared) (H : Hp) : Cx :=
  (cxOf CX0 P w K mg base N qual scope f cdv A outer s H E0).nox
/-- what a def's body is asked for -/
def BodyAt (P : Program) (w : World) (K : PySem.W.Frag) (mg : Str → Option Value) (base : Heap) (k : Nat) (N : List Str) (qual : Str) (st : Stmt) (f : Addr) (fb : SF) : Prop :=
  ∀ (cdv : Value) (A : Around) (outer : List Env) (s : Shared) (H : Hp), Room k (cx P w K mg base N qual (defScope st) f cdv A outer s H).A → (cx P w K mg base N qual (defScope st) f cdv A outer s H).A.guards = some [] →
    FSs (cx P w K mg base N qual (defScope st) f cdv A outer s H) (defBody st) fb
section
variable {P : Program} {w : World} {K : PySem.W.Frag} {mg : Str → Option Value} {base : Heap}
theorem fnG_of {x qual : Str} {st : Stmt} {f : Addr} {fd : FuncData} {N ps : List Str} {k : Nat} {sp : Pr} (D : Fun K x qual st f fd) (S : FnScope N ps (defScope st)) (len : ∀ vs H Q, sp vs H Q → vs.length = ps.length)
    (hb : ∀ (cdv : Value) (A : Around) (outer : List Env) (s : Shared) (H : Hp) (vs : List V) (Q : VK), Room k (cx P w K mg base N qual (defScope st) f cdv A outer s H).A → (cx P w K mg base N qual (defScope st) f cdv A outer s H).A.guards = some [] → sp vs H Q →
      ∃ t, PSs (cx P w K mg base N qual (defScope st) f cdv A outer s H) (defBody st) t ∧ t { nx := fun _ H' => Q .non H', rt := Q } (L2.start N vs) H) : FnG P w K mg base (k + 1) f fd ps sp := by
  obtain ⟨oc, od, kV, doc, pm, an, cdv, ct, osl, hfd, lk, hcd⟩ := D.ex
  subst hfd
  refine ⟨len, ?_⟩
  intro A outer s H args us vs Q hr hG e0 hbind rv q
  have hlen := len vs H Q q
  have KX : K.In s.heap := e0.mod.kin.keeps fun b o z => (e0.bs b o z).1
  have hkind : ∀ y ∈ ps.zip us, (defScope st).names.lookup y.1 = some .local ∨ ((defScope st).names.lookup y.1 = some .cell ∧ ((cellsFrom (s.heap.objs.size + 1) (defScope st).names []).lookup y.1).isSome = true) := by
    rintro ⟨n, v⟩ hy
    rcases S.par n (List.of_mem_zip hy).1 with z | z
    · exact Or.inl z
    · exact Or.inr ⟨z, PySem.W.cellsFrom_some _ _ _ (Or.inl z)⟩
  refine codeAny_call_function hr.depth (KX _ _ lk) rfl S.co S.gen rfl (PySem.W.codeRec_of KX hcd) (hbind _ _ _ _ (wpAny_newFunctionEnv_cells S.kind hkind ?_))
  intro env he s1 y
  subst he
  refine ⟨(e0.mod.nolimit.keeps fun b o z => (e0.bs b o z).1).keeps y.toInCall.keep, codeAny_func ?_⟩
  obtain ⟨t, ht, hq⟩ := hb cdv A outer s H vs Q (hr.deeper _) hG q
  have J := inv_start (CX := CX0) (E := E0) S hr.hd e0 hlen rv y
  refine wpAny_mono (ht.nox.run [] s1 (L2.start N vs) H _ J hq) ?_ fun _ _ z => z
  intro fl s' z
  cases fl with
  | ret u =>
    obtain ⟨v, σ', H', J', r', z⟩ := z
    exact ⟨v, H', J'.os, J'.bare, J'.base, J'.hok, r', z⟩
  | next =>
    obtain ⟨σ', H', J', z⟩ := z
    exact ⟨.non, H', J'.os, J'.bare, J'.base, J'.hok, rfl, z⟩
  | brk =>
    obtain ⟨_, _, _, z⟩ := z
    exact z.elim
  | cont =>
    obtain ⟨_, _, _, z⟩ := z
    exact z.elim
end

/-! ### a def that computes a function -/
/-- what is not in G -/
def off (G H : Hp) : Hp := fun a => match G a with
  | some _ => none
  | none => H a
theorem off_none {G H : Hp} {a : Addr} (h : G a = none) : off G H a = H a := by
  unfold off
  rw [h]
theorem off_some {G H : Hp} {a : Addr} {o : HO} (h : off G H a = some o) : G a = none ∧ H a = some o := by
  unfold off at h
  split at h
  · cases h
  · rename_i e
    exact ⟨e, h⟩
def spF (K : PySem.W.Frag) (F : List PyData → Option PyData) : Pr := fun vs H Q => ∃ G ds r, Same G H ∧ DqA K G vs ds ∧ F ds = some r ∧
  ∀ x G' H', Same G G' → Same G' H' → Same H H' → (∀ a o, H a = some o → G a = none → G' a = none) → Dq K G' x r → Q x H'
@[simp] def fCall (F : List PyData → Option PyData) (l : LF) : EF := fun ρ => bnd (l ρ) fun ds ρ1 => ret ρ1 (F ds)
theorem rel_call {K : PySem.W.Frag} {A : Option Addr} {F G G' H H' : Hp} {ρ : En} {σ : L2.St} (R : Rel K A F G H ρ σ) (s : Same G G') (g : Same G' H') (h : Same H H') (n : ∀ a o, H a = some o → G a = none → G' a = none) : Rel K A F G' H' ρ σ :=
  R.to s g (R.fh.trans h) (fun a o e => n a o (R.fh a o e) (R.fg a o e)) (fun a o _ _ e => h a o e) fun a f g' e => ⟨f, by
    cases q : H a with
    | none => exact absurd q e
    | some o => exact n a o q g'⟩
section
variable {X : Cx} {k : Nat} {f : Addr} {fd : FuncData} {ps : List Str} {x : Str} {p pos : Pos} {e : Expr} {es : List Expr} {l : LF} {Fn : List PyData → Option PyData}
theorem fe_call (D : FnG X.prog X.w X.K X.mg X.base k f fd ps (spF X.K Fn)) (hr : Room k X.A) (hG : X.A.guards = some []) (hg : Gl X x) (hm : X.mg x = some (.ref f)) (hk : PySem.W.keepIn X.K (.ref f) = true) (hb : Binds X.K fd ps [])
    (ha : FA X (e :: es) l) (hdb : (x == ("__debug__" : Str)) = false := by decide) (he : starEach (e :: es) X.env = (false, eval e X.env) :: starEach es X.env := by rfl) (hpl : (backTo pos (starEach es X.env)).any (·.1) = false := by rfl) :
    FE X (.Call (.Name x p) (e :: es) [] pos) (fCall Fn l) := by
  obtain ⟨t, pt, q⟩ := ha
  refine ⟨_, pe_callG D hr hG hg hm hk hb pt hdb he hpl, fun ρ d ρ' h A F G H σ Q R kk => ?_⟩
  obtain ⟨ds, ρ1, h1, h2⟩ := bnd_some h
  obtain ⟨h3, rfl⟩ := ret_some h2
  refine q ρ ds _ h1 A F G H σ _ R fun xs G1 H1 s1 R1 z1 => ?_
  exact ⟨G1, ds, d, R1.gh, z1, h3, fun x G' H' s g h n z => kk x G' H' (s1.trans s) (rel_call R1 s g h n) z⟩
theorem fe_call0 (D : FnG X.prog X.w X.K X.mg X.base k f fd ps (spF X.K Fn)) (hr : Room k X.A) (hG : X.A.guards = some []) (hg : Gl X x) (hm : X.mg x = some (.ref f)) (hk : PySem.W.keepIn X.K (.ref f) = true) (hb : Binds X.K fd ps []) (hdb : (x == ("__debug__" : Str)) = false := by decide) :
    FE X (.Call (.Name x p) [] [] pos) (fCall Fn fNil) := by
  refine ⟨_, pe_callG0 D hr hG hg hm hk hb hdb, fun ρ d ρ' h A F G H σ Q R kk => ?_⟩
  obtain ⟨ds, ρ1, h1, h2⟩ := bnd_some h
  obtain ⟨h3, rfl⟩ := ret_some h2
  cases h1
  exact ⟨G, [], d, R.gh, .nil, h3, fun x G' H' s g h n z => kk x G' H' s (rel_call R s g h n) z⟩
end
@[simp] def outV : Out → PyData
  | .rt d _ => d
  | _ => .none
@[simp] def outE : Out → Bool
  | .rt _ _ => true
  | .nx _ => true
  | _ => false
@[simp] def start1 (m : Nat) (ds : List PyData) : En := ds.map Sl.v ++ List.replicate (m - ds.length) Sl.un
abbrev start0 (N : List Str) (ds : List PyData) : En := start1 N.length ds
theorem rel_start {K : PySem.W.Frag} {A : Option Addr} {G H : Hp} {N : List Str} {vs : List V} {ds : List PyData} (s : Same G H) (h : DqA K G vs ds) : Rel K A (off G H) G H (start0 N ds) (L2.start N vs) := by
  have hl := h.len
  refine ⟨s, fun a o e => (off_some e).2, fun a o e => (off_some e).1, by simp [start0, start1, L2.start, hl], fun _ => [], fun i u e => ?_, fun i j a e => (nomatch e), fun i a e => (nomatch e)⟩
  unfold start0 start1 at e
  unfold L2.start
  by_cases hi : i < ds.length
  · rw [List.getElem?_append_left (by simpa using hi), List.getElem?_map, List.getElem?_eq_getElem hi] at e
    cases e
    obtain ⟨v, h1, h2⟩ := h.get (List.getElem?_eq_getElem hi)
    refine ⟨some v, ?_, rfl, v, rfl, h2⟩
    rw [List.getElem?_append_left (by simpa [hl] using hi), List.getElem?_map, h1]
    rfl
  · rw [List.getElem?_append_right (by simpa using Nat.le_of_not_lt hi), List.getElem?_replicate] at e
    split at e
    · rename_i hj
      cases e
      refine ⟨none, ?_, rfl⟩
      rw [List.getElem?_append_right (by simpa [hl] using Nat.le_of_not_lt hi), List.getElem?_replicate]
      rw [if_pos (by simpa [hl] using hj)]
    · cases e
section
variable {P : Program} {w : World} {K : PySem.W.Frag} {mg : Str → Option Value} {base : Heap}
theorem fnF {x qual : Str} {st : Stmt} {f : Addr} {fd : FuncData} {N ps : List Str} {k : Nat} {fb : SF} {Fn : List PyData → Option PyData} (D : Fun K x qual st f fd) (S : FnScope N ps (defScope st))
    (hb : BodyAt P w K mg base k N qual st f fb) (hF : ∀ ds r, Fn ds = some r → ds.length = ps.length ∧ ∃ o, fb (start0 N ds) = some o ∧ outE o = true ∧ outV o = r) : FnG P w K mg base (k + 1) f fd ps (spF K Fn) := by
  refine fnG_of D S (fun vs H Q h => ?_) fun cdv A outer s H vs Q hr hG h => ?_
  · obtain ⟨G, ds, r, _, h1, h2, _⟩ := h
    rw [h1.len]
    exact (hF ds r h2).1
  · obtain ⟨G, ds, r, h0, h1, h2, h3⟩ := h
    obtain ⟨_, o, h4, h5, h6⟩ := hF ds r h2
    obtain ⟨t, pt, q⟩ := hb cdv A outer s H hr hG
    refine ⟨t, pt, q _ o h4 none _ G H _ _ (rel_start h0 h1) ?_⟩
    have fin : ∀ {ρ' : En} {σ' : L2.St} {G' H' : Hp} {v : V}, Same G G' → Rel K none (off G H) G' H' ρ' σ' → Dq K G' v r → Q v H' := by
      intro ρ' σ' G' H' v s' R' z
      refine h3 v G' H' s' R'.gh (fun a u e => ?_) (fun a u e g => R'.fg a u ((off_none g).trans e)) z
      cases g : G a with
      | none => exact R'.fh a u ((off_none g).trans e)
      | some u' =>
        have := h0 a u' g
        rw [e] at this
        cases this
        exact R'.gh a u (s' a u g)
    cases o with
    | nx ρ' =>
      have h6 : PyData.none = r := h6
      subst h6
      exact fun σ' G' H' s' R' => fin s' R' .non
    | rt d ρ' =>
      have h6 : d = r := h6
      subst h6
      exact fun v σ' G' H' s' R' z => fin s' R' z
    | bk ρ' => cases h5
    | ct ρ' => cases h5
/-- the def's function: its body, run -/
def runF (n m : Nat) (fb : SF) : List PyData → Option PyData := fun ds => if (ds.length == n) = true then (match fb (start1 m ds) with
  | some (.rt d _) => some d
  | some (.nx _) => some .none
  | _ => none) else none
theorem fnRun {x qual : Str} {st : Stmt} {f : Addr} {fd : FuncData} {N ps : List Str} {k n m : Nat} {fb : SF} (D : Fun K x qual st f fd) (S : FnScope N ps (defScope st)) (hb : BodyAt P w K mg base k N qual st f fb)
    (hn : ps.length = n := by rfl) (hm : N.length = m := by rfl) : FnG P w K mg base (k + 1) f fd ps (spF K (runF n m fb)) := by
  subst hn
  subst hm
  refine fnF D S hb fun ds r h => ?_
  unfold runF at h
  split at h
  · rename_i hl
    refine ⟨by simpa using hl, ?_⟩
    split at h
    · rename_i e
      cases h
      exact ⟨_, e, rfl, rfl⟩
    · rename_i e
      cases h
      exact ⟨_, e, rfl, rfl⟩
    · cases h
  · cases h
end
end Fe
namespace Fe
open PySem PySem.Spec PyProof.Rows L2

/-! ## the draws' source, handed on -/
def srcKv (c : Addr) (s : Src) : List (Key × V) := [(.inr "cells", .ref c), (.inr "left", .int s.left), (.inr "mixed", .int s.mixed), (.inr "turn", .int s.turn)]
def spS (K : PySem.W.Frag) (F : Src → List PyData → Option (PyData × Src)) : Pr := fun vs H Q => ∃ a c us G s ds r s', vs = .ref a :: us ∧ Same G H ∧ SrcAt H a c s ∧ G a = none ∧ G c = none ∧ DqA K G us ds ∧ F s ds = some (r, s') ∧
  ∀ x c' G' H', Same G G' → Same G' H' → (∀ b o, H b = some o → b ≠ a → b ≠ c → H' b = some o) → (∀ b o, H b = some o → b ≠ a → b ≠ c → G b = none → G' b = none) → SrcAt H' a c' s' → (c' = c ∨ H c' = none) → G' a = none → G' c' = none → Dq K G' x r → Q x H'
@[simp] def fCallS (i : Nat) (F : Src → List PyData → Option (PyData × Src)) (l : LF) : EF := fun ρ => match ρ[i]? with
  | some (.src _) => bnd (l ρ) fun ds ρ1 => match ρ1[i]? with
    | some (.src s) => match F s ds with
      | some (r, s') => some (r, ρ1.set i (.src s'))
      | none => none
    | _ => none
  | _ => none
section
variable {K : PySem.W.Frag} {A : Option Addr} {F G G' H H' : Hp} {ρ : En} {σ : L2.St}
theorem Rel.atSrc (k : Rel K A F G H ρ σ) {i : Nat} {s : Src} (h : ρ[i]? = some (.src s)) : ∃ a c, A = some a ∧ σ[i]? = some (some (.ref a)) ∧ SrcAt H a c s ∧ F a = none ∧ F c = none ∧ G a = none ∧ G c = none := by
  obtain ⟨R, r1, _, r3⟩ := k.rg
  obtain ⟨x, h1, a, c, e, q1, rfl, h2⟩ := r1 i _ h
  obtain ⟨f1, f2, _⟩ := r3 i a (by rw [e]; simp)
  obtain ⟨f3, f4, _⟩ := r3 i c (by rw [e]; simp)
  exact ⟨a, c, q1, h1, h2, f1, f3, f2, f4⟩
theorem Rel.chgSrc (k : Rel K A F G H ρ σ) {i : Nat} {s s' : Src} {a c c' : Addr} (h : ρ[i]? = some (.src s)) (hA : A = some a) (hs : SrcAt H a c s) (g : Same G G') (gh : Same G' H') (kp : ∀ b o, H b = some o → b ≠ a → b ≠ c → H' b = some o)
    (n : ∀ b o, H b = some o → b ≠ a → b ≠ c → G b = none → G' b = none) (hs' : SrcAt H' a c' s') (hc : c' = c ∨ H c' = none) (hga : G' a = none) (hg : G' c' = none) : Rel K A F G' H' (ρ.set i (.src s')) σ := by
  obtain ⟨R, r1, r2, r3⟩ := k.rg
  obtain ⟨x, h1, a0, c0, e0, q0, rfl, h2⟩ := r1 i _ h
  have ea : a0 = a := by
    rw [hA] at q0
    exact (Option.some.inj q0).symm
  subst ea
  have ec : c0 = c := by
    have z := h2.1.symm.trans hs.1
    injection z with z
    injection z with z
    simp at z
    exact z
  subst ec
  have aR : a0 ∈ R i := by rw [e0]; simp
  have cR : c0 ∈ R i := by rw [e0]; simp
  obtain ⟨fa, ga, _⟩ := r3 i a0 aR
  obtain ⟨fc, gc, _⟩ := r3 i c0 cR
  have fF : ∀ b o, F b = some o → H' b = some o := fun b o e => kp b o (k.fh b o e) (fun z => by
    subst z
    rw [fa] at e
    cases e) fun z => by
    subst z
    rw [fc] at e
    cases e
  have notF : ∀ b o, F b = some o → b ≠ a0 ∧ b ≠ c0 := fun b o e => by
    constructor
    · intro z
      subst z
      rw [fa] at e
      cases e
    · intro z
      subst z
      rw [fc] at e
      cases e
  have notR : ∀ j, j ≠ i → ∀ b ∈ R j, b ≠ a0 ∧ b ≠ c0 := fun j hj b hb => ⟨fun z => hj (r2 j i b hb (z ▸ aR)), fun z => hj (r2 j i b hb (z ▸ cR))⟩
  refine ⟨gh, fF, fun b o e => n b o (k.fh b o e) (notF b o e).1 (notF b o e).2 (k.fg b o e), by simp [k.len], Rg R i [a0, c'], fun j u e => ?_, fun j l b e1 e2 => ?_, fun j b e => ?_⟩
  · by_cases hj : j = i
    · subst hj
      rw [List.getElem?_set_self (List.getElem?_eq_some_iff.mp h).1] at e
      cases e
      rw [rg_same]
      exact ⟨_, h1, a0, c', rfl, hA, rfl, hs'⟩
    · rw [List.getElem?_set_ne (Ne.symm hj)] at e
      rw [rg_ne hj]
      obtain ⟨x, q1, q2⟩ := r1 j u e
      refine ⟨x, q1, q2.up g fun b hb => ?_⟩
      obtain ⟨_, _, o, f3⟩ := r3 j b hb
      obtain ⟨n1, n2⟩ := notR j hj b hb
      rw [f3]
      exact kp b o f3 n1 n2
  · have out : ∀ m, m ≠ i → b ∈ R m → b ≠ a0 ∧ b ≠ c' := fun m hm hb => by
      obtain ⟨n1, n2⟩ := notR m hm b hb
      refine ⟨n1, fun z => ?_⟩
      rcases hc with hc | hc
      · exact n2 (z.trans hc)
      · obtain ⟨_, _, o, f3⟩ := r3 m b hb
        rw [z, hc] at f3
        cases f3
    by_cases hj : j = i
    · by_cases hl : l = i
      · rw [hj, hl]
      · rw [hj, rg_same] at e1
        rw [rg_ne hl] at e2
        obtain ⟨n1, n2⟩ := out l hl e2
        simp at e1
        rcases e1 with e1 | e1
        · exact absurd e1 n1
        · exact absurd e1 n2
    · rw [rg_ne hj] at e1
      by_cases hl : l = i
      · rw [hl, rg_same] at e2
        obtain ⟨n1, n2⟩ := out j hj e1
        simp at e2
        rcases e2 with e2 | e2
        · exact absurd e2 n1
        · exact absurd e2 n2
      · rw [rg_ne hl] at e2
        exact r2 j l b e1 e2
  · by_cases hj : j = i
    · rw [hj, rg_same] at e
      simp at e
      rcases e with e | e
      · subst e
        exact ⟨fa, hga, _, hs'.1⟩
      · subst e
        refine ⟨?_, hg, _, hs'.2⟩
        rcases hc with hc | hc
        · rw [hc]
          exact fc
        · exact none_of k.fh hc
    · rw [rg_ne hj] at e
      obtain ⟨f1, f2, o, f3⟩ := r3 j b e
      obtain ⟨n1, n2⟩ := notR j hj b e
      exact ⟨f1, n b o f3 n1 n2 f2, o, kp b o f3 n1 n2⟩
end
section
variable {X : Cx} {e : Expr} {es : List Expr} {l : LF} {Fn : Src → List PyData → Option (PyData × Src)} {i : Nat}
theorem fe_callS (mk : ∀ t, PA X es t → PE X e (fun σ H Q => tCons (tVar i) t σ H fun vs H1 => spS X.K Fn vs H1 Q)) (ha : FA X es l) : FE X e (fCallS i Fn l) := by
  obtain ⟨t, p, q⟩ := ha
  refine ⟨_, mk t p, fun ρ d ρ' h A F G H σ Q R k => ?_⟩
  unfold fCallS at h
  split at h
  · rename_i s0 hi0
    obtain ⟨ds, ρ1, h1, h2⟩ := bnd_some h
    obtain ⟨a, c, hA, hσ, _⟩ := R.atSrc hi0
    refine ⟨_, hσ, q ρ ds ρ1 h1 A F G H σ _ R fun xs G1 H1 s1 R1 z1 => ?_⟩
    split at h2
    · rename_i s hi
      split at h2
      · rename_i r s' hF
        cases h2
        obtain ⟨a', c', hA', hσ', hs, f1, f2, g1, g2⟩ := R1.atSrc hi
        rw [hσ] at hσ'
        cases hσ'
        exact ⟨a, c', xs, G1, s, ds, d, s', rfl, R1.gh, hs, g1, g2, z1, hF, fun x c2 G' H' u1 u2 u3 u4 u5 u6 u7 u8 u9 => k x G' H' (s1.trans u1) (R1.chgSrc hi hA hs u1 u2 u3 u4 u5 u6 u7 u8) u9⟩
      · cases h2
    · cases h2
  · cases h
end
/-! ### a def that draws and computes -/
@[simp] def startS (m : Nat) (s : Src) (ds : List PyData) : En := .src s :: start1 (m - 1) ds
def runS (n m : Nat) (fb : SF) : Src → List PyData → Option (PyData × Src) := fun s ds => if (ds.length + 1 == n) = true then (match fb (startS m s ds) with
  | some (.rt d (.src s' :: _)) => some (d, s')
  | some (.nx (.src s' :: _)) => some (.none, s')
  | _ => none) else none
/-- what belongs to the callers: neither ours nor the source's -/
def offS (G H : Hp) (a c : Addr) : Hp := fun b => if b = a then none else if b = c then none else off G H b
theorem rel_startS {K : PySem.W.Frag} {G H : Hp} {N : List Str} {us : List V} {ds : List PyData} {a c : Addr} {s : Src} (hN : 1 ≤ N.length) (g : Same G H) (h : DqA K G us ds) (hs : SrcAt H a c s) (ga : G a = none) (gc : G c = none) :
    Rel K (some a) (offS G H a c) G H (startS N.length s ds) (L2.start N (.ref a :: us)) := by
  have hl := h.len
  have r0 := rel_start (K := K) (A := none) (N := N.tail) g h
  obtain ⟨R, r1, _, _⟩ := r0.rg
  have eN : N.tail.length = N.length - 1 := by simp
  have e1 : start0 N.tail ds = start1 (N.length - 1) ds := by
    unfold start0
    rw [eN]
  have e2 : L2.start N (.ref a :: us) = some (.ref a) :: L2.start N.tail us := by
    unfold L2.start
    rw [eN]
    simp [Nat.sub_sub, Nat.add_comm]
  have off1 : ∀ b o, offS G H a c b = some o → b ≠ a ∧ b ≠ c ∧ G b = none ∧ H b = some o := fun b o e => by
    unfold offS at e
    split at e
    · cases e
    · rename_i n1
      split at e
      · cases e
      · rename_i n2
        obtain ⟨z1, z2⟩ := off_some e
        exact ⟨n1, n2, z1, z2⟩
  refine ⟨g, fun b o e => (off1 b o e).2.2.2, fun b o e => (off1 b o e).2.2.1, ?_, Rg (fun _ => []) 0 [a, c], fun i u e => ?_, fun i j b e1 e2 => ?_, fun i b e => ?_⟩
  · rw [e2]
    unfold startS
    rw [← e1]
    exact congrArg (· + 1) r0.len
  · unfold startS at e
    rw [e2]
    cases i with
    | zero =>
      cases e
      rw [rg_same]
      exact ⟨_, rfl, a, c, rfl, rfl, rfl, hs⟩
    | succ i =>
      rw [rg_ne (by omega)]
      rw [List.getElem?_cons_succ, ← e1] at e
      obtain ⟨x, q1, q2⟩ := r1 i u e
      refine ⟨x, by rw [List.getElem?_cons_succ]; exact q1, ?_⟩
      have ev : u = .un ∨ ∃ d, u = .v d := by
        unfold start0 start1 at e
        have hm := List.mem_of_getElem? e
        rcases List.mem_append.mp hm with z | z
        · obtain ⟨d, _, hd⟩ := List.mem_map.mp z
          exact Or.inr ⟨d, hd.symm⟩
        · exact Or.inl (List.eq_of_mem_replicate z)
      rcases ev with ev | ⟨d, ev⟩
      · subst ev
        rfl
      · subst ev
        exact ⟨rfl, q2.2⟩
  · by_cases hi : i = 0
    · by_cases hj : j = 0
      · rw [hi, hj]
      · rw [rg_ne hj] at e2
        cases e2
    · rw [rg_ne hi] at e1
      cases e1
  · by_cases hi : i = 0
    · rw [hi, rg_same] at e
      simp at e
      rcases e with e | e
      · subst e
        exact ⟨if_pos rfl, ga, _, hs.1⟩
      · subst e
        refine ⟨?_, gc, _, hs.2⟩
        unfold offS
        split
        · rfl
        · rw [if_pos rfl]
    · rw [rg_ne hi] at e
      cases e
section
variable {P : Program} {w : World} {K : PySem.W.Frag} {mg : Str → Option Value} {base : Heap}
theorem fnRunS {x qual : Str} {st : Stmt} {f : Addr} {fd : FuncData} {N ps : List Str} {k n m : Nat} {fb : SF} (D : Fun K x qual st f fd) (S : FnScope N ps (defScope st)) (hb : BodyAt P w K mg base k N qual st f fb)
    (hn : ps.length = n := by rfl) (hm : N.length = m := by rfl) (hm1 : 1 ≤ m := by decide) : FnG P w K mg base (k + 1) f fd ps (spS K (runS n m fb)) := by
  subst hn
  subst hm
  refine fnG_of D S (fun vs H Q h => ?_) fun cdv A outer s0 H vs Q hr hG h => ?_
  · obtain ⟨a, c, us, G, s, ds, r, s', rfl, _, _, _, _, h1, h2, _⟩ := h
    unfold runS at h2
    split at h2
    · rename_i hl
      have hl' : ds.length + 1 = ps.length := by simpa using hl
      rw [List.length_cons, h1.len]
      exact hl'
    · cases h2
  · obtain ⟨a, c, us, G, s, ds, r, s', rfl, h0, hs, ga, gc, h1, h2, h3⟩ := h
    obtain ⟨t, pt, q⟩ := hb cdv A outer s0 H hr hG
    refine ⟨t, pt, ?_⟩
    unfold runS at h2
    split at h2
    · have fin : ∀ {ρ' : En} {σ' : L2.St} {G' H' : Hp} {v : V}, Same G G' → Rel K (some a) (offS G H a c) G' H' (.src s' :: ρ') σ' → Dq K G' v r → Q v H' := by
        intro ρ' σ' G' H' v s1 R' z
        obtain ⟨a', c', hA, _, hs', f1, f2, g1, g2⟩ := R'.atSrc (i := 0) rfl
        cases hA
        have off2 : ∀ b o, H b = some o → b ≠ a → b ≠ c → G b = none → offS G H a c b = some o := fun b o e n1 n2 g => by
          unfold offS
          rw [if_neg n1, if_neg n2, off_none g]
          exact e
        refine h3 v c' G' H' s1 R'.gh (fun b o e n1 n2 => ?_) (fun b o e n1 n2 g => R'.fg b o (off2 b o e n1 n2 g)) hs' ?_ g1 g2 z
        · cases g : G b with
          | none => exact R'.fh b o (off2 b o e n1 n2 g)
          | some u =>
            have := h0 b u g
            rw [e] at this
            cases this
            exact R'.gh b o (s1 b o g)
        · by_cases hcc : c' = c
          · exact Or.inl hcc
          · refine Or.inr ?_
            cases q : H c' with
            | none => rfl
            | some u =>
              exfalso
              have n1 : c' ≠ a := fun z => by
                rw [z] at hs'
                have := hs'.1.symm.trans hs'.2
                cases this
              have gn : G c' = none := by
                cases g : G c' with
                | none => rfl
                | some u' =>
                  rw [s1 _ _ g] at g2
                  cases g2
              have := off2 c' u q n1 hcc gn
              rw [f2] at this
              cases this
      split at h2
      · rename_i d s1 ρ1 ho
        cases h2
        exact q _ _ ho (some a) _ G H _ _ (rel_startS hm1 h0 h1 hs ga gc) fun v σ' G' H' s1 R' z => fin s1 R' z
      · rename_i s1 ρ1 ho
        cases h2
        exact q _ _ ho (some a) _ G H _ _ (rel_startS hm1 h0 h1 hs ga gc) fun σ' G' H' s1 R' => fin s1 R' .non
      · cases h2
    · cases h2
end
end Fe
namespace Fe
open PySem PySem.Spec PyProof.Rows L2

/-! ## the law's own def -/
def spLaw (K : PySem.W.Frag) : Pr := fun vs H Q => ∃ (a : Addr) (ns : List Int), vs = [.ref a] ∧ SqL K H a (ns.map V.int) ∧ ns.length ≤ 63 ∧ ∀ H', Q (.bl true) H'
/-- what makes the source of the script -/
def spMk (K : PySem.W.Frag) : Pr := fun vs H Q => ∃ (p : Addr) (ns : List Int), vs = [.ref p] ∧ SqL K H p (ns.map V.int) ∧ ns.length ≤ 63 ∧ ∀ a c s H', Same H H' → H a = none → H c = none → SrcAt H' a c s → Q (.ref a) H'
abbrev tMk (K : PySem.W.Frag) : TS := tAsg (fun σ H Q => tCons (tVar 0) tNil σ H fun vs H1 => spMk K vs H1 Q) (gName 1)
@[simp] def startL (m : Nat) (s : Src) : En := .un :: .src s :: List.replicate (m - 2) .un
section
variable {P : Program} {w : World} {K : PySem.W.Frag} {mg : Str → Option Value} {base : Heap}
theorem rel_law {H H' : Hp} {m : Nat} {v0 : Option V} {a c : Addr} {s : Src} {τ : L2.St} (hl : τ.length = m) (hm : 2 ≤ m) (e : Same H H') (ha : H a = none) (hc : H c = none) (hs : SrcAt H' a c s) :
    Rel K (some a) H (fun _ => none) H' (startL m s) (τ.set 1 (some (.ref a))) := by
  refine ⟨fun b o z => (nomatch z), e, fun b o z => rfl, by simp [startL, hl]; omega, Rg (fun _ => []) 1 [a, c], fun i u z => ?_, fun i j b e1 e2 => ?_, fun i b z => ?_⟩
  · by_cases hi : i = 1
    · subst hi
      cases z
      rw [rg_same, List.getElem?_set_self (by omega)]
      exact ⟨_, rfl, a, c, rfl, rfl, rfl, hs⟩
    · rw [rg_ne hi, List.getElem?_set_ne (Ne.symm hi)]
      have hu : u = .un := by
        cases i with
        | zero => exact (Option.some.inj z).symm
        | succ i =>
          cases i with
          | zero => exact absurd rfl hi
          | succ i =>
            unfold startL at z
            rw [List.getElem?_cons_succ, List.getElem?_cons_succ, List.getElem?_replicate] at z
            split at z
            · exact (Option.some.inj z).symm
            · cases z
      subst hu
      have hlt : i < τ.length := by
        have := (List.getElem?_eq_some_iff.mp z).1
        simp [startL] at this
        omega
      exact ⟨τ[i], List.getElem?_eq_getElem hlt, rfl⟩
  · by_cases hi : i = 1
    · by_cases hj : j = 1
      · rw [hi, hj]
      · rw [rg_ne hj] at e2
        cases e2
    · rw [rg_ne hi] at e1
      cases e1
  · by_cases hi : i = 1
    · rw [hi, rg_same] at z
      simp at z
      rcases z with z | z
      · subst z
        exact ⟨ha, rfl, _, hs.1⟩
      · subst z
        exact ⟨hc, rfl, _, hs.2⟩
    · rw [rg_ne hi] at z
      cases z
theorem fnLaw {x qual : Str} {st st0 : Stmt} {rest : List Stmt} {f : Addr} {fd : FuncData} {N ps : List Str} {k m : Nat} {fb : SF} (D : Fun K x qual st f fd) (S : FnScope N ps (defScope st)) (hd : defBody st = st0 :: rest) (hps : ps.length = 1 := by rfl) (hm : N.length = m := by rfl) (hm2 : 2 ≤ m := by decide)
    (hb : ∀ (cdv : Value) (A : Around) (outer : List Env) (s : Shared) (H : Hp), Room k (cx P w K mg base N qual (defScope st) f cdv A outer s H).A → (cx P w K mg base N qual (defScope st) f cdv A outer s H).A.guards = some [] →
      PS (cx P w K mg base N qual (defScope st) f cdv A outer s H) st0 (tMk K) ∧ FSs (cx P w K mg base N qual (defScope st) f cdv A outer s H) rest fb)
    (hF : ∀ s : Src, ∃ ρ', fb (startL m s) = some (.rt (.bool true) ρ')) : FnG P w K mg base (k + 1) f fd ps (spLaw K) := by
  subst hm
  refine fnG_of D S (fun vs H Q h => ?_) fun cdv A outer s0 H vs Q hr hG h => ?_
  · obtain ⟨a, ns, rfl, _⟩ := h
    exact hps.symm
  · obtain ⟨a, ns, rfl, h1, h2, h3⟩ := h
    obtain ⟨p1, t, pt, q⟩ := hb cdv A outer s0 H hr hG
    rw [hd]
    refine ⟨_, pss_cons p1 pt, .ref a, rfl, a, ns, rfl, h1, h2, fun a' c s H' e ha hc hs => ?_⟩
    obtain ⟨ρ', hq⟩ := hF s
    have hlen : (L2.start N [V.ref a]).length = N.length := by
      simp [L2.start]
      omega
    refine q _ _ hq (some a') H (fun _ => none) H' _ _ (rel_law (v0 := none) hlen hm2 e ha hc hs) fun v σ' G' H2 _ _ z => ?_
    cases z
    exact h3 H2
end
/-! ## the end of a law's row -/
theorem run_law {P : Program} {w : World} {K : PySem.W.Frag} {mg mb : Str → Option Value} {k : Nat} {fa a : Addr} {fd : FuncData} {x : Str} {sp : Pr} {s : Shared} {vs : List Value} {ns : List Int}
    (KX : K.In s.heap) (hns : s.heap.Ns mainGlobals mg) (hb : s.heap.Ns builtinsNs mb) (hbb : ∀ x : Str, x ≠ "__name__" → mb x = bootBuiltins x) (hlim : s.heap.NoLimit) (hg : s.gens = #[])
    (ha : s.heap.get? a = some { cls := .type "list", data := .seq vs.toArray }) (hi : IntsAre vs ns) (hl : ns.length ≤ sizeLine) (hr : Room k callerA)
    (F : ∀ base : Heap, K.In base → base.Ns mainGlobals mg → FnG P w K mg base k fa fd [x] sp) (hbind : ∀ (s : Shared) (u : Value), BindsTo s fd ⟨[u], []⟩ [(x, u)])
    (hsp : ∀ H : Hp, Only H → SqL K H a (ns.map V.int) → sp [.ref a] H (fun v _ => v = .bl true)) :
    codeAny (model P w) callerA (.call (.ref fa) ⟨[.ref a], []⟩) (fun r s' => r = .ok (.ret (.bool true)) ∧ OldK s.heap s'.heap ∧ s'.os = s.os ∧ AllBare s'.gens) s := by
  have rv := vals_ints hi
  suffices main : ∀ H : Hp, Only H → SqL K H a (ns.map V.int) → HOk P w H s.heap → (∀ b, H b ≠ none → b = a) → (H a ≠ none → K.lookup a = none) →
      codeAny (model P w) callerA (.call (.ref fa) ⟨[.ref a], []⟩) (fun r s' => r = .ok (.ret (.bool true)) ∧ OldK s.heap s'.heap ∧ s'.os = s.os ∧ AllBare s'.gens) s by
    cases hk : K.lookup a with
    | some o =>
      have z := KX a o hk
      rw [ha] at z
      cases z
      refine main (fun _ => none) (fun _ => .inl rfl) (.inr ⟨_, vs.toArray, _, hk, rfl, rfl, rfl, ?_, by simpa using rv⟩) (fun b u q => ?_) (fun b q => absurd rfl q) fun q => absurd rfl q
      · rw [List.size_toArray, hi.length]
        exact hl
      · have q' : (none : Option HO) = some u := q
        cases q'
    | none =>
      let o : HO := .frz { cls := .type "list", data := .seq vs.toArray } (.lst (ns.map V.int))
      have at_a : (fun b => if b = a then some o else none : Hp) a = some o := if_pos rfl
      have off_a : ∀ b, b ≠ a → (fun b => if b = a then some o else none : Hp) b = none := fun b hb => if_neg hb
      refine main (fun b => if b = a then some o else none) (fun b => ?_) (.inl (.inr ⟨_, at_a⟩)) (fun b u q => ?_) (fun b q => ?_) fun _ => hk
      · by_cases hba : b = a
        · subst hba
          exact .inr ⟨_, _, at_a⟩
        · exact .inl (off_a b hba)
      · by_cases hba : b = a
        · subst hba
          have q' := at_a.symm.trans q
          cases q'
          exact ⟨ha, by rw [List.length_map]; exact hl, vs, _, rv, ha⟩
        · have q' := (off_a b hba).symm.trans q
          cases q'
      · by_cases hba : b = a
        · exact hba
        · exact absurd (off_a b hba) q
  intro H hO hS hok hA hK
  have keepH : ∀ {b : Addr} {o : Obj}, s.heap.get? b = some o → H b = none → (hidT s.heap H).get? b = some o := fun e n => hidT_get e n
  have notA : ∀ {b : Addr} {o : Obj} {es : Array DictEntry} {ep : Nat}, s.heap.get? b = some o → o.data = .dict es ep → H b = none := by
    intro b o es ep e d
    cases q : H b with
    | none => rfl
    | some u =>
      obtain rfl : b = a := hA b (by rw [q]; simp)
      rw [ha] at e
      cases e
      exact nomatch (show Data.seq vs.toArray _ = Data.dict es ep from d)
  have nsH : ∀ {b : Addr} {m : Str → Option Value}, s.heap.Ns b m → (hidT s.heap H).Ns b m := by
    rintro b m ⟨o, es, ep, e, d, r⟩
    exact ⟨o, es, ep, keepH e (notA e d), d, r⟩
  have kH : K.In (hidT s.heap H) := by
    intro b o e
    refine keepH (KX b o e) ?_
    cases q : H b with
    | none => rfl
    | some u =>
      obtain rfl : b = a := hA b (by rw [q]; simp)
      rw [hK (by rw [q]; simp)] at e
      cases e
  have lim : (hidT s.heap H).NoLimit := by
    obtain ⟨mc, h1, h2⟩ := hlim
    exact ⟨mc, nsH h1, h2⟩
  have env : Env0 P w K mg (hidT s.heap H) callerA [] s H := by
    refine ⟨rfl, ⟨kH, nsH hns, ⟨mb, nsH hb, hbb⟩, lim⟩, fun b o e => of_hidT e, Nat.le_of_eq (hidT_size _ _), trivial, fun b z => ?_, hok, .of_eq hg⟩
    exact absurd (show b ∈ ([] : List Addr) from z) (by simp)
  refine codeAny_mono ((F _ kH (nsH hns)).run callerA [] s H ⟨[.ref a], []⟩ [.ref a] [.ref a] _ hr rfl env (hbind s (.ref a)) (.cons rfl .nil) (hsp H hO hS)) ?_
  rintro (e | fl) s' z
  · exact False.elim z
  cases fl with
  | next => exact False.elim z
  | brk => exact False.elim z
  | cont => exact False.elim z
  | ret u =>
    obtain ⟨v, H', os, bare, un, hok', r', q⟩ := z
    obtain rfl : v = .bl true := q
    obtain rfl : u = Value.bool true := r'
    refine ⟨rfl, OldK.of_keep fun b o e => ?_, os, bare⟩
    rcases hO b with q | ⟨ob, xs, q⟩
    · exact un.keep b o e q (fun z => absurd (show b ∈ ([] : List Addr) from z) (by simp)) (by simp)
    · obtain ⟨e1, _⟩ := hok b _ q
      obtain ⟨e2, _⟩ := hok' b _ (un.frzs b ob _ q)
      rw [e] at e1
      cases e1
      exact e2
theorem walkG {l : PySem.W.OpenLaw} {k : Nat} {q : Program} {loose : List Str} {XP : (Str → Option Value) → Heap → Prop} {YP : World → Heap → Prop} {d : DefRec} {K : Params → PySem.W.Frag} {x : Str}
    (hn : l.most = some 63) (hdf : d.params.defaults = []) (hr : Room k callerA) (hY : ∀ (w : World) (h : Heap), YP w h → (K w.params).In h)
    (F : ∀ (w : World) (mg : Str → Option Value) (fa : Addr) (h : Heap), (K w.params).In h → h.Ns mainGlobals mg → mg d.name = some (.ref fa) →
      ∃ fd : FuncData, (∀ (s : Shared) (u : Value), BindsTo s fd ⟨[u], []⟩ [(x, u)]) ∧ ∀ base : Heap, (K w.params).In base → base.Ns mainGlobals mg → FnG l.prog w (K w.params) mg base k fa fd [x] (spLaw (K w.params))) :
    PySem.W.WalkO q loose XP YP l.row.toRowW d [] (fun f vs => PySem.call f vs) := by
  refine Att.attach_call hn hdf ?_
  intro w s₀ s₁ mg mb fa o pm cd doc a vs ns G Y ho hd hcd hmg hobj hints hlen hg
  obtain ⟨fd, hb, hF⟩ := F w mg fa _ (hY w _ Y) G.T.g hmg
  exact run_law (hY w _ Y) G.T.g G.T.b G.T.builtins G.T.nolimit hg hobj hints (Nat.le_trans hlen (by decide)) hr hF hb fun H _ hS => ⟨a, ns, rfl, hS, hlen, fun _ => rfl⟩
end Fe
namespace Fe
open PySem PySem.Spec PyProof.Rows L2

/-! ## drawing -/
def popT : Nat → Int → List Int → Int × List Int
  | 0, l, cs => (l, cs)
  | n + 1, l, cs => if l < 2 ∧ 0 < cs.length then popT n (cs.getLastD 0) cs.dropLast else (l, cs)
theorem popT_step {n : Nat} {l : Int} {cs : List Int} (h : l < 2 ∧ 0 < cs.length) : popT (n + 1) l cs = popT n (cs.getLastD 0) cs.dropLast := if_pos h
def popA (s : Src) : Int × List Int := popT s.cells.length s.left s.cells
def turnA (s : Src) (k1 k2 : Int) : Int := ((((s.mixed + (s.turn + 1) * k1) % 998244353) * ((s.mixed + (s.turn + 1) * k1) % 998244353)) + (s.turn + 1) * k2) % 2147483647
/-- the pick that keeps mixed -/
def pickA (s : Src) (m : Int) : Int × Src :=
  if m < 2 then (0, s) else if 1 < (popA s).1 then ((popA s).1 % m, ⟨(popA s).2, (popA s).1 / m, s.mixed, s.turn⟩) else (turnA s 104729 17 / 16 % m, ⟨(popA s).2, (popA s).1, s.mixed, s.turn + 1⟩)
/-- the pick that stores mixed -/
def pickB (k1 k2 : Int) (s : Src) (m : Int) : Int × Src :=
  if m < 2 then (0, s) else if 1 < (popA s).1 then ((popA s).1 % m, ⟨(popA s).2, (popA s).1 / m, s.mixed, s.turn⟩) else (turnA s k1 k2 / 16 % m, ⟨(popA s).2, (popA s).1, turnA s k1 k2, s.turn + 1⟩)
def fPick (p : Src → Int → Int × Src) : Src → List PyData → Option (PyData × Src) := fun s ds => match ds with
  | [.int m] => if Nat.blt m.natAbs.log2 9000 = true then some (.int (p s m).1, (p s m).2) else none
  | _ => none
theorem pickA_rng (s : Src) {m : Int} (h : 0 < m) : 0 ≤ (pickA s m).1 ∧ (pickA s m).1 < m := by
  unfold pickA
  split
  · exact ⟨Int.le_refl 0, h⟩
  · split <;> exact ⟨Int.emod_nonneg _ (by omega), Int.emod_lt_of_pos _ h⟩
theorem pickB_rng (k1 k2 : Int) (s : Src) {m : Int} (h : 0 < m) : 0 ≤ (pickB k1 k2 s m).1 ∧ (pickB k1 k2 s m).1 < m := by
  unfold pickB
  split
  · exact ⟨Int.le_refl 0, h⟩
  · split <;> exact ⟨Int.emod_nonneg _ (by omega), Int.emod_lt_of_pos _ h⟩
def Away (H H' : Hp) (a c : Addr) : Prop := ∀ b o, H b = some o → b ≠ a → b ≠ c → H' b = some o
theorem Away.refl (H : Hp) (a c : Addr) : Away H H a c := fun _ _ h _ _ => h
theorem Away.upA {H H' : Hp} {a c : Addr} {o : HO} (h : Away H H' a c) : Away H (upd H' a o) a c := fun b u e n1 n2 => by
  rw [upd_ne n1]
  exact h b u e n1 n2
theorem Away.upC {H H' : Hp} {a c : Addr} {o : HO} (h : Away H H' a c) : Away H (upd H' c o) a c := fun b u e n1 n2 => by
  rw [upd_ne n2]
  exact h b u e n1 n2
theorem SrcAt.ne {H : Hp} {a c : Addr} {s : Src} (h : SrcAt H a c s) : a ≠ c := fun e => by
  have z := h.1
  rw [e, h.2] at z
  cases z
theorem SrcAt.left {H : Hp} {a c : Addr} {s : Src} (h : SrcAt H a c s) : DGet H a (.str "left") (some (.int s.left)) := by
  have z := DGet.k (k := Sum.inr "left") h.1
  exact z
theorem SrcAt.mixed {H : Hp} {a c : Addr} {s : Src} (h : SrcAt H a c s) : DGet H a (.str "mixed") (some (.int s.mixed)) := DGet.k (k := Sum.inr "mixed") h.1
theorem SrcAt.turn {H : Hp} {a c : Addr} {s : Src} (h : SrcAt H a c s) : DGet H a (.str "turn") (some (.int s.turn)) := DGet.k (k := Sum.inr "turn") h.1
theorem SrcAt.cells {H : Hp} {a c : Addr} {s : Src} (h : SrcAt H a c s) : DGet H a (.str "cells") (some (.ref c)) := DGet.k (k := Sum.inr "cells") h.1
theorem SrcAt.putLeft {H : Hp} {a c : Addr} {s : Src} (h : SrcAt H a c s) (i : Int) : ∃ H', DPut H a (.str "left") (.int i) H' ∧ H' = upd H a (.dK (srcKv c { s with left := i })) ∧ SrcAt H' a c { s with left := i } := by
  have e : putK (srcKv c s) (Sum.inr "left") (.int i) = srcKv c { s with left := i } := by rfl
  refine ⟨_, DPut.k (k := Sum.inr "left") h.1 (by show 4 < sizeLine; decide), congrArg (fun z => upd H a (.dK z)) e, ?_, ?_⟩
  · exact upd_same.trans (congrArg (fun z => some (HO.dK z)) e)
  · rw [upd_ne h.ne.symm]
    exact h.2
theorem SrcAt.putTurn {H : Hp} {a c : Addr} {s : Src} (h : SrcAt H a c s) (i : Int) : ∃ H', DPut H a (.str "turn") (.int i) H' ∧ H' = upd H a (.dK (srcKv c { s with turn := i })) ∧ SrcAt H' a c { s with turn := i } := by
  have e : putK (srcKv c s) (Sum.inr "turn") (.int i) = srcKv c { s with turn := i } := by rfl
  refine ⟨_, DPut.k (k := Sum.inr "turn") h.1 (by show 4 < sizeLine; decide), congrArg (fun z => upd H a (.dK z)) e, ?_, ?_⟩
  · exact upd_same.trans (congrArg (fun z => some (HO.dK z)) e)
  · rw [upd_ne h.ne.symm]
    exact h.2
theorem SrcAt.putMixed {H : Hp} {a c : Addr} {s : Src} (h : SrcAt H a c s) (i : Int) : ∃ H', DPut H a (.str "mixed") (.int i) H' ∧ H' = upd H a (.dK (srcKv c { s with mixed := i })) ∧ SrcAt H' a c { s with mixed := i } := by
  have e : putK (srcKv c s) (Sum.inr "mixed") (.int i) = srcKv c { s with mixed := i } := by rfl
  refine ⟨_, DPut.k (k := Sum.inr "mixed") h.1 (by show 4 < sizeLine; decide), congrArg (fun z => upd H a (.dK z)) e, ?_, ?_⟩
  · exact upd_same.trans (congrArg (fun z => some (HO.dK z)) e)
  · rw [upd_ne h.ne.symm]
    exact h.2
theorem SrcAt.setCells {H : Hp} {a c : Addr} {s : Src} (h : SrcAt H a c s) (cs : List Int) : SrcAt (upd H c (.lst (cs.map V.int))) a c { s with cells := cs } :=
  ⟨(upd_ne h.ne).trans h.1, upd_same⟩
end Fe
namespace Fe
open PySem PySem.Spec PyProof.Rows L2

/-! ## repr of two things, compared -/
mutual
def shB : PyData → Nat
  | .int i => i.natAbs.log2 + 3
  | .bool _ => 5
  | .none => 4
  | .list xs => shBA xs + 3
  | .tuple xs => shBA xs + 3
  | .str _ => 99999999
  | .dict _ => 99999999
def shBA : List PyData → Nat
  | [] => 0
  | x :: r => shB x + 2 + shBA r
end
mutual
def plainD : PyData → Bool
  | .int i => Nat.blt i.natAbs.log2 1920
  | .bool _ => true
  | .none => true
  | .list xs => plainA xs
  | .tuple xs => plainA xs
  | .str _ => false
  | .dict _ => false
def plainA : List PyData → Bool
  | [] => true
  | x :: r => plainD x && plainA r
end
theorem int_len (i : Int) : (toString i : String).length ≤ i.natAbs.log2 + 3 := by
  have := int_text_length_le (a := i) (k := i.natAbs.log2 + 1) (by omega) (by omega)
  omega
mutual
theorem shown_le : ∀ d : PyData, plainD d = true → d.shown.length ≤ shB d ∧ d.showable = true ∧ d.hasDict = false
  | .int i, h => by
    refine ⟨?_, by unfold PyData.showable; exact decide_eq_true (Nat.le_of_ble_eq_true h), rfl⟩
    show (Str.ofString (toString i)).length ≤ _
    rw [PySem.ofString_length]
    exact int_len i
  | .bool b, _ => by
    refine ⟨?_, rfl, rfl⟩
    cases b <;> decide
  | .none, _ => ⟨by decide, rfl, rfl⟩
  | .list xs, h => by
    obtain ⟨h1, h2, h3⟩ := shownA_le xs (by simpa [plainD] using h)
    refine ⟨?_, by simpa [PyData.showable] using h2, by simpa [PyData.hasDict] using h3⟩
    have z := listText_len_le (PyData.shownAll xs)
    show (listText (PyData.shownAll xs)).length ≤ shBA xs + 3
    omega
  | .tuple xs, h => by
    obtain ⟨h1, h2, h3⟩ := shownA_le xs (by simpa [plainD] using h)
    refine ⟨?_, by simpa [PyData.showable] using h2, by simpa [PyData.hasDict] using h3⟩
    have z := tupleText_len_le (PyData.shownAll xs)
    show (tupleText (PyData.shownAll xs)).length ≤ shBA xs + 3
    omega
  | .str _, h => by simp [plainD] at h
  | .dict _, h => by simp [plainD] at h
theorem shownA_le : ∀ ds : List PyData, plainA ds = true → ((PyData.shownAll ds).map (·.length)).sum + 2 * (PyData.shownAll ds).length ≤ shBA ds ∧ PyData.showableAll ds = true ∧ PyData.hasDictAll ds = false
  | [], _ => ⟨by simp [PyData.shownAll, shBA], rfl, rfl⟩
  | x :: r, h => by
    have h' : plainD x = true ∧ plainA r = true := by simpa [plainA] using h
    obtain ⟨a1, a2, a3⟩ := shown_le x h'.1
    obtain ⟨b1, b2, b3⟩ := shownA_le r h'.2
    refine ⟨?_, by simp [PyData.showableAll, a2, b2], by simp [PyData.hasDictAll, a3, b3]⟩
    simp only [PyData.shownAll, List.map_cons, List.sum_cons, List.length_cons, shBA]
    omega
end
mutual
def sm : PyData → PyData → Bool
  | .int i, .int j => i == j
  | .bool a, .bool b => a == b
  | .none, .none => true
  | .list xs, .list ys => smA xs ys
  | .tuple xs, .tuple ys => smA xs ys
  | _, _ => false
def smA : List PyData → List PyData → Bool
  | [], [] => true
  | x :: r, y :: w => sm x y && smA r w
  | _, _ => false
end
mutual
theorem sm_eq : ∀ (d e : PyData), sm d e = true → d = e
  | .int i, e, h => by
    cases e with
    | int j => simp [sm] at h; rw [h]
    | _ => simp [sm] at h
  | .bool i, e, h => by
    cases e with
    | bool j => simp [sm] at h; rw [h]
    | _ => simp [sm] at h
  | .none, e, h => by
    cases e with
    | none => rfl
    | _ => simp [sm] at h
  | .list xs, e, h => by
    cases e with
    | list ys => rw [smA_eq xs ys (by simpa [sm] using h)]
    | _ => simp [sm] at h
  | .tuple xs, e, h => by
    cases e with
    | tuple ys => rw [smA_eq xs ys (by simpa [sm] using h)]
    | _ => simp [sm] at h
  | .str _, e, h => by cases e <;> simp [sm] at h
  | .dict _, e, h => by cases e <;> simp [sm] at h
theorem smA_eq : ∀ (ds es : List PyData), smA ds es = true → ds = es
  | [], [], _ => rfl
  | [], _ :: _, h => by simp [smA] at h
  | _ :: _, [], h => by simp [smA] at h
  | x :: r, y :: w, h => by
    have h' : sm x y = true ∧ smA r w = true := by simpa [smA] using h
    rw [sm_eq x y h'.1, smA_eq r w h'.2]
end
mutual
theorem sm_rfl : ∀ d : PyData, plainD d = true → sm d d = true
  | .int i, _ => by simp [sm]
  | .bool i, _ => by simp [sm]
  | .none, _ => rfl
  | .list xs, h => by simpa [sm] using smA_rfl xs (by simpa [plainD] using h)
  | .tuple xs, h => by simpa [sm] using smA_rfl xs (by simpa [plainD] using h)
  | .str _, h => by simp [plainD] at h
  | .dict _, h => by simp [plainD] at h
theorem smA_rfl : ∀ ds : List PyData, plainA ds = true → smA ds ds = true
  | [], _ => rfl
  | x :: r, h => by
    have h' : plainD x = true ∧ plainA r = true := by simpa [plainA] using h
    simp [smA, sm_rfl x h'.1, smA_rfl r h'.2]
end
/-- fit to be shown -/
def repOk (d : PyData) : Bool := plainD d && (Nat.ble (shB d) 16777216 && Nat.ble d.depth 60)
def rRep (K : PySem.W.Frag) : List V → Hp → VK → Prop := fun xs H Q => ∃ x d, xs = [x] ∧ Dp K H x d ∧ repOk d = true ∧ Q (.str d.shown) H
section
variable {X : Cx}
theorem repOk_ok {d : PyData} (h : repOk d = true) : plainD d = true ∧ d.shown.length ≤ sizeLine ∧ d.showable = true ∧ d.hasDict = false ∧ d.depth ≤ 60 := by
  unfold repOk at h
  have h' := Bool.and_eq_true_iff.mp h
  have h2 := Bool.and_eq_true_iff.mp h'.2
  obtain ⟨a1, a2, a3⟩ := shown_le d h'.1
  exact ⟨h'.1, Nat.le_trans a1 (ble_line h2.1), a2, a3, Nat.le_of_ble_eq_true h2.2⟩
theorem call_rep (hu : X.A.units + 64 < cLine) (hG : X.A.guards = some []) : CallR X (.builtin "repr") (rRep X.K) := by
  intro pins s σ H xs us Q I r h
  obtain ⟨x, d, rfl, hd, hok, q⟩ := h
  obtain ⟨h1, h2, h3, h4, h5⟩ := repOk_ok hok
  cases r with | cons r0 r1 =>
  cases r1
  cases d with
  | int i =>
    cases hd
    obtain ⟨t, rfl⟩ := r0
    exact PySem.P.repr_of_int (by simpa [PyData.showable] using h3) ⟨.str _, H, I.tok _, ⟨_, rfl⟩, q⟩
  | bool b =>
    cases hd
    cases r0
    exact PySem.P.repr_of_bool ⟨.str _, H, I.tok _, ⟨_, rfl⟩, by cases b <;> exact q⟩
  | none =>
    cases hd
    cases r0
    exact PySem.P.repr_of_none ⟨.str _, H, I.tok _, ⟨_, rfl⟩, q⟩
  | list ds =>
    obtain ⟨as, hr⟩ := Dp.reads I _ _ _ hd r0
    cases hd with | lst z1 z2 =>
    cases r0
    exact repr_of_reads' hr h3 (PyData.noDict_hsm h4) hG (by omega) (fun _ _ e => e) (fun h' u tk k => ⟨.str _, H, I.kept (t' := tk) k, ⟨u, rfl⟩, q⟩) h2
  | tuple ds =>
    obtain ⟨as, hr⟩ := Dp.reads I _ _ _ hd r0
    cases hd with | tup z1 z2 =>
    cases r0
    exact repr_of_reads' hr h3 (PyData.noDict_hsm h4) hG (by omega) (fun _ _ e => e) (fun h' u tk k => ⟨.str _, H, I.kept (t' := tk) k, ⟨u, rfl⟩, q⟩) h2
  | str x => simp [plainD] at h1
  | dict x => simp [plainD] at h1
theorem Dr.dp {K : PySem.W.Frag} {G H : Hp} {x : V} {d : PyData} (g : Same G H) (h : Dr K G H x d) : Dp K H x d := by
  rcases h with h | ⟨a, xs, ds, rfl, rfl, h1, h2⟩
  · exact (h.up g).dp
  · exact .lst (Or.inl (Or.inl h1)) (h2.up g).dp
variable {a b : Expr} {pos p1 p2 q1 q2 : Pos} {r1 r2 : En → Option (Rf × En)}
/-- both are the same thing: nothing else is served -/
@[simp] def fRep2 (v : Bool) (f g : En → Option (Rf × En)) : EF := fun ρ => bnd (f ρ) fun x ρ1 => match x.get ρ1 with
  | some d => bnd (g ρ1) fun y ρ2 => match y.get ρ2 with
    | some e => if (sm d e && repOk d) = true then some (.bool v, ρ2) else none
    | none => none
  | none => none
abbrev fRepNe := fRep2 false
abbrev fRepEq := fRep2 true
theorem rep_two {ta tb : TE} {r : R2} {v : Bool} (hr : ∀ (z : Str) (H : Hp) (Q : VK), Q (.bl v) H → r (.str z) (.str z) H Q)
    (qa : ∀ ρ d ρ', r1 ρ = some (d, ρ') → ∀ A F G H σ Q, Rel X.K A F G H ρ σ → (∀ x G' H', Same G G' → Rel X.K A F G' H' ρ' σ → RfOk X.K G' σ x d → Q x H') → ta σ H Q)
    (qb : ∀ ρ d ρ', r2 ρ = some (d, ρ') → ∀ A F G H σ Q, Rel X.K A F G H ρ σ → (∀ x G' H', Same G G' → Rel X.K A F G' H' ρ' σ → RfOk X.K G' σ x d → Q x H') → tb σ H Q) :
    ∀ ρ d ρ', fRep2 v r1 r2 ρ = some (d, ρ') → ∀ A F G H σ Q, Rel X.K A F G H ρ σ → (∀ x G' H', Same G G' → Rel X.K A F G' H' ρ' σ → Dq X.K G' x d → Q x H') →
      tOp r (tCB (rRep X.K) (tCons ta tNil)) (tCB (rRep X.K) (tCons tb tNil)) σ H Q := by
  intro ρ d ρ' h A F G H σ Q R k
  obtain ⟨x, ρ1, h1, h2⟩ := bnd_some h
  split at h2
  · rename_i dx hx
    obtain ⟨y, ρ2, h3, h4⟩ := bnd_some h2
    split at h4
    · rename_i dy hy
      split at h4
      · rename_i hs
        cases h4
        have hs' := Bool.and_eq_true_iff.mp hs
        have e := sm_eq _ _ hs'.1
        subst e
        refine qa ρ x ρ1 h1 A F G H σ _ R fun u G1 H1 s1 R1 z1 => ⟨u, dx, rfl, (z1.dr R1 hx).dp R1.gh, hs'.2, ?_⟩
        refine qb ρ1 y _ h3 A F G1 H1 σ _ R1 fun w G2 H2 s2 R2 z2 => ⟨w, dx, rfl, (z2.dr R2 hy).dp R2.gh, hs'.2, ?_⟩
        exact hr _ _ _ (k _ G2 H2 (s1.trans s2) R2 (.bl v))
      · cases h4
    · cases h4
  · cases h2
theorem pe_rep {t : TE} (hu : X.A.units + 64 < cLine) (hG : X.A.guards = some []) (h : PE X a t) (hg : Gl X "repr") (hm : X.mg "repr" = none) (hs : starEach (a :: []) X.env = (false, eval a X.env) :: starEach [] X.env := by rfl) :
    PE X (.Call (.Name "repr" q1) [a] [] p1) (tCB (rRep X.K) (tCons t tNil)) := pe_callB (call_rep hu hG) hg hm (by decide +kernel) (pa_cons h pa_nil hs) (he := hs)
theorem fe_repNe (hu : X.A.units + 64 < cLine) (hG : X.A.guards = some []) (ha : FR X a r1) (hb : FR X b r2) (hg : Gl X "repr") (hm : X.mg "repr" = none) (hs : starEach (a :: []) X.env = (false, eval a X.env) :: starEach [] X.env := by rfl) (hs2 : starEach (b :: []) X.env = (false, eval b X.env) :: starEach [] X.env := by rfl) :
    FE X (.Compare (.Call (.Name "repr" q1) [a] [] p1) [.NotEq] [.Call (.Name "repr" q2) [b] [] p2] pos) (fRepNe r1 r2) := by
  obtain ⟨ta, pa, qa⟩ := ha
  obtain ⟨tb, pb, qb⟩ := hb
  exact ⟨_, pe_cmpR op_ne (pe_rep hu hG pa hg hm hs) (pe_rep hu hG pb hg hm hs2) (nobehind _ (by decide) (by decide)), rep_two (fun z H Q q => ⟨rfl, by simpa using q⟩) qa qb⟩
theorem ft_repNe (hu : X.A.units + 64 < cLine) (hG : X.A.guards = some []) (ha : FR X a r1) (hb : FR X b r2) (hg : Gl X "repr") (hm : X.mg "repr" = none) (hs : starEach (a :: []) X.env = (false, eval a X.env) :: starEach [] X.env := by rfl) (hs2 : starEach (b :: []) X.env = (false, eval b X.env) :: starEach [] X.env := by rfl) :
    FT X (.Compare (.Call (.Name "repr" q1) [a] [] p1) [.NotEq] [.Call (.Name "repr" q2) [b] [] p2] pos) (fTst (fRepNe r1 r2)) := by
  obtain ⟨ta, pa, qa⟩ := ha
  obtain ⟨tb, pb, qb⟩ := hb
  exact ⟨_, pt_cmpR op_ne (pe_rep hu hG pa hg hm hs) (pe_rep hu hG pb hg hm hs2) (nobehind _ (by decide) (by decide)), tst (rep_two (fun z H Q q => ⟨rfl, by simpa using q⟩) qa qb)⟩
theorem ft_repEq (hu : X.A.units + 64 < cLine) (hG : X.A.guards = some []) (ha : FR X a r1) (hb : FR X b r2) (hg : Gl X "repr") (hm : X.mg "repr" = none) (hs : starEach (a :: []) X.env = (false, eval a X.env) :: starEach [] X.env := by rfl) (hs2 : starEach (b :: []) X.env = (false, eval b X.env) :: starEach [] X.env := by rfl) :
    FT X (.Compare (.Call (.Name "repr" q1) [a] [] p1) [.Eq] [.Call (.Name "repr" q2) [b] [] p2] pos) (fTst (fRepEq r1 r2)) := by
  obtain ⟨ta, pa, qa⟩ := ha
  obtain ⟨tb, pb, qb⟩ := hb
  exact ⟨_, pt_cmpR op_eq (pe_rep hu hG pa hg hm hs) (pe_rep hu hG pb hg hm hs2) (nobehind _ (by decide) (by decide)), tst (rep_two (fun z H Q q => ⟨rfl, by simpa using q⟩) qa qb)⟩
theorem fe_repEq (hu : X.A.units + 64 < cLine) (hG : X.A.guards = some []) (ha : FR X a r1) (hb : FR X b r2) (hg : Gl X "repr") (hm : X.mg "repr" = none) (hs : starEach (a :: []) X.env = (false, eval a X.env) :: starEach [] X.env := by rfl) (hs2 : starEach (b :: []) X.env = (false, eval b X.env) :: starEach [] X.env := by rfl) :
    FE X (.Compare (.Call (.Name "repr" q1) [a] [] p1) [.Eq] [.Call (.Name "repr" q2) [b] [] p2] pos) (fRepEq r1 r2) := by
  obtain ⟨ta, pa, qa⟩ := ha
  obtain ⟨tb, pb, qb⟩ := hb
  exact ⟨_, pe_cmpR op_eq (pe_rep hu hG pa hg hm hs) (pe_rep hu hG pb hg hm hs2) (nobehind _ (by decide) (by decide)), rep_two (fun z H Q q => ⟨rfl, by simpa using q⟩) qa qb⟩
/-! ## powers -/
def powOk (i j : Int) : Bool := decide (0 ≤ j) && (decide (j ≤ 1000000) && Nat.blt i.natAbs 18446744073709551616)
abbrev oPow := oIc powOk fun i j => .int (i ^ j.toNat)
variable {f g : EF}
theorem fe_pow (ha : FE X a f) (hb : FE X b g) : FE X (.BinOp a .Pow b pos) (fOp oPow f g) := fe_op op_pow (of_I (fun i j h => by
  unfold powOk at h
  simp only [Bool.and_eq_true, decide_eq_true_eq] at h
  exact ⟨h.1, h.2.1, Nat.le_of_ble_eq_true h.2.2⟩) fun i j _ => .int _) ha hb
end
end Fe
namespace Fe
open PySem

/-! ## loops, as plain functions -/
def lp1 (g : PyData → En → Option En) (b : SF) (d : PyData) (ρ : En) : Option En := match g d ρ with
  | none => none
  | some ρ1 => match b ρ1 with
    | some (.nx ρ2) => some ρ2
    | some (.ct ρ2) => some ρ2
    | _ => none
theorem lp_cons {g : PyData → En → Option En} {b : SF} {d : PyData} {r : List PyData} {ρ ρ' : En} (h : lp1 g b d ρ = some ρ') : lp g b (d :: r) ρ = lp g b r ρ' := by
  unfold lp1 at h
  show (match g d ρ with | none => none | some ρ1 => match b ρ1 with | some (.nx ρ2) => lp g b r ρ2 | some (.ct ρ2) => lp g b r ρ2 | some (.bk ρ2) => some (.nx ρ2) | some (.rt d ρ2) => some (.rt d ρ2) | none => none) = _
  split at h
  · cases h
  · split at h <;> first | (cases h; simp [*]) | cases h
theorem lp_ind {g : PyData → En → Option En} {b : SF} (P : Nat → En → Prop) : ∀ (ds : List PyData) (k : Nat) (ρ : En), P k ρ →
    (∀ i d ρ, ds[i]? = some d → P (k + i) ρ → ∃ ρ', lp1 g b d ρ = some ρ' ∧ P (k + i + 1) ρ') → ∃ ρ', lp g b ds ρ = some (.nx ρ') ∧ P (k + ds.length) ρ'
  | [], k, ρ, h0, _ => ⟨ρ, rfl, h0⟩
  | d :: r, k, ρ, h0, hs => by
    obtain ⟨ρ1, h1, h2⟩ := hs 0 d ρ rfl h0
    obtain ⟨ρ2, h3, h4⟩ := lp_ind P r (k + 1) ρ1 h2 fun i d ρ e p => by
      have := hs (i + 1) d ρ (by simpa using e) (by rw [show k + (i + 1) = k + 1 + i by omega]; exact p)
      rwa [show k + (i + 1) + 1 = k + 1 + i + 1 by omega] at this
    refine ⟨ρ2, by rw [lp_cons h1]; exact h3, ?_⟩
    rw [List.length_cons, show k + (r.length + 1) = k + 1 + r.length by omega]
    exact h4
theorem lp_list {g : PyData → En → Option En} {b : SF} (P : Nat → En → Prop) {ds : List PyData} {ρ : En} (h0 : P 0 ρ)
    (hs : ∀ i d ρ, ds[i]? = some d → P i ρ → ∃ ρ', lp1 g b d ρ = some ρ' ∧ P (i + 1) ρ') : ∃ ρ', lp g b ds ρ = some (.nx ρ') ∧ P ds.length ρ' := by
  obtain ⟨ρ', h1, h2⟩ := lp_ind P ds 0 ρ h0 fun i d ρ e p => by
    rw [Nat.zero_add] at p ⊢
    exact hs i d ρ e p
  exact ⟨ρ', h1, by rwa [Nat.zero_add] at h2⟩
theorem lp_rng {g : PyData → En → Option En} {b : SF} (P : Nat → En → Prop) {lo : Int} {n : Nat} {ρ : En} (h0 : P 0 ρ)
    (hs : ∀ i ρ, i < n → P i ρ → ∃ ρ', lp1 g b (.int (lo + (i : Nat))) ρ = some ρ' ∧ P (i + 1) ρ') : ∃ ρ', lp g b (rngL lo n) ρ = some (.nx ρ') ∧ P n ρ' := by
  have z := lp_list (g := g) (b := b) P (ds := rngL lo n) h0 fun i d ρ e p => by
    have hi : i < n := by
      have := (List.getElem?_eq_some_iff.mp e).1
      rwa [rngL_len] at this
    rw [rngL_get e]
    exact hs i ρ hi p
  rwa [rngL_len] at z
/-- a comprehension without a test, its element a value by place, nothing drawn -/
theorem cl_map {vs : List Nat} {g : PyData → En → Option En} {e : EF} {ρ : En} : ∀ (ds : List PyData) (f : PyData → PyData), (∀ d ∈ ds, ∃ ρ1 ρ2, g d (wipeE ρ vs) = some ρ1 ∧ e ρ1 = some (f d, ρ2) ∧ wipeE ρ2 vs = wipeE ρ vs) → ∀ ρ0, wipeE ρ0 vs = wipeE ρ vs →
    cl vs g fYes e ds ρ0 = some (ds.map f, wipeE ρ vs)
  | [], f, _, ρ0, h0 => by
    show some ([], wipeE ρ0 vs) = _
    rw [h0]
    rfl
  | d :: r, f, h, ρ0, h0 => by
    obtain ⟨ρ1, ρ2, h1, h2, h3⟩ := h d List.mem_cons_self
    have ih := cl_map r f (fun d hd => h d (List.mem_cons_of_mem _ hd)) ρ2 h3
    show (match g d (wipeE ρ0 vs) with | none => none | some ρ1 => bnd (fYes ρ1) fun k ρ2 => if k = true then bnd (e ρ2) fun y ρ3 => bnd (cl vs g fYes e r ρ3) fun ys ρ4 => some (y :: ys, ρ4) else cl vs g fYes e r ρ2) = _
    rw [h0, h1]
    simp only [fYes, bnd, h2, ih, if_true, List.map_cons]
theorem runF_rt {n m : Nat} {fb : SF} {ds : List PyData} {d : PyData} {ρ : En} (h : fb (start1 m ds) = some (.rt d ρ)) (hn : ds.length = n := by rfl) : runF n m fb ds = some d := by
  subst hn
  unfold runF
  rw [if_pos (beq_self_eq_true _), h]
theorem runS_rt {n m : Nat} {fb : SF} {s s' : Src} {ds : List PyData} {d : PyData} {ρ : En} (h : fb (startS m s ds) = some (.rt d (.src s' :: ρ))) (hn : ds.length + 1 = n := by rfl) : runS n m fb s ds = some (d, s') := by
  subst hn
  unfold runS
  rw [if_pos (beq_self_eq_true _), h]
/-! ## small facts -/
theorem log2_lt {i : Int} {k : Nat} (hk : k ≠ 0) (h : i.natAbs < 2 ^ k) : i.natAbs.log2 < k := by
  by_cases h0 : i.natAbs = 0
  · rw [h0]
    simp
    omega
  · exact (Nat.log2_lt h0).mpr h
theorem mulOk_of {i j : Int} {a b : Nat} (h1 : i.natAbs.log2 ≤ a) (h2 : j.natAbs.log2 ≤ b) (h : a + b < 1000000) : mulOk i j = true := by
  unfold mulOk
  exact Nat.ble_eq_true_of_le (by omega)
theorem divOk_of {j : Int} (h0 : 0 < j) (h : j.natAbs.log2 < 9000) : divOk j = true := by
  unfold divOk
  rw [decide_eq_true h0]
  exact Nat.ble_eq_true_of_le h
theorem modOk_of {j : Int} (h0 : 0 < j) : modOk j = true := decide_eq_true h0
theorem inB_of {j : Int} (h1 : -4611686018427387903 ≤ j) (h2 : j ≤ 4611686018427387903) : inB j = true := Nat.ble_eq_true_of_le (by omega)
@[simp] theorem oEq_int {a b : Int} : oEq (.int a) (.int b) = some (.bool (decide (a = b))) := by
  have e : PyData.eqv (.int a) (.int b) = decide (a = b) := by
    rw [← Bool.beq_eq_decide_eq]
    rfl
  have s : (SeqAt.shaped (.int a) && SeqAt.shaped (.int b)) = true := rfl
  unfold oEq
  rw [if_pos s, e]
@[simp] theorem oNe_int {a b : Int} : oNe (.int a) (.int b) = some (.bool (!decide (a = b))) := by
  have e : PyData.eqv (.int a) (.int b) = decide (a = b) := by
    rw [← Bool.beq_eq_decide_eq]
    rfl
  have s : (SeqAt.shaped (.int a) && SeqAt.shaped (.int b)) = true := rfl
  unfold oNe
  rw [if_pos s, e]
@[simp] theorem intsD_map : ∀ ns : List Int, intsD (ns.map PyData.int) = some ns
  | [] => rfl
  | n :: r => by
    show (match intsD (r.map PyData.int) with | some l => some (n :: l) | none => none) = _
    rw [intsD_map r]
@[simp] theorem boolsD_map : ∀ ns : List Bool, boolsD (ns.map PyData.bool) = some ns
  | [] => rfl
  | n :: r => by
    show (match boolsD (r.map PyData.bool) with | some l => some (n :: l) | none => none) = _
    rw [boolsD_map r]
theorem ixD_nat {ds : List PyData} {n : Nat} : ixD ds (n : Int) = ds[n]? := rfl
theorem ixP_nat {n k : Nat} (h : k < n) : ixP n (k : Int) = some k := by
  show (if Nat.blt k n = true then some k else none) = _
  rw [if_pos (show Nat.blt k n = true from Nat.ble_eq_true_of_le h)]
/-- an item of a list of ints, 0 beyond -/
def iat (l : List Int) (i : Nat) : Int := l.getD i 0
theorem iat_some {l : List Int} {i : Nat} {v : Int} (h : l[i]? = some v) : iat l i = v := by
  unfold iat
  rw [List.getD_eq_getElem?_getD, h]
  rfl
theorem ixD_map {l : List Int} {n : Nat} {z : Int} (hz : z = n) (h : n < l.length) : ixD (l.map PyData.int) z = some (.int (iat l n)) := by
  subst hz
  rw [ixD_nat, List.getElem?_map, List.getElem?_eq_getElem h, iat_some (List.getElem?_eq_getElem h)]
  rfl
theorem ixP_map {l : List Int} {n : Nat} {z : Int} (hz : z = n) (h : n < l.length) : ixP (l.map PyData.int).length z = some n := by
  subst hz
  exact ixP_nat (by rw [List.length_map]; exact h)
theorem setI_map {l : List Int} {n : Nat} {v : Int} : (l.map PyData.int).set n (.int v) = (l.set n v).map PyData.int := by rw [List.map_set]
theorem rep_map {n : Nat} {v : Int} : List.replicate n (PyData.int v) = (List.replicate n v).map PyData.int := by rw [List.map_replicate]
theorem enum_map {row : List Int} {i : Nat} {d : PyData} (h : (enumD 0 (row.map PyData.int))[i]? = some d) : i < row.length ∧ d = .tuple [.int (i : Nat), .int (iat row i)] := by
  obtain ⟨d', h1, h2⟩ := enumD_get h
  rw [List.getElem?_map] at h1
  cases e : row[i]? with
  | none =>
    rw [e] at h1
    cases h1
  | some v =>
    rw [e] at h1
    cases h1
    refine ⟨(List.getElem?_eq_some_iff.mp e).1, ?_⟩
    rw [h2, iat_some e, Nat.zero_add]
/-- a function of natural numbers on ints -/
def mI (f : Nat → Int) : PyData → PyData
  | .int i => .int (f i.toNat)
  | d => d
theorem mI_nat {f : Nat → Int} {i : Nat} : mI f (.int (i : Nat)) = .int (f i) := rfl
theorem mI_rng {n : Nat} {f : Nat → Int} : (rngL 0 n).map (mI f) = ((List.range n).map f).map .int := by
  unfold rngL
  rw [List.map_map, List.map_map]
  refine List.map_congr_left fun i hi => ?_
  show PyData.int (f ((0 : Int) + (i : Nat)).toNat) = PyData.int (f i)
  congr 2
  omega
theorem mem_rng0 {n : Nat} {d : PyData} (h : d ∈ rngL 0 n) : ∃ i : Nat, i < n ∧ d = .int (i : Nat) := by
  unfold rngL at h
  obtain ⟨i, hi, rfl⟩ := List.mem_map.mp h
  exact ⟨i, List.mem_range.mp hi, by rw [Int.zero_add]⟩
end Fe
namespace Fe
theorem bleN0 : Nat.ble 0 16777216 = true := rfl
theorem bleN1 : Nat.ble 1 16777216 = true := rfl
theorem bleN2 : Nat.ble 2 16777216 = true := rfl
theorem bleN3 : Nat.ble 3 16777216 = true := rfl
theorem bleN4 : Nat.ble 4 16777216 = true := rfl
theorem bleN5 : Nat.ble 5 16777216 = true := rfl
theorem bleN6 : Nat.ble 6 16777216 = true := rfl
theorem bleN7 : Nat.ble 7 16777216 = true := rfl
theorem bleN8 : Nat.ble 8 16777216 = true := rfl
theorem bleN9 : Nat.ble 9 16777216 = true := rfl
theorem bleN10 : Nat.ble 10 16777216 = true := rfl
theorem bleN11 : Nat.ble 11 16777216 = true := rfl
theorem bleN12 : Nat.ble 12 16777216 = true := rfl
theorem bleN13 : Nat.ble 13 16777216 = true := rfl
theorem bleN14 : Nat.ble 14 16777216 = true := rfl
theorem bleN15 : Nat.ble 15 16777216 = true := rfl
theorem bleN16 : Nat.ble 16 16777216 = true := rfl
end Fe
namespace Fe
open PySem PySem.Spec PyProof.Rows L2
/-! ## tuples: + and * -/
@[simp] def oCatT : PyData → PyData → Option PyData
  | .tuple ds, .tuple es => if Nat.ble (ds.length + es.length) 16777216 = true then some (.tuple (ds ++ es)) else none
  | _, _ => none
theorem of_catT {K : PySem.W.Frag} : OpF K (rCatA K) oCatT := by
  intro x y d e c q A F G H ρ σ Q R hx hy k
  unfold oCatT at q
  split at q
  · split at q
    · rename_i ds es hz
      cases q
      have hz1 := ble_line hz
      cases hx with | tup q1 q2 =>
      cases hy with | tup w1 w2 =>
      have hl := q2.len
      have hl2 := w2.len
      refine ⟨_, _, _, _, rfl, rfl, sqT_up R.gh q1, sqT_up R.gh w1, by rw [hl, hl2]; exact hz1, fun e0 => ?_, fun _ e0 => ?_, fun _ _ p hp => ?_⟩
      · subst e0
        cases q2
        exact k _ G H (Same.refl G) R (.tup w1 w2)
      · subst e0
        cases w2
        rw [List.append_nil] at k
        exact k _ G H (Same.refl G) R (.tup q1 q2)
      · have g0 := none_of R.gh hp
        exact k _ _ _ (same_new g0) (R.new hp) (.tup (Or.inl (Or.inl upd_same)) ((q2.app w2).up (same_new g0)))
    · cases q
  · cases q
@[simp] def oRepT : PyData → PyData → Option PyData
  | .tuple ds, .int k => if (Nat.blt 0 ds.length && Nat.ble ds.length 1000 && decide (2 ≤ k) && decide (k ≤ 1000)) = true then some (.tuple (List.replicate k.toNat ds).flatten) else none
  | _, _ => none
theorem of_repT {K : PySem.W.Frag} : OpF K (rRepT K) oRepT := by
  intro x y d e c q A F G H ρ σ Q R hx hy k
  unfold oRepT at q
  split at q
  · split at q
    · rename_i ds n hz
      cases q
      simp only [Bool.and_eq_true, decide_eq_true_eq] at hz
      obtain ⟨⟨⟨h1, h2⟩, h3⟩, h4⟩ := hz
      cases hy
      cases hx with | tup q1 q2 =>
      have hl := q2.len
      have h1' : 0 < ds.length := Nat.le_of_ble_eq_true h1
      have h2' : ds.length ≤ 1000 := Nat.le_of_ble_eq_true h2
      refine ⟨_, n, _, rfl, rfl, sqT_up R.gh q1, fun e0 => ?_, h3, h4, by rw [hl]; exact h2', fun p hp => ?_⟩
      · subst e0
        rw [← hl] at h1'
        exact absurd h1' (by simp)
      · have g0 := none_of R.gh hp
        exact k _ _ _ (same_new g0) (R.new hp) (.tup (Or.inl (Or.inl upd_same)) ((q2.rep n.toNat).up (same_new g0)))
    · cases q
  · cases q
section
variable {X : Cx} {e a b c : Expr} {es : List Expr} {pos p p2 : Pos} {f g h : EF} {l : LF} {r r' : En → Option (Rf × En)}
theorem fe_catT (ha : FE X a f) (hb : FE X b g) : FE X (.BinOp a .Add b pos) (fOp oCatT f g) := fe_op op_catA of_catT ha hb
theorem fe_repT (ha : FE X a f) (hb : FE X b g) : FE X (.BinOp a .Mult b pos) (fOp oRepT f g) := fe_op op_repT of_repT ha hb
/-! ## a star in a display -/
@[simp] def fStar (f : En → Option (Rf × En)) (l : LF) : LF := fun ρ => bnd (f ρ) fun x ρ1 => match x.get ρ1 with
  | some (.list ds) => bnd (l ρ1) fun xs ρ2 => some (ds ++ xs, ρ2)
  | some (.tuple ds) => bnd (l ρ1) fun xs ρ2 => some (ds ++ xs, ρ2)
  | _ => none
theorem DqA.app' {K : PySem.W.Frag} {H : Hp} {ds es : List PyData} {vs ws : List V} (h : DqA K H vs ds) (k : DqA K H ws es) : DqA K H (vs ++ ws) (ds ++ es) := h.app k
theorem fa_star (h1 : FR X e r) (h2 : FA X es l) (hs : starEach (.Starred e p :: es) X.env = (true, eval e X.env) :: starEach es X.env := by rfl) : FA X (.Starred e p :: es) (fStar r l) := by
  obtain ⟨t, p, q⟩ := h1
  obtain ⟨t2, p2, q2⟩ := h2
  refine ⟨_, StX.pa_star p p2 hs, fun ρ d ρ' h A F G H σ Q R k => ?_⟩
  obtain ⟨x, ρ1, h3, h4⟩ := bnd_some h
  refine q ρ x _ h3 A F G H σ _ R fun y G' H' s r z => ?_
  split at h4
  · rename_i ds hd
    obtain ⟨xs, ρ2, h5, h6⟩ := bnd_some h4
    cases h6
    obtain ⟨a, vs, rfl, w1, w2⟩ := (z.dr r hd).sq r.gh
    exact ⟨a, vs, rfl, Or.inr (Or.inl (Or.inl w1)), q2 _ _ _ h5 A F G' H' σ _ r fun ys G2 H2 s2 r2 z2 => k _ G2 H2 (s.trans s2) r2 ((w2.up s2).app z2)⟩
  · rename_i ds hd
    obtain ⟨xs, ρ2, h5, h6⟩ := bnd_some h4
    cases h6
    obtain ⟨a, vs, rfl, w1, w2⟩ := (z.dr r hd).st r.gh
    exact ⟨a, vs, rfl, Or.inl w1, q2 _ _ _ h5 A F G' H' σ _ r fun ys G2 H2 s2 r2 z2 => k _ G2 H2 (s.trans s2) r2 ((w2.up s2).app z2)⟩
  · cases h4
/-! ## slices -/
abbrev OF := En → Option (Option Int × En)
def FO (X : Cx) (e : Option Expr) (f : OF) : Prop := ∃ t, PO X e t ∧ ∀ ρ d ρ', f ρ = some (d, ρ') → ∀ A F G H σ Q, Rel X.K A F G H ρ σ →
  (∀ G' H', Same G G' → Rel X.K A F G' H' ρ' σ → Q d H') → t σ H Q
@[simp] def oNn : OF := fun ρ => some (none, ρ)
@[simp] def oSm (f : EF) : OF := fun ρ => bnd (f ρ) fun x ρ1 => match x with
  | .int i => some (some i, ρ1)
  | _ => none
theorem fo_none : FO X none oNn := by
  refine ⟨_, po_none, fun ρ d ρ' h A F G H σ Q R k => ?_⟩
  cases h
  exact k G H (Same.refl G) R
theorem fo_some (h : FE X e f) : FO X (some e) (oSm f) := by
  obtain ⟨t, p, q⟩ := h
  refine ⟨_, po_some p, fun ρ d ρ' h A F G H σ Q R k => ?_⟩
  obtain ⟨x, ρ1, h3, h4⟩ := bnd_some h
  split at h4
  · cases h4
    refine q ρ _ _ h3 A F G H σ _ R fun y G' H' s r z => ?_
    cases z
    exact ⟨_, rfl, k G' H' s r⟩
  · cases h4
@[simp] def sIxD (n d : Nat) : Option Int → Nat
  | none => d
  | some v => if v < 0 then (v + (n : Int)).toNat else min v.toNat n
@[simp] def cutD (ds : List PyData) (lo hi : Option Int) : List PyData := (ds.drop (sIxD ds.length 0 lo)).take (sIxD ds.length ds.length hi - sIxD ds.length 0 lo)
theorem sIxD_eq (n d : Nat) (o : Option Int) : sIxD n d o = HT.sIx n d o := by
  cases o <;> rfl
theorem DqA.dropN {K : PySem.W.Frag} {H : Hp} : ∀ {ds : List PyData} {vs : List V} (n : Nat), DqA K H vs ds → DqA K H (vs.drop n) (ds.drop n)
  | _, _, 0, h => h
  | [], _, n + 1, h => by
    cases h
    exact .nil
  | d :: r, _, n + 1, h => by
    cases h with | cons q w => exact DqA.dropN n w
theorem DqA.takeN {K : PySem.W.Frag} {H : Hp} : ∀ {ds : List PyData} {vs : List V} (n : Nat), DqA K H vs ds → DqA K H (vs.take n) (ds.take n)
  | _, _, 0, h => .nil
  | [], _, n + 1, h => by
    cases h
    exact .nil
  | d :: r, _, n + 1, h => by
    cases h with | cons q w => exact .cons q (DqA.takeN n w)
theorem DqA.cut {K : PySem.W.Frag} {H : Hp} {ds : List PyData} {vs : List V} (h : DqA K H vs ds) (lo hi : Option Int) : DqA K H (cutV vs lo hi) (cutD ds lo hi) := by
  unfold cutV cutD
  rw [sIxD_eq, sIxD_eq, ← h.len]
  exact (h.dropN _).takeN _
theorem DqA.rev {K : PySem.W.Frag} {H : Hp} : ∀ {ds : List PyData} {vs : List V}, DqA K H vs ds → DqA K H vs.reverse ds.reverse
  | [], _, h => by
    cases h
    exact .nil
  | d :: r, _, h => by
    cases h with | cons q w =>
    rw [List.reverse_cons, List.reverse_cons]
    exact (DqA.rev w).app (.cons q .nil)
@[simp] def fSlL (f : En → Option (Rf × En)) (lo hi : OF) : LF := fun ρ => bnd (f ρ) fun x ρ1 => bnd (lo ρ1) fun i ρ2 => bnd (hi ρ2) fun j ρ3 => match x.get ρ3 with
  | some (.list ds) => if Nat.ble ds.length 16777216 = true then some (cutD ds i j, ρ3) else none
  | _ => none
@[simp] def fSlT (f : En → Option (Rf × En)) (lo hi : OF) : EF := fun ρ => bnd (f ρ) fun x ρ1 => bnd (lo ρ1) fun i ρ2 => bnd (hi ρ2) fun j ρ3 => match x.get ρ3 with
  | some (.tuple ds) => if (Nat.beq (sIxD ds.length 0 i) 0 && Nat.beq (sIxD ds.length ds.length j) ds.length) = true then none else some (.tuple (cutD ds i j), ρ3)
  | _ => none
variable {lo hi : Option Expr} {fl fh : OF}
theorem fl_sl (he : FR X e r) (h1 : FO X lo fl) (h2 : FO X hi fh) : FL X (.Subscript e (.Slice lo hi none p2) pos) (fSlL r fl fh) := by
  obtain ⟨t, p, q⟩ := he
  obtain ⟨t1, p1, q1⟩ := h1
  obtain ⟨t2, p2, q2⟩ := h2
  refine ⟨_, pe_slice sl_list p p1 p2, fun ρ d ρ' h A F G H σ Q R k => ?_⟩
  obtain ⟨x, ρ1, h3, h4⟩ := bnd_some h
  obtain ⟨i, ρ2, h5, h6⟩ := bnd_some h4
  obtain ⟨j, ρ3, h7, h8⟩ := bnd_some h6
  refine q ρ x _ h3 A F G H σ _ R fun y G1 H1 s1 r1 z1 => ?_
  refine q1 _ _ _ h5 A F G1 H1 σ _ r1 fun G2 H2 s2 r2 => ?_
  refine q2 _ _ _ h7 A F G2 H2 σ _ r2 fun G3 H3 s3 r3 => ?_
  split at h8
  · rename_i ds hd
    split at h8
    · rename_i hz
      cases h8
      obtain ⟨a, vs, rfl, w1, w2⟩ := (((z1.up s2).up s3).dr r3 hd).sq r3.gh
      refine ⟨a, vs, rfl, Or.inl (Or.inl w1), fun l hl => ?_⟩
      refine k l _ G3 _ (none_of r3.fh hl) ((s1.trans s2).trans s3) (r3.newF hl) (w2.cut _ _) ?_
      have := cutV_length vs i j
      have hl2 := w2.len
      have := ble_line hz
      omega
    · cases h8
  · cases h8
theorem fe_slT (he : FR X e r) (h1 : FO X lo fl) (h2 : FO X hi fh) : FE X (.Subscript e (.Slice lo hi none p2) pos) (fSlT r fl fh) := by
  obtain ⟨t, p, q⟩ := he
  obtain ⟨t1, p1, q1⟩ := h1
  obtain ⟨t2, p2, q2⟩ := h2
  refine ⟨_, pe_slice sl_tup p p1 p2, fun ρ d ρ' h A F G H σ Q R k => ?_⟩
  obtain ⟨x, ρ1, h3, h4⟩ := bnd_some h
  obtain ⟨i, ρ2, h5, h6⟩ := bnd_some h4
  obtain ⟨j, ρ3, h7, h8⟩ := bnd_some h6
  refine q ρ x _ h3 A F G H σ _ R fun y G1 H1 s1 r1 z1 => ?_
  refine q1 _ _ _ h5 A F G1 H1 σ _ r1 fun G2 H2 s2 r2 => ?_
  refine q2 _ _ _ h7 A F G2 H2 σ _ r2 fun G3 H3 s3 r3 => ?_
  split at h8
  · rename_i ds hd
    split at h8
    · cases h8
    · rename_i hz
      cases h8
      obtain ⟨a, vs, rfl, w1, w2⟩ := (((z1.up s2).up s3).dr r3 hd).st r3.gh
      refine ⟨a, vs, rfl, w1, fun z => hz ?_, fun p hp => ?_⟩
      · rw [sIxD_eq, sIxD_eq, ← w2.len, z.1, z.2, Nat.beq_refl, Nat.beq_refl]
        rfl
      · have g0 := none_of r3.gh hp
        exact k _ _ _ (((s1.trans s2).trans s3).trans (same_new g0)) (r3.new hp) (.tup (Or.inl (Or.inl upd_same)) ((w2.cut _ _).up (same_new g0)))
  · cases h8
@[simp] def fRev (f : En → Option (Rf × En)) : LF := fun ρ => bnd (f ρ) fun x ρ1 => match x.get ρ1 with
  | some (.list ds) => if Nat.ble ds.length 16777216 = true then some (ds.reverse, ρ1) else none
  | _ => none
theorem fl_rev {k1 : Nat} {p1 p3 p4 : Pos} (he : FR X e r) : FL X (.Subscript e (.Slice none none (some (.UnaryOp .USub (.Constant (.int 1) k1 p1) p2)) p3) pos) (fRev r) := by
  obtain ⟨t, p, q⟩ := he
  refine ⟨_, pe_revL p, fun ρ d ρ' h A F G H σ Q R k => ?_⟩
  obtain ⟨x, ρ1, h3, h8⟩ := bnd_some h
  refine q ρ x _ h3 A F G H σ _ R fun y G1 H1 s1 r1 z1 => ?_
  split at h8
  · rename_i ds hd
    split at h8
    · rename_i hz
      cases h8
      obtain ⟨a, vs, rfl, w1, w2⟩ := (z1.dr r1 hd).sq r1.gh
      refine ⟨a, vs, rfl, Or.inl (Or.inl w1), fun l hl => ?_⟩
      exact k l _ G1 _ (none_of r1.fh hl) s1 (r1.newF hl) w2.rev (by rw [List.length_reverse, w2.len]; exact ble_line hz)
    · cases h8
  · cases h8
/-! ## in, not in -/
/-- an operator of two values that are read: the second may be a list that changes later -/
@[simp] def fOpR (o : PyData → PyData → Option PyData) (f g : En → Option (Rf × En)) : EF := fun ρ => bnd (f ρ) fun x ρ1 => bnd (g ρ1) fun y ρ2 => match x.get ρ2, y.get ρ2 with
  | some d, some e => ret ρ2 (o d e)
  | _, _ => none
def OpFR (K : PySem.W.Frag) (r : R2) (o : PyData → PyData → Option PyData) : Prop := ∀ x y d e c, o d e = some c → ∀ A F G H ρ σ Q, Rel K A F G H ρ σ → Dr K G H x d → Dr K G H y e →
  (∀ z G' H', Same G G' → Rel K A F G' H' ρ σ → Dq K G' z c → Q z H') → r x y H Q
theorem twoR {ta tb : TE} {rr : R2} {o : PyData → PyData → Option PyData} (ho : OpFR X.K rr o)
    (ha : ∀ ρ d ρ', r ρ = some (d, ρ') → ∀ A F G H σ Q, Rel X.K A F G H ρ σ → (∀ x G' H', Same G G' → Rel X.K A F G' H' ρ' σ → RfOk X.K G' σ x d → Q x H') → ta σ H Q)
    (hb : ∀ ρ d ρ', r' ρ = some (d, ρ') → ∀ A F G H σ Q, Rel X.K A F G H ρ σ → (∀ x G' H', Same G G' → Rel X.K A F G' H' ρ' σ → RfOk X.K G' σ x d → Q x H') → tb σ H Q) :
    ∀ ρ d ρ', fOpR o r r' ρ = some (d, ρ') → ∀ A F G H σ Q, Rel X.K A F G H ρ σ → (∀ x G' H', Same G G' → Rel X.K A F G' H' ρ' σ → Dq X.K G' x d → Q x H') → tOp rr ta tb σ H Q := by
  intro ρ d ρ' h A F G H σ Q R k
  obtain ⟨x, ρ1, h1, h2⟩ := bnd_some h
  obtain ⟨y, ρ2, h3, h4⟩ := bnd_some h2
  refine ha ρ x ρ1 h1 A F G H σ _ R fun u G1 H1 s1 R1 d1 => ?_
  refine hb ρ1 y _ h3 A F G1 H1 σ _ R1 fun v G2 H2 s2 R2 d2 => ?_
  split at h4
  · rename_i dx dy hx hy
    obtain ⟨h5, rfl⟩ := ret_some h4
    exact ho u v _ _ d h5 A F G2 H2 _ σ Q R2 ((d1.up s2).dr R2 hx) (d2.dr R2 hy) fun z G3 H3 s3 R3 d3 => k z G3 H3 ((s1.trans s2).trans s3) R3 d3
  · cases h4
theorem fe_opR {op : CmpOp} {rr : R2} {o : PyData → PyData → Option PyData} (ho : OpR X (compareOp op) rr) (hf : OpFR X.K rr o) (ha : FR X a r) (hb : FR X b r') (hm : behindInMarks op b = false) : FE X (.Compare a [op] [b] pos) (fOpR o r r') := by
  obtain ⟨ta, pa, qa⟩ := ha
  obtain ⟨tb, pb, qb⟩ := hb
  exact ⟨_, pe_cmpR ho pa pb hm, twoR hf qa qb⟩
theorem ft_opR {op : CmpOp} {rr : R2} {o : PyData → PyData → Option PyData} (ho : OpR X (compareOp op) rr) (hf : OpFR X.K rr o) (ha : FR X a r) (hb : FR X b r') (hm : behindInMarks op b = false) : FT X (.Compare a [op] [b] pos) (fTst (fOpR o r r')) := by
  obtain ⟨ta, pa, qa⟩ := ha
  obtain ⟨tb, pb, qb⟩ := hb
  exact ⟨_, pt_cmpR ho pa pb hm, tst (twoR hf qa qb)⟩
theorem ofr_eq {K : PySem.W.Frag} : OpFR K (rEqD K) oEq := by
  intro x y d e c q A F G H ρ σ Q R hx hy k
  unfold oEq at q
  split at q
  · rename_i hs
    cases q
    have hs' := Bool.and_eq_true_iff.mp hs
    exact ⟨d, e, hx.dp R.gh, hy.dp R.gh, hs'.1, hs'.2, k _ G H (Same.refl G) R (.bl _)⟩
  · cases q
theorem ofr_ne {K : PySem.W.Frag} : OpFR K (rNeD K) oNe := by
  intro x y d e c q A F G H ρ σ Q R hx hy k
  unfold oNe at q
  split at q
  · rename_i hs
    cases q
    have hs' := Bool.and_eq_true_iff.mp hs
    exact ⟨d, e, hx.dp R.gh, hy.dp R.gh, hs'.1, hs'.2, k _ G H (Same.refl G) R (.bl _)⟩
  · cases q
theorem fe_eqR (hu : X.A.units + 64 < cLine) (ha : FR X a r) (hb : FR X b r') : FE X (.Compare a [.Eq] [b] pos) (fOpR oEq r r') := fe_opR (op_eqD hu) ofr_eq ha hb (nobehind _ (by decide) (by decide))
theorem fe_neR (hu : X.A.units + 64 < cLine) (ha : FR X a r) (hb : FR X b r') : FE X (.Compare a [.NotEq] [b] pos) (fOpR oNe r r') := fe_opR (op_neD hu) ofr_ne ha hb (nobehind _ (by decide) (by decide))
theorem ft_eqR (hu : X.A.units + 64 < cLine) (ha : FR X a r) (hb : FR X b r') : FT X (.Compare a [.Eq] [b] pos) (fTst (fOpR oEq r r')) := ft_opR (op_eqD hu) ofr_eq ha hb (nobehind _ (by decide) (by decide))
theorem ft_neR (hu : X.A.units + 64 < cLine) (ha : FR X a r) (hb : FR X b r') : FT X (.Compare a [.NotEq] [b] pos) (fTst (fOpR oNe r r')) := ft_opR (op_neD hu) ofr_ne ha hb (nobehind _ (by decide) (by decide))
end
end Fe
namespace Fe
open PySem PySem.Spec PyProof.Rows L2
/-! ## in, not in -/
def flatD : PyData → Bool
  | .none => true
  | .bool _ => true
  | .int _ => true
  | .str _ => true
  | _ => false
def oIn (d e : PyData) : Option PyData := match e with
  | .list ds => if (SeqAt.shaped d && SeqAt.shaped (.list ds)) = true then some (.bool (ds.any fun z => PyData.eqv z d)) else none
  | .tuple ds => if (flatD d && ds.all flatD) = true then some (.bool (ds.any fun z => PyData.eqv z d)) else none
  | _ => none
def oNotIn (d e : PyData) : Option PyData := match e with
  | .list ds => if (SeqAt.shaped d && SeqAt.shaped (.list ds)) = true then some (.bool (!ds.any fun z => PyData.eqv z d)) else none
  | .tuple ds => if (flatD d && ds.all flatD) = true then some (.bool (!ds.any fun z => PyData.eqv z d)) else none
  | _ => none
section
variable {K : PySem.W.Frag} {G H : Hp}
theorem Dq.flat {x : V} {d : PyData} (h : Dq K H x d) (e : flatD d = true) : flatV x = true := by
  cases h <;> first | rfl | cases e
theorem DqA.flats : ∀ {ds : List PyData} {vs : List V}, DqA K H vs ds → ds.all flatD = true → vs.all flatV = true
  | [], _, h, _ => by
    cases h
    rfl
  | d :: r, _, h, e => by
    cases h with | cons q w =>
    rw [List.all_cons, Bool.and_eq_true] at e ⊢
    exact ⟨q.flat e.1, DqA.flats w e.2⟩
theorem eqv_flat {x y : V} {d e : PyData} (h : Dq K H x d) (k : Dq K H y e) (f : flatD d = true) (g : flatD e = true) : eqV x y = PyData.eqv d e := by
  cases h <;> cases k <;> first | (cases f; done) | (cases g; done) | rfl
theorem inV_flat {x : V} {d : PyData} (h : Dq K H x d) (f : flatD d = true) : ∀ {ds : List PyData} {vs : List V}, DqA K H vs ds → ds.all flatD = true → inV x vs = ds.any fun z => PyData.eqv z d
  | [], _, h', _ => by
    cases h'
    rfl
  | e :: r, _, h', k => by
    cases h' with | cons q w =>
    rw [List.all_cons, Bool.and_eq_true] at k
    show (eqV _ x || inV x _) = (PyData.eqv e d || _)
    rw [eqv_flat q h k.1 f, inV_flat h f w k.2]
end
section
variable {X : Cx} {e a b c : Expr} {pos p p2 : Pos} {f g h : EF} {r r' : En → Option (Rf × En)}
theorem ofr_in {K : PySem.W.Frag} : OpFR K (fun x y H Q => rInD K x y H Q ∨ rIn K false x y H Q) oIn := by
  intro x y d e c q A F G H ρ σ Q R hx hy k
  unfold oIn at q
  split at q
  · split at q
    · rename_i ds hs
      cases q
      have hs' := Bool.and_eq_true_iff.mp hs
      exact Or.inl ⟨d, ds, hx.dp R.gh, hy.dp R.gh, hs'.1, hs'.2, k _ G H (Same.refl G) R (.bl _)⟩
    · cases q
  · split at q
    · rename_i ds hs
      cases q
      have hs' := Bool.and_eq_true_iff.mp hs
      obtain ⟨p, xs, rfl, h1, h2⟩ := hy.st R.gh
      have hx' : Dq K G x d := by
        rcases hx with hx | ⟨_, _, _, _, rfl, _⟩
        · exact hx
        · cases hs'.1
      refine Or.inr ⟨p, xs, rfl, Or.inr h1, hx'.flat hs'.1, h2.flats hs'.2, ?_⟩
      rw [if_neg (by decide), inV_flat hx' hs'.1 h2 hs'.2]
      exact k _ G H (Same.refl G) R (.bl _)
    · cases q
  · cases q
theorem ofr_notIn {K : PySem.W.Frag} : OpFR K (fun x y H Q => rNotInD K x y H Q ∨ rIn K true x y H Q) oNotIn := by
  intro x y d e c q A F G H ρ σ Q R hx hy k
  unfold oNotIn at q
  split at q
  · split at q
    · rename_i ds hs
      cases q
      have hs' := Bool.and_eq_true_iff.mp hs
      exact Or.inl ⟨d, ds, hx.dp R.gh, hy.dp R.gh, hs'.1, hs'.2, k _ G H (Same.refl G) R (.bl _)⟩
    · cases q
  · split at q
    · rename_i ds hs
      cases q
      have hs' := Bool.and_eq_true_iff.mp hs
      obtain ⟨p, xs, rfl, h1, h2⟩ := hy.st R.gh
      have hx' : Dq K G x d := by
        rcases hx with hx | ⟨_, _, _, _, rfl, _⟩
        · exact hx
        · cases hs'.1
      refine Or.inr ⟨p, xs, rfl, Or.inr h1, hx'.flat hs'.1, h2.flats hs'.2, ?_⟩
      rw [if_pos rfl, inV_flat hx' hs'.1 h2 hs'.2]
      exact k _ G H (Same.refl G) R (.bl _)
    · cases q
  · cases q
theorem op_inF (hu : X.A.units + 65 < cLine) : OpR X (compareOp .In) (fun x y H Q => rInD X.K x y H Q ∨ rIn X.K false x y H Q) := (op_inD hu).or op_in_seq
theorem op_notInF (hu : X.A.units + 65 < cLine) : OpR X (compareOp .NotIn) (fun x y H Q => rNotInD X.K x y H Q ∨ rIn X.K true x y H Q) := (op_notInD hu).or op_notIn_seq
theorem fe_in (hu : X.A.units + 65 < cLine) (ha : FR X a r) (hb : FR X b r') (hm : behindInMarks .In b = false := by rfl) : FE X (.Compare a [.In] [b] pos) (fOpR oIn r r') := fe_opR (op_inF hu) ofr_in ha hb hm
theorem ft_in (hu : X.A.units + 65 < cLine) (ha : FR X a r) (hb : FR X b r') (hm : behindInMarks .In b = false := by rfl) : FT X (.Compare a [.In] [b] pos) (fTst (fOpR oIn r r')) := ft_opR (op_inF hu) ofr_in ha hb hm
theorem fe_notIn (hu : X.A.units + 65 < cLine) (ha : FR X a r) (hb : FR X b r') (hm : behindInMarks .NotIn b = false := by rfl) : FE X (.Compare a [.NotIn] [b] pos) (fOpR oNotIn r r') := fe_opR (op_notInF hu) ofr_notIn ha hb hm
theorem ft_notIn (hu : X.A.units + 65 < cLine) (ha : FR X a r) (hb : FR X b r') (hm : behindInMarks .NotIn b = false := by rfl) : FT X (.Compare a [.NotIn] [b] pos) (fTst (fOpR oNotIn r r')) := ft_opR (op_notInF hu) ofr_notIn ha hb hm
/-! ## is True, is False -/
@[simp] def oIsB : PyData → PyData → Option PyData
  | .bool i, .bool j => some (.bool (decide (i = j)))
  | _, _ => none
@[simp] def oNotB : PyData → PyData → Option PyData
  | .bool i, .bool j => some (.bool (!decide (i = j)))
  | _, _ => none
theorem of_isB {K : PySem.W.Frag} : OpF K rIsB oIsB := by
  intro x y d e c q A F G H ρ σ Q R hx hy k
  unfold oIsB at q
  split at q
  · cases q
    cases hx
    cases hy
    exact ⟨_, _, rfl, rfl, k _ G H (Same.refl G) R (.bl _)⟩
  · cases q
theorem of_notB {K : PySem.W.Frag} : OpF K rNotB oNotB := by
  intro x y d e c q A F G H ρ σ Q R hx hy k
  unfold oNotB at q
  split at q
  · cases q
    cases hx
    cases hy
    exact ⟨_, _, rfl, rfl, k _ G H (Same.refl G) R (.bl _)⟩
  · cases q
theorem fe_isB (ha : FE X a f) (hb : FE X b g) : FE X (.Compare a [.Is] [b] pos) (fOp oIsB f g) := fe_cmp op_isBl of_isB ha hb (nobehind _ (by decide) (by decide))
theorem fe_notB (ha : FE X a f) (hb : FE X b g) : FE X (.Compare a [.IsNot] [b] pos) (fOp oNotB f g) := fe_cmp op_notBl of_notB ha hb (nobehind _ (by decide) (by decide))
theorem ft_isB (ha : FE X a f) (hb : FE X b g) : FT X (.Compare a [.Is] [b] pos) (fTst (fOp oIsB f g)) := ft_cmp op_isBl of_isB ha hb (nobehind _ (by decide) (by decide))
theorem ft_notB (ha : FE X a f) (hb : FE X b g) : FT X (.Compare a [.IsNot] [b] pos) (fTst (fOp oNotB f g)) := ft_cmp op_notBl of_notB ha hb (nobehind _ (by decide) (by decide))
/-! ## a < b < c -/
@[simp] def fChain (o o' : PyData → PyData → Option PyData) (f g h : EF) : EF := fun ρ => bnd (f ρ) fun x ρ1 => bnd (g ρ1) fun y ρ2 => match o x y with
  | some (.bool true) => bnd (h ρ2) fun z ρ3 => ret ρ3 (o' y z)
  | some (.bool false) => some (.bool false, ρ2)
  | _ => none
theorem chn {ta tb tc : TE} {r1 r2 : R2} {o o' : PyData → PyData → Option PyData} (ho : OpF X.K r1 o) (ho' : OpF X.K r2 o')
    (ha : ∀ ρ d ρ', f ρ = some (d, ρ') → ∀ A F G H σ Q, Rel X.K A F G H ρ σ → (∀ x G' H', Same G G' → Rel X.K A F G' H' ρ' σ → Dq X.K G' x d → Q x H') → ta σ H Q)
    (hb : ∀ ρ d ρ', g ρ = some (d, ρ') → ∀ A F G H σ Q, Rel X.K A F G H ρ σ → (∀ x G' H', Same G G' → Rel X.K A F G' H' ρ' σ → Dq X.K G' x d → Q x H') → tb σ H Q)
    (hc : ∀ ρ d ρ', h ρ = some (d, ρ') → ∀ A F G H σ Q, Rel X.K A F G H ρ σ → (∀ x G' H', Same G G' → Rel X.K A F G' H' ρ' σ → Dq X.K G' x d → Q x H') → tc σ H Q) :
    ∀ ρ d ρ', fChain o o' f g h ρ = some (d, ρ') → ∀ A F G H σ Q, Rel X.K A F G H ρ σ → (∀ x G' H', Same G G' → Rel X.K A F G' H' ρ' σ → Dq X.K G' x d → Q x H') → tChain r1 r2 ta tb tc σ H Q := by
  intro ρ d ρ' h A F G H σ Q R k
  obtain ⟨x, ρ1, h1, h2⟩ := bnd_some h
  obtain ⟨y, ρ2, h3, h4⟩ := bnd_some h2
  refine ha ρ x ρ1 h1 A F G H σ _ R fun u G1 H1 s1 R1 d1 => ?_
  refine hb ρ1 y _ h3 A F G1 H1 σ _ R1 fun v G2 H2 s2 R2 d2 => ?_
  split at h4
  · rename_i h5
    refine ho u v x y _ h5 A F G2 H2 _ σ _ R2 (d1.up s2) d2 fun z G3 H3 s3 R3 d3 => ?_
    cases d3
    refine ⟨true, rfl, ?_⟩
    rw [if_pos rfl]
    obtain ⟨z, ρ3, h6, h7⟩ := bnd_some h4
    obtain ⟨h8, rfl⟩ := ret_some h7
    refine hc ρ2 z _ h6 A F G3 H3 σ _ R3 fun w G4 H4 s4 R4 d4 => ?_
    exact ho' v w y z d h8 A F G4 H4 _ σ Q R4 ((d2.up s3).up s4) d4 fun z G5 H5 s5 R5 d5 => k z G5 H5 ((((s1.trans s2).trans s3).trans s4).trans s5) R5 d5
  · rename_i h5
    cases h4
    refine ho u v x y _ h5 A F G2 H2 _ σ _ R2 (d1.up s2) d2 fun z G3 H3 s3 R3 d3 => ?_
    cases d3
    refine ⟨false, rfl, ?_⟩
    rw [if_neg (by decide)]
    exact k _ G3 H3 ((s1.trans s2).trans s3) R3 (.bl false)
  · cases h4
theorem fe_chain {op op' : CmpOp} {r1 r2 : R2} {o o' : PyData → PyData → Option PyData} (ho : OpR X (compareOp op) r1) (hf : OpF X.K r1 o) (ho' : OpR X (compareOp op') r2) (hf' : OpF X.K r2 o') (ha : FE X a f) (hb : FE X b g) (hc : FE X c h)
    (hm : lastMarks [op, op'] [b, c] = false := by with_unfolding_all rfl) : FE X (.Compare a [op, op'] [b, c] pos) (fChain o o' f g h) := by
  obtain ⟨ta, pa, qa⟩ := ha
  obtain ⟨tb, pb, qb⟩ := hb
  obtain ⟨tc, pc, qc⟩ := hc
  exact ⟨_, pe_chain ho ho' pa pb pc hm, chn hf hf' qa qb qc⟩
theorem ft_chain {op op' : CmpOp} {r1 r2 : R2} {o o' : PyData → PyData → Option PyData} (ho : OpR X (compareOp op) r1) (hf : OpF X.K r1 o) (ho' : OpR X (compareOp op') r2) (hf' : OpF X.K r2 o') (ha : FE X a f) (hb : FE X b g) (hc : FE X c h)
    (hm : lastMarks [op, op'] [b, c] = false := by with_unfolding_all rfl) : FT X (.Compare a [op, op'] [b, c] pos) (fTst (fChain o o' f g h)) := by
  obtain ⟨ta, pa, qa⟩ := ha
  obtain ⟨tb, pb, qb⟩ := hb
  obtain ⟨tc, pc, qc⟩ := hc
  exact ⟨_, pt_chain ho ho' pa pb pc hm, tst (chn hf hf' qa qb qc)⟩
theorem of_lt {K : PySem.W.Frag} : OpF K (rI0 fun i j => .bl (decide (i < j))) oLt := of_I0 fun i j _ => .bl _
theorem of_le {K : PySem.W.Frag} : OpF K (rI0 fun i j => .bl (decide (i ≤ j))) oLe := of_I0 fun i j _ => .bl _
theorem of_gt {K : PySem.W.Frag} : OpF K (rI0 fun i j => .bl (decide (j < i))) oGt := of_I0 fun i j _ => .bl _
theorem of_ge {K : PySem.W.Frag} : OpF K (rI0 fun i j => .bl (decide (j ≤ i))) oGe := of_I0 fun i j _ => .bl _
end
end Fe
namespace Fe
open PySem PySem.Spec PyProof.Rows L2
/-- the pick with other numbers that keeps mixed -/
def pickC (k1 k2 : Int) (s : Src) (m : Int) : Int × Src :=
  if m < 2 then (0, s) else if 1 < (popA s).1 then ((popA s).1 % m, ⟨(popA s).2, (popA s).1 / m, s.mixed, s.turn⟩) else (turnA s k1 k2 / 16 % m, ⟨(popA s).2, (popA s).1, s.mixed, s.turn + 1⟩)
theorem pickC_rng (k1 k2 : Int) (s : Src) {m : Int} (h : 0 < m) : 0 ≤ (pickC k1 k2 s m).1 ∧ (pickC k1 k2 s m).1 < m := by
  unfold pickC
  split
  · exact ⟨Int.le_refl 0, h⟩
  · split <;> exact ⟨Int.emod_nonneg _ (by omega), Int.emod_lt_of_pos _ h⟩
theorem int_at {ns : List Int} {i : Nat} {y : V} (h : (ns.map V.int)[i]? = some y) : ∃ z, y = V.int z := by
  rw [List.getElem?_map] at h
  cases e : ns[i]? with
  | none =>
    rw [e] at h
    cases h
  | some z =>
    rw [e] at h
    exact ⟨z, (Option.some.inj h).symm⟩
/-! ## a, b = x, y with lists of their own -/
section
variable {X : Cx} {a b : Expr} {f g : EF} {l m : LF}
@[simp] def sParO1 (i j : Nat) (l : LF) (g : EF) : SF := fun ρ => bnd (l ρ) fun x ρ1 => bnd (g ρ1) fun y ρ2 => some (.nx ((ρ2.set i (.own x)).set j (.v y)))
@[simp] def sParO2 (i j : Nat) (f : EF) (m : LF) : SF := fun ρ => bnd (f ρ) fun x ρ1 => bnd (m ρ1) fun y ρ2 => some (.nx ((ρ2.set i (.v x)).set j (.own y)))
@[simp] def sParO3 (i j : Nat) (l m : LF) : SF := fun ρ => bnd (l ρ) fun x ρ1 => bnd (m ρ1) fun y ρ2 => some (.nx ((ρ2.set j (.own y)).set i (.own x)))
theorem fs_parO1 {st : Stmt} {i j : Nat} (mk : ∀ t u, PE X a t → PE X b u → PS X st (tPar i j (tCons t (tCons u tNil)))) (ha : FL X a l) (hb : FE X b g) : FS X st (sParO1 i j l g) := by
  obtain ⟨ta, pa, qa⟩ := ha
  obtain ⟨tb, pb, qb⟩ := hb
  refine ⟨_, mk ta tb pa pb, fun ρ o h A F G H σ D R k => ?_⟩
  obtain ⟨d, ρ1, h3, h4⟩ := bnd_some h
  obtain ⟨d2, ρ2, h5, h6⟩ := bnd_some h4
  cases h6
  refine qa ρ d ρ1 h3 A F G H σ _ R fun u xs G1 H1 fu s1 r1 z1 _ => qb ρ1 d2 ρ2 h5 A _ G1 H1 σ _ r1 fun v G2 H2 s2 r2 z2 => ⟨_, v, rfl, ?_⟩
  exact k _ G2 H2 (s1.trans s2) ((r2.putOwn fu i (z1.up s2)).putV j z2)
theorem fs_parO2 {st : Stmt} {i j : Nat} (mk : ∀ t u, PE X a t → PE X b u → PS X st (tPar i j (tCons t (tCons u tNil)))) (ha : FE X a f) (hb : FL X b m) : FS X st (sParO2 i j f m) := by
  obtain ⟨ta, pa, qa⟩ := ha
  obtain ⟨tb, pb, qb⟩ := hb
  refine ⟨_, mk ta tb pa pb, fun ρ o h A F G H σ D R k => ?_⟩
  obtain ⟨d, ρ1, h3, h4⟩ := bnd_some h
  obtain ⟨d2, ρ2, h5, h6⟩ := bnd_some h4
  cases h6
  refine qa ρ d ρ1 h3 A F G H σ _ R fun u G1 H1 s1 r1 z1 => qb ρ1 d2 ρ2 h5 A F G1 H1 σ _ r1 fun v xs G2 H2 fv s2 r2 z2 _ => ⟨u, _, rfl, ?_⟩
  exact k _ G2 H2 (s1.trans s2) ((r2.putV i (z1.up s2)).putOwn fv j z2)
theorem fs_parO3 {st : Stmt} {i j : Nat} (mk : ∀ t u, PE X a t → PE X b u → PS X st (tPar i j (tCons t (tCons u tNil)))) (ha : FL X a l) (hb : FL X b m) (hij : i ≠ j := by decide) : FS X st (sParO3 i j l m) := by
  obtain ⟨ta, pa, qa⟩ := ha
  obtain ⟨tb, pb, qb⟩ := hb
  refine ⟨_, mk ta tb pa pb, fun ρ o h A F G H σ D R k => ?_⟩
  obtain ⟨d, ρ1, h3, h4⟩ := bnd_some h
  obtain ⟨d2, ρ2, h5, h6⟩ := bnd_some h4
  cases h6
  refine qa ρ d ρ1 h3 A F G H σ _ R fun u xs G1 H1 fu s1 r1 z1 _ => qb ρ1 d2 ρ2 h5 A _ G1 H1 σ _ r1 fun v ys G2 H2 fv s2 r2 z2 _ => ⟨_, _, rfl, ?_⟩
  have z := (r2.putOwn fv j z2).putOwn fu i (z1.up s2)
  rw [List.set_comm _ _ (Ne.symm hij), List.set_comm _ _ (Ne.symm hij)] at z
  rw [List.set_comm _ _ (Ne.symm hij)] at k
  exact k _ G2 H2 (s1.trans s2) z
end
theorem _root_.L2.Room.units65 {k : Nat} {A : Around} (r : Room k A) : A.units + 65 < cLine := by
  have := r.un
  omega
theorem lk_rel {env : Env} {x : Str} : ∀ {names : List (Str × NameKind)} {k : NameKind}, names.lookup x = some k → k = .cell ∨ k = .free →
    (names.map fun (n, k) => if (k == NameKind.free && env.scope.kind == .function && env.kindOf n == some .cell) then (n, NameKind.cell) else (n, k)).lookup x = some .cell ∨
    (names.map fun (n, k) => if (k == NameKind.free && env.scope.kind == .function && env.kindOf n == some .cell) then (n, NameKind.cell) else (n, k)).lookup x = some .free
  | [], _, h, _ => by cases h
  | (n, j) :: r, k, h, hk => by
    by_cases hx : x = n
    · subst hx
      rw [List.lookup_cons_self] at h
      cases h
      rw [List.map_cons]
      dsimp only
      split
      · exact Or.inl List.lookup_cons_self
      · rcases hk with rfl | rfl
        · exact Or.inl List.lookup_cons_self
        · exact Or.inr List.lookup_cons_self
    · have hb : (x == n) = false := by simpa using hx
      rw [List.lookup_cons, hb] at h
      have ih := lk_rel (env := env) h hk
      rw [List.map_cons]
      dsimp only
      split <;> (rw [List.lookup_cons, hb]; exact ih)
theorem blkOk_rel {N : List Str} {sc scope : Scope} {env : Env} {own : List (Str × Nat)} (h : BlkOk N sc scope own) : BlkOk N (relabel sc env) scope own :=
  ⟨h.kind, h.uniq, h.ix, fun y hy e => by
    rcases h.free y hy e with z | z
    · exact lk_rel z (Or.inl rfl)
    · exact lk_rel z (Or.inr rfl), h.own⟩
/-! ## (a, b) = (x, y), the names cells -/
section
variable {X : Cx} {a b : Expr} {f g : EF} {l m : LF}
abbrev gTwo (K : PySem.W.Frag) (i j : Nat) : TG := gTup K 2 (gCons (gName i) (gCons (gName j) gNil))
theorem two_tg {K : PySem.W.Frag} {i j : Nat} {u v : V} {σ : L2.St} {H : Hp} {Q : L2.St → Hp → Prop} (h : ∀ p, H p = none → Q ((σ.set i (some u)).set j (some v)) (upd H p (.tup [u, v]))) :
    ([u, v].length ≤ sizeLine ∧ ∀ p, H p = none → gTwo K i j (.ref p) σ (upd H p (.tup [u, v])) Q) :=
  ⟨by show 2 ≤ sizeLine; decide, fun p hp => ⟨p, _, rfl, Or.inl (Or.inl upd_same), rfl, _, _, rfl, _, _, rfl, rfl, h p hp⟩⟩
theorem fs_tgO1 {st : Stmt} {i j : Nat} (mk : ∀ t u, PE X a t → PE X b u → PS X st (tAsg (tTup (tCons t (tCons u tNil))) (gTwo X.K i j))) (ha : FL X a l) (hb : FE X b g) : FS X st (sParO1 i j l g) := by
  obtain ⟨ta, pa, qa⟩ := ha
  obtain ⟨tb, pb, qb⟩ := hb
  refine ⟨_, mk ta tb pa pb, fun ρ o h A F G H σ D R k => ?_⟩
  obtain ⟨d, ρ1, h3, h4⟩ := bnd_some h
  obtain ⟨d2, ρ2, h5, h6⟩ := bnd_some h4
  cases h6
  refine qa ρ d ρ1 h3 A F G H σ _ R fun u xs G1 H1 fu s1 r1 z1 _ => qb ρ1 d2 ρ2 h5 A _ G1 H1 σ _ r1 fun v G2 H2 s2 r2 z2 => two_tg fun p hp => ?_
  have r3 := (r2.newF (o := .tup [.ref u, v]) hp).dropF (none_of r2.fh hp)
  exact k _ G2 _ (s1.trans s2) ((r3.putOwn fu i (z1.up s2)).putV j z2)
theorem fs_tgO2 {st : Stmt} {i j : Nat} (mk : ∀ t u, PE X a t → PE X b u → PS X st (tAsg (tTup (tCons t (tCons u tNil))) (gTwo X.K i j))) (ha : FE X a f) (hb : FL X b m) : FS X st (sParO2 i j f m) := by
  obtain ⟨ta, pa, qa⟩ := ha
  obtain ⟨tb, pb, qb⟩ := hb
  refine ⟨_, mk ta tb pa pb, fun ρ o h A F G H σ D R k => ?_⟩
  obtain ⟨d, ρ1, h3, h4⟩ := bnd_some h
  obtain ⟨d2, ρ2, h5, h6⟩ := bnd_some h4
  cases h6
  refine qa ρ d ρ1 h3 A F G H σ _ R fun u G1 H1 s1 r1 z1 => qb ρ1 d2 ρ2 h5 A F G1 H1 σ _ r1 fun v xs G2 H2 fv s2 r2 z2 _ => two_tg fun p hp => ?_
  have f0 := none_of r2.fh hp
  have r3 := (r2.newF (o := .tup [u, .ref v]) hp).dropF f0
  exact k _ G2 _ (s1.trans s2) ((r3.putV i (z1.up s2)).putOwn fv j z2)
theorem fs_tgO3 {st : Stmt} {i j : Nat} (mk : ∀ t u, PE X a t → PE X b u → PS X st (tAsg (tTup (tCons t (tCons u tNil))) (gTwo X.K i j))) (ha : FL X a l) (hb : FL X b m) (hij : i ≠ j := by decide) : FS X st (sParO3 i j l m) := by
  obtain ⟨ta, pa, qa⟩ := ha
  obtain ⟨tb, pb, qb⟩ := hb
  refine ⟨_, mk ta tb pa pb, fun ρ o h A F G H σ D R k => ?_⟩
  obtain ⟨d, ρ1, h3, h4⟩ := bnd_some h
  obtain ⟨d2, ρ2, h5, h6⟩ := bnd_some h4
  cases h6
  refine qa ρ d ρ1 h3 A F G H σ _ R fun u xs G1 H1 fu s1 r1 z1 _ => qb ρ1 d2 ρ2 h5 A _ G1 H1 σ _ r1 fun v ys G2 H2 fv s2 r2 z2 _ => two_tg fun p hp => ?_
  have r3 := (r2.newF (o := .tup [.ref u, .ref v]) hp).dropF (none_of r2.fh hp)
  have z := (r3.putOwn fv j z2).putOwn fu i (z1.up s2)
  rw [List.set_comm _ _ (Ne.symm hij), List.set_comm _ _ (Ne.symm hij)] at z
  rw [List.set_comm _ _ (Ne.symm hij)] at k
  exact k _ G2 _ (s1.trans s2) z
end
end Fe
namespace Fe
open PySem
/-! ## small numbers -/
abbrev Sm (i : Int) : Prop := i.natAbs.log2 < 1000
def smB (i : Int) : Bool := Nat.blt i.natAbs.log2 1000
theorem smB_ok {i : Int} (h : smB i = true) : Sm i := Nat.le_of_ble_eq_true h
theorem Sm_mul {i j : Int} (h : Sm i) (k : Sm j) : mulOk i j = true := mulOk_of (a := 1000) (b := 1000) (Nat.le_of_lt h) (Nat.le_of_lt k) (by decide)
theorem Sm_of {i : Int} (h1 : -(2 ^ 200) < i) (h2 : i < 2 ^ 200) : Sm i := by
  have h : i.natAbs < 2 ^ 200 := by omega
  exact Nat.lt_trans (log2_lt (by decide) h) (by decide)
theorem iat_sm {row : List Int} (h : ∀ x ∈ row, Sm x) (i : Nat) : Sm (iat row i) := by
  cases e : row[i]? with
  | none =>
    unfold iat
    rw [List.getD_eq_getElem?_getD, e]
    decide
  | some v =>
    rw [iat_some e]
    exact h v (List.mem_of_getElem? e)
theorem iat_smB {row : List Int} (h : row.all smB = true) (i : Nat) : Sm (iat row i) := iat_sm (fun x hx => smB_ok (List.all_eq_true.mp h x hx)) i
theorem repOk_int {i : Int} (h : i.natAbs.log2 < 1900) : repOk (.int i) = true := by
  have h1 : plainD (.int i) = true := Nat.ble_eq_true_of_le (by omega)
  have h2 : Nat.ble (shB (.int i)) 16777216 = true := Nat.ble_eq_true_of_le (by show i.natAbs.log2 + 3 ≤ _; omega)
  unfold repOk
  rw [h1, h2]
  rfl
theorem repI {i : Int} (h : Sm i) : (sm (.int i) (.int i) && repOk (.int i)) = true := by
  rw [sm_rfl _ (repOk_ok (repOk_int (by omega))).1, repOk_int (by omega)]
  rfl
theorem repT {d : PyData} (h : repOk d = true) : (sm d d && repOk d) = true := by
  rw [sm_rfl _ (repOk_ok h).1, h]
  rfl
/-! ## ranges of ints -/
def irg (lo : Int) (n : Nat) : List Int := (List.range n).map fun k => lo + (k : Nat)
def irgC (lo c : Int) (n : Nat) : List Int := (List.range n).map fun k => lo + (k : Nat) * c
theorem rngL_eq (lo : Int) (n : Nat) : rngL lo n = (irg lo n).map .int := by
  unfold rngL irg
  rw [List.map_map]
  rfl
theorem rngC_eq (lo c : Int) (n : Nat) : rngC lo c n = (irgC lo c n).map .int := by
  unfold rngC irgC
  rw [List.map_map]
  rfl
theorem mem_irg {lo i : Int} {n : Nat} (h : i ∈ irg lo n) : ∃ k : Nat, k < n ∧ i = lo + (k : Nat) := by
  unfold irg at h
  obtain ⟨k, hk, rfl⟩ := List.mem_map.mp h
  exact ⟨k, List.mem_range.mp hk, rfl⟩
theorem mem_irgC {lo c i : Int} {n : Nat} (h : i ∈ irgC lo c n) : ∃ k : Nat, k < n ∧ i = lo + (k : Nat) * c := by
  unfold irgC at h
  obtain ⟨k, hk, rfl⟩ := List.mem_map.mp h
  exact ⟨k, List.mem_range.mp hk, rfl⟩
theorem irg_len {lo : Int} {n : Nat} : (irg lo n).length = n := by simp [irg]
theorem ble_of {a b : Nat} (h : a ≤ b) : Nat.ble a b = true := Nat.ble_eq_true_of_le h
theorem rngL_ble {lo : Int} {n : Nat} (h : n ≤ 16777216) : Nat.ble (rngL lo n).length 16777216 = true := by
  rw [rngL_len]
  exact ble_of h
theorem rngC_ble {lo c : Int} {n : Nat} (h : n ≤ 16777216) : Nat.ble (rngC lo c n).length 16777216 = true := by
  rw [show (rngC lo c n).length = n by simp [rngC]]
  exact ble_of h
/-! ## comprehensions over ints -/
theorem wipe_wipe : ∀ (vs : List Nat) (ρ : En), wipeE (wipeE ρ vs) vs = wipeE ρ vs
  | [], ρ => rfl
  | v :: vs, ρ => by
    have key : ∀ (us : List Nat) (ρ : En), wipeE (ρ.set v .un) us = (wipeE ρ us).set v .un := by
      intro us
      induction us with
      | nil => intro ρ; rfl
      | cons u us ih =>
        intro ρ
        show (wipeE (ρ.set v .un) us).set u .un = ((wipeE ρ us).set u .un).set v .un
        rw [ih]
        by_cases h : u = v
        · rw [h]
        · exact List.set_comm _ _ (fun e => h e.symm)
    show (wipeE ((wipeE ρ vs).set v .un) vs).set v .un = (wipeE ρ vs).set v .un
    rw [key, wipe_wipe vs ρ, List.set_set, ]
theorem cl_gen {α : Type} (en : α → PyData) {vs : List Nat} {g : PyData → En → Option En} {c : BF} {e : EF} {ρ : En} (p : α → Bool) (f : α → PyData) : ∀ (ns : List α), (∀ n ∈ ns, ∃ ρ1 ρ2, g (en n) (wipeE ρ vs) = some ρ1 ∧ c ρ1 = some (p n, ρ2) ∧ (p n = true → ∃ ρ3, e ρ2 = some (f n, ρ3) ∧ wipeE ρ3 vs = wipeE ρ vs) ∧ (p n = false → wipeE ρ2 vs = wipeE ρ vs)) → ∀ ρ0, wipeE ρ0 vs = wipeE ρ vs →
    cl vs g c e (ns.map en) ρ0 = some ((ns.filter p).map f, wipeE ρ vs)
  | [], _, ρ0, h0 => by
    show some ([], wipeE ρ0 vs) = _
    rw [h0]
    rfl
  | n :: r, h, ρ0, h0 => by
    obtain ⟨ρ1, ρ2, h1, h2, h3, h4⟩ := h n List.mem_cons_self
    have ih := cl_gen en (vs := vs) (g := g) (c := c) (e := e) (ρ := ρ) p f r fun d hd => h d (List.mem_cons_of_mem _ hd)
    show (match g (en n) (wipeE ρ0 vs) with | none => none | some ρ1 => bnd (c ρ1) fun k ρ2 => if k = true then bnd (e ρ2) fun y ρ3 => bnd (cl vs g c e (r.map en) ρ3) fun ys ρ4 => some (y :: ys, ρ4) else cl vs g c e (r.map en) ρ2) = _
    rw [h0, h1]
    cases hp : p n with
    | true =>
      obtain ⟨ρ3, h5, h6⟩ := h3 hp
      simp only [bnd, h2, hp, h5, ih ρ3 h6, if_true, List.filter_cons, List.map_cons]
    | false =>
      simp only [bnd, h2, hp, ih ρ2 (h4 hp), Bool.false_eq_true, if_false, List.filter_cons]
/-- ints to ints, with a test -/
theorem cl_fI {vs : List Nat} {g : PyData → En → Option En} {c : BF} {e : EF} {ρ : En} (p : Int → Bool) (f : Int → Int) {ns : List Int} (h : ∀ n ∈ ns, ∃ ρ1, g (.int n) (wipeE ρ vs) = some ρ1 ∧ c ρ1 = some (p n, ρ1) ∧ (p n = true → e ρ1 = some (.int (f n), ρ1)) ∧ wipeE ρ1 vs = wipeE ρ vs) :
    cl vs g c e (ns.map .int) ρ = some (((ns.filter p).map f).map .int, wipeE ρ vs) := by
  rw [cl_gen .int (ρ := ρ) p (fun n => .int (f n)) ns (fun n hn => ?_) ρ rfl, List.map_map]
  · rfl
  · obtain ⟨ρ1, h1, h2, h3, h4⟩ := h n hn
    exact ⟨ρ1, ρ1, h1, h2, fun hp => ⟨ρ1, h3 hp, h4⟩, fun _ => h4⟩
/-- ints to ints, no test -/
theorem cl_mI {vs : List Nat} {g : PyData → En → Option En} {e : EF} {ρ : En} (f : Int → Int) {ns : List Int} (h : ∀ n ∈ ns, ∃ ρ1 ρ2, g (.int n) (wipeE ρ vs) = some ρ1 ∧ e ρ1 = some (.int (f n), ρ2) ∧ wipeE ρ2 vs = wipeE ρ vs) :
    cl vs g fYes e (ns.map .int) ρ = some ((ns.map f).map .int, wipeE ρ vs) := by
  rw [cl_gen .int (ρ := ρ) (fun _ => true) (fun n => .int (f n)) ns (fun n hn => ?_) ρ rfl, List.filter_eq_self.mpr (fun _ _ => rfl), List.map_map]
  · rfl
  · obtain ⟨ρ1, ρ2, h1, h2, h3⟩ := h n hn
    exact ⟨ρ1, ρ1, h1, rfl, fun _ => ⟨ρ2, h2, h3⟩, fun z => by cases z⟩
theorem map_sq_eq {α β : Type} {f g : α → β} {l : List α} (h : ∀ x ∈ l, f x = g x) : l.map f = l.map g := List.map_congr_left h
/-! ## a function's value against a table -/
def isI (o : Option PyData) (v : Int) : Bool := match o with
  | some (.int i) => decide (i = v)
  | _ => false
theorem isI_ok {o : Option PyData} {v : Int} (h : isI o v = true) : o = some (.int v) := by
  unfold isI at h
  split at h
  · rw [of_decide_eq_true h]
  · cases h
theorem all_range {n : Nat} {p : Nat → Bool} (h : (List.range n).all p = true) {i : Nat} (hi : i < n) : p i = true := List.all_eq_true.mp h i (List.mem_range.mpr hi)
def intsB : List PyData → List Int → Bool
  | [], [] => true
  | .int i :: r, v :: l => decide (i = v) && intsB r l
  | _, _ => false
theorem intsB_ok : ∀ {ds : List PyData} {l : List Int}, intsB ds l = true → ds = l.map .int
  | [], [], _ => rfl
  | .int i :: r, v :: l, h => by
    have h' := Bool.and_eq_true_iff.mp h
    rw [of_decide_eq_true h'.1, intsB_ok h'.2]
    rfl
  | [], _ :: _, h => by cases h
  | .none :: _, _, h => by cases h
  | .bool _ :: _, _, h => by cases h
  | .str _ :: _, _, h => by cases h
  | .list _ :: _, _, h => by cases h
  | .tuple _ :: _, _, h => by cases h
  | .dict _ :: _, _, h => by cases h
  | .int _ :: _, [], h => by cases h
def isTI (o : Option PyData) (l : List Int) : Bool := match o with
  | some (.tuple ds) => intsB ds l
  | _ => false
theorem isTI_ok {o : Option PyData} {l : List Int} (h : isTI o l = true) : o = some (.tuple (l.map .int)) := by
  unfold isTI at h
  split at h
  · rw [intsB_ok h]
  · cases h
def isLI (o : Option PyData) (l : List Int) : Bool := match o with
  | some (.list ds) => intsB ds l
  | _ => false
theorem isLI_ok {o : Option PyData} {l : List Int} (h : isLI o l = true) : o = some (.list (l.map .int)) := by
  unfold isLI at h
  split at h
  · rw [intsB_ok h]
  · cases h
theorem pick_at {p : Src → Int → Int × Src} (hr : ∀ (s : Src) {m : Int}, 0 < m → 0 ≤ (p s m).1 ∧ (p s m).1 < m) (s : Src) {m : Int} (h : 0 < m) (h2 : m.natAbs.log2 < 9000) : ∃ (k : Nat) (s' : Src), (k : Int) < m ∧ fPick p s [.int m] = some (.int (k : Nat), s') := by
  obtain ⟨h3, h4⟩ := hr s h
  refine ⟨(p s m).1.toNat, (p s m).2, by omega, ?_⟩
  show (if Nat.blt m.natAbs.log2 9000 = true then some (PyData.int (p s m).1, (p s m).2) else none) = _
  rw [if_pos (show Nat.blt m.natAbs.log2 9000 = true from Nat.ble_eq_true_of_le h2), Int.toNat_of_nonneg h3]
end Fe
namespace Fe
open PySem
theorem eqvAll_ints : ∀ l m : List Int, PyData.eqvAll (l.map .int) (m.map .int) = decide (l = m)
  | [], [] => rfl
  | [], _ :: _ => rfl
  | _ :: _, [] => rfl
  | a :: l, b :: m => by
    rw [List.map_cons, List.map_cons, PyData.eqvAll, eqvAll_ints l m]
    show (a == b && decide (l = m)) = _
    by_cases h : a = b
    · by_cases h2 : l = m
      · simp [h, h2]
      · simp [h, h2]
    · simp [h]
theorem depthAll_ints : ∀ l : List Int, PyData.depthAll (l.map .int) = 0
  | [] => rfl
  | a :: l => by
    rw [List.map_cons, PyData.depthAll, depthAll_ints l]
    rfl
theorem canLayAll_ints : ∀ l : List Int, PyData.canLayAll0 (l.map .int) = true
  | [] => rfl
  | a :: l => by
    rw [List.map_cons, PyData.canLayAll0, canLayAll_ints l]
    rfl
theorem shaped_lI (l : List Int) : SeqAt.shaped (.list (l.map .int)) = true := by
  unfold SeqAt.shaped
  rw [PyData.canLay0, canLayAll_ints, PyData.depth, depthAll_ints]
  rfl
theorem shaped_tI (l : List Int) : SeqAt.shaped (.tuple (l.map .int)) = true := by
  unfold SeqAt.shaped
  rw [PyData.canLay0, canLayAll_ints, PyData.depth, depthAll_ints]
  rfl
theorem oNe_lI (l m : List Int) : oNe (.list (l.map .int)) (.list (m.map .int)) = some (.bool (!decide (l = m))) := by
  unfold oNe
  rw [shaped_lI, shaped_lI]
  show some (PyData.bool (!PyData.eqv (.list (l.map .int)) (.list (m.map .int)))) = _
  rw [PyData.eqv, eqvAll_ints]
theorem oEq_lI (l m : List Int) : oEq (.list (l.map .int)) (.list (m.map .int)) = some (.bool (decide (l = m))) := by
  unfold oEq
  rw [shaped_lI, shaped_lI]
  show some (PyData.bool (PyData.eqv (.list (l.map .int)) (.list (m.map .int)))) = _
  rw [PyData.eqv, eqvAll_ints]
theorem oNe_tI (l m : List Int) : oNe (.tuple (l.map .int)) (.tuple (m.map .int)) = some (.bool (!decide (l = m))) := by
  unfold oNe
  rw [shaped_tI, shaped_tI]
  show some (PyData.bool (!PyData.eqv (.tuple (l.map .int)) (.tuple (m.map .int)))) = _
  rw [PyData.eqv, eqvAll_ints]
theorem oEq_tI (l m : List Int) : oEq (.tuple (l.map .int)) (.tuple (m.map .int)) = some (.bool (decide (l = m))) := by
  unfold oEq
  rw [shaped_tI, shaped_tI]
  show some (PyData.bool (PyData.eqv (.tuple (l.map .int)) (.tuple (m.map .int)))) = _
  rw [PyData.eqv, eqvAll_ints]
/-- a turn, its first statement apart -/
theorem lp1_seq {g : PyData → En → Option En} {b a r : SF} {d : PyData} {ρ ρ1 ρ2 ρ3 : En} (hb : b = sSeq a r) (h1 : g d ρ = some ρ1) (h2 : a ρ1 = some (.nx ρ2)) (h3 : r ρ2 = some (.nx ρ3)) : lp1 g b d ρ = some ρ3 := by
  subst hb
  have h4 : sSeq a r ρ1 = some (.nx ρ3) := by
    unfold sSeq sThen
    rw [h2]
    exact h3
  unfold lp1
  rw [h1]
  dsimp only
  rw [h4]
theorem sSeq_nx {a r : SF} {ρ ρ2 : En} {o : Option Out} (h2 : a ρ = some (.nx ρ2)) (h3 : r ρ2 = o) : sSeq a r ρ = o := by
  unfold sSeq sThen
  rw [h2]
  exact h3
end Fe
namespace K29
open PySem PySem.Spec PyProof.Rows L2 Fe
def top (i : Nat) : Stmt := PySem.Challenge.pw_wholefours_k29_whole_eight_squares_and_o.main.body.getD i (.Pass ⟨0, 0, 0, 0⟩)
def fuel : Nat := 1048576
theorem sc0 : FnScope ["x", "a"] ["x"] (defScope (top 1)) := ⟨rfl, rfl, rfl, by decide +kernel, rfl, by decide +kernel, by decide +kernel⟩
def e_four_norm_0 : EF := (fOp oMul (fVar 1) (fVar 1))
def b_four_norm : SF := (sRet (fOp oDiv (fR1 oSum (fVal (fAsL (fComp [1] (fSeq (fVar 0)) (gNm 1) fYes e_four_norm_0)))) (fC (.int 4))))
def F_four_norm : List PyData → Option PyData := runF 1 2 b_four_norm
theorem sc1 : FnScope ["n", "low", "high", "middle"] ["n"] (defScope (top 3)) := ⟨rfl, rfl, rfl, by decide +kernel, rfl, by decide +kernel, by decide +kernel⟩
def c_whole_root_0 : BF := (fTst (fOp oGt (fOp oSub (fVar 2) (fVar 1)) (fC (.int 1))))
def b_whole_root_1 : SF := (sSeq (sSet 3 (fOp oDiv (fOp oAdd (fVar 1) (fVar 2)) (fC (.int 2))))
    (sIf (fTst (fOp oLe (fOp oMul (fVar 3) (fVar 3)) (fVar 0))) (sSet 1 (fVar 3)) (sSet 2 (fVar 3))))
def b_whole_root : SF := (sSeq (sPar 1 2 (fC (.int 0)) (fOp oAdd (fVar 0) (fC (.int 1))))
    (sSeq (whl c_whole_root_0 b_whole_root_1 fuel)
    (sRet (fVar 1))))
def F_whole_root : List PyData → Option PyData := runF 1 4 b_whole_root
theorem sc2 : FnScope ["n", "many", "most", "line", "lap", "late", "row", "left", "top", "a"] ["n", "many", "most"] (defScope (top 4)) := ⟨rfl, rfl, rfl, by decide +kernel, rfl, by decide +kernel, by decide +kernel⟩
def b_falling_squares_0 : SF := (sIf (fTst (fOp oGe (fOp oMul (fOp oMul (fOp oSub (fVar 1) (fVar 4)) (fVar 9)) (fVar 9)) (fVar 7))) (sApp 5 (fTup (fCons (fOp oCatT (fVar 6) (fTup (fCons (fVar 9) fNil))) (fCons (fOp oSub (fVar 7) (fOp oMul (fVar 9) (fVar 9))) (fCons (fVar 9) fNil))))) sNil)
def b_falling_squares_1 : SF := (sFor (fRng1 (fCons (fOp oAdd (fOp oMin (fVar 8) (fCall F_whole_root (fCons (fVar 7) fNil))) (fC (.int 1))) fNil)) (gNm 9) b_falling_squares_0)
def b_falling_squares_2 : SF := (sSeq (sOwn 5 (fLst fNil))
    (sSeq (sFor (fSeq (fVar 3)) (gTp 3 (gCons' (gNm 6) (gCons' (gNm 7) (gCons' (gNm 8) gNil')))) b_falling_squares_1)
    (sSet 3 (fAsL (fR1L oList (fRd 5))))))
def c_falling_squares_3 : BF := (fTst (fOp oEq (fVar 7) (fC (.int 0))))
def e_falling_squares_4 : EF := (fVar 6)
def b_falling_squares : SF := (sSeq (sSet 3 (fAsL (fLst (fCons (fTup (fCons (fTup fNil) (fCons (fVar 0) (fCons (fVar 2) fNil)))) fNil))))
    (sSeq (sFor (fRng1 (fCons (fVar 1) fNil)) (gNm 4) b_falling_squares_2)
    (sRet (fAsL (fComp [6, 7, 8] (fSeq (fVar 3)) (gTp 3 (gCons' (gNm 6) (gCons' (gNm 7) (gCons' (gNm 8) gNil')))) c_falling_squares_3 e_falling_squares_4)))))
def F_falling_squares : List PyData → Option PyData := runF 3 10 b_falling_squares
theorem sc3 : FnScope ["n", "a", "left", "b", "some"] ["n"] (defScope (top 5)) := ⟨rfl, rfl, rfl, by decide +kernel, rfl, by decide +kernel, by decide +kernel⟩
def b_any_four_squares_0 : SF := (sSeq (sSet 4 (fCall F_falling_squares (fCons (fOp oSub (fVar 2) (fOp oMul (fVar 3) (fVar 3))) (fCons (fC (.int 2)) (fCons (fVar 3) fNil)))))
    (sIf (fTst (fOp oNe (fVar 4) (fAsL (fLst fNil)))) (sRet (fTup (fCons (fVar 1) (fCons (fVar 3) (fStar (fVal (fIx (fRd 4) (fC (.int 0)))) fNil))))) sNil))
def b_any_four_squares_1 : SF := (sSeq (sSet 2 (fOp oSub (fVar 0) (fOp oMul (fVar 1) (fVar 1))))
    (sFor (fRng3 (fCons (fOp oMin (fVar 1) (fCall F_whole_root (fCons (fVar 2) fNil))) (fCons (fUn oNeg (fC (.int 1))) (fCons (fUn oNeg (fC (.int 1))) fNil)))) (gNm 3) b_any_four_squares_0))
def b_any_four_squares : SF := (sSeq (sFor (fRng3 (fCons (fCall F_whole_root (fCons (fVar 0) fNil)) (fCons (fUn oNeg (fC (.int 1))) (fCons (fUn oNeg (fC (.int 1))) fNil)))) (gNm 1) b_any_four_squares_1)
    (sRet (fC .none)))
def F_any_four_squares : List PyData → Option PyData := runF 1 5 b_any_four_squares
theorem sc4 : FnScope ["n", "d"] ["n"] (defScope (top 6)) := ⟨rfl, rfl, rfl, by decide +kernel, rfl, by decide +kernel, by decide +kernel⟩
def c_odd_divisor_sum_0 : BF := (fTst (fOp oEq (fOp oMod (fVar 0) (fVar 1)) (fC (.int 0))))
def e_odd_divisor_sum_1 : EF := (fVar 1)
def b_odd_divisor_sum : SF := (sRet (fR1 oSum (fVal (fAsL (fComp [1] (fRng3 (fCons (fC (.int 1)) (fCons (fOp oAdd (fVar 0) (fC (.int 1))) (fCons (fC (.int 2)) fNil)))) (gNm 1) c_odd_divisor_sum_0 e_odd_divisor_sum_1)))))
def F_odd_divisor_sum : List PyData → Option PyData := runF 1 2 b_odd_divisor_sum
theorem sc5 : FnScope ["n"] ["n"] (defScope (top 7)) := ⟨rfl, rfl, rfl, by decide +kernel, rfl, by decide +kernel, by decide +kernel⟩
def b_count_fours : SF := (sRet (fOp oMul (fC (.int 24)) (fCall F_odd_divisor_sum (fCons (fVar 0) fNil))))
def F_count_fours : List PyData → Option PyData := runF 1 1 b_count_fours
theorem sc6 : FnScope ["n", "d"] ["n"] (defScope (top 8)) := ⟨rfl, rfl, rfl, by decide +kernel, rfl, by decide +kernel, by decide +kernel⟩
def c_count_four_squares_0 : BF := (fAnd (fTst (fOp oEq (fOp oMod (fVar 0) (fVar 1)) (fC (.int 0)))) (fTst (fOp oNe (fOp oMod (fVar 1) (fC (.int 4))) (fC (.int 0)))))
def e_count_four_squares_1 : EF := (fVar 1)
def b_count_four_squares : SF := (sRet (fOp oMul (fC (.int 8)) (fR1 oSum (fVal (fAsL (fComp [1] (fRng2 (fCons (fC (.int 1)) (fCons (fOp oAdd (fVar 0) (fC (.int 1))) fNil))) (gNm 1) c_count_four_squares_0 e_count_four_squares_1))))))
def F_count_four_squares : List PyData → Option PyData := runF 1 2 b_count_four_squares
theorem sc7 : FnScope ["n", "found", "p", "k"] ["n"] (defScope (top 10)) := ⟨rfl, rfl, rfl, by decide +kernel, rfl, by decide +kernel, by decide +kernel⟩
def c_prime_powers_in_0 : BF := (fTst (fOp oLe (fOp oMul (fVar 2) (fVar 2)) (fVar 0)))
def c_prime_powers_in_1 : BF := (fTst (fOp oEq (fOp oMod (fVar 0) (fVar 2)) (fC (.int 0))))
def b_prime_powers_in_2 : SF := (sPar 0 3 (fOp oDiv (fVar 0) (fVar 2)) (fOp oAdd (fVar 3) (fC (.int 1))))
def b_prime_powers_in_3 : SF := (sSeq (sSet 3 (fC (.int 0)))
    (sSeq (whl c_prime_powers_in_1 b_prime_powers_in_2 fuel)
    (sSeq (sExt 1 (fIf (fTst (fOp oGt (fVar 3) (fC (.int 0)))) (fAsL (fLst (fCons (fTup (fCons (fVar 2) (fCons (fVar 3) fNil))) fNil))) (fAsL (fLst fNil))))
    (sSet 2 (fOp oAdd (fVar 2) (fC (.int 1)))))))
def b_prime_powers_in : SF := (sSeq (sParO1 1 2 (fLst fNil) (fC (.int 2)))
    (sSeq (whl c_prime_powers_in_0 b_prime_powers_in_3 fuel)
    (sRet (fIf (fTst (fOp oGt (fVar 0) (fC (.int 1)))) (fR1 oTuple (fVal (fAsL (fLst (fStar (fRd 1) (fCons (fTup (fCons (fVar 0) (fCons (fC (.int 1)) fNil))) fNil)))))) (fR1 oTuple (fRd 1))))))
def F_prime_powers_in : List PyData → Option PyData := runF 1 4 b_prime_powers_in
theorem sc8 : FnScope ["row", "found", "p", "k", "late", "power", "lap", "d"] ["row"] (defScope (top 11)) := ⟨rfl, rfl, rfl, by decide +kernel, rfl, by decide +kernel, by decide +kernel⟩
def e_divisors_of_row_0 : EF := (fOp oMul (fVar 7) (fVar 5))
def b_divisors_of_row_1 : SF := (sSeq (sExt 4 (fAsL (fComp [7] (fSeq (fVar 1)) (gNm 7) fYes e_divisors_of_row_0)))
    (sSet 5 (fOp oMul (fVar 5) (fVar 2))))
def b_divisors_of_row_2 : SF := (sSeq (sParO1 4 5 (fLst fNil) (fC (.int 1)))
    (sSeq (sFor (fRng1 (fCons (fOp oAdd (fVar 3) (fC (.int 1))) fNil)) (gNm 6) b_divisors_of_row_1)
    (sSet 1 (fAsL (fR1L oList (fRd 4))))))
def b_divisors_of_row : SF := (sSeq (sSet 1 (fAsL (fLst (fCons (fC (.int 1)) fNil))))
    (sSeq (sFor (fSeq (fVar 0)) (gTp 2 (gCons' (gNm 2) (gCons' (gNm 3) gNil'))) b_divisors_of_row_2)
    (sRet (fVar 1))))
def F_divisors_of_row : List PyData → Option PyData := runF 1 8 b_divisors_of_row
theorem sc9 : FnScope ["n", "some", "d"] ["n"] (defScope (top 12)) := ⟨rfl, rfl, rfl, by decide +kernel, rfl, by decide +kernel, by decide +kernel⟩
def c_divisors_by_four_0 : BF := (fTst (fOp oEq (fOp oMod (fVar 2) (fC (.int 4))) (fC (.int 3))))
def e_divisors_by_four_1 : EF := (fVar 2)
def c_divisors_by_four_2 : BF := (fTst (fOp oEq (fOp oMod (fVar 2) (fC (.int 4))) (fC (.int 1))))
def e_divisors_by_four_3 : EF := (fVar 2)
def b_divisors_by_four : SF := (sSeq (sSet 1 (fCall F_divisors_of_row (fCons (fCall F_prime_powers_in (fCons (fVar 0) fNil)) fNil)))
    (sRet (fTup (fCons (fR1 oLen (fVal (fAsL (fComp [2] (fSeq (fVar 1)) (gNm 2) c_divisors_by_four_2 e_divisors_by_four_3)))) (fCons (fR1 oLen (fVal (fAsL (fComp [2] (fSeq (fVar 1)) (gNm 2) c_divisors_by_four_0 e_divisors_by_four_1)))) fNil)))))
def F_divisors_by_four : List PyData → Option PyData := runF 1 3 b_divisors_by_four
theorem sc10 : FnScope ["n", "one", "three"] ["n"] (defScope (top 13)) := ⟨rfl, rfl, rfl, by decide +kernel, rfl, by decide +kernel, by decide +kernel⟩
def b_count_first_ways : SF := (sSeq (sTg (fCall F_divisors_by_four (fCons (fVar 0) fNil)) (gTp 2 (gCons' (gNm 1) (gCons' (gNm 2) gNil'))))
    (sRet (fOp oSub (fVar 1) (fVar 2))))
def F_count_first_ways : List PyData → Option PyData := runF 1 3 b_count_first_ways
theorem sc11 : FnScope ["n"] ["n"] (defScope (top 14)) := ⟨rfl, rfl, rfl, by decide +kernel, rfl, by decide +kernel, by decide +kernel⟩
def b_count_ways : SF := (sRet (fOp oMul (fC (.int 4)) (fCall F_count_first_ways (fCons (fVar 0) fNil))))
def F_count_ways : List PyData → Option PyData := runF 1 1 b_count_ways
theorem sc14 : FnScope ["n", "d"] ["n"] (defScope (top 18)) := ⟨rfl, rfl, rfl, by decide +kernel, rfl, by decide +kernel, by decide +kernel⟩
def c_law_cubes_0 : BF := (fTst (fOp oEq (fOp oMod (fR1 oInt (fRd 0)) (fVar 1)) (fC (.int 0))))
def e_law_cubes_1 : EF := (fOp oMul (fOp oMul (fVar 1) (fVar 1)) (fVar 1))
def b_law_cubes : SF := (sRet (fR1 oSum (fVal (fAsL (fComp [1] (fRng2 (fCons (fC (.int 1)) (fCons (fOp oAdd (fVar 0) (fC (.int 1))) fNil))) (gNm 1) c_law_cubes_0 e_law_cubes_1)))))
def F_law_cubes : List PyData → Option PyData := runF 1 2 b_law_cubes
structure Tx (K : PySem.W.Frag) (mg : Str → Option Value) (ad : Nat → Addr) (fd : Nat → FuncData) : Prop where
  F0 : Fun K "four_norm" "four_norm" (top 1) (ad 0) (fd 0)
  g0 : mg "four_norm" = some (.ref (ad 0))
  b0 : Binds K (fd 0) ["x"] []
  F1 : Fun K "whole_root" "whole_root" (top 3) (ad 1) (fd 1)
  g1 : mg "whole_root" = some (.ref (ad 1))
  b1 : Binds K (fd 1) ["n"] []
  F2 : Fun K "falling_squares" "falling_squares" (top 4) (ad 2) (fd 2)
  g2 : mg "falling_squares" = some (.ref (ad 2))
  b2 : Binds K (fd 2) ["n", "many", "most"] []
  F3 : Fun K "any_four_squares" "any_four_squares" (top 5) (ad 3) (fd 3)
  g3 : mg "any_four_squares" = some (.ref (ad 3))
  b3 : Binds K (fd 3) ["n"] []
  F4 : Fun K "odd_divisor_sum" "odd_divisor_sum" (top 6) (ad 4) (fd 4)
  g4 : mg "odd_divisor_sum" = some (.ref (ad 4))
  b4 : Binds K (fd 4) ["n"] []
  F5 : Fun K "count_fours" "count_fours" (top 7) (ad 5) (fd 5)
  g5 : mg "count_fours" = some (.ref (ad 5))
  b5 : Binds K (fd 5) ["n"] []
  F6 : Fun K "count_four_squares" "count_four_squares" (top 8) (ad 6) (fd 6)
  g6 : mg "count_four_squares" = some (.ref (ad 6))
  b6 : Binds K (fd 6) ["n"] []
  F7 : Fun K "prime_powers_in" "prime_powers_in" (top 10) (ad 7) (fd 7)
  g7 : mg "prime_powers_in" = some (.ref (ad 7))
  b7 : Binds K (fd 7) ["n"] []
  F8 : Fun K "divisors_of_row" "divisors_of_row" (top 11) (ad 8) (fd 8)
  g8 : mg "divisors_of_row" = some (.ref (ad 8))
  b8 : Binds K (fd 8) ["row"] []
  F9 : Fun K "divisors_by_four" "divisors_by_four" (top 12) (ad 9) (fd 9)
  g9 : mg "divisors_by_four" = some (.ref (ad 9))
  b9 : Binds K (fd 9) ["n"] []
  F10 : Fun K "count_first_ways" "count_first_ways" (top 13) (ad 10) (fd 10)
  g10 : mg "count_first_ways" = some (.ref (ad 10))
  b10 : Binds K (fd 10) ["n"] []
  F11 : Fun K "count_ways" "count_ways" (top 14) (ad 11) (fd 11)
  g11 : mg "count_ways" = some (.ref (ad 11))
  b11 : Binds K (fd 11) ["n"] []
  F12 : Fun K "_law_source" "_law_source" (top 16) (ad 12) (fd 12)
  g12 : mg "_law_source" = some (.ref (ad 12))
  b12 : Binds K (fd 12) ["script"] []
  F13 : Fun K "_law_pick" "_law_pick" (top 17) (ad 13) (fd 13)
  g13 : mg "_law_pick" = some (.ref (ad 13))
  b13 : Binds K (fd 13) ["source", "many"] []
  F14 : Fun K "_law_cubes" "_law_cubes" (top 18) (ad 14) (fd 14)
  g14 : mg "_law_cubes" = some (.ref (ad 14))
  b14 : Binds K (fd 14) ["n"] []
  F15 : Fun K "law" "law" (top 19) (ad 15) (fd 15)
  g15 : mg "law" = some (.ref (ad 15))
  b15 : Binds K (fd 15) ["script"] []
  m_abs : mg "abs" = none
  m_int : mg "int" = none
  m_len : mg "len" = none
  m_list : mg "list" = none
  m_min : mg "min" = none
  m_range : mg "range" = none
  m_repr : mg "repr" = none
  m_sum : mg "sum" = none
  m_tuple : mg "tuple" = none
section
variable {P : Program} {w : World} {K : PySem.W.Frag} {mg : Str → Option Value} {base : Heap} {ad : Nat → Addr} {fd : Nat → FuncData}
theorem d_four_norm (T : Tx K mg ad fd) : FnG P w K mg base 1 (ad 0) (fd 0) ["x"] (spF K F_four_norm) := by
  refine fnRun (fb := b_four_norm) T.F0 sc0 (fun cdv A outer s H hr hG => ?_)
  exact (fss_one (fs_ret (fe_fdiv (fe_sum rfl (FE.rd (FL.fe (fl_lc [("a", 1)] rfl sc0.nd (fi_seq (fe_v 0 (pv 0))) (blkOk_by (N := ["x", "a"]) (sc := defScope (top 1)) (by decide +kernel)) (fun _ _ _ _ _ => (fg_name (i := 1) sc0.nd rfl (by first | exact Or.inl rfl | exact Or.inr rfl))) (fun _ _ _ _ _ => fts_nil) (fun _ _ _ _ _ => (fe_mul (fe_v 1 (pv 1)) (fe_v 1 (pv 1))))))) rfl T.m_sum) fe_int)))
theorem d_whole_root (T : Tx K mg ad fd) : FnG P w K mg base 1 (ad 1) (fd 1) ["n"] (spF K F_whole_root) := by
  refine fnRun (fb := b_whole_root) T.F1 sc1 (fun cdv A outer s H hr hG => ?_)
  exact (fss_cons (fs_par (i := 1) (j := 2) (fun _ _ h h2 => ps_par rfl sc1.nd rfl rfl (by decide) rfl rfl (pa_cons h (pa_cons h2 pa_nil)) rfl) fe_int (fe_add (fe_v 0 (pv 0)) fe_int))
    (fss_cons (fs_while (n := fuel) (ft_gt (fe_sub (fe_v 2 (pv 2)) (fe_v 1 (pv 1))) fe_int) (fss_cons (fs_set (i := 3) sc1.nd rfl (by first | exact Or.inl rfl | exact Or.inr rfl) (fe_fdiv (fe_add (fe_v 1 (pv 1)) (fe_v 2 (pv 2))) fe_int))
    (fss_one (fs_if (ft_le (fe_mul (fe_v 3 (pv 3)) (fe_v 3 (pv 3))) (fe_v 0 (pv 0))) (fss_one (fs_set (i := 1) sc1.nd rfl (by first | exact Or.inl rfl | exact Or.inr rfl) (fe_v 3 (pv 3)))) (fss_one (fs_set (i := 2) sc1.nd rfl (by first | exact Or.inl rfl | exact Or.inr rfl) (fe_v 3 (pv 3))))))))
    (fss_one (fs_ret (fe_v 1 (pv 1))))))
theorem d_falling_squares (T : Tx K mg ad fd) : FnG P w K mg base 2 (ad 2) (fd 2) ["n", "many", "most"] (spF K F_falling_squares) := by
  have D1 : FnG P w K mg base 1 (ad 1) (fd 1) _ (spF K F_whole_root) := d_whole_root T
  refine fnRun (fb := b_falling_squares) T.F2 sc2 (fun cdv A outer s H hr hG => ?_)
  exact (fss_cons (fs_set (i := 3) sc2.nd rfl (by first | exact Or.inl rfl | exact Or.inr rfl) (FL.fe (fl_lst (fa_cons (fe_tup (fa_cons (fe_tup fa_nil) (fa_cons (fe_v 0 (pv 0)) (fa_cons (fe_v 2 (pv 2)) fa_nil)))) fa_nil))))
    (fss_cons (fs_for rfl (fi_rng1 (fa_cons (fe_v 1 (pv 1)) fa_nil) rfl T.m_range) (fg_name (i := 4) sc2.nd rfl (by first | exact Or.inl rfl | exact Or.inr rfl)) (fss_cons (fs_own (i := 5) sc2.nd rfl (by first | exact Or.inl rfl | exact Or.inr rfl) (fl_lst fa_nil))
    (fss_cons (fs_for rfl (fi_seq (fe_v 3 (pv 3))) (fg_tup rfl (fgs_cons (fg_name (i := 6) sc2.nd rfl (by first | exact Or.inl rfl | exact Or.inr rfl)) (fgs_cons (fg_name (i := 7) sc2.nd rfl (by first | exact Or.inl rfl | exact Or.inr rfl)) (fgs_cons (fg_name (i := 8) sc2.nd rfl (by first | exact Or.inl rfl | exact Or.inr rfl)) fgs_nil)))) (fss_one (fs_for rfl (fi_rng1 (fa_cons (fe_add (fe_min2 rfl (fe_v 8 (pv 8)) (fe_call D1 (hr.mono (by decide)) hG rfl T.g1 T.F1.kp T.b1 (fa_cons (fe_v 7 (pv 7)) fa_nil)) rfl T.m_min) fe_int) fa_nil) rfl T.m_range) (fg_name (i := 9) sc2.nd rfl (by first | exact Or.inl rfl | exact Or.inr rfl)) (fss_one (fs_if (ft_ge (fe_mul (fe_mul (fe_sub (fe_v 1 (pv 1)) (fe_v 4 (pv 4))) (fe_v 9 (pv 9))) (fe_v 9 (pv 9))) (fe_v 7 (pv 7))) (fss_one (fs_app (i := 5) (fun _ h => ps_expr (pe_bm PySem.F.plainAttrs_list PySem.F.slot_list_append PySem.F.type_list_append mt_append (pv 5) (pa_cons h pa_nil))) (fe_tup (fa_cons (fe_catT (fe_v 6 (pv 6)) (fe_tup (fa_cons (fe_v 9 (pv 9)) fa_nil))) (fa_cons (fe_sub (fe_v 7 (pv 7)) (fe_mul (fe_v 9 (pv 9)) (fe_v 9 (pv 9)))) (fa_cons (fe_v 9 (pv 9)) fa_nil)))))) fss_nil)))))
    (fss_one (fs_set (i := 3) sc2.nd rfl (by first | exact Or.inl rfl | exact Or.inr rfl) (FL.fe (fl_list (fr_v 5 (pv 5)) rfl T.m_list)))))))
    (fss_one (fs_ret (FL.fe (fl_lc [("row", 6), ("left", 7), ("top", 8)] rfl sc2.nd (fi_seq (fe_v 3 (pv 3))) (blkOk_by (N := ["n", "many", "most", "line", "lap", "late", "row", "left", "top", "a"]) (sc := defScope (top 4)) (by decide +kernel)) (fun _ _ _ _ _ => (fg_tup rfl (fgs_cons (fg_name (i := 6) sc2.nd rfl (by first | exact Or.inl rfl | exact Or.inr rfl)) (fgs_cons (fg_name (i := 7) sc2.nd rfl (by first | exact Or.inl rfl | exact Or.inr rfl)) (fgs_cons (fg_name (i := 8) sc2.nd rfl (by first | exact Or.inl rfl | exact Or.inr rfl)) fgs_nil))))) (fun _ _ _ _ _ => (fts_one (ft_eq hr.units (fe_v 7 (pv 7)) fe_int))) (fun _ _ _ _ _ => (fe_v 6 (pv 6)))))))))
theorem d_any_four_squares (T : Tx K mg ad fd) : FnG P w K mg base 3 (ad 3) (fd 3) ["n"] (spF K F_any_four_squares) := by
  have D1 : FnG P w K mg base 1 (ad 1) (fd 1) _ (spF K F_whole_root) := d_whole_root T
  have D2 : FnG P w K mg base 2 (ad 2) (fd 2) _ (spF K F_falling_squares) := d_falling_squares T
  refine fnRun (fb := b_any_four_squares) T.F3 sc3 (fun cdv A outer s H hr hG => ?_)
  exact (fss_cons (fs_for rfl (fi_rng3 (fa_cons (fe_call D1 (hr.mono (by decide)) hG rfl T.g1 T.F1.kp T.b1 (fa_cons (fe_v 0 (pv 0)) fa_nil)) (fa_cons (fe_neg fe_int) (fa_cons (fe_neg fe_int) fa_nil))) rfl T.m_range) (fg_name (i := 1) sc3.nd rfl (by first | exact Or.inl rfl | exact Or.inr rfl)) (fss_cons (fs_set (i := 2) sc3.nd rfl (by first | exact Or.inl rfl | exact Or.inr rfl) (fe_sub (fe_v 0 (pv 0)) (fe_mul (fe_v 1 (pv 1)) (fe_v 1 (pv 1)))))
    (fss_one (fs_for rfl (fi_rng3 (fa_cons (fe_min2 rfl (fe_v 1 (pv 1)) (fe_call D1 (hr.mono (by decide)) hG rfl T.g1 T.F1.kp T.b1 (fa_cons (fe_v 2 (pv 2)) fa_nil)) rfl T.m_min) (fa_cons (fe_neg fe_int) (fa_cons (fe_neg fe_int) fa_nil))) rfl T.m_range) (fg_name (i := 3) sc3.nd rfl (by first | exact Or.inl rfl | exact Or.inr rfl)) (fss_cons (fs_set (i := 4) sc3.nd rfl (by first | exact Or.inl rfl | exact Or.inr rfl) (fe_call D2 (hr.mono (by decide)) hG rfl T.g2 T.F2.kp T.b2 (fa_cons (fe_sub (fe_v 2 (pv 2)) (fe_mul (fe_v 3 (pv 3)) (fe_v 3 (pv 3)))) (fa_cons fe_int (fa_cons (fe_v 3 (pv 3)) fa_nil)))))
    (fss_one (fs_if (ft_ne hr.units (fe_v 4 (pv 4)) (FL.fe (fl_lst fa_nil))) (fss_one (fs_ret (fe_tup (fa_cons (fe_v 1 (pv 1)) (fa_cons (fe_v 3 (pv 3)) (fa_star (FE.rd (fe_ix (fr_v 4 (pv 4)) fe_int)) fa_nil)))))) fss_nil)))))))
    (fss_one (fs_ret fe_non)))
theorem d_odd_divisor_sum (T : Tx K mg ad fd) : FnG P w K mg base 1 (ad 4) (fd 4) ["n"] (spF K F_odd_divisor_sum) := by
  refine fnRun (fb := b_odd_divisor_sum) T.F4 sc4 (fun cdv A outer s H hr hG => ?_)
  exact (fss_one (fs_ret (fe_sum rfl (FE.rd (FL.fe (fl_lc [("d", 1)] rfl sc4.nd (fi_rng3 (fa_cons fe_int (fa_cons (fe_add (fe_v 0 (pv 0)) fe_int) (fa_cons fe_int fa_nil))) rfl T.m_range) (blkOk_by (N := ["n", "d"]) (sc := defScope (top 6)) (by decide +kernel)) (fun _ _ _ _ _ => (fg_name (i := 1) sc4.nd rfl (by first | exact Or.inl rfl | exact Or.inr rfl))) (fun _ _ _ _ _ => (fts_one (ft_eq hr.units (fe_mod (fe_v 0 (pv 0)) (fe_v 1 (pv 1))) fe_int))) (fun _ _ _ _ _ => (fe_v 1 (pv 1)))))) rfl T.m_sum)))
theorem d_count_fours (T : Tx K mg ad fd) : FnG P w K mg base 2 (ad 5) (fd 5) ["n"] (spF K F_count_fours) := by
  have D4 : FnG P w K mg base 1 (ad 4) (fd 4) _ (spF K F_odd_divisor_sum) := d_odd_divisor_sum T
  refine fnRun (fb := b_count_fours) T.F5 sc5 (fun cdv A outer s H hr hG => ?_)
  exact (fss_one (fs_ret (fe_mul fe_int (fe_call D4 (hr.mono (by decide)) hG rfl T.g4 T.F4.kp T.b4 (fa_cons (fe_v 0 (pv 0)) fa_nil)))))
theorem d_count_four_squares (T : Tx K mg ad fd) : FnG P w K mg base 1 (ad 6) (fd 6) ["n"] (spF K F_count_four_squares) := by
  refine fnRun (fb := b_count_four_squares) T.F6 sc6 (fun cdv A outer s H hr hG => ?_)
  exact (fss_one (fs_ret (fe_mul fe_int (fe_sum rfl (FE.rd (FL.fe (fl_lc [("d", 1)] rfl sc6.nd (fi_rng2 (fa_cons fe_int (fa_cons (fe_add (fe_v 0 (pv 0)) fe_int) fa_nil)) rfl T.m_range) (blkOk_by (N := ["n", "d"]) (sc := defScope (top 8)) (by decide +kernel)) (fun _ _ _ _ _ => (fg_name (i := 1) sc6.nd rfl (by first | exact Or.inl rfl | exact Or.inr rfl))) (fun _ _ _ _ _ => (fts_one (FW.ft (fw_and (ft_eq hr.units (fe_mod (fe_v 0 (pv 0)) (fe_v 1 (pv 1))) fe_int) (fw_and1 (ft_ne hr.units (fe_mod (fe_v 1 (pv 1)) fe_int) fe_int)))))) (fun _ _ _ _ _ => (fe_v 1 (pv 1)))))) rfl T.m_sum))))
theorem d_prime_powers_in (T : Tx K mg ad fd) : FnG P w K mg base 1 (ad 7) (fd 7) ["n"] (spF K F_prime_powers_in) := by
  refine fnRun (fb := b_prime_powers_in) T.F7 sc7 (fun cdv A outer s H hr hG => ?_)
  exact (fss_cons (fs_parO1 (i := 1) (j := 2) (fun _ _ h h2 => ps_par rfl sc7.nd rfl rfl (by decide) rfl rfl (pa_cons h (pa_cons h2 pa_nil)) rfl) (fl_lst fa_nil) fe_int)
    (fss_cons (fs_while (n := fuel) (ft_le (fe_mul (fe_v 2 (pv 2)) (fe_v 2 (pv 2))) (fe_v 0 (pv 0))) (fss_cons (fs_set (i := 3) sc7.nd rfl (by first | exact Or.inl rfl | exact Or.inr rfl) fe_int)
    (fss_cons (fs_while (n := fuel) (ft_eq hr.units (fe_mod (fe_v 0 (pv 0)) (fe_v 2 (pv 2))) fe_int) (fss_one (fs_par (i := 0) (j := 3) (fun _ _ h h2 => ps_par rfl sc7.nd rfl rfl (by decide) rfl rfl (pa_cons h (pa_cons h2 pa_nil)) rfl) (fe_fdiv (fe_v 0 (pv 0)) (fe_v 2 (pv 2))) (fe_add (fe_v 3 (pv 3)) fe_int))))
    (fss_cons (fs_ext (i := 1) (fun _ h => ps_expr (pe_bm PySem.F.plainAttrs_list PySem.F.slot_list_extend PySem.F.type_list_extend mt_extend (pv 1) (pa_cons h pa_nil))) (fe_ifExp (ft_gt (fe_v 3 (pv 3)) fe_int) (FL.fe (fl_lst (fa_cons (fe_tup (fa_cons (fe_v 2 (pv 2)) (fa_cons (fe_v 3 (pv 3)) fa_nil))) fa_nil))) (FL.fe (fl_lst fa_nil))))
    (fss_one (fs_set (i := 2) sc7.nd rfl (by first | exact Or.inl rfl | exact Or.inr rfl) (fe_add (fe_v 2 (pv 2)) fe_int)))))))
    (fss_one (fs_ret (fe_ifExp (ft_gt (fe_v 0 (pv 0)) fe_int) (fe_tuple (FE.rd (FL.fe (fl_lst (fa_star (fr_v 1 (pv 1)) (fa_cons (fe_tup (fa_cons (fe_v 0 (pv 0)) (fa_cons fe_int fa_nil))) fa_nil))))) rfl T.m_tuple) (fe_tuple (fr_v 1 (pv 1)) rfl T.m_tuple))))))
theorem d_divisors_of_row (T : Tx K mg ad fd) : FnG P w K mg base 1 (ad 8) (fd 8) ["row"] (spF K F_divisors_of_row) := by
  refine fnRun (fb := b_divisors_of_row) T.F8 sc8 (fun cdv A outer s H hr hG => ?_)
  exact (fss_cons (fs_set (i := 1) sc8.nd rfl (by first | exact Or.inl rfl | exact Or.inr rfl) (FL.fe (fl_lst (fa_cons fe_int fa_nil))))
    (fss_cons (fs_for rfl (fi_seq (fe_v 0 (pv 0))) (fg_tup rfl (fgs_cons (fg_name (i := 2) sc8.nd rfl (by first | exact Or.inl rfl | exact Or.inr rfl)) (fgs_cons (fg_name (i := 3) sc8.nd rfl (by first | exact Or.inl rfl | exact Or.inr rfl)) fgs_nil))) (fss_cons (fs_tgO1 (i := 4) (j := 5) (fun _ _ h h2 => ps_asg (pe_tup (pa_cons h (pa_cons h2 pa_nil))) (pg_tup rfl (pgs_cons (pg_name (i := 4) sc8.nd rfl (by first | exact Or.inl rfl | exact Or.inr rfl)) (pgs_cons (pg_name (i := 5) sc8.nd rfl (by first | exact Or.inl rfl | exact Or.inr rfl)) pgs_nil)))) (fl_lst fa_nil) fe_int)
    (fss_cons (fs_for rfl (fi_rng1 (fa_cons (fe_add (fe_v 3 (pv 3)) fe_int) fa_nil) rfl T.m_range) (fg_name (i := 6) sc8.nd rfl (by first | exact Or.inl rfl | exact Or.inr rfl)) (fss_cons (fs_ext (i := 4) (fun _ h => ps_expr (pe_bm PySem.F.plainAttrs_list PySem.F.slot_list_extend PySem.F.type_list_extend mt_extend (pv 4) (pa_cons h pa_nil))) (FL.fe (fl_lc [("d", 7)] rfl sc8.nd (fi_seq (fe_v 1 (pv 1))) (blkOk_by (N := ["row", "found", "p", "k", "late", "power", "lap", "d"]) (sc := defScope (top 11)) (by decide +kernel)) (fun _ _ _ _ _ => (fg_name (i := 7) sc8.nd rfl (by first | exact Or.inl rfl | exact Or.inr rfl))) (fun _ _ _ _ _ => fts_nil) (fun _ _ _ _ _ => (fe_mul (fe_v 7 (pv 7)) (fe_v 5 (pv 5)))))))
    (fss_one (fs_set (i := 5) sc8.nd rfl (by first | exact Or.inl rfl | exact Or.inr rfl) (fe_mul (fe_v 5 (pv 5)) (fe_v 2 (pv 2)))))))
    (fss_one (fs_set (i := 1) sc8.nd rfl (by first | exact Or.inl rfl | exact Or.inr rfl) (FL.fe (fl_list (fr_v 4 (pv 4)) rfl T.m_list)))))))
    (fss_one (fs_ret (fe_v 1 (pv 1))))))
theorem d_divisors_by_four (T : Tx K mg ad fd) : FnG P w K mg base 2 (ad 9) (fd 9) ["n"] (spF K F_divisors_by_four) := by
  have D8 : FnG P w K mg base 1 (ad 8) (fd 8) _ (spF K F_divisors_of_row) := d_divisors_of_row T
  have D7 : FnG P w K mg base 1 (ad 7) (fd 7) _ (spF K F_prime_powers_in) := d_prime_powers_in T
  refine fnRun (fb := b_divisors_by_four) T.F9 sc9 (fun cdv A outer s H hr hG => ?_)
  exact (fss_cons (fs_set (i := 1) sc9.nd rfl (by first | exact Or.inl rfl | exact Or.inr rfl) (fe_call D8 (hr.mono (by decide)) hG rfl T.g8 T.F8.kp T.b8 (fa_cons (fe_call D7 (hr.mono (by decide)) hG rfl T.g7 T.F7.kp T.b7 (fa_cons (fe_v 0 (pv 0)) fa_nil)) fa_nil)))
    (fss_one (fs_ret (fe_tup (fa_cons (fe_len (FE.rd (FL.fe (fl_lc [("d", 2)] rfl sc9.nd (fi_seq (fe_v 1 (pv 1))) (blkOk_by (N := ["n", "some", "d"]) (sc := defScope (top 12)) (by decide +kernel)) (fun _ _ _ _ _ => (fg_name (i := 2) sc9.nd rfl (by first | exact Or.inl rfl | exact Or.inr rfl))) (fun _ _ _ _ _ => (fts_one (ft_eq hr.units (fe_mod (fe_v 2 (pv 2)) fe_int) fe_int))) (fun _ _ _ _ _ => (fe_v 2 (pv 2)))))) rfl T.m_len) (fa_cons (fe_len (FE.rd (FL.fe (fl_lc [("d", 2)] rfl sc9.nd (fi_seq (fe_v 1 (pv 1))) (blkOk_by (N := ["n", "some", "d"]) (sc := defScope (top 12)) (by decide +kernel)) (fun _ _ _ _ _ => (fg_name (i := 2) sc9.nd rfl (by first | exact Or.inl rfl | exact Or.inr rfl))) (fun _ _ _ _ _ => (fts_one (ft_eq hr.units (fe_mod (fe_v 2 (pv 2)) fe_int) fe_int))) (fun _ _ _ _ _ => (fe_v 2 (pv 2)))))) rfl T.m_len) fa_nil))))))
theorem d_count_first_ways (T : Tx K mg ad fd) : FnG P w K mg base 3 (ad 10) (fd 10) ["n"] (spF K F_count_first_ways) := by
  have D9 : FnG P w K mg base 2 (ad 9) (fd 9) _ (spF K F_divisors_by_four) := d_divisors_by_four T
  refine fnRun (fb := b_count_first_ways) T.F10 sc10 (fun cdv A outer s H hr hG => ?_)
  exact (fss_cons (fs_tg (fe_call D9 (hr.mono (by decide)) hG rfl T.g9 T.F9.kp T.b9 (fa_cons (fe_v 0 (pv 0)) fa_nil)) (fg_tup rfl (fgs_cons (fg_name (i := 1) sc10.nd rfl (by first | exact Or.inl rfl | exact Or.inr rfl)) (fgs_cons (fg_name (i := 2) sc10.nd rfl (by first | exact Or.inl rfl | exact Or.inr rfl)) fgs_nil))))
    (fss_one (fs_ret (fe_sub (fe_v 1 (pv 1)) (fe_v 2 (pv 2))))))
theorem d_count_ways (T : Tx K mg ad fd) : FnG P w K mg base 4 (ad 11) (fd 11) ["n"] (spF K F_count_ways) := by
  have D10 : FnG P w K mg base 3 (ad 10) (fd 10) _ (spF K F_count_first_ways) := d_count_first_ways T
  refine fnRun (fb := b_count_ways) T.F11 sc11 (fun cdv A outer s H hr hG => ?_)
  exact (fss_one (fs_ret (fe_mul fe_int (fe_call D10 (hr.mono (by decide)) hG rfl T.g10 T.F10.kp T.b10 (fa_cons (fe_v 0 (pv 0)) fa_nil)))))
theorem d_law_cubes (T : Tx K mg ad fd) : FnG P w K mg base 1 (ad 14) (fd 14) ["n"] (spF K F_law_cubes) := by
  refine fnRun (fb := b_law_cubes) T.F14 sc14 (fun cdv A outer s H hr hG => ?_)
  exact (fss_one (fs_ret (fe_sum rfl (FE.rd (FL.fe (fl_lc [("d", 1)] rfl sc14.nd (fi_rng2 (fa_cons fe_int (fa_cons (fe_add (fe_v 0 (pv 0)) fe_int) fa_nil)) rfl T.m_range) (blkOk_by (N := ["n", "d"]) (sc := defScope (top 18)) (by decide +kernel)) (fun _ _ _ _ _ => (fg_name (i := 1) sc14.nd rfl (by first | exact Or.inl rfl | exact Or.inr rfl))) (fun _ _ _ _ _ => (fts_one (ft_eq hr.units (fe_mod (fe_intC (fr_v 0 (pv 0)) rfl T.m_int) (fe_v 1 (pv 1))) fe_int))) (fun _ _ _ _ _ => (fe_mul (fe_mul (fe_v 1 (pv 1)) (fe_v 1 (pv 1))) (fe_v 1 (pv 1))))))) rfl T.m_sum)))
end
end K29
namespace K29
open PySem PySem.Spec PyProof.Rows L2 Fe
theorem sc12 : FnScope ["script", "mixed", "cell"] ["script"] (defScope (top 16)) := ⟨rfl, rfl, rfl, by decide +kernel, rfl, by decide +kernel, by decide +kernel⟩
section
variable {P : Program} {w : World} {K : PySem.W.Frag} {mg : Str → Option Value} {base : Heap} {ad : Nat → Addr} {fd : Nat → FuncData}
theorem d_mk (T : Tx K mg ad fd) : FnG P w K mg base 1 (ad 12) (fd 12) ["script"] (spMk K) := by
  refine fnG_of T.F12 sc12 (fun vs H Q h => ?_) fun cdv A outer s H vs Q hr hG h => ?_
  · obtain ⟨p, ns, rfl, _⟩ := h
    rfl
  · obtain ⟨a, ns, rfl, hS, hlen, k⟩ := h
    refine ⟨_, pss_cons (ps_set (i := 1) sc12.nd rfl (Or.inl rfl) pe_int)
      (pss_cons (ps_for PassesOwn.never rfl (pi_list (pv 0)) (pg_name (i := 2) sc12.nd rfl (Or.inl rfl)) (pss_one (ps_set (i := 1) sc12.nd rfl (Or.inl rfl)
        (pe_op op_mod (pe_callTy call_int1 rfl T.m_int (by decide +kernel) (pa_cons (pe_op op_add (pe_op op_add (pe_op op_mul (pv 1) pe_int) (pe_op op_mul (pv 2) pe_int)) pe_int) pa_nil)) pe_int))))
      (pss_one (ps_ret (pe_disp (pps_cons pe_str (pe_revL (pe_lc (own := [("cell", 2)]) (g := gName 2) (tt := tYes) rfl sc12.nd (pi_list (pv 0)) (blkOk_by (N := ["script", "mixed", "cell"]) (sc := defScope (top 16)) (by decide +kernel))
        (fun _ _ _ _ _ => pg_name (i := 2) sc12.nd rfl (Or.inl rfl)) (fun _ _ _ _ _ => pts_nil) (fun _ _ _ _ _ => pe_callB call_abs rfl T.m_abs (by decide +kernel) (pa_cons (pv 2) pa_nil)))) (pps_cons pe_str pe_int (pps_cons pe_str (pv 1) (pps_cons pe_str pe_int pps_nil)))) (by decide) rfl (by simp) (by decide))))), ?_⟩
    refine ⟨_, rfl, a, rfl, ⟨_, hS⟩, for_list (K := K) (a := a) (xs := ns.map V.int) (fun i σ H2 => ∃ (m : Int) (v : Option V), σ = [some (.ref a), some (.int m), v] ∧ H2 = H) ⟨_, none, rfl, rfl⟩ (fun i σ H2 _ ⟨_, _, _, e⟩ => by rw [e]; exact hS) ?_ ?_⟩
    · rintro i y σ H2 hi ⟨m, v, rfl, rfl⟩
      obtain ⟨z, rfl⟩ := int_at hi
      exact ⟨_, rfl, _, _, rfl, rfl, Or.inr ⟨by decide, by decide⟩, _, rfl, _, _, rfl, rfl, Or.inr ⟨by decide, by decide⟩, _, _, rfl, rfl, _, _, rfl, rfl, Or.inl ⟨_, rfl, _, _, rfl, rfl, by show (0 : Int) < 2147483629; decide, _, _, rfl, rfl⟩⟩
    · rintro σ H2 ⟨m, v, rfl, rfl⟩
      intro p hp
      have sp : Same H2 (upd H2 p (.dK [])) := same_new hp
      refine ⟨_, rfl, a, rfl, ⟨_, sp.seq hS⟩, fun D hD => ?_⟩
      have nDp : D ≠ p := fun e => by
        rw [e, upd_same] at hD
        cases hD
      refine lc_list (K := K) (a := a) (xs := ns.map V.int) (fun i H3 => ∃ acc : List Int, acc.length = i ∧ H3 = upd (upd H2 p (.dK [])) D (.lst (acc.map V.int))) ⟨[], rfl, rfl⟩ (fun i H3 _ ⟨acc, _, e⟩ => by rw [e]; exact (same_new hD).seq (sp.seq hS)) ?_ ?_
      · rintro i y H3 hi ⟨acc, hl, rfl⟩
        obtain ⟨z, rfl⟩ := int_at hi
        have hi' := (List.getElem?_eq_some_iff.mp hi).1
        rw [List.length_map] at hi'
        refine ⟨rfl, ?_⟩
        refine ⟨_, rfl, z, rfl, acc.map V.int, upd_same, by rw [List.length_map, hl]; exact Nat.lt_of_lt_of_le (show i < 64 by omega) (by decide), acc ++ [if z < 0 then -z else z], by simp [hl], ?_⟩
        rw [upd_upd, List.map_append]
        rfl
      · rintro H3 ⟨acc, hl, rfl⟩
        refine ⟨D, _, rfl, Or.inl (Or.inl upd_same), fun c hc => ?_⟩
        have npc : p ≠ c := fun e => by
          rw [← e, upd_ne nDp.symm, upd_same] at hc
          cases hc
        have nDc : D ≠ c := fun e => by
          rw [← e, upd_same] at hc
          cases hc
        have hc2 : H2 c = none := by
          rw [upd_ne nDc.symm, upd_ne npc.symm] at hc
          exact hc
        have hD2 : H2 D = none := by
          rw [upd_ne nDp] at hD
          exact hD
        refine ⟨_, rfl, ?_⟩
        refine ⟨by rw [upd_ne npc, upd_ne nDp.symm]; exact upd_same, [(.inr "cells", .ref c), (.inr "left", .int _), (.inr "mixed", .int m), (.inr "turn", .int _)], rfl, (by show 4 ≤ 15; decide), ?_⟩
        refine k p c ⟨acc.reverse, 1, m, 0⟩ _ (fun b o e => ?_) hp hc2 ⟨?_, ?_⟩
        · have n1 : b ≠ D := ne_of_none e hD2
          have n2 : b ≠ p := ne_of_none e hp
          have n3 : b ≠ c := ne_of_none e hc2
          rw [upd_ne n2, upd_ne n3, upd_ne n1, upd_ne n2]
          exact e
        · exact upd_same.trans (by rfl)
        · rw [upd_ne npc.symm, upd_same, List.map_reverse]
end
abbrev F_law_pick := fPick (pickB 104729 17)
theorem sc13 : FnScope ["source", "many", "left", "mixed"] ["source", "many"] (defScope (top 17)) := ⟨rfl, rfl, rfl, by decide +kernel, rfl, by decide +kernel, by decide +kernel⟩
section
variable {P : Program} {w : World} {K : PySem.W.Frag} {mg : Str → Option Value} {base : Heap} {ad : Nat → Addr} {fd : Nat → FuncData}
theorem d_law_pick (T : Tx K mg ad fd) : FnG P w K mg base 1 (ad 13) (fd 13) ["source", "many"] (spS K (fPick (pickB 104729 17))) := by
  refine fnG_of T.F13 sc13 (fun vs H Q h => ?_) fun cdv A outer s0 H vs Q hr hG h => ?_
  · obtain ⟨a, c, us, G, s, ds, r, s', rfl, _, _, _, _, h1, h2, _⟩ := h
    unfold fPick at h2
    split at h2
    · rw [List.length_cons, h1.len]
      rfl
    · cases h2
  · obtain ⟨a, c, us, G, s, ds, r, s', rfl, h0, hs, ga, gc, h1, h2, h3⟩ := h
    unfold fPick at h2
    split at h2
    · rename_i m
      split at h2
      · rename_i hm
        cases h2
        have hm' : m.natAbs.log2 < 9000 := Nat.le_of_ble_eq_true hm
        cases h1 with | cons z1 z2 =>
        cases z1
        cases z2
        have fin : ∀ {H2 : Hp} {i : Int} {s2 : Src}, (i, s2) = pickB 104729 17 s m → Away H H2 a c → SrcAt H2 a c s2 → Q (.int i) H2 := by
          intro H2 i s2 e aw h2
          rw [← e] at h3
          exact h3 (.int i) c G H2 (Same.refl G) (fun b o z => aw b o (h0 b o z) (fun q => by rw [q, ga] at z; cases z) (fun q => by rw [q, gc] at z; cases z)) aw (fun b o _ _ _ z => z) h2 (Or.inl rfl) ga gc (.int i)
        refine ⟨_, pss_cons (ps_if (pt_cmpR op_lt (pv 1) pe_int (nomark _)) (pss_one (ps_ret pe_int)) pss_nil)
          (pss_cons (ps_while PassesOwn.never (PW.pt (pw_and (pt_cmpR op_lt (pe_dget (hu_of hr) (pv 0) pe_str (fun _ _ => rfl)) pe_int (nomark _)) (pw_and1 (pt_cmpR op_gt (pe_callB call_len_seq rfl T.m_len PySem.boot_len (pa_cons (pe_dget (hu_of hr) (pv 0) pe_str (fun _ _ => rfl)) pa_nil)) pe_int (nomark _)))))
            (pss_one (ps_dput (hu_of hr) (pv 0) pe_str (pe_bm0 PySem.F.plainAttrs_list PySem.F.slot_list_pop PySem.F.type_list_pop mt_pop (pe_dget (hu_of hr) (pv 0) pe_str (fun _ _ => rfl))) rfl)))
          (pss_cons (ps_set (i := 2) sc13.nd rfl (Or.inl rfl) (pe_dget (hu_of hr) (pv 0) pe_str (fun _ _ => rfl)))
          (pss_cons (ps_if (pt_cmpR op_gt (pv 2) pe_int (nomark _))
            (pss_cons (ps_dput (hu_of hr) (pv 0) pe_str (pe_op op_fdivW (pv 2) (pv 1)) rfl) (pss_one (ps_ret (pe_op op_mod (pe_callTy call_int1 rfl T.m_int (by decide +kernel) (pa_cons (pv 2) pa_nil)) (pv 1))))) pss_nil)
          (pss_cons (ps_dput (hu_of hr) (pv 0) pe_str (pe_op op_add (pe_dget (hu_of hr) (pv 0) pe_str (fun _ _ => rfl)) pe_int) rfl)
          (pss_cons (ps_set (i := 3) sc13.nd rfl (Or.inl rfl) (pe_op op_mod (pe_callTy call_int1 rfl T.m_int (by decide +kernel) (pa_cons (pe_op op_add (pe_dget (hu_of hr) (pv 0) pe_str (fun _ _ => rfl)) (pe_op op_mul (pe_dget (hu_of hr) (pv 0) pe_str (fun _ _ => rfl)) pe_int)) pa_nil)) pe_int))
          (pss_cons (ps_set (i := 3) sc13.nd rfl (Or.inl rfl) (pe_op op_mod (pe_callTy call_int1 rfl T.m_int (by decide +kernel) (pa_cons (pe_op op_add (pe_op op_mul (pv 3) (pv 3)) (pe_op op_mul (pe_dget (hu_of hr) (pv 0) pe_str (fun _ _ => rfl)) pe_int)) pa_nil)) pe_int))
          (pss_cons (ps_dput (hu_of hr) (pv 0) pe_str (pv 3) rfl) (pss_one (ps_ret (pe_op op_mod (pe_callTy call_int1 rfl T.m_int (by decide +kernel) (pa_cons (pe_op op_fdiv (pv 3) pe_int) pa_nil)) (pv 1))))))))))), ?_⟩
        refine ⟨_, rfl, _, _, rfl, rfl, _, rfl, ite2 (fun e => ?_) fun e => ?_⟩
        · have e' : m < 2 := of_decide_eq_true e
          exact fin (by unfold pickB; rw [if_pos e']) (Away.refl H a c) hs
        · have e' : ¬ m < 2 := fun z => e (decide_eq_true z)
          refine ⟨fun n σ H2 => ∃ l cs, σ = [some (.ref a), some (.int m), none, none] ∧ n = cs.length ∧ SrcAt H2 a c ⟨cs, l, s.mixed, s.turn⟩ ∧ Away H H2 a c ∧ popT cs.length l cs = popA s, ⟨_, s.left, s.cells, rfl, rfl, hs, Away.refl H a c, rfl⟩, ?_⟩
          rintro n σ H2 ⟨l, cs, rfl, rfl, h4, h5, h6⟩
          refine ⟨_, rfl, a, _, rfl, h4.left, _, _, rfl, rfl, _, rfl, ite2 (fun c1 => ?_) fun c1 => ?_⟩
          · have c1' : l < 2 := of_decide_eq_true c1
            refine ⟨_, rfl, a, _, rfl, h4.cells, c, _, rfl, Or.inl (Or.inl (Or.inl h4.2)), _, _, rfl, rfl, _, rfl, ite2 (fun c2 => ?_) fun c2 => ?_⟩
            · have c2' : (0 : Int) < ((cs.map V.int).length : Nat) := of_decide_eq_true c2
              have c3 : 0 < cs.length := by
                rw [List.length_map] at c2'
                omega
              refine ⟨_, fun σ' H' hN => ⟨cs.length - 1, by omega, hN⟩, ?_⟩
              have gl : (cs.map V.int)[(cs.map V.int).length - 1]? = some (.int (cs.getLastD 0)) := by
                rw [List.length_map, List.getElem?_map, ← List.getLast?_eq_getElem?]
                cases cs with
                | nil => exact absurd c3 (by simp)
                | cons z w => simp [List.getLastD_eq_getLast?, List.getLast?_cons]
              have hsC := h4.setCells cs.dropLast
              have eD : (cs.map V.int).dropLast = cs.dropLast.map V.int := by rw [List.map_dropLast]
              obtain ⟨H4, hp, eH, hs4⟩ := hsC.putLeft (cs.getLastD 0)
              refine ⟨_, rfl, a, _, rfl, h4.cells, Or.inl ⟨rfl, _, Or.inl (Or.inl h4.2)⟩, c, _, _, rfl, rfl, h4.2, gl, _, rfl, a, H4, rfl, ?_, cs.getLastD 0, cs.dropLast, rfl, by simp, hs4, ?_, ?_⟩
              · rw [eD]
                exact hp
              · rw [eH]
                exact h5.upC.upA
              · rw [← h6]
                obtain ⟨n, hn⟩ : ∃ n, cs.length = n + 1 := ⟨cs.length - 1, by omega⟩
                rw [List.length_dropLast, hn, popT_step ⟨c1', c3⟩, Nat.add_sub_cancel]
            · have c3 : cs.length = 0 := by
                have : ¬ (0 : Int) < ((cs.map V.int).length : Nat) := fun z => c2 (decide_eq_true z)
                rw [List.length_map] at this
                omega
              have hp : popA s = (l, cs) := by
                rw [← h6, c3]
                rfl
              have m0 : 0 < m := by omega
              refine ⟨_, rfl, a, _, rfl, h4.left, ?_⟩
              refine ⟨_, rfl, _, _, rfl, rfl, _, rfl, ite2 (fun c4 => ?_) fun c4 => ?_⟩
              · have c4' : 1 < l := of_decide_eq_true c4
                obtain ⟨H4, hq, eH, hs4⟩ := h4.putLeft (l / m)
                refine ⟨_, rfl, _, rfl, _, _, rfl, rfl, ⟨m0, hm'⟩, _, rfl, a, H4, rfl, hq, ?_⟩
                refine ⟨_, rfl, Or.inl ⟨_, rfl, _, rfl, _, _, rfl, rfl, m0, fin ?_ (by rw [eH]; exact h5.upA) hs4⟩⟩
                unfold pickB
                rw [if_neg e', hp, if_pos c4']
              · have c4' : ¬ 1 < l := fun z => c4 (decide_eq_true z)
                obtain ⟨H4, hq, eH, hs4⟩ := h4.putTurn (s.turn + 1)
                refine ⟨_, rfl, a, _, rfl, h4.turn, _, _, rfl, rfl, _, rfl, a, H4, rfl, hq, ?_⟩
                refine ⟨_, rfl, a, _, rfl, hs4.mixed, _, rfl, a, _, rfl, hs4.turn, _, _, rfl, rfl, Or.inr ⟨by decide, by decide⟩, _, _, rfl, rfl, Or.inl ⟨_, rfl, _, _, rfl, rfl, by show (0 : Int) < 998244353; decide, ?_⟩⟩
                have b0 : ∀ z : Int, -(2 ^ 64) < z % 998244353 ∧ z % 998244353 < 2 ^ 64 := fun z => ⟨by have := Int.emod_nonneg z (show (998244353 : Int) ≠ 0 by decide); omega, by have := Int.emod_lt_of_pos z (show (0 : Int) < 998244353 by decide); omega⟩
                refine ⟨_, rfl, _, rfl, _, _, rfl, rfl, Or.inl (b0 _), _, rfl, a, _, rfl, hs4.turn, _, _, rfl, rfl, Or.inr ⟨by decide, by decide⟩, _, _, rfl, rfl, Or.inl ⟨_, rfl, _, _, rfl, rfl, by show (0 : Int) < 2147483647; decide, ?_⟩⟩
                obtain ⟨H5, hq5, eH5, hs5⟩ := hs4.putMixed (turnA s 104729 17)
                refine ⟨_, rfl, _, rfl, a, H5, rfl, hq5, ?_⟩
                refine ⟨_, rfl, _, _, rfl, rfl, ⟨by decide, by decide⟩, Or.inl ⟨_, rfl, _, rfl, _, _, rfl, rfl, m0, fin ?_ (by rw [eH5, eH]; exact h5.upA.upA) hs5⟩⟩
                unfold pickB
                rw [if_neg e', hp, if_neg c4']
                rfl
          · have c1' : ¬ l < 2 := fun z => c1 (decide_eq_true z)
            have hp : popA s = (l, cs) := by
              rw [← h6]
              cases cs.length with
              | zero => rfl
              | succ n =>
                unfold popT
                rw [if_neg fun z => c1' z.1]
            have m0 : 0 < m := by omega
            refine ⟨_, rfl, a, _, rfl, h4.left, ?_⟩
            refine ⟨_, rfl, _, _, rfl, rfl, _, rfl, ite2 (fun c4 => ?_) fun c4 => ?_⟩
            · have c4' : 1 < l := of_decide_eq_true c4
              obtain ⟨H4, hq, eH, hs4⟩ := h4.putLeft (l / m)
              refine ⟨_, rfl, _, rfl, _, _, rfl, rfl, ⟨m0, hm'⟩, _, rfl, a, H4, rfl, hq, ?_⟩
              refine ⟨_, rfl, Or.inl ⟨_, rfl, _, rfl, _, _, rfl, rfl, m0, fin ?_ (by rw [eH]; exact h5.upA) hs4⟩⟩
              unfold pickB
              rw [if_neg e', hp, if_pos c4']
            · have c4' : ¬ 1 < l := fun z => c4 (decide_eq_true z)
              obtain ⟨H4, hq, eH, hs4⟩ := h4.putTurn (s.turn + 1)
              refine ⟨_, rfl, a, _, rfl, h4.turn, _, _, rfl, rfl, _, rfl, a, H4, rfl, hq, ?_⟩
              refine ⟨_, rfl, a, _, rfl, hs4.mixed, _, rfl, a, _, rfl, hs4.turn, _, _, rfl, rfl, Or.inr ⟨by decide, by decide⟩, _, _, rfl, rfl, Or.inl ⟨_, rfl, _, _, rfl, rfl, by show (0 : Int) < 998244353; decide, ?_⟩⟩
              have b0 : ∀ z : Int, -(2 ^ 64) < z % 998244353 ∧ z % 998244353 < 2 ^ 64 := fun z => ⟨by have := Int.emod_nonneg z (show (998244353 : Int) ≠ 0 by decide); omega, by have := Int.emod_lt_of_pos z (show (0 : Int) < 998244353 by decide); omega⟩
              refine ⟨_, rfl, _, rfl, _, _, rfl, rfl, Or.inl (b0 _), _, rfl, a, _, rfl, hs4.turn, _, _, rfl, rfl, Or.inr ⟨by decide, by decide⟩, _, _, rfl, rfl, Or.inl ⟨_, rfl, _, _, rfl, rfl, by show (0 : Int) < 2147483647; decide, ?_⟩⟩
              obtain ⟨H5, hq5, eH5, hs5⟩ := hs4.putMixed (turnA s 104729 17)
              refine ⟨_, rfl, _, rfl, a, H5, rfl, hq5, ?_⟩
              refine ⟨_, rfl, _, _, rfl, rfl, ⟨by decide, by decide⟩, Or.inl ⟨_, rfl, _, rfl, _, _, rfl, rfl, m0, fin ?_ (by rw [eH5, eH]; exact h5.upA.upA) hs5⟩⟩
              unfold pickB
              rw [if_neg e', hp, if_neg c4']
              rfl
      · cases h2
    · cases h2
end
section
variable {P : Program} {w : World} {K : PySem.W.Frag} {mg : Str → Option Value} {base : Heap} {ad : Nat → Addr} {fd : Nat → FuncData}
theorem sc15 : FnScope ["script", "source", "lap", "n", "fours", "total", "due", "d", "halves", "even", "k", "one", "other", "both", "twos", "again", "row", "a", "j"] ["script"] (defScope (top 19)) := ⟨rfl, rfl, rfl, by decide +kernel, rfl, by decide +kernel, by decide +kernel⟩
def e_law_0 : EF := (fCall F_count_four_squares (fCons (fVar 10) fNil))
def e_law_1 : EF := (fOp oMul (fIx (fRd 4) (fVar 10)) (fIx (fRd 4) (fOp oSub (fVar 3) (fVar 10))))
def b_law_2 : SF := (sIf (fTst (fOp oEq (fOp oMod (fR1 oInt (fRd 3)) (fVar 7)) (fC (.int 0)))) (sSet 6 (fOp oAdd (fVar 6) (fOp oMul (fOp oMul (fOp oMul (fVar 7) (fVar 7)) (fVar 7)) (fIf (fTst (fOp oEq (fOp oMul (fOp oDiv (fOp oAdd (fVar 3) (fVar 7)) (fC (.int 2))) (fC (.int 2))) (fOp oAdd (fVar 3) (fVar 7)))) (fC (.int 1)) (fOp oSub (fC (.int 0)) (fC (.int 1))))))) sNil)
def e_law_3 : EF := (fCall F_count_ways (fCons (fVar 10) fNil))
def e_law_4 : EF := (fOp oMul (fIx (fRd 14) (fVar 18)) (fIx (fRd 14) (fOp oSub (fVar 10) (fVar 18))))
def e_law_5 : EF := (fR1 oSum (fVal (fAsL (fComp [18] (fRng1 (fCons (fOp oAdd (fVar 10) (fC (.int 1))) fNil)) (gNm 18) fYes e_law_4))))
def e_law_6 : EF := (fCall F_count_fours (fCons (fVar 10) fNil))
def e_law_7 : EF := (fOp oMul (fIx (fRd 8) (fVar 10)) (fIx (fRd 8) (fOp oSub (fVar 3) (fVar 10))))
def e_law_8 : EF := (fOp oMul (fCall F_odd_divisor_sum (fCons (fVar 10) fNil)) (fCall F_odd_divisor_sum (fCons (fOp oSub (fOp oMul (fC (.int 2)) (fVar 3)) (fVar 10)) fNil)))
def e_law_9 : EF := (fOp oMul (fVar 17) (fVar 17))
def e_law_10 : EF := (fOp oMul (fC (.int 2)) (fVar 17))
def e_law_11 : EF := (fCall F_four_norm (fCons (fR1 oTuple (fVal (fAsL (fComp [17] (fSeq (fVar 16)) (gNm 17) fYes e_law_10)))) fNil))
def b_law_12 : SF := (sSeq (sSet 3 (fOp oAdd (fC (.int 1)) (fCallS 1 F_law_pick (fCons (fIf (fTst (fOp oEq (fVar 2) (fC (.int 0)))) (fC (.int 120)) (fC (.int 30))) fNil))))
    (sSeq (sSet 4 (fAsL (fCat (fAsL (fLst (fCons (fC (.int 1)) fNil))) (fAsL (fComp [10] (fRng2 (fCons (fC (.int 1)) (fCons (fOp oAdd (fVar 3) (fC (.int 1))) fNil))) (gNm 10) fYes e_law_0)))))
    (sSeq (sSet 5 (fR1 oSum (fVal (fAsL (fComp [10] (fRng1 (fCons (fOp oAdd (fVar 3) (fC (.int 1))) fNil)) (gNm 10) fYes e_law_1)))))
    (sSeq (sSet 6 (fC (.int 0)))
    (sSeq (sFor (fRng2 (fCons (fC (.int 1)) (fCons (fOp oAdd (fVar 3) (fC (.int 1))) fNil))) (gNm 7) b_law_2)
    (sSeq (sIf (fTst (fOp oNe (fVar 5) (fOp oMul (fC (.int 16)) (fVar 6)))) (sRet (fC (.bool false))) sNil)
    (sSeq (sIf (fTst (fOp oLt (fVar 3) (fC (.int 31)))) (sSeq (sSet 14 (fAsL (fCat (fAsL (fLst (fCons (fC (.int 1)) fNil))) (fAsL (fComp [10] (fRng2 (fCons (fC (.int 1)) (fCons (fOp oAdd (fVar 3) (fC (.int 1))) fNil))) (gNm 10) fYes e_law_3)))))
    (sSeq (sSet 15 (fAsL (fComp [10] (fRng1 (fCons (fOp oAdd (fVar 3) (fC (.int 1))) fNil)) (gNm 10) fYes e_law_5)))
    (sIf (fTst (fRepNe (fRd 15) (fRd 4))) (sRet (fC (.bool false))) sNil))) sNil)
    (sSeq (sSet 8 (fAsL (fCat (fAsL (fLst (fCons (fC (.int 1)) fNil))) (fAsL (fComp [10] (fRng2 (fCons (fC (.int 1)) (fCons (fOp oAdd (fVar 3) (fC (.int 1))) fNil))) (gNm 10) fYes e_law_6)))))
    (sSeq (sSet 5 (fR1 oSum (fVal (fAsL (fComp [10] (fRng1 (fCons (fOp oAdd (fVar 3) (fC (.int 1))) fNil)) (gNm 10) fYes e_law_7)))))
    (sSeq (sSet 9 (fIf (fTst (fOp oEq (fOp oMul (fOp oDiv (fVar 3) (fC (.int 2))) (fC (.int 2))) (fVar 3))) (fCall F_law_cubes (fCons (fOp oDiv (fVar 3) (fC (.int 2))) fNil)) (fC (.int 0))))
    (sSeq (sIf (fTst (fOp oNe (fVar 5) (fOp oAdd (fOp oMul (fC (.int 48)) (fCall F_law_cubes (fCons (fVar 3) fNil))) (fOp oMul (fC (.int 192)) (fVar 9))))) (sRet (fC (.bool false))) sNil)
    (sSeq (sSet 5 (fR1 oSum (fVal (fAsL (fComp [10] (fRng3 (fCons (fC (.int 1)) (fCons (fOp oMul (fC (.int 2)) (fVar 3)) (fCons (fC (.int 2)) fNil)))) (gNm 10) fYes e_law_8)))))
    (sSeq (sIf (fTst (fOp oNe (fOp oMul (fC (.int 8)) (fVar 5)) (fOp oSub (fCall F_law_cubes (fCons (fOp oMul (fC (.int 2)) (fVar 3)) fNil)) (fCall F_law_cubes (fCons (fVar 3) fNil))))) (sRet (fC (.bool false))) sNil)
    (sSeq (sSet 10 (fCallS 1 F_law_pick (fCons (fOp oAdd (fVar 3) (fC (.int 1))) fNil)))
    (sSeq (sPar 11 12 (fIf (fTst (fOp oGt (fVar 10) (fC (.int 0)))) (fCall F_any_four_squares (fCons (fVar 10) fNil)) (fOp oRepT (fTup (fCons (fC (.int 0)) fNil)) (fC (.int 4)))) (fIf (fTst (fOp oLt (fVar 10) (fVar 3))) (fCall F_any_four_squares (fCons (fOp oSub (fVar 3) (fVar 10)) fNil)) (fOp oRepT (fTup (fCons (fC (.int 0)) fNil)) (fC (.int 4)))))
    (sSeq (sIf (fTst (fOp oNe (fR1 oSum (fVal (fAsL (fComp [17] (fSeq (fOp oCatT (fVar 11) (fVar 12))) (gNm 17) fYes e_law_9)))) (fVar 3))) (sRet (fC (.bool false))) sNil)
    (sSeq (sSet 13 (fAsL (fComp [16] (fSeq (fTup (fCons (fVar 11) (fCons (fVar 12) fNil)))) (gNm 16) fYes e_law_11)))
    (sIf (fTst (fOp oNe (fVar 13) (fAsL (fLst (fCons (fVar 10) (fCons (fOp oSub (fVar 3) (fVar 10)) fNil)))))) (sRet (fC (.bool false))) sNil))))))))))))))))))
def b_law : SF := (sSeq (sFor (fRng1 (fCons (fC (.int 2)) fNil)) (gNm 2) b_law_12)
    (sRet (fAndV (fOp oEq (fOp oMul (fC (.int 2)) (fCall F_count_fours (fCons (fC (.int 1)) fNil))) (fC (.int 48))) (fOp oEq (fOp oAdd (fOp oMul (fC (.int 2)) (fCall F_count_fours (fCons (fC (.int 2)) fNil))) (fOp oMul (fCall F_count_fours (fCons (fC (.int 1)) fNil)) (fCall F_count_fours (fCons (fC (.int 1)) fNil)))) (fC (.int 624))))))
theorem d_law (hF : ∀ s : Src, ∃ ρ', b_law (startL 19 s) = some (.rt (.bool true) ρ')) (T : Tx K mg ad fd) : FnG P w K mg base 5 (ad 15) (fd 15) ["script"] (spLaw K) := by
  have DM := d_mk (P := P) (w := w) (base := base) T
  have D13 := d_law_pick (P := P) (w := w) (base := base) T
  have D6 := d_count_four_squares (P := P) (w := w) (base := base) T
  have D11 := d_count_ways (P := P) (w := w) (base := base) T
  have D5 := d_count_fours (P := P) (w := w) (base := base) T
  have D14 := d_law_cubes (P := P) (w := w) (base := base) T
  have D4 := d_odd_divisor_sum (P := P) (w := w) (base := base) T
  have D3 := d_any_four_squares (P := P) (w := w) (base := base) T
  have D0 := d_four_norm (P := P) (w := w) (base := base) T
  refine fnLaw (fb := b_law) T.F15 sc15 rfl (hb := fun cdv A outer s H hr hG => ⟨?_, ?_⟩) (hF := hF)
  · exact ps_set (i := 1) sc15.nd rfl (by first | exact Or.inl rfl | exact Or.inr rfl) (pe_callG DM (hr.mono (by decide)) hG rfl T.g12 T.F12.kp T.b12 (pa_cons (pv 0) pa_nil))
  exact (fss_cons (fs_for rfl (fi_rng1 (fa_cons fe_int fa_nil) rfl T.m_range) (fg_name (i := 2) sc15.nd rfl (by first | exact Or.inl rfl | exact Or.inr rfl)) (fss_cons (fs_set (i := 3) sc15.nd rfl (by first | exact Or.inl rfl | exact Or.inr rfl) (fe_add fe_int (fe_callS (i := 1) (fun _ h => pe_callG D13 (hr.mono (by decide)) hG rfl T.g13 T.F13.kp T.b13 (pa_cons (pv 1) h)) (fa_cons (fe_ifExp (ft_eq hr.units (fe_v 2 (pv 2)) fe_int) fe_int fe_int) fa_nil))))
    (fss_cons (fs_set (i := 4) sc15.nd rfl (by first | exact Or.inl rfl | exact Or.inr rfl) (FL.fe (fl_cat (FL.fe (fl_lst (fa_cons fe_int fa_nil))) (FL.fe (fl_lc [("k", 10)] rfl sc15.nd (fi_rng2 (fa_cons fe_int (fa_cons (fe_add (fe_v 3 (pv 3)) fe_int) fa_nil)) rfl T.m_range) (blkOk_by (N := ["script", "source", "lap", "n", "fours", "total", "due", "d", "halves", "even", "k", "one", "other", "both", "twos", "again", "row", "a", "j"]) (sc := defScope (top 19)) (by decide +kernel)) (fun _ _ _ _ _ => (fg_name (i := 10) sc15.nd rfl (by first | exact Or.inl rfl | exact Or.inr rfl))) (fun _ _ _ _ _ => fts_nil) (fun _ _ _ _ _ => (fe_call D6 (hr.mono (by decide)) hG rfl T.g6 T.F6.kp T.b6 (fa_cons (fe_v 10 (pv 10)) fa_nil))))))))
    (fss_cons (fs_set (i := 5) sc15.nd rfl (by first | exact Or.inl rfl | exact Or.inr rfl) (fe_sum rfl (FE.rd (FL.fe (fl_lc [("k", 10)] rfl sc15.nd (fi_rng1 (fa_cons (fe_add (fe_v 3 (pv 3)) fe_int) fa_nil) rfl T.m_range) (blkOk_by (N := ["script", "source", "lap", "n", "fours", "total", "due", "d", "halves", "even", "k", "one", "other", "both", "twos", "again", "row", "a", "j"]) (sc := defScope (top 19)) (by decide +kernel)) (fun _ _ _ _ _ => (fg_name (i := 10) sc15.nd rfl (by first | exact Or.inl rfl | exact Or.inr rfl))) (fun _ _ _ _ _ => fts_nil) (fun _ _ _ _ _ => (fe_mul (fe_ix (fr_v 4 (pv 4)) (fe_v 10 (pv 10))) (fe_ix (fr_v 4 (pv 4)) (fe_sub (fe_v 3 (pv 3)) (fe_v 10 (pv 10))))))))) rfl T.m_sum))
    (fss_cons (fs_set (i := 6) sc15.nd rfl (by first | exact Or.inl rfl | exact Or.inr rfl) fe_int)
    (fss_cons (fs_for rfl (fi_rng2 (fa_cons fe_int (fa_cons (fe_add (fe_v 3 (pv 3)) fe_int) fa_nil)) rfl T.m_range) (fg_name (i := 7) sc15.nd rfl (by first | exact Or.inl rfl | exact Or.inr rfl)) (fss_one (fs_if (ft_eq hr.units (fe_mod (fe_intC (fr_v 3 (pv 3)) rfl T.m_int) (fe_v 7 (pv 7))) fe_int) (fss_one (fs_set (i := 6) sc15.nd rfl (by first | exact Or.inl rfl | exact Or.inr rfl) (fe_add (fe_v 6 (pv 6)) (fe_mul (fe_mul (fe_mul (fe_v 7 (pv 7)) (fe_v 7 (pv 7))) (fe_v 7 (pv 7))) (fe_ifExp (ft_eq hr.units (fe_mul (fe_fdiv (fe_add (fe_v 3 (pv 3)) (fe_v 7 (pv 7))) fe_int) fe_int) (fe_add (fe_v 3 (pv 3)) (fe_v 7 (pv 7)))) fe_int (fe_sub fe_int fe_int)))))) fss_nil)))
    (fss_cons (fs_if (ft_ne hr.units (fe_v 5 (pv 5)) (fe_mul fe_int (fe_v 6 (pv 6)))) (fss_one (fs_ret fe_bl)) fss_nil)
    (fss_cons (fs_if (ft_lt (fe_v 3 (pv 3)) fe_int) (fss_cons (fs_set (i := 14) sc15.nd rfl (by first | exact Or.inl rfl | exact Or.inr rfl) (FL.fe (fl_cat (FL.fe (fl_lst (fa_cons fe_int fa_nil))) (FL.fe (fl_lc [("k", 10)] rfl sc15.nd (fi_rng2 (fa_cons fe_int (fa_cons (fe_add (fe_v 3 (pv 3)) fe_int) fa_nil)) rfl T.m_range) (blkOk_by (N := ["script", "source", "lap", "n", "fours", "total", "due", "d", "halves", "even", "k", "one", "other", "both", "twos", "again", "row", "a", "j"]) (sc := defScope (top 19)) (by decide +kernel)) (fun _ _ _ _ _ => (fg_name (i := 10) sc15.nd rfl (by first | exact Or.inl rfl | exact Or.inr rfl))) (fun _ _ _ _ _ => fts_nil) (fun _ _ _ _ _ => (fe_call D11 (hr.mono (by decide)) hG rfl T.g11 T.F11.kp T.b11 (fa_cons (fe_v 10 (pv 10)) fa_nil))))))))
    (fss_cons (fs_lcV (i := 15) [("k", 10)] rfl sc15.nd rfl rfl (sw_true rfl rfl rfl (by decide +kernel)) (fi_rng1 (fa_cons (fe_add (fe_v 3 (pv 3)) fe_int) fa_nil) rfl T.m_range) (blkOk_by (N := ["script", "source", "lap", "n", "fours", "total", "due", "d", "halves", "even", "k", "one", "other", "both", "twos", "again", "row", "a", "j"]) (sc := defScope (top 19)) (by decide +kernel)) (fun _ _ _ _ _ => (fg_name (i := 10) sc15.nd rfl (by first | exact Or.inl rfl | exact Or.inr rfl))) (fun _ _ _ _ _ => fts_nil) (fun _ _ _ _ _ => (fe_sum rfl (FE.rd (FL.fe (fl_lc [("j", 18)] rfl sc15.nd (fi_rng1 (fa_cons (fe_add (fe_v 10 (pv 10)) fe_int) fa_nil) rfl T.m_range) (blkOk_rel (blkOk_by (N := ["script", "source", "lap", "n", "fours", "total", "due", "d", "halves", "even", "k", "one", "other", "both", "twos", "again", "row", "a", "j"]) (by decide +kernel))) (fun _ _ _ _ _ => (fg_name (i := 18) sc15.nd rfl (by first | exact Or.inl rfl | exact Or.inr rfl))) (fun _ _ _ _ _ => fts_nil) (fun _ _ _ _ _ => (fe_mul (fe_ix (fr_v 14 (pv 14)) (fe_v 18 (pv 18))) (fe_ix (fr_v 14 (pv 14)) (fe_sub (fe_v 10 (pv 10)) (fe_v 18 (pv 18))))))))) rfl T.m_sum)))
    (fss_one (fs_if (ft_repNe hr.units hG (fr_v 15 (pv 15)) (fr_v 4 (pv 4)) rfl T.m_repr) (fss_one (fs_ret fe_bl)) fss_nil)))) fss_nil)
    (fss_cons (fs_set (i := 8) sc15.nd rfl (by first | exact Or.inl rfl | exact Or.inr rfl) (FL.fe (fl_cat (FL.fe (fl_lst (fa_cons fe_int fa_nil))) (FL.fe (fl_lc [("k", 10)] rfl sc15.nd (fi_rng2 (fa_cons fe_int (fa_cons (fe_add (fe_v 3 (pv 3)) fe_int) fa_nil)) rfl T.m_range) (blkOk_by (N := ["script", "source", "lap", "n", "fours", "total", "due", "d", "halves", "even", "k", "one", "other", "both", "twos", "again", "row", "a", "j"]) (sc := defScope (top 19)) (by decide +kernel)) (fun _ _ _ _ _ => (fg_name (i := 10) sc15.nd rfl (by first | exact Or.inl rfl | exact Or.inr rfl))) (fun _ _ _ _ _ => fts_nil) (fun _ _ _ _ _ => (fe_call D5 (hr.mono (by decide)) hG rfl T.g5 T.F5.kp T.b5 (fa_cons (fe_v 10 (pv 10)) fa_nil))))))))
    (fss_cons (fs_set (i := 5) sc15.nd rfl (by first | exact Or.inl rfl | exact Or.inr rfl) (fe_sum rfl (FE.rd (FL.fe (fl_lc [("k", 10)] rfl sc15.nd (fi_rng1 (fa_cons (fe_add (fe_v 3 (pv 3)) fe_int) fa_nil) rfl T.m_range) (blkOk_by (N := ["script", "source", "lap", "n", "fours", "total", "due", "d", "halves", "even", "k", "one", "other", "both", "twos", "again", "row", "a", "j"]) (sc := defScope (top 19)) (by decide +kernel)) (fun _ _ _ _ _ => (fg_name (i := 10) sc15.nd rfl (by first | exact Or.inl rfl | exact Or.inr rfl))) (fun _ _ _ _ _ => fts_nil) (fun _ _ _ _ _ => (fe_mul (fe_ix (fr_v 8 (pv 8)) (fe_v 10 (pv 10))) (fe_ix (fr_v 8 (pv 8)) (fe_sub (fe_v 3 (pv 3)) (fe_v 10 (pv 10))))))))) rfl T.m_sum))
    (fss_cons (fs_set (i := 9) sc15.nd rfl (by first | exact Or.inl rfl | exact Or.inr rfl) (fe_ifExp (ft_eq hr.units (fe_mul (fe_fdiv (fe_v 3 (pv 3)) fe_int) fe_int) (fe_v 3 (pv 3))) (fe_call D14 (hr.mono (by decide)) hG rfl T.g14 T.F14.kp T.b14 (fa_cons (fe_fdiv (fe_v 3 (pv 3)) fe_int) fa_nil)) fe_int))
    (fss_cons (fs_if (ft_ne hr.units (fe_v 5 (pv 5)) (fe_add (fe_mul fe_int (fe_call D14 (hr.mono (by decide)) hG rfl T.g14 T.F14.kp T.b14 (fa_cons (fe_v 3 (pv 3)) fa_nil))) (fe_mul fe_int (fe_v 9 (pv 9))))) (fss_one (fs_ret fe_bl)) fss_nil)
    (fss_cons (fs_set (i := 5) sc15.nd rfl (by first | exact Or.inl rfl | exact Or.inr rfl) (fe_sum rfl (FE.rd (FL.fe (fl_lc [("k", 10)] rfl sc15.nd (fi_rng3 (fa_cons fe_int (fa_cons (fe_mul fe_int (fe_v 3 (pv 3))) (fa_cons fe_int fa_nil))) rfl T.m_range) (blkOk_by (N := ["script", "source", "lap", "n", "fours", "total", "due", "d", "halves", "even", "k", "one", "other", "both", "twos", "again", "row", "a", "j"]) (sc := defScope (top 19)) (by decide +kernel)) (fun _ _ _ _ _ => (fg_name (i := 10) sc15.nd rfl (by first | exact Or.inl rfl | exact Or.inr rfl))) (fun _ _ _ _ _ => fts_nil) (fun _ _ _ _ _ => (fe_mul (fe_call D4 (hr.mono (by decide)) hG rfl T.g4 T.F4.kp T.b4 (fa_cons (fe_v 10 (pv 10)) fa_nil)) (fe_call D4 (hr.mono (by decide)) hG rfl T.g4 T.F4.kp T.b4 (fa_cons (fe_sub (fe_mul fe_int (fe_v 3 (pv 3))) (fe_v 10 (pv 10))) fa_nil))))))) rfl T.m_sum))
    (fss_cons (fs_if (ft_ne hr.units (fe_mul fe_int (fe_v 5 (pv 5))) (fe_sub (fe_call D14 (hr.mono (by decide)) hG rfl T.g14 T.F14.kp T.b14 (fa_cons (fe_mul fe_int (fe_v 3 (pv 3))) fa_nil)) (fe_call D14 (hr.mono (by decide)) hG rfl T.g14 T.F14.kp T.b14 (fa_cons (fe_v 3 (pv 3)) fa_nil)))) (fss_one (fs_ret fe_bl)) fss_nil)
    (fss_cons (fs_set (i := 10) sc15.nd rfl (by first | exact Or.inl rfl | exact Or.inr rfl) (fe_callS (i := 1) (fun _ h => pe_callG D13 (hr.mono (by decide)) hG rfl T.g13 T.F13.kp T.b13 (pa_cons (pv 1) h)) (fa_cons (fe_add (fe_v 3 (pv 3)) fe_int) fa_nil)))
    (fss_cons (fs_par (i := 11) (j := 12) (fun _ _ h h2 => ps_par rfl sc15.nd rfl rfl (by decide) rfl rfl (pa_cons h (pa_cons h2 pa_nil)) rfl) (fe_ifExp (ft_gt (fe_v 10 (pv 10)) fe_int) (fe_call D3 (hr.mono (by decide)) hG rfl T.g3 T.F3.kp T.b3 (fa_cons (fe_v 10 (pv 10)) fa_nil)) (fe_repT (fe_tup (fa_cons fe_int fa_nil)) fe_int)) (fe_ifExp (ft_lt (fe_v 10 (pv 10)) (fe_v 3 (pv 3))) (fe_call D3 (hr.mono (by decide)) hG rfl T.g3 T.F3.kp T.b3 (fa_cons (fe_sub (fe_v 3 (pv 3)) (fe_v 10 (pv 10))) fa_nil)) (fe_repT (fe_tup (fa_cons fe_int fa_nil)) fe_int)))
    (fss_cons (fs_if (ft_ne hr.units (fe_sum rfl (FE.rd (FL.fe (fl_lc [("a", 17)] rfl sc15.nd (fi_seq (fe_catT (fe_v 11 (pv 11)) (fe_v 12 (pv 12)))) (blkOk_by (N := ["script", "source", "lap", "n", "fours", "total", "due", "d", "halves", "even", "k", "one", "other", "both", "twos", "again", "row", "a", "j"]) (sc := defScope (top 19)) (by decide +kernel)) (fun _ _ _ _ _ => (fg_name (i := 17) sc15.nd rfl (by first | exact Or.inl rfl | exact Or.inr rfl))) (fun _ _ _ _ _ => fts_nil) (fun _ _ _ _ _ => (fe_mul (fe_v 17 (pv 17)) (fe_v 17 (pv 17))))))) rfl T.m_sum) (fe_v 3 (pv 3))) (fss_one (fs_ret fe_bl)) fss_nil)
    (fss_cons (fs_lcV (i := 13) [("row", 16)] rfl sc15.nd rfl rfl (sw_true rfl rfl rfl (by decide +kernel)) (fi_seq (fe_tup (fa_cons (fe_v 11 (pv 11)) (fa_cons (fe_v 12 (pv 12)) fa_nil)))) (blkOk_by (N := ["script", "source", "lap", "n", "fours", "total", "due", "d", "halves", "even", "k", "one", "other", "both", "twos", "again", "row", "a", "j"]) (sc := defScope (top 19)) (by decide +kernel)) (fun _ _ _ _ _ => (fg_name (i := 16) sc15.nd rfl (by first | exact Or.inl rfl | exact Or.inr rfl))) (fun _ _ _ _ _ => fts_nil) (fun _ _ _ _ _ => (fe_call D0 (hr.mono (by decide)) hG rfl T.g0 T.F0.kp T.b0 (fa_cons (fe_tuple (FE.rd (FL.fe (fl_lc [("a", 17)] rfl sc15.nd (fi_seq (fe_v 16 (pv 16))) (blkOk_rel (blkOk_by (N := ["script", "source", "lap", "n", "fours", "total", "due", "d", "halves", "even", "k", "one", "other", "both", "twos", "again", "row", "a", "j"]) (by decide +kernel))) (fun _ _ _ _ _ => (fg_name (i := 17) sc15.nd rfl (by first | exact Or.inl rfl | exact Or.inr rfl))) (fun _ _ _ _ _ => fts_nil) (fun _ _ _ _ _ => (fe_mul fe_int (fe_v 17 (pv 17))))))) rfl T.m_tuple) fa_nil))))
    (fss_one (fs_if (ft_ne hr.units (fe_v 13 (pv 13)) (FL.fe (fl_lst (fa_cons (fe_v 10 (pv 10)) (fa_cons (fe_sub (fe_v 3 (pv 3)) (fe_v 10 (pv 10))) fa_nil))))) (fss_one (fs_ret fe_bl)) fss_nil))))))))))))))))))))
    (fss_one (fs_ret (fe_and (fe_eq hr.units (fe_mul fe_int (fe_call D5 (hr.mono (by decide)) hG rfl T.g5 T.F5.kp T.b5 (fa_cons fe_int fa_nil))) fe_int) (fe_one (fe_eq hr.units (fe_add (fe_mul fe_int (fe_call D5 (hr.mono (by decide)) hG rfl T.g5 T.F5.kp T.b5 (fa_cons fe_int fa_nil))) (fe_mul (fe_call D5 (hr.mono (by decide)) hG rfl T.g5 T.F5.kp T.b5 (fa_cons fe_int fa_nil)) (fe_call D5 (hr.mono (by decide)) hG rfl T.g5 T.F5.kp T.b5 (fa_cons fe_int fa_nil)))) fe_int))))))
end
end K29
namespace K29
open PySem PySem.Spec PyProof.Rows L2 Fe
def tOd : List Int := [0, 1, 1, 4, 1, 6, 4, 8, 1, 13, 6, 12, 4, 14, 8, 24, 1, 18, 13, 20, 6, 32, 12, 24, 4, 31, 14, 40, 8, 30, 24, 32, 1, 48, 18, 48, 13, 38, 20, 56, 6, 42, 32, 44, 12, 78, 24, 48, 4, 57, 31, 72, 14, 54, 40, 72, 8, 80, 30, 60, 24, 62, 32, 104, 1, 84, 48, 68, 18, 96, 48, 72, 13, 74, 38, 124, 20, 96, 56, 80, 6, 121, 42, 84, 32, 108, 44, 120, 12, 90, 78, 112, 24, 128, 48, 120, 4, 98, 57, 156, 31, 102, 72, 104, 14, 192, 54, 108, 40, 110, 72, 152, 8, 114, 80, 144, 30, 182, 60, 144, 24, 133, 62, 168, 32, 156, 104, 128, 1, 176, 84, 132, 48, 160, 68, 240, 18, 138, 96, 140, 48, 192, 72, 168, 13, 180, 74, 228, 38, 150, 124, 152, 20, 234, 96, 192, 56, 158, 80, 216, 6, 192, 121, 164, 42, 288, 84, 168, 32, 183, 108, 260, 44, 174, 120, 248, 12, 240, 90, 180, 78, 182, 112, 248, 24, 228, 128, 216, 48, 320, 120, 192, 4, 194, 98, 336, 57, 198, 156, 200, 31, 272, 102, 240, 72, 252, 104, 312, 14, 240, 192, 212, 54, 288, 108, 264, 40, 256, 110, 296, 72, 252, 152, 224, 8, 403, 114, 228, 80, 230, 144, 384, 30, 234, 182, 288, 60, 320, 144, 240]
def tCu : List Int := [0, 1, 9, 28, 73, 126, 252, 344, 585, 757, 1134, 1332, 2044, 2198, 3096, 3528, 4681, 4914, 6813, 6860, 9198, 9632, 11988, 12168, 16380, 15751, 19782, 20440, 25112, 24390, 31752, 29792, 37449, 37296, 44226, 43344, 55261, 50654, 61740, 61544, 73710, 68922, 86688, 79508, 97236, 95382, 109512, 103824, 131068, 117993, 141759, 137592, 160454, 148878, 183960, 167832, 201240, 192080, 219510, 205380, 257544, 226982, 268128, 260408, 299593, 276948, 335664, 300764, 358722, 340704, 390096, 357912, 442845, 389018, 455886, 441028, 500780, 458208, 553896, 493040, 589806, 551881, 620298, 571788, 703136, 619164, 715572, 682920, 779220, 704970, 858438, 756112, 888264, 834176, 934416, 864360, 1048572, 912674, 1061937, 1008324, 1149823, 1030302, 1238328, 1092728, 1285830, 1213632, 1339902, 1225044, 1492120, 1295030, 1510488, 1418312, 1610264, 1442898, 1728720, 1533168, 1780470, 1663886, 1848420, 1690416, 2063880, 1772893, 2042838, 1929816, 2174816, 1968876, 2343672, 2048384, 2396745, 2226224, 2492532, 2248092, 2722608, 2359840, 2706876, 2575440, 2874690, 2571354, 3066336, 2685620, 3164112, 2907072, 3221208, 2927736, 3543517, 3073140, 3501162, 3303804, 3697742, 3307950, 3969252, 3442952, 4013100, 3719898, 4123872, 3753792, 4492712, 3869894, 4437360, 4168584, 4718574, 4185792, 4966929, 4330748, 5031306, 4699296, 5146092, 4657464, 5634720, 4829007, 5572476, 5193020, 5804084, 5177718, 6146280, 5418344, 6235092, 5750640, 6344730, 5735340, 6962886, 5929742, 6805008, 6355496, 7118280, 6382404, 7507584, 6545448, 7579152, 7031360, 7779240, 6967872, 8388604, 7189058, 8214066, 7754544, 8613489, 7645374, 9074916, 7880600, 9214335, 8421392, 9272718, 8390160, 10044216, 8684172, 9834552, 9211176, 10288838, 9137520, 10922688, 9393932, 10868094, 10021536, 11025396, 10018008, 11957400, 10248448, 11655270, 10892504, 12251736, 10800972, 12764808, 11089568, 12882456, 11923507, 12986082, 11697084, 14021840, 12008990, 13798512, 12829824, 14268150, 12649338, 14974974, 13081824, 14992740, 13805120, 15213744, 13651920, 16514568]
def tR4 : List Int := [1, 8, 24, 32, 24, 48, 96, 64, 24, 104, 144, 96, 96, 112, 192, 192, 24, 144, 312, 160, 144, 256, 288, 192, 96, 248, 336, 320, 192, 240, 576, 256, 24, 384, 432, 384, 312, 304, 480, 448, 144, 336, 768, 352, 288, 624, 576, 384, 96, 456, 744, 576, 336, 432, 960, 576, 192, 640, 720, 480, 576, 496, 768, 832, 24, 672, 1152, 544, 432, 768, 1152, 576, 312, 592, 912, 992, 480, 768, 1344, 640, 144, 968, 1008, 672, 768, 864, 1056, 960, 288, 720, 1872, 896, 576, 1024, 1152, 960, 96, 784, 1368, 1248, 744, 816, 1728, 832, 336, 1536, 1296, 864, 960, 880, 1728, 1216, 192, 912, 1920, 1152, 720, 1456, 1440, 1152, 576]
def tRF : List Int := [1, 24, 24, 96, 24, 144, 96, 192, 24, 312, 144, 288, 96, 336, 192, 576, 24, 432, 312, 480, 144, 768, 288, 576, 96, 744, 336, 960, 192, 720, 576, 768, 24, 1152, 432, 1152, 312, 912, 480, 1344, 144, 1008, 768, 1056, 288, 1872, 576, 1152, 96, 1368, 744, 1728, 336, 1296, 960, 1728, 192, 1920, 720, 1440, 576, 1488, 768, 2496, 24, 2016, 1152, 1632, 432, 2304, 1152, 1728, 312, 1776, 912, 2976, 480, 2304, 1344, 1920, 144, 2904, 1008, 2016, 768, 2592, 1056, 2880, 288, 2160, 1872, 2688, 576, 3072, 1152, 2880, 96, 2352, 1368, 3744, 744, 2448, 1728, 2496, 336, 4608, 1296, 2592, 960, 2640, 1728, 3648, 192, 2736, 1920, 3456, 720, 4368, 1440, 3456, 576]
def tR2 : List Int := [1, 4, 4, 0, 4, 8, 0, 0, 4, 4, 8, 0, 0, 8, 0, 0, 4, 8, 4, 0, 8, 0, 0, 0, 0, 12, 8, 0, 0, 8, 0]
def tSq : List (List Int) := [[0, 0, 0, 0], [1, 0, 0, 0], [1, 1, 0, 0], [1, 1, 1, 0], [2, 0, 0, 0], [2, 1, 0, 0], [2, 1, 1, 0], [2, 1, 1, 1], [2, 2, 0, 0], [3, 0, 0, 0], [3, 1, 0, 0], [3, 1, 1, 0], [3, 1, 1, 1], [3, 2, 0, 0], [3, 2, 1, 0], [3, 2, 1, 1], [4, 0, 0, 0], [4, 1, 0, 0], [4, 1, 1, 0], [4, 1, 1, 1], [4, 2, 0, 0], [4, 2, 1, 0], [4, 2, 1, 1], [3, 3, 2, 1], [4, 2, 2, 0], [5, 0, 0, 0], [5, 1, 0, 0], [5, 1, 1, 0], [5, 1, 1, 1], [5, 2, 0, 0], [5, 2, 1, 0], [5, 2, 1, 1], [4, 4, 0, 0], [5, 2, 2, 0], [5, 3, 0, 0], [5, 3, 1, 0], [6, 0, 0, 0], [6, 1, 0, 0], [6, 1, 1, 0], [6, 1, 1, 1], [6, 2, 0, 0], [6, 2, 1, 0], [6, 2, 1, 1], [5, 4, 1, 1], [6, 2, 2, 0], [6, 3, 0, 0], [6, 3, 1, 0], [6, 3, 1, 1], [6, 2, 2, 2], [7, 0, 0, 0], [7, 1, 0, 0], [7, 1, 1, 0], [7, 1, 1, 1], [7, 2, 0, 0], [7, 2, 1, 0], [7, 2, 1, 1], [6, 4, 2, 0], [7, 2, 2, 0], [7, 3, 0, 0], [7, 3, 1, 0], [7, 3, 1, 1], [7, 2, 2, 2], [7, 3, 2, 0], [7, 3, 2, 1], [8, 0, 0, 0], [8, 1, 0, 0], [8, 1, 1, 0], [8, 1, 1, 1], [8, 2, 0, 0], [8, 2, 1, 0], [8, 2, 1, 1], [7, 3, 3, 2], [8, 2, 2, 0], [8, 3, 0, 0], [8, 3, 1, 0], [8, 3, 1, 1], [8, 2, 2, 2], [8, 3, 2, 0], [8, 3, 2, 1], [7, 5, 2, 1], [8, 4, 0, 0], [9, 0, 0, 0], [9, 1, 0, 0], [9, 1, 1, 0], [9, 1, 1, 1], [9, 2, 0, 0], [9, 2, 1, 0], [9, 2, 1, 1], [8, 4, 2, 2], [9, 2, 2, 0], [9, 3, 0, 0], [9, 3, 1, 0], [9, 3, 1, 1], [9, 2, 2, 2], [9, 3, 2, 0], [9, 3, 2, 1], [8, 4, 4, 0], [9, 4, 0, 0], [9, 4, 1, 0], [9, 4, 1, 1], [10, 0, 0, 0], [10, 1, 0, 0], [10, 1, 1, 0], [10, 1, 1, 1], [10, 2, 0, 0], [10, 2, 1, 0], [10, 2, 1, 1], [9, 5, 1, 0], [10, 2, 2, 0], [10, 3, 0, 0], [10, 3, 1, 0], [10, 3, 1, 1], [10, 2, 2, 2], [10, 3, 2, 0], [10, 3, 2, 1], [9, 5, 3, 0], [10, 4, 0, 0], [10, 4, 1, 0], [10, 4, 1, 1], [10, 3, 3, 1], [10, 4, 2, 0]]
def odk (n k : Nat) : Int := ((irgC 1 2 k).filter fun d => decide ((n : Int) % d = 0)).sum
def cuc (n : Nat) : Int := (((irg 1 n).filter fun d => decide ((n : Int) % d = 0)).map fun d => d * d * d).sum
def r4c (n : Nat) : Int := 8 * ((irg 1 n).filter fun d => decide ((n : Int) % d = 0) && !decide (d % 4 = 0)).sum
theorem rc_all : ((List.range 301).all fun n => rcOk 1 ((n : Int) + 1) 2 && Nat.beq (Builtin.Range.rangeSize 1 ((n : Int) + 1) 2).toNat ((n + 1) / 2)) = true := by decide +kernel
theorem F_od {n k : Nat} (h3 : rcOk 1 ((n : Int) + 1) 2 = true) (h2 : (Builtin.Range.rangeSize 1 ((n : Int) + 1) 2).toNat = k) (h : k ≤ 300) : F_odd_divisor_sum [.int (n : Int)] = some (.int (odk n k)) := by
  have hz := rngC_ble (lo := 1) (c := 2) (n := k) (by omega)
  have hc := cl_fI (vs := [1]) (g := gNm 1) (c := c_odd_divisor_sum_0) (e := e_odd_divisor_sum_1) (ρ := [.v (.int (n : Int)), .un]) (fun d => decide ((n : Int) % d = 0)) (fun d => d) (ns := irgC 1 2 k) fun d hd => by
    obtain ⟨j, hj, rfl⟩ := mem_irgC hd
    have hm : modOk (1 + (j : Int) * 2) = true := modOk_of (by omega)
    refine ⟨[.v (.int (n : Int)), .v (.int (1 + (j : Int) * 2))], rfl, ?_, fun _ => rfl, rfl⟩
    simp only [c_odd_divisor_sum_0, fC, fVar, rdS, Rf.get, fRd, bnd, Fe.ret, fOp, fUn, fTst, fNot, fAnd, fOr, fIf, fBool, fNil, fCons, fTup, fLst, fAsL, fVal, fAndV, fOrV, fNotV, oI, oIc, oNeg, oIsN, oNotN, oIx, fIx, fR1, fR1L, oLen, oList, oTuple, oInt, oAbs, fRep, fCat, sNil, sThen, sSeq, sSet, sOwn, sRet, sRetN, sDrop, sIf, sTg, gNm, gNil', gCons', gTp, sFor, frzS, fSeq, fRng1, fRng2, fEnum, fZip, fComp, fYes, sApp, sExt, sIx, fPop, fPopAt, sPar, fCall, fCallS, oEq_int, oNe_int, List.getElem?_cons_zero, List.getElem?_cons_succ, List.set_cons_zero, List.set_cons_succ, oAdd, oSub, oMul, oDiv, oMod, oLt, oLe, oGt, oGe, oMin, oMax, oPow, decide_eq_true_eq, if_true, if_false, Bool.false_eq_true, Bool.not_true, Bool.not_false, decide_true, decide_false, List.length_cons, List.length_nil, List.length_map, Bool.and_self, fOpR, fChain, oCatT, oRepT, fStar, fSlL, fSlT, fRev, oNn, oSm, oIsB, oNotB, sParO1, sParO2, sParO3, fRng3, Nat.reduceAdd, Nat.reduceBEq, bleN0, bleN1, bleN2, bleN3, bleN4, bleN5, bleN6, bleN7, bleN8, hm]
  rw [← rngC_eq, List.map_id'] at hc
  refine runF_rt (ρ := [.v (.int (n : Int)), .un]) ?_
  show b_odd_divisor_sum [.v (.int (n : Int)), .un] = _
  simp only [b_odd_divisor_sum, fC, fVar, rdS, Rf.get, fRd, bnd, Fe.ret, fOp, fUn, fTst, fNot, fAnd, fOr, fIf, fBool, fNil, fCons, fTup, fLst, fAsL, fVal, fAndV, fOrV, fNotV, oI, oIc, oNeg, oIsN, oNotN, oIx, fIx, fR1, fR1L, oLen, oList, oTuple, oInt, oAbs, fRep, fCat, sNil, sThen, sSeq, sSet, sOwn, sRet, sRetN, sDrop, sIf, sTg, gNm, gNil', gCons', gTp, sFor, frzS, fSeq, fRng1, fRng2, fEnum, fZip, fComp, fYes, sApp, sExt, sIx, fPop, fPopAt, sPar, fCall, fCallS, oEq_int, oNe_int, List.getElem?_cons_zero, List.getElem?_cons_succ, List.set_cons_zero, List.set_cons_succ, oAdd, oSub, oMul, oDiv, oMod, oLt, oLe, oGt, oGe, oMin, oMax, oPow, decide_eq_true_eq, if_true, if_false, Bool.false_eq_true, Bool.not_true, Bool.not_false, decide_true, decide_false, List.length_cons, List.length_nil, List.length_map, Bool.and_self, fOpR, fChain, oCatT, oRepT, fStar, fSlL, fSlT, fRev, oNn, oSm, oIsB, oNotB, sParO1, sParO2, sParO3, fRng3, Nat.reduceAdd, Nat.reduceBEq, bleN0, bleN1, bleN2, bleN3, bleN4, bleN5, bleN6, bleN7, bleN8, h3, h2, hz, hc, wipeE, oSum, intsD_map]
  rfl
theorem F_cu {n : Nat} (h : n ≤ 300) : F_law_cubes [.int (n : Int)] = some (.int (cuc n)) := by
  have hz := rngL_ble (lo := 1) (n := n) (by omega)
  have hb : (inB 1 && inB ((n : Int) + 1)) = true := by rw [inB_of (j := (n : Int) + 1) (by omega) (by omega)]; rfl
  have hn : ((n : Int) + 1 - 1).toNat = n := by omega
  have hc := cl_fI (vs := [1]) (g := gNm 1) (c := c_law_cubes_0) (e := e_law_cubes_1) (ρ := [.v (.int (n : Int)), .un]) (fun d => decide ((n : Int) % d = 0)) (fun d => d * d * d) (ns := irg 1 n) fun d hd => by
    obtain ⟨k, hk, rfl⟩ := mem_irg hd
    have hm : modOk (1 + (k : Int)) = true := modOk_of (by omega)
    have hs : Sm (1 + (k : Int)) := Sm_of (by omega) (by omega)
    have hq : (1 + (k : Int)) * (1 + (k : Int)) ≤ 4000 * 4000 := Int.mul_le_mul (by omega) (by omega) (by omega) (by omega)
    have hp : 0 ≤ (1 + (k : Int)) * (1 + (k : Int)) := Int.mul_nonneg (by omega) (by omega)
    have hs2 : Sm ((1 + (k : Int)) * (1 + (k : Int))) := Sm_of (by omega) (by omega)
    refine ⟨[.v (.int (n : Int)), .v (.int (1 + (k : Int)))], rfl, ?_, fun _ => ?_, rfl⟩
    · simp only [c_law_cubes_0, fC, fVar, rdS, Rf.get, fRd, bnd, Fe.ret, fOp, fUn, fTst, fNot, fAnd, fOr, fIf, fBool, fNil, fCons, fTup, fLst, fAsL, fVal, fAndV, fOrV, fNotV, oI, oIc, oNeg, oIsN, oNotN, oIx, fIx, fR1, fR1L, oLen, oList, oTuple, oInt, oAbs, fRep, fCat, sNil, sThen, sSeq, sSet, sOwn, sRet, sRetN, sDrop, sIf, sTg, gNm, gNil', gCons', gTp, sFor, frzS, fSeq, fRng1, fRng2, fEnum, fZip, fComp, fYes, sApp, sExt, sIx, fPop, fPopAt, sPar, fCall, fCallS, oEq_int, oNe_int, List.getElem?_cons_zero, List.getElem?_cons_succ, List.set_cons_zero, List.set_cons_succ, oAdd, oSub, oMul, oDiv, oMod, oLt, oLe, oGt, oGe, oMin, oMax, oPow, decide_eq_true_eq, if_true, if_false, Bool.false_eq_true, Bool.not_true, Bool.not_false, decide_true, decide_false, List.length_cons, List.length_nil, List.length_map, Bool.and_self, fOpR, fChain, oCatT, oRepT, fStar, fSlL, fSlT, fRev, oNn, oSm, oIsB, oNotB, sParO1, sParO2, sParO3, fRng3, Nat.reduceAdd, Nat.reduceBEq, bleN0, bleN1, bleN2, bleN3, bleN4, bleN5, bleN6, bleN7, bleN8, hm]
    · simp only [e_law_cubes_1, fC, fVar, rdS, Rf.get, fRd, bnd, Fe.ret, fOp, fUn, fTst, fNot, fAnd, fOr, fIf, fBool, fNil, fCons, fTup, fLst, fAsL, fVal, fAndV, fOrV, fNotV, oI, oIc, oNeg, oIsN, oNotN, oIx, fIx, fR1, fR1L, oLen, oList, oTuple, oInt, oAbs, fRep, fCat, sNil, sThen, sSeq, sSet, sOwn, sRet, sRetN, sDrop, sIf, sTg, gNm, gNil', gCons', gTp, sFor, frzS, fSeq, fRng1, fRng2, fEnum, fZip, fComp, fYes, sApp, sExt, sIx, fPop, fPopAt, sPar, fCall, fCallS, oEq_int, oNe_int, List.getElem?_cons_zero, List.getElem?_cons_succ, List.set_cons_zero, List.set_cons_succ, oAdd, oSub, oMul, oDiv, oMod, oLt, oLe, oGt, oGe, oMin, oMax, oPow, decide_eq_true_eq, if_true, if_false, Bool.false_eq_true, Bool.not_true, Bool.not_false, decide_true, decide_false, List.length_cons, List.length_nil, List.length_map, Bool.and_self, fOpR, fChain, oCatT, oRepT, fStar, fSlL, fSlT, fRev, oNn, oSm, oIsB, oNotB, sParO1, sParO2, sParO3, fRng3, Nat.reduceAdd, Nat.reduceBEq, bleN0, bleN1, bleN2, bleN3, bleN4, bleN5, bleN6, bleN7, bleN8, Sm_mul hs hs, Sm_mul hs2 hs]
  rw [← rngL_eq] at hc
  refine runF_rt (ρ := [.v (.int (n : Int)), .un]) ?_
  show b_law_cubes [.v (.int (n : Int)), .un] = _
  simp only [b_law_cubes, fC, fVar, rdS, Rf.get, fRd, bnd, Fe.ret, fOp, fUn, fTst, fNot, fAnd, fOr, fIf, fBool, fNil, fCons, fTup, fLst, fAsL, fVal, fAndV, fOrV, fNotV, oI, oIc, oNeg, oIsN, oNotN, oIx, fIx, fR1, fR1L, oLen, oList, oTuple, oInt, oAbs, fRep, fCat, sNil, sThen, sSeq, sSet, sOwn, sRet, sRetN, sDrop, sIf, sTg, gNm, gNil', gCons', gTp, sFor, frzS, fSeq, fRng1, fRng2, fEnum, fZip, fComp, fYes, sApp, sExt, sIx, fPop, fPopAt, sPar, fCall, fCallS, oEq_int, oNe_int, List.getElem?_cons_zero, List.getElem?_cons_succ, List.set_cons_zero, List.set_cons_succ, oAdd, oSub, oMul, oDiv, oMod, oLt, oLe, oGt, oGe, oMin, oMax, oPow, decide_eq_true_eq, if_true, if_false, Bool.false_eq_true, Bool.not_true, Bool.not_false, decide_true, decide_false, List.length_cons, List.length_nil, List.length_map, Bool.and_self, fOpR, fChain, oCatT, oRepT, fStar, fSlL, fSlT, fRev, oNn, oSm, oIsB, oNotB, sParO1, sParO2, sParO3, fRng3, Nat.reduceAdd, Nat.reduceBEq, bleN0, bleN1, bleN2, bleN3, bleN4, bleN5, bleN6, bleN7, bleN8, hb, hn, hz, hc, wipeE, oSum, intsD_map]
  rfl
theorem r4s_all : ((List.range 121).all fun n => smB ((irg 1 n).filter fun d => decide ((n : Int) % d = 0) && !decide (d % 4 = 0)).sum) = true := by decide +kernel
theorem F_r4 {n : Nat} (h : n ≤ 120) : F_count_four_squares [.int (n : Int)] = some (.int (r4c n)) := by
  have hz := rngL_ble (lo := 1) (n := n) (by omega)
  have hb : (inB 1 && inB ((n : Int) + 1)) = true := by rw [inB_of (j := (n : Int) + 1) (by omega) (by omega)]; rfl
  have hn : ((n : Int) + 1 - 1).toNat = n := by omega
  have h8 : mulOk 8 _ = true := Sm_mul (show Sm 8 by decide) (smB_ok (all_range r4s_all (show n < 121 by omega)))
  have hc := cl_fI (vs := [1]) (g := gNm 1) (c := c_count_four_squares_0) (e := e_count_four_squares_1) (ρ := [.v (.int (n : Int)), .un]) (fun d => decide ((n : Int) % d = 0) && !decide (d % 4 = 0)) (fun d => d) (ns := irg 1 n) fun d hd => by
    obtain ⟨k, hk, rfl⟩ := mem_irg hd
    have hm : modOk (1 + (k : Int)) = true := modOk_of (by omega)
    have hm4 : modOk 4 = true := by decide
    refine ⟨[.v (.int (n : Int)), .v (.int (1 + (k : Int)))], rfl, ?_, fun _ => rfl, rfl⟩
    by_cases hq : (n : Int) % (1 + (k : Int)) = 0
    · simp only [c_count_four_squares_0, fC, fVar, rdS, Rf.get, fRd, bnd, Fe.ret, fOp, fUn, fTst, fNot, fAnd, fOr, fIf, fBool, fNil, fCons, fTup, fLst, fAsL, fVal, fAndV, fOrV, fNotV, oI, oIc, oNeg, oIsN, oNotN, oIx, fIx, fR1, fR1L, oLen, oList, oTuple, oInt, oAbs, fRep, fCat, sNil, sThen, sSeq, sSet, sOwn, sRet, sRetN, sDrop, sIf, sTg, gNm, gNil', gCons', gTp, sFor, frzS, fSeq, fRng1, fRng2, fEnum, fZip, fComp, fYes, sApp, sExt, sIx, fPop, fPopAt, sPar, fCall, fCallS, oEq_int, oNe_int, List.getElem?_cons_zero, List.getElem?_cons_succ, List.set_cons_zero, List.set_cons_succ, oAdd, oSub, oMul, oDiv, oMod, oLt, oLe, oGt, oGe, oMin, oMax, oPow, decide_eq_true_eq, if_true, if_false, Bool.false_eq_true, Bool.not_true, Bool.not_false, decide_true, decide_false, List.length_cons, List.length_nil, List.length_map, Bool.and_self, fOpR, fChain, oCatT, oRepT, fStar, fSlL, fSlT, fRev, oNn, oSm, oIsB, oNotB, sParO1, sParO2, sParO3, fRng3, Nat.reduceAdd, Nat.reduceBEq, bleN0, bleN1, bleN2, bleN3, bleN4, bleN5, bleN6, bleN7, bleN8, hm, hm4, hq, Bool.true_and]
    · simp only [c_count_four_squares_0, fC, fVar, rdS, Rf.get, fRd, bnd, Fe.ret, fOp, fUn, fTst, fNot, fAnd, fOr, fIf, fBool, fNil, fCons, fTup, fLst, fAsL, fVal, fAndV, fOrV, fNotV, oI, oIc, oNeg, oIsN, oNotN, oIx, fIx, fR1, fR1L, oLen, oList, oTuple, oInt, oAbs, fRep, fCat, sNil, sThen, sSeq, sSet, sOwn, sRet, sRetN, sDrop, sIf, sTg, gNm, gNil', gCons', gTp, sFor, frzS, fSeq, fRng1, fRng2, fEnum, fZip, fComp, fYes, sApp, sExt, sIx, fPop, fPopAt, sPar, fCall, fCallS, oEq_int, oNe_int, List.getElem?_cons_zero, List.getElem?_cons_succ, List.set_cons_zero, List.set_cons_succ, oAdd, oSub, oMul, oDiv, oMod, oLt, oLe, oGt, oGe, oMin, oMax, oPow, decide_eq_true_eq, if_true, if_false, Bool.false_eq_true, Bool.not_true, Bool.not_false, decide_true, decide_false, List.length_cons, List.length_nil, List.length_map, Bool.and_self, fOpR, fChain, oCatT, oRepT, fStar, fSlL, fSlT, fRev, oNn, oSm, oIsB, oNotB, sParO1, sParO2, sParO3, fRng3, Nat.reduceAdd, Nat.reduceBEq, bleN0, bleN1, bleN2, bleN3, bleN4, bleN5, bleN6, bleN7, bleN8, hm, hm4, hq, Bool.false_and]
  rw [← rngL_eq, List.map_id'] at hc
  refine runF_rt (ρ := [.v (.int (n : Int)), .un]) ?_
  show b_count_four_squares [.v (.int (n : Int)), .un] = _
  simp only [b_count_four_squares, fC, fVar, rdS, Rf.get, fRd, bnd, Fe.ret, fOp, fUn, fTst, fNot, fAnd, fOr, fIf, fBool, fNil, fCons, fTup, fLst, fAsL, fVal, fAndV, fOrV, fNotV, oI, oIc, oNeg, oIsN, oNotN, oIx, fIx, fR1, fR1L, oLen, oList, oTuple, oInt, oAbs, fRep, fCat, sNil, sThen, sSeq, sSet, sOwn, sRet, sRetN, sDrop, sIf, sTg, gNm, gNil', gCons', gTp, sFor, frzS, fSeq, fRng1, fRng2, fEnum, fZip, fComp, fYes, sApp, sExt, sIx, fPop, fPopAt, sPar, fCall, fCallS, oEq_int, oNe_int, List.getElem?_cons_zero, List.getElem?_cons_succ, List.set_cons_zero, List.set_cons_succ, oAdd, oSub, oMul, oDiv, oMod, oLt, oLe, oGt, oGe, oMin, oMax, oPow, decide_eq_true_eq, if_true, if_false, Bool.false_eq_true, Bool.not_true, Bool.not_false, decide_true, decide_false, List.length_cons, List.length_nil, List.length_map, Bool.and_self, fOpR, fChain, oCatT, oRepT, fStar, fSlL, fSlT, fRev, oNn, oSm, oIsB, oNotB, sParO1, sParO2, sParO3, fRng3, Nat.reduceAdd, Nat.reduceBEq, bleN0, bleN1, bleN2, bleN3, bleN4, bleN5, bleN6, bleN7, bleN8, hb, hn, hz, hc, wipeE, oSum, intsD_map, h8]
  rfl
theorem F_rF {n : Nat} {z : Int} (e : F_odd_divisor_sum [.int (n : Int)] = some (.int z)) (hs : Sm z) : F_count_fours [.int (n : Int)] = some (.int (24 * z)) := by
  have h8 : mulOk 24 z = true := Sm_mul (show Sm 24 by decide) hs
  refine runF_rt (ρ := [.v (.int (n : Int))]) ?_
  show b_count_fours [.v (.int (n : Int))] = _
  simp only [b_count_fours, fC, fVar, rdS, Rf.get, fRd, bnd, Fe.ret, fOp, fUn, fTst, fNot, fAnd, fOr, fIf, fBool, fNil, fCons, fTup, fLst, fAsL, fVal, fAndV, fOrV, fNotV, oI, oIc, oNeg, oIsN, oNotN, oIx, fIx, fR1, fR1L, oLen, oList, oTuple, oInt, oAbs, fRep, fCat, sNil, sThen, sSeq, sSet, sOwn, sRet, sRetN, sDrop, sIf, sTg, gNm, gNil', gCons', gTp, sFor, frzS, fSeq, fRng1, fRng2, fEnum, fZip, fComp, fYes, sApp, sExt, sIx, fPop, fPopAt, sPar, fCall, fCallS, oEq_int, oNe_int, List.getElem?_cons_zero, List.getElem?_cons_succ, List.set_cons_zero, List.set_cons_succ, oAdd, oSub, oMul, oDiv, oMod, oLt, oLe, oGt, oGe, oMin, oMax, oPow, decide_eq_true_eq, if_true, if_false, Bool.false_eq_true, Bool.not_true, Bool.not_false, decide_true, decide_false, List.length_cons, List.length_nil, List.length_map, Bool.and_self, fOpR, fChain, oCatT, oRepT, fStar, fSlL, fSlT, fRev, oNn, oSm, oIsB, oNotB, sParO1, sParO2, sParO3, fRng3, Nat.reduceAdd, Nat.reduceBEq, bleN0, bleN1, bleN2, bleN3, bleN4, bleN5, bleN6, bleN7, bleN8, e, h8]
theorem cu_all : ((List.range 241).all fun n => Nat.beq n 0 || decide (cuc n = iat tCu n)) = true := by decide +kernel
theorem cu_sm : tCu.all smB = true := by decide +kernel
theorem cu_at {n : Nat} (h0 : 0 < n) (h : n < 241) : F_law_cubes [.int (n : Int)] = some (.int (iat tCu n)) := by
  have z := all_range cu_all h
  simp only [Bool.or_eq_true, decide_eq_true_eq] at z
  rcases z with z | z
  · exact absurd (Nat.eq_of_beq_eq_true z) (by omega)
  · rw [F_cu (by omega), z]
theorem r4_all : ((List.range 121).all fun n => Nat.beq n 0 || decide (r4c n = iat tR4 n)) = true := by decide +kernel
theorem r4_sm : tR4.all smB = true := by decide +kernel
theorem r4_at {n : Nat} (h0 : 0 < n) (h : n < 121) : F_count_four_squares [.int (n : Int)] = some (.int (iat tR4 n)) := by
  have z := all_range r4_all h
  simp only [Bool.or_eq_true, decide_eq_true_eq] at z
  rcases z with z | z
  · exact absurd (Nat.eq_of_beq_eq_true z) (by omega)
  · rw [F_r4 (by omega), z]
theorem od_all : ((List.range 240).all fun n => Nat.beq n 0 || decide (odk n ((n + 1) / 2) = iat tOd n)) = true := by decide +kernel
theorem od_sm : tOd.all smB = true := by decide +kernel
theorem od_at {n : Nat} (h0 : 0 < n) (h : n < 240) : F_odd_divisor_sum [.int (n : Int)] = some (.int (iat tOd n)) := by
  have h1 := all_range rc_all (show n < 301 by omega)
  simp only [Bool.and_eq_true] at h1
  have z := all_range od_all h
  simp only [Bool.or_eq_true, decide_eq_true_eq] at z
  rcases z with z | z
  · exact absurd (Nat.eq_of_beq_eq_true z) (by omega)
  · rw [F_od h1.1 (Nat.eq_of_beq_eq_true h1.2) (by omega), z]
theorem rF_all : ((List.range 121).all fun n => Nat.beq n 0 || decide (24 * iat tOd n = iat tRF n)) = true := by decide +kernel
theorem rF_sm : tRF.all smB = true := by decide +kernel
theorem rF_at {n : Nat} (h0 : 0 < n) (h : n < 121) : F_count_fours [.int (n : Int)] = some (.int (iat tRF n)) := by
  have z := all_range rF_all h
  simp only [Bool.or_eq_true, decide_eq_true_eq] at z
  rcases z with z | z
  · exact absurd (Nat.eq_of_beq_eq_true z) (by omega)
  · rw [F_rF (od_at h0 (by omega)) (iat_smB od_sm n), z]
theorem r2_all : ((List.range 31).all fun n => Nat.beq n 0 || isI (F_count_ways [.int (n : Int)]) (iat tR2 n)) = true := by decide +kernel
theorem r2_sm : tR2.all smB = true := by decide +kernel
theorem r2_at {n : Nat} (h0 : 0 < n) (h : n < 31) : F_count_ways [.int (n : Int)] = some (.int (iat tR2 n)) := by
  have z := all_range r2_all h
  simp only [Bool.or_eq_true] at z
  rcases z with z | z
  · exact absurd (Nat.eq_of_beq_eq_true z) (by omega)
  · exact isI_ok z
def sqAt (n : Nat) : List Int := tSq.getD n []
def sqOk (n : Nat) : Bool := Nat.beq (sqAt n).length 4 && (sqAt n).all smB && decide (((sqAt n).map fun a => a * a).sum = (n : Int)) && (Nat.beq n 0 || isTI (F_any_four_squares [.int (n : Int)]) (sqAt n)) && isI (F_four_norm [.tuple (((sqAt n).map fun a => 2 * a).map .int)]) n
theorem sq_all : ((List.range 121).all sqOk) = true := by decide +kernel
end K29
namespace K29
open PySem PySem.Spec PyProof.Rows L2 Fe
def T4 (t : List Int) (N : Nat) : List Int := (List.range (N + 1)).map (iat t)
theorem T4_len {t : List Int} {N : Nat} : (T4 t N).length = N + 1 := by simp [T4]
theorem T4_at {t : List Int} {N k : Nat} (h : k ≤ N) : iat (T4 t N) k = iat t k := by
  refine iat_some ?_
  unfold T4
  rw [List.getElem?_map, List.getElem?_range (by omega)]
  rfl
theorem T4_cons {t : List Int} {N : Nat} (h : iat t 0 = 1) : [PyData.int 1] ++ ((irg 1 N).map fun k => iat t k.toNat).map .int = (T4 t N).map .int := by
  unfold T4 irg
  rw [List.range_succ_eq_map, List.map_cons, List.map_cons, h, List.map_map, List.map_map, List.map_map, List.map_map, List.singleton_append]
  refine congrArg (PyData.int 1 :: ·) ?_
  refine List.map_congr_left fun k _ => ?_
  show PyData.int (iat t ((1 : Int) + (k : Nat)).toNat) = .int (iat t (k + 1))
  rw [show ((1 : Int) + (k : Nat)).toNat = k + 1 by omega]
def conv (t : List Int) (N : Nat) : Int := ((List.range (N + 1)).map fun k => iat t k * iat t (N - k)).sum
def convI (t : List Int) (N : Nat) : List Int := (irg 0 (N + 1)).map fun k => iat t k.toNat * iat t (N - k.toNat)
theorem convI_sum {t : List Int} {N : Nat} : (convI t N).sum = conv t N := by
  unfold convI conv irg
  rw [List.map_map]
  congr 1
  refine List.map_congr_left fun k _ => ?_
  show iat t ((0 : Int) + (k : Nat)).toNat * iat t (N - ((0 : Int) + (k : Nat)).toNat) = _
  rw [show ((0 : Int) + (k : Nat)).toNat = k by omega]
theorem c_e_law_0 {N : Nat} (h : N ≤ 120) {x0 x1 x2 x3 x4 x5 x6 x7 x8 x9 x10 x11 x12 x13 x14 x15 x16 x17 x18 : Sl} : cl [10] (gNm 10) fYes e_law_0 (rngL 1 N) [x0, x1, x2, .v (.int (N : Int)), x4, x5, x6, x7, x8, x9, x10, x11, x12, x13, x14, x15, x16, x17, x18] = some (((irg 1 N).map fun k => iat tR4 k.toNat).map .int, [x0, x1, x2, .v (.int (N : Int)), x4, x5, x6, x7, x8, x9, .un, x11, x12, x13, x14, x15, x16, x17, x18]) := by
  rw [rngL_eq]
  exact cl_mI (ρ := [x0, x1, x2, .v (.int (N : Int)), x4, x5, x6, x7, x8, x9, x10, x11, x12, x13, x14, x15, x16, x17, x18]) (fun k => iat tR4 k.toNat) fun d hd => by
    obtain ⟨k, hk, rfl⟩ := mem_irg hd
    have e := r4_at (n := k + 1) (by omega) (by omega)
    rw [show ((k + 1 : Nat) : Int) = 1 + (k : Int) by omega] at e
    refine ⟨[x0, x1, x2, .v (.int (N : Int)), x4, x5, x6, x7, x8, x9, .v (.int (1 + (k : Int))), x11, x12, x13, x14, x15, x16, x17, x18], [x0, x1, x2, .v (.int (N : Int)), x4, x5, x6, x7, x8, x9, .v (.int (1 + (k : Int))), x11, x12, x13, x14, x15, x16, x17, x18], rfl, ?_, rfl⟩
    rw [show ((1 : Int) + (k : Int)).toNat = k + 1 by omega]
    simp only [e_law_0, fC, fVar, rdS, Rf.get, fRd, bnd, Fe.ret, fOp, fUn, fTst, fNot, fAnd, fOr, fIf, fBool, fNil, fCons, fTup, fLst, fAsL, fVal, fAndV, fOrV, fNotV, oI, oIc, oNeg, oIsN, oNotN, oIx, fIx, fR1, fR1L, oLen, oList, oTuple, oInt, oAbs, fRep, fCat, sNil, sThen, sSeq, sSet, sOwn, sRet, sRetN, sDrop, sIf, sTg, gNm, gNil', gCons', gTp, sFor, frzS, fSeq, fRng1, fRng2, fEnum, fZip, fComp, fYes, sApp, sExt, sIx, fPop, fPopAt, sPar, fCall, fCallS, oEq_int, oNe_int, List.getElem?_cons_zero, List.getElem?_cons_succ, List.set_cons_zero, List.set_cons_succ, oAdd, oSub, oMul, oDiv, oMod, oLt, oLe, oGt, oGe, oMin, oMax, oPow, decide_eq_true_eq, if_true, if_false, Bool.false_eq_true, Bool.not_true, Bool.not_false, decide_true, decide_false, List.length_cons, List.length_nil, List.length_map, Bool.and_self, fOpR, fChain, oCatT, fStar, fSlL, fSlT, fRev, oNn, oSm, oIsB, oNotB, sParO1, sParO2, sParO3, fRng3, Nat.reduceAdd, Nat.reduceBEq, bleN0, bleN1, bleN2, bleN3, bleN4, bleN5, bleN6, bleN7, bleN8, e]
theorem c_e_law_3 {N : Nat} (h : N ≤ 30) {x0 x1 x2 x3 x4 x5 x6 x7 x8 x9 x10 x11 x12 x13 x14 x15 x16 x17 x18 : Sl} : cl [10] (gNm 10) fYes e_law_3 (rngL 1 N) [x0, x1, x2, .v (.int (N : Int)), x4, x5, x6, x7, x8, x9, x10, x11, x12, x13, x14, x15, x16, x17, x18] = some (((irg 1 N).map fun k => iat tR2 k.toNat).map .int, [x0, x1, x2, .v (.int (N : Int)), x4, x5, x6, x7, x8, x9, .un, x11, x12, x13, x14, x15, x16, x17, x18]) := by
  rw [rngL_eq]
  exact cl_mI (ρ := [x0, x1, x2, .v (.int (N : Int)), x4, x5, x6, x7, x8, x9, x10, x11, x12, x13, x14, x15, x16, x17, x18]) (fun k => iat tR2 k.toNat) fun d hd => by
    obtain ⟨k, hk, rfl⟩ := mem_irg hd
    have e := r2_at (n := k + 1) (by omega) (by omega)
    rw [show ((k + 1 : Nat) : Int) = 1 + (k : Int) by omega] at e
    refine ⟨[x0, x1, x2, .v (.int (N : Int)), x4, x5, x6, x7, x8, x9, .v (.int (1 + (k : Int))), x11, x12, x13, x14, x15, x16, x17, x18], [x0, x1, x2, .v (.int (N : Int)), x4, x5, x6, x7, x8, x9, .v (.int (1 + (k : Int))), x11, x12, x13, x14, x15, x16, x17, x18], rfl, ?_, rfl⟩
    rw [show ((1 : Int) + (k : Int)).toNat = k + 1 by omega]
    simp only [e_law_3, fC, fVar, rdS, Rf.get, fRd, bnd, Fe.ret, fOp, fUn, fTst, fNot, fAnd, fOr, fIf, fBool, fNil, fCons, fTup, fLst, fAsL, fVal, fAndV, fOrV, fNotV, oI, oIc, oNeg, oIsN, oNotN, oIx, fIx, fR1, fR1L, oLen, oList, oTuple, oInt, oAbs, fRep, fCat, sNil, sThen, sSeq, sSet, sOwn, sRet, sRetN, sDrop, sIf, sTg, gNm, gNil', gCons', gTp, sFor, frzS, fSeq, fRng1, fRng2, fEnum, fZip, fComp, fYes, sApp, sExt, sIx, fPop, fPopAt, sPar, fCall, fCallS, oEq_int, oNe_int, List.getElem?_cons_zero, List.getElem?_cons_succ, List.set_cons_zero, List.set_cons_succ, oAdd, oSub, oMul, oDiv, oMod, oLt, oLe, oGt, oGe, oMin, oMax, oPow, decide_eq_true_eq, if_true, if_false, Bool.false_eq_true, Bool.not_true, Bool.not_false, decide_true, decide_false, List.length_cons, List.length_nil, List.length_map, Bool.and_self, fOpR, fChain, oCatT, fStar, fSlL, fSlT, fRev, oNn, oSm, oIsB, oNotB, sParO1, sParO2, sParO3, fRng3, Nat.reduceAdd, Nat.reduceBEq, bleN0, bleN1, bleN2, bleN3, bleN4, bleN5, bleN6, bleN7, bleN8, e]
theorem c_e_law_6 {N : Nat} (h : N ≤ 120) {x0 x1 x2 x3 x4 x5 x6 x7 x8 x9 x10 x11 x12 x13 x14 x15 x16 x17 x18 : Sl} : cl [10] (gNm 10) fYes e_law_6 (rngL 1 N) [x0, x1, x2, .v (.int (N : Int)), x4, x5, x6, x7, x8, x9, x10, x11, x12, x13, x14, x15, x16, x17, x18] = some (((irg 1 N).map fun k => iat tRF k.toNat).map .int, [x0, x1, x2, .v (.int (N : Int)), x4, x5, x6, x7, x8, x9, .un, x11, x12, x13, x14, x15, x16, x17, x18]) := by
  rw [rngL_eq]
  exact cl_mI (ρ := [x0, x1, x2, .v (.int (N : Int)), x4, x5, x6, x7, x8, x9, x10, x11, x12, x13, x14, x15, x16, x17, x18]) (fun k => iat tRF k.toNat) fun d hd => by
    obtain ⟨k, hk, rfl⟩ := mem_irg hd
    have e := rF_at (n := k + 1) (by omega) (by omega)
    rw [show ((k + 1 : Nat) : Int) = 1 + (k : Int) by omega] at e
    refine ⟨[x0, x1, x2, .v (.int (N : Int)), x4, x5, x6, x7, x8, x9, .v (.int (1 + (k : Int))), x11, x12, x13, x14, x15, x16, x17, x18], [x0, x1, x2, .v (.int (N : Int)), x4, x5, x6, x7, x8, x9, .v (.int (1 + (k : Int))), x11, x12, x13, x14, x15, x16, x17, x18], rfl, ?_, rfl⟩
    rw [show ((1 : Int) + (k : Int)).toNat = k + 1 by omega]
    simp only [e_law_6, fC, fVar, rdS, Rf.get, fRd, bnd, Fe.ret, fOp, fUn, fTst, fNot, fAnd, fOr, fIf, fBool, fNil, fCons, fTup, fLst, fAsL, fVal, fAndV, fOrV, fNotV, oI, oIc, oNeg, oIsN, oNotN, oIx, fIx, fR1, fR1L, oLen, oList, oTuple, oInt, oAbs, fRep, fCat, sNil, sThen, sSeq, sSet, sOwn, sRet, sRetN, sDrop, sIf, sTg, gNm, gNil', gCons', gTp, sFor, frzS, fSeq, fRng1, fRng2, fEnum, fZip, fComp, fYes, sApp, sExt, sIx, fPop, fPopAt, sPar, fCall, fCallS, oEq_int, oNe_int, List.getElem?_cons_zero, List.getElem?_cons_succ, List.set_cons_zero, List.set_cons_succ, oAdd, oSub, oMul, oDiv, oMod, oLt, oLe, oGt, oGe, oMin, oMax, oPow, decide_eq_true_eq, if_true, if_false, Bool.false_eq_true, Bool.not_true, Bool.not_false, decide_true, decide_false, List.length_cons, List.length_nil, List.length_map, Bool.and_self, fOpR, fChain, oCatT, fStar, fSlL, fSlT, fRev, oNn, oSm, oIsB, oNotB, sParO1, sParO2, sParO3, fRng3, Nat.reduceAdd, Nat.reduceBEq, bleN0, bleN1, bleN2, bleN3, bleN4, bleN5, bleN6, bleN7, bleN8, e]
theorem c_e_law_1 {N M : Nat} (hM : N ≤ M) {x0 x1 x2 x3 x4 x5 x6 x7 x8 x9 x10 x11 x12 x13 x14 x15 x16 x17 x18 : Sl} : cl [10] (gNm 10) fYes e_law_1 (rngL 0 (N + 1)) [x0, x1, x2, .v (.int (N : Int)), .v (.list ((T4 tR4 M).map .int)), x5, x6, x7, x8, x9, x10, x11, x12, x13, x14, x15, x16, x17, x18] = some ((convI tR4 N).map .int, [x0, x1, x2, .v (.int (N : Int)), .v (.list ((T4 tR4 M).map .int)), x5, x6, x7, x8, x9, .un, x11, x12, x13, x14, x15, x16, x17, x18]) := by
  rw [rngL_eq]
  exact cl_mI (ρ := [x0, x1, x2, .v (.int (N : Int)), .v (.list ((T4 tR4 M).map .int)), x5, x6, x7, x8, x9, x10, x11, x12, x13, x14, x15, x16, x17, x18]) (fun k => iat tR4 k.toNat * iat tR4 (N - k.toNat)) fun d hd => by
    obtain ⟨k, hk, rfl⟩ := mem_irg hd
    refine ⟨[x0, x1, x2, .v (.int (N : Int)), .v (.list ((T4 tR4 M).map .int)), x5, x6, x7, x8, x9, .v (.int (0 + (k : Int))), x11, x12, x13, x14, x15, x16, x17, x18], [x0, x1, x2, .v (.int (N : Int)), .v (.list ((T4 tR4 M).map .int)), x5, x6, x7, x8, x9, .v (.int (0 + (k : Int))), x11, x12, x13, x14, x15, x16, x17, x18], rfl, ?_, rfl⟩
    rw [show ((0 : Int) + (k : Int)).toNat = k by omega]
    have h1 := ixD_map (l := T4 tR4 M) (n := k) (z := 0 + (k : Int)) (by omega) (by rw [T4_len]; omega)
    have h2 := ixD_map (l := T4 tR4 M) (n := N - k) (z := (N : Int) - (0 + (k : Int))) (by omega) (by rw [T4_len]; omega)
    rw [T4_at (by omega)] at h1 h2
    have hm := Sm_mul (iat_smB r4_sm k) (iat_smB r4_sm (N - k))
    simp only [e_law_1, fC, fVar, rdS, Rf.get, fRd, bnd, Fe.ret, fOp, fUn, fTst, fNot, fAnd, fOr, fIf, fBool, fNil, fCons, fTup, fLst, fAsL, fVal, fAndV, fOrV, fNotV, oI, oIc, oNeg, oIsN, oNotN, oIx, fIx, fR1, fR1L, oLen, oList, oTuple, oInt, oAbs, fRep, fCat, sNil, sThen, sSeq, sSet, sOwn, sRet, sRetN, sDrop, sIf, sTg, gNm, gNil', gCons', gTp, sFor, frzS, fSeq, fRng1, fRng2, fEnum, fZip, fComp, fYes, sApp, sExt, sIx, fPop, fPopAt, sPar, fCall, fCallS, oEq_int, oNe_int, List.getElem?_cons_zero, List.getElem?_cons_succ, List.set_cons_zero, List.set_cons_succ, oAdd, oSub, oMul, oDiv, oMod, oLt, oLe, oGt, oGe, oMin, oMax, oPow, decide_eq_true_eq, if_true, if_false, Bool.false_eq_true, Bool.not_true, Bool.not_false, decide_true, decide_false, List.length_cons, List.length_nil, List.length_map, Bool.and_self, fOpR, fChain, oCatT, fStar, fSlL, fSlT, fRev, oNn, oSm, oIsB, oNotB, sParO1, sParO2, sParO3, fRng3, Nat.reduceAdd, Nat.reduceBEq, bleN0, bleN1, bleN2, bleN3, bleN4, bleN5, bleN6, bleN7, bleN8, h1, h2, hm]
theorem c_e_law_7 {N M : Nat} (hM : N ≤ M) {x0 x1 x2 x3 x4 x5 x6 x7 x8 x9 x10 x11 x12 x13 x14 x15 x16 x17 x18 : Sl} : cl [10] (gNm 10) fYes e_law_7 (rngL 0 (N + 1)) [x0, x1, x2, .v (.int (N : Int)), x4, x5, x6, x7, .v (.list ((T4 tRF M).map .int)), x9, x10, x11, x12, x13, x14, x15, x16, x17, x18] = some ((convI tRF N).map .int, [x0, x1, x2, .v (.int (N : Int)), x4, x5, x6, x7, .v (.list ((T4 tRF M).map .int)), x9, .un, x11, x12, x13, x14, x15, x16, x17, x18]) := by
  rw [rngL_eq]
  exact cl_mI (ρ := [x0, x1, x2, .v (.int (N : Int)), x4, x5, x6, x7, .v (.list ((T4 tRF M).map .int)), x9, x10, x11, x12, x13, x14, x15, x16, x17, x18]) (fun k => iat tRF k.toNat * iat tRF (N - k.toNat)) fun d hd => by
    obtain ⟨k, hk, rfl⟩ := mem_irg hd
    refine ⟨[x0, x1, x2, .v (.int (N : Int)), x4, x5, x6, x7, .v (.list ((T4 tRF M).map .int)), x9, .v (.int (0 + (k : Int))), x11, x12, x13, x14, x15, x16, x17, x18], [x0, x1, x2, .v (.int (N : Int)), x4, x5, x6, x7, .v (.list ((T4 tRF M).map .int)), x9, .v (.int (0 + (k : Int))), x11, x12, x13, x14, x15, x16, x17, x18], rfl, ?_, rfl⟩
    rw [show ((0 : Int) + (k : Int)).toNat = k by omega]
    have h1 := ixD_map (l := T4 tRF M) (n := k) (z := 0 + (k : Int)) (by omega) (by rw [T4_len]; omega)
    have h2 := ixD_map (l := T4 tRF M) (n := N - k) (z := (N : Int) - (0 + (k : Int))) (by omega) (by rw [T4_len]; omega)
    rw [T4_at (by omega)] at h1 h2
    have hm := Sm_mul (iat_smB rF_sm k) (iat_smB rF_sm (N - k))
    simp only [e_law_7, fC, fVar, rdS, Rf.get, fRd, bnd, Fe.ret, fOp, fUn, fTst, fNot, fAnd, fOr, fIf, fBool, fNil, fCons, fTup, fLst, fAsL, fVal, fAndV, fOrV, fNotV, oI, oIc, oNeg, oIsN, oNotN, oIx, fIx, fR1, fR1L, oLen, oList, oTuple, oInt, oAbs, fRep, fCat, sNil, sThen, sSeq, sSet, sOwn, sRet, sRetN, sDrop, sIf, sTg, gNm, gNil', gCons', gTp, sFor, frzS, fSeq, fRng1, fRng2, fEnum, fZip, fComp, fYes, sApp, sExt, sIx, fPop, fPopAt, sPar, fCall, fCallS, oEq_int, oNe_int, List.getElem?_cons_zero, List.getElem?_cons_succ, List.set_cons_zero, List.set_cons_succ, oAdd, oSub, oMul, oDiv, oMod, oLt, oLe, oGt, oGe, oMin, oMax, oPow, decide_eq_true_eq, if_true, if_false, Bool.false_eq_true, Bool.not_true, Bool.not_false, decide_true, decide_false, List.length_cons, List.length_nil, List.length_map, Bool.and_self, fOpR, fChain, oCatT, fStar, fSlL, fSlT, fRev, oNn, oSm, oIsB, oNotB, sParO1, sParO2, sParO3, fRng3, Nat.reduceAdd, Nat.reduceBEq, bleN0, bleN1, bleN2, bleN3, bleN4, bleN5, bleN6, bleN7, bleN8, h1, h2, hm]
theorem c_e_law_4 {N M : Nat} (hM : N ≤ M) {x0 x1 x2 x3 x4 x5 x6 x7 x8 x9 x10 x11 x12 x13 x14 x15 x16 x17 x18 : Sl} : cl [18] (gNm 18) fYes e_law_4 (rngL 0 (N + 1)) [x0, x1, x2, x3, x4, x5, x6, x7, x8, x9, .v (.int (N : Int)), x11, x12, x13, .v (.list ((T4 tR2 M).map .int)), x15, x16, x17, x18] = some ((convI tR2 N).map .int, [x0, x1, x2, x3, x4, x5, x6, x7, x8, x9, .v (.int (N : Int)), x11, x12, x13, .v (.list ((T4 tR2 M).map .int)), x15, x16, x17, .un]) := by
  rw [rngL_eq]
  exact cl_mI (ρ := [x0, x1, x2, x3, x4, x5, x6, x7, x8, x9, .v (.int (N : Int)), x11, x12, x13, .v (.list ((T4 tR2 M).map .int)), x15, x16, x17, x18]) (fun k => iat tR2 k.toNat * iat tR2 (N - k.toNat)) fun d hd => by
    obtain ⟨k, hk, rfl⟩ := mem_irg hd
    refine ⟨[x0, x1, x2, x3, x4, x5, x6, x7, x8, x9, .v (.int (N : Int)), x11, x12, x13, .v (.list ((T4 tR2 M).map .int)), x15, x16, x17, .v (.int (0 + (k : Int)))], [x0, x1, x2, x3, x4, x5, x6, x7, x8, x9, .v (.int (N : Int)), x11, x12, x13, .v (.list ((T4 tR2 M).map .int)), x15, x16, x17, .v (.int (0 + (k : Int)))], rfl, ?_, rfl⟩
    rw [show ((0 : Int) + (k : Int)).toNat = k by omega]
    have h1 := ixD_map (l := T4 tR2 M) (n := k) (z := 0 + (k : Int)) (by omega) (by rw [T4_len]; omega)
    have h2 := ixD_map (l := T4 tR2 M) (n := N - k) (z := (N : Int) - (0 + (k : Int))) (by omega) (by rw [T4_len]; omega)
    rw [T4_at (by omega)] at h1 h2
    have hm := Sm_mul (iat_smB r2_sm k) (iat_smB r2_sm (N - k))
    simp only [e_law_4, fC, fVar, rdS, Rf.get, fRd, bnd, Fe.ret, fOp, fUn, fTst, fNot, fAnd, fOr, fIf, fBool, fNil, fCons, fTup, fLst, fAsL, fVal, fAndV, fOrV, fNotV, oI, oIc, oNeg, oIsN, oNotN, oIx, fIx, fR1, fR1L, oLen, oList, oTuple, oInt, oAbs, fRep, fCat, sNil, sThen, sSeq, sSet, sOwn, sRet, sRetN, sDrop, sIf, sTg, gNm, gNil', gCons', gTp, sFor, frzS, fSeq, fRng1, fRng2, fEnum, fZip, fComp, fYes, sApp, sExt, sIx, fPop, fPopAt, sPar, fCall, fCallS, oEq_int, oNe_int, List.getElem?_cons_zero, List.getElem?_cons_succ, List.set_cons_zero, List.set_cons_succ, oAdd, oSub, oMul, oDiv, oMod, oLt, oLe, oGt, oGe, oMin, oMax, oPow, decide_eq_true_eq, if_true, if_false, Bool.false_eq_true, Bool.not_true, Bool.not_false, decide_true, decide_false, List.length_cons, List.length_nil, List.length_map, Bool.and_self, fOpR, fChain, oCatT, fStar, fSlL, fSlT, fRev, oNn, oSm, oIsB, oNotB, sParO1, sParO2, sParO3, fRng3, Nat.reduceAdd, Nat.reduceBEq, bleN0, bleN1, bleN2, bleN3, bleN4, bleN5, bleN6, bleN7, bleN8, h1, h2, hm]
theorem c_e_law_5 {N : Nat} (h : N ≤ 30) {x0 x1 x2 x3 x4 x5 x6 x7 x8 x9 x10 x11 x12 x13 x14 x15 x16 x17 x18 : Sl} : cl [10] (gNm 10) fYes e_law_5 (rngL 0 (N + 1)) [x0, x1, x2, .v (.int (N : Int)), x4, x5, x6, x7, x8, x9, x10, x11, x12, x13, .v (.list ((T4 tR2 N).map .int)), x15, x16, x17, .un] = some (((irg 0 (N + 1)).map fun k => conv tR2 k.toNat).map .int, [x0, x1, x2, .v (.int (N : Int)), x4, x5, x6, x7, x8, x9, .un, x11, x12, x13, .v (.list ((T4 tR2 N).map .int)), x15, x16, x17, .un]) := by
  rw [rngL_eq]
  exact cl_mI (ρ := [x0, x1, x2, .v (.int (N : Int)), x4, x5, x6, x7, x8, x9, x10, x11, x12, x13, .v (.list ((T4 tR2 N).map .int)), x15, x16, x17, .un]) (fun k => conv tR2 k.toNat) fun d hd => by
    obtain ⟨k, hk, rfl⟩ := mem_irg hd
    refine ⟨[x0, x1, x2, .v (.int (N : Int)), x4, x5, x6, x7, x8, x9, .v (.int (0 + (k : Int))), x11, x12, x13, .v (.list ((T4 tR2 N).map .int)), x15, x16, x17, .un], [x0, x1, x2, .v (.int (N : Int)), x4, x5, x6, x7, x8, x9, .v (.int (0 + (k : Int))), x11, x12, x13, .v (.list ((T4 tR2 N).map .int)), x15, x16, x17, .un], rfl, ?_, rfl⟩
    rw [show ((0 : Int) + (k : Int)).toNat = k by omega, show (0 : Int) + (k : Int) = (k : Int) by omega]
    have hb : inB ((k : Int) + 1) = true := inB_of (by omega) (by omega)
    have hn : ((k : Int) + 1).toNat = k + 1 := by omega
    have hz := rngL_ble (lo := 0) (n := k + 1) (by omega)
    have hc := @c_e_law_4 k N (by omega) x0 x1 x2 (.v (.int (N : Int))) x4 x5 x6 x7 x8 x9 x10 x11 x12 x13 x14 x15 x16 x17 .un
    simp only [e_law_5, fC, fVar, rdS, Rf.get, fRd, bnd, Fe.ret, fOp, fUn, fTst, fNot, fAnd, fOr, fIf, fBool, fNil, fCons, fTup, fLst, fAsL, fVal, fAndV, fOrV, fNotV, oI, oIc, oNeg, oIsN, oNotN, oIx, fIx, fR1, fR1L, oLen, oList, oTuple, oInt, oAbs, fRep, fCat, sNil, sThen, sSeq, sSet, sOwn, sRet, sRetN, sDrop, sIf, sTg, gNm, gNil', gCons', gTp, sFor, frzS, fSeq, fRng1, fRng2, fEnum, fZip, fComp, fYes, sApp, sExt, sIx, fPop, fPopAt, sPar, fCall, fCallS, oEq_int, oNe_int, List.getElem?_cons_zero, List.getElem?_cons_succ, List.set_cons_zero, List.set_cons_succ, oAdd, oSub, oMul, oDiv, oMod, oLt, oLe, oGt, oGe, oMin, oMax, oPow, decide_eq_true_eq, if_true, if_false, Bool.false_eq_true, Bool.not_true, Bool.not_false, decide_true, decide_false, List.length_cons, List.length_nil, List.length_map, Bool.and_self, fOpR, fChain, oCatT, fStar, fSlL, fSlT, fRev, oNn, oSm, oIsB, oNotB, sParO1, sParO2, sParO3, fRng3, Nat.reduceAdd, Nat.reduceBEq, bleN0, bleN1, bleN2, bleN3, bleN4, bleN5, bleN6, bleN7, bleN8, hb, hn, hz, hc, oSum, intsD_map, convI_sum]
def due (N : Nat) : Nat → Int
  | 0 => 0
  | i + 1 => due N i + (if (N : Int) % (1 + (i : Int)) = 0 then (1 + (i : Int)) * (1 + (i : Int)) * (1 + (i : Int)) * (if ((N : Int) + (1 + (i : Int))) / 2 * 2 = (N : Int) + (1 + (i : Int)) then 1 else 0 - 1) else 0)
theorem l_due {N : Nat} (h : N ≤ 120) {x0 x1 x2 x3 x4 x5 x6 x7 x8 x9 x10 x11 x12 x13 x14 x15 x16 x17 x18 : Sl} : ∃ y7, lp (gNm 7) b_law_2 (rngL 1 N) [x0, x1, x2, .v (.int (N : Int)), x4, x5, .v (.int 0), x7, x8, x9, x10, x11, x12, x13, x14, x15, x16, x17, x18] = some (.nx [x0, x1, x2, .v (.int (N : Int)), x4, x5, .v (.int (due N N)), y7, x8, x9, x10, x11, x12, x13, x14, x15, x16, x17, x18]) := by
  obtain ⟨ρ', h1, x, rfl⟩ := lp_rng (g := gNm 7) (b := b_law_2) (fun i ρ => ∃ x, ρ = [x0, x1, x2, .v (.int (N : Int)), x4, x5, .v (.int (due N i)), x, x8, x9, x10, x11, x12, x13, x14, x15, x16, x17, x18]) (lo := 1) (n := N) (ρ := [x0, x1, x2, .v (.int (N : Int)), x4, x5, .v (.int 0), x7, x8, x9, x10, x11, x12, x13, x14, x15, x16, x17, x18]) ⟨x7, rfl⟩ fun i ρ hi ⟨x, e⟩ => by
    subst e
    refine ⟨_, ?_, .v (.int (1 + (i : Int))), rfl⟩
    have hm : modOk (1 + (i : Int)) = true := modOk_of (by omega)
    have hd : divOk 2 = true := by decide
    have s1 : Sm (1 + (i : Int)) := Sm_of (by omega) (by omega)
    have q2 : (1 + (i : Int)) * (1 + (i : Int)) ≤ 200 * 200 := Int.mul_le_mul (by omega) (by omega) (by omega) (by omega)
    have p2 : 0 ≤ (1 + (i : Int)) * (1 + (i : Int)) := Int.mul_nonneg (by omega) (by omega)
    have q3 : (1 + (i : Int)) * (1 + (i : Int)) * (1 + (i : Int)) ≤ 200 * 200 * 200 := Int.mul_le_mul (by omega) (by omega) (by omega) (by omega)
    have p3 : 0 ≤ (1 + (i : Int)) * (1 + (i : Int)) * (1 + (i : Int)) := Int.mul_nonneg p2 (by omega)
    have s2 : Sm ((1 + (i : Int)) * (1 + (i : Int))) := Sm_of (by omega) (by omega)
    have s3 : Sm ((1 + (i : Int)) * (1 + (i : Int)) * (1 + (i : Int))) := Sm_of (by omega) (by omega)
    have sh : Sm (((N : Int) + (1 + (i : Int))) / 2) := Sm_of (by omega) (by omega)
    have m0 := Sm_mul sh (show Sm 2 by decide)
    have m1 := Sm_mul s1 s1
    have m2 := Sm_mul s2 s1
    have m3 := Sm_mul s3 (show Sm 1 by decide)
    have m4 := Sm_mul s3 (show Sm (0 - 1) by decide)
    by_cases c1 : (N : Int) % (1 + (i : Int)) = 0
    · by_cases c2 : ((N : Int) + (1 + (i : Int))) / 2 * 2 = (N : Int) + (1 + (i : Int))
      · rw [show due N (i + 1) = due N i + (1 + (i : Int)) * (1 + (i : Int)) * (1 + (i : Int)) * 1 by rw [due, if_pos c1, if_pos c2]]
        simp only [lp1, b_law_2, fC, fVar, rdS, Rf.get, fRd, bnd, Fe.ret, fOp, fUn, fTst, fNot, fAnd, fOr, fIf, fBool, fNil, fCons, fTup, fLst, fAsL, fVal, fAndV, fOrV, fNotV, oI, oIc, oNeg, oIsN, oNotN, oIx, fIx, fR1, fR1L, oLen, oList, oTuple, oInt, oAbs, fRep, fCat, sNil, sThen, sSeq, sSet, sOwn, sRet, sRetN, sDrop, sIf, sTg, gNm, gNil', gCons', gTp, sFor, frzS, fSeq, fRng1, fRng2, fEnum, fZip, fComp, fYes, sApp, sExt, sIx, fPop, fPopAt, sPar, fCall, fCallS, oEq_int, oNe_int, List.getElem?_cons_zero, List.getElem?_cons_succ, List.set_cons_zero, List.set_cons_succ, oAdd, oSub, oMul, oDiv, oMod, oLt, oLe, oGt, oGe, oMin, oMax, oPow, decide_eq_true_eq, if_true, if_false, Bool.false_eq_true, Bool.not_true, Bool.not_false, decide_true, decide_false, List.length_cons, List.length_nil, List.length_map, Bool.and_self, fOpR, fChain, oCatT, fStar, fSlL, fSlT, fRev, oNn, oSm, oIsB, oNotB, sParO1, sParO2, sParO3, fRng3, Nat.reduceAdd, Nat.reduceBEq, bleN0, bleN1, bleN2, bleN3, bleN4, bleN5, bleN6, bleN7, bleN8, hm, hd, c1, c2, m0, m1, m2, m3]
      · rw [show due N (i + 1) = due N i + (1 + (i : Int)) * (1 + (i : Int)) * (1 + (i : Int)) * (0 - 1) by rw [due, if_pos c1, if_neg c2]]
        simp only [lp1, b_law_2, fC, fVar, rdS, Rf.get, fRd, bnd, Fe.ret, fOp, fUn, fTst, fNot, fAnd, fOr, fIf, fBool, fNil, fCons, fTup, fLst, fAsL, fVal, fAndV, fOrV, fNotV, oI, oIc, oNeg, oIsN, oNotN, oIx, fIx, fR1, fR1L, oLen, oList, oTuple, oInt, oAbs, fRep, fCat, sNil, sThen, sSeq, sSet, sOwn, sRet, sRetN, sDrop, sIf, sTg, gNm, gNil', gCons', gTp, sFor, frzS, fSeq, fRng1, fRng2, fEnum, fZip, fComp, fYes, sApp, sExt, sIx, fPop, fPopAt, sPar, fCall, fCallS, oEq_int, oNe_int, List.getElem?_cons_zero, List.getElem?_cons_succ, List.set_cons_zero, List.set_cons_succ, oAdd, oSub, oMul, oDiv, oMod, oLt, oLe, oGt, oGe, oMin, oMax, oPow, decide_eq_true_eq, if_true, if_false, Bool.false_eq_true, Bool.not_true, Bool.not_false, decide_true, decide_false, List.length_cons, List.length_nil, List.length_map, Bool.and_self, fOpR, fChain, oCatT, fStar, fSlL, fSlT, fRev, oNn, oSm, oIsB, oNotB, sParO1, sParO2, sParO3, fRng3, Nat.reduceAdd, Nat.reduceBEq, bleN0, bleN1, bleN2, bleN3, bleN4, bleN5, bleN6, bleN7, bleN8, hm, hd, c1, c2, m0, m1, m2, m4]
    · rw [show due N (i + 1) = due N i by rw [due, if_neg c1, Int.add_zero]]
      simp only [lp1, b_law_2, fC, fVar, rdS, Rf.get, fRd, bnd, Fe.ret, fOp, fUn, fTst, fNot, fAnd, fOr, fIf, fBool, fNil, fCons, fTup, fLst, fAsL, fVal, fAndV, fOrV, fNotV, oI, oIc, oNeg, oIsN, oNotN, oIx, fIx, fR1, fR1L, oLen, oList, oTuple, oInt, oAbs, fRep, fCat, sNil, sThen, sSeq, sSet, sOwn, sRet, sRetN, sDrop, sIf, sTg, gNm, gNil', gCons', gTp, sFor, frzS, fSeq, fRng1, fRng2, fEnum, fZip, fComp, fYes, sApp, sExt, sIx, fPop, fPopAt, sPar, fCall, fCallS, oEq_int, oNe_int, List.getElem?_cons_zero, List.getElem?_cons_succ, List.set_cons_zero, List.set_cons_succ, oAdd, oSub, oMul, oDiv, oMod, oLt, oLe, oGt, oGe, oMin, oMax, oPow, decide_eq_true_eq, if_true, if_false, Bool.false_eq_true, Bool.not_true, Bool.not_false, decide_true, decide_false, List.length_cons, List.length_nil, List.length_map, Bool.and_self, fOpR, fChain, oCatT, fStar, fSlL, fSlT, fRev, oNn, oSm, oIsB, oNotB, sParO1, sParO2, sParO3, fRng3, Nat.reduceAdd, Nat.reduceBEq, bleN0, bleN1, bleN2, bleN3, bleN4, bleN5, bleN6, bleN7, bleN8, hm, c1]
  exact ⟨x, h1⟩
def oddI (N : Nat) : List Int := (irgC 1 2 N).map fun k => iat tOd k.toNat * iat tOd (2 * N - k.toNat)
theorem c_e_law_8 {N : Nat} (h : N ≤ 119 ∨ N = 120) {x0 x1 x2 x3 x4 x5 x6 x7 x8 x9 x10 x11 x12 x13 x14 x15 x16 x17 x18 : Sl} : cl [10] (gNm 10) fYes e_law_8 (rngC 1 2 N) [x0, x1, x2, .v (.int (N : Int)), x4, x5, x6, x7, x8, x9, x10, x11, x12, x13, x14, x15, x16, x17, x18] = some ((oddI N).map .int, [x0, x1, x2, .v (.int (N : Int)), x4, x5, x6, x7, x8, x9, .un, x11, x12, x13, x14, x15, x16, x17, x18]) := by
  rw [rngC_eq]
  exact cl_mI (ρ := [x0, x1, x2, .v (.int (N : Int)), x4, x5, x6, x7, x8, x9, x10, x11, x12, x13, x14, x15, x16, x17, x18]) (fun k => iat tOd k.toNat * iat tOd (2 * N - k.toNat)) fun d hd => by
    obtain ⟨k, hk, rfl⟩ := mem_irgC hd
    refine ⟨[x0, x1, x2, .v (.int (N : Int)), x4, x5, x6, x7, x8, x9, .v (.int (1 + (k : Int) * 2)), x11, x12, x13, x14, x15, x16, x17, x18], [x0, x1, x2, .v (.int (N : Int)), x4, x5, x6, x7, x8, x9, .v (.int (1 + (k : Int) * 2)), x11, x12, x13, x14, x15, x16, x17, x18], rfl, ?_, rfl⟩
    have e1 := od_at (n := 1 + k * 2) (by omega) (by omega)
    have e2 := od_at (n := 2 * N - (1 + k * 2)) (by omega) (by omega)
    rw [show ((1 + k * 2 : Nat) : Int) = 1 + (k : Int) * 2 by omega] at e1
    rw [show ((2 * N - (1 + k * 2) : Nat) : Int) = 2 * (N : Int) - (1 + (k : Int) * 2) by omega] at e2
    rw [show ((1 : Int) + (k : Int) * 2).toNat = 1 + k * 2 by omega]
    have hm := Sm_mul (iat_smB od_sm (1 + k * 2)) (iat_smB od_sm (2 * N - (1 + k * 2)))
    have hm2 : mulOk 2 (N : Int) = true := Sm_mul (show Sm 2 by decide) (Sm_of (by omega) (by omega))
    simp only [e_law_8, fC, fVar, rdS, Rf.get, fRd, bnd, Fe.ret, fOp, fUn, fTst, fNot, fAnd, fOr, fIf, fBool, fNil, fCons, fTup, fLst, fAsL, fVal, fAndV, fOrV, fNotV, oI, oIc, oNeg, oIsN, oNotN, oIx, fIx, fR1, fR1L, oLen, oList, oTuple, oInt, oAbs, fRep, fCat, sNil, sThen, sSeq, sSet, sOwn, sRet, sRetN, sDrop, sIf, sTg, gNm, gNil', gCons', gTp, sFor, frzS, fSeq, fRng1, fRng2, fEnum, fZip, fComp, fYes, sApp, sExt, sIx, fPop, fPopAt, sPar, fCall, fCallS, oEq_int, oNe_int, List.getElem?_cons_zero, List.getElem?_cons_succ, List.set_cons_zero, List.set_cons_succ, oAdd, oSub, oMul, oDiv, oMod, oLt, oLe, oGt, oGe, oMin, oMax, oPow, decide_eq_true_eq, if_true, if_false, Bool.false_eq_true, Bool.not_true, Bool.not_false, decide_true, decide_false, List.length_cons, List.length_nil, List.length_map, Bool.and_self, fOpR, fChain, oCatT, fStar, fSlL, fSlT, fRev, oNn, oSm, oIsB, oNotB, sParO1, sParO2, sParO3, fRng3, Nat.reduceAdd, Nat.reduceBEq, bleN0, bleN1, bleN2, bleN3, bleN4, bleN5, bleN6, bleN7, bleN8, e1, e2, hm, hm2]
end K29
namespace K29
open PySem PySem.Spec PyProof.Rows L2 Fe
def evn (N : Nat) : Int := if N / 2 * 2 = N then iat tCu (N / 2) else 0
def chk (N : Nat) : Bool := decide (conv tR4 N = 16 * due N N) && (smB (due N N) && (decide (conv tRF N = 48 * iat tCu N + 192 * evn N) && (decide (8 * (oddI N).sum = iat tCu (2 * N) - iat tCu N) && (smB (oddI N).sum && (rcOk 1 (2 * (N : Int)) 2 && Nat.beq (Builtin.Range.rangeSize 1 (2 * (N : Int)) 2).toNat N)))))
theorem chk_all : ((List.range 121).all fun N => Nat.beq N 0 || chk N) = true := by decide +kernel
def intsEq : List Int → List Int → Bool
  | [], [] => true
  | a :: r, b :: s => decide (a = b) && intsEq r s
  | _, _ => false
theorem intsEq_ok : ∀ {l m : List Int}, intsEq l m = true → l = m
  | [], [], _ => rfl
  | a :: r, b :: s, h => by
    have h' := Bool.and_eq_true_iff.mp h
    rw [of_decide_eq_true h'.1, intsEq_ok h'.2]
  | [], _ :: _, h => by cases h
  | _ :: _, [], h => by cases h
theorem two_all : ((List.range 31).all fun N => intsEq ((irg 0 (N + 1)).map fun k => conv tR2 k.toNat) (T4 tR4 N) && repOk (.list ((T4 tR4 N).map .int))) = true := by decide +kernel
theorem sq_at {k : Nat} (h : k ≤ 120) : (sqAt k).length = 4 ∧ (∀ x ∈ sqAt k, Sm x) ∧ ((sqAt k).map fun a => a * a).sum = (k : Int) ∧ (0 < k → F_any_four_squares [.int (k : Int)] = some (.tuple ((sqAt k).map .int))) ∧ F_four_norm [.tuple (((sqAt k).map fun a => 2 * a).map .int)] = some (.int (k : Int)) := by
  have z := all_range sq_all (show k < 121 by omega)
  simp only [sqOk, Bool.and_eq_true, Bool.or_eq_true, decide_eq_true_eq] at z
  obtain ⟨⟨⟨⟨z1, z2⟩, z3⟩, z4⟩, z5⟩ := z
  refine ⟨Nat.eq_of_beq_eq_true z1, fun x hx => smB_ok (List.all_eq_true.mp z2 x hx), z3, fun h0 => ?_, isI_ok z5⟩
  rcases z4 with z4 | z4
  · exact absurd (Nat.eq_of_beq_eq_true z4) (by omega)
  · exact isTI_ok z4
def restL : SF := (sSeq (sSet 4 (fAsL (fCat (fAsL (fLst (fCons (fC (.int 1)) fNil))) (fAsL (fComp [10] (fRng2 (fCons (fC (.int 1)) (fCons (fOp oAdd (fVar 3) (fC (.int 1))) fNil))) (gNm 10) fYes e_law_0)))))
    (sSeq (sSet 5 (fR1 oSum (fVal (fAsL (fComp [10] (fRng1 (fCons (fOp oAdd (fVar 3) (fC (.int 1))) fNil)) (gNm 10) fYes e_law_1)))))
    (sSeq (sSet 6 (fC (.int 0)))
    (sSeq (sFor (fRng2 (fCons (fC (.int 1)) (fCons (fOp oAdd (fVar 3) (fC (.int 1))) fNil))) (gNm 7) b_law_2)
    (sSeq (sIf (fTst (fOp oNe (fVar 5) (fOp oMul (fC (.int 16)) (fVar 6)))) (sRet (fC (.bool false))) sNil)
    (sSeq (sIf (fTst (fOp oLt (fVar 3) (fC (.int 31)))) (sSeq (sSet 14 (fAsL (fCat (fAsL (fLst (fCons (fC (.int 1)) fNil))) (fAsL (fComp [10] (fRng2 (fCons (fC (.int 1)) (fCons (fOp oAdd (fVar 3) (fC (.int 1))) fNil))) (gNm 10) fYes e_law_3)))))
    (sSeq (sSet 15 (fAsL (fComp [10] (fRng1 (fCons (fOp oAdd (fVar 3) (fC (.int 1))) fNil)) (gNm 10) fYes e_law_5)))
    (sIf (fTst (fRepNe (fRd 15) (fRd 4))) (sRet (fC (.bool false))) sNil))) sNil)
    (sSeq (sSet 8 (fAsL (fCat (fAsL (fLst (fCons (fC (.int 1)) fNil))) (fAsL (fComp [10] (fRng2 (fCons (fC (.int 1)) (fCons (fOp oAdd (fVar 3) (fC (.int 1))) fNil))) (gNm 10) fYes e_law_6)))))
    (sSeq (sSet 5 (fR1 oSum (fVal (fAsL (fComp [10] (fRng1 (fCons (fOp oAdd (fVar 3) (fC (.int 1))) fNil)) (gNm 10) fYes e_law_7)))))
    (sSeq (sSet 9 (fIf (fTst (fOp oEq (fOp oMul (fOp oDiv (fVar 3) (fC (.int 2))) (fC (.int 2))) (fVar 3))) (fCall F_law_cubes (fCons (fOp oDiv (fVar 3) (fC (.int 2))) fNil)) (fC (.int 0))))
    (sSeq (sIf (fTst (fOp oNe (fVar 5) (fOp oAdd (fOp oMul (fC (.int 48)) (fCall F_law_cubes (fCons (fVar 3) fNil))) (fOp oMul (fC (.int 192)) (fVar 9))))) (sRet (fC (.bool false))) sNil)
    (sSeq (sSet 5 (fR1 oSum (fVal (fAsL (fComp [10] (fRng3 (fCons (fC (.int 1)) (fCons (fOp oMul (fC (.int 2)) (fVar 3)) (fCons (fC (.int 2)) fNil)))) (gNm 10) fYes e_law_8)))))
    (sSeq (sIf (fTst (fOp oNe (fOp oMul (fC (.int 8)) (fVar 5)) (fOp oSub (fCall F_law_cubes (fCons (fOp oMul (fC (.int 2)) (fVar 3)) fNil)) (fCall F_law_cubes (fCons (fVar 3) fNil))))) (sRet (fC (.bool false))) sNil)
    (sSeq (sSet 10 (fCallS 1 F_law_pick (fCons (fOp oAdd (fVar 3) (fC (.int 1))) fNil)))
    (sSeq (sPar 11 12 (fIf (fTst (fOp oGt (fVar 10) (fC (.int 0)))) (fCall F_any_four_squares (fCons (fVar 10) fNil)) (fOp oRepT (fTup (fCons (fC (.int 0)) fNil)) (fC (.int 4)))) (fIf (fTst (fOp oLt (fVar 10) (fVar 3))) (fCall F_any_four_squares (fCons (fOp oSub (fVar 3) (fVar 10)) fNil)) (fOp oRepT (fTup (fCons (fC (.int 0)) fNil)) (fC (.int 4)))))
    (sSeq (sIf (fTst (fOp oNe (fR1 oSum (fVal (fAsL (fComp [17] (fSeq (fOp oCatT (fVar 11) (fVar 12))) (gNm 17) fYes e_law_9)))) (fVar 3))) (sRet (fC (.bool false))) sNil)
    (sSeq (sSet 13 (fAsL (fComp [16] (fSeq (fTup (fCons (fVar 11) (fCons (fVar 12) fNil)))) (gNm 16) fYes e_law_11)))
    (sIf (fTst (fOp oNe (fVar 13) (fAsL (fLst (fCons (fVar 10) (fCons (fOp oSub (fVar 3) (fVar 10)) fNil)))))) (sRet (fC (.bool false))) sNil)))))))))))))))))
def firstL : SF := (sSet 3 (fOp oAdd (fC (.int 1)) (fCallS 1 F_law_pick (fCons (fIf (fTst (fOp oEq (fVar 2) (fC (.int 0)))) (fC (.int 120)) (fC (.int 30))) fNil))))
theorem restL_eq : b_law_12 = sSeq firstL restL := rfl
theorem sq0 : oRepT (.tuple [.int 0]) (.int 4) = some (.tuple ((sqAt 0).map .int)) := rfl
/-- squares added -/
theorem c_e_law_9 {l : List Int} (h : ∀ x ∈ l, Sm x) {x0 x1 x2 x3 x4 x5 x6 x7 x8 x9 x10 x11 x12 x13 x14 x15 x16 x17 x18 : Sl} : cl [17] (gNm 17) fYes e_law_9 (l.map .int) [x0, x1, x2, x3, x4, x5, x6, x7, x8, x9, x10, x11, x12, x13, x14, x15, x16, x17, x18] = some ((l.map fun a => a * a).map .int, [x0, x1, x2, x3, x4, x5, x6, x7, x8, x9, x10, x11, x12, x13, x14, x15, x16, .un, x18]) :=
  cl_mI (ρ := [x0, x1, x2, x3, x4, x5, x6, x7, x8, x9, x10, x11, x12, x13, x14, x15, x16, x17, x18]) (fun a => a * a) fun d hd => by
    refine ⟨[x0, x1, x2, x3, x4, x5, x6, x7, x8, x9, x10, x11, x12, x13, x14, x15, x16, .v (.int d), x18], [x0, x1, x2, x3, x4, x5, x6, x7, x8, x9, x10, x11, x12, x13, x14, x15, x16, .v (.int d), x18], rfl, ?_, rfl⟩
    simp only [e_law_9, fC, fVar, rdS, Rf.get, fRd, bnd, Fe.ret, fOp, fUn, fTst, fNot, fAnd, fOr, fIf, fBool, fNil, fCons, fTup, fLst, fAsL, fVal, fAndV, fOrV, fNotV, oI, oIc, oNeg, oIsN, oNotN, oIx, fIx, fR1, fR1L, oLen, oList, oTuple, oInt, oAbs, fRep, fCat, sNil, sThen, sSeq, sSet, sOwn, sRet, sRetN, sDrop, sIf, sTg, gNm, gNil', gCons', gTp, sFor, frzS, fSeq, fRng1, fRng2, fEnum, fZip, fComp, fYes, sApp, sExt, sIx, fPop, fPopAt, sPar, fCall, fCallS, oEq_int, oNe_int, List.getElem?_cons_zero, List.getElem?_cons_succ, List.set_cons_zero, List.set_cons_succ, oAdd, oSub, oMul, oDiv, oMod, oLt, oLe, oGt, oGe, oMin, oMax, oPow, decide_eq_true_eq, if_true, if_false, Bool.false_eq_true, Bool.not_true, Bool.not_false, decide_true, decide_false, List.length_cons, List.length_nil, List.length_map, Bool.and_self, fOpR, fChain, oCatT, fStar, fSlL, fSlT, fRev, oNn, oSm, oIsB, oNotB, sParO1, sParO2, sParO3, fRng3, Nat.reduceAdd, Nat.reduceBEq, bleN0, bleN1, bleN2, bleN3, bleN4, bleN5, bleN6, bleN7, bleN8, Sm_mul (h d hd) (h d hd)]
theorem c_e_law_10 {l : List Int} (h : ∀ x ∈ l, Sm x) {x0 x1 x2 x3 x4 x5 x6 x7 x8 x9 x10 x11 x12 x13 x14 x15 x16 x17 x18 : Sl} : cl [17] (gNm 17) fYes e_law_10 (l.map .int) [x0, x1, x2, x3, x4, x5, x6, x7, x8, x9, x10, x11, x12, x13, x14, x15, x16, x17, x18] = some ((l.map fun a => 2 * a).map .int, [x0, x1, x2, x3, x4, x5, x6, x7, x8, x9, x10, x11, x12, x13, x14, x15, x16, .un, x18]) :=
  cl_mI (ρ := [x0, x1, x2, x3, x4, x5, x6, x7, x8, x9, x10, x11, x12, x13, x14, x15, x16, x17, x18]) (fun a => 2 * a) fun d hd => by
    refine ⟨[x0, x1, x2, x3, x4, x5, x6, x7, x8, x9, x10, x11, x12, x13, x14, x15, x16, .v (.int d), x18], [x0, x1, x2, x3, x4, x5, x6, x7, x8, x9, x10, x11, x12, x13, x14, x15, x16, .v (.int d), x18], rfl, ?_, rfl⟩
    simp only [e_law_10, fC, fVar, rdS, Rf.get, fRd, bnd, Fe.ret, fOp, fUn, fTst, fNot, fAnd, fOr, fIf, fBool, fNil, fCons, fTup, fLst, fAsL, fVal, fAndV, fOrV, fNotV, oI, oIc, oNeg, oIsN, oNotN, oIx, fIx, fR1, fR1L, oLen, oList, oTuple, oInt, oAbs, fRep, fCat, sNil, sThen, sSeq, sSet, sOwn, sRet, sRetN, sDrop, sIf, sTg, gNm, gNil', gCons', gTp, sFor, frzS, fSeq, fRng1, fRng2, fEnum, fZip, fComp, fYes, sApp, sExt, sIx, fPop, fPopAt, sPar, fCall, fCallS, oEq_int, oNe_int, List.getElem?_cons_zero, List.getElem?_cons_succ, List.set_cons_zero, List.set_cons_succ, oAdd, oSub, oMul, oDiv, oMod, oLt, oLe, oGt, oGe, oMin, oMax, oPow, decide_eq_true_eq, if_true, if_false, Bool.false_eq_true, Bool.not_true, Bool.not_false, decide_true, decide_false, List.length_cons, List.length_nil, List.length_map, Bool.and_self, fOpR, fChain, oCatT, fStar, fSlL, fSlT, fRev, oNn, oSm, oIsB, oNotB, sParO1, sParO2, sParO3, fRng3, Nat.reduceAdd, Nat.reduceBEq, bleN0, bleN1, bleN2, bleN3, bleN4, bleN5, bleN6, bleN7, bleN8, Sm_mul (show Sm 2 by decide) (h d hd)]
theorem f_e_law_11 {k : Nat} (h : k ≤ 120) {x0 x1 x2 x3 x4 x5 x6 x7 x8 x9 x10 x11 x12 x13 x14 x15 x16 x17 x18 : Sl} : e_law_11 [x0, x1, x2, x3, x4, x5, x6, x7, x8, x9, x10, x11, x12, x13, x14, x15, .v (.tuple ((sqAt k).map .int)), x17, x18] = some (.int (k : Int), [x0, x1, x2, x3, x4, x5, x6, x7, x8, x9, x10, x11, x12, x13, x14, x15, .v (.tuple ((sqAt k).map .int)), .un, x18]) := by
  obtain ⟨h1, h2, h3, h4, h5⟩ := sq_at h
  have hc := @c_e_law_10 (sqAt k) h2 x0 x1 x2 x3 x4 x5 x6 x7 x8 x9 x10 x11 x12 x13 x14 x15 (.v (.tuple ((sqAt k).map .int))) x17 x18
  simp only [e_law_11, fC, fVar, rdS, Rf.get, fRd, bnd, Fe.ret, fOp, fUn, fTst, fNot, fAnd, fOr, fIf, fBool, fNil, fCons, fTup, fLst, fAsL, fVal, fAndV, fOrV, fNotV, oI, oIc, oNeg, oIsN, oNotN, oIx, fIx, fR1, fR1L, oLen, oList, oTuple, oInt, oAbs, fRep, fCat, sNil, sThen, sSeq, sSet, sOwn, sRet, sRetN, sDrop, sIf, sTg, gNm, gNil', gCons', gTp, sFor, frzS, fSeq, fRng1, fRng2, fEnum, fZip, fComp, fYes, sApp, sExt, sIx, fPop, fPopAt, sPar, fCall, fCallS, oEq_int, oNe_int, List.getElem?_cons_zero, List.getElem?_cons_succ, List.set_cons_zero, List.set_cons_succ, oAdd, oSub, oMul, oDiv, oMod, oLt, oLe, oGt, oGe, oMin, oMax, oPow, decide_eq_true_eq, if_true, if_false, Bool.false_eq_true, Bool.not_true, Bool.not_false, decide_true, decide_false, List.length_cons, List.length_nil, List.length_map, Bool.and_self, fOpR, fChain, oCatT, fStar, fSlL, fSlT, fRev, oNn, oSm, oIsB, oNotB, sParO1, sParO2, sParO3, fRng3, Nat.reduceAdd, Nat.reduceBEq, bleN0, bleN1, bleN2, bleN3, bleN4, bleN5, bleN6, bleN7, bleN8, h1, hc, h5]
theorem core {N i₀ : Nat} (h1 : 1 ≤ N) (h120 : N ≤ 120) (s : Src) (x4 x5 x6 x7 x8 x9 x10 x11 x12 x13 x14 x15 : Sl) :
    ∃ s' y3 y4 y5 y6 y7 y8 y9 y10 y11 y12 y13 y14 y15, restL [.un, .src s, .v (.int (0 + (i₀ : Int))), .v (.int (N : Int)), x4, x5, x6, x7, x8, x9, x10, x11, x12, x13, x14, x15, .un, .un, .un] = some (.nx [.un, .src s', .v (.int (0 + (i₀ : Int))), y3, y4, y5, y6, y7, y8, y9, y10, y11, y12, y13, y14, y15, .un, .un, .un]) := by
  have z := all_range chk_all (show N < 121 by omega)
  simp only [chk, Bool.and_eq_true, Bool.or_eq_true, decide_eq_true_eq] at z
  rcases z with z | ⟨z1, z2, z3, z4, z5, z6, z7⟩
  · exact absurd (Nat.eq_of_beq_eq_true z) (by omega)
  have z7 := Nat.eq_of_beq_eq_true z7
  have bN := rngL_ble (lo := 1) (n := N) (by omega)
  have bN1 := rngL_ble (lo := 0) (n := N + 1) (by omega)
  have bC := rngC_ble (lo := 1) (c := 2) (n := N) (by omega)
  have bl : Nat.ble (1 + N) 16777216 = true := ble_of (by omega)
  have hb2 : inB 1 = true := by decide
  have hb1 : inB ((N : Int) + 1) = true := inB_of (by omega) (by omega)
  have hn2 : ((N : Int) + 1 - 1).toNat = N := by omega
  have hn1 : ((N : Int) + 1).toNat = N + 1 := by omega
  have t4 := T4_cons (t := tR4) (N := N) rfl
  have tF := T4_cons (t := tRF) (N := N) rfl
  have lgk : ((N : Int) + 1).natAbs.log2 < 9000 := by
    have := Nat.log2_le_self ((N : Int) + 1).natAbs
    omega
  obtain ⟨k, s2, hk, eP⟩ := pick_at (pickB_rng 104729 17) s (m := (N : Int) + 1) (by omega) lgk
  have hk' : k ≤ N := by omega
  obtain ⟨a1, a2, a3, a4, a5⟩ := sq_at (show k ≤ 120 by omega)
  obtain ⟨b1, b2, b3, b4, b5⟩ := sq_at (show N - k ≤ 120 by omega)
  have eK : (N : Int) - (k : Int) = ((N - k : Nat) : Int) := by omega
  have hne : oNe (.list [.int (k : Int), .int ((N - k : Nat) : Int)]) (.list [.int (k : Int), .int ((N - k : Nat) : Int)]) = some (.bool false) := by
    have := oNe_lI [(k : Int), ((N - k : Nat) : Int)] [(k : Int), ((N - k : Nat) : Int)]
    rw [decide_eq_true rfl] at this
    exact this
  have s4 : ∀ x ∈ sqAt k ++ sqAt (N - k), Sm x := fun x hx => by
    rcases List.mem_append.mp hx with hx | hx
    · exact a2 x hx
    · exact b2 x hx
  have hsum : ((sqAt k ++ sqAt (N - k)).map fun a => a * a).sum = (N : Int) := by
    rw [List.map_append, List.sum_append, a3, b3]
    omega
  have hcat : (sqAt k).map PyData.int ++ (sqAt (N - k)).map PyData.int = (sqAt k ++ sqAt (N - k)).map .int := (List.map_append ..).symm
  have hc0 := fun (z3 z2 : Sl) => @c_e_law_0 N h120 z2
  have d2 : divOk 2 = true := by decide
  have mh : mulOk ((N : Int) / 2) 2 = true := Sm_mul (Sm_of (by omega) (by omega)) (show Sm 2 by decide)
  have m2 : mulOk 2 (N : Int) = true := Sm_mul (show Sm 2 by decide) (Sm_of (by omega) (by omega))
  have m16 : mulOk 16 (due N N) = true := Sm_mul (show Sm 16 by decide) (smB_ok z2)
  have m48 : mulOk 48 (iat tCu N) = true := Sm_mul (show Sm 48 by decide) (iat_smB cu_sm N)
  have m192 : ∀ j, mulOk 192 (iat tCu j) = true := fun j => Sm_mul (show Sm 192 by decide) (iat_smB cu_sm j)
  have m1920 : mulOk 192 0 = true := by decide
  have m8 : mulOk 8 (oddI N).sum = true := Sm_mul (show Sm 8 by decide) (smB_ok z5)
  have eC := cu_at (n := N) (by omega) (by omega)
  have eC2 := cu_at (n := 2 * N) (by omega) (by omega)
  rw [show ((2 * N : Nat) : Int) = 2 * (N : Int) by omega] at eC2
  by_cases hs : N < 31
  · have hs' : (N : Int) < 31 := by omega
    have k0 := @c_e_law_0 N h120 (.un) (.src s) (.v (.int (0 + (i₀ : Int)))) (.v (.int (N : Int))) (x4) (x5) (x6) (x7) (x8) (x9) (x10) (x11) (x12) (x13) (x14) (x15) (.un) (.un) (.un)
    have k1 := @c_e_law_1 N N (Nat.le_refl _) (.un) (.src s) (.v (.int (0 + (i₀ : Int)))) (.v (.int (N : Int))) (.v (.list ((T4 tR4 N).map .int))) (x5) (x6) (x7) (x8) (x9) (.un) (x11) (x12) (x13) (x14) (x15) (.un) (.un) (.un)
    obtain ⟨y7, k2⟩ := @l_due N h120 (.un) (.src s) (.v (.int (0 + (i₀ : Int)))) (.v (.int (N : Int))) (.v (.list ((T4 tR4 N).map .int))) (.v (.int (16 * due N N))) (.v (.int 0)) (x7) (x8) (x9) (.un) (x11) (x12) (x13) (x14) (x15) (.un) (.un) (.un)
    have w := Bool.and_eq_true_iff.mp (all_range two_all hs)
    have w1 := intsEq_ok w.1
    have w2 := repT w.2
    have t2 := T4_cons (t := tR2) (N := N) rfl
    have k3 := @c_e_law_3 N (by omega) (.un) (.src s) (.v (.int (0 + (i₀ : Int)))) (.v (.int (N : Int))) (.v (.list ((T4 tR4 N).map .int))) (.v (.int (16 * due N N))) (.v (.int (due N N))) (y7) (x8) (x9) (.un) (x11) (x12) (x13) (x14) (x15) (.un) (.un) (.un)
    have k5 := @c_e_law_5 N (by omega) (.un) (.src s) (.v (.int (0 + (i₀ : Int)))) (.v (.int (N : Int))) (.v (.list ((T4 tR4 N).map .int))) (.v (.int (16 * due N N))) (.v (.int (due N N))) (y7) (x8) (x9) (.un) (x11) (x12) (x13) (.v (.list ((T4 tR2 N).map .int))) (x15) (.un) (.un) (.un)
    rw [w1] at k5
    have k6 := @c_e_law_6 N h120 (.un) (.src s) (.v (.int (0 + (i₀ : Int)))) (.v (.int (N : Int))) (.v (.list ((T4 tR4 N).map .int))) (.v (.int (16 * due N N))) (.v (.int (due N N))) (y7) (x8) (x9) (.un) (x11) (x12) (x13) (.v (.list ((T4 tR2 N).map .int))) (.v (.list ((T4 tR4 N).map .int))) (.un) (.un) (.un)
    have k7 := @c_e_law_7 N N (Nat.le_refl _) (.un) (.src s) (.v (.int (0 + (i₀ : Int)))) (.v (.int (N : Int))) (.v (.list ((T4 tR4 N).map .int))) (.v (.int (16 * due N N))) (.v (.int (due N N))) (y7) (.v (.list ((T4 tRF N).map .int))) (x9) (.un) (x11) (x12) (x13) (.v (.list ((T4 tR2 N).map .int))) (.v (.list ((T4 tR4 N).map .int))) (.un) (.un) (.un)
    by_cases hv : N / 2 * 2 = N
    · have hv' : (N : Int) / 2 * 2 = (N : Int) := by omega
      have eH := cu_at (n := N / 2) (by omega) (by omega)
      rw [show ((N / 2 : Nat) : Int) = (N : Int) / 2 by omega] at eH
      rw [evn, if_pos hv] at z3
      have k8 := @c_e_law_8 N (by omega) (.un) (.src s) (.v (.int (0 + (i₀ : Int)))) (.v (.int (N : Int))) (.v (.list ((T4 tR4 N).map .int))) (.v (.int (48 * iat tCu N + 192 * iat tCu (N / 2)))) (.v (.int (due N N))) (y7) (.v (.list ((T4 tRF N).map .int))) (.v (.int (iat tCu (N / 2)))) (.un) (x11) (x12) (x13) (.v (.list ((T4 tR2 N).map .int))) (.v (.list ((T4 tR4 N).map .int))) (.un) (.un) (.un)
      have k9 := @c_e_law_9 _ s4 (.un) (.src s2) (.v (.int (0 + (i₀ : Int)))) (.v (.int (N : Int))) (.v (.list ((T4 tR4 N).map .int))) (.v (.int (oddI N).sum)) (.v (.int (due N N))) (y7) (.v (.list ((T4 tRF N).map .int))) (.v (.int (iat tCu (N / 2)))) (.v (.int (k : Int))) (.v (.tuple ((sqAt k).map .int))) (.v (.tuple ((sqAt (N - k)).map .int))) (x13) (.v (.list ((T4 tR2 N).map .int))) (.v (.list ((T4 tR4 N).map .int))) (.un) (.un) (.un)
      have k11 := @f_e_law_11 k (by omega) (.un) (.src s2) (.v (.int (0 + (i₀ : Int)))) (.v (.int (N : Int))) (.v (.list ((T4 tR4 N).map .int))) (.v (.int (oddI N).sum)) (.v (.int (due N N))) (y7) (.v (.list ((T4 tRF N).map .int))) (.v (.int (iat tCu (N / 2)))) (.v (.int (k : Int))) (.v (.tuple ((sqAt k).map .int))) (.v (.tuple ((sqAt (N - k)).map .int))) (x13) (.v (.list ((T4 tR2 N).map .int))) (.v (.list ((T4 tR4 N).map .int))) (.un) (.un) (.un)
      have k12 := @f_e_law_11 (N - k) (by omega) (.un) (.src s2) (.v (.int (0 + (i₀ : Int)))) (.v (.int (N : Int))) (.v (.list ((T4 tR4 N).map .int))) (.v (.int (oddI N).sum)) (.v (.int (due N N))) (y7) (.v (.list ((T4 tRF N).map .int))) (.v (.int (iat tCu (N / 2)))) (.v (.int (k : Int))) (.v (.tuple ((sqAt k).map .int))) (.v (.tuple ((sqAt (N - k)).map .int))) (x13) (.v (.list ((T4 tR2 N).map .int))) (.v (.list ((T4 tR4 N).map .int))) (.un) (.un) (.un)
      by_cases hk0 : k = 0
      · have c0 : ¬ (0 : Int) < (k : Int) := by omega
        have cN : (k : Int) < (N : Int) := by omega
        have q0 := sq0
        rw [← hk0] at q0
        have q1 := b4 (by omega)
        refine ⟨s2, .v (.int (N : Int)), .v (.list ((T4 tR4 N).map .int)), .v (.int (oddI N).sum), .v (.int (due N N)), y7, .v (.list ((T4 tRF N).map .int)), .v (.int (iat tCu (N / 2))), .v (.int (k : Int)), .v (.tuple ((sqAt k).map .int)), .v (.tuple ((sqAt (N - k)).map .int)), .v (.list [.int (k : Int), .int ((N - k : Nat) : Int)]), .v (.list ((T4 tR2 N).map .int)), .v (.list ((T4 tR4 N).map .int)), ?_⟩
        simp only [restL, fC, fVar, rdS, Rf.get, fRd, bnd, Fe.ret, fOp, fUn, fTst, fNot, fAnd, fOr, fIf, fBool, fNil, fCons, fTup, fLst, fAsL, fVal, fAndV, fOrV, fNotV, oI, oIc, oNeg, oIsN, oNotN, oIx, fIx, fR1, fR1L, oLen, oList, oTuple, oInt, oAbs, fRep, fCat, sNil, sThen, sSeq, sSet, sOwn, sRet, sRetN, sDrop, sIf, sTg, gNm, gNil', gCons', gTp, sFor, frzS, fSeq, fRng1, fRng2, fEnum, fZip, fComp, fYes, sApp, sExt, sIx, fPop, fPopAt, sPar, fCall, fCallS, oEq_int, oNe_int, List.getElem?_cons_zero, List.getElem?_cons_succ, List.set_cons_zero, List.set_cons_succ, oAdd, oSub, oMul, oDiv, oMod, oLt, oLe, oGt, oGe, oMin, oMax, oPow, decide_eq_true_eq, if_true, if_false, Bool.false_eq_true, Bool.not_true, Bool.not_false, decide_true, decide_false, List.length_cons, List.length_nil, List.length_map, Bool.and_self, fOpR, fChain, oCatT, fStar, fSlL, fSlT, fRev, oNn, oSm, oIsB, oNotB, sParO1, sParO2, sParO3, fRng3, Nat.reduceAdd, Nat.reduceBEq, bleN0, bleN1, bleN2, bleN3, bleN4, bleN5, bleN6, bleN7, bleN8, k0, k1, k2, k3, k5, t2, w2, fRepNe, fRep2, k6, k7, hv', eH, m192, bN, bN1, bC, bl, hb2, hb1, hn2, hn1, t4, tF, List.length_map, irg_len, oSum, intsD_map, convI_sum, z1, m16, z3, m48, eC, z6, z7, m2, k8, m8, z4, eC2, d2, mh, hs', eP, a1, b1, hcat, List.length_append, k9, hsum, cl, wipeE, k11, k12, eK, hne, c0, cN, q0, q1]
      by_cases hkN : k = N
      · have c0 : (0 : Int) < (k : Int) := by omega
        have cN : ¬ (k : Int) < (N : Int) := by omega
        have q0 := sq0
        rw [show (0 : Nat) = N - k by omega] at q0
        have q1 := a4 (by omega)
        refine ⟨s2, .v (.int (N : Int)), .v (.list ((T4 tR4 N).map .int)), .v (.int (oddI N).sum), .v (.int (due N N)), y7, .v (.list ((T4 tRF N).map .int)), .v (.int (iat tCu (N / 2))), .v (.int (k : Int)), .v (.tuple ((sqAt k).map .int)), .v (.tuple ((sqAt (N - k)).map .int)), .v (.list [.int (k : Int), .int ((N - k : Nat) : Int)]), .v (.list ((T4 tR2 N).map .int)), .v (.list ((T4 tR4 N).map .int)), ?_⟩
        simp only [restL, fC, fVar, rdS, Rf.get, fRd, bnd, Fe.ret, fOp, fUn, fTst, fNot, fAnd, fOr, fIf, fBool, fNil, fCons, fTup, fLst, fAsL, fVal, fAndV, fOrV, fNotV, oI, oIc, oNeg, oIsN, oNotN, oIx, fIx, fR1, fR1L, oLen, oList, oTuple, oInt, oAbs, fRep, fCat, sNil, sThen, sSeq, sSet, sOwn, sRet, sRetN, sDrop, sIf, sTg, gNm, gNil', gCons', gTp, sFor, frzS, fSeq, fRng1, fRng2, fEnum, fZip, fComp, fYes, sApp, sExt, sIx, fPop, fPopAt, sPar, fCall, fCallS, oEq_int, oNe_int, List.getElem?_cons_zero, List.getElem?_cons_succ, List.set_cons_zero, List.set_cons_succ, oAdd, oSub, oMul, oDiv, oMod, oLt, oLe, oGt, oGe, oMin, oMax, oPow, decide_eq_true_eq, if_true, if_false, Bool.false_eq_true, Bool.not_true, Bool.not_false, decide_true, decide_false, List.length_cons, List.length_nil, List.length_map, Bool.and_self, fOpR, fChain, oCatT, fStar, fSlL, fSlT, fRev, oNn, oSm, oIsB, oNotB, sParO1, sParO2, sParO3, fRng3, Nat.reduceAdd, Nat.reduceBEq, bleN0, bleN1, bleN2, bleN3, bleN4, bleN5, bleN6, bleN7, bleN8, k0, k1, k2, k3, k5, t2, w2, fRepNe, fRep2, k6, k7, hv', eH, m192, bN, bN1, bC, bl, hb2, hb1, hn2, hn1, t4, tF, List.length_map, irg_len, oSum, intsD_map, convI_sum, z1, m16, z3, m48, eC, z6, z7, m2, k8, m8, z4, eC2, d2, mh, hs', eP, a1, b1, hcat, List.length_append, k9, hsum, cl, wipeE, k11, k12, eK, hne, c0, cN, q0, q1]
      have c0 : (0 : Int) < (k : Int) := by omega
      have cN : (k : Int) < (N : Int) := by omega
      have q0 := a4 (by omega)
      have q1 := b4 (by omega)
      refine ⟨s2, .v (.int (N : Int)), .v (.list ((T4 tR4 N).map .int)), .v (.int (oddI N).sum), .v (.int (due N N)), y7, .v (.list ((T4 tRF N).map .int)), .v (.int (iat tCu (N / 2))), .v (.int (k : Int)), .v (.tuple ((sqAt k).map .int)), .v (.tuple ((sqAt (N - k)).map .int)), .v (.list [.int (k : Int), .int ((N - k : Nat) : Int)]), .v (.list ((T4 tR2 N).map .int)), .v (.list ((T4 tR4 N).map .int)), ?_⟩
      simp only [restL, fC, fVar, rdS, Rf.get, fRd, bnd, Fe.ret, fOp, fUn, fTst, fNot, fAnd, fOr, fIf, fBool, fNil, fCons, fTup, fLst, fAsL, fVal, fAndV, fOrV, fNotV, oI, oIc, oNeg, oIsN, oNotN, oIx, fIx, fR1, fR1L, oLen, oList, oTuple, oInt, oAbs, fRep, fCat, sNil, sThen, sSeq, sSet, sOwn, sRet, sRetN, sDrop, sIf, sTg, gNm, gNil', gCons', gTp, sFor, frzS, fSeq, fRng1, fRng2, fEnum, fZip, fComp, fYes, sApp, sExt, sIx, fPop, fPopAt, sPar, fCall, fCallS, oEq_int, oNe_int, List.getElem?_cons_zero, List.getElem?_cons_succ, List.set_cons_zero, List.set_cons_succ, oAdd, oSub, oMul, oDiv, oMod, oLt, oLe, oGt, oGe, oMin, oMax, oPow, decide_eq_true_eq, if_true, if_false, Bool.false_eq_true, Bool.not_true, Bool.not_false, decide_true, decide_false, List.length_cons, List.length_nil, List.length_map, Bool.and_self, fOpR, fChain, oCatT, fStar, fSlL, fSlT, fRev, oNn, oSm, oIsB, oNotB, sParO1, sParO2, sParO3, fRng3, Nat.reduceAdd, Nat.reduceBEq, bleN0, bleN1, bleN2, bleN3, bleN4, bleN5, bleN6, bleN7, bleN8, k0, k1, k2, k3, k5, t2, w2, fRepNe, fRep2, k6, k7, hv', eH, m192, bN, bN1, bC, bl, hb2, hb1, hn2, hn1, t4, tF, List.length_map, irg_len, oSum, intsD_map, convI_sum, z1, m16, z3, m48, eC, z6, z7, m2, k8, m8, z4, eC2, d2, mh, hs', eP, a1, b1, hcat, List.length_append, k9, hsum, cl, wipeE, k11, k12, eK, hne, c0, cN, q0, q1]
    · have hv' : ¬ (N : Int) / 2 * 2 = (N : Int) := by omega
      rw [evn, if_neg hv] at z3
      have k8 := @c_e_law_8 N (by omega) (.un) (.src s) (.v (.int (0 + (i₀ : Int)))) (.v (.int (N : Int))) (.v (.list ((T4 tR4 N).map .int))) (.v (.int (48 * iat tCu N + 192 * 0))) (.v (.int (due N N))) (y7) (.v (.list ((T4 tRF N).map .int))) (.v (.int 0)) (.un) (x11) (x12) (x13) (.v (.list ((T4 tR2 N).map .int))) (.v (.list ((T4 tR4 N).map .int))) (.un) (.un) (.un)
      have k9 := @c_e_law_9 _ s4 (.un) (.src s2) (.v (.int (0 + (i₀ : Int)))) (.v (.int (N : Int))) (.v (.list ((T4 tR4 N).map .int))) (.v (.int (oddI N).sum)) (.v (.int (due N N))) (y7) (.v (.list ((T4 tRF N).map .int))) (.v (.int 0)) (.v (.int (k : Int))) (.v (.tuple ((sqAt k).map .int))) (.v (.tuple ((sqAt (N - k)).map .int))) (x13) (.v (.list ((T4 tR2 N).map .int))) (.v (.list ((T4 tR4 N).map .int))) (.un) (.un) (.un)
      have k11 := @f_e_law_11 k (by omega) (.un) (.src s2) (.v (.int (0 + (i₀ : Int)))) (.v (.int (N : Int))) (.v (.list ((T4 tR4 N).map .int))) (.v (.int (oddI N).sum)) (.v (.int (due N N))) (y7) (.v (.list ((T4 tRF N).map .int))) (.v (.int 0)) (.v (.int (k : Int))) (.v (.tuple ((sqAt k).map .int))) (.v (.tuple ((sqAt (N - k)).map .int))) (x13) (.v (.list ((T4 tR2 N).map .int))) (.v (.list ((T4 tR4 N).map .int))) (.un) (.un) (.un)
      have k12 := @f_e_law_11 (N - k) (by omega) (.un) (.src s2) (.v (.int (0 + (i₀ : Int)))) (.v (.int (N : Int))) (.v (.list ((T4 tR4 N).map .int))) (.v (.int (oddI N).sum)) (.v (.int (due N N))) (y7) (.v (.list ((T4 tRF N).map .int))) (.v (.int 0)) (.v (.int (k : Int))) (.v (.tuple ((sqAt k).map .int))) (.v (.tuple ((sqAt (N - k)).map .int))) (x13) (.v (.list ((T4 tR2 N).map .int))) (.v (.list ((T4 tR4 N).map .int))) (.un) (.un) (.un)
      by_cases hk0 : k = 0
      · have c0 : ¬ (0 : Int) < (k : Int) := by omega
        have cN : (k : Int) < (N : Int) := by omega
        have q0 := sq0
        rw [← hk0] at q0
        have q1 := b4 (by omega)
        refine ⟨s2, .v (.int (N : Int)), .v (.list ((T4 tR4 N).map .int)), .v (.int (oddI N).sum), .v (.int (due N N)), y7, .v (.list ((T4 tRF N).map .int)), .v (.int 0), .v (.int (k : Int)), .v (.tuple ((sqAt k).map .int)), .v (.tuple ((sqAt (N - k)).map .int)), .v (.list [.int (k : Int), .int ((N - k : Nat) : Int)]), .v (.list ((T4 tR2 N).map .int)), .v (.list ((T4 tR4 N).map .int)), ?_⟩
        simp only [restL, fC, fVar, rdS, Rf.get, fRd, bnd, Fe.ret, fOp, fUn, fTst, fNot, fAnd, fOr, fIf, fBool, fNil, fCons, fTup, fLst, fAsL, fVal, fAndV, fOrV, fNotV, oI, oIc, oNeg, oIsN, oNotN, oIx, fIx, fR1, fR1L, oLen, oList, oTuple, oInt, oAbs, fRep, fCat, sNil, sThen, sSeq, sSet, sOwn, sRet, sRetN, sDrop, sIf, sTg, gNm, gNil', gCons', gTp, sFor, frzS, fSeq, fRng1, fRng2, fEnum, fZip, fComp, fYes, sApp, sExt, sIx, fPop, fPopAt, sPar, fCall, fCallS, oEq_int, oNe_int, List.getElem?_cons_zero, List.getElem?_cons_succ, List.set_cons_zero, List.set_cons_succ, oAdd, oSub, oMul, oDiv, oMod, oLt, oLe, oGt, oGe, oMin, oMax, oPow, decide_eq_true_eq, if_true, if_false, Bool.false_eq_true, Bool.not_true, Bool.not_false, decide_true, decide_false, List.length_cons, List.length_nil, List.length_map, Bool.and_self, fOpR, fChain, oCatT, fStar, fSlL, fSlT, fRev, oNn, oSm, oIsB, oNotB, sParO1, sParO2, sParO3, fRng3, Nat.reduceAdd, Nat.reduceBEq, bleN0, bleN1, bleN2, bleN3, bleN4, bleN5, bleN6, bleN7, bleN8, k0, k1, k2, k3, k5, t2, w2, fRepNe, fRep2, k6, k7, hv', m1920, bN, bN1, bC, bl, hb2, hb1, hn2, hn1, t4, tF, List.length_map, irg_len, oSum, intsD_map, convI_sum, z1, m16, z3, m48, eC, z6, z7, m2, k8, m8, z4, eC2, d2, mh, hs', eP, a1, b1, hcat, List.length_append, k9, hsum, cl, wipeE, k11, k12, eK, hne, c0, cN, q0, q1]
      by_cases hkN : k = N
      · have c0 : (0 : Int) < (k : Int) := by omega
        have cN : ¬ (k : Int) < (N : Int) := by omega
        have q0 := sq0
        rw [show (0 : Nat) = N - k by omega] at q0
        have q1 := a4 (by omega)
        refine ⟨s2, .v (.int (N : Int)), .v (.list ((T4 tR4 N).map .int)), .v (.int (oddI N).sum), .v (.int (due N N)), y7, .v (.list ((T4 tRF N).map .int)), .v (.int 0), .v (.int (k : Int)), .v (.tuple ((sqAt k).map .int)), .v (.tuple ((sqAt (N - k)).map .int)), .v (.list [.int (k : Int), .int ((N - k : Nat) : Int)]), .v (.list ((T4 tR2 N).map .int)), .v (.list ((T4 tR4 N).map .int)), ?_⟩
        simp only [restL, fC, fVar, rdS, Rf.get, fRd, bnd, Fe.ret, fOp, fUn, fTst, fNot, fAnd, fOr, fIf, fBool, fNil, fCons, fTup, fLst, fAsL, fVal, fAndV, fOrV, fNotV, oI, oIc, oNeg, oIsN, oNotN, oIx, fIx, fR1, fR1L, oLen, oList, oTuple, oInt, oAbs, fRep, fCat, sNil, sThen, sSeq, sSet, sOwn, sRet, sRetN, sDrop, sIf, sTg, gNm, gNil', gCons', gTp, sFor, frzS, fSeq, fRng1, fRng2, fEnum, fZip, fComp, fYes, sApp, sExt, sIx, fPop, fPopAt, sPar, fCall, fCallS, oEq_int, oNe_int, List.getElem?_cons_zero, List.getElem?_cons_succ, List.set_cons_zero, List.set_cons_succ, oAdd, oSub, oMul, oDiv, oMod, oLt, oLe, oGt, oGe, oMin, oMax, oPow, decide_eq_true_eq, if_true, if_false, Bool.false_eq_true, Bool.not_true, Bool.not_false, decide_true, decide_false, List.length_cons, List.length_nil, List.length_map, Bool.and_self, fOpR, fChain, oCatT, fStar, fSlL, fSlT, fRev, oNn, oSm, oIsB, oNotB, sParO1, sParO2, sParO3, fRng3, Nat.reduceAdd, Nat.reduceBEq, bleN0, bleN1, bleN2, bleN3, bleN4, bleN5, bleN6, bleN7, bleN8, k0, k1, k2, k3, k5, t2, w2, fRepNe, fRep2, k6, k7, hv', m1920, bN, bN1, bC, bl, hb2, hb1, hn2, hn1, t4, tF, List.length_map, irg_len, oSum, intsD_map, convI_sum, z1, m16, z3, m48, eC, z6, z7, m2, k8, m8, z4, eC2, d2, mh, hs', eP, a1, b1, hcat, List.length_append, k9, hsum, cl, wipeE, k11, k12, eK, hne, c0, cN, q0, q1]
      have c0 : (0 : Int) < (k : Int) := by omega
      have cN : (k : Int) < (N : Int) := by omega
      have q0 := a4 (by omega)
      have q1 := b4 (by omega)
      refine ⟨s2, .v (.int (N : Int)), .v (.list ((T4 tR4 N).map .int)), .v (.int (oddI N).sum), .v (.int (due N N)), y7, .v (.list ((T4 tRF N).map .int)), .v (.int 0), .v (.int (k : Int)), .v (.tuple ((sqAt k).map .int)), .v (.tuple ((sqAt (N - k)).map .int)), .v (.list [.int (k : Int), .int ((N - k : Nat) : Int)]), .v (.list ((T4 tR2 N).map .int)), .v (.list ((T4 tR4 N).map .int)), ?_⟩
      simp only [restL, fC, fVar, rdS, Rf.get, fRd, bnd, Fe.ret, fOp, fUn, fTst, fNot, fAnd, fOr, fIf, fBool, fNil, fCons, fTup, fLst, fAsL, fVal, fAndV, fOrV, fNotV, oI, oIc, oNeg, oIsN, oNotN, oIx, fIx, fR1, fR1L, oLen, oList, oTuple, oInt, oAbs, fRep, fCat, sNil, sThen, sSeq, sSet, sOwn, sRet, sRetN, sDrop, sIf, sTg, gNm, gNil', gCons', gTp, sFor, frzS, fSeq, fRng1, fRng2, fEnum, fZip, fComp, fYes, sApp, sExt, sIx, fPop, fPopAt, sPar, fCall, fCallS, oEq_int, oNe_int, List.getElem?_cons_zero, List.getElem?_cons_succ, List.set_cons_zero, List.set_cons_succ, oAdd, oSub, oMul, oDiv, oMod, oLt, oLe, oGt, oGe, oMin, oMax, oPow, decide_eq_true_eq, if_true, if_false, Bool.false_eq_true, Bool.not_true, Bool.not_false, decide_true, decide_false, List.length_cons, List.length_nil, List.length_map, Bool.and_self, fOpR, fChain, oCatT, fStar, fSlL, fSlT, fRev, oNn, oSm, oIsB, oNotB, sParO1, sParO2, sParO3, fRng3, Nat.reduceAdd, Nat.reduceBEq, bleN0, bleN1, bleN2, bleN3, bleN4, bleN5, bleN6, bleN7, bleN8, k0, k1, k2, k3, k5, t2, w2, fRepNe, fRep2, k6, k7, hv', m1920, bN, bN1, bC, bl, hb2, hb1, hn2, hn1, t4, tF, List.length_map, irg_len, oSum, intsD_map, convI_sum, z1, m16, z3, m48, eC, z6, z7, m2, k8, m8, z4, eC2, d2, mh, hs', eP, a1, b1, hcat, List.length_append, k9, hsum, cl, wipeE, k11, k12, eK, hne, c0, cN, q0, q1]
  · have hs' : ¬ (N : Int) < 31 := by omega
    have k0 := @c_e_law_0 N h120 (.un) (.src s) (.v (.int (0 + (i₀ : Int)))) (.v (.int (N : Int))) (x4) (x5) (x6) (x7) (x8) (x9) (x10) (x11) (x12) (x13) (x14) (x15) (.un) (.un) (.un)
    have k1 := @c_e_law_1 N N (Nat.le_refl _) (.un) (.src s) (.v (.int (0 + (i₀ : Int)))) (.v (.int (N : Int))) (.v (.list ((T4 tR4 N).map .int))) (x5) (x6) (x7) (x8) (x9) (.un) (x11) (x12) (x13) (x14) (x15) (.un) (.un) (.un)
    obtain ⟨y7, k2⟩ := @l_due N h120 (.un) (.src s) (.v (.int (0 + (i₀ : Int)))) (.v (.int (N : Int))) (.v (.list ((T4 tR4 N).map .int))) (.v (.int (16 * due N N))) (.v (.int 0)) (x7) (x8) (x9) (.un) (x11) (x12) (x13) (x14) (x15) (.un) (.un) (.un)
    have k6 := @c_e_law_6 N h120 (.un) (.src s) (.v (.int (0 + (i₀ : Int)))) (.v (.int (N : Int))) (.v (.list ((T4 tR4 N).map .int))) (.v (.int (16 * due N N))) (.v (.int (due N N))) (y7) (x8) (x9) (.un) (x11) (x12) (x13) (x14) (x15) (.un) (.un) (.un)
    have k7 := @c_e_law_7 N N (Nat.le_refl _) (.un) (.src s) (.v (.int (0 + (i₀ : Int)))) (.v (.int (N : Int))) (.v (.list ((T4 tR4 N).map .int))) (.v (.int (16 * due N N))) (.v (.int (due N N))) (y7) (.v (.list ((T4 tRF N).map .int))) (x9) (.un) (x11) (x12) (x13) (x14) (x15) (.un) (.un) (.un)
    by_cases hv : N / 2 * 2 = N
    · have hv' : (N : Int) / 2 * 2 = (N : Int) := by omega
      have eH := cu_at (n := N / 2) (by omega) (by omega)
      rw [show ((N / 2 : Nat) : Int) = (N : Int) / 2 by omega] at eH
      rw [evn, if_pos hv] at z3
      have k8 := @c_e_law_8 N (by omega) (.un) (.src s) (.v (.int (0 + (i₀ : Int)))) (.v (.int (N : Int))) (.v (.list ((T4 tR4 N).map .int))) (.v (.int (48 * iat tCu N + 192 * iat tCu (N / 2)))) (.v (.int (due N N))) (y7) (.v (.list ((T4 tRF N).map .int))) (.v (.int (iat tCu (N / 2)))) (.un) (x11) (x12) (x13) (x14) (x15) (.un) (.un) (.un)
      have k9 := @c_e_law_9 _ s4 (.un) (.src s2) (.v (.int (0 + (i₀ : Int)))) (.v (.int (N : Int))) (.v (.list ((T4 tR4 N).map .int))) (.v (.int (oddI N).sum)) (.v (.int (due N N))) (y7) (.v (.list ((T4 tRF N).map .int))) (.v (.int (iat tCu (N / 2)))) (.v (.int (k : Int))) (.v (.tuple ((sqAt k).map .int))) (.v (.tuple ((sqAt (N - k)).map .int))) (x13) (x14) (x15) (.un) (.un) (.un)
      have k11 := @f_e_law_11 k (by omega) (.un) (.src s2) (.v (.int (0 + (i₀ : Int)))) (.v (.int (N : Int))) (.v (.list ((T4 tR4 N).map .int))) (.v (.int (oddI N).sum)) (.v (.int (due N N))) (y7) (.v (.list ((T4 tRF N).map .int))) (.v (.int (iat tCu (N / 2)))) (.v (.int (k : Int))) (.v (.tuple ((sqAt k).map .int))) (.v (.tuple ((sqAt (N - k)).map .int))) (x13) (x14) (x15) (.un) (.un) (.un)
      have k12 := @f_e_law_11 (N - k) (by omega) (.un) (.src s2) (.v (.int (0 + (i₀ : Int)))) (.v (.int (N : Int))) (.v (.list ((T4 tR4 N).map .int))) (.v (.int (oddI N).sum)) (.v (.int (due N N))) (y7) (.v (.list ((T4 tRF N).map .int))) (.v (.int (iat tCu (N / 2)))) (.v (.int (k : Int))) (.v (.tuple ((sqAt k).map .int))) (.v (.tuple ((sqAt (N - k)).map .int))) (x13) (x14) (x15) (.un) (.un) (.un)
      by_cases hk0 : k = 0
      · have c0 : ¬ (0 : Int) < (k : Int) := by omega
        have cN : (k : Int) < (N : Int) := by omega
        have q0 := sq0
        rw [← hk0] at q0
        have q1 := b4 (by omega)
        refine ⟨s2, .v (.int (N : Int)), .v (.list ((T4 tR4 N).map .int)), .v (.int (oddI N).sum), .v (.int (due N N)), y7, .v (.list ((T4 tRF N).map .int)), .v (.int (iat tCu (N / 2))), .v (.int (k : Int)), .v (.tuple ((sqAt k).map .int)), .v (.tuple ((sqAt (N - k)).map .int)), .v (.list [.int (k : Int), .int ((N - k : Nat) : Int)]), x14, x15, ?_⟩
        simp only [restL, fC, fVar, rdS, Rf.get, fRd, bnd, Fe.ret, fOp, fUn, fTst, fNot, fAnd, fOr, fIf, fBool, fNil, fCons, fTup, fLst, fAsL, fVal, fAndV, fOrV, fNotV, oI, oIc, oNeg, oIsN, oNotN, oIx, fIx, fR1, fR1L, oLen, oList, oTuple, oInt, oAbs, fRep, fCat, sNil, sThen, sSeq, sSet, sOwn, sRet, sRetN, sDrop, sIf, sTg, gNm, gNil', gCons', gTp, sFor, frzS, fSeq, fRng1, fRng2, fEnum, fZip, fComp, fYes, sApp, sExt, sIx, fPop, fPopAt, sPar, fCall, fCallS, oEq_int, oNe_int, List.getElem?_cons_zero, List.getElem?_cons_succ, List.set_cons_zero, List.set_cons_succ, oAdd, oSub, oMul, oDiv, oMod, oLt, oLe, oGt, oGe, oMin, oMax, oPow, decide_eq_true_eq, if_true, if_false, Bool.false_eq_true, Bool.not_true, Bool.not_false, decide_true, decide_false, List.length_cons, List.length_nil, List.length_map, Bool.and_self, fOpR, fChain, oCatT, fStar, fSlL, fSlT, fRev, oNn, oSm, oIsB, oNotB, sParO1, sParO2, sParO3, fRng3, Nat.reduceAdd, Nat.reduceBEq, bleN0, bleN1, bleN2, bleN3, bleN4, bleN5, bleN6, bleN7, bleN8, k0, k1, k2, k6, k7, hv', eH, m192, bN, bN1, bC, bl, hb2, hb1, hn2, hn1, t4, tF, List.length_map, irg_len, oSum, intsD_map, convI_sum, z1, m16, z3, m48, eC, z6, z7, m2, k8, m8, z4, eC2, d2, mh, hs', eP, a1, b1, hcat, List.length_append, k9, hsum, cl, wipeE, k11, k12, eK, hne, c0, cN, q0, q1]
      by_cases hkN : k = N
      · have c0 : (0 : Int) < (k : Int) := by omega
        have cN : ¬ (k : Int) < (N : Int) := by omega
        have q0 := sq0
        rw [show (0 : Nat) = N - k by omega] at q0
        have q1 := a4 (by omega)
        refine ⟨s2, .v (.int (N : Int)), .v (.list ((T4 tR4 N).map .int)), .v (.int (oddI N).sum), .v (.int (due N N)), y7, .v (.list ((T4 tRF N).map .int)), .v (.int (iat tCu (N / 2))), .v (.int (k : Int)), .v (.tuple ((sqAt k).map .int)), .v (.tuple ((sqAt (N - k)).map .int)), .v (.list [.int (k : Int), .int ((N - k : Nat) : Int)]), x14, x15, ?_⟩
        simp only [restL, fC, fVar, rdS, Rf.get, fRd, bnd, Fe.ret, fOp, fUn, fTst, fNot, fAnd, fOr, fIf, fBool, fNil, fCons, fTup, fLst, fAsL, fVal, fAndV, fOrV, fNotV, oI, oIc, oNeg, oIsN, oNotN, oIx, fIx, fR1, fR1L, oLen, oList, oTuple, oInt, oAbs, fRep, fCat, sNil, sThen, sSeq, sSet, sOwn, sRet, sRetN, sDrop, sIf, sTg, gNm, gNil', gCons', gTp, sFor, frzS, fSeq, fRng1, fRng2, fEnum, fZip, fComp, fYes, sApp, sExt, sIx, fPop, fPopAt, sPar, fCall, fCallS, oEq_int, oNe_int, List.getElem?_cons_zero, List.getElem?_cons_succ, List.set_cons_zero, List.set_cons_succ, oAdd, oSub, oMul, oDiv, oMod, oLt, oLe, oGt, oGe, oMin, oMax, oPow, decide_eq_true_eq, if_true, if_false, Bool.false_eq_true, Bool.not_true, Bool.not_false, decide_true, decide_false, List.length_cons, List.length_nil, List.length_map, Bool.and_self, fOpR, fChain, oCatT, fStar, fSlL, fSlT, fRev, oNn, oSm, oIsB, oNotB, sParO1, sParO2, sParO3, fRng3, Nat.reduceAdd, Nat.reduceBEq, bleN0, bleN1, bleN2, bleN3, bleN4, bleN5, bleN6, bleN7, bleN8, k0, k1, k2, k6, k7, hv', eH, m192, bN, bN1, bC, bl, hb2, hb1, hn2, hn1, t4, tF, List.length_map, irg_len, oSum, intsD_map, convI_sum, z1, m16, z3, m48, eC, z6, z7, m2, k8, m8, z4, eC2, d2, mh, hs', eP, a1, b1, hcat, List.length_append, k9, hsum, cl, wipeE, k11, k12, eK, hne, c0, cN, q0, q1]
      have c0 : (0 : Int) < (k : Int) := by omega
      have cN : (k : Int) < (N : Int) := by omega
      have q0 := a4 (by omega)
      have q1 := b4 (by omega)
      refine ⟨s2, .v (.int (N : Int)), .v (.list ((T4 tR4 N).map .int)), .v (.int (oddI N).sum), .v (.int (due N N)), y7, .v (.list ((T4 tRF N).map .int)), .v (.int (iat tCu (N / 2))), .v (.int (k : Int)), .v (.tuple ((sqAt k).map .int)), .v (.tuple ((sqAt (N - k)).map .int)), .v (.list [.int (k : Int), .int ((N - k : Nat) : Int)]), x14, x15, ?_⟩
      simp only [restL, fC, fVar, rdS, Rf.get, fRd, bnd, Fe.ret, fOp, fUn, fTst, fNot, fAnd, fOr, fIf, fBool, fNil, fCons, fTup, fLst, fAsL, fVal, fAndV, fOrV, fNotV, oI, oIc, oNeg, oIsN, oNotN, oIx, fIx, fR1, fR1L, oLen, oList, oTuple, oInt, oAbs, fRep, fCat, sNil, sThen, sSeq, sSet, sOwn, sRet, sRetN, sDrop, sIf, sTg, gNm, gNil', gCons', gTp, sFor, frzS, fSeq, fRng1, fRng2, fEnum, fZip, fComp, fYes, sApp, sExt, sIx, fPop, fPopAt, sPar, fCall, fCallS, oEq_int, oNe_int, List.getElem?_cons_zero, List.getElem?_cons_succ, List.set_cons_zero, List.set_cons_succ, oAdd, oSub, oMul, oDiv, oMod, oLt, oLe, oGt, oGe, oMin, oMax, oPow, decide_eq_true_eq, if_true, if_false, Bool.false_eq_true, Bool.not_true, Bool.not_false, decide_true, decide_false, List.length_cons, List.length_nil, List.length_map, Bool.and_self, fOpR, fChain, oCatT, fStar, fSlL, fSlT, fRev, oNn, oSm, oIsB, oNotB, sParO1, sParO2, sParO3, fRng3, Nat.reduceAdd, Nat.reduceBEq, bleN0, bleN1, bleN2, bleN3, bleN4, bleN5, bleN6, bleN7, bleN8, k0, k1, k2, k6, k7, hv', eH, m192, bN, bN1, bC, bl, hb2, hb1, hn2, hn1, t4, tF, List.length_map, irg_len, oSum, intsD_map, convI_sum, z1, m16, z3, m48, eC, z6, z7, m2, k8, m8, z4, eC2, d2, mh, hs', eP, a1, b1, hcat, List.length_append, k9, hsum, cl, wipeE, k11, k12, eK, hne, c0, cN, q0, q1]
    · have hv' : ¬ (N : Int) / 2 * 2 = (N : Int) := by omega
      rw [evn, if_neg hv] at z3
      have k8 := @c_e_law_8 N (by omega) (.un) (.src s) (.v (.int (0 + (i₀ : Int)))) (.v (.int (N : Int))) (.v (.list ((T4 tR4 N).map .int))) (.v (.int (48 * iat tCu N + 192 * 0))) (.v (.int (due N N))) (y7) (.v (.list ((T4 tRF N).map .int))) (.v (.int 0)) (.un) (x11) (x12) (x13) (x14) (x15) (.un) (.un) (.un)
      have k9 := @c_e_law_9 _ s4 (.un) (.src s2) (.v (.int (0 + (i₀ : Int)))) (.v (.int (N : Int))) (.v (.list ((T4 tR4 N).map .int))) (.v (.int (oddI N).sum)) (.v (.int (due N N))) (y7) (.v (.list ((T4 tRF N).map .int))) (.v (.int 0)) (.v (.int (k : Int))) (.v (.tuple ((sqAt k).map .int))) (.v (.tuple ((sqAt (N - k)).map .int))) (x13) (x14) (x15) (.un) (.un) (.un)
      have k11 := @f_e_law_11 k (by omega) (.un) (.src s2) (.v (.int (0 + (i₀ : Int)))) (.v (.int (N : Int))) (.v (.list ((T4 tR4 N).map .int))) (.v (.int (oddI N).sum)) (.v (.int (due N N))) (y7) (.v (.list ((T4 tRF N).map .int))) (.v (.int 0)) (.v (.int (k : Int))) (.v (.tuple ((sqAt k).map .int))) (.v (.tuple ((sqAt (N - k)).map .int))) (x13) (x14) (x15) (.un) (.un) (.un)
      have k12 := @f_e_law_11 (N - k) (by omega) (.un) (.src s2) (.v (.int (0 + (i₀ : Int)))) (.v (.int (N : Int))) (.v (.list ((T4 tR4 N).map .int))) (.v (.int (oddI N).sum)) (.v (.int (due N N))) (y7) (.v (.list ((T4 tRF N).map .int))) (.v (.int 0)) (.v (.int (k : Int))) (.v (.tuple ((sqAt k).map .int))) (.v (.tuple ((sqAt (N - k)).map .int))) (x13) (x14) (x15) (.un) (.un) (.un)
      by_cases hk0 : k = 0
      · have c0 : ¬ (0 : Int) < (k : Int) := by omega
        have cN : (k : Int) < (N : Int) := by omega
        have q0 := sq0
        rw [← hk0] at q0
        have q1 := b4 (by omega)
        refine ⟨s2, .v (.int (N : Int)), .v (.list ((T4 tR4 N).map .int)), .v (.int (oddI N).sum), .v (.int (due N N)), y7, .v (.list ((T4 tRF N).map .int)), .v (.int 0), .v (.int (k : Int)), .v (.tuple ((sqAt k).map .int)), .v (.tuple ((sqAt (N - k)).map .int)), .v (.list [.int (k : Int), .int ((N - k : Nat) : Int)]), x14, x15, ?_⟩
        simp only [restL, fC, fVar, rdS, Rf.get, fRd, bnd, Fe.ret, fOp, fUn, fTst, fNot, fAnd, fOr, fIf, fBool, fNil, fCons, fTup, fLst, fAsL, fVal, fAndV, fOrV, fNotV, oI, oIc, oNeg, oIsN, oNotN, oIx, fIx, fR1, fR1L, oLen, oList, oTuple, oInt, oAbs, fRep, fCat, sNil, sThen, sSeq, sSet, sOwn, sRet, sRetN, sDrop, sIf, sTg, gNm, gNil', gCons', gTp, sFor, frzS, fSeq, fRng1, fRng2, fEnum, fZip, fComp, fYes, sApp, sExt, sIx, fPop, fPopAt, sPar, fCall, fCallS, oEq_int, oNe_int, List.getElem?_cons_zero, List.getElem?_cons_succ, List.set_cons_zero, List.set_cons_succ, oAdd, oSub, oMul, oDiv, oMod, oLt, oLe, oGt, oGe, oMin, oMax, oPow, decide_eq_true_eq, if_true, if_false, Bool.false_eq_true, Bool.not_true, Bool.not_false, decide_true, decide_false, List.length_cons, List.length_nil, List.length_map, Bool.and_self, fOpR, fChain, oCatT, fStar, fSlL, fSlT, fRev, oNn, oSm, oIsB, oNotB, sParO1, sParO2, sParO3, fRng3, Nat.reduceAdd, Nat.reduceBEq, bleN0, bleN1, bleN2, bleN3, bleN4, bleN5, bleN6, bleN7, bleN8, k0, k1, k2, k6, k7, hv', m1920, bN, bN1, bC, bl, hb2, hb1, hn2, hn1, t4, tF, List.length_map, irg_len, oSum, intsD_map, convI_sum, z1, m16, z3, m48, eC, z6, z7, m2, k8, m8, z4, eC2, d2, mh, hs', eP, a1, b1, hcat, List.length_append, k9, hsum, cl, wipeE, k11, k12, eK, hne, c0, cN, q0, q1]
      by_cases hkN : k = N
      · have c0 : (0 : Int) < (k : Int) := by omega
        have cN : ¬ (k : Int) < (N : Int) := by omega
        have q0 := sq0
        rw [show (0 : Nat) = N - k by omega] at q0
        have q1 := a4 (by omega)
        refine ⟨s2, .v (.int (N : Int)), .v (.list ((T4 tR4 N).map .int)), .v (.int (oddI N).sum), .v (.int (due N N)), y7, .v (.list ((T4 tRF N).map .int)), .v (.int 0), .v (.int (k : Int)), .v (.tuple ((sqAt k).map .int)), .v (.tuple ((sqAt (N - k)).map .int)), .v (.list [.int (k : Int), .int ((N - k : Nat) : Int)]), x14, x15, ?_⟩
        simp only [restL, fC, fVar, rdS, Rf.get, fRd, bnd, Fe.ret, fOp, fUn, fTst, fNot, fAnd, fOr, fIf, fBool, fNil, fCons, fTup, fLst, fAsL, fVal, fAndV, fOrV, fNotV, oI, oIc, oNeg, oIsN, oNotN, oIx, fIx, fR1, fR1L, oLen, oList, oTuple, oInt, oAbs, fRep, fCat, sNil, sThen, sSeq, sSet, sOwn, sRet, sRetN, sDrop, sIf, sTg, gNm, gNil', gCons', gTp, sFor, frzS, fSeq, fRng1, fRng2, fEnum, fZip, fComp, fYes, sApp, sExt, sIx, fPop, fPopAt, sPar, fCall, fCallS, oEq_int, oNe_int, List.getElem?_cons_zero, List.getElem?_cons_succ, List.set_cons_zero, List.set_cons_succ, oAdd, oSub, oMul, oDiv, oMod, oLt, oLe, oGt, oGe, oMin, oMax, oPow, decide_eq_true_eq, if_true, if_false, Bool.false_eq_true, Bool.not_true, Bool.not_false, decide_true, decide_false, List.length_cons, List.length_nil, List.length_map, Bool.and_self, fOpR, fChain, oCatT, fStar, fSlL, fSlT, fRev, oNn, oSm, oIsB, oNotB, sParO1, sParO2, sParO3, fRng3, Nat.reduceAdd, Nat.reduceBEq, bleN0, bleN1, bleN2, bleN3, bleN4, bleN5, bleN6, bleN7, bleN8, k0, k1, k2, k6, k7, hv', m1920, bN, bN1, bC, bl, hb2, hb1, hn2, hn1, t4, tF, List.length_map, irg_len, oSum, intsD_map, convI_sum, z1, m16, z3, m48, eC, z6, z7, m2, k8, m8, z4, eC2, d2, mh, hs', eP, a1, b1, hcat, List.length_append, k9, hsum, cl, wipeE, k11, k12, eK, hne, c0, cN, q0, q1]
      have c0 : (0 : Int) < (k : Int) := by omega
      have cN : (k : Int) < (N : Int) := by omega
      have q0 := a4 (by omega)
      have q1 := b4 (by omega)
      refine ⟨s2, .v (.int (N : Int)), .v (.list ((T4 tR4 N).map .int)), .v (.int (oddI N).sum), .v (.int (due N N)), y7, .v (.list ((T4 tRF N).map .int)), .v (.int 0), .v (.int (k : Int)), .v (.tuple ((sqAt k).map .int)), .v (.tuple ((sqAt (N - k)).map .int)), .v (.list [.int (k : Int), .int ((N - k : Nat) : Int)]), x14, x15, ?_⟩
      simp only [restL, fC, fVar, rdS, Rf.get, fRd, bnd, Fe.ret, fOp, fUn, fTst, fNot, fAnd, fOr, fIf, fBool, fNil, fCons, fTup, fLst, fAsL, fVal, fAndV, fOrV, fNotV, oI, oIc, oNeg, oIsN, oNotN, oIx, fIx, fR1, fR1L, oLen, oList, oTuple, oInt, oAbs, fRep, fCat, sNil, sThen, sSeq, sSet, sOwn, sRet, sRetN, sDrop, sIf, sTg, gNm, gNil', gCons', gTp, sFor, frzS, fSeq, fRng1, fRng2, fEnum, fZip, fComp, fYes, sApp, sExt, sIx, fPop, fPopAt, sPar, fCall, fCallS, oEq_int, oNe_int, List.getElem?_cons_zero, List.getElem?_cons_succ, List.set_cons_zero, List.set_cons_succ, oAdd, oSub, oMul, oDiv, oMod, oLt, oLe, oGt, oGe, oMin, oMax, oPow, decide_eq_true_eq, if_true, if_false, Bool.false_eq_true, Bool.not_true, Bool.not_false, decide_true, decide_false, List.length_cons, List.length_nil, List.length_map, Bool.and_self, fOpR, fChain, oCatT, fStar, fSlL, fSlT, fRev, oNn, oSm, oIsB, oNotB, sParO1, sParO2, sParO3, fRng3, Nat.reduceAdd, Nat.reduceBEq, bleN0, bleN1, bleN2, bleN3, bleN4, bleN5, bleN6, bleN7, bleN8, k0, k1, k2, k6, k7, hv', m1920, bN, bN1, bC, bl, hb2, hb1, hn2, hn1, t4, tF, List.length_map, irg_len, oSum, intsD_map, convI_sum, z1, m16, z3, m48, eC, z6, z7, m2, k8, m8, z4, eC2, d2, mh, hs', eP, a1, b1, hcat, List.length_append, k9, hsum, cl, wipeE, k11, k12, eK, hne, c0, cN, q0, q1]
end K29
namespace K29
open PySem PySem.Spec PyProof.Rows L2 Fe
theorem law_lap (s : Src) (i₀ : Nat) (x2 x3 x4 x5 x6 x7 x8 x9 x10 x11 x12 x13 x14 x15 : Sl) :
    ∃ s' y3 y4 y5 y6 y7 y8 y9 y10 y11 y12 y13 y14 y15, lp1 (gNm 2) b_law_12 (.int (0 + (i₀ : Nat))) [.un, .src s, x2, x3, x4, x5, x6, x7, x8, x9, x10, x11, x12, x13, x14, x15, .un, .un, .un] = some [.un, .src s', .v (.int (0 + (i₀ : Int))), y3, y4, y5, y6, y7, y8, y9, y10, y11, y12, y13, y14, y15, .un, .un, .un] := by
  have main : ∀ (m : Int), 0 < m → m ≤ 120 → (if 0 + (i₀ : Int) = 0 then (120 : Int) else 30) = m → ∃ s' y3 y4 y5 y6 y7 y8 y9 y10 y11 y12 y13 y14 y15, lp1 (gNm 2) b_law_12 (.int (0 + (i₀ : Nat))) [.un, .src s, x2, x3, x4, x5, x6, x7, x8, x9, x10, x11, x12, x13, x14, x15, .un, .un, .un] = some [.un, .src s', .v (.int (0 + (i₀ : Int))), y3, y4, y5, y6, y7, y8, y9, y10, y11, y12, y13, y14, y15, .un, .un, .un] := by
    intro m h1 h2 h3
    have lg : m.natAbs.log2 < 9000 := by
      have := Nat.log2_le_self m.natAbs
      omega
    obtain ⟨k, s1, hk, e⟩ := pick_at (pickB_rng 104729 17) s (m := m) h1 lg
    obtain ⟨s', y3, y4, y5, y6, y7, y8, y9, y10, y11, y12, y13, y14, y15, hc⟩ := core (N := k + 1) (i₀ := i₀) (by omega) (by omega) s1 x4 x5 x6 x7 x8 x9 x10 x11 x12 x13 x14 x15
    rw [show ((k + 1 : Nat) : Int) = 1 + (k : Int) by omega] at hc
    refine ⟨s', y3, y4, y5, y6, y7, y8, y9, y10, y11, y12, y13, y14, y15, ?_⟩
    refine lp1_seq restL_eq (ρ1 := [.un, .src s, .v (.int (0 + (i₀ : Int))), x3, x4, x5, x6, x7, x8, x9, x10, x11, x12, x13, x14, x15, .un, .un, .un]) rfl ?_ hc
    by_cases c : 0 + (i₀ : Int) = 0
    · rw [if_pos c] at h3
      subst h3
      simp only [firstL, fC, fVar, rdS, Rf.get, fRd, bnd, Fe.ret, fOp, fUn, fTst, fNot, fAnd, fOr, fIf, fBool, fNil, fCons, fTup, fLst, fAsL, fVal, fAndV, fOrV, fNotV, oI, oIc, oNeg, oIsN, oNotN, oIx, fIx, fR1, fR1L, oLen, oList, oTuple, oInt, oAbs, fRep, fCat, sNil, sThen, sSeq, sSet, sOwn, sRet, sRetN, sDrop, sIf, sTg, gNm, gNil', gCons', gTp, sFor, frzS, fSeq, fRng1, fRng2, fEnum, fZip, fComp, fYes, sApp, sExt, sIx, fPop, fPopAt, sPar, fCall, fCallS, oEq_int, oNe_int, List.getElem?_cons_zero, List.getElem?_cons_succ, List.set_cons_zero, List.set_cons_succ, oAdd, oSub, oMul, oDiv, oMod, oLt, oLe, oGt, oGe, oMin, oMax, oPow, decide_eq_true_eq, if_true, if_false, Bool.false_eq_true, Bool.not_true, Bool.not_false, decide_true, decide_false, List.length_cons, List.length_nil, List.length_map, Bool.and_self, fOpR, fChain, oCatT, fStar, fSlL, fSlT, fRev, oNn, oSm, oIsB, oNotB, sParO1, sParO2, sParO3, fRng3, Nat.reduceAdd, Nat.reduceBEq, bleN0, bleN1, bleN2, bleN3, bleN4, bleN5, bleN6, bleN7, bleN8, oEq_int, c, e]
    · rw [if_neg c] at h3
      subst h3
      simp only [firstL, fC, fVar, rdS, Rf.get, fRd, bnd, Fe.ret, fOp, fUn, fTst, fNot, fAnd, fOr, fIf, fBool, fNil, fCons, fTup, fLst, fAsL, fVal, fAndV, fOrV, fNotV, oI, oIc, oNeg, oIsN, oNotN, oIx, fIx, fR1, fR1L, oLen, oList, oTuple, oInt, oAbs, fRep, fCat, sNil, sThen, sSeq, sSet, sOwn, sRet, sRetN, sDrop, sIf, sTg, gNm, gNil', gCons', gTp, sFor, frzS, fSeq, fRng1, fRng2, fEnum, fZip, fComp, fYes, sApp, sExt, sIx, fPop, fPopAt, sPar, fCall, fCallS, oEq_int, oNe_int, List.getElem?_cons_zero, List.getElem?_cons_succ, List.set_cons_zero, List.set_cons_succ, oAdd, oSub, oMul, oDiv, oMod, oLt, oLe, oGt, oGe, oMin, oMax, oPow, decide_eq_true_eq, if_true, if_false, Bool.false_eq_true, Bool.not_true, Bool.not_false, decide_true, decide_false, List.length_cons, List.length_nil, List.length_map, Bool.and_self, fOpR, fChain, oCatT, fStar, fSlL, fSlT, fRev, oNn, oSm, oIsB, oNotB, sParO1, sParO2, sParO3, fRng3, Nat.reduceAdd, Nat.reduceBEq, bleN0, bleN1, bleN2, bleN3, bleN4, bleN5, bleN6, bleN7, bleN8, oEq_int, c, e]
  by_cases c : 0 + (i₀ : Int) = 0
  · exact main 120 (by decide) (by decide) (if_pos c)
  · exact main 30 (by decide) (by decide) (if_neg c)
theorem hF : ∀ s : Src, ∃ ρ', b_law (startL 19 s) = some (.rt (.bool true) ρ') := fun s => by
  obtain ⟨ρ', q1, s2, z2, z3, z4, z5, z6, z7, z8, z9, z10, z11, z12, z13, z14, z15, rfl⟩ := lp_rng (g := gNm 2) (b := b_law_12) (fun _ ρ => ∃ s2 z2 z3 z4 z5 z6 z7 z8 z9 z10 z11 z12 z13 z14 z15, ρ = [.un, .src s2, z2, z3, z4, z5, z6, z7, z8, z9, z10, z11, z12, z13, z14, z15, .un, .un, .un]) (lo := 0) (n := 2)
    (ρ := [.un, .src s, .un, .un, .un, .un, .un, .un, .un, .un, .un, .un, .un, .un, .un, .un, .un, .un, .un]) ⟨s, .un, .un, .un, .un, .un, .un, .un, .un, .un, .un, .un, .un, .un, .un, rfl⟩ fun i ρ hi ⟨s2, z2, z3, z4, z5, z6, z7, z8, z9, z10, z11, z12, z13, z14, z15, e⟩ => by
      subst e
      obtain ⟨s', y3, y4, y5, y6, y7, y8, y9, y10, y11, y12, y13, y14, y15, h⟩ := law_lap s2 i z2 z3 z4 z5 z6 z7 z8 z9 z10 z11 z12 z13 z14 z15
      exact ⟨_, h, s', _, y3, y4, y5, y6, y7, y8, y9, y10, y11, y12, y13, y14, y15, rfl⟩
  have hb : inB 2 = true := by decide
  have hn : (2 : Int).toNat = 2 := rfl
  have e1 := rF_at (n := 1) (by decide) (by decide)
  have e2 := rF_at (n := 2) (by decide) (by decide)
  have v1 : iat tRF 1 = 24 := rfl
  have v2 : iat tRF 2 = 24 := rfl
  rw [v1] at e1
  rw [v2] at e2
  have e1 : F_count_fours [.int 1] = some (.int 24) := e1
  have e2 : F_count_fours [.int 2] = some (.int 24) := e2
  have m1 : mulOk 2 24 = true := by decide
  have m2 : mulOk 24 24 = true := by decide
  have n1 : (2 : Int) * 24 = 48 := by decide
  have n2 : (48 : Int) + 24 * 24 = 624 := by decide
  refine ⟨[.un, .src s2, z2, z3, z4, z5, z6, z7, z8, z9, z10, z11, z12, z13, z14, z15, .un, .un, .un], ?_⟩
  show b_law [.un, .src s, .un, .un, .un, .un, .un, .un, .un, .un, .un, .un, .un, .un, .un, .un, .un, .un, .un] = _
  simp only [b_law, fC, fVar, rdS, Rf.get, fRd, bnd, Fe.ret, fOp, fUn, fTst, fNot, fAnd, fOr, fIf, fBool, fNil, fCons, fTup, fLst, fAsL, fVal, fAndV, fOrV, fNotV, oI, oIc, oNeg, oIsN, oNotN, oIx, fIx, fR1, fR1L, oLen, oList, oTuple, oInt, oAbs, fRep, fCat, sNil, sThen, sSeq, sSet, sOwn, sRet, sRetN, sDrop, sIf, sTg, gNm, gNil', gCons', gTp, sFor, frzS, fSeq, fRng1, fRng2, fEnum, fZip, fComp, fYes, sApp, sExt, sIx, fPop, fPopAt, sPar, fCall, fCallS, oEq_int, oNe_int, List.getElem?_cons_zero, List.getElem?_cons_succ, List.set_cons_zero, List.set_cons_succ, oAdd, oSub, oMul, oDiv, oMod, oLt, oLe, oGt, oGe, oMin, oMax, oPow, decide_eq_true_eq, if_true, if_false, Bool.false_eq_true, Bool.not_true, Bool.not_false, decide_true, decide_false, List.length_cons, List.length_nil, List.length_map, Bool.and_self, fOpR, fChain, oCatT, fStar, fSlL, fSlT, fRev, oNn, oSm, oIsB, oNotB, sParO1, sParO2, sParO3, fRng3, Nat.reduceAdd, Nat.reduceBEq, bleN0, bleN1, bleN2, bleN3, bleN4, bleN5, bleN6, bleN7, bleN8, oEq_int, e1, e2, m1, m2, hb, hn, q1, n1, n2]
end K29
namespace K29
open PySem PySem.Spec PyProof.Rows L2 Fe
theorem all_mk {l : PySem.W.OpenLaw} {w : World} {K : PySem.W.Frag} {h : Heap} {mg : Str → Option Value} {fa f0 f1 f2 f3 f4 f5 f6 f7 f8 f9 f10 f11 f12 f13 f14 f15 : Addr} (X : K.In h) (G : h.Ns mainGlobals mg) (hfa : mg "law" = some (.ref fa))
    {od0 an0 od1 an1 od2 an2 od3 an3 od4 an4 od5 an5 od6 an6 od7 an7 od8 an8 od9 an9 od10 an10 od11 an11 od12 an12 od13 an13 od14 an14 od15 an15 : Option Addr} {sl0 sl1 sl2 sl3 sl4 sl5 sl6 sl7 sl8 sl9 sl10 sl11 sl12 sl13 sl14 sl15 : Array (Option Value)} {oc0 kV0 dc0 pm0 cd0 ct0 oc1 kV1 dc1 pm1 cd1 ct1 oc2 kV2 dc2 pm2 cd2 ct2 oc3 kV3 dc3 pm3 cd3 ct3 oc4 kV4 dc4 pm4 cd4 ct4 oc5 kV5 dc5 pm5 cd5 ct5 oc6 kV6 dc6 pm6 cd6 ct6 oc7 kV7 dc7 pm7 cd7 ct7 oc8 kV8 dc8 pm8 cd8 ct8 oc9 kV9 dc9 pm9 cd9 ct9 oc10 kV10 dc10 pm10 cd10 ct10 oc11 kV11 dc11 pm11 cd11 ct11 oc12 kV12 dc12 pm12 cd12 ct12 oc13 kV13 dc13 pm13 cd13 ct13 oc14 kV14 dc14 pm14 cd14 ct14 oc15 kV15 dc15 pm15 cd15 ct15 : Value}
    (a0 : PySem.W.nsIn K mainGlobals "four_norm" = some (some (.ref f0))) (l0 : K.lookup f0 = some ⟨oc0, od0, .func (PySem.W.fnOf "four_norm" "four_norm" (defArgs (top 1)) (defBody (top 1)) (defScope (top 1)) .none kV0 dc0 pm0 an0 cd0 ct0), sl0⟩) (c0 : PySem.W.codeIn K cd0 "four_norm" = true) (k0 : PySem.W.keepIn K (.ref f0) = true)
    (a1 : PySem.W.nsIn K mainGlobals "whole_root" = some (some (.ref f1))) (l1 : K.lookup f1 = some ⟨oc1, od1, .func (PySem.W.fnOf "whole_root" "whole_root" (defArgs (top 3)) (defBody (top 3)) (defScope (top 3)) .none kV1 dc1 pm1 an1 cd1 ct1), sl1⟩) (c1 : PySem.W.codeIn K cd1 "whole_root" = true) (k1 : PySem.W.keepIn K (.ref f1) = true)
    (a2 : PySem.W.nsIn K mainGlobals "falling_squares" = some (some (.ref f2))) (l2 : K.lookup f2 = some ⟨oc2, od2, .func (PySem.W.fnOf "falling_squares" "falling_squares" (defArgs (top 4)) (defBody (top 4)) (defScope (top 4)) .none kV2 dc2 pm2 an2 cd2 ct2), sl2⟩) (c2 : PySem.W.codeIn K cd2 "falling_squares" = true) (k2 : PySem.W.keepIn K (.ref f2) = true)
    (a3 : PySem.W.nsIn K mainGlobals "any_four_squares" = some (some (.ref f3))) (l3 : K.lookup f3 = some ⟨oc3, od3, .func (PySem.W.fnOf "any_four_squares" "any_four_squares" (defArgs (top 5)) (defBody (top 5)) (defScope (top 5)) .none kV3 dc3 pm3 an3 cd3 ct3), sl3⟩) (c3 : PySem.W.codeIn K cd3 "any_four_squares" = true) (k3 : PySem.W.keepIn K (.ref f3) = true)
    (a4 : PySem.W.nsIn K mainGlobals "odd_divisor_sum" = some (some (.ref f4))) (l4 : K.lookup f4 = some ⟨oc4, od4, .func (PySem.W.fnOf "odd_divisor_sum" "odd_divisor_sum" (defArgs (top 6)) (defBody (top 6)) (defScope (top 6)) .none kV4 dc4 pm4 an4 cd4 ct4), sl4⟩) (c4 : PySem.W.codeIn K cd4 "odd_divisor_sum" = true) (k4 : PySem.W.keepIn K (.ref f4) = true)
    (a5 : PySem.W.nsIn K mainGlobals "count_fours" = some (some (.ref f5))) (l5 : K.lookup f5 = some ⟨oc5, od5, .func (PySem.W.fnOf "count_fours" "count_fours" (defArgs (top 7)) (defBody (top 7)) (defScope (top 7)) .none kV5 dc5 pm5 an5 cd5 ct5), sl5⟩) (c5 : PySem.W.codeIn K cd5 "count_fours" = true) (k5 : PySem.W.keepIn K (.ref f5) = true)
    (a6 : PySem.W.nsIn K mainGlobals "count_four_squares" = some (some (.ref f6))) (l6 : K.lookup f6 = some ⟨oc6, od6, .func (PySem.W.fnOf "count_four_squares" "count_four_squares" (defArgs (top 8)) (defBody (top 8)) (defScope (top 8)) .none kV6 dc6 pm6 an6 cd6 ct6), sl6⟩) (c6 : PySem.W.codeIn K cd6 "count_four_squares" = true) (k6 : PySem.W.keepIn K (.ref f6) = true)
    (a7 : PySem.W.nsIn K mainGlobals "prime_powers_in" = some (some (.ref f7))) (l7 : K.lookup f7 = some ⟨oc7, od7, .func (PySem.W.fnOf "prime_powers_in" "prime_powers_in" (defArgs (top 10)) (defBody (top 10)) (defScope (top 10)) .none kV7 dc7 pm7 an7 cd7 ct7), sl7⟩) (c7 : PySem.W.codeIn K cd7 "prime_powers_in" = true) (k7 : PySem.W.keepIn K (.ref f7) = true)
    (a8 : PySem.W.nsIn K mainGlobals "divisors_of_row" = some (some (.ref f8))) (l8 : K.lookup f8 = some ⟨oc8, od8, .func (PySem.W.fnOf "divisors_of_row" "divisors_of_row" (defArgs (top 11)) (defBody (top 11)) (defScope (top 11)) .none kV8 dc8 pm8 an8 cd8 ct8), sl8⟩) (c8 : PySem.W.codeIn K cd8 "divisors_of_row" = true) (k8 : PySem.W.keepIn K (.ref f8) = true)
    (a9 : PySem.W.nsIn K mainGlobals "divisors_by_four" = some (some (.ref f9))) (l9 : K.lookup f9 = some ⟨oc9, od9, .func (PySem.W.fnOf "divisors_by_four" "divisors_by_four" (defArgs (top 12)) (defBody (top 12)) (defScope (top 12)) .none kV9 dc9 pm9 an9 cd9 ct9), sl9⟩) (c9 : PySem.W.codeIn K cd9 "divisors_by_four" = true) (k9 : PySem.W.keepIn K (.ref f9) = true)
    (a10 : PySem.W.nsIn K mainGlobals "count_first_ways" = some (some (.ref f10))) (l10 : K.lookup f10 = some ⟨oc10, od10, .func (PySem.W.fnOf "count_first_ways" "count_first_ways" (defArgs (top 13)) (defBody (top 13)) (defScope (top 13)) .none kV10 dc10 pm10 an10 cd10 ct10), sl10⟩) (c10 : PySem.W.codeIn K cd10 "count_first_ways" = true) (k10 : PySem.W.keepIn K (.ref f10) = true)
    (a11 : PySem.W.nsIn K mainGlobals "count_ways" = some (some (.ref f11))) (l11 : K.lookup f11 = some ⟨oc11, od11, .func (PySem.W.fnOf "count_ways" "count_ways" (defArgs (top 14)) (defBody (top 14)) (defScope (top 14)) .none kV11 dc11 pm11 an11 cd11 ct11), sl11⟩) (c11 : PySem.W.codeIn K cd11 "count_ways" = true) (k11 : PySem.W.keepIn K (.ref f11) = true)
    (a12 : PySem.W.nsIn K mainGlobals "_law_source" = some (some (.ref f12))) (l12 : K.lookup f12 = some ⟨oc12, od12, .func (PySem.W.fnOf "_law_source" "_law_source" (defArgs (top 16)) (defBody (top 16)) (defScope (top 16)) .none kV12 dc12 pm12 an12 cd12 ct12), sl12⟩) (c12 : PySem.W.codeIn K cd12 "_law_source" = true) (k12 : PySem.W.keepIn K (.ref f12) = true)
    (a13 : PySem.W.nsIn K mainGlobals "_law_pick" = some (some (.ref f13))) (l13 : K.lookup f13 = some ⟨oc13, od13, .func (PySem.W.fnOf "_law_pick" "_law_pick" (defArgs (top 17)) (defBody (top 17)) (defScope (top 17)) .none kV13 dc13 pm13 an13 cd13 ct13), sl13⟩) (c13 : PySem.W.codeIn K cd13 "_law_pick" = true) (k13 : PySem.W.keepIn K (.ref f13) = true)
    (a14 : PySem.W.nsIn K mainGlobals "_law_cubes" = some (some (.ref f14))) (l14 : K.lookup f14 = some ⟨oc14, od14, .func (PySem.W.fnOf "_law_cubes" "_law_cubes" (defArgs (top 18)) (defBody (top 18)) (defScope (top 18)) .none kV14 dc14 pm14 an14 cd14 ct14), sl14⟩) (c14 : PySem.W.codeIn K cd14 "_law_cubes" = true) (k14 : PySem.W.keepIn K (.ref f14) = true)
    (a15 : PySem.W.nsIn K mainGlobals "law" = some (some (.ref f15))) (l15 : K.lookup f15 = some ⟨oc15, od15, .func (PySem.W.fnOf "law" "law" (defArgs (top 19)) (defBody (top 19)) (defScope (top 19)) .none kV15 dc15 pm15 an15 cd15 ct15), sl15⟩) (c15 : PySem.W.codeIn K cd15 "law" = true) (k15 : PySem.W.keepIn K (.ref f15) = true)
    (z_abs : PySem.W.nsIn K mainGlobals "abs" = some none)
    (z_int : PySem.W.nsIn K mainGlobals "int" = some none)
    (z_len : PySem.W.nsIn K mainGlobals "len" = some none)
    (z_list : PySem.W.nsIn K mainGlobals "list" = some none)
    (z_min : PySem.W.nsIn K mainGlobals "min" = some none)
    (z_range : PySem.W.nsIn K mainGlobals "range" = some none)
    (z_repr : PySem.W.nsIn K mainGlobals "repr" = some none)
    (z_sum : PySem.W.nsIn K mainGlobals "sum" = some none)
    (z_tuple : PySem.W.nsIn K mainGlobals "tuple" = some none)
    : ∃ fd : FuncData, (∀ (s : Shared) (v : Value), BindsTo s fd ⟨[v], []⟩ [("script", v)]) ∧ ∀ base : Heap, K.In base → base.Ns mainGlobals mg → FnG l.prog w K mg base 5 fa fd ["script"] (spLaw K) := by
  have e := hfa.symm.trans (PySem.W.mg_of X G a15)
  cases e
  have F0 := fun_mk (st := top 1) l0 c0 k0
  have b0 := F0.binds (ps := ["x"]) fun _ _ _ _ _ _ us hl => match us, hl with | [_], _ => rfl
  have F1 := fun_mk (st := top 3) l1 c1 k1
  have b1 := F1.binds (ps := ["n"]) fun _ _ _ _ _ _ us hl => match us, hl with | [_], _ => rfl
  have F2 := fun_mk (st := top 4) l2 c2 k2
  have b2 := F2.binds (ps := ["n", "many", "most"]) fun _ _ _ _ _ _ us hl => match us, hl with | [_, _, _], _ => rfl
  have F3 := fun_mk (st := top 5) l3 c3 k3
  have b3 := F3.binds (ps := ["n"]) fun _ _ _ _ _ _ us hl => match us, hl with | [_], _ => rfl
  have F4 := fun_mk (st := top 6) l4 c4 k4
  have b4 := F4.binds (ps := ["n"]) fun _ _ _ _ _ _ us hl => match us, hl with | [_], _ => rfl
  have F5 := fun_mk (st := top 7) l5 c5 k5
  have b5 := F5.binds (ps := ["n"]) fun _ _ _ _ _ _ us hl => match us, hl with | [_], _ => rfl
  have F6 := fun_mk (st := top 8) l6 c6 k6
  have b6 := F6.binds (ps := ["n"]) fun _ _ _ _ _ _ us hl => match us, hl with | [_], _ => rfl
  have F7 := fun_mk (st := top 10) l7 c7 k7
  have b7 := F7.binds (ps := ["n"]) fun _ _ _ _ _ _ us hl => match us, hl with | [_], _ => rfl
  have F8 := fun_mk (st := top 11) l8 c8 k8
  have b8 := F8.binds (ps := ["row"]) fun _ _ _ _ _ _ us hl => match us, hl with | [_], _ => rfl
  have F9 := fun_mk (st := top 12) l9 c9 k9
  have b9 := F9.binds (ps := ["n"]) fun _ _ _ _ _ _ us hl => match us, hl with | [_], _ => rfl
  have F10 := fun_mk (st := top 13) l10 c10 k10
  have b10 := F10.binds (ps := ["n"]) fun _ _ _ _ _ _ us hl => match us, hl with | [_], _ => rfl
  have F11 := fun_mk (st := top 14) l11 c11 k11
  have b11 := F11.binds (ps := ["n"]) fun _ _ _ _ _ _ us hl => match us, hl with | [_], _ => rfl
  have F12 := fun_mk (st := top 16) l12 c12 k12
  have b12 := F12.binds (ps := ["script"]) fun _ _ _ _ _ _ us hl => match us, hl with | [_], _ => rfl
  have F13 := fun_mk (st := top 17) l13 c13 k13
  have b13 := F13.binds (ps := ["source", "many"]) fun _ _ _ _ _ _ us hl => match us, hl with | [_, _], _ => rfl
  have F14 := fun_mk (st := top 18) l14 c14 k14
  have b14 := F14.binds (ps := ["n"]) fun _ _ _ _ _ _ us hl => match us, hl with | [_], _ => rfl
  have F15 := fun_mk (st := top 19) l15 c15 k15
  have b15 := F15.binds (ps := ["script"]) fun _ _ _ _ _ _ us hl => match us, hl with | [_], _ => rfl
  have T : Tx K mg (fun i => [f0, f1, f2, f3, f4, f5, f6, f7, f8, f9, f10, f11, f12, f13, f14, fa].getD i 0) (fun i => [(PySem.W.fnOf "four_norm" "four_norm" (defArgs (top 1)) (defBody (top 1)) (defScope (top 1)) .none kV0 dc0 pm0 an0 cd0 ct0), (PySem.W.fnOf "whole_root" "whole_root" (defArgs (top 3)) (defBody (top 3)) (defScope (top 3)) .none kV1 dc1 pm1 an1 cd1 ct1), (PySem.W.fnOf "falling_squares" "falling_squares" (defArgs (top 4)) (defBody (top 4)) (defScope (top 4)) .none kV2 dc2 pm2 an2 cd2 ct2), (PySem.W.fnOf "any_four_squares" "any_four_squares" (defArgs (top 5)) (defBody (top 5)) (defScope (top 5)) .none kV3 dc3 pm3 an3 cd3 ct3), (PySem.W.fnOf "odd_divisor_sum" "odd_divisor_sum" (defArgs (top 6)) (defBody (top 6)) (defScope (top 6)) .none kV4 dc4 pm4 an4 cd4 ct4), (PySem.W.fnOf "count_fours" "count_fours" (defArgs (top 7)) (defBody (top 7)) (defScope (top 7)) .none kV5 dc5 pm5 an5 cd5 ct5), (PySem.W.fnOf "count_four_squares" "count_four_squares" (defArgs (top 8)) (defBody (top 8)) (defScope (top 8)) .none kV6 dc6 pm6 an6 cd6 ct6), (PySem.W.fnOf "prime_powers_in" "prime_powers_in" (defArgs (top 10)) (defBody (top 10)) (defScope (top 10)) .none kV7 dc7 pm7 an7 cd7 ct7), (PySem.W.fnOf "divisors_of_row" "divisors_of_row" (defArgs (top 11)) (defBody (top 11)) (defScope (top 11)) .none kV8 dc8 pm8 an8 cd8 ct8), (PySem.W.fnOf "divisors_by_four" "divisors_by_four" (defArgs (top 12)) (defBody (top 12)) (defScope (top 12)) .none kV9 dc9 pm9 an9 cd9 ct9), (PySem.W.fnOf "count_first_ways" "count_first_ways" (defArgs (top 13)) (defBody (top 13)) (defScope (top 13)) .none kV10 dc10 pm10 an10 cd10 ct10), (PySem.W.fnOf "count_ways" "count_ways" (defArgs (top 14)) (defBody (top 14)) (defScope (top 14)) .none kV11 dc11 pm11 an11 cd11 ct11), (PySem.W.fnOf "_law_source" "_law_source" (defArgs (top 16)) (defBody (top 16)) (defScope (top 16)) .none kV12 dc12 pm12 an12 cd12 ct12), (PySem.W.fnOf "_law_pick" "_law_pick" (defArgs (top 17)) (defBody (top 17)) (defScope (top 17)) .none kV13 dc13 pm13 an13 cd13 ct13), (PySem.W.fnOf "_law_cubes" "_law_cubes" (defArgs (top 18)) (defBody (top 18)) (defScope (top 18)) .none kV14 dc14 pm14 an14 cd14 ct14), (PySem.W.fnOf "law" "law" (defArgs (top 19)) (defBody (top 19)) (defScope (top 19)) .none kV15 dc15 pm15 an15 cd15 ct15)].getD i (PySem.W.fnOf "four_norm" "four_norm" (defArgs (top 1)) (defBody (top 1)) (defScope (top 1)) .none kV0 dc0 pm0 an0 cd0 ct0)) := ⟨F0, PySem.W.mg_of X G a0, b0, F1, PySem.W.mg_of X G a1, b1, F2, PySem.W.mg_of X G a2, b2, F3, PySem.W.mg_of X G a3, b3, F4, PySem.W.mg_of X G a4, b4, F5, PySem.W.mg_of X G a5, b5, F6, PySem.W.mg_of X G a6, b6, F7, PySem.W.mg_of X G a7, b7, F8, PySem.W.mg_of X G a8, b8, F9, PySem.W.mg_of X G a9, b9, F10, PySem.W.mg_of X G a10, b10, F11, PySem.W.mg_of X G a11, b11, F12, PySem.W.mg_of X G a12, b12, F13, PySem.W.mg_of X G a13, b13, F14, PySem.W.mg_of X G a14, b14, F15, PySem.W.mg_of X G a15, b15, PySem.W.mg_none_of X G z_abs, PySem.W.mg_none_of X G z_int, PySem.W.mg_none_of X G z_len, PySem.W.mg_none_of X G z_list, PySem.W.mg_none_of X G z_min, PySem.W.mg_none_of X G z_range, PySem.W.mg_none_of X G z_repr, PySem.W.mg_none_of X G z_sum, PySem.W.mg_none_of X G z_tuple⟩
  exact ⟨_, fun s v => .of_eq rfl, fun base _ _ => d_law hF T⟩
end K29
open PySem PySem.W PyProof.Rows
set_option maxRecDepth 100000 in
set_option maxHeartbeats 0 in
theorem PySem.Challenge.cw_wholefours_k29_whole_eight_squares_and_o_holds : PySem.Challenge.rw_wholefours_k29_whole_eight_squares_and_o.Holds := by
  w_on; o_law; k_head; (case hw => w_witness2)
  k_fill
  refine Fe.walkG (l := PySem.Challenge.rw_wholefours_k29_whole_eight_squares_and_o) (k := 5) (x := "script") rfl rfl ⟨rfl, by decide, by decide⟩ (fun w h Y => PySem.W.kIn_of Y) ?F
  case F =>
    intro w mg fa h KX G hmg
    refine' K29.all_mk KX G hmg ?a0 ?l0 ?c0 ?k0 ?a1 ?l1 ?c1 ?k1 ?a2 ?l2 ?c2 ?k2 ?a3 ?l3 ?c3 ?k3 ?a4 ?l4 ?c4 ?k4 ?a5 ?l5 ?c5 ?k5 ?a6 ?l6 ?c6 ?k6 ?a7 ?l7 ?c7 ?k7 ?a8 ?l8 ?c8 ?k8 ?a9 ?l9 ?c9 ?k9 ?a10 ?l10 ?c10 ?k10 ?a11 ?l11 ?c11 ?k11 ?a12 ?l12 ?c12 ?k12 ?a13 ?l13 ?c13 ?k13 ?a14 ?l14 ?c14 ?k14 ?a15 ?l15 ?c15 ?k15 ?z_abs ?z_int ?z_len ?z_list ?z_min ?z_range ?z_repr ?z_sum ?z_tuple
    (case a0 => k_is)
    (case l0 => k_is)
    (case c0 => k_is)
    (case k0 => k_is)
    (case a1 => k_is)
    (case l1 => k_is)
    (case c1 => k_is)
    (case k1 => k_is)
    (case a2 => k_is)
    (case l2 => k_is)
    (case c2 => k_is)
    (case k2 => k_is)
    (case a3 => k_is)
    (case l3 => k_is)
    (case c3 => k_is)
    (case k3 => k_is)
    (case a4 => k_is)
    (case l4 => k_is)
    (case c4 => k_is)
    (case k4 => k_is)
    (case a5 => k_is)
    (case l5 => k_is)
    (case c5 => k_is)
    (case k5 => k_is)
    (case a6 => k_is)
    (case l6 => k_is)
    (case c6 => k_is)
    (case k6 => k_is)
    (case a7 => k_is)
    (case l7 => k_is)
    (case c7 => k_is)
    (case k7 => k_is)
    (case a8 => k_is)
    (case l8 => k_is)
    (case c8 => k_is)
    (case k8 => k_is)
    (case a9 => k_is)
    (case l9 => k_is)
    (case c9 => k_is)
    (case k9 => k_is)
    (case a10 => k_is)
    (case l10 => k_is)
    (case c10 => k_is)
    (case k10 => k_is)
    (case a11 => k_is)
    (case l11 => k_is)
    (case c11 => k_is)
    (case k11 => k_is)
    (case a12 => k_is)
    (case l12 => k_is)
    (case c12 => k_is)
    (case k12 => k_is)
    (case a13 => k_is)
    (case l13 => k_is)
    (case c13 => k_is)
    (case k13 => k_is)
    (case a14 => k_is)
    (case l14 => k_is)
    (case c14 => k_is)
    (case k14 => k_is)
    (case a15 => k_is)
    (case l15 => k_is)
    (case c15 => k_is)
    (case k15 => k_is)
    (case z_abs => k_is)
    (case z_int => k_is)
    (case z_len => k_is)
    (case z_list => k_is)
    (case z_min => k_is)
    (case z_range => k_is)
    (case z_repr => k_is)
    (case z_sum => k_is)
    (case z_tuple => k_is)
