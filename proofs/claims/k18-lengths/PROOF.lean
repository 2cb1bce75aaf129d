import PyProof.Rows.All
import Wide.All
import OpenK.AllK
import Wide.FinOn
import HandS.ForMost
import HandS.Wide
import HandS.TupAny
import HandS.SortInts
import HandS.Gcd
import HandS.Zip
import HandS.Style
import HandS.RaiseMore
import PySem.Challenge.RW_wholefours_k18_whole_lengths_of_words_to
set_option Elab.async false
set_option linter.all false
set_option maxRecDepth 100000
set_option maxHeartbeats 8000000
/-! Fe: a layer of our own: what an expression or a statement computes, as a plain function over data. -/
namespace Fe
open PySem PySem.Spec PyProof.Rows L2

/-! ## data in the heap -/
mutual
inductive Dq (K : PySem.W.Frag) (H : Hp) : V → PyData → Prop
  | non : Dq K H .non .none
  | bl (b : Bool) : Dq K H (.bl b) (.bool b)
  | int (i : Int) : Dq K H (.int i) (.int i)
  | str (x : Str) : Dq K H (.str x) (.str x)
  | lst {a : Addr} {xs : List V} {ds : List PyData} : H a = some (.lst xs) → DqA K H xs ds → Dq K H (.ref a) (.list ds)
  | tup {a : Addr} {xs : List V} {ds : List PyData} : SqT K H a xs → DqA K H xs ds → Dq K H (.ref a) (.tuple ds)
inductive DqA (K : PySem.W.Frag) (H : Hp) : List V → List PyData → Prop
  | nil : DqA K H [] []
  | cons {v : V} {vs : List V} {d : PyData} {ds : List PyData} : Dq K H v d → DqA K H vs ds → DqA K H (v :: vs) (d :: ds)
end
section
variable {K : PySem.W.Frag} {G H H' : Hp}
theorem sqT_up (e : Same H H') {a : Addr} {xs : List V} (h : SqT K H a xs) : SqT K H' a xs := by
  obtain (q | ⟨o, q⟩) | q := h
  · exact Or.inl (Or.inl (e a _ q))
  · exact Or.inl (Or.inr ⟨o, e a _ q⟩)
  · exact Or.inr q
mutual
theorem Dq.up (e : Same H H') : ∀ {d : PyData} {v : V}, Dq K H v d → Dq K H' v d
  | .none, _, h => by cases h; exact .non
  | .bool _, _, h => by cases h; exact .bl _
  | .int _, _, h => by cases h; exact .int _
  | .str _, _, h => by cases h; exact .str _
  | .list _, _, h => by cases h with | lst q r => exact .lst (e _ _ q) (DqA.up e r)
  | .tuple _, _, h => by cases h with | tup q r => exact .tup (sqT_up e q) (DqA.up e r)
  | .dict _, _, h => by cases h
theorem DqA.up (e : Same H H') : ∀ {ds : List PyData} {vs : List V}, DqA K H vs ds → DqA K H' vs ds
  | [], _, h => by cases h; exact .nil
  | _ :: _, _, h => by cases h with | cons q r => exact .cons (Dq.up e q) (DqA.up e r)
end
mutual
theorem Dq.dp : ∀ {d : PyData} {v : V}, Dq K H v d → Dp K H v d
  | .none, _, h => by cases h; exact .non
  | .bool _, _, h => by cases h; exact .bl _
  | .int _, _, h => by cases h; exact .int _
  | .str _, _, h => by cases h; exact .str _
  | .list _, _, h => by cases h with | lst q r => exact .lst (Or.inl (Or.inl q)) (DqA.dp r)
  | .tuple _, _, h => by cases h with | tup q r => exact .tup q (DqA.dp r)
  | .dict _, _, h => by cases h
theorem DqA.dp : ∀ {ds : List PyData} {vs : List V}, DqA K H vs ds → DpAll K H vs ds
  | [], _, h => by cases h; exact .nil
  | _ :: _, _, h => by cases h with | cons q r => exact .cons (Dq.dp q) (DqA.dp r)
end
theorem DqA.len : ∀ {ds : List PyData} {vs : List V}, DqA K H vs ds → vs.length = ds.length
  | [], _, h => by cases h; rfl
  | _ :: _, _, h => by cases h with | cons q r => exact congrArg (· + 1) (DqA.len r)
theorem DqA.get : ∀ {ds : List PyData} {vs : List V} {i : Nat} {d : PyData}, DqA K H vs ds → ds[i]? = some d → ∃ v, vs[i]? = some v ∧ Dq K H v d
  | [], _, _, _, _, h => by simp at h
  | _ :: _, _, 0, _, r, h => by
    cases r with | cons q r => exact ⟨_, rfl, by simp at h; exact h ▸ q⟩
  | _ :: _, _, i + 1, _, r, h => by
    cases r with | cons q r => simpa using DqA.get r (by simpa using h)
theorem DqA.app : ∀ {ds es : List PyData} {vs us : List V}, DqA K H vs ds → DqA K H us es → DqA K H (vs ++ us) (ds ++ es)
  | [], _, _, _, h, k => by cases h; exact k
  | _ :: _, _, _, _, h, k => by cases h with | cons q r => exact .cons q (DqA.app r k)
theorem DqA.one {v : V} {d : PyData} (h : Dq K H v d) : DqA K H [v] [d] := .cons h .nil
theorem DqA.tk : ∀ {ds : List PyData} {vs : List V} (n : Nat), DqA K H vs ds → DqA K H (vs.take n) (ds.take n)
  | [], _, n, h => by cases h; simp; exact .nil
  | _ :: _, _, 0, _ => by simp; exact .nil
  | _ :: _, _, n + 1, h => by cases h with | cons q r => exact .cons q (DqA.tk n r)
theorem DqA.dr : ∀ {ds : List PyData} {vs : List V} (n : Nat), DqA K H vs ds → DqA K H (vs.drop n) (ds.drop n)
  | [], _, n, h => by cases h; simp; exact .nil
  | _ :: _, _, 0, h => by simpa using h
  | _ :: _, _, n + 1, h => by cases h with | cons q r => exact DqA.dr n r
theorem DqA.st {v : V} {d : PyData} (k : Dq K H v d) : ∀ {ds : List PyData} {vs : List V} (n : Nat), DqA K H vs ds → DqA K H (vs.set n v) (ds.set n d)
  | [], _, n, h => by cases h; simp; exact .nil
  | _ :: _, _, 0, h => by cases h with | cons q r => exact .cons k r
  | _ :: _, _, n + 1, h => by cases h with | cons q r => exact .cons q (DqA.st k n r)
theorem DqA.ints : ∀ (ns : List Int), DqA K H (ns.map V.int) (ns.map PyData.int)
  | [] => .nil
  | n :: r => .cons (.int n) (DqA.ints r)
end

/-! ## the draws' source -/
structure Src where
  cells : List Int
  left : Int
  mixed : Int
  turn : Int
def SrcAt (H : Hp) (a c : Addr) (s : Src) : Prop :=
  H a = some (.dK [(.inr "cells", .ref c), (.inr "left", .int s.left), (.inr "mixed", .int s.mixed), (.inr "turn", .int s.turn)]) ∧ H c = some (.lst (s.cells.map V.int))

/-! ## environments -/
/-- a slot: unknown, a value that stays, a list of one's own, the draws' source -/
inductive Sl where
  | un
  | v (d : PyData)
  | own (ds : List PyData)
  | src (s : Src)
abbrev En := List Sl

def SlOk (K : PySem.W.Frag) (A : Option Addr) (G H : Hp) (x : Option V) : Sl → List Addr → Prop
  | .un, R => R = []
  | .v d, R => R = [] ∧ ∃ v, x = some v ∧ Dq K G v d
  | .own ds, R => ∃ a xs, R = [a] ∧ x = some (.ref a) ∧ H a = some (.lst xs) ∧ DqA K G xs ds
  | .src s, R => ∃ a c, R = [a, c] ∧ A = some a ∧ x = some (.ref a) ∧ SrcAt H a c s

/-- the slots' own objects, one slot changed -/
def Rg (R : Nat → List Addr) (i : Nat) (r : List Addr) : Nat → List Addr := fun j => if j = i then r else R j
theorem rg_same {R : Nat → List Addr} {i : Nat} {r : List Addr} : Rg R i r i = r := if_pos rfl
theorem rg_ne {R : Nat → List Addr} {i j : Nat} {r : List Addr} (h : j ≠ i) : Rg R i r j = R j := if_neg h
/-- F: what others own; G: what stays as it is; H: the whole -/
structure Rel (K : PySem.W.Frag) (A : Option Addr) (F G H : Hp) (ρ : En) (σ : L2.St) : Prop where
  gh : Same G H
  fh : Same F H
  fg : ∀ a o, F a = some o → G a = none
  len : ρ.length = σ.length
  rg : ∃ R : Nat → List Addr, (∀ i s, ρ[i]? = some s → ∃ x, σ[i]? = some x ∧ SlOk K A G H x s (R i)) ∧ (∀ i j a, a ∈ R i → a ∈ R j → i = j) ∧ (∀ i a, a ∈ R i → F a = none ∧ G a = none ∧ ∃ o, H a = some o)

section
variable {K : PySem.W.Frag} {A : Option Addr} {F G G' H H' : Hp} {ρ ρ' : En} {σ : L2.St} {p : Addr} {o : HO} {x : Option V} {s : Sl} {R : List Addr}
theorem same_new (h : H p = none) : Same H (upd H p o) := fun b u e => (upd_ne (ne_of_none e h)).trans e
theorem same_two {H1 : Hp} (h : Same G H1) : Same (upd G p o) (upd H1 p o) := fun b u e => by
  by_cases hb : b = p
  · subst hb
    rw [upd_same] at e ⊢
    exact e
  · rw [upd_ne hb] at e ⊢
    exact h b u e
theorem none_of (h : Same G H) (e : H p = none) : G p = none := h.free e
theorem SlOk.up (g : Same G G') (h : ∀ a ∈ R, H' a = H a) (k : SlOk K A G H x s R) : SlOk K A G' H' x s R := by
  cases s with
  | un => exact k
  | v d => obtain ⟨e, v, q, r⟩ := k; exact ⟨e, v, q, r.up g⟩
  | own ds =>
    obtain ⟨a, xs, e, q, r, t⟩ := k
    exact ⟨a, xs, e, q, (h a (by rw [e]; simp)).trans r, t.up g⟩
  | src s =>
    obtain ⟨a, c, e, q1, q, r, t⟩ := k
    exact ⟨a, c, e, q1, q, (h a (by rw [e]; simp)).trans r, (h c (by rw [e]; simp)).trans t⟩
/-- the general step: G grows, H changes away from the slots' own objects -/
theorem Rel.to {F' : Hp} (k : Rel K A F G H ρ σ) (g : Same G G') (gh : Same G' H') (fh : Same F' H') (fg : ∀ a o, F' a = some o → G' a = none)
    (ow : ∀ a o, F a = none → G a = none → H a = some o → H' a = some o) (fn : ∀ a, F a = none → G a = none → H a ≠ none → F' a = none ∧ G' a = none) : Rel K A F' G' H' ρ σ := by
  obtain ⟨R, r1, r2, r3⟩ := k.rg
  refine ⟨gh, fh, fg, k.len, R, fun i s h => ?_, r2, fun i a h => ?_⟩
  · obtain ⟨x, h1, h2⟩ := r1 i s h
    refine ⟨x, h1, h2.up g fun a ha => ?_⟩
    obtain ⟨f1, f2, o, f3⟩ := r3 i a ha
    rw [f3]
    exact ow a o f1 f2 f3
  · obtain ⟨f1, f2, o, f3⟩ := r3 i a h
    obtain ⟨g1, g2⟩ := fn a f1 f2 (by rw [f3]; simp)
    exact ⟨g1, g2, o, ow a o f1 f2 f3⟩
/-- a new object that stays -/
theorem Rel.new (k : Rel K A F G H ρ σ) (hp : H p = none) : Rel K A F (upd G p o) (upd H p o) ρ σ :=
  k.to (same_new (none_of k.gh hp)) (same_two k.gh) (k.fh.trans (same_new hp)) (fun a u e => by
    rw [upd_ne (ne_of_none (k.fh _ _ e) hp)]
    exact k.fg a u e) (fun a u _ _ e => same_new hp _ _ e) fun a f g e => ⟨f, by
      have : a ≠ p := fun z => e (z ▸ hp)
      rw [upd_ne this]
      exact g⟩
/-- a new object of no one's -/
theorem Rel.newF (k : Rel K A F G H ρ σ) (hp : H p = none) : Rel K A (upd F p o) G (upd H p o) ρ σ :=
  k.to (Same.refl G) (k.gh.trans (same_new hp)) (same_two k.fh) (fun a u e => by
    by_cases ha : a = p
    · subst ha
      exact none_of k.gh hp
    · rw [upd_ne ha] at e
      exact k.fg a u e) (fun a u _ _ e => same_new hp _ _ e) fun a f g e => ⟨by
      have : a ≠ p := fun z => e (z ▸ hp)
      rw [upd_ne this]
      exact f, g⟩
/-- what is no one's is to stay -/
theorem Rel.keepF (k : Rel K A (upd F p o) G H ρ σ) (hf : F p = none) : Rel K A F (upd G p o) H ρ σ := by
  have hp : H p = some o := k.fh p o upd_same
  have gp : G p = none := k.fg p o upd_same
  refine k.to (same_new gp) (fun b u e => ?_) (fun b u e => ?_) (fun a u e => ?_) (fun a u _ _ e => e) fun a f g e => ?_
  · by_cases hb : b = p
    · subst hb
      rw [upd_same] at e
      exact hp.trans e
    · rw [upd_ne hb] at e
      exact k.gh b u e
  · refine k.fh b u ?_
    rw [upd_ne (ne_of_none e hf)]
    exact e
  · have : a ≠ p := ne_of_none e hf
    rw [upd_ne this]
    refine k.fg a u ?_
    rw [upd_ne this]
    exact e
  · have : a ≠ p := fun z => by
      subst z
      rw [upd_same] at f
      cases f
    rw [upd_ne this] at f ⊢
    exact ⟨f, g⟩
/-- an object of no one's changes -/
theorem Rel.chgF {o' : HO} (k : Rel K A (upd F p o) G H ρ σ) : Rel K A (upd F p o') G (upd H p o') ρ σ := by
  have gp : G p = none := k.fg p o upd_same
  refine k.to (Same.refl G) (fun b u e => ?_) (fun b u e => ?_) (fun a u e => ?_) (fun a u f g e => ?_) fun a f g e => ?_
  · rw [upd_ne (ne_of_none e gp)]
    exact k.gh b u e
  · by_cases hb : b = p
    · subst hb
      rw [upd_same] at e ⊢
      exact e
    · rw [upd_ne hb] at e ⊢
      refine k.fh b u ?_
      rw [upd_ne hb]
      exact e
  · by_cases ha : a = p
    · subst ha
      exact gp
    · rw [upd_ne ha] at e
      refine k.fg a u ?_
      rw [upd_ne ha]
      exact e
  · have : a ≠ p := fun z => by
      subst z
      rw [upd_same] at f
      cases f
    rw [upd_ne this]
    exact e
  · have : a ≠ p := fun z => by
      subst z
      rw [upd_same] at f
      cases f
    rw [upd_ne this] at f ⊢
    exact ⟨f, g⟩
/-- what no one needs is forgotten -/
theorem Rel.dropF (k : Rel K A (upd F p o) G H ρ σ) (hf : F p = none) : Rel K A F G H ρ σ := by
  have gp : G p = none := k.fg p o upd_same
  refine k.to (Same.refl G) k.gh (fun b u e => k.fh b u ?_) (fun a u e => k.fg a u ?_) (fun a u f g e => e) fun a f g e => ?_
  · rw [upd_ne (ne_of_none e hf)]
    exact e
  · rw [upd_ne (ne_of_none e hf)]
    exact e
  · by_cases ha : a = p
    · subst ha
      exact ⟨hf, gp⟩
    · rw [upd_ne ha] at f
      exact ⟨f, g⟩
theorem Rel.at (k : Rel K A F G H ρ σ) {i : Nat} {d : PyData} (h : ρ[i]? = some (.v d)) : ∃ v, σ[i]? = some (some v) ∧ Dq K G v d := by
  obtain ⟨R, r1, _⟩ := k.rg
  obtain ⟨x, h1, _, v, rfl, h2⟩ := r1 i _ h
  exact ⟨v, h1, h2⟩
theorem Rel.atOwn (k : Rel K A F G H ρ σ) {i : Nat} {ds : List PyData} (h : ρ[i]? = some (.own ds)) : ∃ a xs, σ[i]? = some (some (.ref a)) ∧ H a = some (.lst xs) ∧ DqA K G xs ds ∧ F a = none ∧ G a = none := by
  obtain ⟨R, r1, _, r3⟩ := k.rg
  obtain ⟨x, h1, a, xs, e, rfl, h2, h3⟩ := r1 i _ h
  obtain ⟨f1, f2, _⟩ := r3 i a (by rw [e]; simp)
  exact ⟨a, xs, h1, h2, h3, f1, f2⟩
/-- a slot is set -/
theorem Rel.put (k : Rel K A F G H ρ σ) {i : Nat} {y : Option V} {t : Sl} (h : SlOk K A G H y t []) : Rel K A F G H (ρ.set i t) (σ.set i y) := by
  obtain ⟨R, r1, r2, r3⟩ := k.rg
  refine ⟨k.gh, k.fh, k.fg, by simp [k.len], Rg R i [], fun j u e => ?_, fun j l a e1 e2 => ?_, fun j a e => ?_⟩
  · by_cases hj : j = i
    · subst hj
      rw [rg_same]
      rw [List.getElem?_set_self'] at e ⊢
      have hl := k.len
      by_cases hlt : j < ρ.length
      · rw [List.getElem?_eq_getElem hlt] at e
        rw [List.getElem?_eq_getElem (by omega)]
        simp at e ⊢
        exact e ▸ h
      · rw [List.getElem?_eq_none (by omega)] at e
        simp at e
    · rw [rg_ne hj]
      rw [List.getElem?_set_ne (Ne.symm hj)] at e ⊢
      exact r1 j u e
  · by_cases hj : j = i
    · rw [hj, rg_same] at e1
      cases e1
    · rw [rg_ne hj] at e1
      by_cases hl : l = i
      · rw [hl, rg_same] at e2
        cases e2
      · rw [rg_ne hl] at e2
        exact r2 j l a e1 e2
  · by_cases hj : j = i
    · rw [hj, rg_same] at e
      cases e
    · rw [rg_ne hj] at e
      exact r3 j a e
theorem Rel.putV (k : Rel K A F G H ρ σ) (i : Nat) {v : V} {d : PyData} (h : Dq K G v d) : Rel K A F G H (ρ.set i (.v d)) (σ.set i (some v)) := k.put ⟨rfl, v, rfl, h⟩
theorem Rel.putU (k : Rel K A F G H ρ σ) (i : Nat) (y : Option V) : Rel K A F G H (ρ.set i .un) (σ.set i y) := k.put rfl
/-- a list of no one's becomes the slot's own -/
theorem Rel.putOwn {a : Addr} {xs : List V} {ds : List PyData} (k : Rel K A (upd F a (.lst xs)) G H ρ σ) (hf : F a = none) (i : Nat) (h : DqA K G xs ds) : Rel K A F G H (ρ.set i (.own ds)) (σ.set i (some (.ref a))) := by
  have ha : H a = some (.lst xs) := k.fh a _ upd_same
  have ga : G a = none := k.fg a _ upd_same
  obtain ⟨R, r1, r2, r3⟩ := k.rg
  have nR : ∀ j, a ∉ R j := fun j z => by
    have := (r3 j a z).1
    rw [upd_same] at this
    cases this
  refine ⟨k.gh, (k.dropF hf).fh, (k.dropF hf).fg, by simp [k.len], Rg R i [a], fun j u e => ?_, fun j l b e1 e2 => ?_, fun j b e => ?_⟩
  · by_cases hj : j = i
    · subst hj
      rw [rg_same]
      rw [List.getElem?_set_self'] at e ⊢
      have hl := k.len
      by_cases hlt : j < ρ.length
      · rw [List.getElem?_eq_getElem hlt] at e
        rw [List.getElem?_eq_getElem (by omega)]
        simp at e ⊢
        subst e
        exact ⟨a, xs, rfl, rfl, ha, h⟩
      · rw [List.getElem?_eq_none (by omega)] at e
        simp at e
    · rw [rg_ne hj]
      rw [List.getElem?_set_ne (Ne.symm hj)] at e ⊢
      exact r1 j u e
  · by_cases hj : j = i
    · rw [hj, rg_same] at e1
      by_cases hl : l = i
      · rw [hj, hl]
      · rw [rg_ne hl] at e2
        have : b = a := by simpa using e1
        exact absurd (this ▸ e2) (nR l)
    · rw [rg_ne hj] at e1
      by_cases hl : l = i
      · rw [hl, rg_same] at e2
        have : b = a := by simpa using e2
        exact absurd (this ▸ e1) (nR j)
      · rw [rg_ne hl] at e2
        exact r2 j l b e1 e2
  · by_cases hj : j = i
    · rw [hj, rg_same] at e
      have : b = a := by simpa using e
      subst this
      exact ⟨hf, ga, _, ha⟩
    · rw [rg_ne hj] at e
      obtain ⟨f1, f2, f3⟩ := r3 j b e
      rw [upd_ne (show b ≠ a from fun z => nR j (z ▸ e))] at f1
      exact ⟨f1, f2, f3⟩
/-- a slot's own list changes -/
theorem Rel.chgOwn (k : Rel K A F G H ρ σ) {i : Nat} {a : Addr} {ds es : List PyData} {ys : List V} (h : ρ[i]? = some (.own ds)) (hσ : σ[i]? = some (some (.ref a))) (hy : DqA K G ys es) : Rel K A F G (upd H a (.lst ys)) (ρ.set i (.own es)) σ := by
  obtain ⟨R, r1, r2, r3⟩ := k.rg
  obtain ⟨x, h1, b, xs, eR, rfl, h2, h3⟩ := r1 i _ h
  have eb : b = a := by
    rw [hσ] at h1
    cases h1
    rfl
  subst eb
  have bR : b ∈ R i := by rw [eR]; simp
  obtain ⟨fb, gb, _⟩ := r3 i b bR
  refine ⟨fun c u e => ?_, fun c u e => ?_, k.fg, by simp [k.len], R, fun j u e => ?_, r2, fun j c e => ?_⟩
  · rw [upd_ne (ne_of_none e gb)]
    exact k.gh c u e
  · rw [upd_ne (ne_of_none e fb)]
    exact k.fh c u e
  · by_cases hj : j = i
    · subst hj
      rw [List.getElem?_set_self (List.getElem?_eq_some_iff.mp h).1] at e
      cases e
      exact ⟨_, h1, b, ys, eR, rfl, upd_same, hy⟩
    · rw [List.getElem?_set_ne (Ne.symm hj)] at e
      obtain ⟨x, q1, q2⟩ := r1 j u e
      refine ⟨x, q1, q2.up (Same.refl G) fun c hc => upd_ne fun z => hj ?_⟩
      exact r2 j i b (z ▸ hc) bR
  · obtain ⟨f1, f2, u, f3⟩ := r3 j c e
    by_cases hc : c = b
    · subst hc
      exact ⟨f1, f2, _, upd_same⟩
    · exact ⟨f1, f2, u, (upd_ne hc).trans f3⟩
/-- a slot's own list is to stay -/
theorem Rel.frz (k : Rel K A F G H ρ σ) {i : Nat} {ds : List PyData} (h : ρ[i]? = some (.own ds)) : ∃ G', Same G G' ∧ Rel K A F G' H (ρ.set i (.v (.list ds))) σ := by
  obtain ⟨R, r1, r2, r3⟩ := k.rg
  obtain ⟨x, h1, b, xs, eR, rfl, h2, h3⟩ := r1 i _ h
  have bR : b ∈ R i := by rw [eR]; simp
  obtain ⟨fb, gb, _⟩ := r3 i b bR
  have gg : Same G (upd G b (.lst xs)) := same_new gb
  refine ⟨upd G b (.lst xs), gg, fun c u e => ?_, k.fh, fun c u e => ?_, by simp [k.len], Rg R i [], fun j u e => ?_, fun j l c e1 e2 => ?_, fun j c e => ?_⟩
  · by_cases hc : c = b
    · subst hc
      rw [upd_same] at e
      exact h2.trans e
    · rw [upd_ne hc] at e
      exact k.gh c u e
  · rw [upd_ne (ne_of_none e fb)]
    exact k.fg c u e
  · by_cases hj : j = i
    · subst hj
      rw [List.getElem?_set_self (List.getElem?_eq_some_iff.mp h).1] at e
      cases e
      rw [rg_same]
      exact ⟨_, h1, rfl, _, rfl, .lst upd_same (h3.up gg)⟩
    · rw [List.getElem?_set_ne (Ne.symm hj)] at e
      rw [rg_ne hj]
      obtain ⟨x, q1, q2⟩ := r1 j u e
      exact ⟨x, q1, q2.up gg fun c hc => rfl⟩
  · by_cases hj : j = i
    · rw [hj, rg_same] at e1
      cases e1
    · rw [rg_ne hj] at e1
      by_cases hl : l = i
      · rw [hl, rg_same] at e2
        cases e2
      · rw [rg_ne hl] at e2
        exact r2 j l c e1 e2
  · by_cases hj : j = i
    · rw [hj, rg_same] at e
      cases e
    · rw [rg_ne hj] at e
      obtain ⟨f1, f2, f3⟩ := r3 j c e
      refine ⟨f1, ?_, f3⟩
      rw [upd_ne (show c ≠ b from fun z => hj (r2 j i b (z ▸ e) bR))]
      exact f2
end
end Fe
namespace Fe
open PySem PySem.Spec PyProof.Rows L2

/-! ## what an expression computes -/
abbrev EF := En → Option (PyData × En)
abbrev BF := En → Option (Bool × En)
abbrev LF := En → Option (List PyData × En)
/-- a value that stays -/
def FE (X : Cx) (e : Expr) (f : EF) : Prop := ∃ t, PE X e t ∧ ∀ ρ d ρ', f ρ = some (d, ρ') → ∀ A F G H σ Q, Rel X.K A F G H ρ σ →
  (∀ x G' H', Same G G' → Rel X.K A F G' H' ρ' σ → Dq X.K G' x d → Q x H') → t σ H Q
/-- a test -/
def FT (X : Cx) (e : Expr) (f : BF) : Prop := ∃ t, PT X e t ∧ ∀ ρ d ρ', f ρ = some (d, ρ') → ∀ A F G H σ Q, Rel X.K A F G H ρ σ →
  (∀ G' H', Same G G' → Rel X.K A F G' H' ρ' σ → Q d H') → t σ H Q
/-- a new list -/
def FL (X : Cx) (e : Expr) (f : LF) : Prop := ∃ t, PE X e t ∧ ∀ ρ ds ρ', f ρ = some (ds, ρ') → ∀ A F G H σ Q, Rel X.K A F G H ρ σ →
  (∀ a xs G' H', F a = none → Same G G' → Rel X.K A (upd F a (.lst xs)) G' H' ρ' σ → DqA X.K G' xs ds → xs.length ≤ sizeLine → Q (.ref a) H') → t σ H Q
/-- several values -/
def FA (X : Cx) (es : List Expr) (f : LF) : Prop := ∃ t, PA X es t ∧ ∀ ρ ds ρ', f ρ = some (ds, ρ') → ∀ A F G H σ Q, Rel X.K A F G H ρ σ →
  (∀ xs G' H', Same G G' → Rel X.K A F G' H' ρ' σ → DqA X.K G' xs ds → Q xs H') → t σ H Q
/-- a value to be read: a value that stays, or a list that may change later -/
def Dr (K : PySem.W.Frag) (G H : Hp) (x : V) (d : PyData) : Prop := Dq K G x d ∨ ∃ a xs ds, x = .ref a ∧ d = .list ds ∧ H a = some (.lst xs) ∧ DqA K G xs ds
inductive Rf where
  | val (d : PyData)
  | slot (i : Nat)
@[simp] def rdS : Option Sl → Option PyData
  | some (.v d) => some d
  | some (.own ds) => some (.list ds)
  | _ => none
@[simp] def Rf.get (ρ : En) : Rf → Option PyData
  | .val d => some d
  | .slot i => rdS ρ[i]?
def RfOk (K : PySem.W.Frag) (G : Hp) (σ : L2.St) (x : V) : Rf → Prop
  | .val d => Dq K G x d
  | .slot i => σ[i]? = some (some x)
theorem RfOk.up {K : PySem.W.Frag} {G G' : Hp} {σ : L2.St} {x : V} {r : Rf} (h : RfOk K G σ x r) (s : Same G G') : RfOk K G' σ x r := by
  cases r with
  | val d => exact Dq.up s h
  | slot i => exact h
theorem RfOk.dr {K : PySem.W.Frag} {A : Option Addr} {F G H : Hp} {ρ : En} {σ : L2.St} {x : V} {r : Rf} {d : PyData} (h : RfOk K G σ x r) (R : Rel K A F G H ρ σ) (e : r.get ρ = some d) : Dr K G H x d := by
  cases r with
  | val d' =>
    cases e
    exact Or.inl h
  | slot i =>
    have h' : σ[i]? = some (some x) := h
    have e' : rdS ρ[i]? = some d := e
    unfold rdS at e'
    split at e'
    · rename_i d' q
      cases e'
      obtain ⟨v, h1, h2⟩ := R.at q
      rw [h'] at h1
      cases h1
      exact Or.inl h2
    · rename_i ds q
      cases e'
      obtain ⟨a, xs, h1, h2, h3, _⟩ := R.atOwn q
      rw [h'] at h1
      cases h1
      exact Or.inr ⟨a, xs, ds, rfl, rfl, h2, h3⟩
    · cases e'
def FR (X : Cx) (e : Expr) (f : En → Option (Rf × En)) : Prop := ∃ t, PE X e t ∧ ∀ ρ d ρ', f ρ = some (d, ρ') → ∀ A F G H σ Q, Rel X.K A F G H ρ σ →
  (∀ x G' H', Same G G' → Rel X.K A F G' H' ρ' σ → RfOk X.K G' σ x d → Q x H') → t σ H Q

/-! ### the functions -/
@[simp] def fC (d : PyData) : EF := fun ρ => some (d, ρ)
@[simp] def fVar (i : Nat) : EF := fun ρ => match ρ[i]? with
  | some (.v d) => some (d, ρ)
  | _ => none
@[simp] def fRd (i : Nat) : En → Option (Rf × En) := fun ρ => match rdS ρ[i]? with
  | some _ => some (.slot i, ρ)
  | none => none
@[simp] def bnd {α β : Type} (x : Option (α × En)) (k : α → En → Option β) : Option β := match x with
  | none => none
  | some (a, ρ) => k a ρ
@[simp] def ret {α : Type} (ρ : En) : Option α → Option (α × En)
  | none => none
  | some a => some (a, ρ)
@[simp] def fOp (o : PyData → PyData → Option PyData) (f g : EF) : EF := fun ρ => bnd (f ρ) fun x ρ1 => bnd (g ρ1) fun y ρ2 => ret ρ2 (o x y)
@[simp] def fUn (o : PyData → Option PyData) (f : EF) : EF := fun ρ => bnd (f ρ) fun x ρ1 => ret ρ1 (o x)
@[simp] def fTst (f : EF) : BF := fun ρ => bnd (f ρ) fun x ρ1 => match x with
  | .bool b => some (b, ρ1)
  | _ => none
@[simp] def fNot (f : BF) : BF := fun ρ => bnd (f ρ) fun b ρ1 => some (!b, ρ1)
@[simp] def fAnd (f g : BF) : BF := fun ρ => bnd (f ρ) fun b ρ1 => if b = true then g ρ1 else some (false, ρ1)
@[simp] def fOr (f g : BF) : BF := fun ρ => bnd (f ρ) fun b ρ1 => if b = true then some (true, ρ1) else g ρ1
@[simp] def fIf {α : Type} (c : BF) (f g : En → Option α) : En → Option α := fun ρ => bnd (c ρ) fun b ρ1 => if b = true then f ρ1 else g ρ1
@[simp] def fBool (f : BF) : EF := fun ρ => bnd (f ρ) fun b ρ1 => some (.bool b, ρ1)
@[simp] def fNil : LF := fun ρ => some ([], ρ)
@[simp] def fCons (f : EF) (g : LF) : LF := fun ρ => bnd (f ρ) fun x ρ1 => bnd (g ρ1) fun xs ρ2 => some (x :: xs, ρ2)
@[simp] def fTup (f : LF) : EF := fun ρ => bnd (f ρ) fun xs ρ1 => if Nat.ble xs.length 16777216 = true then some (.tuple xs, ρ1) else none
@[simp] def fLst (f : LF) : LF := fun ρ => bnd (f ρ) fun xs ρ1 => if Nat.ble xs.length 16777216 = true then some (xs, ρ1) else none
@[simp] def fAsL (f : LF) : EF := fun ρ => bnd (f ρ) fun xs ρ1 => some (.list xs, ρ1)
@[simp] def fVal (f : EF) : En → Option (Rf × En) := fun ρ => bnd (f ρ) fun x ρ1 => some (.val x, ρ1)
theorem bnd_some {α β : Type} {x : Option (α × En)} {k : α → En → Option β} {b : β} (h : bnd x k = some b) : ∃ a ρ, x = some (a, ρ) ∧ k a ρ = some b := by
  unfold bnd at h
  split at h
  · cases h
  · exact ⟨_, _, rfl, h⟩
theorem ret_some {α : Type} {ρ ρ' : En} {o : Option α} {a : α} (h : ret ρ o = some (a, ρ')) : o = some a ∧ ρ = ρ' := by
  unfold ret at h
  split at h
  · cases h
  · cases h
    exact ⟨rfl, rfl⟩
theorem ble_line {n : Nat} (h : Nat.ble n 16777216 = true) : n ≤ sizeLine := by
  rw [sizeLine_eq]
  exact Nat.le_of_ble_eq_true h

section
variable {X : Cx} {e a b : Expr} {es : List Expr} {pos : Pos} {f g : EF} {c : BF} {l : LF}

theorem FE.rd (h : FE X e f) : FR X e (fVal f) := by
  obtain ⟨t, p, q⟩ := h
  refine ⟨t, p, fun ρ d ρ' h A F G H σ Q R k => ?_⟩
  obtain ⟨x, ρ1, h1, h2⟩ := bnd_some h
  cases h2
  exact q ρ x _ h1 A F G H σ Q R fun x G' H' s r z => k x G' H' s r z
/-- a new list is handed on: it stays -/
theorem FL.fe (h : FL X e l) : FE X e (fAsL l) := by
  obtain ⟨t, p, q⟩ := h
  refine ⟨t, p, fun ρ d ρ' h A F G H σ Q R k => ?_⟩
  obtain ⟨xs, ρ1, h1, h2⟩ := bnd_some h
  cases h2
  refine q ρ _ _ h1 A F G H σ Q R fun a xs G' H' fa s r z _ => ?_
  have g0 : G' a = none := r.fg a _ upd_same
  exact k _ _ H' (s.trans (same_new g0)) (r.keepF fa) (.lst upd_same (z.up (same_new g0)))
theorem fe_c {d : PyData} {v : V} (h : PE X e (tC v)) (hd : ∀ H, Dq X.K H v d) : FE X e (fC d) := by
  refine ⟨_, h, fun ρ d ρ' h A F G H σ Q R k => ?_⟩
  cases h
  exact k v G H (Same.refl G) R (hd G)
theorem fe_int {i : Int} {j} : FE X (.Constant (.int i) j pos) (fC (.int i)) := fe_c pe_int fun _ => .int i
theorem fe_bl {b : Bool} {j} : FE X (.Constant (.bool b) j pos) (fC (.bool b)) := fe_c pe_bl fun _ => .bl b
theorem fe_non {j} : FE X (.Constant .none j pos) (fC .none) := fe_c pe_non fun _ => .non
theorem fe_str {x : Str} {j} : FE X (.Constant (.str x) j pos) (fC (.str x)) := fe_c pe_str fun _ => .str x
theorem fe_v (i : Nat) (h : PE X e (tVar i)) : FE X e (fVar i) := by
  refine ⟨_, h, fun ρ d ρ' h A F G H σ Q R k => ?_⟩
  unfold fVar at h
  split at h
  · rename_i d' e
    cases h
    obtain ⟨v, h1, h2⟩ := R.at e
    exact ⟨v, h1, k v G H (Same.refl G) R h2⟩
  · cases h
theorem fr_v (i : Nat) (h : PE X e (tVar i)) : FR X e (fRd i) := by
  refine ⟨_, h, fun ρ d ρ' h A F G H σ Q R k => ?_⟩
  unfold fRd at h
  split at h
  · rename_i d' e
    cases h
    have : ∃ v, σ[i]? = some (some v) := by
      unfold rdS at e
      split at e
      · rename_i q
        obtain ⟨v, h1, _⟩ := R.at q
        exact ⟨v, h1⟩
      · rename_i q
        obtain ⟨a, xs, h1, _⟩ := R.atOwn q
        exact ⟨_, h1⟩
      · cases e
    obtain ⟨v, h1⟩ := this
    exact ⟨v, h1, k v G H (Same.refl G) R h1⟩
  · cases h

/-! ### operators -/
def OpF (K : PySem.W.Frag) (r : R2) (o : PyData → PyData → Option PyData) : Prop := ∀ x y d e c, o d e = some c → ∀ A F G H ρ σ Q, Rel K A F G H ρ σ → Dq K G x d → Dq K G y e →
  (∀ z G' H', Same G G' → Rel K A F G' H' ρ σ → Dq K G' z c → Q z H') → r x y H Q
def oOr (o o' : PyData → PyData → Option PyData) : PyData → PyData → Option PyData := fun d e => match o d e with
  | some c => some c
  | none => o' d e
theorem OpF.or {K : PySem.W.Frag} {r r' : R2} {o o' : PyData → PyData → Option PyData} (h : OpF K r o) (h' : OpF K r' o') : OpF K (fun x y H Q => r x y H Q ∨ r' x y H Q) (oOr o o') := by
  intro x y d e c q A F G H ρ σ Q R hx hy k
  unfold oOr at q
  split at q
  · cases q
    rename_i q
    exact Or.inl (h x y d e _ q A F G H ρ σ Q R hx hy k)
  · exact Or.inr (h' x y d e c q A F G H ρ σ Q R hx hy k)
theorem two {ta tb : TE} {r : R2} {o : PyData → PyData → Option PyData} (ho : OpF X.K r o)
    (ha : ∀ ρ d ρ', f ρ = some (d, ρ') → ∀ A F G H σ Q, Rel X.K A F G H ρ σ → (∀ x G' H', Same G G' → Rel X.K A F G' H' ρ' σ → Dq X.K G' x d → Q x H') → ta σ H Q)
    (hb : ∀ ρ d ρ', g ρ = some (d, ρ') → ∀ A F G H σ Q, Rel X.K A F G H ρ σ → (∀ x G' H', Same G G' → Rel X.K A F G' H' ρ' σ → Dq X.K G' x d → Q x H') → tb σ H Q) :
    ∀ ρ d ρ', fOp o f g ρ = some (d, ρ') → ∀ A F G H σ Q, Rel X.K A F G H ρ σ → (∀ x G' H', Same G G' → Rel X.K A F G' H' ρ' σ → Dq X.K G' x d → Q x H') → tOp r ta tb σ H Q := by
  intro ρ d ρ' h A F G H σ Q R k
  obtain ⟨x, ρ1, h1, h2⟩ := bnd_some h
  obtain ⟨y, ρ2, h3, h4⟩ := bnd_some h2
  obtain ⟨h5, rfl⟩ := ret_some h4
  refine ha ρ x ρ1 h1 A F G H σ _ R fun u G1 H1 s1 R1 d1 => ?_
  refine hb ρ1 y _ h3 A F G1 H1 σ _ R1 fun v G2 H2 s2 R2 d2 => ?_
  exact ho u v x y d h5 A F G2 H2 _ σ Q R2 (d1.up s2) d2 fun z G3 H3 s3 R3 d3 => k z G3 H3 ((s1.trans s2).trans s3) R3 d3
theorem fe_op {op : Operator} {r : R2} {o : PyData → PyData → Option PyData} (ho : OpR X (binaryOp op) r) (hf : OpF X.K r o) (ha : FE X a f) (hb : FE X b g) : FE X (.BinOp a op b pos) (fOp o f g) := by
  obtain ⟨ta, pa, qa⟩ := ha
  obtain ⟨tb, pb, qb⟩ := hb
  exact ⟨_, pe_op ho pa pb, two hf qa qb⟩
theorem fe_cmp {op : CmpOp} {r : R2} {o : PyData → PyData → Option PyData} (ho : OpR X (compareOp op) r) (hf : OpF X.K r o) (ha : FE X a f) (hb : FE X b g) (hm : behindInMarks op b = false) : FE X (.Compare a [op] [b] pos) (fOp o f g) := by
  obtain ⟨ta, pa, qa⟩ := ha
  obtain ⟨tb, pb, qb⟩ := hb
  exact ⟨_, pe_cmpR ho pa pb hm, two hf qa qb⟩
theorem tst {t : TE} (ha : ∀ ρ d ρ', f ρ = some (d, ρ') → ∀ A F G H σ Q, Rel X.K A F G H ρ σ → (∀ x G' H', Same G G' → Rel X.K A F G' H' ρ' σ → Dq X.K G' x d → Q x H') → t σ H Q) :
    ∀ ρ d ρ', fTst f ρ = some (d, ρ') → ∀ A F G H σ Q, Rel X.K A F G H ρ σ → (∀ G' H', Same G G' → Rel X.K A F G' H' ρ' σ → Q d H') → tTest t σ H Q := by
  intro ρ d ρ' h A F G H σ Q R k
  obtain ⟨x, ρ1, h1, h2⟩ := bnd_some h
  split at h2
  · cases h2
    refine ha ρ _ _ h1 A F G H σ _ R fun x G' H' s r z => ?_
    cases z
    exact ⟨_, rfl, k G' H' s r⟩
  · cases h2
theorem ft_cmp {op : CmpOp} {r : R2} {o : PyData → PyData → Option PyData} (ho : OpR X (compareOp op) r) (hf : OpF X.K r o) (ha : FE X a f) (hb : FE X b g) (hm : behindInMarks op b = false) : FT X (.Compare a [op] [b] pos) (fTst (fOp o f g)) := by
  obtain ⟨ta, pa, qa⟩ := ha
  obtain ⟨tb, pb, qb⟩ := hb
  exact ⟨_, pt_cmpR ho pa pb hm, tst (two hf qa qb)⟩
/-- a bool's value as a test -/
theorem ft_val (h : FE X e f) (he : ∀ whole, isTrue e X.env whole = (do let v ← whole; standAt e.pos; holding [v] (truthy v)) := by intro _; rfl) : FT X e (fTst f) := by
  obtain ⟨t, p, q⟩ := h
  refine ⟨_, pt_val p he, fun ρ d ρ' h A F G H σ Q R k => ?_⟩
  exact tst q ρ d ρ' h A F G H σ Q R k
theorem ft_not (h : FT X a c) : FT X (.UnaryOp .Not a pos) (fNot c) := by
  obtain ⟨t, p, q⟩ := h
  refine ⟨_, pt_not p, fun ρ d ρ' h A F G H σ Q R k => ?_⟩
  obtain ⟨x, ρ1, h1, h2⟩ := bnd_some h
  cases h2
  exact q ρ x _ h1 A F G H σ _ R fun G' H' s r => k G' H' s r
def FW (X : Cx) (e : Expr) (f : BF) : Prop := ∃ t, PW X e t ∧ ∀ ρ d ρ', f ρ = some (d, ρ') → ∀ A F G H σ Q, Rel X.K A F G H ρ σ →
  (∀ G' H', Same G G' → Rel X.K A F G' H' ρ' σ → Q d H') → t σ H Q
theorem FW.ft (h : FW X e c) : FT X e c := by
  obtain ⟨t, p, q⟩ := h
  exact ⟨t, p.pt, q⟩
variable {c1 c2 : BF} {rest : List Expr}
theorem fw_and1 (h : FT X a c) : FW X (.BoolOp .And [a] pos) c := by
  obtain ⟨t, p, q⟩ := h
  exact ⟨t, pw_and1 p, q⟩
theorem fw_or1 (h : FT X a c) : FW X (.BoolOp .Or [a] pos) c := by
  obtain ⟨t, p, q⟩ := h
  exact ⟨t, pw_or1 p, q⟩
theorem fw_and (h1 : FT X a c1) (h2 : FW X (.BoolOp .And (b :: rest) pos) c2) : FW X (.BoolOp .And (a :: b :: rest) pos) (fAnd c1 c2) := by
  obtain ⟨t, p, q⟩ := h1
  obtain ⟨t2, p2, q2⟩ := h2
  refine ⟨_, pw_and p p2, fun ρ d ρ' h A F G H σ Q R k => ?_⟩
  obtain ⟨x, ρ1, h3, h4⟩ := bnd_some h
  refine q ρ x _ h3 A F G H σ _ R fun G' H' s r => ?_
  cases x with
  | true => exact q2 _ _ _ h4 A F G' H' σ _ r fun G2 H2 s2 r2 => k G2 H2 (s.trans s2) r2
  | false =>
    cases h4
    exact k G' H' s r
theorem fw_or (h1 : FT X a c1) (h2 : FW X (.BoolOp .Or (b :: rest) pos) c2) : FW X (.BoolOp .Or (a :: b :: rest) pos) (fOr c1 c2) := by
  obtain ⟨t, p, q⟩ := h1
  obtain ⟨t2, p2, q2⟩ := h2
  refine ⟨_, pw_or p p2, fun ρ d ρ' h A F G H σ Q R k => ?_⟩
  obtain ⟨x, ρ1, h3, h4⟩ := bnd_some h
  refine q ρ x _ h3 A F G H σ _ R fun G' H' s r => ?_
  cases x with
  | true =>
    cases h4
    exact k G' H' s r
  | false => exact q2 _ _ _ h4 A F G' H' σ _ r fun G2 H2 s2 r2 => k G2 H2 (s.trans s2) r2
theorem fe_ifExp (hc : FT X e c) (ha : FE X a f) (hb : FE X b g) : FE X (.IfExp e a b pos) (fIf c f g) := by
  obtain ⟨t, p, q⟩ := hc
  obtain ⟨ta, pa, qa⟩ := ha
  obtain ⟨tb, pb, qb⟩ := hb
  refine ⟨_, pe_ifExp p pa pb, fun ρ d ρ' h A F G H σ Q R k => ?_⟩
  obtain ⟨x, ρ1, h3, h4⟩ := bnd_some h
  refine q ρ x _ h3 A F G H σ _ R fun G' H' s r => ?_
  cases x with
  | true => exact qa _ _ _ h4 A F G' H' σ _ r fun x G2 H2 s2 r2 => k x G2 H2 (s.trans s2) r2
  | false => exact qb _ _ _ h4 A F G' H' σ _ r fun x G2 H2 s2 r2 => k x G2 H2 (s.trans s2) r2

/-! ### values of bools: and, or, not -/
@[simp] def fAndV (f g : EF) : EF := fun ρ => bnd (f ρ) fun x ρ1 => match x with
  | .bool true => bnd (g ρ1) fun y ρ2 => match y with
    | .bool b => some (.bool b, ρ2)
    | _ => none
  | .bool false => some (.bool false, ρ1)
  | _ => none
@[simp] def fOrV (f g : EF) : EF := fun ρ => bnd (f ρ) fun x ρ1 => match x with
  | .bool true => some (.bool true, ρ1)
  | .bool false => bnd (g ρ1) fun y ρ2 => match y with
    | .bool b => some (.bool b, ρ2)
    | _ => none
  | _ => none
@[simp] def fNotV (f : EF) : EF := fun ρ => bnd (f ρ) fun x ρ1 => match x with
  | .bool b => some (.bool (!b), ρ1)
  | _ => none
theorem fe_one {op : BoolOp} (h : FE X a f) : FE X (.BoolOp op [a] pos) f := by
  obtain ⟨t, p, q⟩ := h
  exact ⟨t, pe_one p, q⟩
theorem fe_and (h1 : FE X a f) (h2 : FE X (.BoolOp .And (b :: rest) pos) g) : FE X (.BoolOp .And (a :: b :: rest) pos) (fAndV f g) := by
  obtain ⟨t, p, q⟩ := h1
  obtain ⟨t2, p2, q2⟩ := h2
  refine ⟨_, pe_and p p2, fun ρ d ρ' h A F G H σ Q R k => ?_⟩
  obtain ⟨x, ρ1, h3, h4⟩ := bnd_some h
  refine q ρ x _ h3 A F G H σ _ R fun y G' H' s r z => ?_
  split at h4
  · obtain ⟨u, ρ2, h5, h6⟩ := bnd_some h4
    cases z
    refine ⟨true, rfl, ?_⟩
    split at h6
    · cases h6
      exact q2 _ _ _ h5 A F G' H' σ _ r fun x G2 H2 s2 r2 => k x G2 H2 (s.trans s2) r2
    · cases h6
  · cases h4
    cases z
    exact ⟨false, rfl, k _ G' H' s r (.bl false)⟩
  · cases h4
theorem fe_or (h1 : FE X a f) (h2 : FE X (.BoolOp .Or (b :: rest) pos) g) : FE X (.BoolOp .Or (a :: b :: rest) pos) (fOrV f g) := by
  obtain ⟨t, p, q⟩ := h1
  obtain ⟨t2, p2, q2⟩ := h2
  refine ⟨_, pe_or p p2, fun ρ d ρ' h A F G H σ Q R k => ?_⟩
  obtain ⟨x, ρ1, h3, h4⟩ := bnd_some h
  refine q ρ x _ h3 A F G H σ _ R fun y G' H' s r z => ?_
  split at h4
  · cases h4
    cases z
    exact ⟨true, rfl, k _ G' H' s r (.bl true)⟩
  · obtain ⟨u, ρ2, h5, h6⟩ := bnd_some h4
    cases z
    refine ⟨false, rfl, ?_⟩
    split at h6
    · cases h6
      exact q2 _ _ _ h5 A F G' H' σ _ r fun x G2 H2 s2 r2 => k x G2 H2 (s.trans s2) r2
    · cases h6
  · cases h4
theorem fe_not (h1 : FE X a f) : FE X (.UnaryOp .Not a pos) (fNotV f) := by
  obtain ⟨t, p, q⟩ := h1
  refine ⟨_, pe_not p, fun ρ d ρ' h A F G H σ Q R k => ?_⟩
  obtain ⟨x, ρ1, h3, h4⟩ := bnd_some h
  refine q ρ x _ h3 A F G H σ _ R fun y G' H' s r z => ?_
  split at h4
  · cases h4
    cases z
    exact ⟨_, rfl, k _ G' H' s r (.bl _)⟩
  · cases h4

/-! ### argument lists, displays -/
theorem fa_nil : FA X [] fNil := by
  refine ⟨_, pa_nil, fun ρ d ρ' h A F G H σ Q R k => ?_⟩
  cases h
  exact k _ G H (Same.refl G) R .nil
theorem fa_cons (h1 : FE X e f) (h2 : FA X es l) (hs : starEach (e :: es) X.env = (false, eval e X.env) :: starEach es X.env := by rfl) : FA X (e :: es) (fCons f l) := by
  obtain ⟨t, p, q⟩ := h1
  obtain ⟨t2, p2, q2⟩ := h2
  refine ⟨_, pa_cons p p2 hs, fun ρ d ρ' h A F G H σ Q R k => ?_⟩
  obtain ⟨x, ρ1, h3, h4⟩ := bnd_some h
  obtain ⟨xs, ρ2, h5, h6⟩ := bnd_some h4
  cases h6
  refine q ρ x _ h3 A F G H σ _ R fun y G' H' s r z => ?_
  exact q2 _ _ _ h5 A F G' H' σ _ r fun ys G2 H2 s2 r2 z2 => k _ G2 H2 (s.trans s2) r2 (.cons (z.up s2) z2)
theorem fe_tup {x1} (h : FA X es l) : FE X (.Tuple es x1 pos) (fTup l) := by
  obtain ⟨t, p, q⟩ := h
  refine ⟨_, pe_tup p, fun ρ d ρ' h A F G H σ Q R k => ?_⟩
  obtain ⟨xs, ρ1, h3, h4⟩ := bnd_some h
  split at h4
  · rename_i hz
    cases h4
    refine q ρ xs _ h3 A F G H σ _ R fun ys G' H' s r z => ⟨?_, fun p hp => ?_⟩
    · rw [z.len]
      exact ble_line hz
    · have g0 := none_of r.gh hp
      exact k _ _ _ (s.trans (same_new g0)) (r.new hp) (.tup (Or.inl (Or.inl upd_same)) (z.up (same_new g0)))
  · cases h4
theorem fl_lst (h : FA X es l) : FL X (.List es pos) (fLst l) := by
  obtain ⟨t, p, q⟩ := h
  refine ⟨_, pe_lst p, fun ρ d ρ' h A F G H σ Q R k => ?_⟩
  obtain ⟨xs, ρ1, h3, h4⟩ := bnd_some h
  split at h4
  · rename_i hz
    cases h4
    have hz' := ble_line hz
    refine q ρ _ _ h3 A F G H σ _ R fun ys G' H' s r z => ⟨by rw [z.len]; exact hz', fun p hp => ?_⟩
    exact k p ys G' _ (none_of r.fh hp) s (r.newF hp) z (by rw [z.len]; exact hz')
  · cases h4
end
end Fe
namespace Fe
open PySem PySem.Spec PyProof.Rows L2

/-! ## values: operators -/
@[simp] def oI (f : Int → Int → PyData) : PyData → PyData → Option PyData
  | .int i, .int j => some (f i j)
  | _, _ => none
@[simp] def oIc (c : Int → Int → Bool) (f : Int → Int → PyData) : PyData → PyData → Option PyData
  | .int i, .int j => if c i j = true then some (f i j) else none
  | _, _ => none
section
variable {K : PySem.W.Frag}
theorem of_I0 {g : Int → Int → V} {f : Int → Int → PyData} (h : ∀ i j H, Dq K H (g i j) (f i j)) : OpF K (rI0 g) (oI f) := by
  intro x y d e c q A F G H ρ σ Q R hx hy k
  unfold oI at q
  split at q
  · cases q
    cases hx
    cases hy
    exact ⟨_, _, rfl, rfl, k _ G H (Same.refl G) R (h _ _ _)⟩
  · cases q
theorem of_I {C : Int → Int → Prop} {cb : Int → Int → Bool} {g : Int → Int → V} {f : Int → Int → PyData} (hc : ∀ i j, cb i j = true → C i j) (h : ∀ i j H, Dq K H (g i j) (f i j)) : OpF K (rI C g) (oIc cb f) := by
  intro x y d e c q A F G H ρ σ Q R hx hy k
  unfold oIc at q
  split at q
  · split at q
    · rename_i hcc
      cases q
      cases hx
      cases hy
      exact ⟨_, _, rfl, rfl, hc _ _ hcc, k _ G H (Same.refl G) R (h _ _ _)⟩
    · cases q
  · cases q
end
abbrev oAdd := oI fun i j => .int (i + j)
abbrev oSub := oI fun i j => .int (i - j)
abbrev oLt := oI fun i j => .bool (decide (i < j))
abbrev oLe := oI fun i j => .bool (decide (i ≤ j))
abbrev oGt := oI fun i j => .bool (decide (j < i))
abbrev oGe := oI fun i j => .bool (decide (j ≤ i))
def mulOk (i j : Int) : Bool := Nat.blt (i.natAbs.log2 + j.natAbs.log2) 1000000
def divOk (j : Int) : Bool := decide (0 < j) && Nat.blt j.natAbs.log2 9000
def modOk (j : Int) : Bool := decide (0 < j)
abbrev oMul := oIc mulOk fun i j => .int (i * j)
abbrev oDiv := oIc (fun _ j => divOk j) fun i j => .int (i / j)
abbrev oMod := oIc (fun _ j => modOk j) fun i j => .int (i % j)
section
variable {X : Cx} {e a b : Expr} {pos : Pos} {f g : EF}
theorem fe_add (ha : FE X a f) (hb : FE X b g) : FE X (.BinOp a .Add b pos) (fOp oAdd f g) := fe_op op_add (of_I0 fun i j _ => .int _) ha hb
theorem fe_sub (ha : FE X a f) (hb : FE X b g) : FE X (.BinOp a .Sub b pos) (fOp oSub f g) := fe_op op_sub (of_I0 fun i j _ => .int _) ha hb
theorem fe_mul (ha : FE X a f) (hb : FE X b g) : FE X (.BinOp a .Mult b pos) (fOp oMul f g) := fe_op op_mulW (of_I (fun i j h => Nat.le_of_ble_eq_true h) fun i j _ => .int _) ha hb
theorem fe_fdiv (ha : FE X a f) (hb : FE X b g) : FE X (.BinOp a .FloorDiv b pos) (fOp oDiv f g) := fe_op op_fdivW (of_I (fun i j h => by
  have h' := Bool.and_eq_true_iff.mp h
  exact ⟨of_decide_eq_true h'.1, Nat.le_of_ble_eq_true h'.2⟩) fun i j _ => .int _) ha hb
theorem fe_mod (ha : FE X a f) (hb : FE X b g) : FE X (.BinOp a .Mod b pos) (fOp oMod f g) := fe_op op_mod (of_I (fun i j h => of_decide_eq_true h) fun i j _ => .int _) ha hb
theorem fe_lt (ha : FE X a f) (hb : FE X b g) : FE X (.Compare a [.Lt] [b] pos) (fOp oLt f g) := fe_cmp op_lt (of_I0 fun i j _ => .bl _) ha hb (nobehind _ (by decide) (by decide))
theorem fe_le (ha : FE X a f) (hb : FE X b g) : FE X (.Compare a [.LtE] [b] pos) (fOp oLe f g) := fe_cmp op_le (of_I0 fun i j _ => .bl _) ha hb (nobehind _ (by decide) (by decide))
theorem fe_gt (ha : FE X a f) (hb : FE X b g) : FE X (.Compare a [.Gt] [b] pos) (fOp oGt f g) := fe_cmp op_gt (of_I0 fun i j _ => .bl _) ha hb (nobehind _ (by decide) (by decide))
theorem fe_ge (ha : FE X a f) (hb : FE X b g) : FE X (.Compare a [.GtE] [b] pos) (fOp oGe f g) := fe_cmp op_ge (of_I0 fun i j _ => .bl _) ha hb (nobehind _ (by decide) (by decide))
theorem ft_lt (ha : FE X a f) (hb : FE X b g) : FT X (.Compare a [.Lt] [b] pos) (fTst (fOp oLt f g)) := ft_cmp op_lt (of_I0 fun i j _ => .bl _) ha hb (nobehind _ (by decide) (by decide))
theorem ft_le (ha : FE X a f) (hb : FE X b g) : FT X (.Compare a [.LtE] [b] pos) (fTst (fOp oLe f g)) := ft_cmp op_le (of_I0 fun i j _ => .bl _) ha hb (nobehind _ (by decide) (by decide))
theorem ft_gt (ha : FE X a f) (hb : FE X b g) : FT X (.Compare a [.Gt] [b] pos) (fTst (fOp oGt f g)) := ft_cmp op_gt (of_I0 fun i j _ => .bl _) ha hb (nobehind _ (by decide) (by decide))
theorem ft_ge (ha : FE X a f) (hb : FE X b g) : FT X (.Compare a [.GtE] [b] pos) (fTst (fOp oGe f g)) := ft_cmp op_ge (of_I0 fun i j _ => .bl _) ha hb (nobehind _ (by decide) (by decide))
@[simp] def oNeg : PyData → Option PyData
  | .int i => some (.int (-i))
  | _ => none
theorem fe_neg (ha : FE X a f) : FE X (.UnaryOp .USub a pos) (fUn oNeg f) := by
  obtain ⟨t, p, q⟩ := ha
  refine ⟨_, pe_un un_neg p, fun ρ d ρ' h A F G H σ Q R k => ?_⟩
  obtain ⟨x, ρ1, h1, h2⟩ := bnd_some h
  obtain ⟨h3, rfl⟩ := ret_some h2
  refine q ρ x _ h1 A F G H σ _ R fun y G' H' s r z => ?_
  unfold oNeg at h3
  split at h3
  · cases h3
    cases z
    exact ⟨_, rfl, k _ G' H' s r (.int _)⟩
  · cases h3
/-! ### == and != -/
def oEq (d e : PyData) : Option PyData := if (SeqAt.shaped d && SeqAt.shaped e) = true then some (.bool (PyData.eqv d e)) else none
def oNe (d e : PyData) : Option PyData := if (SeqAt.shaped d && SeqAt.shaped e) = true then some (.bool (!PyData.eqv d e)) else none
theorem of_eq {K : PySem.W.Frag} : OpF K (rEqD K) oEq := by
  intro x y d e c q A F G H ρ σ Q R hx hy k
  unfold oEq at q
  split at q
  · rename_i hs
    cases q
    have hs' := Bool.and_eq_true_iff.mp hs
    exact ⟨d, e, (hx.up R.gh).dp, (hy.up R.gh).dp, hs'.1, hs'.2, k _ G H (Same.refl G) R (.bl _)⟩
  · cases q
theorem of_ne {K : PySem.W.Frag} : OpF K (rNeD K) oNe := by
  intro x y d e c q A F G H ρ σ Q R hx hy k
  unfold oNe at q
  split at q
  · rename_i hs
    cases q
    have hs' := Bool.and_eq_true_iff.mp hs
    exact ⟨d, e, (hx.up R.gh).dp, (hy.up R.gh).dp, hs'.1, hs'.2, k _ G H (Same.refl G) R (.bl _)⟩
  · cases q
theorem fe_eq (hu : X.A.units + 64 < cLine) (ha : FE X a f) (hb : FE X b g) : FE X (.Compare a [.Eq] [b] pos) (fOp oEq f g) := fe_cmp (op_eqD hu) of_eq ha hb (nobehind _ (by decide) (by decide))
theorem fe_ne (hu : X.A.units + 64 < cLine) (ha : FE X a f) (hb : FE X b g) : FE X (.Compare a [.NotEq] [b] pos) (fOp oNe f g) := fe_cmp (op_neD hu) of_ne ha hb (nobehind _ (by decide) (by decide))
theorem ft_eq (hu : X.A.units + 64 < cLine) (ha : FE X a f) (hb : FE X b g) : FT X (.Compare a [.Eq] [b] pos) (fTst (fOp oEq f g)) := ft_cmp (op_eqD hu) of_eq ha hb (nobehind _ (by decide) (by decide))
theorem ft_ne (hu : X.A.units + 64 < cLine) (ha : FE X a f) (hb : FE X b g) : FT X (.Compare a [.NotEq] [b] pos) (fTst (fOp oNe f g)) := ft_cmp (op_neD hu) of_ne ha hb (nobehind _ (by decide) (by decide))
/-! ### is None -/
@[simp] def oIsN : PyData → Option PyData
  | .none => some (.bool true)
  | _ => some (.bool false)
@[simp] def oNotN : PyData → Option PyData
  | .none => some (.bool false)
  | _ => some (.bool true)
theorem fe_isN {j pos'} (ha : FE X a f) : FE X (.Compare a [.Is] [.Constant .none j pos'] pos) (fUn oIsN f) := by
  obtain ⟨t, p, q⟩ := ha
  refine ⟨_, pe_cmp (pc_isN p), fun ρ d ρ' h A F G H σ Q R k => ?_⟩
  obtain ⟨x, ρ1, h1, h2⟩ := bnd_some h
  obtain ⟨h3, rfl⟩ := ret_some h2
  refine q ρ x _ h1 A F G H σ _ R fun y G' H' s r z => ?_
  cases z <;> (cases h3; exact k _ G' H' s r (.bl _))
theorem fe_notN {j pos'} (ha : FE X a f) : FE X (.Compare a [.IsNot] [.Constant .none j pos'] pos) (fUn oNotN f) := by
  obtain ⟨t, p, q⟩ := ha
  refine ⟨_, pe_cmp (pc_notN p), fun ρ d ρ' h A F G H σ Q R k => ?_⟩
  obtain ⟨x, ρ1, h1, h2⟩ := bnd_some h
  obtain ⟨h3, rfl⟩ := ret_some h2
  refine q ρ x _ h1 A F G H σ _ R fun y G' H' s r z => ?_
  cases z <;> (cases h3; exact k _ G' H' s r (.bl _))
theorem ft_isN {j pos'} (ha : FE X a f) : FT X (.Compare a [.Is] [.Constant .none j pos'] pos) (fTst (fUn oIsN f)) := by
  obtain ⟨t, p, q⟩ := ha
  refine ⟨_, pt_cmp (pc_isN p), tst fun ρ d ρ' h A F G H σ Q R k => ?_⟩
  obtain ⟨x, ρ1, h1, h2⟩ := bnd_some h
  obtain ⟨h3, rfl⟩ := ret_some h2
  refine q ρ x _ h1 A F G H σ _ R fun y G' H' s r z => ?_
  cases z <;> (cases h3; exact k _ G' H' s r (.bl _))
theorem ft_notN {j pos'} (ha : FE X a f) : FT X (.Compare a [.IsNot] [.Constant .none j pos'] pos) (fTst (fUn oNotN f)) := by
  obtain ⟨t, p, q⟩ := ha
  refine ⟨_, pt_cmp (pc_notN p), tst fun ρ d ρ' h A F G H σ Q R k => ?_⟩
  obtain ⟨x, ρ1, h1, h2⟩ := bnd_some h
  obtain ⟨h3, rfl⟩ := ret_some h2
  refine q ρ x _ h1 A F G H σ _ R fun y G' H' s r z => ?_
  cases z <;> (cases h3; exact k _ G' H' s r (.bl _))

/-! ### items -/
/-- the place of an index -/
def ixD (ds : List PyData) (i : Int) : Option PyData := match i with
  | .ofNat n => ds[n]?
  | .negSucc n => if Nat.blt n ds.length = true then ds[ds.length - (n + 1)]? else none
theorem ixD_at {K : PySem.W.Frag} {H : Hp} {vs : List V} {ds : List PyData} {i : Int} {d : PyData} (h : DqA K H vs ds) (k : ixD ds i = some d) : ∃ v, atI vs i = some v ∧ Dq K H v d := by
  have hl := h.len
  unfold ixD at k
  split at k
  · rename_i n
    obtain ⟨v, h1, h2⟩ := h.get k
    refine ⟨v, ?_, h2⟩
    have hn : n < vs.length := (List.getElem?_eq_some_iff.mp h1).1
    unfold atI ixN
    rw [if_pos (show (0 : Int) ≤ Int.ofNat n from Int.natCast_nonneg n), if_pos (show Int.ofNat n < (vs.length : Int) from Int.ofNat_lt.mpr hn)]
    exact h1
  · rename_i n
    split at k
    · rename_i hn
      have hn : n + 1 ≤ ds.length := Nat.le_of_ble_eq_true hn
      obtain ⟨v, h1, h2⟩ := h.get k
      refine ⟨v, ?_, h2⟩
      unfold atI ixN
      rw [if_neg (by omega), if_pos (by omega)]
      have e : (Int.negSucc n + (vs.length : Int)).toNat = ds.length - (n + 1) := by omega
      show (some (Int.negSucc n + (vs.length : Int)).toNat).bind (fun j => vs[j]?) = some v
      rw [e]
      exact h1
    · cases k
@[simp] def oIx : PyData → PyData → Option PyData
  | .list ds, .int i => ixD ds i
  | .tuple ds, .int i => ixD ds i
  | _, _ => none
@[simp] def fIx (f : En → Option (Rf × En)) (g : EF) : EF := fun ρ => bnd (f ρ) fun r ρ1 => bnd (g ρ1) fun y ρ2 => match r.get ρ2 with
  | some x => ret ρ2 (oIx x y)
  | none => none
theorem Dr.sq {K : PySem.W.Frag} {G H : Hp} {x : V} {ds : List PyData} (g : Same G H) (h : Dr K G H x (.list ds)) : ∃ a xs, x = .ref a ∧ H a = some (.lst xs) ∧ DqA K G xs ds := by
  rcases h with h | ⟨a, xs, es, e1, e2, h1, h2⟩
  · cases h with | lst q r => exact ⟨_, _, rfl, g _ _ q, r⟩
  · cases e2
    exact ⟨a, xs, e1, h1, h2⟩
theorem Dr.st {K : PySem.W.Frag} {G H : Hp} {x : V} {ds : List PyData} (g : Same G H) (h : Dr K G H x (.tuple ds)) : ∃ a xs, x = .ref a ∧ SqT K H a xs ∧ DqA K G xs ds := by
  rcases h with h | ⟨a, xs, es, e1, e2, h1, h2⟩
  · cases h with | tup q r => exact ⟨_, _, rfl, sqT_up g q, r⟩
  · cases e2
theorem fe_ix {r : En → Option (Rf × En)} (ha : FR X a r) (hb : FE X b g) (hs : PlainIx b := by exact fun _ _ => rfl) : FE X (.Subscript a b pos) (fIx r g) := by
  obtain ⟨ta, pa, qa⟩ := ha
  obtain ⟨tb, pb, qb⟩ := hb
  refine ⟨_, pe_ix ix_seq pa pb hs, fun ρ d ρ' h A F G H σ Q R k => ?_⟩
  obtain ⟨u, ρ1, h1, h2⟩ := bnd_some h
  obtain ⟨y, ρ2, h3, h4⟩ := bnd_some h2
  refine qa ρ u ρ1 h1 A F G H σ _ R fun x G1 H1 s1 R1 z1 => ?_
  refine qb ρ1 y ρ2 h3 A F G1 H1 σ _ R1 fun w G2 H2 s2 R2 z2 => ?_
  split at h4
  · rename_i dx hx
    obtain ⟨h5, rfl⟩ := ret_some h4
    have z3 := (z1.up s2).dr R2 hx
    unfold oIx at h5
    split at h5
    · cases z2
      obtain ⟨p, xs, e1, q1, q2⟩ := z3.sq R2.gh
      obtain ⟨v, q3, q4⟩ := ixD_at q2 h5
      exact Or.inl ⟨p, xs, _, v, e1, rfl, Or.inl (Or.inl q1), q3, k v G2 H2 (s1.trans s2) R2 q4⟩
    · cases z2
      obtain ⟨p, xs, e1, q1, q2⟩ := z3.st R2.gh
      obtain ⟨v, q3, q4⟩ := ixD_at q2 h5
      exact Or.inr (Or.inl ⟨p, xs, _, v, e1, rfl, q1, q3, k v G2 H2 (s1.trans s2) R2 q4⟩)
    · cases h5
  · cases h4

/-! ### built-ins of one value that is read -/
/-- what a built-in makes of a value -/
@[simp] def fR1 (o : PyData → Option PyData) (f : En → Option (Rf × En)) : EF := fun ρ => bnd (f ρ) fun r ρ1 => match r.get ρ1 with
  | some x => ret ρ1 (o x)
  | none => none
theorem fe_r1 {r : En → Option (Rf × En)} {cr : List V → Hp → VK → Prop} {o : PyData → Option PyData} {e' : Expr} (mk : ∀ t, PE X a t → PE X e' (tCB cr (tCons t tNil))) (ha : FR X a r)
    (hr : ∀ x d c, o d = some c → ∀ A F G H ρ σ Q, Rel X.K A F G H ρ σ → Dr X.K G H x d → (∀ z G' H', Same G G' → Rel X.K A F G' H' ρ σ → Dq X.K G' z c → Q z H') → cr [x] H Q) : FE X e' (fR1 o r) := by
  obtain ⟨ta, pa, qa⟩ := ha
  refine ⟨_, mk _ pa, fun ρ d ρ' h A F G H σ Q R k => ?_⟩
  obtain ⟨u, ρ1, h1, h2⟩ := bnd_some h
  refine qa ρ u ρ1 h1 A F G H σ _ R fun x G1 H1 s1 R1 z1 => ?_
  split at h2
  · rename_i dx hx
    obtain ⟨h5, rfl⟩ := ret_some h2
    exact hr x dx d h5 A F G1 H1 _ σ Q R1 (z1.dr R1 hx) fun z G' H' s r w => k z G' H' (s1.trans s) r w
  · cases h2
/-- .. a new list -/
@[simp] def fR1L (o : PyData → Option (List PyData)) (f : En → Option (Rf × En)) : LF := fun ρ => bnd (f ρ) fun r ρ1 => match r.get ρ1 with
  | some x => ret ρ1 (o x)
  | none => none
theorem fl_r1 {r : En → Option (Rf × En)} {cr : List V → Hp → VK → Prop} {o : PyData → Option (List PyData)} {e' : Expr} (mk : ∀ t, PE X a t → PE X e' (tCB cr (tCons t tNil))) (ha : FR X a r)
    (hr : ∀ x d c, o d = some c → ∀ A F G H ρ σ Q, Rel X.K A F G H ρ σ → Dr X.K G H x d →
      (∀ a xs G' H', F a = none → Same G G' → Rel X.K A (upd F a (.lst xs)) G' H' ρ σ → DqA X.K G' xs c → xs.length ≤ sizeLine → Q (.ref a) H') → cr [x] H Q) : FL X e' (fR1L o r) := by
  obtain ⟨ta, pa, qa⟩ := ha
  refine ⟨_, mk _ pa, fun ρ d ρ' h A F G H σ Q R k => ?_⟩
  obtain ⟨u, ρ1, h1, h2⟩ := bnd_some h
  refine qa ρ u ρ1 h1 A F G H σ _ R fun x G1 H1 s1 R1 z1 => ?_
  split at h2
  · rename_i dx hx
    obtain ⟨h5, rfl⟩ := ret_some h2
    exact hr x dx d h5 A F G1 H1 _ σ Q R1 (z1.dr R1 hx) fun a xs G' H' fa s r w hl => k a xs G' H' fa (s1.trans s) r w hl
  · cases h2
@[simp] def oLen : PyData → Option PyData
  | .list ds => some (.int ds.length)
  | .tuple ds => some (.int ds.length)
  | _ => none
variable {p : Pos} {r : En → Option (Rf × En)}
theorem fe_len (ha : FR X a r) (hg : Gl X "len") (hm : X.mg "len" = none) (hs : starEach (a :: []) X.env = (false, eval a X.env) :: starEach [] X.env := by rfl) : FE X (.Call (.Name "len" p) [a] [] pos) (fR1 oLen r) := by
  refine fe_r1 (fun t h => pe_callB call_len_seq hg hm PySem.boot_len (pa_cons h pa_nil hs) (he := hs)) ha fun x d c h A F G H ρ σ Q R z k => ?_
  unfold oLen at h
  split at h
  · cases h
    obtain ⟨q, xs, rfl, h1, h2⟩ := z.sq R.gh
    rw [← h2.len] at k
    exact ⟨q, xs, rfl, Or.inl (Or.inl (Or.inl h1)), k _ G H (Same.refl G) R (.int _)⟩
  · cases h
    obtain ⟨q, xs, rfl, h1, h2⟩ := z.st R.gh
    rw [← h2.len] at k
    exact ⟨q, xs, rfl, Or.inr h1, k _ G H (Same.refl G) R (.int _)⟩
  · cases h
/-- list(..) -/
@[simp] def oList : PyData → Option (List PyData)
  | .list ds => if Nat.ble ds.length 16777216 = true then some ds else none
  | .tuple ds => if Nat.ble ds.length 16777216 = true then some ds else none
  | _ => none
theorem fl_list (ha : FR X a r) (hg : Gl X "list") (hm : X.mg "list" = none) (hs : starEach (a :: []) X.env = (false, eval a X.env) :: starEach [] X.env := by rfl) : FL X (.Call (.Name "list" p) [a] [] pos) (fR1L oList r) := by
  refine fl_r1 (fun t h => pe_callTy call_list_of hg hm (by decide +kernel) (pa_cons h pa_nil hs) (he := hs)) ha fun x d c h A F G H ρ σ Q R z k => ?_
  unfold oList at h
  split at h
  · split at h
    · rename_i hz
      cases h
      obtain ⟨q, xs, rfl, h1, h2⟩ := z.sq R.gh
      exact ⟨q, xs, rfl, Or.inl (Or.inl (Or.inl h1)), fun l hl => k l xs G _ (none_of R.fh hl) (Same.refl G) (R.newF hl) h2 (by rw [h2.len]; exact ble_line hz)⟩
    · cases h
  · split at h
    · rename_i hz
      cases h
      obtain ⟨q, xs, rfl, h1, h2⟩ := z.st R.gh
      exact ⟨q, xs, rfl, Or.inr h1, fun l hl => k l xs G _ (none_of R.fh hl) (Same.refl G) (R.newF hl) h2 (by rw [h2.len]; exact ble_line hz)⟩
    · cases h
  · cases h
/-- tuple(..) -/
@[simp] def oTuple : PyData → Option PyData
  | .list ds => some (.tuple ds)
  | .tuple ds => some (.tuple ds)
  | _ => none
theorem fe_tuple (ha : FR X a r) (hg : Gl X "tuple") (hm : X.mg "tuple" = none) (hs : starEach (a :: []) X.env = (false, eval a X.env) :: starEach [] X.env := by rfl) : FE X (.Call (.Name "tuple" p) [a] [] pos) (fR1 oTuple r) := by
  refine fe_r1 (fun t h => pe_callTy call_tuple_of hg hm (by decide +kernel) (pa_cons h pa_nil hs) (he := hs)) ha fun x d c h A F G H ρ σ Q R z k => ?_
  unfold oTuple at h
  split at h
  · cases h
    obtain ⟨q, xs, rfl, h1, h2⟩ := z.sq R.gh
    exact ⟨q, xs, rfl, Or.inl ⟨Or.inl (Or.inl h1), fun l hl => k _ _ _ (same_new (none_of R.gh hl)) (R.new hl) (.tup (Or.inl (Or.inl upd_same)) (h2.up (same_new (none_of R.gh hl))))⟩⟩
  · cases h
    rcases z with z | ⟨_, _, _, _, e, _⟩
    · cases z with | tup h1 h2 => exact ⟨_, _, rfl, Or.inr ⟨sqT_up R.gh h1, k _ G H (Same.refl G) R (.tup h1 h2)⟩⟩
    · cases e
  · cases h
/-- sum of a list of ints -/
def intsD : List PyData → Option (List Int)
  | [] => some []
  | .int i :: r => match intsD r with
    | some l => some (i :: l)
    | none => none
  | _ :: _ => none
theorem intsD_ok {K : PySem.W.Frag} {H : Hp} : ∀ {ds : List PyData} {vs : List V} {ns : List Int}, DqA K H vs ds → intsD ds = some ns → vs = ns.map V.int
  | [], _, _, h, e => by
    cases h
    cases e
    rfl
  | d :: r, _, _, h, e => by
    cases h with | cons q w =>
    cases d with
    | int i =>
      unfold intsD at e
      split at e
      · rename_i l hl
        cases e
        cases q
        rw [intsD_ok w hl]
        rfl
      · cases e
    | none => cases e
    | bool b => cases e
    | str s => cases e
    | list l => cases e
    | tuple l => cases e
    | dict l => cases e
def sumI : List Int → Int
  | [] => 0
  | i :: r => i + sumI r
theorem sumI_eq : ∀ l : List Int, sumI l = l.sum
  | [] => rfl
  | i :: r => by rw [List.sum_cons, ← sumI_eq r]; rfl
def oSum : PyData → Option PyData
  | .list ds => match intsD ds with
    | some l => some (.int l.sum)
    | none => none
  | _ => none
theorem fe_sum (hc : X.calm = true) (ha : FR X a r) (hg : Gl X "sum") (hm : X.mg "sum" = none) (hs : starEach (a :: []) X.env = (false, eval a X.env) :: starEach [] X.env := by rfl) : FE X (.Call (.Name "sum" p) [a] [] pos) (fR1 oSum r) := by
  refine fe_r1 (fun t h => pe_callB (cr_sum hc) hg hm (by decide +kernel) (pa_cons h pa_nil hs) (he := hs)) ha fun x d c h A F G H ρ σ Q R z k => ?_
  unfold oSum at h
  split at h
  · split at h
    · rename_i l hl
      cases h
      obtain ⟨q, xs, rfl, h1, h2⟩ := z.sq R.gh
      have e := intsD_ok h2 hl
      subst e
      exact ⟨q, l, rfl, Or.inl (Or.inl h1), k _ G H (Same.refl G) R (.int _)⟩
    · cases h
  · cases h
def boolsD : List PyData → Option (List Bool)
  | [] => some []
  | .bool i :: r => match boolsD r with
    | some l => some (i :: l)
    | none => none
  | _ :: _ => none
theorem boolsD_ok {K : PySem.W.Frag} {H : Hp} : ∀ {ds : List PyData} {vs : List V} {ns : List Bool}, DqA K H vs ds → boolsD ds = some ns → vs = ns.map V.bl
  | [], _, _, h, e => by
    cases h
    cases e
    rfl
  | d :: r, _, _, h, e => by
    cases h with | cons q w =>
    cases d with
    | bool i =>
      unfold boolsD at e
      split at e
      · rename_i l hl
        cases e
        cases q
        rw [boolsD_ok w hl]
        rfl
      · cases e
    | none => cases e
    | int b => cases e
    | str s => cases e
    | list l => cases e
    | tuple l => cases e
    | dict l => cases e
def oAny : PyData → Option PyData
  | .list ds => match boolsD ds with
    | some l => some (.bool (l.any id))
    | none => none
  | _ => none
def oAll : PyData → Option PyData
  | .list ds => match boolsD ds with
    | some l => some (.bool (l.all id))
    | none => none
  | _ => none
theorem fe_any (hc : X.calm = true) (ha : FR X a r) (hg : Gl X "any") (hm : X.mg "any" = none) (hs : starEach (a :: []) X.env = (false, eval a X.env) :: starEach [] X.env := by rfl) : FE X (.Call (.Name "any" p) [a] [] pos) (fR1 oAny r) := by
  refine fe_r1 (fun t h => pe_callB (cr_any hc) hg hm (by decide +kernel) (pa_cons h pa_nil hs) (he := hs)) ha fun x d c h A F G H ρ σ Q R z k => ?_
  unfold oAny at h
  split at h
  · split at h
    · rename_i l hl
      cases h
      obtain ⟨q, xs, rfl, h1, h2⟩ := z.sq R.gh
      have e := boolsD_ok h2 hl
      subst e
      exact ⟨q, l, rfl, Or.inl (Or.inl h1), k _ G H (Same.refl G) R (.bl _)⟩
    · cases h
  · cases h
theorem fe_all (hc : X.calm = true) (ha : FR X a r) (hg : Gl X "all") (hm : X.mg "all" = none) (hs : starEach (a :: []) X.env = (false, eval a X.env) :: starEach [] X.env := by rfl) : FE X (.Call (.Name "all" p) [a] [] pos) (fR1 oAll r) := by
  refine fe_r1 (fun t h => pe_callB (cr_all hc) hg hm (by decide +kernel) (pa_cons h pa_nil hs) (he := hs)) ha fun x d c h A F G H ρ σ Q R z k => ?_
  unfold oAll at h
  split at h
  · split at h
    · rename_i l hl
      cases h
      obtain ⟨q, xs, rfl, h1, h2⟩ := z.sq R.gh
      have e := boolsD_ok h2 hl
      subst e
      exact ⟨q, l, rfl, Or.inl (Or.inl h1), k _ G H (Same.refl G) R (.bl _)⟩
    · cases h
  · cases h
/-- int(..), abs(..) -/
@[simp] def oInt : PyData → Option PyData
  | .int i => some (.int i)
  | .bool b => some (.int (if b = true then 1 else 0))
  | _ => none
theorem fe_intC (ha : FR X a r) (hg : Gl X "int") (hm : X.mg "int" = none) (hs : starEach (a :: []) X.env = (false, eval a X.env) :: starEach [] X.env := by rfl) : FE X (.Call (.Name "int" p) [a] [] pos) (fR1 oInt r) := by
  refine fe_r1 (fun t h => pe_callTy call_int1 hg hm (by decide +kernel) (pa_cons h pa_nil hs) (he := hs)) ha fun x d c h A F G H ρ σ Q R z k => ?_
  unfold oInt at h
  rcases z with z | ⟨_, _, _, _, e, _⟩
  · split at h
    · cases h
      cases z
      exact Or.inl ⟨_, rfl, k _ G H (Same.refl G) R (.int _)⟩
    · cases h
      cases z
      exact Or.inr ⟨_, rfl, k _ G H (Same.refl G) R (.int _)⟩
    · cases h
  · subst e
    cases h
@[simp] def oAbs : PyData → Option PyData
  | .int i => some (.int (if i < 0 then -i else i))
  | _ => none
theorem fe_abs (ha : FR X a r) (hg : Gl X "abs") (hm : X.mg "abs" = none) (hs : starEach (a :: []) X.env = (false, eval a X.env) :: starEach [] X.env := by rfl) : FE X (.Call (.Name "abs" p) [a] [] pos) (fR1 oAbs r) := by
  refine fe_r1 (fun t h => pe_callB call_abs hg hm (by decide +kernel) (pa_cons h pa_nil hs) (he := hs)) ha fun x d c h A F G H ρ σ Q R z k => ?_
  unfold oAbs at h
  rcases z with z | ⟨_, _, _, _, e, _⟩
  · split at h
    · cases h
      cases z
      exact ⟨_, rfl, k _ G H (Same.refl G) R (.int _)⟩
    · cases h
  · subst e
    cases h
/-! ### built-ins of two ints -/
theorem fe_cb2 {cr : List V → Hp → VK → Prop} {o : PyData → PyData → Option PyData} {e' : Expr} (mk : ∀ t u, PE X a t → PE X b u → PE X e' (tCB cr (tCons t (tCons u tNil)))) (ha : FE X a f) (hb : FE X b g)
    (hr : ∀ x y d e c, o d e = some c → ∀ A F G H ρ σ Q, Rel X.K A F G H ρ σ → Dq X.K G x d → Dq X.K G y e → (∀ z G' H', Same G G' → Rel X.K A F G' H' ρ σ → Dq X.K G' z c → Q z H') → cr [x, y] H Q) : FE X e' (fOp o f g) := by
  obtain ⟨ta, pa, qa⟩ := ha
  obtain ⟨tb, pb, qb⟩ := hb
  refine ⟨_, mk _ _ pa pb, fun ρ d ρ' h A F G H σ Q R k => ?_⟩
  exact two (r := fun x y H Q => cr [x, y] H Q) hr qa qb ρ d ρ' h A F G H σ Q R k
abbrev oMin := oI fun i j => .int (if j < i then j else i)
abbrev oMax := oI fun i j => .int (if j > i then j else i)
theorem fe_min2 (hc : X.calm = true) (ha : FE X a f) (hb : FE X b g) (hg : Gl X "min") (hm : X.mg "min" = none) (hs : starEach (a :: [b]) X.env = (false, eval a X.env) :: starEach [b] X.env := by rfl) (hs2 : starEach (b :: []) X.env = (false, eval b X.env) :: starEach [] X.env := by rfl) (h3 : (backTo pos (starEach [b] X.env)).any (·.1) = false := by rfl) :
    FE X (.Call (.Name "min" p) [a, b] [] pos) (fOp oMin f g) := by
  refine fe_cb2 (fun t u h h' => pe_callB (call_min2 hc) hg hm (by decide +kernel) (pa_cons h (pa_cons h' pa_nil hs2) hs) (he := hs) (hpl := h3)) ha hb fun x y d e c h A F G H ρ σ Q R z z' k => ?_
  unfold oMin oI at h
  split at h
  · cases h
    cases z
    cases z'
    exact ⟨_, _, rfl, k _ G H (Same.refl G) R (.int _)⟩
  · cases h
theorem fe_max2 (hc : X.calm = true) (ha : FE X a f) (hb : FE X b g) (hg : Gl X "max") (hm : X.mg "max" = none) (hs : starEach (a :: [b]) X.env = (false, eval a X.env) :: starEach [b] X.env := by rfl) (hs2 : starEach (b :: []) X.env = (false, eval b X.env) :: starEach [] X.env := by rfl) (h3 : (backTo pos (starEach [b] X.env)).any (·.1) = false := by rfl) :
    FE X (.Call (.Name "max" p) [a, b] [] pos) (fOp oMax f g) := by
  refine fe_cb2 (fun t u h h' => pe_callB (call_max2 hc) hg hm (by decide +kernel) (pa_cons h (pa_cons h' pa_nil hs2) hs) (he := hs) (hpl := h3)) ha hb fun x y d e c h A F G H ρ σ Q R z z' k => ?_
  unfold oMax oI at h
  split at h
  · cases h
    cases z
    cases z'
    exact ⟨_, _, rfl, k _ G H (Same.refl G) R (.int _)⟩
  · cases h
/-! ### lists: * and +, slices -/
@[simp] def fRep (f g : EF) : LF := fun ρ => bnd (f ρ) fun x ρ1 => bnd (g ρ1) fun y ρ2 => match x, y with
  | .list ds, .int k => if (Nat.ble (ds.length * k.toNat) 16777216 && Nat.ble k.natAbs 16777216) = true then some ((List.replicate k.toNat ds).flatten, ρ2) else none
  | _, _ => none
theorem DqA.rep {K : PySem.W.Frag} {H : Hp} {ds : List PyData} {vs : List V} (h : DqA K H vs ds) : ∀ n : Nat, DqA K H (List.replicate n vs).flatten (List.replicate n ds).flatten
  | 0 => .nil
  | n + 1 => by
    rw [List.replicate_succ, List.replicate_succ, List.flatten_cons, List.flatten_cons]
    exact h.app (DqA.rep h n)
theorem fl_rep (ha : FE X a f) (hb : FE X b g) : FL X (.BinOp a .Mult b pos) (fRep f g) := by
  obtain ⟨ta, pa, qa⟩ := ha
  obtain ⟨tb, pb, qb⟩ := hb
  refine ⟨_, pe_op op_rep pa pb, fun ρ d ρ' h A F G H σ Q R k => ?_⟩
  obtain ⟨u, ρ1, h1, h2⟩ := bnd_some h
  obtain ⟨y, ρ2, h3, h4⟩ := bnd_some h2
  refine qa ρ u ρ1 h1 A F G H σ _ R fun x G1 H1 s1 R1 z1 => ?_
  refine qb ρ1 y ρ2 h3 A F G1 H1 σ _ R1 fun w G2 H2 s2 R2 z2 => ?_
  split at h4
  · split at h4
    · rename_i ds n hz
      cases h4
      have hz' := Bool.and_eq_true_iff.mp hz
      have hz1 := ble_line hz'.1
      have hz2 : n.natAbs ≤ 16777216 := Nat.le_of_ble_eq_true hz'.2
      cases z2
      have z3 := z1.up s2
      cases z3 with | lst q1 q2 =>
      have hl := q2.len
      refine ⟨_, n, _, rfl, rfl, R2.gh _ _ q1, by omega, by omega, by rw [hl]; exact hz1, fun p hp => ?_⟩
      have q3 := q2.rep n.toNat
      refine k p _ G2 _ (none_of R2.fh hp) (s1.trans s2) (R2.newF hp) q3 ?_
      rw [List.length_flatten, List.map_replicate, List.sum_replicate_nat, hl, Nat.mul_comm]
      exact hz1
    · cases h4
  · cases h4
@[simp] def fCat (f g : EF) : LF := fun ρ => bnd (f ρ) fun x ρ1 => bnd (g ρ1) fun y ρ2 => match x, y with
  | .list ds, .list es => if Nat.ble (ds.length + es.length) 16777216 = true then some (ds ++ es, ρ2) else none
  | _, _ => none
theorem fl_cat (ha : FE X a f) (hb : FE X b g) : FL X (.BinOp a .Add b pos) (fCat f g) := by
  obtain ⟨ta, pa, qa⟩ := ha
  obtain ⟨tb, pb, qb⟩ := hb
  refine ⟨_, pe_op op_cat pa pb, fun ρ d ρ' h A F G H σ Q R k => ?_⟩
  obtain ⟨u, ρ1, h1, h2⟩ := bnd_some h
  obtain ⟨y, ρ2, h3, h4⟩ := bnd_some h2
  refine qa ρ u ρ1 h1 A F G H σ _ R fun x G1 H1 s1 R1 z1 => ?_
  refine qb ρ1 y ρ2 h3 A F G1 H1 σ _ R1 fun w G2 H2 s2 R2 z2 => ?_
  split at h4
  · split at h4
    · rename_i ds es hz
      cases h4
      have hz1 := ble_line hz
      have z3 := z1.up s2
      cases z3 with | lst q1 q2 =>
      cases z2 with | lst w1 w2 =>
      have hl := q2.len
      have hl2 := w2.len
      refine ⟨_, _, _, _, rfl, rfl, R2.gh _ _ q1, R2.gh _ _ w1, by rw [hl, hl2]; exact hz1, fun p hp => ?_⟩
      exact k p _ G2 _ (none_of R2.fh hp) (s1.trans s2) (R2.newF hp) (q2.app w2) (by rw [List.length_append, hl, hl2]; exact hz1)
    · cases h4
  · cases h4
end
end Fe
namespace Fe
open PySem PySem.Spec PyProof.Rows L2

/-! ## statements -/
inductive Out where
  | nx (ρ : En)
  | rt (d : PyData) (ρ : En)
  | bk (ρ : En)
  | ct (ρ : En)
abbrev SF := En → Option Out
def OutOk (K : PySem.W.Frag) (A : Option Addr) (F G : Hp) (D : Ends) : Out → Prop
  | .nx ρ => ∀ σ G' H, Same G G' → Rel K A F G' H ρ σ → D.nx σ H
  | .rt d ρ => ∀ x σ G' H, Same G G' → Rel K A F G' H ρ σ → Dq K G' x d → D.rt x H
  | .bk ρ => ∀ σ G' H, Same G G' → Rel K A F G' H ρ σ → D.bk σ H
  | .ct ρ => ∀ σ G' H, Same G G' → Rel K A F G' H ρ σ → D.ct σ H
theorem OutOk.up {K : PySem.W.Frag} {A : Option Addr} {F G G' : Hp} {D : Ends} {o : Out} (h : OutOk K A F G D o) (s : Same G G') : OutOk K A F G' D o := by
  cases o with
  | nx ρ => exact fun σ G2 H s2 => h σ G2 H (s.trans s2)
  | rt d ρ => exact fun x σ G2 H s2 => h x σ G2 H (s.trans s2)
  | bk ρ => exact fun σ G2 H s2 => h σ G2 H (s.trans s2)
  | ct ρ => exact fun σ G2 H s2 => h σ G2 H (s.trans s2)
def FS (X : Cx) (st : Stmt) (f : SF) : Prop := ∃ t, PS X st t ∧ ∀ ρ o, f ρ = some o → ∀ A F G H σ D, Rel X.K A F G H ρ σ → OutOk X.K A F G D o → t D σ H
def FSs (X : Cx) (sts : List Stmt) (f : SF) : Prop := ∃ t, PSs X sts t ∧ ∀ ρ o, f ρ = some o → ∀ A F G H σ D, Rel X.K A F G H ρ σ → OutOk X.K A F G D o → t D σ H
/-- what a target does with a value; the slots that it sets -/
def FG (X : Cx) (tg : Expr) (is : List Nat) (g : PyData → En → Option En) : Prop := ∃ t, PG X tg t ∧ ∀ d ρ ρ', g d ρ = some ρ' → ∀ A F G H σ x Q, Rel X.K A F G H ρ σ → Dq X.K G x d →
  (∀ σ', Rel X.K A F G H ρ' σ' → (∀ vs, (∀ i ∈ is, i ∈ vs) → wipe σ' vs = wipe σ vs) → Q σ' H) → t x σ H Q
def FGs (X : Cx) (tgs : List Expr) (is : List Nat) (g : List PyData → En → Option En) : Prop := ∃ t, PGs X tgs t ∧ ∀ ds ρ ρ', g ds ρ = some ρ' → ∀ A F G H σ xs Q, Rel X.K A F G H ρ σ → DqA X.K G xs ds →
  (∀ σ', Rel X.K A F G H ρ' σ' → (∀ vs, (∀ i ∈ is, i ∈ vs) → wipe σ' vs = wipe σ vs) → Q σ' H) → t xs σ H Q
/-- what a for walks, as a list -/
structure Yld (K : PySem.W.Frag) (J : It) (G0 : Hp) (ds : List PyData) : Prop where
  go : ∀ i H, Same G0 H → i < ds.length → J.go i H
  stop : ∀ H, Same G0 H → J.stop ds.length H
  yl : ∀ i H x H' d, J.yld i H x H' → ds[i]? = some d → ∀ A F G ρ σ, Same G0 G → Rel K A F G H ρ σ → ∃ G', Same G G' ∧ Rel K A F G' H' ρ σ ∧ Dq K G' x d
def FI (X : Cx) (tg e : Expr) (f : LF) : Prop := ∃ wi, PI X tg e wi ∧ ∀ ρ ds ρ', f ρ = some (ds, ρ') → ∀ A F G H σ R, Rel X.K A F G H ρ σ →
  (∀ J G' H', Same G G' → Rel X.K A F G' H' ρ' σ → Yld X.K J G' ds → R J H') → wi σ H R

/-! ### the functions -/
@[simp] def sNil : SF := fun ρ => some (.nx ρ)
@[simp] def sThen (o : Option Out) (g : SF) : Option Out := match o with
  | some (.nx ρ) => g ρ
  | o => o
@[simp] def sSeq (f g : SF) : SF := fun ρ => sThen (f ρ) g
@[simp] def sSet (i : Nat) (f : EF) : SF := fun ρ => bnd (f ρ) fun d ρ1 => some (.nx (ρ1.set i (.v d)))
@[simp] def sOwn (i : Nat) (f : LF) : SF := fun ρ => bnd (f ρ) fun d ρ1 => some (.nx (ρ1.set i (.own d)))
@[simp] def sRet (f : EF) : SF := fun ρ => bnd (f ρ) fun d ρ1 => some (.rt d ρ1)
@[simp] def sRetN : SF := fun ρ => some (.rt .none ρ)
@[simp] def sDrop (f : EF) : SF := fun ρ => bnd (f ρ) fun _ ρ1 => some (.nx ρ1)
@[simp] def sIf (c : BF) (f g : SF) : SF := fIf c f g
@[simp] def sTg (f : EF) (g : PyData → En → Option En) : SF := fun ρ => bnd (f ρ) fun d ρ1 => match g d ρ1 with
  | some ρ2 => some (.nx ρ2)
  | none => none
@[simp] def gNm (i : Nat) : PyData → En → Option En := fun d ρ => some (ρ.set i (.v d))
@[simp] def gNil' : List PyData → En → Option En := fun ds ρ => match ds with
  | [] => some ρ
  | _ => none
@[simp] def gCons' (g : PyData → En → Option En) (h : List PyData → En → Option En) : List PyData → En → Option En := fun ds ρ => match ds with
  | d :: r => match g d ρ with
    | some ρ1 => h r ρ1
    | none => none
  | [] => none
@[simp] def gTp (n : Nat) (g : List PyData → En → Option En) : PyData → En → Option En := fun d ρ => match d with
  | .tuple ds => if (ds.length == n) = true then g ds ρ else none
  | _ => none
def lp (g : PyData → En → Option En) (b : SF) : List PyData → SF
  | [], ρ => some (.nx ρ)
  | d :: r, ρ => match g d ρ with
    | none => none
    | some ρ1 => match b ρ1 with
      | some (.nx ρ2) => lp g b r ρ2
      | some (.ct ρ2) => lp g b r ρ2
      | some (.bk ρ2) => some (.nx ρ2)
      | some (.rt d ρ2) => some (.rt d ρ2)
      | none => none
@[simp] def sFor (f : LF) (g : PyData → En → Option En) (b : SF) : SF := fun ρ => bnd (f ρ) fun ds ρ1 => lp g b ds ρ1
def whl (c : BF) (b : SF) : Nat → SF
  | 0, _ => none
  | n + 1, ρ => bnd (c ρ) fun k ρ1 => if k = true then (match b ρ1 with
      | some (.nx ρ2) => whl c b n ρ2
      | some (.ct ρ2) => whl c b n ρ2
      | some (.bk ρ2) => some (.nx ρ2)
      | some (.rt d ρ2) => some (.rt d ρ2)
      | none => none) else some (.nx ρ1)
section
variable {X : Cx} {e a b : Expr} {pos : Pos} {f g : EF} {c : BF} {l : LF} {st : Stmt} {sts : List Stmt} {s1 s2 : SF}

theorem fss_nil : FSs X [] sNil := by
  refine ⟨_, pss_nil, fun ρ o h A F G H σ D R k => ?_⟩
  cases h
  exact k σ G H (Same.refl G) R
theorem fss_one (h : FS X st s1) : FSs X [st] s1 := by
  obtain ⟨t, p, q⟩ := h
  exact ⟨t, pss_one p, q⟩
theorem fss_cons (h : FS X st s1) (h2 : FSs X sts s2) : FSs X (st :: sts) (sSeq s1 s2) := by
  obtain ⟨t, p, q⟩ := h
  obtain ⟨t2, p2, q2⟩ := h2
  refine ⟨_, pss_cons p p2, fun ρ o h A F G H σ D R k => ?_⟩
  unfold sSeq sThen at h
  split at h
  · rename_i ρ1 h1
    exact q ρ _ h1 A F G H σ _ R fun σ' G' H' s r => q2 ρ1 o h A F G' H' σ' D r (k.up s)
  · rename_i o1 h1
    refine q ρ o h A F G H σ _ R ?_
    cases o with
    | nx ρ' => exact (h1 ρ' h).elim
    | rt d ρ' => exact k
    | bk ρ' => exact k
    | ct ρ' => exact k
theorem fs_tg {tg : Expr} {is : List Nat} {gg : PyData → En → Option En} (he : FE X e f) (hg : FG X tg is gg) (hs : swapsWithSole [tg] e pos.line X.env = pure false := by rfl) (hw : swappedStores [tg] e X.env = pure none := by rfl)
    (h1 : (assignEach [tg] X.env).map (·.2) = [assign tg X.env] := by rfl) : FS X (.Assign [tg] e pos) (sTg f gg) := by
  obtain ⟨t, p, q⟩ := he
  obtain ⟨t2, p2, q2⟩ := hg
  refine ⟨_, ps_asg p p2 hs hw h1, fun ρ o h A F G H σ D R k => ?_⟩
  obtain ⟨d, ρ1, h3, h4⟩ := bnd_some h
  split at h4
  · rename_i ρ2 h5
    cases h4
    exact q ρ d ρ1 h3 A F G H σ _ R fun x G' H' s r z => q2 d ρ1 ρ2 h5 A F G' H' σ x _ r z fun σ' r' _ => k σ' G' H' s r'
  · cases h4
theorem fs_set {i : Nat} {x : Str} {pos' : Pos} (hN : X.N.Nodup) (hi : X.N[i]? = some x) (hx : Loc X.env.scope x) (he : FE X e f) (hs : swapsWith e (some (.Name x pos')) pos.line X.env = pure false := by rfl) (hf : X.fn x = true ∨ X.env.scope.names.lookup x = some .local := by first | exact .inl rfl | exact .inr rfl | assumption) :
    FS X (.Assign [.Name x pos'] e pos) (sSet i f) := by
  obtain ⟨t, p, q⟩ := he
  refine ⟨_, ps_set hN hi hx p hs hf, fun ρ o h A F G H σ D R k => ?_⟩
  obtain ⟨d, ρ1, h3, h4⟩ := bnd_some h
  cases h4
  exact q ρ d ρ1 h3 A F G H σ _ R fun x G' H' s r z => k _ G' H' s (r.putV i z)
theorem fs_own {i : Nat} {x : Str} {pos' : Pos} (hN : X.N.Nodup) (hi : X.N[i]? = some x) (hx : Loc X.env.scope x) (he : FL X e l) (hs : swapsWith e (some (.Name x pos')) pos.line X.env = pure false := by rfl) (hf : X.fn x = true ∨ X.env.scope.names.lookup x = some .local := by first | exact .inl rfl | exact .inr rfl | assumption) :
    FS X (.Assign [.Name x pos'] e pos) (sOwn i l) := by
  obtain ⟨t, p, q⟩ := he
  refine ⟨_, ps_set hN hi hx p hs hf, fun ρ o h A F G H σ D R k => ?_⟩
  obtain ⟨d, ρ1, h3, h4⟩ := bnd_some h
  cases h4
  exact q ρ d ρ1 h3 A F G H σ _ R fun a xs G' H' fa s r z _ => k _ G' H' s (r.putOwn fa i z)
theorem fs_ret (he : FE X e f) : FS X (.Return (some e) pos) (sRet f) := by
  obtain ⟨t, p, q⟩ := he
  refine ⟨_, ps_ret p, fun ρ o h A F G H σ D R k => ?_⟩
  obtain ⟨d, ρ1, h3, h4⟩ := bnd_some h
  cases h4
  exact q ρ d ρ1 h3 A F G H σ _ R fun x G' H' s r z => k x σ G' H' s r z
theorem fs_retN : FS X (.Return none pos) sRetN := by
  refine ⟨_, ps_retN, fun ρ o h A F G H σ D R k => ?_⟩
  cases h
  exact k .non σ G H (Same.refl G) R .non
theorem fs_drop (he : FE X e f) (hs : swapsWith e none pos.line X.env = pure false := by rfl) : FS X (.Expr e pos) (sDrop f) := by
  obtain ⟨t, p, q⟩ := he
  refine ⟨_, ps_expr p hs, fun ρ o h A F G H σ D R k => ?_⟩
  obtain ⟨d, ρ1, h3, h4⟩ := bnd_some h
  cases h4
  exact q ρ d ρ1 h3 A F G H σ _ R fun x G' H' s r z => k σ G' H' s r
theorem fs_doc {x j pos'} : FS X (.Expr (.Constant (.str x) j pos) pos') sNil := by
  refine ⟨_, ps_doc, fun ρ o h A F G H σ D R k => ?_⟩
  cases h
  exact k σ G H (Same.refl G) R
theorem fs_if {p q : List Stmt} (hc : FT X e c) (ha : FSs X p s1) (hb : FSs X q s2) : FS X (.If e p q pos) (sIf c s1 s2) := by
  obtain ⟨t, hp, hq⟩ := hc
  obtain ⟨t1, p1, q1⟩ := ha
  obtain ⟨t2, p2, q2⟩ := hb
  refine ⟨_, ps_if hp p1 p2, fun ρ o h A F G H σ D R k => ?_⟩
  obtain ⟨d, ρ1, h3, h4⟩ := bnd_some h
  refine hq ρ d ρ1 h3 A F G H σ _ R fun G' H' s r => ?_
  cases d with
  | true => exact q1 _ o h4 A F G' H' σ D r (k.up s)
  | false => exact q2 _ o h4 A F G' H' σ D r (k.up s)
@[simp] def sBk : SF := fun ρ => some (.bk ρ)
@[simp] def sCt : SF := fun ρ => some (.ct ρ)
theorem fs_break : FS X (.Break pos) sBk := by
  refine ⟨_, ps_break, fun ρ o h A F G H σ D R k => ?_⟩
  cases h
  exact k σ G H (Same.refl G) R
theorem fs_continue : FS X (.Continue pos) sCt := by
  refine ⟨_, ps_continue, fun ρ o h A F G H σ D R k => ?_⟩
  cases h
  exact k σ G H (Same.refl G) R
/-- a statement that the proof never comes to -/
def sNo : SF := fun _ => none
theorem fs_no : FS X st sNo := ⟨_, ps_never, fun _ _ h => nomatch h⟩
theorem fss_no : FSs X sts sNo := ⟨_, pss_never, fun _ _ h => nomatch h⟩
/-- a list of one's own is to stay from here on -/
@[simp] def frzS (i : Nat) (ρ : En) : En := match ρ[i]? with
  | some (.own ds) => ρ.set i (.v (.list ds))
  | _ => ρ
theorem Rel.frzS {K : PySem.W.Frag} {A : Option Addr} {F G H : Hp} {ρ : En} {σ : L2.St} (k : Rel K A F G H ρ σ) (i : Nat) : ∃ G', Same G G' ∧ Rel K A F G' H (Fe.frzS i ρ) σ := by
  unfold Fe.frzS
  split
  · rename_i ds h
    exact k.frz h
  · exact ⟨G, Same.refl G, k⟩
theorem fs_frz (i : Nat) (h : FS X st s1) : FS X st (fun ρ => s1 (Fe.frzS i ρ)) := by
  obtain ⟨t, p, q⟩ := h
  refine ⟨t, p, fun ρ o h A F G H σ D R k => ?_⟩
  obtain ⟨G', s, r⟩ := R.frzS i
  exact q _ o h A F G' H σ D r (k.up s)

/-! ### targets -/
theorem wipe_set {σ : L2.St} {i : Nat} {v : Option V} : ∀ {vs : List Nat}, i ∈ vs → wipe (σ.set i v) vs = wipe σ vs
  | [], h => nomatch h
  | j :: r, h => by
    show (wipe (σ.set i v) r).set j none = (wipe σ r).set j none
    by_cases hr : i ∈ r
    · rw [wipe_set hr]
    · have e : i = j := by
        rcases List.mem_cons.mp h with e | e
        · exact e
        · exact absurd e hr
      subst e
      have aux : ∀ {vs : List Nat}, i ∉ vs → wipe (σ.set i v) vs = (wipe σ vs).set i v := by
        intro vs
        induction vs with
        | nil => intro _; rfl
        | cons u w ih =>
          intro hu
          show (wipe (σ.set i v) w).set u none = ((wipe σ w).set u none).set i v
          rw [ih fun z => hu (List.mem_cons_of_mem _ z), List.set_comm _ _ (show i ≠ u from fun z => hu (List.mem_cons.mpr (Or.inl z)))]
      rw [aux hr, List.set_set]
theorem fg_name {i : Nat} {x : Str} (hN : X.N.Nodup) (hi : X.N[i]? = some x) (hx : Loc X.env.scope x) (hf : X.fn x = true ∨ X.env.scope.names.lookup x = some .local := by first | exact .inl rfl | exact .inr rfl | assumption) : FG X (.Name x pos) [i] (gNm i) := by
  refine ⟨_, pg_name hN hi hx hf, fun d ρ ρ' h A F G H σ x Q R z k => ?_⟩
  cases h
  exact k _ (R.putV i z) fun vs hv => wipe_set (hv i (by simp))
theorem fgs_nil : FGs X [] [] gNil' := by
  refine ⟨_, pgs_nil, fun ds ρ ρ' h A F G H σ xs Q R z k => ?_⟩
  unfold gNil' at h
  split at h
  · cases h
    cases z
    exact ⟨rfl, k σ R fun _ _ => rfl⟩
  · cases h
theorem fgs_cons {es : List Expr} {is js : List Nat} {gg : PyData → En → Option En} {hh : List PyData → En → Option En} (h1 : FG X e is gg) (h2 : FGs X es js hh)
    (hs : (assignEach (e :: es) X.env).map (·.2) = assign e X.env :: (assignEach es X.env).map (·.2) := by rfl) : FGs X (e :: es) (is ++ js) (gCons' gg hh) := by
  obtain ⟨t, p, q⟩ := h1
  obtain ⟨t2, p2, q2⟩ := h2
  refine ⟨_, pgs_cons p p2 hs, fun ds ρ ρ' h A F G H σ xs Q R z k => ?_⟩
  unfold gCons' at h
  split at h
  · split at h
    · rename_i ρ1 h3
      cases z with | cons z1 z2 =>
      refine ⟨_, _, rfl, q _ ρ ρ1 h3 A F G H σ _ _ R z1 fun σ1 r1 w1 => ?_⟩
      exact q2 _ ρ1 ρ' h A F G H σ1 _ _ r1 z2 fun σ2 r2 w2 => k σ2 r2 fun vs hv => (w2 vs fun i hi => hv i (List.mem_append_right _ hi)).trans (w1 vs fun i hi => hv i (List.mem_append_left _ hi))
    · cases h
  · cases h
theorem fg_tup {es : List Expr} {k' : Nat} {is : List Nat} {hh : List PyData → En → Option En} {n : Nat} (hc : X.calm = true) (h : FGs X es is hh) (hn : (assignEach es X.env).length = n := by rfl) (hst : (assignEach es X.env).findIdx? (·.1) = none := by rfl) :
    FG X (.Tuple es k' pos) is (gTp n hh) := by
  obtain ⟨t, p, q⟩ := h
  refine ⟨_, pg_tup hc p hn hst, fun d ρ ρ' h A F G H σ x Q R z k => ?_⟩
  unfold gTp at h
  split at h
  · split at h
    · rename_i ds hl
      have hl' : ds.length = n := by simpa using hl
      cases z with | tup z1 z2 =>
      refine ⟨_, _, rfl, sqT_up R.gh z1, by rw [z2.len]; exact hl', ?_⟩
      exact q ds ρ ρ' h A F G H σ _ Q R z2 k
    · cases h
  · cases h

/-! ### for -/
theorem fs_for {tg iter : Expr} {body : List Stmt} {is : List Nat} {gg : PyData → En → Option En} (hc : X.calm = true) (hi : FI X tg iter l) (hg : FG X tg is gg) (hb : FSs X body s1) (hp : PassesOwn (model X.prog X.w) X.A X.env X.xe := by exact PassesOwn.never)
    (hs : ∀ x, foldedSetIterable iter X.env x = pure x := by intro _; rfl) : FS X (.For tg iter body [] pos) (sFor l gg s1) := by
  obtain ⟨wi, p, q⟩ := hi
  obtain ⟨tg', p2, q2⟩ := hg
  obtain ⟨tb, p3, q3⟩ := hb
  refine ⟨_, ps_for hp hc p p2 p3 hs, fun ρ o h A F G H σ D R k => ?_⟩
  obtain ⟨ds, ρ1, h1, h2⟩ := bnd_some h
  refine q ρ ds ρ1 h1 A F G H σ _ R fun J G1 H1 sG r1 Y => ?_
  refine ⟨fun i m τ H2 => m = ds.length - i ∧ i ≤ ds.length ∧ ∃ ρi Gi, Same G1 Gi ∧ Rel X.K A F Gi H2 ρi τ ∧ lp gg s1 (ds.drop i) ρi = some o, ⟨ds.length, by simp, by simp, ρ1, G1, Same.refl _, r1, by simpa using h2⟩, ?_⟩
  rintro i m τ H2 ⟨rfl, hi, ρi, Gi, si, ri, hl⟩
  by_cases hlt : i < ds.length
  · have hd : ds.drop i = ds[i] :: ds.drop (i + 1) := List.drop_eq_getElem_cons hlt
    rw [hd] at hl
    refine .inr ⟨Y.go i H2 (si.trans ri.gh) hlt, _, fun σ' H' hN => ⟨ds.length - (i + 1), by omega, hN⟩, fun x H' hy => ?_⟩
    obtain ⟨G', s', r', z⟩ := Y.yl i H2 x H' ds[i] hy (List.getElem?_eq_getElem hlt) A F Gi ρi τ si ri
    unfold lp at hl
    split at hl
    · cases hl
    · rename_i ρ2 hg2
      refine q2 ds[i] ρi ρ2 hg2 A F G' H' τ x _ r' z fun σ2 r2 _ => ?_
      split at hl
      · rename_i ρ3 hb3
        exact q3 ρ2 _ hb3 A F G' H' σ2 _ r2 fun σ3 G3 H3 s3 r3 => ⟨rfl, by omega, ρ3, G3, (si.trans s').trans s3, r3, hl⟩
      · rename_i ρ3 hb3
        exact q3 ρ2 _ hb3 A F G' H' σ2 _ r2 fun σ3 G3 H3 s3 r3 => ⟨rfl, by omega, ρ3, G3, (si.trans s').trans s3, r3, hl⟩
      · rename_i ρ3 hb3
        cases hl
        exact q3 ρ2 _ hb3 A F G' H' σ2 _ r2 fun σ3 G3 H3 s3 r3 => k σ3 G3 H3 (((sG.trans si).trans s').trans s3) r3
      · rename_i d3 ρ3 hb3
        cases hl
        exact q3 ρ2 _ hb3 A F G' H' σ2 _ r2 fun x σ3 G3 H3 s3 r3 => k x σ3 G3 H3 (((sG.trans si).trans s').trans s3) r3
      · cases hl
  · have e : i = ds.length := by omega
    subst e
    rw [List.drop_length] at hl
    unfold lp at hl
    cases hl
    exact .inl ⟨Y.stop H2 (si.trans ri.gh), k τ Gi H2 (sG.trans si) ri⟩
/-! ### while -/
theorem fs_while {n : Nat} {body : List Stmt} (hc : FT X e c) (hb : FSs X body s1) (hp : PassesOwn (model X.prog X.w) X.A X.env X.xe := by exact PassesOwn.never) : FS X (.While e body [] pos) (whl c s1 n) := by
  obtain ⟨t, p, q⟩ := hc
  obtain ⟨tb, p3, q3⟩ := hb
  refine ⟨_, ps_while hp p p3, fun ρ o h A F G H σ D R k => ?_⟩
  refine ⟨fun m τ H2 => ∃ ρi Gi, Same G Gi ∧ Rel X.K A F Gi H2 ρi τ ∧ whl c s1 m ρi = some o, ⟨n, ρ, G, Same.refl _, R, h⟩, ?_⟩
  rintro m τ H2 ⟨ρi, Gi, si, ri, hl⟩
  cases m with
  | zero => cases hl
  | succ m =>
    unfold whl at hl
    obtain ⟨b, ρ1, h1, h2⟩ := bnd_some hl
    refine q ρi b ρ1 h1 A F Gi H2 τ _ ri fun G' H' s' r' => ?_
    cases b with
    | true =>
      rw [if_pos rfl]
      rw [if_pos rfl] at h2
      refine ⟨_, fun σ' H' hN => ⟨m, by omega, hN⟩, ?_⟩
      split at h2
      · rename_i ρ3 hb3
        exact q3 ρ1 _ hb3 A F G' H' τ _ r' fun σ3 G3 H3 s3 r3 => ⟨ρ3, G3, (si.trans s').trans s3, r3, h2⟩
      · rename_i ρ3 hb3
        exact q3 ρ1 _ hb3 A F G' H' τ _ r' fun σ3 G3 H3 s3 r3 => ⟨ρ3, G3, (si.trans s').trans s3, r3, h2⟩
      · rename_i ρ3 hb3
        cases h2
        exact q3 ρ1 _ hb3 A F G' H' τ _ r' fun σ3 G3 H3 s3 r3 => k σ3 G3 H3 ((si.trans s').trans s3) r3
      · rename_i d3 ρ3 hb3
        cases h2
        exact q3 ρ1 _ hb3 A F G' H' τ _ r' fun x σ3 G3 H3 s3 r3 => k x σ3 G3 H3 ((si.trans s').trans s3) r3
      · cases h2
    | false =>
      rw [if_neg (by decide)]
      rw [if_neg (by decide)] at h2
      cases h2
      exact k τ G' H' (si.trans s') r'
end
end Fe
namespace Fe
open PySem PySem.Spec PyProof.Rows L2 RZ

/-! ## one reading for each function -/
def TF (K : PySem.W.Frag) (f : EF) : TE := fun σ H Q => ∃ ρ d ρ' A F G, f ρ = some (d, ρ') ∧ Rel K A F G H ρ σ ∧ ∀ x G' H', Same G G' → Rel K A F G' H' ρ' σ → Dq K G' x d → Q x H'
def TB (K : PySem.W.Frag) (f : BF) : TT := fun σ H Q => ∃ ρ d ρ' A F G, f ρ = some (d, ρ') ∧ Rel K A F G H ρ σ ∧ ∀ G' H', Same G G' → Rel K A F G' H' ρ' σ → Q d H'
def TGt (K : PySem.W.Frag) (is : List Nat) (g : PyData → En → Option En) : TG := fun x σ H Q => ∃ d ρ ρ' A F G, g d ρ = some ρ' ∧ Rel K A F G H ρ σ ∧ Dq K G x d ∧ ∀ σ', Rel K A F G H ρ' σ' → (∀ vs, (∀ i ∈ is, i ∈ vs) → wipe σ' vs = wipe σ vs) → Q σ' H
section
variable {X : Cx} {e a b : Expr} {pos : Pos} {f g : EF} {c : BF} {l : LF} {st : Stmt} {sts : List Stmt} {s1 s2 : SF}
theorem FE.can (h : FE X e f) : PE X e (TF X.K f) := by
  obtain ⟨t, p, q⟩ := h
  refine ⟨fun pins s σ H Q I w => p.run pins s σ H Q I ?_⟩
  obtain ⟨ρ, d, ρ', A, F, G, h1, h2, h3⟩ := w
  exact q ρ d ρ' h1 A F G H σ Q h2 h3
theorem FT.can (h : FT X e c) : PT X e (TB X.K c) := by
  obtain ⟨t, p, q⟩ := h
  refine ⟨fun pins s σ H Q I w => p.run pins s σ H Q I ?_⟩
  obtain ⟨ρ, d, ρ', A, F, G, h1, h2, h3⟩ := w
  exact q ρ d ρ' h1 A F G H σ Q h2 h3
theorem FG.can {is : List Nat} {gg : PyData → En → Option En} (h : FG X e is gg) : PG X e (TGt X.K is gg) := by
  obtain ⟨t, p, q⟩ := h
  refine ⟨fun pins s σ H v u Q I r w => p.run pins s σ H v u Q I r ?_⟩
  obtain ⟨d, ρ, ρ', A, F, G, h1, h2, h3, h4⟩ := w
  exact q d ρ ρ' h1 A F G H σ v Q h2 h3 h4

/-! ### what is walked -/
def rngL (lo : Int) (n : Nat) : List PyData := (List.range n).map fun k => .int (lo + (k : Nat))
theorem rngL_len {lo : Int} {n : Nat} : (rngL lo n).length = n := by simp [rngL]
theorem rngL_get {lo : Int} {n i : Nat} {d : PyData} (h : (rngL lo n)[i]? = some d) : d = .int (lo + (i : Nat)) := by
  unfold rngL at h
  rw [List.getElem?_map] at h
  by_cases hi : i < n
  · rw [List.getElem?_range hi] at h
    exact (Option.some.inj h).symm
  · rw [List.getElem?_eq_none (by simpa using hi)] at h
    cases h
theorem yld_rng {K : PySem.W.Frag} {lo : Int} {n : Nat} {G : Hp} : Yld K (Itr lo n) G (rngL lo n) where
  go := fun i H _ h => by
    rw [rngL_len] at h
    exact h
  stop := fun H _ => by
    rw [rngL_len]
    exact Nat.le_refl n
  yl := fun i H x H' d hy hd A F G ρ σ _ R => by
    obtain ⟨e1, e2⟩ := hy
    subst e1
    rw [rngL_get hd, e2]
    exact ⟨G, Same.refl G, R, .int _⟩
theorem yld_lst {K : PySem.W.Frag} {a : Addr} {xs : List V} {ds : List PyData} {G : Hp} (h : G a = some (.lst xs)) (k : DqA K G xs ds) : Yld K (Itl K a) G ds where
  go := fun i H s hi => by
    obtain ⟨v, h1, _⟩ := k.get (List.getElem?_eq_getElem hi)
    exact ⟨xs, v, Or.inl (Or.inl (s _ _ h)), h1⟩
  stop := fun H s => ⟨xs, Or.inl (Or.inl (s _ _ h)), Nat.le_of_eq k.len⟩
  yl := fun i H x H' d hy hd A F G2 ρ σ s R => by
    obtain ⟨rfl, hx⟩ := hy
    have h1 := hx xs (Or.inl (Or.inl (R.gh _ _ (s _ _ h))))
    obtain ⟨v, h2, h3⟩ := k.get hd
    rw [h1] at h2
    cases h2
    exact ⟨G2, Same.refl _, R, h3.up s⟩
theorem yld_tup {K : PySem.W.Frag} {a : Addr} {xs : List V} {ds : List PyData} {G : Hp} (h : SqT K G a xs) (k : DqA K G xs ds) : Yld K (Itt K a) G ds where
  go := fun i H s hi => by
    obtain ⟨v, h1, _⟩ := k.get (List.getElem?_eq_getElem hi)
    exact ⟨xs, v, sqT_up s h, h1⟩
  stop := fun H s => ⟨xs, sqT_up s h, Nat.le_of_eq k.len⟩
  yl := fun i H x H' d hy hd A F G2 ρ σ s R => by
    obtain ⟨rfl, hx⟩ := hy
    have h1 := hx xs (sqT_up (s.trans R.gh) h)
    obtain ⟨v, h2, h3⟩ := k.get hd
    rw [h1] at h2
    cases h2
    exact ⟨G2, Same.refl _, R, h3.up s⟩
/-- a list or a tuple -/
theorem pi_seqAny {tg : Expr} {tl : TE} (hl : PE X e tl) : PI X tg e (fun σ H R => tl σ H fun x H1 => ∃ a, x = .ref a ∧ ((∃ xs, SqL X.K H1 a xs ∧ R (Itl X.K a) H1) ∨ (∃ xs, SqT X.K H1 a xs ∧ R (Itt X.K a) H1))) := by
  constructor
  intro pins s σ H R I w
  refine thn (hl.run pins s σ H _ I w) ?_
  rintro v s1 ⟨x, H1, J, rx, a, ex, (⟨xs, hq, q⟩ | ⟨xs, hq, q⟩)⟩ <;> subst ex <;> cases rx
  · obtain ⟨its, _, pl, _⟩ := J.list hq
    refine wpAny_pyIter_list pl.isList ⟨s1.heap.objs.size, [s1.heap.objs.size], _, _, H1, rfl, J.kept (t' := s1.toks) (fun _ _ z => Heap.get?_push_of_some _ z), turn_list a _, ⟨_, Heap.get?_push_size _ rfl, rfl, rfl⟩, ?_, q⟩
    intro c hc
    obtain rfl := List.mem_singleton.mp hc
    exact J.fpOk (Nat.le_refl _) (J.hok.fresh (Nat.le_refl _))
  · obtain ⟨its, _, pt, _⟩ := J.tuple hq
    refine wpAny_pyIter_tuple (show s1.heap.IsTuple a its.toArray from pt) ⟨s1.heap.objs.size, [s1.heap.objs.size], _, _, H1, rfl, J.kept (t' := s1.toks) (fun _ _ z => Heap.get?_push_of_some _ z), turn_tuple a _, ⟨_, Heap.get?_push_size _ rfl, rfl, rfl⟩, ?_, q⟩
    intro c hc
    obtain rfl := List.mem_singleton.mp hc
    exact J.fpOk (Nat.le_refl _) (J.hok.fresh (Nat.le_refl _))
@[simp] def fSeq (f : EF) : LF := fun ρ => bnd (f ρ) fun d ρ1 => match d with
  | .list ds => some (ds, ρ1)
  | .tuple ds => some (ds, ρ1)
  | _ => none
variable {tg : Expr}
theorem fi_seq (h : FE X e f) : FI X tg e (fSeq f) := by
  obtain ⟨t, p, q⟩ := h
  refine ⟨_, pi_seqAny p, fun ρ ds ρ' h A F G H σ R r k => ?_⟩
  obtain ⟨d, ρ1, h1, h2⟩ := bnd_some h
  refine q ρ d ρ1 h1 A F G H σ _ r fun x G' H' s r' z => ?_
  split at h2
  · cases h2
    cases z with | lst z1 z2 => exact ⟨_, rfl, Or.inl ⟨_, Or.inl (Or.inl (r'.gh _ _ z1)), k _ G' H' s r' (yld_lst z1 z2)⟩⟩
  · cases h2
    cases z with | tup z1 z2 => exact ⟨_, rfl, Or.inr ⟨_, sqT_up r'.gh z1, k _ G' H' s r' (yld_tup z1 z2)⟩⟩
  · cases h2
/-- range(n), range(m, n) -/
def inB (j : Int) : Bool := Nat.ble j.natAbs 4611686018427387903
theorem inB_ok {j : Int} (h : inB j = true) : -(2 ^ 62) ≤ j ∧ j < 2 ^ 62 := by
  have := Nat.le_of_ble_eq_true h
  omega
@[simp] def fRng1 (l : LF) : LF := fun ρ => bnd (l ρ) fun ds ρ1 => match ds with
  | [.int j] => if inB j = true then some (rngL 0 j.toNat, ρ1) else none
  | _ => none
@[simp] def fRng2 (l : LF) : LF := fun ρ => bnd (l ρ) fun ds ρ1 => match ds with
  | [.int i, .int j] => if (inB i && inB j) = true then some (rngL i (j - i).toNat, ρ1) else none
  | _ => none
variable {pp : Pos}
theorem fi_rng1 (ha : FA X [a] l) (hg : Gl X "range") (hm : X.mg "range" = none) (hs : starEach [a] X.env = [(false, eval a X.env)] := by rfl) : FI X tg (.Call (.Name "range" pp) [a] [] pos) (fRng1 l) := by
  obtain ⟨t, p, q⟩ := ha
  refine ⟨_, pi_range1 hg hm p hs, fun ρ ds ρ' h A F G H σ R r k => ?_⟩
  obtain ⟨d, ρ1, h1, h2⟩ := bnd_some h
  refine q ρ d ρ1 h1 A F G H σ _ r fun x G' H' s r' z => ?_
  split at h2
  · split at h2
    · rename_i j hj
      cases h2
      have hb := inB_ok hj
      cases z with | cons z1 z2 =>
      cases z1
      cases z2
      exact ⟨j, rfl, hb.1, hb.2, k _ G' H' s r' yld_rng⟩
    · cases h2
  · cases h2
theorem fi_rng2 (ha : FA X [a, b] l) (hg : Gl X "range") (hm : X.mg "range" = none) (hs : starEach [a, b] X.env = [(false, eval a X.env), (false, eval b X.env)] := by rfl) (hs2 : starEach [b] X.env = [(false, eval b X.env)] := by rfl) : FI X tg (.Call (.Name "range" pp) [a, b] [] pos) (fRng2 l) := by
  obtain ⟨t, p, q⟩ := ha
  refine ⟨_, pi_range2 hg hm p hs hs2, fun ρ ds ρ' h A F G H σ R r k => ?_⟩
  obtain ⟨d, ρ1, h1, h2⟩ := bnd_some h
  refine q ρ d ρ1 h1 A F G H σ _ r fun x G' H' s r' z => ?_
  split at h2
  · split at h2
    · rename_i i j hj
      cases h2
      have hj' := Bool.and_eq_true_iff.mp hj
      have hb := inB_ok hj'.1
      have hc := inB_ok hj'.2
      cases z with | cons z1 z2 =>
      cases z2 with | cons z2 z3 =>
      cases z1
      cases z2
      cases z3
      exact ⟨i, j, rfl, ⟨hb.1, hb.2, hc.1, hc.2⟩, k _ G' H' s r' yld_rng⟩
    · cases h2
  · cases h2
def rngC (lo c : Int) (n : Nat) : List PyData := (List.range n).map fun (k : Nat) => PyData.int (lo + (k : Nat) * c)
def rcOk (i j c : Int) : Bool := decide (c ≠ 0) && (Nat.blt c.natAbs 1073741824 && (Builtin.Range.small i j c && decide (0 ≤ Builtin.Range.rangeSize i j c)))
def fRng3 (l : LF) : LF := fun ρ => bnd (l ρ) fun ds ρ1 => match ds with
  | [.int i, .int j, .int c] => if rcOk i j c = true then some (rngC i c (Builtin.Range.rangeSize i j c).toNat, ρ1) else none
  | _ => none
theorem yld_rngC {K : PySem.W.Frag} {lo c : Int} {n : Nat} {G : Hp} : Yld K (Itc lo c n) G (rngC lo c n) where
  go := fun i H _ h => by
    have e : (rngC lo c n).length = n := by simp [rngC]
    rw [e] at h
    exact h
  stop := fun H _ => by
    have e : (rngC lo c n).length = n := by simp [rngC]
    rw [e]
    exact Nat.le_refl n
  yl := fun i H x H' d hy hd A F G ρ σ _ R => by
    obtain ⟨e1, e2⟩ := hy
    subst e1
    unfold rngC at hd
    rw [List.getElem?_map] at hd
    by_cases hi : i < n
    · rw [List.getElem?_range hi] at hd
      cases hd
      rw [e2]
      exact ⟨G, Same.refl G, R, .int _⟩
    · rw [List.getElem?_eq_none (by simpa using hi)] at hd
      cases hd
theorem fi_rng3 {d : Expr} (ha : FA X [a, b, d] l) (hg : Gl X "range") (hm : X.mg "range" = none) (hs : starEach [a, b, d] X.env = (false, eval a X.env) :: starEach [b, d] X.env := by rfl) (hpl : (backTo pos (starEach [b, d] X.env)).any (·.1) = false := by rfl) : FI X tg (.Call (.Name "range" pp) [a, b, d] [] pos) (fRng3 l) := by
  obtain ⟨t, p, q⟩ := ha
  refine ⟨_, pi_range3 hg hm p hs hpl, fun ρ ds ρ' h A F G H σ R r k => ?_⟩
  obtain ⟨d, ρ1, h1, h2⟩ := bnd_some h
  refine q ρ d ρ1 h1 A F G H σ _ r fun x G' H' s r' z => ?_
  split at h2
  · split at h2
    · rename_i i j c hj
      cases h2
      unfold rcOk at hj
      simp only [Bool.and_eq_true, decide_eq_true_eq] at hj
      obtain ⟨g1, g2, g3, g4⟩ := hj
      cases z with | cons z1 z2 =>
      cases z2 with | cons z2 z3 =>
      cases z3 with | cons z3 z4 =>
      cases z1
      cases z2
      cases z3
      cases z4
      exact ⟨i, j, c, _, rfl, ⟨g1, Nat.le_of_ble_eq_true g2, g3, (Int.toNat_of_nonneg g4).symm⟩, k _ G' H' s r' yld_rngC⟩
    · cases h2
  · cases h2
/-- enumerate(a list) -/
def enumD : Nat → List PyData → List PyData
  | _, [] => []
  | n, d :: r => .tuple [.int n, d] :: enumD (n + 1) r
theorem enumD_get : ∀ {ds : List PyData} {n i : Nat} {t : PyData}, (enumD n ds)[i]? = some t → ∃ d, ds[i]? = some d ∧ t = .tuple [.int (n + i : Nat), d]
  | [], _, _, _, h => by simp [enumD] at h
  | d :: r, n, 0, t, h => by
    simp [enumD] at h
    exact ⟨d, rfl, h.symm⟩
  | d :: r, n, i + 1, t, h => by
    obtain ⟨d', h1, h2⟩ := enumD_get (ds := r) (n := n + 1) (i := i) (by simpa [enumD] using h)
    refine ⟨d', by simpa using h1, ?_⟩
    rw [h2, show n + 1 + i = n + (i + 1) by omega]
theorem enumD_len : ∀ {ds : List PyData} {n : Nat}, (enumD n ds).length = ds.length
  | [], _ => rfl
  | _ :: r, n => congrArg (· + 1) (enumD_len (ds := r) (n := n + 1))
theorem yld_enum {K : PySem.W.Frag} {a : Addr} {xs : List V} {ds : List PyData} {G : Hp} (h : G a = some (.lst xs)) (k : DqA K G xs ds) : Yld K (Ite K a) G (enumD 0 ds) where
  go := fun i H s hi => by
    rw [enumD_len] at hi
    obtain ⟨v, h1, _⟩ := k.get (List.getElem?_eq_getElem hi)
    exact ⟨xs, v, Or.inl (Or.inl (s _ _ h)), h1⟩
  stop := fun H s => ⟨xs, Or.inl (Or.inl (s _ _ h)), by rw [enumD_len]; exact Nat.le_of_eq k.len⟩
  yl := fun i H x H' d hy hd A F G2 ρ σ s R => by
    obtain ⟨T, y, rfl, hT, rfl, hx⟩ := hy
    obtain ⟨d', hd', rfl⟩ := enumD_get hd
    have h1 := hx xs (Or.inl (Or.inl (R.gh _ _ (s _ _ h))))
    obtain ⟨v, h2, h3⟩ := k.get hd'
    rw [h1] at h2
    cases h2
    have gT := none_of R.gh hT
    refine ⟨_, same_new gT, R.new hT, .tup (Or.inl (Or.inl upd_same)) (.cons ?_ (.cons (h3.up (s.trans (same_new gT))) .nil))⟩
    rw [Nat.zero_add]
    exact .int _
@[simp] def fEnum (f : EF) : LF := fun ρ => bnd (f ρ) fun d ρ1 => match d with
  | .list ds => some (enumD 0 ds, ρ1)
  | _ => none
theorem fi_enum {elts : List Expr} {kk : Nat} {tpos : Pos} (h : FE X e f) (hg : Gl X "enumerate") (hm : X.mg "enumerate" = none) (hs : starEach [e] X.env = [(false, eval e X.env)] := by rfl) (hs2 : starEach (e :: []) X.env = (false, eval e X.env) :: starEach [] X.env := by rfl) :
    FI X (.Tuple elts kk tpos) (.Call (.Name "enumerate" pp) [e] [] pos) (fEnum f) := by
  obtain ⟨t, p, q⟩ := h
  refine ⟨_, pi_enum hg hm (pa_cons p pa_nil hs2) hs, fun ρ ds ρ' h A F G H σ R r k => ?_⟩
  obtain ⟨d, ρ1, h1, h2⟩ := bnd_some h
  refine q ρ d ρ1 h1 A F G H σ _ r fun x G' H' s r' z => ?_
  split at h2
  · cases h2
    cases z with | lst z1 z2 => exact ⟨_, _, rfl, Or.inl (Or.inl (r'.gh _ _ z1)), k _ G' H' s r' (yld_enum z1 z2)⟩
  · cases h2
/-- zip of two lists, of two tuples -/
def zipD : List PyData → List PyData → List PyData
  | x :: r, y :: w => .tuple [x, y] :: zipD r w
  | _, _ => []
theorem zipD_get : ∀ {ds es : List PyData} {i : Nat} {t : PyData}, (zipD ds es)[i]? = some t → ∃ d e, ds[i]? = some d ∧ es[i]? = some e ∧ t = .tuple [d, e]
  | [], _, _, _, h => by simp [zipD] at h
  | _ :: _, [], _, _, h => by simp [zipD] at h
  | x :: r, y :: w, 0, t, h => by
    simp [zipD] at h
    exact ⟨x, y, rfl, rfl, h.symm⟩
  | x :: r, y :: w, i + 1, t, h => by
    obtain ⟨d, e, h1, h2, h3⟩ := zipD_get (ds := r) (es := w) (i := i) (by simpa [zipD] using h)
    exact ⟨d, e, by simpa using h1, by simpa using h2, h3⟩
theorem zipD_len : ∀ {ds es : List PyData}, (zipD ds es).length = min ds.length es.length
  | [], _ => by simp [zipD]
  | _ :: _, [] => by simp [zipD]
  | _ :: r, _ :: w => by simp [zipD, zipD_len (ds := r) (es := w)]
theorem yld_zip {K : PySem.W.Frag} {a b : Addr} {xs ys : List V} {ds es : List PyData} {G : Hp} (h : G a = some (.lst xs)) (k : DqA K G xs ds) (h' : G b = some (.lst ys)) (k' : DqA K G ys es) : Yld K (Itz K a b) G (zipD ds es) where
  go := fun i H s hi => by
    rw [zipD_len] at hi
    obtain ⟨v, h1, _⟩ := k.get (List.getElem?_eq_getElem (show i < ds.length by omega))
    obtain ⟨u, h2, _⟩ := k'.get (List.getElem?_eq_getElem (show i < es.length by omega))
    exact ⟨xs, ys, v, u, Or.inl (Or.inl (s _ _ h)), Or.inl (Or.inl (s _ _ h')), h1, h2⟩
  stop := fun H s => ⟨xs, ys, Or.inl (Or.inl (s _ _ h)), Or.inl (Or.inl (s _ _ h')), by
    have e1 := k.len
    have e2 := k'.len
    rw [zipD_len]
    omega⟩
  yl := fun i H x H' d hy hd A F G2 ρ σ s R => by
    obtain ⟨T, y, u, rfl, hT, rfl, hx, hu⟩ := hy
    obtain ⟨d', e', hd', he', rfl⟩ := zipD_get hd
    have h1 := hx xs (Or.inl (Or.inl (R.gh _ _ (s _ _ h))))
    have h4 := hu ys (Or.inl (Or.inl (R.gh _ _ (s _ _ h'))))
    obtain ⟨v, h2, h3⟩ := k.get hd'
    obtain ⟨v', h5, h6⟩ := k'.get he'
    rw [h1] at h2
    cases h2
    rw [h4] at h5
    cases h5
    have gT := none_of R.gh hT
    exact ⟨_, same_new gT, R.new hT, .tup (Or.inl (Or.inl upd_same)) (.cons (h3.up (s.trans (same_new gT))) (.cons (h6.up (s.trans (same_new gT))) .nil))⟩
theorem yld_zipT {K : PySem.W.Frag} {a b : Addr} {xs ys : List V} {ds es : List PyData} {G : Hp} (h : SqT K G a xs) (k : DqA K G xs ds) (h' : SqT K G b ys) (k' : DqA K G ys es) : Yld K (ItzT K a b) G (zipD ds es) where
  go := fun i H s hi => by
    rw [zipD_len] at hi
    obtain ⟨v, h1, _⟩ := k.get (List.getElem?_eq_getElem (show i < ds.length by omega))
    obtain ⟨u, h2, _⟩ := k'.get (List.getElem?_eq_getElem (show i < es.length by omega))
    exact ⟨xs, ys, v, u, sqT_up s h, sqT_up s h', h1, h2⟩
  stop := fun H s => ⟨xs, ys, sqT_up s h, sqT_up s h', by
    have e1 := k.len
    have e2 := k'.len
    rw [zipD_len]
    omega⟩
  yl := fun i H x H' d hy hd A F G2 ρ σ s R => by
    obtain ⟨T, y, u, rfl, hT, rfl, hx, hu⟩ := hy
    obtain ⟨d', e', hd', he', rfl⟩ := zipD_get hd
    have h1 := hx xs (sqT_up (s.trans R.gh) h)
    have h4 := hu ys (sqT_up (s.trans R.gh) h')
    obtain ⟨v, h2, h3⟩ := k.get hd'
    obtain ⟨v', h5, h6⟩ := k'.get he'
    rw [h1] at h2
    cases h2
    rw [h4] at h5
    cases h5
    have gT := none_of R.gh hT
    exact ⟨_, same_new gT, R.new hT, .tup (Or.inl (Or.inl upd_same)) (.cons (h3.up (s.trans (same_new gT))) (.cons (h6.up (s.trans (same_new gT))) .nil))⟩
@[simp] def fZip (l : LF) : LF := fun ρ => bnd (l ρ) fun ds ρ1 => match ds with
  | [.list xs, .list ys] => some (zipD xs ys, ρ1)
  | [.tuple xs, .tuple ys] => some (zipD xs ys, ρ1)
  | _ => none
theorem fi_zip {elts : List Expr} {kk : Nat} {tpos : Pos} (ha : FA X [a, b] l) (hg : Gl X "zip") (hm : X.mg "zip" = none) (hs : starEach [a, b] X.env = (false, eval a X.env) :: starEach [b] X.env := by rfl) (hpl : (backTo pos (starEach [b] X.env)).any (·.1) = false := by rfl) :
    FI X (.Tuple elts kk tpos) (.Call (.Name "zip" pp) [a, b] [] pos) (fZip l) := by
  obtain ⟨t, p, q⟩ := ha
  refine ⟨_, pi_zipA hg hm p hs hpl, fun ρ ds ρ' h A F G H σ R r k => ?_⟩
  obtain ⟨d, ρ1, h1, h2⟩ := bnd_some h
  refine q ρ d ρ1 h1 A F G H σ _ r fun x G' H' s r' z => ?_
  split at h2
  · cases h2
    cases z with | cons z1 z2 =>
    cases z2 with | cons z2 z3 =>
    cases z3
    cases z1 with | lst u1 u2 =>
    cases z2 with | lst w1 w2 =>
    exact ⟨_, _, _, _, rfl, Or.inl ⟨Or.inl (Or.inl (r'.gh _ _ u1)), Or.inl (Or.inl (r'.gh _ _ w1)), k _ G' H' s r' (yld_zip u1 u2 w1 w2)⟩⟩
  · cases h2
    cases z with | cons z1 z2 =>
    cases z2 with | cons z2 z3 =>
    cases z3
    cases z1 with | tup u1 u2 =>
    cases z2 with | tup w1 w2 =>
    exact ⟨_, _, _, _, rfl, Or.inr ⟨sqT_up r'.gh u1, sqT_up r'.gh w1, k _ G' H' s r' (yld_zipT u1 u2 w1 w2)⟩⟩
  · cases h2
end
end Fe
namespace Fe
open PySem PySem.Spec PyProof.Rows L2

/-! ## comprehensions -/
@[simp] def wipeE (ρ : En) : List Nat → En
  | [] => ρ
  | v :: vs => (wipeE ρ vs).set v .un
section
variable {K : PySem.W.Frag} {A : Option Addr} {F G G' H H' : Hp} {ρ ρ' : En} {σ τ : L2.St}
theorem Rel.wipe (R : Rel K A F G H ρ σ) : ∀ vs : List Nat, Rel K A F G H (wipeE ρ vs) (L2.wipe σ vs)
  | [] => R
  | v :: vs => (R.wipe vs).putU v none
/-- other values where nothing is known -/
theorem Rel.other (R : Rel K A F G H ρ τ) (hl : σ.length = τ.length) (h : ∀ (i : Nat) (s : Sl), ρ[i]? = some s → s ≠ Sl.un → σ[i]? = τ[i]?) : Rel K A F G H ρ σ := by
  obtain ⟨P, r1, r2, r3⟩ := R.rg
  refine ⟨R.gh, R.fh, R.fg, R.len.trans hl.symm, P, fun i s e => ?_, r2, r3⟩
  obtain ⟨x, e1, e2⟩ := r1 i s e
  by_cases hs : s = Sl.un
  · subst hs
    have hi : i < σ.length := by
      have := (List.getElem?_eq_some_iff.mp e1).1
      omega
    exact ⟨σ[i], List.getElem?_eq_getElem hi, e2⟩
  · exact ⟨x, (h i s e hs).trans e1, e2⟩
theorem wipeE_in {i : Nat} : ∀ {vs : List Nat} {s : Sl}, i ∈ vs → (wipeE ρ vs)[i]? = some s → s = .un
  | v :: vs, s, h, e => by
    unfold wipeE at e
    by_cases hi : v = i
    · subst hi
      rw [List.getElem?_set_self'] at e
      cases q : (wipeE ρ vs)[v]? with
      | none => rw [q] at e; cases e
      | some u =>
        rw [q] at e
        exact (Option.some.inj e).symm
    · rw [List.getElem?_set_ne hi] at e
      rcases List.mem_cons.mp h with z | z
      · exact absurd z.symm hi
      · exact wipeE_in z e
theorem Rel.unwipe {vs : List Nat} (R : Rel K A F G H (wipeE ρ vs) (L2.wipe σ vs)) : Rel K A F G H (wipeE ρ vs) σ :=
  R.other (wipe_length σ vs).symm fun i s e hs => (wipe_out fun hi => hs (wipeE_in hi e)).symm
theorem wipe_idem : ∀ {vs : List Nat}, L2.wipe (L2.wipe σ vs) vs = L2.wipe σ vs := by
  have aux : ∀ us vs : List Nat, (∀ i ∈ us, i ∈ vs) → L2.wipe (L2.wipe σ us) vs = L2.wipe σ vs := by
    intro us
    induction us with
    | nil => intro vs _; rfl
    | cons u w ih =>
      intro vs h
      show L2.wipe ((L2.wipe σ w).set u none) vs = _
      rw [wipe_set (h u List.mem_cons_self)]
      exact ih vs fun i hi => h i (List.mem_cons_of_mem _ hi)
  exact fun {vs} => aux vs vs fun _ h => h
end
def cl (vs : List Nat) (g : PyData → En → Option En) (c : BF) (e : EF) : List PyData → LF
  | [], ρ => some ([], wipeE ρ vs)
  | d :: r, ρ => match g d (wipeE ρ vs) with
    | none => none
    | some ρ1 => bnd (c ρ1) fun k ρ2 => if k = true then bnd (e ρ2) fun y ρ3 => bnd (cl vs g c e r ρ3) fun ys ρ4 => some (y :: ys, ρ4) else cl vs g c e r ρ2
@[simp] def fComp (vs : List Nat) (fi : LF) (g : PyData → En → Option En) (c : BF) (e : EF) : LF := fun ρ => bnd (fi ρ) fun ds ρ1 => if Nat.ble ds.length 16777216 = true then cl vs g c e ds ρ1 else none
@[simp] def fYes : BF := fun ρ => some (true, ρ)
section
variable {X : Cx} {elt tg iter : Expr} {ifs : List Expr} {scope : Scope} {own : List (Str × Nat)} {pos : Pos} {fi : LF} {gg : PyData → En → Option En} {c : BF} {f : EF} {is : List Nat}
/-- a comprehension's test list -/
def FTs (X : Cx) (es : List Expr) (f : BF) : Prop := ∃ t, PTs X es t ∧ ∀ ρ d ρ', f ρ = some (d, ρ') → ∀ A F G H σ Q, Rel X.K A F G H ρ σ →
  (∀ G' H', Same G G' → Rel X.K A F G' H' ρ' σ → Q d H') → t σ H Q
theorem fts_nil : FTs X [] fYes := by
  refine ⟨_, pts_nil, fun ρ d ρ' h A F G H σ Q R k => ?_⟩
  cases h
  exact k G H (Same.refl G) R
theorem fts_one {e : Expr} (h : FT X e c) : FTs X [e] c := by
  obtain ⟨t, p, q⟩ := h
  exact ⟨t, pts_one p, q⟩
theorem FTs.can {es : List Expr} (h : FTs X es c) : PTs X es (TB X.K c) := by
  obtain ⟨t, p, q⟩ := h
  refine ⟨fun pins s σ H Q I w => p.run pins s σ H Q I ?_⟩
  obtain ⟨ρ, d, ρ', A, F, G, h1, h2, h3⟩ := w
  exact q ρ d ρ' h1 A F G H σ Q h2 h3
theorem lc_spec {K : PySem.W.Frag} {wi : TI} {vs : List Nat} (hv : ∀ i ∈ is, i ∈ vs)
    (q : ∀ ρ ds ρ', fi ρ = some (ds, ρ') → ∀ A F G H σ R, Rel K A F G H ρ σ → (∀ J G' H', Same G G' → Rel K A F G' H' ρ' σ → Yld K J G' ds → R J H') → wi σ H R) :
    ∀ ρ ds ρ', fComp vs fi gg c f ρ = some (ds, ρ') → ∀ A F G H σ (Q : VK), Rel K A F G H ρ σ →
      (∀ a xs G' H', F a = none → Same G G' → Rel K A (upd F a (.lst xs)) G' H' ρ' σ → DqA K G' xs ds → xs.length ≤ sizeLine → Q (.ref a) H') → tLc wi (TGt K is gg) (TB K c) (TF K f) vs σ H Q := by
  intro ρ es ρ' h A F G H σ Q R k
  obtain ⟨ds, ρ1, h1, h2⟩ := bnd_some h
  split at h2
  · rename_i hz
    have hz' := ble_line hz
    refine q ρ ds ρ1 h1 A F G H σ _ R fun J G1 H1 s1 r1 Y D hD => ?_
    have fD := none_of r1.fh hD
    refine ⟨fun i m H2 => m = ds.length - i ∧ i ≤ ds.length ∧ ∃ τ ρi Gi acc da rest, L2.wipe τ vs = L2.wipe σ vs ∧ Same G1 Gi ∧ Rel K A (upd F D (.lst acc)) Gi H2 ρi τ ∧ DqA K Gi acc da ∧ acc.length ≤ i ∧ cl vs gg c f (ds.drop i) ρi = some (rest, ρ') ∧ da ++ rest = es,
      ⟨ds.length, by simp, by simp, σ, ρ1, G1, [], [], es, rfl, Same.refl _, r1.newF hD, .nil, Nat.le_refl _, by simpa using h2, rfl⟩, ?_⟩
    rintro i m H2 ⟨rfl, hi, τ, ρi, Gi, acc, da, rest, hw, si, ri, ha, hal, hl, hes⟩
    by_cases hlt : i < ds.length
    · rw [List.drop_eq_getElem_cons hlt] at hl
      refine .inr ⟨Y.go i H2 (si.trans ri.gh) hlt, _, fun H' hN => ⟨ds.length - (i + 1), by omega, hN⟩, fun x H' hy => ?_⟩
      obtain ⟨G', s', r', z⟩ := Y.yl i H2 x H' ds[i] hy (List.getElem?_eq_getElem hlt) A _ Gi ρi τ si ri
      have rw' : Rel K A (upd F D (.lst acc)) G' H' (wipeE ρi vs) (L2.wipe σ vs) := hw ▸ r'.wipe vs
      unfold cl at hl
      split at hl
      · cases hl
      · rename_i ρ2 hg2
        obtain ⟨b, ρ3, hc3, hl⟩ := bnd_some hl
        refine ⟨ds[i], _, ρ2, A, _, G', hg2, rw', z, fun σ2 r2 w2 => ⟨(w2 vs hv).trans wipe_idem, ?_⟩⟩
        have w2' : L2.wipe σ2 vs = L2.wipe σ vs := (w2 vs hv).trans wipe_idem
        refine ⟨ρ2, b, ρ3, A, _, G', hc3, r2, fun G3 H3 s3 r3 => ?_⟩
        cases b with
        | true =>
          rw [if_pos rfl] at hl
          rw [if_pos rfl]
          obtain ⟨y, ρ4, he4, hl⟩ := bnd_some hl
          obtain ⟨ys, ρ5, he5, hl⟩ := bnd_some hl
          cases hl
          refine ⟨ρ3, y, ρ4, A, _, G3, he4, r3, fun v G4 H4 s4 r4 z4 => ?_⟩
          have s04 : Same Gi G4 := (s'.trans s3).trans s4
          refine ⟨acc, r4.fh D _ upd_same, by omega, rfl, by omega, σ2, ρ4, G4, acc ++ [v], da ++ [y], ys, w2', si.trans s04, r4.chgF, (ha.up s04).app (.one z4), ?_, he5, ?_⟩
          · rw [List.length_append]
            exact Nat.add_le_add_right hal 1
          · rw [List.append_assoc]
            exact hes
        | false =>
          rw [if_neg (by decide)] at hl
          rw [if_neg (by decide)]
          exact ⟨rfl, by omega, σ2, ρ3, G3, acc, da, rest, w2', si.trans (s'.trans s3), r3, ha.up (s'.trans s3), by omega, hl, hes⟩
    · have e : i = ds.length := by omega
      subst e
      rw [List.drop_length] at hl
      unfold cl at hl
      cases hl
      rw [List.append_nil] at hes
      subst hes
      refine .inl ⟨Y.stop H2 (si.trans ri.gh), k D acc Gi H2 fD (s1.trans si) ?_ ha (by omega)⟩
      exact Rel.unwipe (hw ▸ ri.wipe vs)
  · cases h2
theorem fl_lc (own : List (Str × Nat)) (hc : X.calm = true) (hN : X.N.Nodup) (hi : FI X tg iter fi) (ok : BlkOk X.N X.env.scope scope own)
    (hg : ∀ s H C cl fp, FG (X.blk s H scope (compEnvC scope cl C X.env) fp) tg is gg) (ht : ∀ s H C cl fp, FTs (X.blk s H scope (compEnvC scope cl C X.env) fp) ifs c)
    (he : ∀ s H C cl fp, FE (X.blk s H scope (compEnvC scope cl C X.env) fp) elt f) (hv : ∀ i ∈ is, i ∈ own.map (·.2) := by decide) (hs : ∀ x, foldedSetIterable iter X.env x = pure x := by intro _; rfl) :
    FL X (.ListComp elt [⟨tg, iter, ifs, 0⟩] scope pos) (fComp (own.map (·.2)) fi gg c f) := by
  obtain ⟨wi, p, q⟩ := hi
  exact ⟨_, pe_lc hc hN p ok (fun s H C cl fp => (show PG _ tg (TGt X.K is gg) from (hg s H C cl fp).can)) (fun s H C cl fp => (show PTs _ ifs (TB X.K c) from (ht s H C cl fp).can)) (fun s H C cl fp => (show PE _ elt (TF X.K f) from (he s H C cl fp).can)) hs, lc_spec hv q⟩
/-- y = [..], kept -/
theorem fs_lcV {i : Nat} {y : Str} {py spos : Pos} (own : List (Str × Nat)) (hc : X.calm = true) (hN : X.N.Nodup) (hy : X.N[i]? = some y) (hyl : X.env.scope.names.lookup y = some .local) (hsw : swapsWith (.ListComp elt [⟨tg, iter, ifs, 0⟩] scope pos) (some (.Name y py)) spos.line X.env = pure true)
    (hi : FI X tg iter fi) (ok : BlkOk X.N X.env.scope scope own) (hg : ∀ s H C cl fp, FG (X.blk s H scope (compEnvC scope cl C X.env) fp) tg is gg) (ht : ∀ s H C cl fp, FTs (X.blk s H scope (compEnvC scope cl C X.env) fp) ifs c)
    (he : ∀ s H C cl fp, FE (X.blk s H scope (compEnvC scope cl C X.env) fp) elt f) (hv : ∀ i ∈ is, i ∈ own.map (·.2) := by decide) (hs : ∀ x, foldedSetIterable iter X.env x = pure x := by intro _; rfl) :
    FS X (.Assign [.Name y py] (.ListComp elt [⟨tg, iter, ifs, 0⟩] scope pos) spos) (sSet i (fAsL (fComp (own.map (·.2)) fi gg c f))) := by
  obtain ⟨wi, p, q⟩ := hi
  refine ⟨_, ps_setLc hc hN hy hyl hsw p ok (fun s H C cl fp => (show PG _ tg (TGt X.K is gg) from (hg s H C cl fp).can)) (fun s H C cl fp => (show PTs _ ifs (TB X.K c) from (ht s H C cl fp).can)) (fun s H C cl fp => (show PE _ elt (TF X.K f) from (he s H C cl fp).can)) hs, fun ρ o h A F G H σ D R k => ?_⟩
  obtain ⟨d, ρ1, h3, h4⟩ := bnd_some h
  obtain ⟨es, ρ2, h5, h6⟩ := bnd_some h3
  cases h6
  cases h4
  refine lc_spec hv q ρ es _ h5 A F G H σ _ R fun a xs G' H' fa s r z _ => ?_
  have g0 : G' a = none := r.fg a _ upd_same
  exact k _ _ H' (s.trans (same_new g0)) ((r.keepF fa).putV i (.lst upd_same (z.up (same_new g0))))
/-- y = [..], one's own -/
theorem fs_lcO {i : Nat} {y : Str} {py spos : Pos} (own : List (Str × Nat)) (hc : X.calm = true) (hN : X.N.Nodup) (hy : X.N[i]? = some y) (hyl : X.env.scope.names.lookup y = some .local) (hsw : swapsWith (.ListComp elt [⟨tg, iter, ifs, 0⟩] scope pos) (some (.Name y py)) spos.line X.env = pure true)
    (hi : FI X tg iter fi) (ok : BlkOk X.N X.env.scope scope own) (hg : ∀ s H C cl fp, FG (X.blk s H scope (compEnvC scope cl C X.env) fp) tg is gg) (ht : ∀ s H C cl fp, FTs (X.blk s H scope (compEnvC scope cl C X.env) fp) ifs c)
    (he : ∀ s H C cl fp, FE (X.blk s H scope (compEnvC scope cl C X.env) fp) elt f) (hv : ∀ i ∈ is, i ∈ own.map (·.2) := by decide) (hs : ∀ x, foldedSetIterable iter X.env x = pure x := by intro _; rfl) :
    FS X (.Assign [.Name y py] (.ListComp elt [⟨tg, iter, ifs, 0⟩] scope pos) spos) (sOwn i (fComp (own.map (·.2)) fi gg c f)) := by
  obtain ⟨wi, p, q⟩ := hi
  refine ⟨_, ps_setLc hc hN hy hyl hsw p ok (fun s H C cl fp => (show PG _ tg (TGt X.K is gg) from (hg s H C cl fp).can)) (fun s H C cl fp => (show PTs _ ifs (TB X.K c) from (ht s H C cl fp).can)) (fun s H C cl fp => (show PE _ elt (TF X.K f) from (he s H C cl fp).can)) hs, fun ρ o h A F G H σ D R k => ?_⟩
  obtain ⟨es, ρ2, h5, h6⟩ := bnd_some h
  cases h6
  exact lc_spec hv q ρ es _ h5 A F G H σ _ R fun a xs G' H' fa s r z _ => k _ G' H' s (r.putOwn fa i z)
end

/-! ## changing a list of one's own -/
section
variable {X : Cx} {e o a b : Expr} {st : Stmt} {f g : EF} {i : Nat}
@[simp] def sApp (i : Nat) (f : EF) : SF := fun ρ => match ρ[i]? with
  | some (.own _) => bnd (f ρ) fun d ρ1 => match ρ1[i]? with
    | some (.own ds) => if Nat.blt ds.length 16777216 = true then some (.nx (ρ1.set i (.own (ds ++ [d])))) else none
    | _ => none
  | _ => none
theorem blt_line {n : Nat} (h : Nat.blt n 16777216 = true) : n < sizeLine := by
  rw [sizeLine_eq]
  exact Nat.le_of_ble_eq_true h
theorem fs_app (mk : ∀ t, PE X e t → PS X st (tDrop (tBM X.K "list" rAppend (tVar i) (tCons t tNil)))) (he : FE X e f) : FS X st (sApp i f) := by
  obtain ⟨t, p, q⟩ := he
  refine ⟨_, mk t p, fun ρ o h A F G H σ D R k => ?_⟩
  unfold sApp at h
  split at h
  · rename_i ds0 hi0
    obtain ⟨d, ρ1, h1, h2⟩ := bnd_some h
    obtain ⟨p0, xs0, e0, e1, e2, _⟩ := R.atOwn hi0
    refine ⟨_, e0, Or.inl ⟨rfl, _, Or.inl (Or.inl e1)⟩, q ρ d ρ1 h1 A F G H σ _ R fun x G' H' s r z => ?_⟩
    split at h2
    · rename_i ds hi
      split at h2
      · rename_i hz
        cases h2
        obtain ⟨p1, xs, e3, e4, e5, _⟩ := r.atOwn hi
        rw [e0] at e3
        cases e3
        refine ⟨_, xs, x, rfl, rfl, e4, by rw [e5.len]; exact blt_line hz, ?_⟩
        exact k σ G' _ s (r.chgOwn hi e0 (e5.app (.one z)))
      · cases h2
    · cases h2
  · cases h
/-- xs.extend(a list) -/
@[simp] def sExt (i : Nat) (f : EF) : SF := fun ρ => match ρ[i]? with
  | some (.own _) => bnd (f ρ) fun d ρ1 => match d, ρ1[i]? with
    | .list es, some (.own ds) => if Nat.ble (ds.length + es.length) 16777216 = true then some (.nx (ρ1.set i (.own (ds ++ es)))) else none
    | _, _ => none
  | _ => none
theorem fs_ext (mk : ∀ t, PE X e t → PS X st (tDrop (tBM X.K "list" rExtend (tVar i) (tCons t tNil)))) (he : FE X e f) : FS X st (sExt i f) := by
  obtain ⟨t, p, q⟩ := he
  refine ⟨_, mk t p, fun ρ o h A F G H σ D R k => ?_⟩
  unfold sExt at h
  split at h
  · rename_i ds0 hi0
    obtain ⟨d, ρ1, h1, h2⟩ := bnd_some h
    obtain ⟨p0, xs0, e0, e1, e2, _⟩ := R.atOwn hi0
    refine ⟨_, e0, Or.inl ⟨rfl, _, Or.inl (Or.inl e1)⟩, q ρ d ρ1 h1 A F G H σ _ R fun x G' H' s r z => ?_⟩
    split at h2
    · rename_i es ds hi
      split at h2
      · rename_i hz
        cases h2
        obtain ⟨p1, xs, e3, e4, e5, _⟩ := r.atOwn hi
        rw [e0] at e3
        cases e3
        cases z with | lst z1 z2 =>
        refine ⟨_, _, xs, _, rfl, rfl, e4, r.gh _ _ z1, by rw [e5.len, z2.len]; exact ble_line hz, ?_⟩
        exact k σ G' _ s (r.chgOwn hi e0 (e5.app z2))
      · cases h2
    · cases h2
  · cases h
/-- xs[j] = e -/
def ixP (n : Nat) (i : Int) : Option Nat := match i with
  | .ofNat k => if Nat.blt k n = true then some k else none
  | .negSucc k => if Nat.blt k n = true then some (n - (k + 1)) else none
theorem ixP_ok {n : Nat} {i : Int} {j : Nat} (h : ixP n i = some j) : ixN n i = some j := by
  unfold ixN
  cases i with
  | ofNat k =>
    have h' : (if Nat.blt k n = true then some k else none) = some j := h
    by_cases hk : Nat.blt k n = true
    · rw [if_pos hk] at h'
      have e : k = j := Option.some.inj h'
      subst e
      have hk' : k + 1 ≤ n := Nat.le_of_ble_eq_true hk
      rw [if_pos (show (0 : Int) ≤ Int.ofNat k from Int.natCast_nonneg k), if_pos (show Int.ofNat k < (n : Int) from Int.ofNat_lt.mpr (by omega))]
      rfl
    · rw [if_neg hk] at h'
      cases h'
  | negSucc k =>
    have h' : (if Nat.blt k n = true then some (n - (k + 1)) else none) = some j := h
    by_cases hk : Nat.blt k n = true
    · rw [if_pos hk] at h'
      cases h'
      have hk' : k + 1 ≤ n := Nat.le_of_ble_eq_true hk
      rw [if_neg (show ¬ (0 : Int) ≤ Int.negSucc k by omega), if_pos (show -(n : Int) ≤ Int.negSucc k by omega)]
      congr 1
      omega
    · rw [if_neg hk] at h'
      cases h'
@[simp] def sIx (i : Nat) (f g : EF) : SF := fun ρ => bnd (f ρ) fun d ρ1 => match ρ1[i]? with
  | some (.own _) => bnd (g ρ1) fun j ρ2 => match j, ρ2[i]? with
    | .int j, some (.own ds) => match ixP ds.length j with
      | some n => some (.nx (ρ2.set i (.own (ds.set n d))))
      | none => none
    | _, _ => none
  | _ => none
theorem fs_ix (mk : ∀ t u, PE X e t → PE X b u → PS X st (tAsg t (gSub (tVar i) u rSetL))) (hi : FE X b g) (he : FE X e f) : FS X st (sIx i f g) := by
  obtain ⟨t, p, q⟩ := he
  obtain ⟨t2, p2, q2⟩ := hi
  refine ⟨_, mk t t2 p p2, fun ρ o h A F G H σ D R k => ?_⟩
  obtain ⟨d, ρ1, h3, h4⟩ := bnd_some h
  refine q ρ d ρ1 h3 A F G H σ _ R fun x G1 H1 s1 r1 z1 => ?_
  split at h4
  · rename_i ds0 hi0
    obtain ⟨j, ρ2, h5, h6⟩ := bnd_some h4
    obtain ⟨p0, xs0, e0, e1, e2, _⟩ := r1.atOwn hi0
    refine ⟨_, e0, q2 ρ1 j ρ2 h5 A F G1 H1 σ _ r1 fun y G2 H2 s2 r2 z2 => ?_⟩
    split at h6
    · rename_i j ds hi
      split at h6
      · rename_i n hn
        cases h6
        obtain ⟨p1, xs, e3, e4, e5, _⟩ := r2.atOwn hi
        rw [e0] at e3
        cases e3
        cases z2
        refine ⟨_, xs, j, n, rfl, rfl, e4, by rw [e5.len]; exact ixP_ok hn, ?_⟩
        exact k σ G2 _ (s1.trans s2) (r2.chgOwn hi e0 (e5.st (z1.up s2) n))
      · cases h6
    · cases h6
  · cases h4
/-- xs.pop() -/
@[simp] def fPop (i : Nat) : EF := fun ρ => match ρ[i]? with
  | some (.own ds) => match ds[ds.length - 1]? with
    | some d => some (d, ρ.set i (.own ds.dropLast))
    | none => none
  | _ => none
theorem DqA.dl {K : PySem.W.Frag} {H : Hp} {ds : List PyData} {vs : List V} (h : DqA K H vs ds) : DqA K H vs.dropLast ds.dropLast := by
  rw [List.dropLast_eq_take, List.dropLast_eq_take, h.len]
  exact h.tk _
theorem fe_pop (h : PE X e (tBM0 X.K "list" rPop (tVar i))) : FE X e (fPop i) := by
  refine ⟨_, h, fun ρ d ρ' h A F G H σ Q R k => ?_⟩
  unfold fPop at h
  split at h
  · rename_i ds hi
    split at h
    · rename_i d' hd
      cases h
      obtain ⟨p0, xs, e0, e1, e2, _⟩ := R.atOwn hi
      obtain ⟨v, h1, h2⟩ := e2.get hd
      rw [← e2.len] at h1
      exact ⟨_, e0, Or.inl ⟨rfl, _, Or.inl (Or.inl e1)⟩, _, xs, v, rfl, rfl, e1, h1, k v G _ (Same.refl G) (R.chgOwn hi e0 e2.dl) h2⟩
    · cases h
  · cases h
/-- xs.pop(j), j from 0 on -/
@[simp] def fPopAt (i : Nat) (g : EF) : EF := fun ρ => match ρ[i]? with
  | some (.own _) => bnd (g ρ) fun j ρ1 => match j, ρ1[i]? with
    | .int (.ofNat n), some (.own ds) => match ds[n]? with
      | some d => if Nat.ble ds.length 16777216 = true then some (d, ρ1.set i (.own (ds.eraseIdx n))) else none
      | none => none
    | _, _ => none
  | _ => none
theorem DqA.er {K : PySem.W.Frag} {H : Hp} : ∀ {ds : List PyData} {vs : List V} (n : Nat), DqA K H vs ds → DqA K H (vs.eraseIdx n) (ds.eraseIdx n)
  | [], _, n, h => by cases h; simp; exact .nil
  | _ :: _, _, 0, h => by cases h with | cons q r => exact r
  | _ :: _, _, n + 1, h => by cases h with | cons q r => exact .cons q (DqA.er n r)
theorem fe_popAt (mk : ∀ t, PE X e t → PE X o (tBM X.K "list" rPopAt (tVar i) (tCons t tNil))) (he : FE X e f) : FE X o (fPopAt i f) := by
  obtain ⟨t, p, q⟩ := he
  refine ⟨_, mk t p, fun ρ d ρ' h A F G H σ Q R k => ?_⟩
  unfold fPopAt at h
  split at h
  · rename_i ds0 hi0
    obtain ⟨j, ρ1, h1, h2⟩ := bnd_some h
    obtain ⟨p0, xs0, e0, e1, e2, _⟩ := R.atOwn hi0
    refine ⟨_, e0, Or.inl ⟨rfl, _, Or.inl (Or.inl e1)⟩, q ρ j ρ1 h1 A F G H σ _ R fun x G' H' s r z => ?_⟩
    split at h2
    · rename_i n ds hi
      split at h2
      · rename_i d' hd
        split at h2
        · rename_i hz
          cases h2
          obtain ⟨p1, xs, e3, e4, e5, _⟩ := r.atOwn hi
          rw [e0] at e3
          cases e3
          cases z
          obtain ⟨v, h3, h4⟩ := e5.get hd
          have hn : n < xs.length := (List.getElem?_eq_some_iff.mp h3).1
          have hl := e5.len
          have hz' : ds.length ≤ 16777216 := Nat.le_of_ble_eq_true hz
          have hk : ixN xs.length (Int.ofNat n) = some n := by
            unfold ixN
            rw [if_pos (show (0 : Int) ≤ Int.ofNat n from Int.natCast_nonneg n), if_pos (show Int.ofNat n < (xs.length : Int) from Int.ofNat_lt.mpr hn)]
            rfl
          refine ⟨_, xs, Int.ofNat n, n, v, rfl, rfl, e4, ?_, ?_, (ixN_seq hk).1, h3, k v G' _ s (r.chgOwn hi e0 (e5.er n)) h4⟩
          · show -(2 ^ 63) ≤ ((n : Nat) : Int)
            omega
          · show ((n : Nat) : Int) < 2 ^ 63
            omega
        · cases h2
      · cases h2
    · cases h2
  · cases h
end
/-! ## a, b = x, y -/
section
variable {X : Cx} {a b : Expr} {f g : EF}
@[simp] def sPar (i j : Nat) (f g : EF) : SF := fun ρ => bnd (f ρ) fun x ρ1 => bnd (g ρ1) fun y ρ2 => some (.nx ((ρ2.set i (.v x)).set j (.v y)))
theorem fs_par {st : Stmt} {i j : Nat} (mk : ∀ t u, PE X a t → PE X b u → PS X st (tPar i j (tCons t (tCons u tNil)))) (ha : FE X a f) (hb : FE X b g) : FS X st (sPar i j f g) := by
  obtain ⟨ta, pa, qa⟩ := ha
  obtain ⟨tb, pb, qb⟩ := hb
  refine ⟨_, mk ta tb pa pb, fun ρ o h A F G H σ D R k => ?_⟩
  obtain ⟨d, ρ1, h3, h4⟩ := bnd_some h
  obtain ⟨d2, ρ2, h5, h6⟩ := bnd_some h4
  cases h6
  refine qa ρ d ρ1 h3 A F G H σ _ R fun u G1 H1 s1 r1 z1 => qb ρ1 d2 ρ2 h5 A F G1 H1 σ _ r1 fun v G2 H2 s2 r2 z2 => ⟨u, v, rfl, ?_⟩
  exact k _ G2 H2 (s1.trans s2) ((r2.putV i (z1.up s2)).putV j z2)
end
end Fe
namespace Fe
open PySem PySem.Spec PyProof.Rows L2

/-! ## defs -/
/-- a promise: arguments, heap, what is wanted -/
abbrev Pr := List V → Hp → VK → Prop
/-- the def at f keeps the promise, called where nothing is being shown and no exception leaves -/
structure FnG (P : Program) (w : World) (K : PySem.W.Frag) (mg : Str → Option Value) (base : Heap) (k : Nat) (f : Addr) (fd : FuncData) (ps : List Str) (sp : Pr) : Prop where
  len : ∀ vs H Q, sp vs H Q → vs.length = ps.length
  run : ∀ (A : Around) (outer : List Env) (s : Shared) (H : Hp) (args : Args) (us : List Value) (vs : List V) (Q : VK), Room k A → A.guards = some [] → Env0 P w K mg base A outer s H → BindsTo s fd args (ps.zip us) → Vals vs us → sp vs H Q →
    codeAny (model P w) A (.call (.ref f) args) (CR CX0 outer P w H s Q E0) s
section
variable {P : Program} {w : World} {K : PySem.W.Frag} {mg : Str → Option Value} {base : Heap}
theorem FnG.up {j k : Nat} {f : Addr} {fd : FuncData} {ps : List Str} {sp : Pr} (F : FnG P w K mg base j f fd ps sp) (h : j ≤ k) : FnG P w K mg base k f fd ps sp :=
  ⟨F.len, fun A outer s H args us vs Q r => F.run A outer s H args us vs Q (r.mono h)⟩
end
section
variable {X : Cx} {k : Nat} {f : Addr} {fd : FuncData} {ps : List Str} {sp : Pr} {x : Str} {p pos : Pos} {e : Expr} {es : List Expr} {t : TA}
theorem callG {pins : List (Addr × Obj)} {σ : L2.St} {H : Hp} {s : Shared} {Q : VK} {us : List Value} {vs : List V} (F : FnG X.prog X.w X.K X.mg X.base k f fd ps sp) (hr : Room k X.A) (hG : X.A.guards = some []) (hb : Binds X.K fd ps [])
    (I : Inv X pins σ H s) (rv : Vals vs us) (q : sp vs H Q) : wpAny (model X.prog X.w) X.A (call (.ref f) us) (EP X pins σ Q) X.xe s := by
  have hl : (us ++ []).length = ps.length := by
    rw [List.append_nil, ← rv.length]
    exact F.len _ _ _ q
  have hb' : BindsTo s fd ⟨us, []⟩ (ps.zip us) := by
    have z := hb s us I.kIn hl
    rwa [List.append_nil] at z
  refine wpAny_call (codeAny_mono (F.run X.A X.stack s H ⟨us, []⟩ us vs Q hr hG I.env0 hb' rv q) ?_)
  rintro (e | fl) s' z
  · exact False.elim z
  · cases fl with
    | ret u => exact I.after z
    | next => exact False.elim z
    | brk => exact False.elim z
    | cont => exact False.elim z
theorem pe_callG (F : FnG X.prog X.w X.K X.mg X.base k f fd ps sp) (hr : Room k X.A) (hG : X.A.guards = some []) (hg : Gl X x) (hm : X.mg x = some (.ref f)) (hk : PySem.W.keepIn X.K (.ref f) = true) (hb : Binds X.K fd ps [])
    (ha : PA X (e :: es) t) (hdb : (x == ("__debug__" : Str)) = false := by decide) (he : starEach (e :: es) X.env = (false, eval e X.env) :: starEach es X.env := by rfl) (hpl : (backTo pos (starEach es X.env)).any (·.1) = false := by rfl) :
    PE X (.Call (.Name x p) (e :: es) [] pos) (fun σ H Q => t σ H fun vs H1 => sp vs H1 Q) := by
  constructor
  intro pins s σ H Q I q
  exact wpAny_Call_Name_kw (ld_glob I hg hm (PySem.W.callWith_K (h₀ := X.base) I.ok.mod.kin hk (thn (ha.run pos pins s σ H _ I q) fun us s1 ⟨vs, H1, J, rv, z⟩ => ⟨J.kIn, callG F hr hG hb J rv z⟩) he hpl) hdb)
theorem pe_callG0 (F : FnG X.prog X.w X.K X.mg X.base k f fd ps sp) (hr : Room k X.A) (hG : X.A.guards = some []) (hg : Gl X x) (hm : X.mg x = some (.ref f)) (hk : PySem.W.keepIn X.K (.ref f) = true) (hb : Binds X.K fd ps []) (hdb : (x == ("__debug__" : Str)) = false := by decide) :
    PE X (.Call (.Name x p) [] [] pos) (fun σ H Q => sp [] H Q) := by
  constructor
  intro pins s σ H Q I q
  exact wpAny_Call_Name_kw (ld_glob I hg hm (PySem.W.callWith_K0 I.kIn hk (callG (us := []) F hr hG hb I .nil q)) hdb)
end
/-- the context of a def's body -/
abbrev cx (P : Program) (w : World) (K : PySem.W.Frag) (mg : Str → Option Value) (base : Heap) (N : List Str) (qual : Str) (scope : Scope) (f : Addr) (cdv : Value) (A : Around) (outer : List Env) (s : Shared) (H : Hp) : Cx :=
  (cxOf CX0 P w K mg base N qual scope f cdv A outer s H E0).nox
/-- what a def's body is asked for -/
def BodyAt (P : Program) (w : World) (K : PySem.W.Frag) (mg : Str → Option Value) (base : Heap) (k : Nat) (N : List Str) (qual : Str) (st : Stmt) (f : Addr) (fb : SF) : Prop :=
  ∀ (cdv : Value) (A : Around) (outer : List Env) (s : Shared) (H : Hp), Room k (cx P w K mg base N qual (defScope st) f cdv A outer s H).A → (cx P w K mg base N qual (defScope st) f cdv A outer s H).A.guards = some [] →
    FSs (cx P w K mg base N qual (defScope st) f cdv A outer s H) (defBody st) fb
section
variable {P : Program} {w : World} {K : PySem.W.Frag} {mg : Str → Option Value} {base : Heap}
theorem fnG_of {x qual : Str} {st : Stmt} {f : Addr} {fd : FuncData} {N ps : List Str} {k : Nat} {sp : Pr} (D : Fun K x qual st f fd) (S : FnScope N ps (defScope st)) (len : ∀ vs H Q, sp vs H Q → vs.length = ps.length)
    (hb : ∀ (cdv : Value) (A : Around) (outer : List Env) (s : Shared) (H : Hp) (vs : List V) (Q : VK), Room k (cx P w K mg base N qual (defScope st) f cdv A outer s H).A → (cx P w K mg base N qual (defScope st) f cdv A outer s H).A.guards = some [] → sp vs H Q →
      ∃ t, PSs (cx P w K mg base N qual (defScope st) f cdv A outer s H) (defBody st) t ∧ t { nx := fun _ H' => Q .non H', rt := Q } (L2.start N vs) H) : FnG P w K mg base (k + 1) f fd ps sp := by
  obtain ⟨oc, od, kV, doc, pm, an, cdv, ct, osl, hfd, lk, hcd⟩ := D.ex
  subst hfd
  refine ⟨len, ?_⟩
  intro A outer s H args us vs Q hr hG e0 hbind rv q
  have hlen := len vs H Q q
  have KX : K.In s.heap := e0.mod.kin.keeps fun b o z => (e0.bs b o z).1
  have hkind : ∀ y ∈ ps.zip us, (defScope st).names.lookup y.1 = some .local ∨ ((defScope st).names.lookup y.1 = some .cell ∧ ((cellsFrom (s.heap.objs.size + 1) (defScope st).names []).lookup y.1).isSome = true) := by
    rintro ⟨n, v⟩ hy
    rcases S.par n (List.of_mem_zip hy).1 with z | z
    · exact Or.inl z
    · exact Or.inr ⟨z, PySem.W.cellsFrom_some _ _ _ (Or.inl z)⟩
  refine codeAny_call_function hr.depth (KX _ _ lk) rfl S.co S.gen rfl (PySem.W.codeRec_of KX hcd) (hbind _ _ _ _ (wpAny_newFunctionEnv_cells S.kind hkind ?_))
  intro env he s1 y
  subst he
  refine ⟨(e0.mod.nolimit.keeps fun b o z => (e0.bs b o z).1).keeps y.toInCall.keep, codeAny_func ?_⟩
  obtain ⟨t, ht, hq⟩ := hb cdv A outer s H vs Q (hr.deeper _) hG q
  have J := inv_start (CX := CX0) (E := E0) S hr.hd e0 hlen rv y
  refine wpAny_mono (ht.nox.run [] s1 (L2.start N vs) H _ J hq) ?_ fun _ _ z => z
  intro fl s' z
  cases fl with
  | ret u =>
    obtain ⟨v, σ', H', J', r', z⟩ := z
    exact ⟨v, H', J'.os, J'.bare, J'.base, J'.hok, r', z⟩
  | next =>
    obtain ⟨σ', H', J', z⟩ := z
    exact ⟨.non, H', J'.os, J'.bare, J'.base, J'.hok, rfl, z⟩
  | brk =>
    obtain ⟨_, _, _, z⟩ := z
    exact z.elim
  | cont =>
    obtain ⟨_, _, _, z⟩ := z
    exact z.elim
end

/-! ### a def that computes a function -/
/-- what is not in G -/
def off (G H : Hp) : Hp := fun a => match G a with
  | some _ => none
  | none => H a
theorem off_none {G H : Hp} {a : Addr} (h : G a = none) : off G H a = H a := by
  unfold off
  rw [h]
theorem off_some {G H : Hp} {a : Addr} {o : HO} (h : off G H a = some o) : G a = none ∧ H a = some o := by
  unfold off at h
  split at h
  · cases h
  · rename_i e
    exact ⟨e, h⟩
def spF (K : PySem.W.Frag) (F : List PyData → Option PyData) : Pr := fun vs H Q => ∃ G ds r, Same G H ∧ DqA K G vs ds ∧ F ds = some r ∧
  ∀ x G' H', Same G G' → Same G' H' → Same H H' → (∀ a o, H a = some o → G a = none → G' a = none) → Dq K G' x r → Q x H'
@[simp] def fCall (F : List PyData → Option PyData) (l : LF) : EF := fun ρ => bnd (l ρ) fun ds ρ1 => ret ρ1 (F ds)
theorem rel_call {K : PySem.W.Frag} {A : Option Addr} {F G G' H H' : Hp} {ρ : En} {σ : L2.St} (R : Rel K A F G H ρ σ) (s : Same G G') (g : Same G' H') (h : Same H H') (n : ∀ a o, H a = some o → G a = none → G' a = none) : Rel K A F G' H' ρ σ :=
  R.to s g (R.fh.trans h) (fun a o e => n a o (R.fh a o e) (R.fg a o e)) (fun a o _ _ e => h a o e) fun a f g' e => ⟨f, by
    cases q : H a with
    | none => exact absurd q e
    | some o => exact n a o q g'⟩
section
variable {X : Cx} {k : Nat} {f : Addr} {fd : FuncData} {ps : List Str} {x : Str} {p pos : Pos} {e : Expr} {es : List Expr} {l : LF} {Fn : List PyData → Option PyData}
theorem fe_call (D : FnG X.prog X.w X.K X.mg X.base k f fd ps (spF X.K Fn)) (hr : Room k X.A) (hG : X.A.guards = some []) (hg : Gl X x) (hm : X.mg x = some (.ref f)) (hk : PySem.W.keepIn X.K (.ref f) = true) (hb : Binds X.K fd ps [])
    (ha : FA X (e :: es) l) (hdb : (x == ("__debug__" : Str)) = false := by decide) (he : starEach (e :: es) X.env = (false, eval e X.env) :: starEach es X.env := by rfl) (hpl : (backTo pos (starEach es X.env)).any (·.1) = false := by rfl) :
    FE X (.Call (.Name x p) (e :: es) [] pos) (fCall Fn l) := by
  obtain ⟨t, pt, q⟩ := ha
  refine ⟨_, pe_callG D hr hG hg hm hk hb pt hdb he hpl, fun ρ d ρ' h A F G H σ Q R kk => ?_⟩
  obtain ⟨ds, ρ1, h1, h2⟩ := bnd_some h
  obtain ⟨h3, rfl⟩ := ret_some h2
  refine q ρ ds _ h1 A F G H σ _ R fun xs G1 H1 s1 R1 z1 => ?_
  exact ⟨G1, ds, d, R1.gh, z1, h3, fun x G' H' s g h n z => kk x G' H' (s1.trans s) (rel_call R1 s g h n) z⟩
theorem fe_call0 (D : FnG X.prog X.w X.K X.mg X.base k f fd ps (spF X.K Fn)) (hr : Room k X.A) (hG : X.A.guards = some []) (hg : Gl X x) (hm : X.mg x = some (.ref f)) (hk : PySem.W.keepIn X.K (.ref f) = true) (hb : Binds X.K fd ps []) (hdb : (x == ("__debug__" : Str)) = false := by decide) :
    FE X (.Call (.Name x p) [] [] pos) (fCall Fn fNil) := by
  refine ⟨_, pe_callG0 D hr hG hg hm hk hb hdb, fun ρ d ρ' h A F G H σ Q R kk => ?_⟩
  obtain ⟨ds, ρ1, h1, h2⟩ := bnd_some h
  obtain ⟨h3, rfl⟩ := ret_some h2
  cases h1
  exact ⟨G, [], d, R.gh, .nil, h3, fun x G' H' s g h n z => kk x G' H' s (rel_call R s g h n) z⟩
end
@[simp] def outV : Out → PyData
  | .rt d _ => d
  | _ => .none
@[simp] def outE : Out → Bool
  | .rt _ _ => true
  | .nx _ => true
  | _ => false
@[simp] def start1 (m : Nat) (ds : List PyData) : En := ds.map Sl.v ++ List.replicate (m - ds.length) Sl.un
abbrev start0 (N : List Str) (ds : List PyData) : En := start1 N.length ds
theorem rel_start {K : PySem.W.Frag} {A : Option Addr} {G H : Hp} {N : List Str} {vs : List V} {ds : List PyData} (s : Same G H) (h : DqA K G vs ds) : Rel K A (off G H) G H (start0 N ds) (L2.start N vs) := by
  have hl := h.len
  refine ⟨s, fun a o e => (off_some e).2, fun a o e => (off_some e).1, by simp [start0, start1, L2.start, hl], fun _ => [], fun i u e => ?_, fun i j a e => (nomatch e), fun i a e => (nomatch e)⟩
  unfold start0 start1 at e
  unfold L2.start
  by_cases hi : i < ds.length
  · rw [List.getElem?_append_left (by simpa using hi), List.getElem?_map, List.getElem?_eq_getElem hi] at e
    cases e
    obtain ⟨v, h1, h2⟩ := h.get (List.getElem?_eq_getElem hi)
    refine ⟨some v, ?_, rfl, v, rfl, h2⟩
    rw [List.getElem?_append_left (by simpa [hl] using hi), List.getElem?_map, h1]
    rfl
  · rw [List.getElem?_append_right (by simpa using Nat.le_of_not_lt hi), List.getElem?_replicate] at e
    split at e
    · rename_i hj
      cases e
      refine ⟨none, ?_, rfl⟩
      rw [List.getElem?_append_right (by simpa [hl] using Nat.le_of_not_lt hi), List.getElem?_replicate]
      rw [if_pos (by simpa [hl] using hj)]
    · cases e
section
variable {P : Program} {w : World} {K : PySem.W.Frag} {mg : Str → Option Value} {base : Heap}
theorem fnF {x qual : Str} {st : Stmt} {f : Addr} {fd : FuncData} {N ps : List Str} {k : Nat} {fb : SF} {Fn : List PyData → Option PyData} (D : Fun K x qual st f fd) (S : FnScope N ps (defScope st))
    (hb : BodyAt P w K mg base k N qual st f fb) (hF : ∀ ds r, Fn ds = some r → ds.length = ps.length ∧ ∃ o, fb (start0 N ds) = some o ∧ outE o = true ∧ outV o = r) : FnG P w K mg base (k + 1) f fd ps (spF K Fn) := by
  refine fnG_of D S (fun vs H Q h => ?_) fun cdv A outer s H vs Q hr hG h => ?_
  · obtain ⟨G, ds, r, _, h1, h2, _⟩ := h
    rw [h1.len]
    exact (hF ds r h2).1
  · obtain ⟨G, ds, r, h0, h1, h2, h3⟩ := h
    obtain ⟨_, o, h4, h5, h6⟩ := hF ds r h2
    obtain ⟨t, pt, q⟩ := hb cdv A outer s H hr hG
    refine ⟨t, pt, q _ o h4 none _ G H _ _ (rel_start h0 h1) ?_⟩
    have fin : ∀ {ρ' : En} {σ' : L2.St} {G' H' : Hp} {v : V}, Same G G' → Rel K none (off G H) G' H' ρ' σ' → Dq K G' v r → Q v H' := by
      intro ρ' σ' G' H' v s' R' z
      refine h3 v G' H' s' R'.gh (fun a u e => ?_) (fun a u e g => R'.fg a u ((off_none g).trans e)) z
      cases g : G a with
      | none => exact R'.fh a u ((off_none g).trans e)
      | some u' =>
        have := h0 a u' g
        rw [e] at this
        cases this
        exact R'.gh a u (s' a u g)
    cases o with
    | nx ρ' =>
      have h6 : PyData.none = r := h6
      subst h6
      exact fun σ' G' H' s' R' => fin s' R' .non
    | rt d ρ' =>
      have h6 : d = r := h6
      subst h6
      exact fun v σ' G' H' s' R' z => fin s' R' z
    | bk ρ' => cases h5
    | ct ρ' => cases h5
/-- the def's function: its body, run -/
def runF (n m : Nat) (fb : SF) : List PyData → Option PyData := fun ds => if (ds.length == n) = true then (match fb (start1 m ds) with
  | some (.rt d _) => some d
  | some (.nx _) => some .none
  | _ => none) else none
theorem fnRun {x qual : Str} {st : Stmt} {f : Addr} {fd : FuncData} {N ps : List Str} {k n m : Nat} {fb : SF} (D : Fun K x qual st f fd) (S : FnScope N ps (defScope st)) (hb : BodyAt P w K mg base k N qual st f fb)
    (hn : ps.length = n := by rfl) (hm : N.length = m := by rfl) : FnG P w K mg base (k + 1) f fd ps (spF K (runF n m fb)) := by
  subst hn
  subst hm
  refine fnF D S hb fun ds r h => ?_
  unfold runF at h
  split at h
  · rename_i hl
    refine ⟨by simpa using hl, ?_⟩
    split at h
    · rename_i e
      cases h
      exact ⟨_, e, rfl, rfl⟩
    · rename_i e
      cases h
      exact ⟨_, e, rfl, rfl⟩
    · cases h
  · cases h
end
end Fe
namespace Fe
open PySem PySem.Spec PyProof.Rows L2

/-! ## the draws' source, handed on -/
def srcKv (c : Addr) (s : Src) : List (Key × V) := [(.inr "cells", .ref c), (.inr "left", .int s.left), (.inr "mixed", .int s.mixed), (.inr "turn", .int s.turn)]
def spS (K : PySem.W.Frag) (F : Src → List PyData → Option (PyData × Src)) : Pr := fun vs H Q => ∃ a c us G s ds r s', vs = .ref a :: us ∧ Same G H ∧ SrcAt H a c s ∧ G a = none ∧ G c = none ∧ DqA K G us ds ∧ F s ds = some (r, s') ∧
  ∀ x c' G' H', Same G G' → Same G' H' → (∀ b o, H b = some o → b ≠ a → b ≠ c → H' b = some o) → (∀ b o, H b = some o → b ≠ a → b ≠ c → G b = none → G' b = none) → SrcAt H' a c' s' → (c' = c ∨ H c' = none) → G' a = none → G' c' = none → Dq K G' x r → Q x H'
@[simp] def fCallS (i : Nat) (F : Src → List PyData → Option (PyData × Src)) (l : LF) : EF := fun ρ => match ρ[i]? with
  | some (.src _) => bnd (l ρ) fun ds ρ1 => match ρ1[i]? with
    | some (.src s) => match F s ds with
      | some (r, s') => some (r, ρ1.set i (.src s'))
      | none => none
    | _ => none
  | _ => none
section
variable {K : PySem.W.Frag} {A : Option Addr} {F G G' H H' : Hp} {ρ : En} {σ : L2.St}
theorem Rel.atSrc (k : Rel K A F G H ρ σ) {i : Nat} {s : Src} (h : ρ[i]? = some (.src s)) : ∃ a c, A = some a ∧ σ[i]? = some (some (.ref a)) ∧ SrcAt H a c s ∧ F a = none ∧ F c = none ∧ G a = none ∧ G c = none := by
  obtain ⟨R, r1, _, r3⟩ := k.rg
  obtain ⟨x, h1, a, c, e, q1, rfl, h2⟩ := r1 i _ h
  obtain ⟨f1, f2, _⟩ := r3 i a (by rw [e]; simp)
  obtain ⟨f3, f4, _⟩ := r3 i c (by rw [e]; simp)
  exact ⟨a, c, q1, h1, h2, f1, f3, f2, f4⟩
theorem Rel.chgSrc (k : Rel K A F G H ρ σ) {i : Nat} {s s' : Src} {a c c' : Addr} (h : ρ[i]? = some (.src s)) (hA : A = some a) (hs : SrcAt H a c s) (g : Same G G') (gh : Same G' H') (kp : ∀ b o, H b = some o → b ≠ a → b ≠ c → H' b = some o)
    (n : ∀ b o, H b = some o → b ≠ a → b ≠ c → G b = none → G' b = none) (hs' : SrcAt H' a c' s') (hc : c' = c ∨ H c' = none) (hga : G' a = none) (hg : G' c' = none) : Rel K A F G' H' (ρ.set i (.src s')) σ := by
  obtain ⟨R, r1, r2, r3⟩ := k.rg
  obtain ⟨x, h1, a0, c0, e0, q0, rfl, h2⟩ := r1 i _ h
  have ea : a0 = a := by
    rw [hA] at q0
    exact (Option.some.inj q0).symm
  subst ea
  have ec : c0 = c := by
    have z := h2.1.symm.trans hs.1
    injection z with z
    injection z with z
    simp at z
    exact z
  subst ec
  have aR : a0 ∈ R i := by rw [e0]; simp
  have cR : c0 ∈ R i := by rw [e0]; simp
  obtain ⟨fa, ga, _⟩ := r3 i a0 aR
  obtain ⟨fc, gc, _⟩ := r3 i c0 cR
  have fF : ∀ b o, F b = some o → H' b = some o := fun b o e => kp b o (k.fh b o e) (fun z => by
    subst z
    rw [fa] at e
    cases e) fun z => by
    subst z
    rw [fc] at e
    cases e
  have notF : ∀ b o, F b = some o → b ≠ a0 ∧ b ≠ c0 := fun b o e => by
    constructor
    · intro z
      subst z
      rw [fa] at e
      cases e
    · intro z
      subst z
      rw [fc] at e
      cases e
  have notR : ∀ j, j ≠ i → ∀ b ∈ R j, b ≠ a0 ∧ b ≠ c0 := fun j hj b hb => ⟨fun z => hj (r2 j i b hb (z ▸ aR)), fun z => hj (r2 j i b hb (z ▸ cR))⟩
  refine ⟨gh, fF, fun b o e => n b o (k.fh b o e) (notF b o e).1 (notF b o e).2 (k.fg b o e), by simp [k.len], Rg R i [a0, c'], fun j u e => ?_, fun j l b e1 e2 => ?_, fun j b e => ?_⟩
  · by_cases hj : j = i
    · subst hj
      rw [List.getElem?_set_self (List.getElem?_eq_some_iff.mp h).1] at e
      cases e
      rw [rg_same]
      exact ⟨_, h1, a0, c', rfl, hA, rfl, hs'⟩
    · rw [List.getElem?_set_ne (Ne.symm hj)] at e
      rw [rg_ne hj]
      obtain ⟨x, q1, q2⟩ := r1 j u e
      refine ⟨x, q1, q2.up g fun b hb => ?_⟩
      obtain ⟨_, _, o, f3⟩ := r3 j b hb
      obtain ⟨n1, n2⟩ := notR j hj b hb
      rw [f3]
      exact kp b o f3 n1 n2
  · have out : ∀ m, m ≠ i → b ∈ R m → b ≠ a0 ∧ b ≠ c' := fun m hm hb => by
      obtain ⟨n1, n2⟩ := notR m hm b hb
      refine ⟨n1, fun z => ?_⟩
      rcases hc with hc | hc
      · exact n2 (z.trans hc)
      · obtain ⟨_, _, o, f3⟩ := r3 m b hb
        rw [z, hc] at f3
        cases f3
    by_cases hj : j = i
    · by_cases hl : l = i
      · rw [hj, hl]
      · rw [hj, rg_same] at e1
        rw [rg_ne hl] at e2
        obtain ⟨n1, n2⟩ := out l hl e2
        simp at e1
        rcases e1 with e1 | e1
        · exact absurd e1 n1
        · exact absurd e1 n2
    · rw [rg_ne hj] at e1
      by_cases hl : l = i
      · rw [hl, rg_same] at e2
        obtain ⟨n1, n2⟩ := out j hj e1
        simp at e2
        rcases e2 with e2 | e2
        · exact absurd e2 n1
        · exact absurd e2 n2
      · rw [rg_ne hl] at e2
        exact r2 j l b e1 e2
  · by_cases hj : j = i
    · rw [hj, rg_same] at e
      simp at e
      rcases e with e | e
      · subst e
        exact ⟨fa, hga, _, hs'.1⟩
      · subst e
        refine ⟨?_, hg, _, hs'.2⟩
        rcases hc with hc | hc
        · rw [hc]
          exact fc
        · exact none_of k.fh hc
    · rw [rg_ne hj] at e
      obtain ⟨f1, f2, o, f3⟩ := r3 j b e
      obtain ⟨n1, n2⟩ := notR j hj b e
      exact ⟨f1, n b o f3 n1 n2 f2, o, kp b o f3 n1 n2⟩
end
section
variable {X : Cx} {e : Expr} {es : List Expr} {l : LF} {Fn : Src → List PyData → Option (PyData × Src)} {i : Nat}
theorem fe_callS (mk : ∀ t, PA X es t → PE X e (fun σ H Q => tCons (tVar i) t σ H fun vs H1 => spS X.K Fn vs H1 Q)) (ha : FA X es l) : FE X e (fCallS i Fn l) := by
  obtain ⟨t, p, q⟩ := ha
  refine ⟨_, mk t p, fun ρ d ρ' h A F G H σ Q R k => ?_⟩
  unfold fCallS at h
  split at h
  · rename_i s0 hi0
    obtain ⟨ds, ρ1, h1, h2⟩ := bnd_some h
    obtain ⟨a, c, hA, hσ, _⟩ := R.atSrc hi0
    refine ⟨_, hσ, q ρ ds ρ1 h1 A F G H σ _ R fun xs G1 H1 s1 R1 z1 => ?_⟩
    split at h2
    · rename_i s hi
      split at h2
      · rename_i r s' hF
        cases h2
        obtain ⟨a', c', hA', hσ', hs, f1, f2, g1, g2⟩ := R1.atSrc hi
        rw [hσ] at hσ'
        cases hσ'
        exact ⟨a, c', xs, G1, s, ds, d, s', rfl, R1.gh, hs, g1, g2, z1, hF, fun x c2 G' H' u1 u2 u3 u4 u5 u6 u7 u8 u9 => k x G' H' (s1.trans u1) (R1.chgSrc hi hA hs u1 u2 u3 u4 u5 u6 u7 u8) u9⟩
      · cases h2
    · cases h2
  · cases h
end
/-! ### a def that draws and computes -/
@[simp] def startS (m : Nat) (s : Src) (ds : List PyData) : En := .src s :: start1 (m - 1) ds
def runS (n m : Nat) (fb : SF) : Src → List PyData → Option (PyData × Src) := fun s ds => if (ds.length + 1 == n) = true then (match fb (startS m s ds) with
  | some (.rt d (.src s' :: _)) => some (d, s')
  | some (.nx (.src s' :: _)) => some (.none, s')
  | _ => none) else none
/-- what belongs to the callers: neither ours nor the source's -/
def offS (G H : Hp) (a c : Addr) : Hp := fun b => if b = a then none else if b = c then none else off G H b
theorem rel_startS {K : PySem.W.Frag} {G H : Hp} {N : List Str} {us : List V} {ds : List PyData} {a c : Addr} {s : Src} (hN : 1 ≤ N.length) (g : Same G H) (h : DqA K G us ds) (hs : SrcAt H a c s) (ga : G a = none) (gc : G c = none) :
    Rel K (some a) (offS G H a c) G H (startS N.length s ds) (L2.start N (.ref a :: us)) := by
  have hl := h.len
  have r0 := rel_start (K := K) (A := none) (N := N.tail) g h
  obtain ⟨R, r1, _, _⟩ := r0.rg
  have eN : N.tail.length = N.length - 1 := by simp
  have e1 : start0 N.tail ds = start1 (N.length - 1) ds := by
    unfold start0
    rw [eN]
  have e2 : L2.start N (.ref a :: us) = some (.ref a) :: L2.start N.tail us := by
    unfold L2.start
    rw [eN]
    simp [Nat.sub_sub, Nat.add_comm]
  have off1 : ∀ b o, offS G H a c b = some o → b ≠ a ∧ b ≠ c ∧ G b = none ∧ H b = some o := fun b o e => by
    unfold offS at e
    split at e
    · cases e
    · rename_i n1
      split at e
      · cases e
      · rename_i n2
        obtain ⟨z1, z2⟩ := off_some e
        exact ⟨n1, n2, z1, z2⟩
  refine ⟨g, fun b o e => (off1 b o e).2.2.2, fun b o e => (off1 b o e).2.2.1, ?_, Rg (fun _ => []) 0 [a, c], fun i u e => ?_, fun i j b e1 e2 => ?_, fun i b e => ?_⟩
  · rw [e2]
    unfold startS
    rw [← e1]
    exact congrArg (· + 1) r0.len
  · unfold startS at e
    rw [e2]
    cases i with
    | zero =>
      cases e
      rw [rg_same]
      exact ⟨_, rfl, a, c, rfl, rfl, rfl, hs⟩
    | succ i =>
      rw [rg_ne (by omega)]
      rw [List.getElem?_cons_succ, ← e1] at e
      obtain ⟨x, q1, q2⟩ := r1 i u e
      refine ⟨x, by rw [List.getElem?_cons_succ]; exact q1, ?_⟩
      have ev : u = .un ∨ ∃ d, u = .v d := by
        unfold start0 start1 at e
        have hm := List.mem_of_getElem? e
        rcases List.mem_append.mp hm with z | z
        · obtain ⟨d, _, hd⟩ := List.mem_map.mp z
          exact Or.inr ⟨d, hd.symm⟩
        · exact Or.inl (List.eq_of_mem_replicate z)
      rcases ev with ev | ⟨d, ev⟩
      · subst ev
        rfl
      · subst ev
        exact ⟨rfl, q2.2⟩
  · by_cases hi : i = 0
    · by_cases hj : j = 0
      · rw [hi, hj]
      · rw [rg_ne hj] at e2
        cases e2
    · rw [rg_ne hi] at e1
      cases e1
  · by_cases hi : i = 0
    · rw [hi, rg_same] at e
      simp at e
      rcases e with e | e
      · subst e
        exact ⟨if_pos rfl, ga, _, hs.1⟩
      · subst e
        refine ⟨?_, gc, _, hs.2⟩
        unfold offS
        split
        · rfl
        · rw [if_pos rfl]
    · rw [rg_ne hi] at e
      cases e
section
variable {P : Program} {w : World} {K : PySem.W.Frag} {mg : Str → Option Value} {base : Heap}
theorem fnRunS {x qual : Str} {st : Stmt} {f : Addr} {fd : FuncData} {N ps : List Str} {k n m : Nat} {fb : SF} (D : Fun K x qual st f fd) (S : FnScope N ps (defScope st)) (hb : BodyAt P w K mg base k N qual st f fb)
    (hn : ps.length = n := by rfl) (hm : N.length = m := by rfl) (hm1 : 1 ≤ m := by decide) : FnG P w K mg base (k + 1) f fd ps (spS K (runS n m fb)) := by
  subst hn
  subst hm
  refine fnG_of D S (fun vs H Q h => ?_) fun cdv A outer s0 H vs Q hr hG h => ?_
  · obtain ⟨a, c, us, G, s, ds, r, s', rfl, _, _, _, _, h1, h2, _⟩ := h
    unfold runS at h2
    split at h2
    · rename_i hl
      have hl' : ds.length + 1 = ps.length := by simpa using hl
      rw [List.length_cons, h1.len]
      exact hl'
    · cases h2
  · obtain ⟨a, c, us, G, s, ds, r, s', rfl, h0, hs, ga, gc, h1, h2, h3⟩ := h
    obtain ⟨t, pt, q⟩ := hb cdv A outer s0 H hr hG
    refine ⟨t, pt, ?_⟩
    unfold runS at h2
    split at h2
    · have fin : ∀ {ρ' : En} {σ' : L2.St} {G' H' : Hp} {v : V}, Same G G' → Rel K (some a) (offS G H a c) G' H' (.src s' :: ρ') σ' → Dq K G' v r → Q v H' := by
        intro ρ' σ' G' H' v s1 R' z
        obtain ⟨a', c', hA, _, hs', f1, f2, g1, g2⟩ := R'.atSrc (i := 0) rfl
        cases hA
        have off2 : ∀ b o, H b = some o → b ≠ a → b ≠ c → G b = none → offS G H a c b = some o := fun b o e n1 n2 g => by
          unfold offS
          rw [if_neg n1, if_neg n2, off_none g]
          exact e
        refine h3 v c' G' H' s1 R'.gh (fun b o e n1 n2 => ?_) (fun b o e n1 n2 g => R'.fg b o (off2 b o e n1 n2 g)) hs' ?_ g1 g2 z
        · cases g : G b with
          | none => exact R'.fh b o (off2 b o e n1 n2 g)
          | some u =>
            have := h0 b u g
            rw [e] at this
            cases this
            exact R'.gh b o (s1 b o g)
        · by_cases hcc : c' = c
          · exact Or.inl hcc
          · refine Or.inr ?_
            cases q : H c' with
            | none => rfl
            | some u =>
              exfalso
              have n1 : c' ≠ a := fun z => by
                rw [z] at hs'
                have := hs'.1.symm.trans hs'.2
                cases this
              have gn : G c' = none := by
                cases g : G c' with
                | none => rfl
                | some u' =>
                  rw [s1 _ _ g] at g2
                  cases g2
              have := off2 c' u q n1 hcc gn
              rw [f2] at this
              cases this
      split at h2
      · rename_i d s1 ρ1 ho
        cases h2
        exact q _ _ ho (some a) _ G H _ _ (rel_startS hm1 h0 h1 hs ga gc) fun v σ' G' H' s1 R' z => fin s1 R' z
      · rename_i s1 ρ1 ho
        cases h2
        exact q _ _ ho (some a) _ G H _ _ (rel_startS hm1 h0 h1 hs ga gc) fun σ' G' H' s1 R' => fin s1 R' .non
      · cases h2
    · cases h2
end
end Fe
namespace Fe
open PySem PySem.Spec PyProof.Rows L2

/-! ## the law's own def -/
def spLaw (K : PySem.W.Frag) : Pr := fun vs H Q => ∃ (a : Addr) (ns : List Int), vs = [.ref a] ∧ SqL K H a (ns.map V.int) ∧ ns.length ≤ 63 ∧ ∀ H', Q (.bl true) H'
/-- what makes the source of the script -/
def spMk (K : PySem.W.Frag) : Pr := fun vs H Q => ∃ (p : Addr) (ns : List Int), vs = [.ref p] ∧ SqL K H p (ns.map V.int) ∧ ns.length ≤ 63 ∧ ∀ a c s H', Same H H' → H a = none → H c = none → SrcAt H' a c s → Q (.ref a) H'
abbrev tMk (K : PySem.W.Frag) : TS := tAsg (fun σ H Q => tCons (tVar 0) tNil σ H fun vs H1 => spMk K vs H1 Q) (gName 1)
@[simp] def startL (m : Nat) (s : Src) : En := .un :: .src s :: List.replicate (m - 2) .un
section
variable {P : Program} {w : World} {K : PySem.W.Frag} {mg : Str → Option Value} {base : Heap}
theorem rel_law {H H' : Hp} {m : Nat} {v0 : Option V} {a c : Addr} {s : Src} {τ : L2.St} (hl : τ.length = m) (hm : 2 ≤ m) (e : Same H H') (ha : H a = none) (hc : H c = none) (hs : SrcAt H' a c s) :
    Rel K (some a) H (fun _ => none) H' (startL m s) (τ.set 1 (some (.ref a))) := by
  refine ⟨fun b o z => (nomatch z), e, fun b o z => rfl, by simp [startL, hl]; omega, Rg (fun _ => []) 1 [a, c], fun i u z => ?_, fun i j b e1 e2 => ?_, fun i b z => ?_⟩
  · by_cases hi : i = 1
    · subst hi
      cases z
      rw [rg_same, List.getElem?_set_self (by omega)]
      exact ⟨_, rfl, a, c, rfl, rfl, rfl, hs⟩
    · rw [rg_ne hi, List.getElem?_set_ne (Ne.symm hi)]
      have hu : u = .un := by
        cases i with
        | zero => exact (Option.some.inj z).symm
        | succ i =>
          cases i with
          | zero => exact absurd rfl hi
          | succ i =>
            unfold startL at z
            rw [List.getElem?_cons_succ, List.getElem?_cons_succ, List.getElem?_replicate] at z
            split at z
            · exact (Option.some.inj z).symm
            · cases z
      subst hu
      have hlt : i < τ.length := by
        have := (List.getElem?_eq_some_iff.mp z).1
        simp [startL] at this
        omega
      exact ⟨τ[i], List.getElem?_eq_getElem hlt, rfl⟩
  · by_cases hi : i = 1
    · by_cases hj : j = 1
      · rw [hi, hj]
      · rw [rg_ne hj] at e2
        cases e2
    · rw [rg_ne hi] at e1
      cases e1
  · by_cases hi : i = 1
    · rw [hi, rg_same] at z
      simp at z
      rcases z with z | z
      · subst z
        exact ⟨ha, rfl, _, hs.1⟩
      · subst z
        exact ⟨hc, rfl, _, hs.2⟩
    · rw [rg_ne hi] at z
      cases z
theorem fnLaw {x qual : Str} {st st0 : Stmt} {rest : List Stmt} {f : Addr} {fd : FuncData} {N ps : List Str} {k m : Nat} {fb : SF} (D : Fun K x qual st f fd) (S : FnScope N ps (defScope st)) (hd : defBody st = st0 :: rest) (hps : ps.length = 1 := by rfl) (hm : N.length = m := by rfl) (hm2 : 2 ≤ m := by decide)
    (hb : ∀ (cdv : Value) (A : Around) (outer : List Env) (s : Shared) (H : Hp), Room k (cx P w K mg base N qual (defScope st) f cdv A outer s H).A → (cx P w K mg base N qual (defScope st) f cdv A outer s H).A.guards = some [] →
      PS (cx P w K mg base N qual (defScope st) f cdv A outer s H) st0 (tMk K) ∧ FSs (cx P w K mg base N qual (defScope st) f cdv A outer s H) rest fb)
    (hF : ∀ s : Src, ∃ ρ', fb (startL m s) = some (.rt (.bool true) ρ')) : FnG P w K mg base (k + 1) f fd ps (spLaw K) := by
  subst hm
  refine fnG_of D S (fun vs H Q h => ?_) fun cdv A outer s0 H vs Q hr hG h => ?_
  · obtain ⟨a, ns, rfl, _⟩ := h
    exact hps.symm
  · obtain ⟨a, ns, rfl, h1, h2, h3⟩ := h
    obtain ⟨p1, t, pt, q⟩ := hb cdv A outer s0 H hr hG
    rw [hd]
    refine ⟨_, pss_cons p1 pt, .ref a, rfl, a, ns, rfl, h1, h2, fun a' c s H' e ha hc hs => ?_⟩
    obtain ⟨ρ', hq⟩ := hF s
    have hlen : (L2.start N [V.ref a]).length = N.length := by
      simp [L2.start]
      omega
    refine q _ _ hq (some a') H (fun _ => none) H' _ _ (rel_law (v0 := none) hlen hm2 e ha hc hs) fun v σ' G' H2 _ _ z => ?_
    cases z
    exact h3 H2
end
/-! ## the end of a law's row -/
theorem run_law {P : Program} {w : World} {K : PySem.W.Frag} {mg mb : Str → Option Value} {k : Nat} {fa a : Addr} {fd : FuncData} {x : Str} {sp : Pr} {s : Shared} {vs : List Value} {ns : List Int}
    (KX : K.In s.heap) (hns : s.heap.Ns mainGlobals mg) (hb : s.heap.Ns builtinsNs mb) (hbb : ∀ x : Str, x ≠ "__name__" → mb x = bootBuiltins x) (hlim : s.heap.NoLimit) (hg : s.gens = #[])
    (ha : s.heap.get? a = some { cls := .type "list", data := .seq vs.toArray }) (hi : IntsAre vs ns) (hl : ns.length ≤ sizeLine) (hr : Room k callerA)
    (F : ∀ base : Heap, K.In base → base.Ns mainGlobals mg → FnG P w K mg base k fa fd [x] sp) (hbind : ∀ (s : Shared) (u : Value), BindsTo s fd ⟨[u], []⟩ [(x, u)])
    (hsp : ∀ H : Hp, Only H → SqL K H a (ns.map V.int) → sp [.ref a] H (fun v _ => v = .bl true)) :
    codeAny (model P w) callerA (.call (.ref fa) ⟨[.ref a], []⟩) (fun r s' => r = .ok (.ret (.bool true)) ∧ OldK s.heap s'.heap ∧ s'.os = s.os ∧ AllBare s'.gens) s := by
  have rv := vals_ints hi
  suffices main : ∀ H : Hp, Only H → SqL K H a (ns.map V.int) → HOk P w H s.heap → (∀ b, H b ≠ none → b = a) → (H a ≠ none → K.lookup a = none) →
      codeAny (model P w) callerA (.call (.ref fa) ⟨[.ref a], []⟩) (fun r s' => r = .ok (.ret (.bool true)) ∧ OldK s.heap s'.heap ∧ s'.os = s.os ∧ AllBare s'.gens) s by
    cases hk : K.lookup a with
    | some o =>
      have z := KX a o hk
      rw [ha] at z
      cases z
      refine main (fun _ => none) (fun _ => .inl rfl) (.inr ⟨_, vs.toArray, _, hk, rfl, rfl, rfl, ?_, by simpa using rv⟩) (fun b u q => ?_) (fun b q => absurd rfl q) fun q => absurd rfl q
      · rw [List.size_toArray, hi.length]
        exact hl
      · have q' : (none : Option HO) = some u := q
        cases q'
    | none =>
      let o : HO := .frz { cls := .type "list", data := .seq vs.toArray } (.lst (ns.map V.int))
      have at_a : (fun b => if b = a then some o else none : Hp) a = some o := if_pos rfl
      have off_a : ∀ b, b ≠ a → (fun b => if b = a then some o else none : Hp) b = none := fun b hb => if_neg hb
      refine main (fun b => if b = a then some o else none) (fun b => ?_) (.inl (.inr ⟨_, at_a⟩)) (fun b u q => ?_) (fun b q => ?_) fun _ => hk
      · by_cases hba : b = a
        · subst hba
          exact .inr ⟨_, _, at_a⟩
        · exact .inl (off_a b hba)
      · by_cases hba : b = a
        · subst hba
          have q' := at_a.symm.trans q
          cases q'
          exact ⟨ha, by rw [List.length_map]; exact hl, vs, _, rv, ha⟩
        · have q' := (off_a b hba).symm.trans q
          cases q'
      · by_cases hba : b = a
        · exact hba
        · exact absurd (off_a b hba) q
  intro H hO hS hok hA hK
  have keepH : ∀ {b : Addr} {o : Obj}, s.heap.get? b = some o → H b = none → (hidT s.heap H).get? b = some o := fun e n => hidT_get e n
  have notA : ∀ {b : Addr} {o : Obj} {es : Array DictEntry} {ep : Nat}, s.heap.get? b = some o → o.data = .dict es ep → H b = none := by
    intro b o es ep e d
    cases q : H b with
    | none => rfl
    | some u =>
      obtain rfl : b = a := hA b (by rw [q]; simp)
      rw [ha] at e
      cases e
      exact nomatch (show Data.seq vs.toArray _ = Data.dict es ep from d)
  have nsH : ∀ {b : Addr} {m : Str → Option Value}, s.heap.Ns b m → (hidT s.heap H).Ns b m := by
    rintro b m ⟨o, es, ep, e, d, r⟩
    exact ⟨o, es, ep, keepH e (notA e d), d, r⟩
  have kH : K.In (hidT s.heap H) := by
    intro b o e
    refine keepH (KX b o e) ?_
    cases q : H b with
    | none => rfl
    | some u =>
      obtain rfl : b = a := hA b (by rw [q]; simp)
      rw [hK (by rw [q]; simp)] at e
      cases e
  have lim : (hidT s.heap H).NoLimit := by
    obtain ⟨mc, h1, h2⟩ := hlim
    exact ⟨mc, nsH h1, h2⟩
  have env : Env0 P w K mg (hidT s.heap H) callerA [] s H := by
    refine ⟨rfl, ⟨kH, nsH hns, ⟨mb, nsH hb, hbb⟩, lim⟩, fun b o e => of_hidT e, Nat.le_of_eq (hidT_size _ _), trivial, fun b z => ?_, hok, .of_eq hg⟩
    exact absurd (show b ∈ ([] : List Addr) from z) (by simp)
  refine codeAny_mono ((F _ kH (nsH hns)).run callerA [] s H ⟨[.ref a], []⟩ [.ref a] [.ref a] _ hr rfl env (hbind s (.ref a)) (.cons rfl .nil) (hsp H hO hS)) ?_
  rintro (e | fl) s' z
  · exact False.elim z
  cases fl with
  | next => exact False.elim z
  | brk => exact False.elim z
  | cont => exact False.elim z
  | ret u =>
    obtain ⟨v, H', os, bare, un, hok', r', q⟩ := z
    obtain rfl : v = .bl true := q
    obtain rfl : u = Value.bool true := r'
    refine ⟨rfl, OldK.of_keep fun b o e => ?_, os, bare⟩
    rcases hO b with q | ⟨ob, xs, q⟩
    · exact un.keep b o e q (fun z => absurd (show b ∈ ([] : List Addr) from z) (by simp)) (by simp)
    · obtain ⟨e1, _⟩ := hok b _ q
      obtain ⟨e2, _⟩ := hok' b _ (un.frzs b ob _ q)
      rw [e] at e1
      cases e1
      exact e2
theorem walkG {l : PySem.W.OpenLaw} {k : Nat} {q : Program} {loose : List Str} {XP : (Str → Option Value) → Heap → Prop} {YP : World → Heap → Prop} {d : DefRec} {K : Params → PySem.W.Frag} {x : Str}
    (hn : l.most = some 63) (hdf : d.params.defaults = []) (hr : Room k callerA) (hY : ∀ (w : World) (h : Heap), YP w h → (K w.params).In h)
    (F : ∀ (w : World) (mg : Str → Option Value) (fa : Addr) (h : Heap), (K w.params).In h → h.Ns mainGlobals mg → mg d.name = some (.ref fa) →
      ∃ fd : FuncData, (∀ (s : Shared) (u : Value), BindsTo s fd ⟨[u], []⟩ [(x, u)]) ∧ ∀ base : Heap, (K w.params).In base → base.Ns mainGlobals mg → FnG l.prog w (K w.params) mg base k fa fd [x] (spLaw (K w.params))) :
    PySem.W.WalkO q loose XP YP l.row.toRowW d [] (fun f vs => PySem.call f vs) := by
  refine Att.attach_call hn hdf ?_
  intro w s₀ s₁ mg mb fa o pm cd doc a vs ns G Y ho hd hcd hmg hobj hints hlen hg
  obtain ⟨fd, hb, hF⟩ := F w mg fa _ (hY w _ Y) G.T.g hmg
  exact run_law (hY w _ Y) G.T.g G.T.b G.T.builtins G.T.nolimit hg hobj hints (Nat.le_trans hlen (by decide)) hr hF hb fun H _ hS => ⟨a, ns, rfl, hS, hlen, fun _ => rfl⟩
end Fe
namespace Fe
open PySem PySem.Spec PyProof.Rows L2

/-! ## drawing -/
def popT : Nat → Int → List Int → Int × List Int
  | 0, l, cs => (l, cs)
  | n + 1, l, cs => if l < 2 ∧ 0 < cs.length then popT n (cs.getLastD 0) cs.dropLast else (l, cs)
theorem popT_step {n : Nat} {l : Int} {cs : List Int} (h : l < 2 ∧ 0 < cs.length) : popT (n + 1) l cs = popT n (cs.getLastD 0) cs.dropLast := if_pos h
def popA (s : Src) : Int × List Int := popT s.cells.length s.left s.cells
def turnA (s : Src) (k1 k2 : Int) : Int := ((((s.mixed + (s.turn + 1) * k1) % 998244353) * ((s.mixed + (s.turn + 1) * k1) % 998244353)) + (s.turn + 1) * k2) % 2147483647
/-- the pick that keeps mixed -/
def pickA (s : Src) (m : Int) : Int × Src :=
  if m < 2 then (0, s) else if 1 < (popA s).1 then ((popA s).1 % m, ⟨(popA s).2, (popA s).1 / m, s.mixed, s.turn⟩) else (turnA s 104729 17 / 16 % m, ⟨(popA s).2, (popA s).1, s.mixed, s.turn + 1⟩)
/-- the pick that stores mixed -/
def pickB (k1 k2 : Int) (s : Src) (m : Int) : Int × Src :=
  if m < 2 then (0, s) else if 1 < (popA s).1 then ((popA s).1 % m, ⟨(popA s).2, (popA s).1 / m, s.mixed, s.turn⟩) else (turnA s k1 k2 / 16 % m, ⟨(popA s).2, (popA s).1, turnA s k1 k2, s.turn + 1⟩)
def fPick (p : Src → Int → Int × Src) : Src → List PyData → Option (PyData × Src) := fun s ds => match ds with
  | [.int m] => if Nat.blt m.natAbs.log2 9000 = true then some (.int (p s m).1, (p s m).2) else none
  | _ => none
theorem pickA_rng (s : Src) {m : Int} (h : 0 < m) : 0 ≤ (pickA s m).1 ∧ (pickA s m).1 < m := by
  unfold pickA
  split
  · exact ⟨Int.le_refl 0, h⟩
  · split <;> exact ⟨Int.emod_nonneg _ (by omega), Int.emod_lt_of_pos _ h⟩
theorem pickB_rng (k1 k2 : Int) (s : Src) {m : Int} (h : 0 < m) : 0 ≤ (pickB k1 k2 s m).1 ∧ (pickB k1 k2 s m).1 < m := by
  unfold pickB
  split
  · exact ⟨Int.le_refl 0, h⟩
  · split <;> exact ⟨Int.emod_nonneg _ (by omega), Int.emod_lt_of_pos _ h⟩
def Away (H H' : Hp) (a c : Addr) : Prop := ∀ b o, H b = some o → b ≠ a → b ≠ c → H' b = some o
theorem Away.refl (H : Hp) (a c : Addr) : Away H H a c := fun _ _ h _ _ => h
theorem Away.upA {H H' : Hp} {a c : Addr} {o : HO} (h : Away H H' a c) : Away H (upd H' a o) a c := fun b u e n1 n2 => by
  rw [upd_ne n1]
  exact h b u e n1 n2
theorem Away.upC {H H' : Hp} {a c : Addr} {o : HO} (h : Away H H' a c) : Away H (upd H' c o) a c := fun b u e n1 n2 => by
  rw [upd_ne n2]
  exact h b u e n1 n2
theorem SrcAt.ne {H : Hp} {a c : Addr} {s : Src} (h : SrcAt H a c s) : a ≠ c := fun e => by
  have z := h.1
  rw [e, h.2] at z
  cases z
theorem SrcAt.left {H : Hp} {a c : Addr} {s : Src} (h : SrcAt H a c s) : DGet H a (.str "left") (some (.int s.left)) := by
  have z := DGet.k (k := Sum.inr "left") h.1
  exact z
theorem SrcAt.mixed {H : Hp} {a c : Addr} {s : Src} (h : SrcAt H a c s) : DGet H a (.str "mixed") (some (.int s.mixed)) := DGet.k (k := Sum.inr "mixed") h.1
theorem SrcAt.turn {H : Hp} {a c : Addr} {s : Src} (h : SrcAt H a c s) : DGet H a (.str "turn") (some (.int s.turn)) := DGet.k (k := Sum.inr "turn") h.1
theorem SrcAt.cells {H : Hp} {a c : Addr} {s : Src} (h : SrcAt H a c s) : DGet H a (.str "cells") (some (.ref c)) := DGet.k (k := Sum.inr "cells") h.1
theorem SrcAt.putLeft {H : Hp} {a c : Addr} {s : Src} (h : SrcAt H a c s) (i : Int) : ∃ H', DPut H a (.str "left") (.int i) H' ∧ H' = upd H a (.dK (srcKv c { s with left := i })) ∧ SrcAt H' a c { s with left := i } := by
  have e : putK (srcKv c s) (Sum.inr "left") (.int i) = srcKv c { s with left := i } := by rfl
  refine ⟨_, DPut.k (k := Sum.inr "left") h.1 (by show 4 < sizeLine; decide), congrArg (fun z => upd H a (.dK z)) e, ?_, ?_⟩
  · exact upd_same.trans (congrArg (fun z => some (HO.dK z)) e)
  · rw [upd_ne h.ne.symm]
    exact h.2
theorem SrcAt.putTurn {H : Hp} {a c : Addr} {s : Src} (h : SrcAt H a c s) (i : Int) : ∃ H', DPut H a (.str "turn") (.int i) H' ∧ H' = upd H a (.dK (srcKv c { s with turn := i })) ∧ SrcAt H' a c { s with turn := i } := by
  have e : putK (srcKv c s) (Sum.inr "turn") (.int i) = srcKv c { s with turn := i } := by rfl
  refine ⟨_, DPut.k (k := Sum.inr "turn") h.1 (by show 4 < sizeLine; decide), congrArg (fun z => upd H a (.dK z)) e, ?_, ?_⟩
  · exact upd_same.trans (congrArg (fun z => some (HO.dK z)) e)
  · rw [upd_ne h.ne.symm]
    exact h.2
theorem SrcAt.putMixed {H : Hp} {a c : Addr} {s : Src} (h : SrcAt H a c s) (i : Int) : ∃ H', DPut H a (.str "mixed") (.int i) H' ∧ H' = upd H a (.dK (srcKv c { s with mixed := i })) ∧ SrcAt H' a c { s with mixed := i } := by
  have e : putK (srcKv c s) (Sum.inr "mixed") (.int i) = srcKv c { s with mixed := i } := by rfl
  refine ⟨_, DPut.k (k := Sum.inr "mixed") h.1 (by show 4 < sizeLine; decide), congrArg (fun z => upd H a (.dK z)) e, ?_, ?_⟩
  · exact upd_same.trans (congrArg (fun z => some (HO.dK z)) e)
  · rw [upd_ne h.ne.symm]
    exact h.2
theorem SrcAt.setCells {H : Hp} {a c : Addr} {s : Src} (h : SrcAt H a c s) (cs : List Int) : SrcAt (upd H c (.lst (cs.map V.int))) a c { s with cells := cs } :=
  ⟨(upd_ne h.ne).trans h.1, upd_same⟩
end Fe
namespace Fe
open PySem PySem.Spec PyProof.Rows L2

/-! ## repr of two things, compared -/
mutual
def shB : PyData → Nat
  | .int i => i.natAbs.log2 + 3
  | .bool _ => 5
  | .none => 4
  | .list xs => shBA xs + 3
  | .tuple xs => shBA xs + 3
  | .str _ => 99999999
  | .dict _ => 99999999
def shBA : List PyData → Nat
  | [] => 0
  | x :: r => shB x + 2 + shBA r
end
mutual
def plainD : PyData → Bool
  | .int i => Nat.blt i.natAbs.log2 1920
  | .bool _ => true
  | .none => true
  | .list xs => plainA xs
  | .tuple xs => plainA xs
  | .str _ => false
  | .dict _ => false
def plainA : List PyData → Bool
  | [] => true
  | x :: r => plainD x && plainA r
end
theorem int_len (i : Int) : (toString i : String).length ≤ i.natAbs.log2 + 3 := by
  have := int_text_length_le (a := i) (k := i.natAbs.log2 + 1) (by omega) (by omega)
  omega
mutual
theorem shown_le : ∀ d : PyData, plainD d = true → d.shown.length ≤ shB d ∧ d.showable = true ∧ d.hasDict = false
  | .int i, h => by
    refine ⟨?_, by unfold PyData.showable; exact decide_eq_true (Nat.le_of_ble_eq_true h), rfl⟩
    show (Str.ofString (toString i)).length ≤ _
    rw [PySem.ofString_length]
    exact int_len i
  | .bool b, _ => by
    refine ⟨?_, rfl, rfl⟩
    cases b <;> decide
  | .none, _ => ⟨by decide, rfl, rfl⟩
  | .list xs, h => by
    obtain ⟨h1, h2, h3⟩ := shownA_le xs (by simpa [plainD] using h)
    refine ⟨?_, by simpa [PyData.showable] using h2, by simpa [PyData.hasDict] using h3⟩
    have z := listText_len_le (PyData.shownAll xs)
    show (listText (PyData.shownAll xs)).length ≤ shBA xs + 3
    omega
  | .tuple xs, h => by
    obtain ⟨h1, h2, h3⟩ := shownA_le xs (by simpa [plainD] using h)
    refine ⟨?_, by simpa [PyData.showable] using h2, by simpa [PyData.hasDict] using h3⟩
    have z := tupleText_len_le (PyData.shownAll xs)
    show (tupleText (PyData.shownAll xs)).length ≤ shBA xs + 3
    omega
  | .str _, h => by simp [plainD] at h
  | .dict _, h => by simp [plainD] at h
theorem shownA_le : ∀ ds : List PyData, plainA ds = true → ((PyData.shownAll ds).map (·.length)).sum + 2 * (PyData.shownAll ds).length ≤ shBA ds ∧ PyData.showableAll ds = true ∧ PyData.hasDictAll ds = false
  | [], _ => ⟨by simp [PyData.shownAll, shBA], rfl, rfl⟩
  | x :: r, h => by
    have h' : plainD x = true ∧ plainA r = true := by simpa [plainA] using h
    obtain ⟨a1, a2, a3⟩ := shown_le x h'.1
    obtain ⟨b1, b2, b3⟩ := shownA_le r h'.2
    refine ⟨?_, by simp [PyData.showableAll, a2, b2], by simp [PyData.hasDictAll, a3, b3]⟩
    simp only [PyData.shownAll, List.map_cons, List.sum_cons, List.length_cons, shBA]
    omega
end
mutual
def sm : PyData → PyData → Bool
  | .int i, .int j => i == j
  | .bool a, .bool b => a == b
  | .none, .none => true
  | .list xs, .list ys => smA xs ys
  | .tuple xs, .tuple ys => smA xs ys
  | _, _ => false
def smA : List PyData → List PyData → Bool
  | [], [] => true
  | x :: r, y :: w => sm x y && smA r w
  | _, _ => false
end
mutual
theorem sm_eq : ∀ (d e : PyData), sm d e = true → d = e
  | .int i, e, h => by
    cases e with
    | int j => simp [sm] at h; rw [h]
    | _ => simp [sm] at h
  | .bool i, e, h => by
    cases e with
    | bool j => simp [sm] at h; rw [h]
    | _ => simp [sm] at h
  | .none, e, h => by
    cases e with
    | none => rfl
    | _ => simp [sm] at h
  | .list xs, e, h => by
    cases e with
    | list ys => rw [smA_eq xs ys (by simpa [sm] using h)]
    | _ => simp [sm] at h
  | .tuple xs, e, h => by
    cases e with
    | tuple ys => rw [smA_eq xs ys (by simpa [sm] using h)]
    | _ => simp [sm] at h
  | .str _, e, h => by cases e <;> simp [sm] at h
  | .dict _, e, h => by cases e <;> simp [sm] at h
theorem smA_eq : ∀ (ds es : List PyData), smA ds es = true → ds = es
  | [], [], _ => rfl
  | [], _ :: _, h => by simp [smA] at h
  | _ :: _, [], h => by simp [smA] at h
  | x :: r, y :: w, h => by
    have h' : sm x y = true ∧ smA r w = true := by simpa [smA] using h
    rw [sm_eq x y h'.1, smA_eq r w h'.2]
end
mutual
theorem sm_rfl : ∀ d : PyData, plainD d = true → sm d d = true
  | .int i, _ => by simp [sm]
  | .bool i, _ => by simp [sm]
  | .none, _ => rfl
  | .list xs, h => by simpa [sm] using smA_rfl xs (by simpa [plainD] using h)
  | .tuple xs, h => by simpa [sm] using smA_rfl xs (by simpa [plainD] using h)
  | .str _, h => by simp [plainD] at h
  | .dict _, h => by simp [plainD] at h
theorem smA_rfl : ∀ ds : List PyData, plainA ds = true → smA ds ds = true
  | [], _ => rfl
  | x :: r, h => by
    have h' : plainD x = true ∧ plainA r = true := by simpa [plainA] using h
    simp [smA, sm_rfl x h'.1, smA_rfl r h'.2]
end
/-- fit to be shown -/
def repOk (d : PyData) : Bool := plainD d && (Nat.ble (shB d) 16777216 && Nat.ble d.depth 60)
def rRep (K : PySem.W.Frag) : List V → Hp → VK → Prop := fun xs H Q => ∃ x d, xs = [x] ∧ Dp K H x d ∧ repOk d = true ∧ Q (.str d.shown) H
section
variable {X : Cx}
theorem repOk_ok {d : PyData} (h : repOk d = true) : plainD d = true ∧ d.shown.length ≤ sizeLine ∧ d.showable = true ∧ d.hasDict = false ∧ d.depth ≤ 60 := by
  unfold repOk at h
  have h' := Bool.and_eq_true_iff.mp h
  have h2 := Bool.and_eq_true_iff.mp h'.2
  obtain ⟨a1, a2, a3⟩ := shown_le d h'.1
  exact ⟨h'.1, Nat.le_trans a1 (ble_line h2.1), a2, a3, Nat.le_of_ble_eq_true h2.2⟩
theorem call_rep (hu : X.A.units + 64 < cLine) (hG : X.A.guards = some []) : CallR X (.builtin "repr") (rRep X.K) := by
  intro pins s σ H xs us Q I r h
  obtain ⟨x, d, rfl, hd, hok, q⟩ := h
  obtain ⟨h1, h2, h3, h4, h5⟩ := repOk_ok hok
  cases r with | cons r0 r1 =>
  cases r1
  cases d with
  | int i =>
    cases hd
    obtain ⟨t, rfl⟩ := r0
    exact PySem.P.repr_of_int (by simpa [PyData.showable] using h3) ⟨.str _, H, I.tok _, ⟨_, rfl⟩, q⟩
  | bool b =>
    cases hd
    cases r0
    exact PySem.P.repr_of_bool ⟨.str _, H, I.tok _, ⟨_, rfl⟩, by cases b <;> exact q⟩
  | none =>
    cases hd
    cases r0
    exact PySem.P.repr_of_none ⟨.str _, H, I.tok _, ⟨_, rfl⟩, q⟩
  | list ds =>
    obtain ⟨as, hr⟩ := Dp.reads I _ _ _ hd r0
    cases hd with | lst z1 z2 =>
    cases r0
    exact repr_of_reads' hr h3 (PyData.noDict_hsm h4) hG (by omega) (fun _ _ e => e) (fun h' u tk k => ⟨.str _, H, I.kept (t' := tk) k, ⟨u, rfl⟩, q⟩) h2
  | tuple ds =>
    obtain ⟨as, hr⟩ := Dp.reads I _ _ _ hd r0
    cases hd with | tup z1 z2 =>
    cases r0
    exact repr_of_reads' hr h3 (PyData.noDict_hsm h4) hG (by omega) (fun _ _ e => e) (fun h' u tk k => ⟨.str _, H, I.kept (t' := tk) k, ⟨u, rfl⟩, q⟩) h2
  | str x => simp [plainD] at h1
  | dict x => simp [plainD] at h1
theorem Dr.dp {K : PySem.W.Frag} {G H : Hp} {x : V} {d : PyData} (g : Same G H) (h : Dr K G H x d) : Dp K H x d := by
  rcases h with h | ⟨a, xs, ds, rfl, rfl, h1, h2⟩
  · exact (h.up g).dp
  · exact .lst (Or.inl (Or.inl h1)) (h2.up g).dp
variable {a b : Expr} {pos p1 p2 q1 q2 : Pos} {r1 r2 : En → Option (Rf × En)}
/-- both are the same thing: nothing else is served -/
@[simp] def fRep2 (v : Bool) (f g : En → Option (Rf × En)) : EF := fun ρ => bnd (f ρ) fun x ρ1 => match x.get ρ1 with
  | some d => bnd (g ρ1) fun y ρ2 => match y.get ρ2 with
    | some e => if (sm d e && repOk d) = true then some (.bool v, ρ2) else none
    | none => none
  | none => none
abbrev fRepNe := fRep2 false
abbrev fRepEq := fRep2 true
theorem rep_two {ta tb : TE} {r : R2} {v : Bool} (hr : ∀ (z : Str) (H : Hp) (Q : VK), Q (.bl v) H → r (.str z) (.str z) H Q)
    (qa : ∀ ρ d ρ', r1 ρ = some (d, ρ') → ∀ A F G H σ Q, Rel X.K A F G H ρ σ → (∀ x G' H', Same G G' → Rel X.K A F G' H' ρ' σ → RfOk X.K G' σ x d → Q x H') → ta σ H Q)
    (qb : ∀ ρ d ρ', r2 ρ = some (d, ρ') → ∀ A F G H σ Q, Rel X.K A F G H ρ σ → (∀ x G' H', Same G G' → Rel X.K A F G' H' ρ' σ → RfOk X.K G' σ x d → Q x H') → tb σ H Q) :
    ∀ ρ d ρ', fRep2 v r1 r2 ρ = some (d, ρ') → ∀ A F G H σ Q, Rel X.K A F G H ρ σ → (∀ x G' H', Same G G' → Rel X.K A F G' H' ρ' σ → Dq X.K G' x d → Q x H') →
      tOp r (tCB (rRep X.K) (tCons ta tNil)) (tCB (rRep X.K) (tCons tb tNil)) σ H Q := by
  intro ρ d ρ' h A F G H σ Q R k
  obtain ⟨x, ρ1, h1, h2⟩ := bnd_some h
  split at h2
  · rename_i dx hx
    obtain ⟨y, ρ2, h3, h4⟩ := bnd_some h2
    split at h4
    · rename_i dy hy
      split at h4
      · rename_i hs
        cases h4
        have hs' := Bool.and_eq_true_iff.mp hs
        have e := sm_eq _ _ hs'.1
        subst e
        refine qa ρ x ρ1 h1 A F G H σ _ R fun u G1 H1 s1 R1 z1 => ⟨u, dx, rfl, (z1.dr R1 hx).dp R1.gh, hs'.2, ?_⟩
        refine qb ρ1 y _ h3 A F G1 H1 σ _ R1 fun w G2 H2 s2 R2 z2 => ⟨w, dx, rfl, (z2.dr R2 hy).dp R2.gh, hs'.2, ?_⟩
        exact hr _ _ _ (k _ G2 H2 (s1.trans s2) R2 (.bl v))
      · cases h4
    · cases h4
  · cases h2
theorem pe_rep {t : TE} (hu : X.A.units + 64 < cLine) (hG : X.A.guards = some []) (h : PE X a t) (hg : Gl X "repr") (hm : X.mg "repr" = none) (hs : starEach (a :: []) X.env = (false, eval a X.env) :: starEach [] X.env := by rfl) :
    PE X (.Call (.Name "repr" q1) [a] [] p1) (tCB (rRep X.K) (tCons t tNil)) := pe_callB (call_rep hu hG) hg hm (by decide +kernel) (pa_cons h pa_nil hs) (he := hs)
theorem fe_repNe (hu : X.A.units + 64 < cLine) (hG : X.A.guards = some []) (ha : FR X a r1) (hb : FR X b r2) (hg : Gl X "repr") (hm : X.mg "repr" = none) (hs : starEach (a :: []) X.env = (false, eval a X.env) :: starEach [] X.env := by rfl) (hs2 : starEach (b :: []) X.env = (false, eval b X.env) :: starEach [] X.env := by rfl) :
    FE X (.Compare (.Call (.Name "repr" q1) [a] [] p1) [.NotEq] [.Call (.Name "repr" q2) [b] [] p2] pos) (fRepNe r1 r2) := by
  obtain ⟨ta, pa, qa⟩ := ha
  obtain ⟨tb, pb, qb⟩ := hb
  exact ⟨_, pe_cmpR op_ne (pe_rep hu hG pa hg hm hs) (pe_rep hu hG pb hg hm hs2) (nobehind _ (by decide) (by decide)), rep_two (fun z H Q q => ⟨rfl, by simpa using q⟩) qa qb⟩
theorem ft_repNe (hu : X.A.units + 64 < cLine) (hG : X.A.guards = some []) (ha : FR X a r1) (hb : FR X b r2) (hg : Gl X "repr") (hm : X.mg "repr" = none) (hs : starEach (a :: []) X.env = (false, eval a X.env) :: starEach [] X.env := by rfl) (hs2 : starEach (b :: []) X.env = (false, eval b X.env) :: starEach [] X.env := by rfl) :
    FT X (.Compare (.Call (.Name "repr" q1) [a] [] p1) [.NotEq] [.Call (.Name "repr" q2) [b] [] p2] pos) (fTst (fRepNe r1 r2)) := by
  obtain ⟨ta, pa, qa⟩ := ha
  obtain ⟨tb, pb, qb⟩ := hb
  exact ⟨_, pt_cmpR op_ne (pe_rep hu hG pa hg hm hs) (pe_rep hu hG pb hg hm hs2) (nobehind _ (by decide) (by decide)), tst (rep_two (fun z H Q q => ⟨rfl, by simpa using q⟩) qa qb)⟩
theorem ft_repEq (hu : X.A.units + 64 < cLine) (hG : X.A.guards = some []) (ha : FR X a r1) (hb : FR X b r2) (hg : Gl X "repr") (hm : X.mg "repr" = none) (hs : starEach (a :: []) X.env = (false, eval a X.env) :: starEach [] X.env := by rfl) (hs2 : starEach (b :: []) X.env = (false, eval b X.env) :: starEach [] X.env := by rfl) :
    FT X (.Compare (.Call (.Name "repr" q1) [a] [] p1) [.Eq] [.Call (.Name "repr" q2) [b] [] p2] pos) (fTst (fRepEq r1 r2)) := by
  obtain ⟨ta, pa, qa⟩ := ha
  obtain ⟨tb, pb, qb⟩ := hb
  exact ⟨_, pt_cmpR op_eq (pe_rep hu hG pa hg hm hs) (pe_rep hu hG pb hg hm hs2) (nobehind _ (by decide) (by decide)), tst (rep_two (fun z H Q q => ⟨rfl, by simpa using q⟩) qa qb)⟩
theorem fe_repEq (hu : X.A.units + 64 < cLine) (hG : X.A.guards = some []) (ha : FR X a r1) (hb : FR X b r2) (hg : Gl X "repr") (hm : X.mg "repr" = none) (hs : starEach (a :: []) X.env = (false, eval a X.env) :: starEach [] X.env := by rfl) (hs2 : starEach (b :: []) X.env = (false, eval b X.env) :: starEach [] X.env := by rfl) :
    FE X (.Compare (.Call (.Name "repr" q1) [a] [] p1) [.Eq] [.Call (.Name "repr" q2) [b] [] p2] pos) (fRepEq r1 r2) := by
  obtain ⟨ta, pa, qa⟩ := ha
  obtain ⟨tb, pb, qb⟩ := hb
  exact ⟨_, pe_cmpR op_eq (pe_rep hu hG pa hg hm hs) (pe_rep hu hG pb hg hm hs2) (nobehind _ (by decide) (by decide)), rep_two (fun z H Q q => ⟨rfl, by simpa using q⟩) qa qb⟩
/-! ## powers -/
def powOk (i j : Int) : Bool := decide (0 ≤ j) && (decide (j ≤ 1000000) && Nat.blt i.natAbs 18446744073709551616)
abbrev oPow := oIc powOk fun i j => .int (i ^ j.toNat)
variable {f g : EF}
theorem fe_pow (ha : FE X a f) (hb : FE X b g) : FE X (.BinOp a .Pow b pos) (fOp oPow f g) := fe_op op_pow (of_I (fun i j h => by
  unfold powOk at h
  simp only [Bool.and_eq_true, decide_eq_true_eq] at h
  exact ⟨h.1, h.2.1, Nat.le_of_ble_eq_true h.2.2⟩) fun i j _ => .int _) ha hb
end
end Fe
namespace Fe
open PySem

/-! ## loops, as plain functions -/
def lp1 (g : PyData → En → Option En) (b : SF) (d : PyData) (ρ : En) : Option En := match g d ρ with
  | none => none
  | some ρ1 => match b ρ1 with
    | some (.nx ρ2) => some ρ2
    | some (.ct ρ2) => some ρ2
    | _ => none
theorem lp_cons {g : PyData → En → Option En} {b : SF} {d : PyData} {r : List PyData} {ρ ρ' : En} (h : lp1 g b d ρ = some ρ') : lp g b (d :: r) ρ = lp g b r ρ' := by
  unfold lp1 at h
  show (match g d ρ with | none => none | some ρ1 => match b ρ1 with | some (.nx ρ2) => lp g b r ρ2 | some (.ct ρ2) => lp g b r ρ2 | some (.bk ρ2) => some (.nx ρ2) | some (.rt d ρ2) => some (.rt d ρ2) | none => none) = _
  split at h
  · cases h
  · split at h <;> first | (cases h; simp [*]) | cases h
theorem lp_ind {g : PyData → En → Option En} {b : SF} (P : Nat → En → Prop) : ∀ (ds : List PyData) (k : Nat) (ρ : En), P k ρ →
    (∀ i d ρ, ds[i]? = some d → P (k + i) ρ → ∃ ρ', lp1 g b d ρ = some ρ' ∧ P (k + i + 1) ρ') → ∃ ρ', lp g b ds ρ = some (.nx ρ') ∧ P (k + ds.length) ρ'
  | [], k, ρ, h0, _ => ⟨ρ, rfl, h0⟩
  | d :: r, k, ρ, h0, hs => by
    obtain ⟨ρ1, h1, h2⟩ := hs 0 d ρ rfl h0
    obtain ⟨ρ2, h3, h4⟩ := lp_ind P r (k + 1) ρ1 h2 fun i d ρ e p => by
      have := hs (i + 1) d ρ (by simpa using e) (by rw [show k + (i + 1) = k + 1 + i by omega]; exact p)
      rwa [show k + (i + 1) + 1 = k + 1 + i + 1 by omega] at this
    refine ⟨ρ2, by rw [lp_cons h1]; exact h3, ?_⟩
    rw [List.length_cons, show k + (r.length + 1) = k + 1 + r.length by omega]
    exact h4
theorem lp_list {g : PyData → En → Option En} {b : SF} (P : Nat → En → Prop) {ds : List PyData} {ρ : En} (h0 : P 0 ρ)
    (hs : ∀ i d ρ, ds[i]? = some d → P i ρ → ∃ ρ', lp1 g b d ρ = some ρ' ∧ P (i + 1) ρ') : ∃ ρ', lp g b ds ρ = some (.nx ρ') ∧ P ds.length ρ' := by
  obtain ⟨ρ', h1, h2⟩ := lp_ind P ds 0 ρ h0 fun i d ρ e p => by
    rw [Nat.zero_add] at p ⊢
    exact hs i d ρ e p
  exact ⟨ρ', h1, by rwa [Nat.zero_add] at h2⟩
theorem lp_rng {g : PyData → En → Option En} {b : SF} (P : Nat → En → Prop) {lo : Int} {n : Nat} {ρ : En} (h0 : P 0 ρ)
    (hs : ∀ i ρ, i < n → P i ρ → ∃ ρ', lp1 g b (.int (lo + (i : Nat))) ρ = some ρ' ∧ P (i + 1) ρ') : ∃ ρ', lp g b (rngL lo n) ρ = some (.nx ρ') ∧ P n ρ' := by
  have z := lp_list (g := g) (b := b) P (ds := rngL lo n) h0 fun i d ρ e p => by
    have hi : i < n := by
      have := (List.getElem?_eq_some_iff.mp e).1
      rwa [rngL_len] at this
    rw [rngL_get e]
    exact hs i ρ hi p
  rwa [rngL_len] at z
/-- a comprehension without a test, its element a value by place, nothing drawn -/
theorem cl_map {vs : List Nat} {g : PyData → En → Option En} {e : EF} {ρ : En} : ∀ (ds : List PyData) (f : PyData → PyData), (∀ d ∈ ds, ∃ ρ1 ρ2, g d (wipeE ρ vs) = some ρ1 ∧ e ρ1 = some (f d, ρ2) ∧ wipeE ρ2 vs = wipeE ρ vs) → ∀ ρ0, wipeE ρ0 vs = wipeE ρ vs →
    cl vs g fYes e ds ρ0 = some (ds.map f, wipeE ρ vs)
  | [], f, _, ρ0, h0 => by
    show some ([], wipeE ρ0 vs) = _
    rw [h0]
    rfl
  | d :: r, f, h, ρ0, h0 => by
    obtain ⟨ρ1, ρ2, h1, h2, h3⟩ := h d List.mem_cons_self
    have ih := cl_map r f (fun d hd => h d (List.mem_cons_of_mem _ hd)) ρ2 h3
    show (match g d (wipeE ρ0 vs) with | none => none | some ρ1 => bnd (fYes ρ1) fun k ρ2 => if k = true then bnd (e ρ2) fun y ρ3 => bnd (cl vs g fYes e r ρ3) fun ys ρ4 => some (y :: ys, ρ4) else cl vs g fYes e r ρ2) = _
    rw [h0, h1]
    simp only [fYes, bnd, h2, ih, if_true, List.map_cons]
theorem runF_rt {n m : Nat} {fb : SF} {ds : List PyData} {d : PyData} {ρ : En} (h : fb (start1 m ds) = some (.rt d ρ)) (hn : ds.length = n := by rfl) : runF n m fb ds = some d := by
  subst hn
  unfold runF
  rw [if_pos (beq_self_eq_true _), h]
theorem runS_rt {n m : Nat} {fb : SF} {s s' : Src} {ds : List PyData} {d : PyData} {ρ : En} (h : fb (startS m s ds) = some (.rt d (.src s' :: ρ))) (hn : ds.length + 1 = n := by rfl) : runS n m fb s ds = some (d, s') := by
  subst hn
  unfold runS
  rw [if_pos (beq_self_eq_true _), h]
/-! ## small facts -/
theorem log2_lt {i : Int} {k : Nat} (hk : k ≠ 0) (h : i.natAbs < 2 ^ k) : i.natAbs.log2 < k := by
  by_cases h0 : i.natAbs = 0
  · rw [h0]
    simp
    omega
  · exact (Nat.log2_lt h0).mpr h
theorem mulOk_of {i j : Int} {a b : Nat} (h1 : i.natAbs.log2 ≤ a) (h2 : j.natAbs.log2 ≤ b) (h : a + b < 1000000) : mulOk i j = true := by
  unfold mulOk
  exact Nat.ble_eq_true_of_le (by omega)
theorem divOk_of {j : Int} (h0 : 0 < j) (h : j.natAbs.log2 < 9000) : divOk j = true := by
  unfold divOk
  rw [decide_eq_true h0]
  exact Nat.ble_eq_true_of_le h
theorem modOk_of {j : Int} (h0 : 0 < j) : modOk j = true := decide_eq_true h0
theorem inB_of {j : Int} (h1 : -4611686018427387903 ≤ j) (h2 : j ≤ 4611686018427387903) : inB j = true := Nat.ble_eq_true_of_le (by omega)
@[simp] theorem oEq_int {a b : Int} : oEq (.int a) (.int b) = some (.bool (decide (a = b))) := by
  have e : PyData.eqv (.int a) (.int b) = decide (a = b) := by
    rw [← Bool.beq_eq_decide_eq]
    rfl
  have s : (SeqAt.shaped (.int a) && SeqAt.shaped (.int b)) = true := rfl
  unfold oEq
  rw [if_pos s, e]
@[simp] theorem oNe_int {a b : Int} : oNe (.int a) (.int b) = some (.bool (!decide (a = b))) := by
  have e : PyData.eqv (.int a) (.int b) = decide (a = b) := by
    rw [← Bool.beq_eq_decide_eq]
    rfl
  have s : (SeqAt.shaped (.int a) && SeqAt.shaped (.int b)) = true := rfl
  unfold oNe
  rw [if_pos s, e]
@[simp] theorem intsD_map : ∀ ns : List Int, intsD (ns.map PyData.int) = some ns
  | [] => rfl
  | n :: r => by
    show (match intsD (r.map PyData.int) with | some l => some (n :: l) | none => none) = _
    rw [intsD_map r]
@[simp] theorem boolsD_map : ∀ ns : List Bool, boolsD (ns.map PyData.bool) = some ns
  | [] => rfl
  | n :: r => by
    show (match boolsD (r.map PyData.bool) with | some l => some (n :: l) | none => none) = _
    rw [boolsD_map r]
theorem ixD_nat {ds : List PyData} {n : Nat} : ixD ds (n : Int) = ds[n]? := rfl
theorem ixP_nat {n k : Nat} (h : k < n) : ixP n (k : Int) = some k := by
  show (if Nat.blt k n = true then some k else none) = _
  rw [if_pos (show Nat.blt k n = true from Nat.ble_eq_true_of_le h)]
/-- an item of a list of ints, 0 beyond -/
def iat (l : List Int) (i : Nat) : Int := l.getD i 0
theorem iat_some {l : List Int} {i : Nat} {v : Int} (h : l[i]? = some v) : iat l i = v := by
  unfold iat
  rw [List.getD_eq_getElem?_getD, h]
  rfl
theorem ixD_map {l : List Int} {n : Nat} {z : Int} (hz : z = n) (h : n < l.length) : ixD (l.map PyData.int) z = some (.int (iat l n)) := by
  subst hz
  rw [ixD_nat, List.getElem?_map, List.getElem?_eq_getElem h, iat_some (List.getElem?_eq_getElem h)]
  rfl
theorem ixP_map {l : List Int} {n : Nat} {z : Int} (hz : z = n) (h : n < l.length) : ixP (l.map PyData.int).length z = some n := by
  subst hz
  exact ixP_nat (by rw [List.length_map]; exact h)
theorem setI_map {l : List Int} {n : Nat} {v : Int} : (l.map PyData.int).set n (.int v) = (l.set n v).map PyData.int := by rw [List.map_set]
theorem rep_map {n : Nat} {v : Int} : List.replicate n (PyData.int v) = (List.replicate n v).map PyData.int := by rw [List.map_replicate]
theorem enum_map {row : List Int} {i : Nat} {d : PyData} (h : (enumD 0 (row.map PyData.int))[i]? = some d) : i < row.length ∧ d = .tuple [.int (i : Nat), .int (iat row i)] := by
  obtain ⟨d', h1, h2⟩ := enumD_get h
  rw [List.getElem?_map] at h1
  cases e : row[i]? with
  | none =>
    rw [e] at h1
    cases h1
  | some v =>
    rw [e] at h1
    cases h1
    refine ⟨(List.getElem?_eq_some_iff.mp e).1, ?_⟩
    rw [h2, iat_some e, Nat.zero_add]
/-- a function of natural numbers on ints -/
def mI (f : Nat → Int) : PyData → PyData
  | .int i => .int (f i.toNat)
  | d => d
theorem mI_nat {f : Nat → Int} {i : Nat} : mI f (.int (i : Nat)) = .int (f i) := rfl
theorem mI_rng {n : Nat} {f : Nat → Int} : (rngL 0 n).map (mI f) = ((List.range n).map f).map .int := by
  unfold rngL
  rw [List.map_map, List.map_map]
  refine List.map_congr_left fun i hi => ?_
  show PyData.int (f ((0 : Int) + (i : Nat)).toNat) = PyData.int (f i)
  congr 2
  omega
theorem mem_rng0 {n : Nat} {d : PyData} (h : d ∈ rngL 0 n) : ∃ i : Nat, i < n ∧ d = .int (i : Nat) := by
  unfold rngL at h
  obtain ⟨i, hi, rfl⟩ := List.mem_map.mp h
  exact ⟨i, List.mem_range.mp hi, by rw [Int.zero_add]⟩
end Fe
namespace K18
open PySem PySem.Spec PyProof.Rows L2 Fe
def top (i : Nat) : Stmt := PySem.Challenge.pw_wholefours_k18_whole_lengths_of_words_to.main.body.getD i (.Pass ⟨0, 0, 0, 0⟩)
def fuel : Nat := 1048576
theorem sc0 : FnScope ["p", "k", "found", "lap"] ["p", "k"] (defScope (top 1)) := ⟨rfl, rfl, rfl, by decide +kernel, rfl, by decide +kernel, by decide +kernel⟩
def b_count_never_back_0 : SF := (sSet 2 (fOp oMul (fVar 2) (fIf (fTst (fOp oGt (fVar 3) (fC (.int 0)))) (fVar 0) (fOp oAdd (fVar 0) (fC (.int 1))))))
def b_count_never_back : SF := (sSeq (sSet 2 (fC (.int 1)))
    (sSeq (sFor (fRng1 (fCons (fVar 1) fNil)) (gNm 3) b_count_never_back_0)
    (sRet (fVar 2))))
def F_count_never_back : List PyData → Option PyData := runF 2 4 b_count_never_back
theorem sc1 : FnScope ["p", "k", "j"] ["p", "k"] (defScope (top 2)) := ⟨rfl, rfl, rfl, by decide +kernel, rfl, by decide +kernel, by decide +kernel⟩
def e_ball_size_0 : EF := (fCall F_count_never_back (fCons (fVar 0) (fCons (fVar 2) fNil)))
def b_ball_size : SF := (sRet (fR1 oSum (fVal (fAsL (fComp [2] (fRng1 (fCons (fOp oAdd (fVar 1) (fC (.int 1))) fNil)) (gNm 2) fYes e_ball_size_0)))))
def F_ball_size : List PyData → Option PyData := runF 2 3 b_ball_size
theorem sc2 : FnScope ["p", "row", "found", "j", "many"] ["p", "row"] (defScope (top 4)) := ⟨rfl, rfl, rfl, by decide +kernel, rfl, by decide +kernel, by decide +kernel⟩
def b_next_lengths_0 : SF := (sSeq (sIx 2 (fOp oAdd (fIx (fRd 2) (fOp oAdd (fVar 3) (fC (.int 1)))) (fOp oMul (fVar 4) (fIf (fTst (fOp oGt (fVar 3) (fC (.int 0)))) (fVar 0) (fOp oAdd (fVar 0) (fC (.int 1)))))) (fOp oAdd (fVar 3) (fC (.int 1))))
    (sIf (fTst (fOp oGt (fVar 3) (fC (.int 0)))) (sIx 2 (fOp oAdd (fIx (fRd 2) (fOp oSub (fVar 3) (fC (.int 1)))) (fVar 4)) (fOp oSub (fVar 3) (fC (.int 1)))) sNil))
def b_next_lengths : SF := (sSeq (sOwn 2 (fRep (fAsL (fLst (fCons (fC (.int 0)) fNil))) (fOp oAdd (fR1 oLen (fRd 1)) (fC (.int 1)))))
    (sSeq (sFor (fEnum (fVar 1)) (gTp 2 (gCons' (gNm 3) (gCons' (gNm 4) gNil'))) b_next_lengths_0)
    (fun ρ => (sRet (fVar 2)) (frzS 2 ρ))))
def F_next_lengths : List PyData → Option PyData := runF 2 5 b_next_lengths
theorem sc3 : FnScope ["p", "k", "found", "lap"] ["p", "k"] (defScope (top 5)) := ⟨rfl, rfl, rfl, by decide +kernel, rfl, by decide +kernel, by decide +kernel⟩
def b_told_lengths_0 : SF := (sSet 2 (fCall F_next_lengths (fCons (fVar 0) (fCons (fVar 2) fNil))))
def b_told_lengths : SF := (sSeq (sSet 2 (fAsL (fLst (fCons (fC (.int 1)) fNil))))
    (sSeq (sFor (fRng1 (fCons (fVar 1) fNil)) (gNm 3) b_told_lengths_0)
    (sRet (fR1 oTuple (fRd 2)))))
def F_told_lengths : List PyData → Option PyData := runF 2 4 b_told_lengths
theorem sc4 : FnScope ["p", "k", "j"] ["p", "k", "j"] (defScope (top 6)) := ⟨rfl, rfl, rfl, by decide +kernel, rfl, by decide +kernel, by decide +kernel⟩
def b_words_for : SF := (sRet (fIf (fTst (fOp oLe (fVar 2) (fVar 1))) (fOp oDiv (fIx (fVal (fCall F_told_lengths (fCons (fVar 0) (fCons (fVar 1) fNil)))) (fVar 2)) (fCall F_count_never_back (fCons (fVar 0) (fCons (fVar 2) fNil)))) (fC (.int 0))))
def F_words_for : List PyData → Option PyData := runF 3 3 b_words_for
theorem sc5 : FnScope ["p", "k"] ["p", "k"] (defScope (top 7)) := ⟨rfl, rfl, rfl, by decide +kernel, rfl, by decide +kernel, by decide +kernel⟩
def b_back_home : SF := (sRet (fIx (fVal (fCall F_told_lengths (fCons (fVar 0) (fCons (fVar 1) fNil)))) (fC (.int 0))))
def F_back_home : List PyData → Option PyData := runF 2 2 b_back_home
theorem sc9 : FnScope ["p", "k", "row", "turn", "late", "j", "many"] ["p", "k"] (defScope (top 12)) := ⟨rfl, rfl, rfl, by decide +kernel, rfl, by decide +kernel, by decide +kernel⟩
def b_law_lengths_0 : SF := (sSeq (sIx 4 (fOp oAdd (fIx (fRd 4) (fOp oAdd (fVar 5) (fC (.int 1)))) (fOp oMul (fVar 6) (fIf (fTst (fOp oGt (fVar 5) (fC (.int 0)))) (fVar 0) (fOp oAdd (fVar 0) (fC (.int 1)))))) (fOp oAdd (fVar 5) (fC (.int 1))))
    (sIf (fTst (fOp oGt (fVar 5) (fC (.int 0)))) (sIx 4 (fOp oAdd (fIx (fRd 4) (fOp oSub (fVar 5) (fC (.int 1)))) (fVar 6)) (fOp oSub (fVar 5) (fC (.int 1)))) sNil))
def b_law_lengths_1 : SF := (sSeq (sOwn 4 (fRep (fAsL (fLst (fCons (fC (.int 0)) fNil))) (fOp oAdd (fR1 oLen (fRd 2)) (fC (.int 1)))))
    (sSeq (sFor (fEnum (fVar 2)) (gTp 2 (gCons' (gNm 5) (gCons' (gNm 6) gNil'))) b_law_lengths_0)
    (fun ρ => (sSet 2 (fVar 4)) (frzS 4 ρ))))
def b_law_lengths : SF := (sSeq (sSet 2 (fAsL (fLst (fCons (fC (.int 1)) fNil))))
    (sSeq (sFor (fRng1 (fCons (fVar 1) fNil)) (gNm 3) b_law_lengths_1)
    (sRet (fVar 2))))
def F_law_lengths : List PyData → Option PyData := runF 2 7 b_law_lengths
theorem sc10 : FnScope ["p", "j", "found", "turn"] ["p", "j"] (defScope (top 13)) := ⟨rfl, rfl, rfl, by decide +kernel, rfl, by decide +kernel, by decide +kernel⟩
def b_law_onwards_0 : SF := (sSet 2 (fOp oMul (fVar 2) (fIf (fTst (fOp oGt (fVar 3) (fC (.int 0)))) (fVar 0) (fOp oAdd (fVar 0) (fC (.int 1))))))
def b_law_onwards : SF := (sSeq (sSet 2 (fC (.int 1)))
    (sSeq (sFor (fRng1 (fCons (fVar 1) fNil)) (gNm 3) b_law_onwards_0)
    (sRet (fVar 2))))
def F_law_onwards : List PyData → Option PyData := runF 2 4 b_law_onwards
structure Tx (K : PySem.W.Frag) (mg : Str → Option Value) (ad : Nat → Addr) (fd : Nat → FuncData) : Prop where
  F0 : Fun K "count_never_back" "count_never_back" (top 1) (ad 0) (fd 0)
  g0 : mg "count_never_back" = some (.ref (ad 0))
  b0 : Binds K (fd 0) ["p", "k"] []
  F1 : Fun K "ball_size" "ball_size" (top 2) (ad 1) (fd 1)
  g1 : mg "ball_size" = some (.ref (ad 1))
  b1 : Binds K (fd 1) ["p", "k"] []
  F2 : Fun K "next_lengths" "next_lengths" (top 4) (ad 2) (fd 2)
  g2 : mg "next_lengths" = some (.ref (ad 2))
  b2 : Binds K (fd 2) ["p", "row"] []
  F3 : Fun K "told_lengths" "told_lengths" (top 5) (ad 3) (fd 3)
  g3 : mg "told_lengths" = some (.ref (ad 3))
  b3 : Binds K (fd 3) ["p", "k"] []
  F4 : Fun K "words_for" "words_for" (top 6) (ad 4) (fd 4)
  g4 : mg "words_for" = some (.ref (ad 4))
  b4 : Binds K (fd 4) ["p", "k", "j"] []
  F5 : Fun K "back_home" "back_home" (top 7) (ad 5) (fd 5)
  g5 : mg "back_home" = some (.ref (ad 5))
  b5 : Binds K (fd 5) ["p", "k"] []
  F6 : Fun K "_law_open_cells" "_law_open_cells" (top 9) (ad 6) (fd 6)
  g6 : mg "_law_open_cells" = some (.ref (ad 6))
  b6 : Binds K (fd 6) ["script"] []
  F7 : Fun K "_law_pick" "_law_pick" (top 10) (ad 7) (fd 7)
  g7 : mg "_law_pick" = some (.ref (ad 7))
  b7 : Binds K (fd 7) ["source", "most"] []
  F8 : Fun K "_law_of" "_law_of" (top 11) (ad 8) (fd 8)
  g8 : mg "_law_of" = some (.ref (ad 8))
  b8 : Binds K (fd 8) ["source", "some"] []
  F9 : Fun K "_law_lengths" "_law_lengths" (top 12) (ad 9) (fd 9)
  g9 : mg "_law_lengths" = some (.ref (ad 9))
  b9 : Binds K (fd 9) ["p", "k"] []
  F10 : Fun K "_law_onwards" "_law_onwards" (top 13) (ad 10) (fd 10)
  g10 : mg "_law_onwards" = some (.ref (ad 10))
  b10 : Binds K (fd 10) ["p", "j"] []
  F11 : Fun K "law" "law" (top 14) (ad 11) (fd 11)
  g11 : mg "law" = some (.ref (ad 11))
  b11 : Binds K (fd 11) ["script"] []
  m_abs : mg "abs" = none
  m_enumerate : mg "enumerate" = none
  m_int : mg "int" = none
  m_len : mg "len" = none
  m_min : mg "min" = none
  m_range : mg "range" = none
  m_repr : mg "repr" = none
  m_sum : mg "sum" = none
  m_tuple : mg "tuple" = none
section
variable {P : Program} {w : World} {K : PySem.W.Frag} {mg : Str → Option Value} {base : Heap} {ad : Nat → Addr} {fd : Nat → FuncData}
theorem d_count_never_back (T : Tx K mg ad fd) : FnG P w K mg base 1 (ad 0) (fd 0) ["p", "k"] (spF K F_count_never_back) := by
  refine fnRun (fb := b_count_never_back) T.F0 sc0 (fun cdv A outer s H hr hG => ?_)
  exact (fss_cons (fs_set (i := 2) sc0.nd rfl (by first | exact Or.inl rfl | exact Or.inr rfl) fe_int)
    (fss_cons (fs_for rfl (fi_rng1 (fa_cons (fe_v 1 (pv 1)) fa_nil) rfl T.m_range) (fg_name (i := 3) sc0.nd rfl (by first | exact Or.inl rfl | exact Or.inr rfl)) (fss_one (fs_set (i := 2) sc0.nd rfl (by first | exact Or.inl rfl | exact Or.inr rfl) (fe_mul (fe_v 2 (pv 2)) (fe_ifExp (ft_gt (fe_v 3 (pv 3)) fe_int) (fe_v 0 (pv 0)) (fe_add (fe_v 0 (pv 0)) fe_int))))))
    (fss_one (fs_ret (fe_v 2 (pv 2))))))
theorem d_ball_size (T : Tx K mg ad fd) : FnG P w K mg base 2 (ad 1) (fd 1) ["p", "k"] (spF K F_ball_size) := by
  have D0 : FnG P w K mg base 1 (ad 0) (fd 0) _ (spF K F_count_never_back) := d_count_never_back T
  refine fnRun (fb := b_ball_size) T.F1 sc1 (fun cdv A outer s H hr hG => ?_)
  exact (fss_one (fs_ret (fe_sum rfl (FE.rd (FL.fe (fl_lc [("j", 2)] rfl sc1.nd (fi_rng1 (fa_cons (fe_add (fe_v 1 (pv 1)) fe_int) fa_nil) rfl T.m_range) (blkOk_by (N := ["p", "k", "j"]) (sc := defScope (top 2)) (by decide +kernel)) (fun _ _ _ _ _ => (fg_name (i := 2) sc1.nd rfl (by first | exact Or.inl rfl | exact Or.inr rfl))) (fun _ _ _ _ _ => fts_nil) (fun _ _ _ _ _ => (fe_call D0 (hr.mono (by decide)) hG rfl T.g0 T.F0.kp T.b0 (fa_cons (fe_v 0 (pv 0)) (fa_cons (fe_v 2 (pv 2)) fa_nil))))))) rfl T.m_sum)))
theorem d_next_lengths (T : Tx K mg ad fd) : FnG P w K mg base 1 (ad 2) (fd 2) ["p", "row"] (spF K F_next_lengths) := by
  refine fnRun (fb := b_next_lengths) T.F2 sc2 (fun cdv A outer s H hr hG => ?_)
  exact (fss_cons (fs_own (i := 2) sc2.nd rfl (by first | exact Or.inl rfl | exact Or.inr rfl) (fl_rep (FL.fe (fl_lst (fa_cons fe_int fa_nil))) (fe_add (fe_len (fr_v 1 (pv 1)) rfl T.m_len) fe_int)))
    (fss_cons (fs_for rfl (fi_enum (fe_v 1 (pv 1)) rfl T.m_enumerate) (fg_tup rfl (fgs_cons (fg_name (i := 3) sc2.nd rfl (by first | exact Or.inl rfl | exact Or.inr rfl)) (fgs_cons (fg_name (i := 4) sc2.nd rfl (by first | exact Or.inl rfl | exact Or.inr rfl)) fgs_nil))) (fss_cons (fs_ix (i := 2) (fun _ _ h h2 => ps_asg h (pg_sub (pv 2) h2 set_list)) (fe_add (fe_v 3 (pv 3)) fe_int) (fe_add (fe_ix (fr_v 2 (pv 2)) (fe_add (fe_v 3 (pv 3)) fe_int)) (fe_mul (fe_v 4 (pv 4)) (fe_ifExp (ft_gt (fe_v 3 (pv 3)) fe_int) (fe_v 0 (pv 0)) (fe_add (fe_v 0 (pv 0)) fe_int)))))
    (fss_one (fs_if (ft_gt (fe_v 3 (pv 3)) fe_int) (fss_one (fs_ix (i := 2) (fun _ _ h h2 => ps_asg h (pg_sub (pv 2) h2 set_list)) (fe_sub (fe_v 3 (pv 3)) fe_int) (fe_add (fe_ix (fr_v 2 (pv 2)) (fe_sub (fe_v 3 (pv 3)) fe_int)) (fe_v 4 (pv 4))))) fss_nil))))
    (fss_one (fs_frz 2 (fs_ret (fe_v 2 (pv 2)))))))
theorem d_told_lengths (T : Tx K mg ad fd) : FnG P w K mg base 2 (ad 3) (fd 3) ["p", "k"] (spF K F_told_lengths) := by
  have D2 : FnG P w K mg base 1 (ad 2) (fd 2) _ (spF K F_next_lengths) := d_next_lengths T
  refine fnRun (fb := b_told_lengths) T.F3 sc3 (fun cdv A outer s H hr hG => ?_)
  exact (fss_cons (fs_set (i := 2) sc3.nd rfl (by first | exact Or.inl rfl | exact Or.inr rfl) (FL.fe (fl_lst (fa_cons fe_int fa_nil))))
    (fss_cons (fs_for rfl (fi_rng1 (fa_cons (fe_v 1 (pv 1)) fa_nil) rfl T.m_range) (fg_name (i := 3) sc3.nd rfl (by first | exact Or.inl rfl | exact Or.inr rfl)) (fss_one (fs_set (i := 2) sc3.nd rfl (by first | exact Or.inl rfl | exact Or.inr rfl) (fe_call D2 (hr.mono (by decide)) hG rfl T.g2 T.F2.kp T.b2 (fa_cons (fe_v 0 (pv 0)) (fa_cons (fe_v 2 (pv 2)) fa_nil))))))
    (fss_one (fs_ret (fe_tuple (fr_v 2 (pv 2)) rfl T.m_tuple)))))
theorem d_words_for (T : Tx K mg ad fd) : FnG P w K mg base 3 (ad 4) (fd 4) ["p", "k", "j"] (spF K F_words_for) := by
  have D3 : FnG P w K mg base 2 (ad 3) (fd 3) _ (spF K F_told_lengths) := d_told_lengths T
  have D0 : FnG P w K mg base 1 (ad 0) (fd 0) _ (spF K F_count_never_back) := d_count_never_back T
  refine fnRun (fb := b_words_for) T.F4 sc4 (fun cdv A outer s H hr hG => ?_)
  exact (fss_one (fs_ret (fe_ifExp (ft_le (fe_v 2 (pv 2)) (fe_v 1 (pv 1))) (fe_fdiv (fe_ix (FE.rd (fe_call D3 (hr.mono (by decide)) hG rfl T.g3 T.F3.kp T.b3 (fa_cons (fe_v 0 (pv 0)) (fa_cons (fe_v 1 (pv 1)) fa_nil)))) (fe_v 2 (pv 2))) (fe_call D0 (hr.mono (by decide)) hG rfl T.g0 T.F0.kp T.b0 (fa_cons (fe_v 0 (pv 0)) (fa_cons (fe_v 2 (pv 2)) fa_nil)))) fe_int)))
theorem d_back_home (T : Tx K mg ad fd) : FnG P w K mg base 3 (ad 5) (fd 5) ["p", "k"] (spF K F_back_home) := by
  have D3 : FnG P w K mg base 2 (ad 3) (fd 3) _ (spF K F_told_lengths) := d_told_lengths T
  refine fnRun (fb := b_back_home) T.F5 sc5 (fun cdv A outer s H hr hG => ?_)
  exact (fss_one (fs_ret (fe_ix (FE.rd (fe_call D3 (hr.mono (by decide)) hG rfl T.g3 T.F3.kp T.b3 (fa_cons (fe_v 0 (pv 0)) (fa_cons (fe_v 1 (pv 1)) fa_nil)))) fe_int)))
theorem d_law_lengths (T : Tx K mg ad fd) : FnG P w K mg base 1 (ad 9) (fd 9) ["p", "k"] (spF K F_law_lengths) := by
  refine fnRun (fb := b_law_lengths) T.F9 sc9 (fun cdv A outer s H hr hG => ?_)
  exact (fss_cons (fs_set (i := 2) sc9.nd rfl (by first | exact Or.inl rfl | exact Or.inr rfl) (FL.fe (fl_lst (fa_cons fe_int fa_nil))))
    (fss_cons (fs_for rfl (fi_rng1 (fa_cons (fe_v 1 (pv 1)) fa_nil) rfl T.m_range) (fg_name (i := 3) sc9.nd rfl (by first | exact Or.inl rfl | exact Or.inr rfl)) (fss_cons (fs_own (i := 4) sc9.nd rfl (by first | exact Or.inl rfl | exact Or.inr rfl) (fl_rep (FL.fe (fl_lst (fa_cons fe_int fa_nil))) (fe_add (fe_len (fr_v 2 (pv 2)) rfl T.m_len) fe_int)))
    (fss_cons (fs_for rfl (fi_enum (fe_v 2 (pv 2)) rfl T.m_enumerate) (fg_tup rfl (fgs_cons (fg_name (i := 5) sc9.nd rfl (by first | exact Or.inl rfl | exact Or.inr rfl)) (fgs_cons (fg_name (i := 6) sc9.nd rfl (by first | exact Or.inl rfl | exact Or.inr rfl)) fgs_nil))) (fss_cons (fs_ix (i := 4) (fun _ _ h h2 => ps_asg h (pg_sub (pv 4) h2 set_list)) (fe_add (fe_v 5 (pv 5)) fe_int) (fe_add (fe_ix (fr_v 4 (pv 4)) (fe_add (fe_v 5 (pv 5)) fe_int)) (fe_mul (fe_v 6 (pv 6)) (fe_ifExp (ft_gt (fe_v 5 (pv 5)) fe_int) (fe_v 0 (pv 0)) (fe_add (fe_v 0 (pv 0)) fe_int)))))
    (fss_one (fs_if (ft_gt (fe_v 5 (pv 5)) fe_int) (fss_one (fs_ix (i := 4) (fun _ _ h h2 => ps_asg h (pg_sub (pv 4) h2 set_list)) (fe_sub (fe_v 5 (pv 5)) fe_int) (fe_add (fe_ix (fr_v 4 (pv 4)) (fe_sub (fe_v 5 (pv 5)) fe_int)) (fe_v 6 (pv 6))))) fss_nil))))
    (fss_one (fs_frz 4 (fs_set (i := 2) sc9.nd rfl (by first | exact Or.inl rfl | exact Or.inr rfl) (fe_v 4 (pv 4))))))))
    (fss_one (fs_ret (fe_v 2 (pv 2))))))
theorem d_law_onwards (T : Tx K mg ad fd) : FnG P w K mg base 1 (ad 10) (fd 10) ["p", "j"] (spF K F_law_onwards) := by
  refine fnRun (fb := b_law_onwards) T.F10 sc10 (fun cdv A outer s H hr hG => ?_)
  exact (fss_cons (fs_set (i := 2) sc10.nd rfl (by first | exact Or.inl rfl | exact Or.inr rfl) fe_int)
    (fss_cons (fs_for rfl (fi_rng1 (fa_cons (fe_v 1 (pv 1)) fa_nil) rfl T.m_range) (fg_name (i := 3) sc10.nd rfl (by first | exact Or.inl rfl | exact Or.inr rfl)) (fss_one (fs_set (i := 2) sc10.nd rfl (by first | exact Or.inl rfl | exact Or.inr rfl) (fe_mul (fe_v 2 (pv 2)) (fe_ifExp (ft_gt (fe_v 3 (pv 3)) fe_int) (fe_v 0 (pv 0)) (fe_add (fe_v 0 (pv 0)) fe_int))))))
    (fss_one (fs_ret (fe_v 2 (pv 2))))))
end
end K18
namespace K18
open PySem PySem.Spec PyProof.Rows L2 Fe
theorem int_at {ns : List Int} {i : Nat} {y : V} (h : (ns.map V.int)[i]? = some y) : ∃ z, y = V.int z := by
  rw [List.getElem?_map] at h
  cases e : ns[i]? with
  | none =>
    rw [e] at h
    cases h
  | some z =>
    rw [e] at h
    exact ⟨z, (Option.some.inj h).symm⟩
abbrev F_law_pick := fPick pickA
theorem sc6 : FnScope ["script", "stirred", "cell", "cells"] ["script"] (defScope (top 9)) := ⟨rfl, rfl, rfl, by decide +kernel, rfl, by decide +kernel, by decide +kernel⟩
section
variable {P : Program} {w : World} {K : PySem.W.Frag} {mg : Str → Option Value} {base : Heap} {ad : Nat → Addr} {fd : Nat → FuncData}
theorem d_mk (T : Tx K mg ad fd) : FnG P w K mg base 1 (ad 6) (fd 6) ["script"] (spMk K) := by
  refine fnG_of T.F6 sc6 (fun vs H Q h => ?_) fun cdv A outer s H vs Q hr hG h => ?_
  · obtain ⟨p, ns, rfl, _⟩ := h
    rfl
  · obtain ⟨a, ns, rfl, hS, hlen, k⟩ := h
    refine ⟨_, pss_cons (ps_set (i := 1) sc6.nd rfl (Or.inl rfl) pe_int)
      (pss_cons (ps_for PassesOwn.never rfl (pi_list (pv 0)) (pg_name (i := 2) sc6.nd rfl (Or.inl rfl)) (pss_one (ps_set (i := 1) sc6.nd rfl (Or.inl rfl)
        (pe_op op_mod (pe_callTy call_int1 rfl T.m_int (by decide +kernel) (pa_cons (pe_op op_add (pe_op op_add (pe_op op_mul (pv 1) pe_int) (pe_op op_mul (pv 2) pe_int)) pe_int) pa_nil)) pe_int))))
      (pss_cons (ps_setLc (i := 3) (own := [("cell", 2)]) (g := gName 2) (tt := tYes) rfl sc6.nd rfl rfl (sw_true rfl rfl rfl (by decide +kernel)) (pi_list (pv 0)) (blkOk_by (N := ["script", "stirred", "cell", "cells"]) (sc := defScope (top 9)) (by decide +kernel))
        (fun _ _ _ _ _ => pg_name (i := 2) sc6.nd rfl (Or.inl rfl)) (fun _ _ _ _ _ => pts_nil) (fun _ _ _ _ _ => pe_callB call_abs rfl T.m_abs (by decide +kernel) (pa_cons (pv 2) pa_nil)))
      (pss_one (ps_ret (pe_disp (pps_cons pe_str (pe_revL (pv 3)) (pps_cons pe_str pe_int (pps_cons pe_str (pv 1) (pps_cons pe_str pe_int pps_nil)))) (by decide) rfl (by simp) (by decide)))))), ?_⟩
    refine ⟨_, rfl, a, rfl, ⟨_, hS⟩, for_list (K := K) (a := a) (xs := ns.map V.int) (fun i σ H2 => ∃ (m : Int) (v : Option V), σ = [some (.ref a), some (.int m), v, none] ∧ H2 = H) ⟨_, none, rfl, rfl⟩ (fun i σ H2 _ ⟨_, _, _, e⟩ => by rw [e]; exact hS) ?_ ?_⟩
    · rintro i y σ H2 hi ⟨m, v, rfl, rfl⟩
      obtain ⟨z, rfl⟩ := int_at hi
      exact ⟨_, rfl, _, _, rfl, rfl, Or.inr ⟨by decide, by decide⟩, _, rfl, _, _, rfl, rfl, Or.inr ⟨by decide, by decide⟩, _, _, rfl, rfl, _, _, rfl, rfl, Or.inl ⟨_, rfl, _, _, rfl, rfl, by show (0 : Int) < 2147483629; decide, _, _, rfl, rfl⟩⟩
    · rintro σ H2 ⟨m, v, rfl, rfl⟩
      refine ⟨_, rfl, a, rfl, ⟨_, hS⟩, fun D hD => ?_⟩
      refine lc_list (K := K) (a := a) (xs := ns.map V.int) (fun i H3 => ∃ acc : List Int, acc.length = i ∧ H3 = upd H2 D (.lst (acc.map V.int))) ⟨[], rfl, rfl⟩ (fun i H3 _ ⟨acc, _, e⟩ => by rw [e]; exact (same_new hD).seq hS) ?_ ?_
      · rintro i y H3 hi ⟨acc, hl, rfl⟩
        obtain ⟨z, rfl⟩ := int_at hi
        have hi' := (List.getElem?_eq_some_iff.mp hi).1
        rw [List.length_map] at hi'
        refine ⟨rfl, ?_⟩
        refine ⟨_, rfl, z, rfl, acc.map V.int, upd_same, by rw [List.length_map, hl]; exact Nat.lt_of_lt_of_le (show i < 64 by omega) (by decide), acc ++ [if z < 0 then -z else z], by simp [hl], ?_⟩
        rw [upd_upd, List.map_append]
        rfl
      · rintro H3 ⟨acc, hl, rfl⟩
        intro p hp
        refine ⟨_, rfl, D, _, rfl, Or.inl (Or.inl (by rw [upd_ne (show D ≠ p from fun e => by rw [← e, upd_same] at hp; cases hp)]; exact upd_same)), fun c hc => ?_⟩
        have npc : p ≠ c := fun e => by
          rw [← e, upd_same] at hc
          cases hc
        have hc2 : upd H2 D (.lst (acc.map V.int)) c = none := by
          rw [upd_ne npc.symm] at hc
          exact hc
        refine ⟨_, rfl, ?_⟩
        refine ⟨by rw [upd_ne npc]; exact upd_same, [(.inr "cells", .ref c), (.inr "left", .int _), (.inr "mixed", .int m), (.inr "turn", .int _)], rfl, (by show 4 ≤ 15; decide), ?_⟩
        have s1 : Same H2 (upd H2 D (.lst (acc.map V.int))) := same_new hD
        refine k p c ⟨acc.reverse, 1, m, 0⟩ _ (fun b o e => ?_) (s1.free hp) (s1.free hc2) ⟨?_, ?_⟩
        · have n1 : b ≠ D := ne_of_none e hD
          have n2 : b ≠ p := ne_of_none (s1 _ _ e) hp
          have n3 : b ≠ c := ne_of_none (s1 _ _ e) hc2
          rw [upd_ne n2, upd_ne n3, upd_ne n2, upd_ne n1]
          exact e
        · exact upd_same.trans (by rfl)
        · rw [upd_ne npc.symm, upd_same, List.map_reverse]
end
theorem sc7 : FnScope ["source", "most", "cells", "others", "lap", "stirred"] ["source", "most"] (defScope (top 10)) := ⟨rfl, rfl, rfl, by decide +kernel, rfl, by decide +kernel, by decide +kernel⟩
section
variable {P : Program} {w : World} {K : PySem.W.Frag} {mg : Str → Option Value} {base : Heap} {ad : Nat → Addr} {fd : Nat → FuncData}
theorem d_law_pick (T : Tx K mg ad fd) : FnG P w K mg base 1 (ad 7) (fd 7) ["source", "most"] (spS K (fPick pickA)) := by
  refine fnG_of T.F7 sc7 (fun vs H Q h => ?_) fun cdv A outer s0 H vs Q hr hG h => ?_
  · obtain ⟨a, c, us, G, s, ds, r, s', rfl, _, _, _, _, h1, h2, _⟩ := h
    unfold fPick at h2
    split at h2
    · rw [List.length_cons, h1.len]
      rfl
    · cases h2
  · obtain ⟨a, c, us, G, s, ds, r, s', rfl, h0, hs, ga, gc, h1, h2, h3⟩ := h
    unfold fPick at h2
    split at h2
    · rename_i m
      split at h2
      · rename_i hm
        cases h2
        have hm' : m.natAbs.log2 < 9000 := Nat.le_of_ble_eq_true hm
        cases h1 with | cons z1 z2 =>
        cases z1
        cases z2
        have fin : ∀ {H2 : Hp} {i : Int} {s2 : Src}, (i, s2) = pickA s m → Away H H2 a c → SrcAt H2 a c s2 → Q (.int i) H2 := by
          intro H2 i s2 e aw h2
          rw [← e] at h3
          exact h3 (.int i) c G H2 (Same.refl G) (fun b o z => aw b o (h0 b o z) (fun q => by rw [q, ga] at z; cases z) (fun q => by rw [q, gc] at z; cases z)) aw (fun b o _ _ _ z => z) h2 (Or.inl rfl) ga gc (.int i)
        refine ⟨_, pss_cons (ps_if (pt_cmpR op_lt (pv 1) pe_int (nomark _)) (pss_one (ps_ret pe_int)) pss_nil)
          (pss_cons (ps_set (i := 2) sc7.nd rfl (Or.inl rfl) (pe_dget (hu_of hr) (pv 0) pe_str (fun _ _ => rfl)))
          (pss_cons (ps_while PassesOwn.never (PW.pt (pw_and (pt_cmpR op_lt (pe_dget (hu_of hr) (pv 0) pe_str (fun _ _ => rfl)) pe_int (nomark _)) (pw_and1 (pt_cmpR op_gt (pe_callB call_len_seq rfl T.m_len PySem.boot_len (pa_cons (pv 2) pa_nil)) pe_int (nomark _)))))
            (pss_one (ps_dput (hu_of hr) (pv 0) pe_str (pe_bm0 PySem.F.plainAttrs_list PySem.F.slot_list_pop PySem.F.type_list_pop mt_pop (pv 2)) rfl)))
          (pss_cons (ps_set (i := 3) sc7.nd rfl (Or.inl rfl) (pe_dget (hu_of hr) (pv 0) pe_str (fun _ _ => rfl)))
          (pss_cons (ps_if (pt_cmpR op_gt (pv 3) pe_int (nomark _))
            (pss_cons (ps_dput (hu_of hr) (pv 0) pe_str (pe_op op_fdivW (pv 3) (pv 1)) rfl) (pss_one (ps_ret (pe_op op_mod (pe_callTy call_int1 rfl T.m_int (by decide +kernel) (pa_cons (pv 3) pa_nil)) (pv 1))))) pss_nil)
          (pss_cons (ps_dput (hu_of hr) (pv 0) pe_str (pe_op op_add (pe_dget (hu_of hr) (pv 0) pe_str (fun _ _ => rfl)) pe_int) rfl)
          (pss_cons (ps_set (i := 4) sc7.nd rfl (Or.inl rfl) (pe_dget (hu_of hr) (pv 0) pe_str (fun _ _ => rfl)))
          (pss_cons (ps_set (i := 5) sc7.nd rfl (Or.inl rfl) (pe_op op_mod (pe_callTy call_int1 rfl T.m_int (by decide +kernel) (pa_cons (pe_op op_add (pe_dget (hu_of hr) (pv 0) pe_str (fun _ _ => rfl)) (pe_op op_mul (pv 4) pe_int)) pa_nil)) pe_int))
          (pss_cons (ps_set (i := 5) sc7.nd rfl (Or.inl rfl) (pe_op op_mod (pe_callTy call_int1 rfl T.m_int (by decide +kernel) (pa_cons (pe_op op_add (pe_op op_mul (pv 5) (pv 5)) (pe_op op_mul (pv 4) pe_int)) pa_nil)) pe_int))
          (pss_one (ps_ret (pe_op op_mod (pe_callTy call_int1 rfl T.m_int (by decide +kernel) (pa_cons (pe_op op_fdiv (pv 5) pe_int) pa_nil)) (pv 1)))))))))))), ?_⟩
        refine ⟨_, rfl, _, _, rfl, rfl, _, rfl, ite2 (fun e => ?_) fun e => ?_⟩
        · have e' : m < 2 := of_decide_eq_true e
          exact fin (by unfold pickA; rw [if_pos e']) (Away.refl H a c) hs
        · have e' : ¬ m < 2 := fun z => e (decide_eq_true z)
          refine ⟨_, rfl, a, _, rfl, hs.cells, ?_⟩
          refine ⟨fun n σ H2 => ∃ l cs, σ = [some (.ref a), some (.int m), some (.ref c), none, none, none] ∧ n = cs.length ∧ SrcAt H2 a c ⟨cs, l, s.mixed, s.turn⟩ ∧ Away H H2 a c ∧ popT cs.length l cs = popA s, ⟨_, s.left, s.cells, rfl, rfl, hs, Away.refl H a c, rfl⟩, ?_⟩
          rintro n σ H2 ⟨l, cs, rfl, rfl, h4, h5, h6⟩
          refine ⟨_, rfl, a, _, rfl, h4.left, _, _, rfl, rfl, _, rfl, ite2 (fun c1 => ?_) fun c1 => ?_⟩
          · have c1' : l < 2 := of_decide_eq_true c1
            refine ⟨_, rfl, c, _, rfl, Or.inl (Or.inl (Or.inl h4.2)), _, _, rfl, rfl, _, rfl, ite2 (fun c2 => ?_) fun c2 => ?_⟩
            · have c2' : (0 : Int) < ((cs.map V.int).length : Nat) := of_decide_eq_true c2
              have c3 : 0 < cs.length := by
                rw [List.length_map] at c2'
                omega
              refine ⟨_, fun σ' H' hN => ⟨cs.length - 1, by omega, hN⟩, ?_⟩
              have gl : (cs.map V.int)[(cs.map V.int).length - 1]? = some (.int (cs.getLastD 0)) := by
                rw [List.length_map, List.getElem?_map, ← List.getLast?_eq_getElem?]
                cases cs with
                | nil => exact absurd c3 (by simp)
                | cons z w => simp [List.getLastD_eq_getLast?, List.getLast?_cons]
              have hsC := h4.setCells cs.dropLast
              have eD : (cs.map V.int).dropLast = cs.dropLast.map V.int := by rw [List.map_dropLast]
              obtain ⟨H4, hp, eH, hs4⟩ := hsC.putLeft (cs.getLastD 0)
              refine ⟨_, rfl, Or.inl ⟨rfl, _, Or.inl (Or.inl h4.2)⟩, c, _, _, rfl, rfl, h4.2, gl, _, rfl, a, H4, rfl, ?_, cs.getLastD 0, cs.dropLast, rfl, by simp, hs4, ?_, ?_⟩
              · rw [eD]
                exact hp
              · rw [eH]
                exact h5.upC.upA
              · rw [← h6]
                obtain ⟨n, hn⟩ : ∃ n, cs.length = n + 1 := ⟨cs.length - 1, by omega⟩
                rw [List.length_dropLast, hn, popT_step ⟨c1', c3⟩, Nat.add_sub_cancel]
            · have c3 : cs.length = 0 := by
                have : ¬ (0 : Int) < ((cs.map V.int).length : Nat) := fun z => c2 (decide_eq_true z)
                rw [List.length_map] at this
                omega
              have hp : popA s = (l, cs) := by
                rw [← h6, c3]
                rfl
              have m0 : 0 < m := by omega
              refine ⟨_, rfl, a, _, rfl, h4.left, ?_⟩
              refine ⟨_, rfl, _, _, rfl, rfl, _, rfl, ite2 (fun c4 => ?_) fun c4 => ?_⟩
              · have c4' : 1 < l := of_decide_eq_true c4
                obtain ⟨H4, hq, eH, hs4⟩ := h4.putLeft (l / m)
                refine ⟨_, rfl, _, rfl, _, _, rfl, rfl, ⟨m0, hm'⟩, _, rfl, a, H4, rfl, hq, ?_⟩
                refine ⟨_, rfl, Or.inl ⟨_, rfl, _, rfl, _, _, rfl, rfl, m0, fin ?_ (by rw [eH]; exact h5.upA) hs4⟩⟩
                unfold pickA
                rw [if_neg e', hp, if_pos c4']
              · have c4' : ¬ 1 < l := fun z => c4 (decide_eq_true z)
                obtain ⟨H4, hq, eH, hs4⟩ := h4.putTurn (s.turn + 1)
                refine ⟨_, rfl, a, _, rfl, h4.turn, _, _, rfl, rfl, _, rfl, a, H4, rfl, hq, ?_⟩
                refine ⟨_, rfl, a, _, rfl, hs4.turn, ?_⟩
                refine ⟨_, rfl, a, _, rfl, hs4.mixed, _, rfl, _, _, rfl, rfl, Or.inr ⟨by decide, by decide⟩, _, _, rfl, rfl, Or.inl ⟨_, rfl, _, _, rfl, rfl, by show (0 : Int) < 998244353; decide, ?_⟩⟩
                have b0 : ∀ z : Int, -(2 ^ 64) < z % 998244353 ∧ z % 998244353 < 2 ^ 64 := fun z => ⟨by have := Int.emod_nonneg z (show (998244353 : Int) ≠ 0 by decide); omega, by have := Int.emod_lt_of_pos z (show (0 : Int) < 998244353 by decide); omega⟩
                refine ⟨_, rfl, _, rfl, _, _, rfl, rfl, Or.inl (b0 _), _, rfl, _, _, rfl, rfl, Or.inr ⟨by decide, by decide⟩, _, _, rfl, rfl, Or.inl ⟨_, rfl, _, _, rfl, rfl, by show (0 : Int) < 2147483647; decide, ?_⟩⟩
                refine ⟨_, rfl, _, _, rfl, rfl, ⟨by decide, by decide⟩, Or.inl ⟨_, rfl, _, rfl, _, _, rfl, rfl, m0, fin ?_ (by rw [eH]; exact h5.upA) hs4⟩⟩
                unfold pickA
                rw [if_neg e', hp, if_neg c4']
                rfl
          · have c1' : ¬ l < 2 := fun z => c1 (decide_eq_true z)
            have hp : popA s = (l, cs) := by
              rw [← h6]
              cases cs.length with
              | zero => rfl
              | succ n =>
                unfold popT
                rw [if_neg fun z => c1' z.1]
            have m0 : 0 < m := by omega
            refine ⟨_, rfl, a, _, rfl, h4.left, ?_⟩
            refine ⟨_, rfl, _, _, rfl, rfl, _, rfl, ite2 (fun c4 => ?_) fun c4 => ?_⟩
            · have c4' : 1 < l := of_decide_eq_true c4
              obtain ⟨H4, hq, eH, hs4⟩ := h4.putLeft (l / m)
              refine ⟨_, rfl, _, rfl, _, _, rfl, rfl, ⟨m0, hm'⟩, _, rfl, a, H4, rfl, hq, ?_⟩
              refine ⟨_, rfl, Or.inl ⟨_, rfl, _, rfl, _, _, rfl, rfl, m0, fin ?_ (by rw [eH]; exact h5.upA) hs4⟩⟩
              unfold pickA
              rw [if_neg e', hp, if_pos c4']
            · have c4' : ¬ 1 < l := fun z => c4 (decide_eq_true z)
              obtain ⟨H4, hq, eH, hs4⟩ := h4.putTurn (s.turn + 1)
              refine ⟨_, rfl, a, _, rfl, h4.turn, _, _, rfl, rfl, _, rfl, a, H4, rfl, hq, ?_⟩
              refine ⟨_, rfl, a, _, rfl, hs4.turn, ?_⟩
              refine ⟨_, rfl, a, _, rfl, hs4.mixed, _, rfl, _, _, rfl, rfl, Or.inr ⟨by decide, by decide⟩, _, _, rfl, rfl, Or.inl ⟨_, rfl, _, _, rfl, rfl, by show (0 : Int) < 998244353; decide, ?_⟩⟩
              have b0 : ∀ z : Int, -(2 ^ 64) < z % 998244353 ∧ z % 998244353 < 2 ^ 64 := fun z => ⟨by have := Int.emod_nonneg z (show (998244353 : Int) ≠ 0 by decide); omega, by have := Int.emod_lt_of_pos z (show (0 : Int) < 998244353 by decide); omega⟩
              refine ⟨_, rfl, _, rfl, _, _, rfl, rfl, Or.inl (b0 _), _, rfl, _, _, rfl, rfl, Or.inr ⟨by decide, by decide⟩, _, _, rfl, rfl, Or.inl ⟨_, rfl, _, _, rfl, rfl, by show (0 : Int) < 2147483647; decide, ?_⟩⟩
              refine ⟨_, rfl, _, _, rfl, rfl, ⟨by decide, by decide⟩, Or.inl ⟨_, rfl, _, rfl, _, _, rfl, rfl, m0, fin ?_ (by rw [eH]; exact h5.upA) hs4⟩⟩
              unfold pickA
              rw [if_neg e', hp, if_neg c4']
              rfl
      · cases h2
    · cases h2
end
section
variable {P : Program} {w : World} {K : PySem.W.Frag} {mg : Str → Option Value} {base : Heap} {ad : Nat → Addr} {fd : Nat → FuncData}
theorem sc8 : FnScope ["source", "some"] ["source", "some"] (defScope (top 11)) := ⟨rfl, rfl, rfl, by decide +kernel, rfl, by decide +kernel, by decide +kernel⟩
def b_law_of : SF := (sRet (fIx (fRd 1) (fCallS 0 F_law_pick (fCons (fR1 oLen (fRd 1)) fNil))))
def F_law_of : Src → List PyData → Option (PyData × Src) := runS 2 2 b_law_of
theorem d_law_of (T : Tx K mg ad fd) : FnG P w K mg base 2 (ad 8) (fd 8) ["source", "some"] (spS K F_law_of) := by
  have D7 := d_law_pick (P := P) (w := w) (base := base) T
  refine fnRunS (fb := b_law_of) T.F8 sc8 (fun cdv A outer s H hr hG => ?_)
  exact (fss_one (fs_ret (fe_ix (fr_v 1 (pv 1)) (fe_callS (i := 0) (fun _ h => pe_callG D7 (hr.mono (by decide)) hG rfl T.g7 T.F7.kp T.b7 (pa_cons (pv 0) h)) (fa_cons (fe_len (fr_v 1 (pv 1)) rfl T.m_len) fa_nil)))))
theorem sc11 : FnScope ["script", "source", "p", "lap", "k", "m", "row", "total", "turn", "j", "ball", "many", "due", "late"] ["script"] (defScope (top 14)) := ⟨rfl, rfl, rfl, by decide +kernel, rfl, by decide +kernel, by decide +kernel⟩
def b_law_0 : SF := (sSet 7 (fOp oMul (fVar 7) (fOp oAdd (fVar 2) (fC (.int 1)))))
def b_law_1 : SF := (sSeq (sSet 11 (fIf (fTst (fOp oLe (fVar 9) (fVar 4))) (fIx (fRd 6) (fVar 9)) (fC (.int 0))))
    (sSeq (sSet 12 (fOp oDiv (fVar 11) (fCall F_law_onwards (fCons (fVar 2) (fCons (fVar 9) fNil)))))
    (sSeq (sIf (fOr (fTst (fOp oNe (fOp oMul (fVar 12) (fCall F_law_onwards (fCons (fVar 2) (fCons (fVar 9) fNil)))) (fVar 11))) (fTst (fRepNe (fVal (fCall F_words_for (fCons (fVar 2) (fCons (fVar 4) (fCons (fVar 9) fNil))))) (fRd 12)))) (sRet (fC (.bool false))) sNil)
    (sIf (fAnd (fTst (fOp oLt (fCall F_law_onwards (fCons (fVar 2) (fCons (fVar 9) fNil))) (fOp oPow (fC (.int 10)) (fC (.int 12))))) (fTst (fRepNe (fVal (fCall F_count_never_back (fCons (fVar 2) (fCons (fVar 9) fNil)))) (fVal (fCall F_law_onwards (fCons (fVar 2) (fCons (fVar 9) fNil))))))) (sRet (fC (.bool false))) sNil))))
def e_law_2 : EF := (fOp oMul (fIx (fRd 6) (fVar 9)) (fCall F_words_for (fCons (fVar 2) (fCons (fVar 5) (fCons (fVar 9) fNil)))))
def e_law_3 : EF := (fCall F_law_onwards (fCons (fVar 2) (fCons (fVar 9) fNil)))
def b_law_4 : SF := (sSeq (sTg (fTup (fCons (fCallS 1 F_law_pick (fCons (fC (.int 41)) fNil)) (fCons (fCallS 1 F_law_pick (fCons (fC (.int 41)) fNil)) fNil))) (gTp 2 (gCons' (gNm 4) (gCons' (gNm 5) gNil'))))
    (sSeq (sSet 6 (fCall F_law_lengths (fCons (fVar 2) (fCons (fVar 4) fNil))))
    (sSeq (sIf (fOr (fTst (fRepNe (fVal (fCall F_told_lengths (fCons (fVar 2) (fCons (fVar 4) fNil)))) (fVal (fR1 oTuple (fRd 6))))) (fTst (fRepNe (fVal (fCall F_back_home (fCons (fVar 2) (fCons (fVar 4) fNil)))) (fVal (fIx (fRd 6) (fC (.int 0))))))) (sRet (fC (.bool false))) sNil)
    (sSeq (sSet 7 (fC (.int 1)))
    (sSeq (sFor (fRng1 (fCons (fVar 4) fNil)) (gNm 8) b_law_0)
    (sSeq (sIf (fOr (fTst (fOp oNe (fR1 oSum (fRd 6)) (fVar 7))) (fAnd (fTst (fOp oNe (fOp oMul (fOp oDiv (fVar 4) (fC (.int 2))) (fC (.int 2))) (fVar 4))) (fTst (fOp oNe (fIx (fRd 6) (fC (.int 0))) (fC (.int 0)))))) (sRet (fC (.bool false))) sNil)
    (sSeq (sFor (fSeq (fTup (fCons (fC (.int 0)) (fCons (fC (.int 1)) (fCons (fCallS 1 F_law_pick (fCons (fOp oAdd (fVar 4) (fC (.int 1))) fNil)) (fCons (fVar 4) (fCons (fOp oMin (fC (.int 40)) (fOp oAdd (fVar 4) (fC (.int 1)))) fNil))))))) (gNm 9) b_law_1)
    (sSeq (sIf (fTst (fOp oLe (fOp oAdd (fVar 4) (fVar 5)) (fC (.int 40)))) (sSeq (sSet 13 (fR1 oSum (fVal (fAsL (fComp [9] (fRng1 (fCons (fOp oAdd (fOp oMin (fVar 4) (fVar 5)) (fC (.int 1))) fNil)) (gNm 9) fYes e_law_2)))))
    (sIf (fTst (fRepNe (fVal (fCall F_back_home (fCons (fVar 2) (fCons (fOp oAdd (fVar 4) (fVar 5)) fNil)))) (fRd 13))) (sRet (fC (.bool false))) sNil)) sNil)
    (sSeq (sSet 10 (fR1 oSum (fVal (fAsL (fComp [9] (fRng1 (fCons (fOp oAdd (fVar 4) (fC (.int 1))) fNil)) (gNm 9) fYes e_law_3)))))
    (sIf (fAnd (fTst (fOp oLt (fCall F_law_onwards (fCons (fVar 2) (fCons (fVar 4) fNil))) (fOp oPow (fC (.int 10)) (fC (.int 12))))) (fTst (fRepNe (fVal (fCall F_ball_size (fCons (fVar 2) (fCons (fVar 4) fNil)))) (fRd 10)))) (sRet (fC (.bool false))) sNil))))))))))
def b_law : SF := (sSeq (sSet 2 (fCallS 1 F_law_of (fCons (fAsL (fLst (fCons (fC (.int 3)) (fCons (fC (.int 5)) (fCons (fC (.int 7)) (fCons (fC (.int 11)) (fCons (fC (.int 13)) fNil))))))) fNil)))
    (sSeq (sFor (fRng1 (fCons (fC (.int 3)) fNil)) (gNm 3) b_law_4)
    (sRet (fC (.bool true)))))
theorem d_law (hF : ∀ s : Src, ∃ ρ', b_law (startL 14 s) = some (.rt (.bool true) ρ')) (T : Tx K mg ad fd) : FnG P w K mg base 4 (ad 11) (fd 11) ["script"] (spLaw K) := by
  have DM := d_mk (P := P) (w := w) (base := base) T
  have D8 := d_law_of (P := P) (w := w) (base := base) T
  have D7 := d_law_pick (P := P) (w := w) (base := base) T
  have D9 := d_law_lengths (P := P) (w := w) (base := base) T
  have D5 := d_back_home (P := P) (w := w) (base := base) T
  have D3 := d_told_lengths (P := P) (w := w) (base := base) T
  have D10 := d_law_onwards (P := P) (w := w) (base := base) T
  have D4 := d_words_for (P := P) (w := w) (base := base) T
  have D0 := d_count_never_back (P := P) (w := w) (base := base) T
  have D1 := d_ball_size (P := P) (w := w) (base := base) T
  refine fnLaw (fb := b_law) T.F11 sc11 rfl (hb := fun cdv A outer s H hr hG => ⟨?_, ?_⟩) (hF := hF)
  · exact ps_set (i := 1) sc11.nd rfl (by first | exact Or.inl rfl | exact Or.inr rfl) (pe_callG DM (hr.mono (by decide)) hG rfl T.g6 T.F6.kp T.b6 (pa_cons (pv 0) pa_nil))
  exact (fss_cons (fs_set (i := 2) sc11.nd rfl (by first | exact Or.inl rfl | exact Or.inr rfl) (fe_callS (i := 1) (fun _ h => pe_callG D8 (hr.mono (by decide)) hG rfl T.g8 T.F8.kp T.b8 (pa_cons (pv 1) h)) (fa_cons (FL.fe (fl_lst (fa_cons fe_int (fa_cons fe_int (fa_cons fe_int (fa_cons fe_int (fa_cons fe_int fa_nil))))))) fa_nil)))
    (fss_cons (fs_for rfl (fi_rng1 (fa_cons fe_int fa_nil) rfl T.m_range) (fg_name (i := 3) sc11.nd rfl (by first | exact Or.inl rfl | exact Or.inr rfl)) (fss_cons (fs_tg (fe_tup (fa_cons (fe_callS (i := 1) (fun _ h => pe_callG D7 (hr.mono (by decide)) hG rfl T.g7 T.F7.kp T.b7 (pa_cons (pv 1) h)) (fa_cons fe_int fa_nil)) (fa_cons (fe_callS (i := 1) (fun _ h => pe_callG D7 (hr.mono (by decide)) hG rfl T.g7 T.F7.kp T.b7 (pa_cons (pv 1) h)) (fa_cons fe_int fa_nil)) fa_nil))) (fg_tup rfl (fgs_cons (fg_name (i := 4) sc11.nd rfl (by first | exact Or.inl rfl | exact Or.inr rfl)) (fgs_cons (fg_name (i := 5) sc11.nd rfl (by first | exact Or.inl rfl | exact Or.inr rfl)) fgs_nil))))
    (fss_cons (fs_set (i := 6) sc11.nd rfl (by first | exact Or.inl rfl | exact Or.inr rfl) (fe_call D9 (hr.mono (by decide)) hG rfl T.g9 T.F9.kp T.b9 (fa_cons (fe_v 2 (pv 2)) (fa_cons (fe_v 4 (pv 4)) fa_nil))))
    (fss_cons (fs_if (FW.ft (fw_or (ft_repNe hr.units hG (FE.rd (fe_call D3 (hr.mono (by decide)) hG rfl T.g3 T.F3.kp T.b3 (fa_cons (fe_v 2 (pv 2)) (fa_cons (fe_v 4 (pv 4)) fa_nil)))) (FE.rd (fe_tuple (fr_v 6 (pv 6)) rfl T.m_tuple)) rfl T.m_repr) (fw_or1 (ft_repNe hr.units hG (FE.rd (fe_call D5 (hr.mono (by decide)) hG rfl T.g5 T.F5.kp T.b5 (fa_cons (fe_v 2 (pv 2)) (fa_cons (fe_v 4 (pv 4)) fa_nil)))) (FE.rd (fe_ix (fr_v 6 (pv 6)) fe_int)) rfl T.m_repr)))) (fss_one (fs_ret fe_bl)) fss_nil)
    (fss_cons (fs_set (i := 7) sc11.nd rfl (by first | exact Or.inl rfl | exact Or.inr rfl) fe_int)
    (fss_cons (fs_for rfl (fi_rng1 (fa_cons (fe_v 4 (pv 4)) fa_nil) rfl T.m_range) (fg_name (i := 8) sc11.nd rfl (by first | exact Or.inl rfl | exact Or.inr rfl)) (fss_one (fs_set (i := 7) sc11.nd rfl (by first | exact Or.inl rfl | exact Or.inr rfl) (fe_mul (fe_v 7 (pv 7)) (fe_add (fe_v 2 (pv 2)) fe_int)))))
    (fss_cons (fs_if (FW.ft (fw_or (ft_ne hr.units (fe_sum rfl (fr_v 6 (pv 6)) rfl T.m_sum) (fe_v 7 (pv 7))) (fw_or1 (FW.ft (fw_and (ft_ne hr.units (fe_mul (fe_fdiv (fe_v 4 (pv 4)) fe_int) fe_int) (fe_v 4 (pv 4))) (fw_and1 (ft_ne hr.units (fe_ix (fr_v 6 (pv 6)) fe_int) fe_int))))))) (fss_one (fs_ret fe_bl)) fss_nil)
    (fss_cons (fs_for rfl (fi_seq (fe_tup (fa_cons fe_int (fa_cons fe_int (fa_cons (fe_callS (i := 1) (fun _ h => pe_callG D7 (hr.mono (by decide)) hG rfl T.g7 T.F7.kp T.b7 (pa_cons (pv 1) h)) (fa_cons (fe_add (fe_v 4 (pv 4)) fe_int) fa_nil)) (fa_cons (fe_v 4 (pv 4)) (fa_cons (fe_min2 rfl fe_int (fe_add (fe_v 4 (pv 4)) fe_int) rfl T.m_min) fa_nil))))))) (fg_name (i := 9) sc11.nd rfl (by first | exact Or.inl rfl | exact Or.inr rfl)) (fss_cons (fs_set (i := 11) sc11.nd rfl (by first | exact Or.inl rfl | exact Or.inr rfl) (fe_ifExp (ft_le (fe_v 9 (pv 9)) (fe_v 4 (pv 4))) (fe_ix (fr_v 6 (pv 6)) (fe_v 9 (pv 9))) fe_int))
    (fss_cons (fs_set (i := 12) sc11.nd rfl (by first | exact Or.inl rfl | exact Or.inr rfl) (fe_fdiv (fe_v 11 (pv 11)) (fe_call D10 (hr.mono (by decide)) hG rfl T.g10 T.F10.kp T.b10 (fa_cons (fe_v 2 (pv 2)) (fa_cons (fe_v 9 (pv 9)) fa_nil)))))
    (fss_cons (fs_if (FW.ft (fw_or (ft_ne hr.units (fe_mul (fe_v 12 (pv 12)) (fe_call D10 (hr.mono (by decide)) hG rfl T.g10 T.F10.kp T.b10 (fa_cons (fe_v 2 (pv 2)) (fa_cons (fe_v 9 (pv 9)) fa_nil)))) (fe_v 11 (pv 11))) (fw_or1 (ft_repNe hr.units hG (FE.rd (fe_call D4 (hr.mono (by decide)) hG rfl T.g4 T.F4.kp T.b4 (fa_cons (fe_v 2 (pv 2)) (fa_cons (fe_v 4 (pv 4)) (fa_cons (fe_v 9 (pv 9)) fa_nil))))) (fr_v 12 (pv 12)) rfl T.m_repr)))) (fss_one (fs_ret fe_bl)) fss_nil)
    (fss_one (fs_if (FW.ft (fw_and (ft_lt (fe_call D10 (hr.mono (by decide)) hG rfl T.g10 T.F10.kp T.b10 (fa_cons (fe_v 2 (pv 2)) (fa_cons (fe_v 9 (pv 9)) fa_nil))) (fe_pow fe_int fe_int)) (fw_and1 (ft_repNe hr.units hG (FE.rd (fe_call D0 (hr.mono (by decide)) hG rfl T.g0 T.F0.kp T.b0 (fa_cons (fe_v 2 (pv 2)) (fa_cons (fe_v 9 (pv 9)) fa_nil)))) (FE.rd (fe_call D10 (hr.mono (by decide)) hG rfl T.g10 T.F10.kp T.b10 (fa_cons (fe_v 2 (pv 2)) (fa_cons (fe_v 9 (pv 9)) fa_nil)))) rfl T.m_repr)))) (fss_one (fs_ret fe_bl)) fss_nil))))))
    (fss_cons (fs_if (ft_le (fe_add (fe_v 4 (pv 4)) (fe_v 5 (pv 5))) fe_int) (fss_cons (fs_set (i := 13) sc11.nd rfl (by first | exact Or.inl rfl | exact Or.inr rfl) (fe_sum rfl (FE.rd (FL.fe (fl_lc [("j", 9)] rfl sc11.nd (fi_rng1 (fa_cons (fe_add (fe_min2 rfl (fe_v 4 (pv 4)) (fe_v 5 (pv 5)) rfl T.m_min) fe_int) fa_nil) rfl T.m_range) (blkOk_by (N := ["script", "source", "p", "lap", "k", "m", "row", "total", "turn", "j", "ball", "many", "due", "late"]) (sc := defScope (top 14)) (by decide +kernel)) (fun _ _ _ _ _ => (fg_name (i := 9) sc11.nd rfl (by first | exact Or.inl rfl | exact Or.inr rfl))) (fun _ _ _ _ _ => fts_nil) (fun _ _ _ _ _ => (fe_mul (fe_ix (fr_v 6 (pv 6)) (fe_v 9 (pv 9))) (fe_call D4 (hr.mono (by decide)) hG rfl T.g4 T.F4.kp T.b4 (fa_cons (fe_v 2 (pv 2)) (fa_cons (fe_v 5 (pv 5)) (fa_cons (fe_v 9 (pv 9)) fa_nil))))))))) rfl T.m_sum))
    (fss_one (fs_if (ft_repNe hr.units hG (FE.rd (fe_call D5 (hr.mono (by decide)) hG rfl T.g5 T.F5.kp T.b5 (fa_cons (fe_v 2 (pv 2)) (fa_cons (fe_add (fe_v 4 (pv 4)) (fe_v 5 (pv 5))) fa_nil)))) (fr_v 13 (pv 13)) rfl T.m_repr) (fss_one (fs_ret fe_bl)) fss_nil))) fss_nil)
    (fss_cons (fs_set (i := 10) sc11.nd rfl (by first | exact Or.inl rfl | exact Or.inr rfl) (fe_sum rfl (FE.rd (FL.fe (fl_lc [("j", 9)] rfl sc11.nd (fi_rng1 (fa_cons (fe_add (fe_v 4 (pv 4)) fe_int) fa_nil) rfl T.m_range) (blkOk_by (N := ["script", "source", "p", "lap", "k", "m", "row", "total", "turn", "j", "ball", "many", "due", "late"]) (sc := defScope (top 14)) (by decide +kernel)) (fun _ _ _ _ _ => (fg_name (i := 9) sc11.nd rfl (by first | exact Or.inl rfl | exact Or.inr rfl))) (fun _ _ _ _ _ => fts_nil) (fun _ _ _ _ _ => (fe_call D10 (hr.mono (by decide)) hG rfl T.g10 T.F10.kp T.b10 (fa_cons (fe_v 2 (pv 2)) (fa_cons (fe_v 9 (pv 9)) fa_nil))))))) rfl T.m_sum))
    (fss_one (fs_if (FW.ft (fw_and (ft_lt (fe_call D10 (hr.mono (by decide)) hG rfl T.g10 T.F10.kp T.b10 (fa_cons (fe_v 2 (pv 2)) (fa_cons (fe_v 4 (pv 4)) fa_nil))) (fe_pow fe_int fe_int)) (fw_and1 (ft_repNe hr.units hG (FE.rd (fe_call D1 (hr.mono (by decide)) hG rfl T.g1 T.F1.kp T.b1 (fa_cons (fe_v 2 (pv 2)) (fa_cons (fe_v 4 (pv 4)) fa_nil)))) (fr_v 10 (pv 10)) rfl T.m_repr)))) (fss_one (fs_ret fe_bl)) fss_nil))))))))))))
    (fss_one (fs_ret fe_bl))))
end
end K18
namespace K18
open PySem PySem.Spec PyProof.Rows L2 Fe
/-- how many words of so many steps never go back -/
def onw (p : Int) : Nat → Int
  | 0 => 1
  | n + 1 => onw p n * (if 0 < n then p else p + 1)
/-- small numbers -/
abbrev Sm (i : Int) : Prop := i.natAbs.log2 < 1000
theorem Sm_mul {i j : Int} (h : Sm i) (k : Sm j) : mulOk i j = true := mulOk_of (a := 1000) (b := 1000) (Nat.le_of_lt h) (Nat.le_of_lt k) (by decide)
def ps : List Int := [3, 5, 7, 11, 13]
def onwOk (p : Int) : Bool := (List.range 43).all fun k => decide (0 < onw p k) && Nat.blt (onw p k).natAbs.log2 1000
theorem onwOk_all : ps.all onwOk = true := by decide +kernel
theorem onw_ok {p : Int} (hp : p ∈ ps) {k : Nat} (hk : k < 43) : 0 < onw p k ∧ Sm (onw p k) := by
  have h := List.all_eq_true.mp onwOk_all p hp
  have h2 := List.all_eq_true.mp h k (List.mem_range.mpr hk)
  have h3 := Bool.and_eq_true_iff.mp h2
  exact ⟨of_decide_eq_true h3.1, Nat.le_of_ble_eq_true h3.2⟩
theorem ps_ok : ∀ p ∈ ps, Sm p ∧ Sm (p + 1) ∧ 3 ≤ p ∧ p ≤ 13 := by decide
theorem F_onw {p : Int} (hp : p ∈ ps) {k : Nat} (hk : k < 43) : F_count_never_back [.int p, .int k] = some (.int (onw p k)) := by
  obtain ⟨p1, p2, p3, p4⟩ := ps_ok p hp
  have hb : inB (k : Int) = true := inB_of (by omega) (by omega)
  obtain ⟨ρ', h1, h2⟩ := lp_rng (g := gNm 3) (b := b_count_never_back_0)
    (fun i ρ => ∃ x, ρ = [.v (.int p), .v (.int k), .v (.int (onw p i)), x]) (lo := 0) (n := k) (ρ := [.v (.int p), .v (.int k), .v (.int 1), .un]) ⟨_, rfl⟩ fun i ρ hi ⟨x, e⟩ => by
      subst e
      have z := (onw_ok hp (k := i) (by omega)).2
      refine ⟨_, ?_, .v (.int (0 + (i : Nat))), rfl⟩
      by_cases h0 : 0 < i
      · have : (0 : Int) < (0 : Int) + (i : Nat) := by omega
        simp [lp1, this, Sm_mul z p1, onw, h0, b_count_never_back_0]
      · have e0 : i = 0 := by omega
        subst e0
        have h1 : mulOk 1 (p + 1) = true := Sm_mul z p2
        simp [lp1, h1, onw, b_count_never_back_0]
  obtain ⟨x, rfl⟩ := h2
  simp [F_count_never_back, runF, b_count_never_back, hb, h1]
theorem F_lonw {p : Int} (hp : p ∈ ps) {k : Nat} (hk : k < 43) : F_law_onwards [.int p, .int k] = some (.int (onw p k)) := F_onw hp hk
/-! ## lengths -/
def nstep (p : Int) (row f : List Int) (j : Nat) : List Int :=
  let m := iat row j
  let f1 := f.set (j + 1) (iat f (j + 1) + m * (if 0 < j then p else p + 1))
  if 0 < j then f1.set (j - 1) (iat f1 (j - 1) + m) else f1
def nx (p : Int) (row : List Int) : Nat → List Int
  | 0 => List.replicate (row.length + 1) 0
  | i + 1 => nstep p row (nx p row i) i
theorem nstep_len {p : Int} {row f : List Int} {j : Nat} : (nstep p row f j).length = f.length := by
  unfold nstep
  split <;> simp
theorem nx_len {p : Int} {row : List Int} : ∀ i, (nx p row i).length = row.length + 1
  | 0 => by simp [nx]
  | i + 1 => by rw [nx, nstep_len, nx_len i]
def nxt (p : Int) (row : List Int) : List Int := nx p row row.length
theorem nxt_len {p : Int} {row : List Int} : (nxt p row).length = row.length + 1 := nx_len _
theorem iat_sm {row : List Int} (h : ∀ x ∈ row, Sm x) (i : Nat) : Sm (iat row i) := by
  cases e : row[i]? with
  | none =>
    unfold iat
    rw [List.getD_eq_getElem?_getD, e]
    decide
  | some v =>
    rw [iat_some e]
    exact h v (List.mem_of_getElem? e)
theorem nbody_ok {p m : Int} (p1 : Sm p) (p2 : Sm (p + 1)) (hm : Sm m) {R : Sl} {f : List Int} {j : Nat} (hj : j + 1 < f.length) :
    b_next_lengths_0 [.v (.int p), R, .own (f.map .int), .v (.int (j : Nat)), .v (.int m)] = some (.nx [.v (.int p), R, .own ((if 0 < j then (f.set (j + 1) (iat f (j + 1) + m * p)).set (j - 1) (iat (f.set (j + 1) (iat f (j + 1) + m * p)) (j - 1) + m) else f.set (j + 1) (iat f (j + 1) + m * (p + 1))).map .int), .v (.int (j : Nat)), .v (.int m)]) := by
  have m1 := Sm_mul hm p1
  have m2 := Sm_mul hm p2
  have e1 := ixD_map (l := f) (n := j + 1) (z := (j : Int) + 1) (by omega) hj
  have e2 := ixP_map (l := f) (n := j + 1) (z := (j : Int) + 1) (by omega) hj
  simp only [List.length_map] at e2
  by_cases h0 : 0 < j
  · have h0' : (0 : Int) < (j : Nat) := by omega
    have e3 := ixD_map (l := f.set (j + 1) (iat f (j + 1) + m * p)) (n := j - 1) (z := (j : Int) - 1) (by omega) (by rw [List.length_set]; omega)
    have e4 := ixP_map (l := f) (n := j - 1) (z := (j : Int) - 1) (by omega) (by omega)
    simp only [List.length_map] at e4
    rw [if_pos h0]
    simp only [b_next_lengths_0, fC, fVar, rdS, Rf.get, fRd, bnd, Fe.ret, fOp, fUn, fTst, fNot, fAnd, fOr, fIf, fBool, fNil, fCons, fTup, fLst, fAsL, fVal, fAndV, fOrV, fNotV, oI, oIc, oNeg, oIsN, oNotN, oIx, fIx, fR1, fR1L, oLen, oList, oTuple, oInt, oAbs, fRep, fCat, sNil, sThen, sSeq, sSet, sOwn, sRet, sRetN, sDrop, sIf, sTg, gNm, gNil', gCons', gTp, sFor, frzS, fSeq, fRng1, fRng2, fEnum, fZip, fComp, fYes, sApp, sExt, sIx, fPop, fPopAt, sPar, fCall, fCallS, oEq_int, oNe_int, List.getElem?_cons_zero, List.getElem?_cons_succ, List.set_cons_zero, List.set_cons_succ, oAdd, oSub, oMul, oDiv, oMod, oLt, oLe, oGt, oGe, oMin, oMax, oPow, decide_eq_true_eq, if_true, if_false, Bool.false_eq_true, Bool.not_true, Bool.not_false, decide_true, decide_false, List.length_cons, List.length_nil, List.length_map, Bool.and_self, h0', m1, e1, e2, e3, e4, setI_map, List.length_set]
  · have ei : j = 0 := by omega
    subst ei
    have hz : ¬ (0 : Int) < ((0 : Nat) : Int) := by decide
    rw [if_neg h0]
    simp only [b_next_lengths_0, fC, fVar, rdS, Rf.get, fRd, bnd, Fe.ret, fOp, fUn, fTst, fNot, fAnd, fOr, fIf, fBool, fNil, fCons, fTup, fLst, fAsL, fVal, fAndV, fOrV, fNotV, oI, oIc, oNeg, oIsN, oNotN, oIx, fIx, fR1, fR1L, oLen, oList, oTuple, oInt, oAbs, fRep, fCat, sNil, sThen, sSeq, sSet, sOwn, sRet, sRetN, sDrop, sIf, sTg, gNm, gNil', gCons', gTp, sFor, frzS, fSeq, fRng1, fRng2, fEnum, fZip, fComp, fYes, sApp, sExt, sIx, fPop, fPopAt, sPar, fCall, fCallS, oEq_int, oNe_int, List.getElem?_cons_zero, List.getElem?_cons_succ, List.set_cons_zero, List.set_cons_succ, oAdd, oSub, oMul, oDiv, oMod, oLt, oLe, oGt, oGe, oMin, oMax, oPow, decide_eq_true_eq, if_true, if_false, Bool.false_eq_true, Bool.not_true, Bool.not_false, decide_true, decide_false, List.length_cons, List.length_nil, List.length_map, Bool.and_self, hz, m2, e1, e2, setI_map, List.length_set]
theorem lbody_ok {p m : Int} (p1 : Sm p) (p2 : Sm (p + 1)) (hm : Sm m) {R Q S : Sl} {f : List Int} {j : Nat} (hj : j + 1 < f.length) :
    b_law_lengths_0 [.v (.int p), R, Q, S, .own (f.map .int), .v (.int (j : Nat)), .v (.int m)] = some (.nx [.v (.int p), R, Q, S, .own ((if 0 < j then (f.set (j + 1) (iat f (j + 1) + m * p)).set (j - 1) (iat (f.set (j + 1) (iat f (j + 1) + m * p)) (j - 1) + m) else f.set (j + 1) (iat f (j + 1) + m * (p + 1))).map .int), .v (.int (j : Nat)), .v (.int m)]) := by
  have m1 := Sm_mul hm p1
  have m2 := Sm_mul hm p2
  have e1 := ixD_map (l := f) (n := j + 1) (z := (j : Int) + 1) (by omega) hj
  have e2 := ixP_map (l := f) (n := j + 1) (z := (j : Int) + 1) (by omega) hj
  simp only [List.length_map] at e2
  by_cases h0 : 0 < j
  · have h0' : (0 : Int) < (j : Nat) := by omega
    have e3 := ixD_map (l := f.set (j + 1) (iat f (j + 1) + m * p)) (n := j - 1) (z := (j : Int) - 1) (by omega) (by rw [List.length_set]; omega)
    have e4 := ixP_map (l := f) (n := j - 1) (z := (j : Int) - 1) (by omega) (by omega)
    simp only [List.length_map] at e4
    rw [if_pos h0]
    simp only [b_law_lengths_0, fC, fVar, rdS, Rf.get, fRd, bnd, Fe.ret, fOp, fUn, fTst, fNot, fAnd, fOr, fIf, fBool, fNil, fCons, fTup, fLst, fAsL, fVal, fAndV, fOrV, fNotV, oI, oIc, oNeg, oIsN, oNotN, oIx, fIx, fR1, fR1L, oLen, oList, oTuple, oInt, oAbs, fRep, fCat, sNil, sThen, sSeq, sSet, sOwn, sRet, sRetN, sDrop, sIf, sTg, gNm, gNil', gCons', gTp, sFor, frzS, fSeq, fRng1, fRng2, fEnum, fZip, fComp, fYes, sApp, sExt, sIx, fPop, fPopAt, sPar, fCall, fCallS, oEq_int, oNe_int, List.getElem?_cons_zero, List.getElem?_cons_succ, List.set_cons_zero, List.set_cons_succ, oAdd, oSub, oMul, oDiv, oMod, oLt, oLe, oGt, oGe, oMin, oMax, oPow, decide_eq_true_eq, if_true, if_false, Bool.false_eq_true, Bool.not_true, Bool.not_false, decide_true, decide_false, List.length_cons, List.length_nil, List.length_map, Bool.and_self, h0', m1, e1, e2, e3, e4, setI_map, List.length_set]
  · have ei : j = 0 := by omega
    subst ei
    have hz : ¬ (0 : Int) < ((0 : Nat) : Int) := by decide
    rw [if_neg h0]
    simp only [b_law_lengths_0, fC, fVar, rdS, Rf.get, fRd, bnd, Fe.ret, fOp, fUn, fTst, fNot, fAnd, fOr, fIf, fBool, fNil, fCons, fTup, fLst, fAsL, fVal, fAndV, fOrV, fNotV, oI, oIc, oNeg, oIsN, oNotN, oIx, fIx, fR1, fR1L, oLen, oList, oTuple, oInt, oAbs, fRep, fCat, sNil, sThen, sSeq, sSet, sOwn, sRet, sRetN, sDrop, sIf, sTg, gNm, gNil', gCons', gTp, sFor, frzS, fSeq, fRng1, fRng2, fEnum, fZip, fComp, fYes, sApp, sExt, sIx, fPop, fPopAt, sPar, fCall, fCallS, oEq_int, oNe_int, List.getElem?_cons_zero, List.getElem?_cons_succ, List.set_cons_zero, List.set_cons_succ, oAdd, oSub, oMul, oDiv, oMod, oLt, oLe, oGt, oGe, oMin, oMax, oPow, decide_eq_true_eq, if_true, if_false, Bool.false_eq_true, Bool.not_true, Bool.not_false, decide_true, decide_false, List.length_cons, List.length_nil, List.length_map, Bool.and_self, hz, m2, e1, e2, setI_map, List.length_set]
theorem rep0 {row : List Int} {p : Int} : (List.replicate ((row.length : Int) + 1).toNat [PyData.int 0]).flatten = (nx p row 0).map .int := by
  have : ((row.length : Int) + 1).toNat = row.length + 1 := by omega
  rw [this]
  simp [nx]
theorem F_next {p : Int} (hp : p ∈ ps) {row : List Int} (hl : row.length < 100) (hs : ∀ x ∈ row, Sm x) : F_next_lengths [.int p, .list (row.map .int)] = some (.list ((nxt p row).map .int)) := by
  obtain ⟨p1, p2, p3, p4⟩ := ps_ok p hp
  obtain ⟨ρ', h1, h2⟩ := lp_list (g := gTp 2 (gCons' (gNm 3) (gCons' (gNm 4) gNil'))) (b := b_next_lengths_0)
    (fun i ρ => ∃ x y, ρ = [.v (.int p), .v (.list (row.map .int)), .own ((nx p row i).map .int), x, y]) (ds := enumD 0 (row.map .int)) (ρ := [.v (.int p), .v (.list (row.map .int)), .own ((nx p row 0).map .int), .un, .un]) ⟨_, _, rfl⟩ fun i d ρ hd ⟨x, y, e⟩ => by
      subst e
      obtain ⟨hi, rfl⟩ := enum_map hd
      have hln := nx_len (p := p) (row := row) i
      have hb := nbody_ok p1 p2 (iat_sm hs i) (R := .v (.list (row.map .int))) (f := nx p row i) (j := i) (by omega)
      refine ⟨_, ?_, .v (.int (i : Nat)), .v (.int (iat row i)), rfl⟩
      have hg : gTp 2 (gCons' (gNm 3) (gCons' (gNm 4) gNil')) (.tuple [.int (i : Nat), .int (iat row i)]) [.v (.int p), .v (.list (row.map .int)), .own ((nx p row i).map .int), x, y] = some [.v (.int p), .v (.list (row.map .int)), .own ((nx p row i).map .int), .v (.int (i : Nat)), .v (.int (iat row i))] := rfl
      unfold lp1
      rw [hg]
      dsimp only
      rw [hb]
      dsimp only
      congr 4
      have en : nx p row (i + 1) = nstep p row (nx p row i) i := rfl
      rw [en]
      by_cases h0 : 0 < i
      · simp only [nstep, h0, if_true]
      · simp only [nstep, h0, if_false]
  obtain ⟨x, y, rfl⟩ := h2
  have hl2 : (enumD 0 (row.map PyData.int)).length = row.length := by rw [enumD_len, List.length_map]
  rw [hl2] at h1
  have e5 : Nat.ble ((row.length : Int) + 1).toNat 16777216 = true := Nat.ble_eq_true_of_le (by omega)
  have e6 : Nat.ble ((row.length : Int) + 1).natAbs 16777216 = true := Nat.ble_eq_true_of_le (by omega)
  have hb : b_next_lengths (start1 5 [.int p, .list (row.map .int)]) = some (.rt (.list ((nxt p row).map .int)) [.v (.int p), .v (.list (row.map .int)), .v (.list ((nxt p row).map .int)), x, y]) := by
    unfold b_next_lengths
    have ml : Nat.ble 1 16777216 = true := rfl
    have e7 : Nat.ble (1 * ((row.length : Int) + 1).toNat) 16777216 = true := by rw [Nat.one_mul]; exact e5
    simp only [start1, List.map_cons, List.map_nil, List.cons_append, List.nil_append, List.replicate, fC, fVar, rdS, Rf.get, fRd, bnd, Fe.ret, fOp, fUn, fTst, fNot, fAnd, fOr, fIf, fBool, fNil, fCons, fTup, fLst, fAsL, fVal, fAndV, fOrV, fNotV, oI, oIc, oNeg, oIsN, oNotN, oIx, fIx, fR1, fR1L, oLen, oList, oTuple, oInt, oAbs, fRep, fCat, sNil, sThen, sSeq, sSet, sOwn, sRet, sRetN, sDrop, sIf, sTg, gNm, gNil', gCons', gTp, sFor, frzS, fSeq, fRng1, fRng2, fEnum, fZip, fComp, fYes, sApp, sExt, sIx, fPop, fPopAt, sPar, fCall, fCallS, oEq_int, oNe_int, List.getElem?_cons_zero, List.getElem?_cons_succ, List.set_cons_zero, List.set_cons_succ, oAdd, oSub, oMul, oDiv, oMod, oLt, oLe, oGt, oGe, oMin, oMax, oPow, decide_eq_true_eq, if_true, if_false, Bool.false_eq_true, Bool.not_true, Bool.not_false, decide_true, decide_false, List.length_cons, List.length_nil, List.length_map, Bool.and_self, ml, e5, e6, e7, rep0 (p := p), h1, nxt]
  exact runF_rt hb
def rowk (p : Int) : Nat → List Int
  | 0 => [1]
  | k + 1 => nxt p (rowk p k)
theorem rowk_len {p : Int} : ∀ k, (rowk p k).length = k + 1
  | 0 => rfl
  | k + 1 => by rw [rowk, nxt_len, rowk_len k]
/-! ## the rows, written out -/
def tab3 : List (List Int) := [[1], [0, 4], [4, 0, 12], [0, 28, 0, 36], [28, 0, 120, 0, 108], [0, 232, 0, 468, 0, 324], [232, 0, 1164, 0, 1728, 0, 972], [0, 2092, 0, 5220, 0, 6156, 0, 2916], [2092, 0, 11496, 0, 21816, 0, 21384, 0, 8748], [0, 19864, 0, 56304, 0, 86832, 0, 72900, 0, 26244], [19864, 0, 115896, 0, 255744, 0, 333396, 0, 244944, 0, 78732], [0, 195352, 0, 603432, 0, 1100628, 0, 1245132, 0, 813564, 0, 236196], [195352, 0, 1189488, 0, 2910924, 0, 4547016, 0, 4548960, 0, 2676888, 0, 708588], [0, 1970896, 0, 6479388, 0, 13279788, 0, 18190008, 0, 16323768, 0, 8739252, 0, 2125764], [1970896, 0, 12392076, 0, 32717952, 0, 58029372, 0, 70893792, 0, 57710556, 0, 28343520, 0, 6377292], [0, 20275660, 0, 69894180, 0, 156183228, 0, 244981908, 0, 270391932, 0, 201475188, 0, 91407852, 0, 19131876], [20275660, 0, 130721160, 0, 365865768, 0, 713531592, 0, 1005337656, 0, 1012650984, 0, 695833416, 0, 293355432, 0, 57395628], [0, 211823800, 0, 758029248, 0, 1811128896, 0, 3145932432, 0, 4028663952, 0, 3733786368, 0, 2380855680, 0, 937461924, 0, 172186884], [211823800, 0, 1393500648, 0, 4085216640, 0, 8579319120, 0, 13466461248, 0, 15819778224, 0, 13582214784, 0, 8080028964, 0, 2984572656, 0, 516560652], [0, 2240795848, 0, 8265718584, 0, 20834969040, 0, 39204418608, 0, 56219161968, 0, 61041549456, 0, 48826673316, 0, 27224659548, 0, 9470278620, 0, 1549681956], [2240795848, 0, 14988106128, 0, 45632124792, 0, 101709325728, 0, 173832417792, 0, 229699035360, 0, 231951321684, 0, 173704679496, 0, 91144257264, 0, 29960517816, 0, 4649045868], [0, 23951289520, 0, 90596443176, 0, 238605700104, 0, 478960394976, 0, 751196288736, 0, 921048427764, 0, 869558644548, 0, 612258295752, 0, 303393289608, 0, 94530599316, 0, 13947137604], [23951289520, 0, 162450311736, 0, 510395029632, 0, 1194777495288, 0, 2188077473664, 0, 3174637293972, 0, 3632703927840, 0, 3220934229396, 0, 2140168176864, 0, 1004710468140, 0, 297538935552, 0, 41841412812], [0, 258255469816, 0, 997745964840, 0, 2725962584184, 0, 5772409959528, 0, 9738869714964, 0, 13156615809756, 0, 14119046012916, 0, 11802970865052, 0, 7425214998732, 0, 3311670339972, 0, 934458219468, 0, 125524238436], [258255469816, 0, 1772512374288, 0, 5719200478704, 0, 13950297712080, 0, 27056099593548, 0, 42373224954648, 0, 53588893442184, 0, 54160108903800, 0, 42834127593888, 0, 25587315336168, 0, 10869469239384, 0, 2928898896840, 0, 376572715308], [0, 2805534253552, 0, 11036737601568, 0, 31107899148192, 0, 68906992729788, 0, 123541523735292, 0, 180708568306128, 0, 214926789230352, 0, 205314454305288, 0, 154089698117832, 0, 87631415247888, 0, 35537306614992, 0, 9163269405828, 0, 1129718145924], [2805534253552, 0, 19453340362224, 0, 64218111952896, 0, 162230690174364, 0, 330262501924656, 0, 551333139512004, 0, 757052494148736, 0, 850094821996344, 0, 770033061033696, 0, 549900509601384, 0, 298431552358656, 0, 115775189250804, 0, 28619526363408, 0, 3389154437772], [0, 30675477376432, 0, 122578133039568, 0, 354885026033052, 0, 816954572447748, 0, 1542120645285972, 0, 2411051912684748, 0, 3121252304442552, 0, 3320317527022728, 0, 2859999692702472, 0, 1948133081162808, 0, 1011069846326772, 0, 375945094115820, 0, 89247733527996, 0, 10167463313316], [30675477376432, 0, 214604565168864, 0, 722619425151756, 0, 1881609650546904, 0, 3992984362629216, 0, 7037413848542664, 0, 10354408042496796, 0, 12684074440350384, 0, 12820952273770656, 0, 10528132159270224, 0, 6855469089815196, 0, 3409154633096136, 0, 1217083015875456, 0, 277910663897304, 0, 30502389939948], [0, 337306474674592, 0, 1366433120658348, 0, 4049467926002172, 0, 9637813314269928, 0, 19016366936430312, 0, 31466649588124788, 0, 43747298567840772, 0, 50873175594821808, 0, 48990988980582192, 0, 38439865567625868, 0, 23975561902541724, 0, 11444546915163864, 0, 3929159711523672, 0, 864234381631860, 0, 91507169819844], [337306474674592, 0, 2378352544682124, 0, 8148767287977216, 0, 21786217092276444, 0, 47929806879240096, 0, 88515750397415724, 0, 138147247332215136, 0, 182115071298344124, 0, 201610515765047616, 0, 185412832509372444, 0, 139295158605419328, 0, 83371232622789036, 0, 38262800457015264, 0, 12651713516202876, 0, 2684210314715424, 0, 274521509459532], [0, 3727578443380492, 0, 15283824922023588, 0, 46232518956208092, 0, 113288458156069428, 0, 232305171035136012, 0, 403694498524462308, 0, 596556813294989532, 0, 747955729660079988, 0, 790244379804515292, 0, 695533656133536660, 0, 501256708439047020, 0, 288376498325382372, 0, 127440114887248668, 0, 40639350863324052, 0, 8327152453605804, 0, 823564528378596], [3727578443380492, 0, 26466560252165064, 0, 92083993722278856, 0, 251986015024693704, 0, 572170545503344296, 0, 1100610011629870344, 0, 1807640308868376456, 0, 2537626169545048584, 0, 3034111568784755256, 0, 3066266795547082536, 0, 2587857676839657000, 0, 1792146623642523432, 0, 992569609863395784, 0, 422959695525070056, 0, 130245205043577960, 0, 25805021889196008, 0, 2470693585135788], [0, 41376874025687032, 0, 171483674478774048, 0, 528237996191530272, 0, 1328128590577425408, 0, 2817121648139903232, 0, 5109470343757987488, 0, 7960547096150177952, 0, 10646990077419901008, 0, 12168601501901348304, 0, 11786658063480904608, 0, 9555719654161494432, 0, 6369009480790966080, 0, 3400668525115257408, 0, 1399124291618788128, 0, 416540637019929888, 0, 79885759252723812, 0, 7412080755407364], [41376874025687032, 0, 295614296555835144, 0, 1042689019627852416, 0, 2912842579152016224, 0, 6801507419872179456, 0, 13560835288177697184, 0, 23288958127424140416, 0, 34528631365870434864, 0, 44109571734161051328, 0, 48292462569184949520, 0, 44915693844604208256, 0, 35036168443275449376, 0, 22507696967488155648, 0, 11601129866964560352, 0, 4613913511876294272, 0, 1329507670312513476, 0, 247069358513578800, 0, 22236242266222092], [0, 461121792658583272, 0, 1929531909295357848, 0, 6040909638035573472, 0, 15540035157328228128, 0, 33965357547794235552, 0, 63971463991957231968, 0, 104395505748142856112, 0, 147695465831772355920, 0, 180621177771668103504, 0, 189793081552159056816, 0, 169783249977088074144, 0, 127616202297314503776, 0, 79124220769429027296, 0, 39417303112769975328, 0, 15171248205941396292, 0, 4235592369451119228, 0, 763444317806958492, 0, 66708726798666276], [461121792658583272, 0, 3312897287271107664, 0, 11829505365921647016, 0, 33662764071434948544, 0, 80585463019778919936, 0, 165867536635339938624, 0, 296309897724014552016, 0, 460881983076200924256, 0, 623707575266985171264, 0, 731656614867163367328, 0, 739162494633565244592, 0, 636965952228578726208, 0, 461972827661372538624, 0, 276789965421057057216, 0, 133423157544251322276, 0, 49749336987275308104, 0, 13470221426160316176, 0, 2357041680219541752, 0, 200126180395998828], [0, 5157384457905440752, 0, 21768197227734970008, 0, 69151280169199889592, 0, 181573755234083765568, 0, 407623925694676698432, 0, 793912507630034367888, 0, 1349811676248244580304, 0, 2006353524495587944032, 0, 2602779340668118881120, 0, 2934132339235055346576, 0, 2854453436129274459984, 0, 2372870684347108717248, 0, 1662708448405174673088, 0, 963793053807422493924, 0, 450018809620029274932, 0, 162718232387986240488, 0, 42767705958700490280, 0, 7271251221054624084, 0, 600378541187996484], [5157384457905440752, 0, 37240350601451292264, 0, 134455871852404799616, 0, 389027595741683434344, 0, 952345191396927995136, 0, 2016784284714064463184, 0, 3731549199138347683968, 0, 6055788553240321684944, 0, 8621839914154882713216, 0, 10742470361239411989936, 0, 11656850453834440499712, 0, 10936230992734932097200, 0, 8781320501446500824832, 0, 5951918399022946513188, 0, 3341397971042296756704, 0, 1512774661248074065284, 0, 530922403122659211744, 0, 135574369097156094924, 0, 22414132204351868736, 0, 1801135623563989452], [0, 57869888433073055272, 0, 246176923656758676408, 0, 792395211298897833192, 0, 2119427978621978298168, 0, 4873819858904848448592, 0, 9781902053280541073520, 0, 17250436150655364736848, 0, 26789205573875847768048, 0, 36607990103704060129584, 0, 43884261537552676469520, 0, 45906782354238253596336, 0, 41590013479651297116432, 0, 32295879903362448987684, 0, 21197153168111136296268, 0, 11536968574374964335396, 0, 5069246386866881407596, 0, 1728341578465133730156, 0, 429137239495820153508, 0, 69043532236619595660, 0, 5403406870691968356], [57869888433073055272, 0, 419786588955977842224, 0, 1530925982269173862416, 0, 4496613612518671797744, 0, 11232103794770783343096, 0, 24403361629995086419296, 0, 46596142310496987957408, 0, 78540514025841941978592, 0, 116975606825331603433728, 0, 153708231848664856858272, 0, 177559566966896283004896, 0, 179310360542366057905440, 0, 157065920342316340336980, 0, 118084792878198483259320, 0, 75128428078708373224200, 0, 39680152109991774413784, 0, 16936080739065777952944, 0, 5614161974891221343976, 0, 1356455250724080056184, 0, 212534003580550755336, 0, 16210220612075905068]]
def tab5 : List (List Int) := [[1], [0, 6], [6, 0, 30], [0, 66, 0, 150], [66, 0, 480, 0, 750], [0, 876, 0, 3150, 0, 3750], [876, 0, 7530, 0, 19500, 0, 18750], [0, 12786, 0, 57150, 0, 116250, 0, 93750], [12786, 0, 121080, 0, 402000, 0, 675000, 0, 468750], [0, 197796, 0, 1007400, 0, 2685000, 0, 3843750, 0, 2343750], [197796, 0, 1996380, 0, 7722000, 0, 17268750, 0, 21562500, 0, 11718750], [0, 3183156, 0, 17703900, 0, 55878750, 0, 107906250, 0, 119531250, 0, 58593750], [3183156, 0, 33619680, 0, 144398250, 0, 387300000, 0, 659062500, 0, 656250000, 0, 292968750], [0, 52718616, 0, 312496650, 0, 1109291250, 0, 2595562500, 0, 3951562500, 0, 3574218750, 0, 1464843750], [52718616, 0, 576089730, 0, 2671774500, 0, 8142018750, 0, 16929375000, 0, 23332031250, 0, 19335937500, 0, 7324218750], [0, 892401426, 0, 5552223150, 0, 21500891250, 0, 57639468750, 0, 107978906250, 0, 135996093750, 0, 104003906250, 0, 36621093750], [892401426, 0, 10014230280, 0, 49262007000, 0, 165143925000, 0, 396176250000, 0, 675890625000, 0, 783984375000, 0, 556640625000, 0, 183105468750], [0, 15368638836, 0, 99333158400, 0, 411453960000, 0, 1221895875000, 0, 2656771875000, 0, 4163437500000, 0, 4476562500000, 0, 2966308593750, 0, 915527343750], [15368638836, 0, 176176352580, 0, 908119752000, 0, 3279165675000, 0, 8766251250000, 0, 17447296875000, 0, 25293750000000, 0, 25349121093750, 0, 15747070312500, 0, 4577636718750], [0, 268388185596, 0, 1789001514900, 0, 7819764435000, 0, 25162079625000, 0, 61278553125000, 0, 112530234375000, 0, 151817871093750, 0, 142492675781250, 0, 83312988281250, 0, 22888183593750], [268388185596, 0, 3130942442880, 0, 16764772009500, 0, 64260901800000, 0, 187088951250000, 0, 418923000000000, 0, 714469042968750, 0, 901582031250000, 0, 795776367187500, 0, 439453125000000, 0, 114440917968750], [0, 4741271556456, 0, 32419484223900, 0, 148084761847500, 0, 508393460250000, 0, 1354367756250000, 0, 2809084042968750, 0, 4473927246093750, 0, 5303686523437500, 0, 4418334960937500, 0, 2311706542968750, 0, 572204589843750], [4741271556456, 0, 56125842006180, 0, 310182182967000, 0, 1248817269487500, 0, 3896335057500000, 0, 9580922824218750, 0, 18519347460937500, 0, 27673322753906250, 0, 30936767578125000, 0, 24403381347656250, 0, 12130737304687500, 0, 2861022949218750], [0, 84573471344916, 0, 590811392997900, 0, 2799728184322500, 0, 10140421404937500, 0, 29062598111718750, 0, 66423961582031250, 0, 120270060058593750, 0, 169303381347656250, 0, 179087219238281250, 0, 134147644042968750, 0, 63514709472656250, 0, 14305114746093750], [84573471344916, 0, 1013678749722480, 0, 5753785149312000, 0, 24139062326550000, 0, 79764705136406250, 0, 211736952140625000, 0, 452389867968750000, 0, 770653681640625000, 0, 1025604125976562500, 0, 1029583740234375000, 0, 734252929687500000, 0, 331878662109375000, 0, 71525573730468750], [0, 1521119577791976, 0, 10822178897924400, 0, 52907988073110000, 0, 200460016769156250, 0, 610560477822656250, 0, 1511074628671875000, 0, 3032603021484375000, 0, 4878872534179687500, 0, 6157604370117187500, 0, 5882171630859375000, 0, 4003143310546875000, 0, 1730918884277343750, 0, 357627868652343750], [1521119577791976, 0, 18427776786884280, 0, 107018882562732000, 0, 464999957134706250, 0, 1612860561668437500, 0, 4563877017785156250, 0, 10587976164843750000, 0, 20041887641601562500, 0, 30551967041015625000, 0, 36670193481445312500, 0, 33414001464843750000, 0, 21746635437011718750, 0, 9012222290039062500, 0, 1788139343261718750], [0, 27554494253636136, 0, 199157766497153400, 0, 1000094369948366250, 0, 3937860347341968750, 0, 12628179826127343750, 0, 33407361253769531250, 0, 72981768465820312500, 0, 130761405249023437500, 0, 189430028686523437500, 0, 216764968872070312500, 0, 188816642761230468750, 0, 117745399475097656250, 0, 46849250793457031250, 0, 8940696716308593750], [27554494253636136, 0, 336930237765334080, 0, 1995883202434133250, 0, 8938332197083800000, 0, 32317481562837187500, 0, 96548260384406250000, 0, 240018574734667968750, 0, 495670247578125000000, 0, 843237054931640625000, 0, 1163915112304687500000, 0, 1272641487121582031250, 0, 1061828613281250000000, 0, 635576248168945312500, 0, 243186950683593750000, 0, 44703483581542968750], [0, 502257203287150896, 0, 3680534391260803650, 0, 18917748209254466250, 0, 77009142548256187500, 0, 258135668198592187500, 0, 722759876656699218750, 0, 1695763121251464843750, 0, 3321588292822265625000, 0, 5380100386962890625000, 0, 7092217048645019531250, 0, 7425036048889160156250, 0, 5944719314575195312500, 0, 3421068191528320312500, 0, 1260638236999511718750, 0, 223517417907714843750], [502257203287150896, 0, 6191820407696558130, 0, 37320420165558484500, 0, 171597883594528518750, 0, 643181380939873125000, 0, 2013438217649660156250, 0, 5309562504534960937500, 0, 11800403899079589843750, 0, 21988041851074218750000, 0, 33992718983459472656250, 0, 42886121292114257812500, 0, 43069899559020996093750, 0, 33144664764404296875000, 0, 18365979194641113281250, 0, 6526708602905273437500, 0, 1117587089538574218750], [0, 9205363627419463506, 0, 68279522204041275150, 0, 358199984422320941250, 0, 1501170798912515718750, 0, 5229345122349025781250, 0, 15376753592783261718750, 0, 38348216421754394531250, 0, 80990061346472167968750, 0, 143932928238830566406250, 0, 212849716209411621093750, 0, 257500506019592285156250, 0, 248494162559509277343750, 0, 184089303016662597656250, 0, 98356604576110839843750, 0, 33751130104064941406250, 0, 5587935447692871093750], [9205363627419463506, 0, 114306340341138592680, 0, 699597595442527317000, 0, 3292170721024120425000, 0, 12735199116911604375000, 0, 41523479204528390625000, 0, 115231984385670703125000, 0, 272731143455244140625000, 0, 548883234971191406250000, 0, 932514357403564453125000, 0, 1321749087066650390625000, 0, 1535996692657470703125000, 0, 1426560115814208984375000, 0, 1018803119659423828125000, 0, 525534152984619140625000, 0, 174343585968017578125000, 0, 27939677238464355468750], [0, 169538522105655373716, 0, 1271129297148220280400, 0, 6790158698236757010000, 0, 29196052722032206500000, 0, 105199474789086412500000, 0, 322849380408312656250000, 0, 848891065383597656250000, 0, 1912538952247412109375000, 0, 3676930532259521484375000, 0, 5984320874084472656250000, 0, 8144742127990722656250000, 0, 9106543579101562500000000, 0, 8151603698730468750000000, 0, 5619549751281738281250000, 0, 2802014350891113281250000, 0, 899657607078552246093750, 0, 139698386192321777343750], [169538522105655373716, 0, 2118821907676497148980, 0, 13145805183977858412000, 0, 63146846213215991550000, 0, 251179738399247445000000, 0, 848846754353744718750000, 0, 2463137967425160937500000, 0, 6156994279165400390625000, 0, 13239625293496582031250000, 0, 24368973535382080078125000, 0, 38066346498413085937500000, 0, 49830254219055175781250000, 0, 53684321594238281250000000, 0, 46377568244934082031250000, 0, 30899763107299804687500000, 0, 14909729361534118652343750, 0, 4637986421585083007812500, 0, 698491930961608886718750], [0, 3136053040310429391276, 0, 23739914722360344156900, 0, 128875872133105283610000, 0, 566913969465327402750000, 0, 2104745446349981943750000, 0, 6707371739193884531250000, 0, 18472684116291205078125000, 0, 44024596689323583984375000, 0, 90567100002864990234375000, 0, 159911214175323486328125000, 0, 240161986711120605468750000, 0, 302835592689514160156250000, 0, 314799176216125488281250000, 0, 262787604331970214843750000, 0, 169408544898033142089843750, 0, 79186633229255676269531250, 0, 23888424038887023925781250, 0, 3492459654808044433593750], [3136053040310429391276, 0, 39420179923912491113280, 0, 247575445744907004394500, 0, 1211293330130853820800000, 0, 4939315293676618957500000, 0, 17231098970943794250000000, 0, 52009542812260627734375000, 0, 136388017270779609375000000, 0, 310690083449482910156250000, 0, 612746714189648437500000000, 0, 1039718057587738037109375000, 0, 1503645526245117187500000000, 0, 1828977139663696289062500000, 0, 1836783485412597656250000000, 0, 1483346566557884216308593750, 0, 926229357719421386718750000, 0, 419821590185165405273437500, 0, 122934579849243164062500000, 0, 17462298274040222167968750], [0, 58236498165775067460936, 0, 444676345364469459960900, 0, 2449170558855388842772500, 0, 10995781944330888061500000, 0, 41927675439326889037500000, 0, 138165037666979598984375000, 0, 396435731332082748046875000, 0, 992630169803380957031250000, 0, 2166197131437062988281250000, 0, 4103451628535980224609375000, 0, 6702235814183807373046875000, 0, 9347204770889282226562500000, 0, 10981669183731079101562500000, 0, 10667263993620872497558593750, 0, 8342962190508842468261718750, 0, 5050968378782272338867187500, 0, 2222042530775070190429687500, 0, 632135197520256042480468750, 0, 87311491370201110839843750], [58236498165775067460936, 0, 735858836193344797265580, 0, 4672552285677736142577000, 0, 23241634738607832275362500, 0, 96906585160981329345000000, 0, 347803414863614044171875000, 0, 1087260919666980742968750000, 0, 2974808826463794697265625000, 0, 7129347980453967773437500000, 0, 14934437285721295166015625000, 0, 27219493956863708496093750000, 0, 42858383841808319091796875000, 0, 57717693038177490234375000000, 0, 65575609912276268005371093750, 0, 61679282158613204956054687500, 0, 46765779331326484680175781250, 0, 27476884424686431884765625000, 0, 11742347851395606994628906250, 0, 3247987478971481323242187500, 0, 436557456851005554199218750], [0, 1085277825187995202031196, 0, 8351846466644460128904900, 0, 46604396166996512988247500, 0, 213114758854020490721812500, 0, 832336340668520690896875000, 0, 2826277993985050963828125000, 0, 8411113424798698412109375000, 0, 22003392112772941259765625000, 0, 50581177187991134033203125000, 0, 101891680385470184326171875000, 0, 178955853626126861572265625000, 0, 272009612247219085693359375000, 0, 354164075103163719177246093750, 0, 389557331719994544982910156250, 0, 355162190124392509460449218750, 0, 261305781081318855285644531250, 0, 149126769974827766418457031250, 0, 61959726735949516296386718750, 0, 16676494851708412170410156250, 0, 2182787284255027770996093750], [1085277825187995202031196, 0, 13778235592584436139060880, 0, 88363628500218813632772000, 0, 446136739689003055663050000, 0, 1897910134938623144505937500, 0, 6987959697327654418312500000, 0, 22542503394723953231250000000, 0, 64058959236766433320312500000, 0, 160598137751855840332031250000, 0, 354797566325425854492187500000, 0, 688414255553477783203125000000, 0, 1166788880377853393554687500000, 0, 1714212136339259147644042968750, 0, 2160377707235813140869140625000, 0, 2302948848724365234375000000000, 0, 2037116731703281402587890625000, 0, 1455655675381422042846679687500, 0, 807593576610088348388671875000, 0, 326475128531455993652343750000, 0, 85565261542797088623046875000, 0, 10913936421275138854980468750]]
def tab7 : List (List Int) := [[1], [0, 8], [8, 0, 56], [0, 120, 0, 392], [120, 0, 1232, 0, 2744], [0, 2192, 0, 11368, 0, 19208], [2192, 0, 26712, 0, 98784, 0, 134456], [0, 44248, 0, 285768, 0, 825944, 0, 941192], [44248, 0, 595504, 0, 2826320, 0, 6722800, 0, 6588344], [0, 949488, 0, 6994848, 0, 26507040, 0, 53647944, 0, 46118408], [949488, 0, 13641264, 0, 75470976, 0, 239197224, 0, 421654016, 0, 322828856], [0, 21237168, 0, 170959824, 0, 767494056, 0, 2096034584, 0, 3274406968, 0, 2259801992], [21237168, 0, 319620000, 0, 1964212824, 0, 7468492976, 0, 17946649056, 0, 25180650768, 0, 15818613944], [0, 489517344, 0, 4201552824, 0, 21217982744, 0, 70226099888, 0, 150807194160, 0, 192083169320, 0, 110730297608], [489517344, 0, 7628174232, 0, 50628852512, 0, 218751979096, 0, 642389893376, 0, 1247733528440, 0, 1455312482848, 0, 775112083256], [0, 11544312984, 0, 104026072136, 0, 573153946680, 0, 2173653747048, 0, 5744462782072, 0, 10189447181928, 0, 10962299463192, 0, 5425784582792], [11544312984, 0, 184836263024, 0, 1301336451632, 0, 6185731373808, 0, 20960039011408, 0, 50400686656432, 0, 82288429736688, 0, 82161880825136, 0, 37980492079544], [0, 277190766896, 0, 2595190292800, 0, 15295086535232, 0, 64260158628064, 0, 197120959736288, 0, 435093236331712, 0, 658180888981952, 0, 613113657855496, 0, 265863444556808], [277190766896, 0, 4535525661072, 0, 33461418584832, 0, 171325764374688, 0, 646942070132736, 0, 1814939954485728, 0, 3703833543303936, 0, 5220379880729160, 0, 4557659049545280, 0, 1861044111897656], [0, 6753051796240, 0, 65210098212336, 0, 405555694468512, 0, 1846222420755552, 0, 6343534445414880, 0, 16408413224704032, 0, 31147214683856712, 0, 41100318214649400, 0, 33764657458714616, 0, 13027308783283592], [6753051796240, 0, 112481460786016, 0, 862026381954864, 0, 4685112282035136, 0, 19267091390703744, 0, 60813154342608192, 0, 146006107256784936, 0, 259130821001646384, 0, 321466884961260416, 0, 249379910994285904, 0, 91191161482985144], [0, 166505875155936, 0, 1649396607456976, 0, 10719296955719184, 0, 52062877364949696, 0, 195682794077534400, 0, 571698187655042280, 0, 1281173571799140936, 0, 2135382631972785104, 0, 2499648105723108816, 0, 1836850538442986472, 0, 638338130380896008], [166505875155936, 0, 2814937733548528, 0, 22265073207918016, 0, 127097956054983984, 0, 560122935632182272, 0, 1941477746197783080, 0, 5283060885384436896, 0, 11103597634566771656, 0, 17447326529532604544, 0, 19334387278504748184, 0, 13496291899481801312, 0, 4468366912666272056], [0, 4146984734796016, 0, 41969637342757712, 0, 282953468510410096, 0, 1449808628017070160, 0, 5862338295623058984, 0, 18873405108768918456, 0, 48085023832257829928, 0, 95172509971500006136, 0, 141465672985232979992, 0, 148837002849015038600, 0, 98942410209038881240, 0, 31278568388663904392], [4146984734796016, 0, 70998530486329824, 0, 576740929909714080, 0, 3430482907589940832, 0, 16010998691742550104, 0, 59909773178130331344, 0, 180198859593640259120, 0, 431767676797304815632, 0, 807673242785733022944, 0, 1139096713745645898544, 0, 1140801430152144151440, 0, 723875439851936073072, 0, 218949978720647330744], [0, 104174408364697952, 0, 1073730643314022848, 0, 7467669416957939392, 0, 40024379044872135928, 0, 171986764020328182072, 0, 599567271840552578528, 0, 1693159693952786629472, 0, 3830046980366866732368, 0, 6792809413245777059152, 0, 9114478426371665441248, 0, 8709485450916945133152, 0, 5286078057684199842248, 0, 1532649851044531315208], [104174408364697952, 0, 1802951501866908512, 0, 14983783920156099328, 0, 92298064963577711672, 0, 452157417334433133568, 0, 1803474619982849853032, 0, 5890130596836654679168, 0, 15682164838036373138672, 0, 33603138275813844185728, 0, 56664144319092104855312, 0, 72510834435518603221888, 0, 66252476214102815774312, 0, 38535196254833930210944, 0, 10728548957311719206456], [0, 2636346768784492128, 0, 27604444433224458912, 0, 197184552404670406968, 0, 1098243872079477115272, 0, 4968576541323881788008, 0, 18514452936716603650392, 0, 56913079015892955892848, 0, 143378292142068456156432, 0, 291886112249789014155408, 0, 469159844669163337209072, 0, 573828317262733038327528, 0, 502302529753553640631128, 0, 280474922741149230683064, 0, 75099842701182034445192], [2636346768784492128, 0, 46058871814715903808, 0, 390415663437241619352, 0, 2478535738912169964048, 0, 12656283645880221594912, 0, 53294488725983776166448, 0, 186514249572909181445592, 0, 541769845253319147406368, 0, 1295534157244268207250432, 0, 2512362630417686436296928, 0, 3857947229946876398791032, 0, 4519100750592684908923824, 0, 3796592631016024715100960, 0, 2038424301889226649226640, 0, 525698898908274241116344], [0, 67149645964991840832, 0, 712827766140252946008, 0, 5211445382972861299512, 0, 30006033818265411343248, 0, 141888474247145327330832, 0, 559575670654795614610728, 0, 1847369592263683417525512, 0, 5087923074017502239095008, 0, 11581101731127563887049952, 0, 21444485642870681452869528, 0, 31524731360220819700461048, 0, 35430297885164819077567728, 0, 28614572719001399654933360, 0, 14794669012132860785702824, 0, 3679892292357919687814408], [67149645964991840832, 0, 1182875287895195831832, 0, 10201239745954631921568, 0, 66486151499075440439832, 0, 351930710975003206733568, 0, 1552794990384812905926552, 0, 5764399286847252719800608, 0, 18019510219863286161773592, 0, 47196563249250079560715008, 0, 102512197760763628662219192, 0, 181636130860315589870547744, 0, 256103417406710556980795064, 0, 276626657915155133197907456, 0, 215096678045142658370236344, 0, 107242575377287945187734176, 0, 25759246046505437814700856], [0, 1720072455615130558488, 0, 18481366761221002744392, 0, 137894829720757863890808, 0, 817333771468531289812392, 0, 4016309967209835353061528, 0, 16633964219540943061286472, 0, 58370305227794055200377848, 0, 173333134788293082693130152, 0, 432888140505514185587224248, 0, 899221515185660990506082088, 0, 1527556333428919686074629272, 0, 2069350579762129032063472904, 0, 2151483283451228590755588536, 0, 1612919321693286553779388584, 0, 776457273687521054128840088, 0, 180314722325538064702905992], [1720072455615130558488, 0, 30521873950526916653808, 0, 267264397049304883101552, 0, 1782597579513836337048048, 0, 9737646367489554381748272, 0, 44748133990009790532717168, 0, 174808054764580656629383152, 0, 581925271382851469095775088, 0, 1646220084023565764439135312, 0, 3929438498724260289616651824, 0, 7822106939728546619617203888, 0, 12762244913764566834585877808, 0, 16636937341786131815199898864, 0, 16673302305851886689068508336, 0, 12066892525540526930584560176, 0, 5615515638138185443604786608, 0, 1262203056278766452920341944], [0, 44282453595447961121712, 0, 480917514702993299678208, 0, 3653448358858970518758912, 0, 22215829424086408741084608, 0, 112911658562436671204955072, 0, 488044992694649190358403328, 0, 1805581654734916065501457152, 0, 5719696983703526048109560928, 0, 15452979086889220640690599008, 0, 35328176430798368646933766656, 0, 67516993491864393171906305024, 0, 105972651738138099657301043520, 0, 133131863698354809395467800384, 0, 128780008666503733754064118528, 0, 90083763316921873957696707840, 0, 40570812523246064558153848200, 0, 8835421393951365170442393608], [44282453595447961121712, 0, 790894689871129027530192, 0, 7019870961779923616506368, 0, 47789967936099202372396992, 0, 268422464531041532392547328, 0, 1278426602631705888793088832, 0, 5221896603597460398010280448, 0, 18358768566847938506619760992, 0, 55490857972813902977457525504, 0, 143499030039022913131767959712, 0, 314814228507452973700442671616, 0, 578591606181188851860645178688, 0, 874940425865321506996575105024, 0, 1060703054554987399522338721216, 0, 991543823982448010236145537536, 0, 671157155741699182262030803080, 0, 292831109056673817077519331008, 0, 61847949757659556193096755256], [0, 1145154318634712716503888, 0, 12556133790877826809217712, 0, 96929064668558667687941568, 0, 602952240083735948999326272, 0, 3157383854348996615540920128, 0, 14170882822019401619561902272, 0, 54912044792030161292691724128, 0, 184002237940749472523795852448, 0, 531935035848720233973970638240, 0, 1319307438780613365622818389600, 0, 2782291205733359667763743880000, 0, 4925081669133643470021091355840, 0, 7185286035612237948498364456384, 0, 8416465205867359806892516586048, 0, 7611963923618835253915049565832, 0, 4990931199248568092911734952568, 0, 2111665713154376275735732072312, 0, 432935648303616893351677286792], [1145154318634712716503888, 0, 20572214021320815824744928, 0, 184822001204703455352465552, 0, 1281455692763646622814917248, 0, 7378049534935148258536204032, 0, 36272569802462377928348343168, 0, 154108224546165972629625040032, 0, 568386551484960601572637921344, 0, 1819950701433966541640541605376, 0, 5042852689721655003440612857280, 0, 12017443277197653227123472607200, 0, 24401120109267161144367298515840, 0, 41660857719547742238646003947264, 0, 58713467455153025446381067780736, 0, 66527220364690353902162665668168, 0, 58274678664580414870317081913392, 0, 37048184107894352926117876740288, 0, 15214595640384250823501801792976, 0, 3030549538125318253461741007544], [0, 29733448570398517556776032, 0, 328827499353949166125680048, 0, 2575209701196570810282176112, 0, 16348239384280674618240624768, 0, 87918916547008415738101771392, 0, 408016213163402618128063442208, 0, 1647144123308122409980013201568, 0, 5798656561828690752649007054784, 0, 17782507599759420794924404094912, 0, 47317412105249238251207762608160, 0, 108523223049650733734231606766240, 0, 212468698484417870249217093558144, 0, 350339471491987221116903095411584, 0, 477521492550761532026830140133320, 0, 523965221217412892185455741590568, 0, 444970934759957257018337450134032, 0, 274551884395644721306326938974992, 0, 109532719020815074017974353558376, 0, 21213846766877227774232187052808], [29733448570398517556776032, 0, 536961639346738789023112272, 0, 4877002196674214973161936448, 0, 34374707292656670290215857552, 0, 202356592236973138065786144768, 0, 1023448628992461528294775841952, 0, 4503257615451940736876457297024, 0, 17328665424985547622509099465760, 0, 58373103532560256063467453478400, 0, 171794965303565183815678591272544, 0, 439745107786395401492685945023360, 0, 972131259831973006388838340921824, 0, 1837620360882912312861422750318592, 0, 2929897792994672079845151808014408, 0, 3866615669072743616373266722523808, 0, 4112727483281847502316527641268008, 0, 3389348427715345520434689089913216, 0, 2031395909790328123162262926383320, 0, 787942879912582745900052661961440, 0, 148496927368140594419625309369656], [0, 774829227909926929477320528, 0, 8635733672101386496323722352, 0, 68513722669376175102349412688, 0, 442979543285569830097297147632, 0, 2439944774651273494755278855328, 0, 11667398018399171434939888190688, 0, 48851468733149132780644300544928, 0, 179673761507459089421031149738720, 0, 580406690031486976259950765621344, 0, 1642309864911351688202436083931168, 0, 4050347014336740816837639956085344, 0, 8642539179706723357583291136771360, 0, 15793240319175058269875111060244552, 0, 24375900220035448175289329378624664, 0, 31179037166791052816929394698934664, 0, 32178440810688278036650382578789272, 0, 25756834903797746766205086555775832, 0, 15007714248444879608035893146644680, 0, 5664097086756219815719993943099736, 0, 1039478491576984160937377165587592], [774829227909926929477320528, 0, 14059538267470875002664966048, 0, 128963858374085880576615469152, 0, 922575601971203055813743036448, 0, 5540801577650262305436358888752, 0, 28747011440958085898226840177984, 0, 130523254861943332825223517879744, 0, 521634042639503018885541253553216, 0, 1838123020583700602207168813792384, 0, 5705156695131760522022091443280576, 0, 15546516068716202634254692543603520, 0, 36994968280063909075446770829368768, 0, 76291014577122121772958149017644072, 0, 134928582454260856064415106800336528, 0, 201810338707039190043954700349307312, 0, 250431700978225647755156145471331920, 0, 251005920578615693022757764607300736, 0, 195305558575029106971471499037075504, 0, 110718096825870377071971245969612496, 0, 40688158098870522870977334767285744, 0, 7276349441038889126561640159113144]]
def tab11 : List (List Int) := [[1], [0, 12], [12, 0, 132], [0, 276, 0, 1452], [276, 0, 4488, 0, 15972], [0, 7800, 0, 65340, 0, 175692], [7800, 0, 151140, 0, 894432, 0, 1932612], [0, 244740, 0, 2556972, 0, 11771364, 0, 21258732], [244740, 0, 5249112, 0, 39898056, 0, 150743736, 0, 233846052], [0, 8185992, 0, 97638288, 0, 589622352, 0, 1892027148, 0, 2572306572], [8185992, 0, 187684200, 0, 1663643520, 0, 8377873020, 0, 23384605200, 0, 28295372292], [0, 285916104, 0, 3728169720, 0, 26677951740, 0, 115541208420, 0, 285526029492, 0, 311249095212], [285916104, 0, 6873246864, 0, 67687818660, 0, 408998677560, 0, 1556479322112, 0, 3452035419624, 0, 3423740047332], [0, 10304240112, 0, 143293534164, 0, 1153564682820, 0, 6055464775272, 0, 20573307962856, 0, 41396129663196, 0, 37661140520652], [10304240112, 0, 256640175396, 0, 2729793558624, 0, 18744676286292, 0, 87183420490848, 0, 267702517254612, 0, 493018566815808, 0, 414272545727172], [0, 380291056740, 0, 5552835487980, 0, 48772405431156, 0, 293374859640060, 0, 1226720142653940, 0, 3437746256616540, 0, 5837476780701060, 0, 4556998002998892], [380291056740, 0, 9736037112120, 0, 109853595798936, 0, 829871319382776, 0, 4453843598694600, 0, 16931667825809880, 0, 43652685603483000, 0, 68769242590710552, 0, 50126978032987812], [0, 14299529793000, 0, 216950004032256, 0, 2038260873171072, 0, 13582428111905136, 0, 65923947411450480, 0, 229901031687391680, 0, 548948784229023552, 0, 806588646530803884, 0, 551396758362865932], [14299529793000, 0, 374244831755256, 0, 4424710917525888, 0, 36003297716786928, 0, 215330656642406976, 0, 955064453213346960, 0, 3077860132790332032, 0, 6845025273050062956, 0, 9423871870201708656, 0, 6065364341991525252], [0, 545839189271256, 0, 8541404066833704, 0, 84675117809571696, 0, 611366931527063184, 0, 3323701676279823696, 0, 13583569118137148592, 0, 40701486733743715308, 0, 84719149873752401172, 0, 109727954914210320468, 0, 66719007761906777772], [545839189271256, 0, 14545635148817520, 0, 178630562544742440, 0, 1542793227432351840, 0, 10048737923077518720, 0, 50144287557215209248, 0, 190120747033252349820, 0, 532435503944933269560, 0, 1041638603525486733360, 0, 1273726511818220302920, 0, 733909085380974555492], [0, 21095705420072592, 0, 338632549181735160, 0, 3507729415424518680, 0, 27019463424833388960, 0, 160680404711067915168, 0, 741707910162619651548, 0, 2623763721310709117580, 0, 6898429146919752698520, 0, 12731751150598574369880, 0, 14744900715381397887612, 0, 8072999939190720110412], [21095705420072592, 0, 570685308802533672, 0, 7232687456423605440, 0, 65604486994503094440, 0, 457894502384235193728, 0, 2509192361984366718396, 0, 10782550733099525284608, 0, 35759830081337552991900, 0, 88614471766715854053600, 0, 154794163371965715956292, 0, 170266907808386096874144, 0, 88802999331097921214532], [0, 823833773843404776, 0, 13510225853251475832, 0, 145164049015162754280, 0, 1179543859323769232568, 0, 7546031888210953849404, 0, 38383666714927559186964, 0, 154367888145432331122588, 0, 481972602661428936964500, 0, 1129553352805840110545892, 0, 1873002704900008972393356, 0, 1961738985223344986830116, 0, 976832992642077133359852], [823833773843404776, 0, 22572397365528928368, 0, 293776533400928988432, 0, 2776348398490559529648, 0, 20521014340772415407652, 0, 121390017485248051530408, 0, 576588222009635482179192, 0, 2180019372261184579312968, 0, 6431251982081558417155392, 0, 14298089585764250188398168, 0, 22564768739123443683157032, 0, 22555961830098871988491128, 0, 10745162919062848466958372], [0, 32458402651649785680, 0, 542072904421747200480, 0, 6007890265900778402400, 0, 51060846724168570233780, 0, 347121175233744621014580, 0, 1911878414347364049013680, 0, 8522489814367174883284080, 0, 30411465076954588789598040, 0, 85041861388661392777107480, 0, 179843754182530195755536880, 0, 270768417960456752503218480, 0, 258860743050150440340360780, 0, 118196792109691333136542092], [32458402651649785680, 0, 899115333589894842960, 0, 11970692214539997607680, 0, 117147639649077132660180, 0, 908790489199598893586160, 0, 5730211341918554880174060, 0, 29553152372188179422434560, 0, 124158853034993512505722920, 0, 419567977235161869462685920, 0, 1115304229457805516303719160, 0, 2249049713968288905814124160, 0, 3237313340615174717875764060, 0, 2965664965661346176880510672, 0, 1300164713206604664501963012], [0, 1288616165409692271120, 0, 21860960884028840880240, 0, 248825254009017106344660, 0, 2197414525339447352848140, 0, 15726906723114142709621820, 0, 92585477133292283104349220, 0, 449243529129063486152503080, 0, 1785315360620090507025638040, 0, 5730551979044586080393264280, 0, 14517396238004149585155034920, 0, 27976860194266352681831129820, 0, 38576111712428268073513915332, 0, 33922479335481412610187580404, 0, 14301811845272651309521593132], [1288616165409692271120, 0, 36035738703535455862560, 0, 489295823733334356027300, 0, 4934492319438635522639400, 0, 39898466501848063590951360, 0, 265581451087547852910189240, 0, 1467683777595278600300344500, 0, 6726994181039788854703171920, 0, 25369020945865581657675282720, 0, 77553468007494596469480942000, 0, 187668218812311998118536513940, 0, 346321573849358147573656343352, 0, 458259708172192361418840649056, 0, 387449084535568190021584977576, 0, 157319930297999164404737524452], [0, 51499132688451763116000, 0, 885688949472224370515460, 0, 10316746380505313438939700, 0, 94177882015673054339984760, 0, 704464582607876552410654200, 0, 4389079739558304982312426140, 0, 22871515734587853458006961420, 0, 99365956937303259059410173840, 0, 356612698412015994703909051920, 0, 1040756366894752559282826875940, 0, 2410671980784790126877557996692, 0, 4267797020515131984729060425928, 0, 5428305874429684165628832117192, 0, 4419259860189249254642172277788, 0, 1730519233277990808452112768972], [51499132688451763116000, 0, 1452179409045193764791460, 0, 20059324824699781514609760, 0, 207662092201231502168321460, 0, 1740421284780280150150486560, 0, 12138190148244947058829622340, 0, 71151392869729208263443648960, 0, 350952630017769647097486749460, 0, 1449638224722351844357420964160, 0, 4963496049426928501025826447060, 0, 13858992016627068278988653632032, 0, 30785188809147823380382198389540, 0, 52374073100096135997648496802400, 0, 64130624478915775076559325566900, 0, 50342377695359732609516007824640, 0, 19035711566057898892973240458692], [0, 2070169001306614922183460, 0, 36033298324196912927315820, 0, 428314665272929098829028820, 0, 4024704298993826674002022620, 0, 31282824280828028710484974500, 0, 204671484500423625910569494700, 0, 1133617951584790937995366888020, 0, 5310117154917817962429775208220, 0, 20909516521372798788957457052820, 0, 68457448560323281790272744549692, 0, 183234100992045574449257388341892, 0, 391011150000722193181852679087340, 0, 640245428579973271050692790393300, 0, 755779246963433258451668589060540, 0, 572801866215014957597649326529732, 0, 209392827226636887822705645045612], [2070169001306614922183460, 0, 58805157338569677071333880, 0, 824680946839095141029502840, 0, 8736165616996046761121339640, 0, 75554571569760122124507223320, 0, 548782551589531941725904214200, 0, 3385004281089450823011631329720, 0, 17779914622350518280378810976440, 0, 79320805225468796375684984343240, 0, 298462130295424068468804772130712, 0, 936266035155601674142257578388504, 0, 2406586260913223512123683950848152, 0, 4941368078587917396051072260354040, 0, 7798478961343139240009289283386840, 0, 8886373582812780800566003806195672, 0, 6510213355591801421396848236872664, 0, 2303321099493005766049762095501732], [0, 83647185354249056137535400, 0, 1471537677563361588814175520, 0, 17807656032226093312445870880, 0, 171652393356716636496841959360, 0, 1379882838856893285095483670720, 0, 9421612348574302181996577685920, 0, 55014961714334477333506755603360, 0, 274899866071324497459851905084080, 0, 1170990987775580828601339599906352, 0, 4219349468405266427299110071826336, 0, 12705512647624841927688517313121696, 0, 31413816948633376029411595719683712, 0, 62153527825810230596571084147281280, 0, 94669642157587312440668185923450912, 0, 104260322766532390227622890105025056, 0, 73915668011002821401415092701101036, 0, 25336532094423063426547383050519052], [83647185354249056137535400, 0, 2391656716460101206327064920, 0, 33994570485423070789401801600, 0, 367536609711203662933746539040, 0, 3268059165780776286560745223680, 0, 24600323576000128318046898063840, 0, 158652697548651801335469110148480, 0, 880064444929003748128426216721040, 0, 4194889514560150300659710555831232, 0, 17100250333936655541913845670796208, 0, 59118356800082772627978728103211392, 0, 171174456072506637233985286164022368, 0, 407705514260777366920098637063802112, 0, 778358448241499849002950111543544992, 0, 1145626386499992827074972935262985088, 0, 1220779218442859113905266883856376652, 0, 838408880215454098842113402762630448, 0, 278701853038653697692021213555709572], [0, 3395422940711089879977489720, 0, 60302794366484184058999515720, 0, 741476885050857441617166356640, 0, 7310961872604016578831957153120, 0, 60548974399588667470215095524320, 0, 429256256884653212833984988850720, 0, 2625244117964173562818586428354320, 0, 13875598408779191530072398939762672, 0, 63244034994098308849170661784939760, 0, 247221110473385983589031030481969680, 0, 821476380873417136141751295299347680, 0, 2290624531058350376493936784868048160, 0, 5263119105110050885124035119245368224, 0, 9707569317156491166107424162241980000, 0, 13822669469942780211729969171749212620, 0, 14266980283086904351800049125182773620, 0, 9501199535408648784955268643944644500, 0, 3065720383425190674612233349112805292], [3395422940711089879977489720, 0, 97652446714306172738751902640, 0, 1404807623082183466266161029560, 0, 15467207608163448436620787076160, 0, 140969554998232849837366624208640, 0, 1095294975280128555006351039618240, 0, 7347062943695358903992421305712240, 0, 42753283706385100721076849651660192, 0, 215875617490669415679967050122329152, 0, 942905495408467380929908310116307040, 0, 3540908596080662955621092630601014160, 0, 11326864720665938874053201033160872640, 0, 30459988946751905026557339752793897984, 0, 67601879473367050902471810473941030464, 0, 120605931958664183038911634956410992620, 0, 166316344452457486680829710014424112440, 0, 166437982649364596654755809020955154320, 0, 107578915272920327309120188432503894792, 0, 33722924217677097420734566840240858212], [0, 138397522002839251298481779280, 0, 2478984536939551366392431958600, 0, 30920091462067466565548558401320, 0, 311108838688030782640195282046400, 0, 2645960080260689903217383905913280, 0, 19395307671776773009062282741512880, 0, 123570976087034048664993484014494832, 0, 686161738260905523611812396290591264, 0, 3317537287805830953409545861461927712, 0, 13912869045573804145850084041880391600, 0, 50276859277553231385885219969772028400, 0, 155055500874077232641142551117563497024, 0, 402661757887638006194602547754673908288, 0, 864226606165701742966101550169762327724, 0, 1492981595997763500108857694534945031260, 0, 1995917771626396950143882619179620391160, 0, 1938396724415930890511434087663010592312, 0, 1217090992219800697821056639597783700924, 0, 370952166394448071628080235242649440332], [138397522002839251298481779280, 0, 4001357278970783130675731530680, 0, 58188921368402531595865309945920, 0, 651229844770772914861229424460920, 0, 6068157305829028512259532008423680, 0, 48500868554644361944453505706558960, 0, 336919360476578551764678594171136512, 0, 2045442475218280058926740720450034416, 0, 10865316408675791713139482220658431616, 0, 50405779211437944633355088517961596432, 0, 203318418778865076990236144430456336000, 0, 708100952927162777885879970785055809424, 0, 2108272267502487565247170610047872375552, 0, 5293505942929719811106729575471175318892, 0, 10999474263820482672735974746402330636224, 0, 18418715327601795451341317259064015735020, 0, 23893492212306297342094142898638834895072, 0, 22539454960795040493446831603890900216356, 0, 13758953080812255747659703270818270150496, 0, 4080473830338928787908882587669143843652], [0, 5662127543004854146257512882040, 0, 102203851437081146033298356783400, 0, 1291307979823200762415747833866040, 0, 13231685598307530575733055677493800, 0, 115250598918763675579308357799219440, 0, 870428914577666533153667156943285072, 0, 5751555440460644128338205256332536048, 0, 33365183636076872361333630145608810192, 0, 169924259706871653477889392945204344208, 0, 757781990104682467957142118128033896752, 0, 2944603559494678624778477559520075505424, 0, 9897382749701278121991850288683486279216, 0, 28484500885457083028825606285997771449964, 0, 69228039636047400594910000076585259144036, 0, 139412932229627104851437039469489652733484, 0, 226499360815926047306848632748343007980292, 0, 285367869296164311256482403488918084062148, 0, 261692957649557701175574850913618172530412, 0, 155428957719273742012165618566670115499108, 0, 44885212133728216666997708464360582280172], [5662127543004854146257512882040, 0, 164487254410134541642130998485840, 0, 2415550345631093368782029758483440, 0, 27436073376362738962306281850020240, 0, 260799140500146511912371970251651240, 0, 2138185502684066964526059092734698912, 0, 15326273500814975993028543982708671840, 0, 96632293481143957773053887965266706720, 0, 536941279703717249452559324546901256320, 0, 2626948846880270656213925440525281683040, 0, 11280205450646185772307040858928448369696, 0, 42288021904142742994555103443404316838880, 0, 137355711132171142370735959461516120521340, 0, 382557549376075313911991669222560745093640, 0, 900921368226148511395447040311927503317880, 0, 1760041615341824200672656066912729188048616, 0, 2776860838271350831631817363720691171845360, 0, 3400739519907365124996881289291717097214040, 0, 3034051491864408454943488978616470013333640, 0, 1754603747045739378800819512697731852770360, 0, 493737333471010383336974793107966405081892]]
def tab13 : List (List Int) := [[1], [0, 14], [14, 0, 182], [0, 378, 0, 2366], [378, 0, 7280, 0, 30758], [0, 12572, 0, 125398, 0, 399854], [12572, 0, 288834, 0, 2030028, 0, 5198102], [0, 464842, 0, 5784870, 0, 31588466, 0, 67575326], [464842, 0, 11827816, 0, 106791776, 0, 478225384, 0, 878479238], [0, 18335604, 0, 260553384, 0, 1866518472, 0, 7095409230, 0, 11420230094], [18335604, 0, 498916236, 0, 5253712464, 0, 31360149366, 0, 103660550084, 0, 148462991222], [0, 755614692, 0, 11739623532, 0, 99658411398, 0, 511342491842, 0, 1496050142314, 0, 1930018885886], [755614692, 0, 21562614528, 0, 252273517314, 0, 1806901840016, 0, 8143502536260, 0, 21378670735968, 0, 25090245516518], [0, 32141220216, 0, 532587506178, 0, 5086457565098, 0, 31633226456468, 0, 127244203707348, 0, 303012965084102, 0, 326173191714734], [32141220216, 0, 950423368986, 0, 12010095145412, 0, 97757174802742, 0, 538476147641432, 0, 1957187613279626, 0, 4265341737808060, 0, 4240251492291542], [0, 1400400452010, 0, 24365598942230, 0, 253888411693098, 0, 1809319420077078, 0, 8957377532618242, 0, 29708780710443198, 0, 59689694083796322, 0, 55123269399790046], [1400400452010, 0, 42570804818360, 0, 570641197942088, 0, 5109868772087352, 0, 32478529993620256, 0, 146154688634480344, 0, 445903843319557896, 0, 831089292489142232, 0, 716602502197270598], [0, 62176411146500, 0, 1124061660580768, 0, 12528204345334496, 0, 98906824030755832, 0, 568375578551543672, 0, 2345914795567802368, 0, 6627839255643394880, 0, 11520763304556119614, 0, 9315832528564517774], [62176411146500, 0, 1932355005485268, 0, 27141005932884480, 0, 261773480520104280, 0, 1854164290951369488, 0, 9734797316737870104, 0, 37124731598024825664, 0, 97682673627920253054, 0, 159085755487794072756, 0, 121105822871338731062], [0, 2802824761536268, 0, 52261621004192964, 0, 614606557647602520, 0, 5257219537712725128, 0, 33838933099105673448, 0, 163677096715617137016, 0, 580304184402242986686, 0, 1428960512650757362458, 0, 2189220644212661676890, 0, 1574375697327403503806], [2802824761536268, 0, 88698342904164448, 0, 1294007630702111052, 0, 13247104787131557888, 0, 102182787089371100112, 0, 603583227003990891840, 0, 2708106441705265767894, 0, 8972914909879916189376, 0, 20765707308672507388844, 0, 30034244072092005303376, 0, 20466884065256245549478], [0, 127937889565672200, 0, 2447086088456248876, 0, 30069203986259001564, 0, 274395149322081352656, 0, 1931959459165815193296, 0, 10554688392757147361814, 0, 44178298652048371171998, 0, 137413601137111417850732, 0, 299988439084834601358348, 0, 410912057002452314493366, 0, 266069492848331192143214], [127937889565672200, 0, 4110278652809987476, 0, 61881323136190236952, 0, 665294801143448372988, 0, 5499096400352872777824, 0, 35670161361912744874662, 0, 181389247757891286875580, 0, 711731483613740243086706, 0, 2086365253867283033417864, 0, 4310761765105302132151890, 0, 5607926233880211280556972, 0, 3458903407028305497861782], [0, 5901409106729398276, 0, 115314945622720074140, 0, 1469752001913921453364, 0, 14147928815217701626668, 0, 107158414566500090986374, 0, 645101345462756970246186, 0, 3069791704466326972469246, 0, 11338874540845906193545042, 0, 31433510065379981566584122, 0, 61647829180249138998531542, 0, 76361944447471052145102418, 0, 44965744291367971472203166], [5901409106729398276, 0, 192033264010202251728, 0, 2968846295009282417184, 0, 33254704840098680520400, 0, 291081489164330212133058, 0, 2038160734827258153069048, 0, 11456109195482167585669664, 0, 51246166698908156835645240, 0, 178838879096376762082669668, 0, 470283460030188899364125128, 0, 877783723790709859126012464, 0, 1037671022108491649358534600, 0, 584554675787783629138641158], [0, 274652991504413827592, 0, 5465278727141911689648, 0, 71849706675219351943792, 0, 723392652085613058898258, 0, 5822220093963550910798802, 0, 37952198748236523575567288, 0, 200175586240176335449350872, 0, 845039046182182800946057788, 0, 2795188888283086806438830812, 0, 6991468704183165550859639128, 0, 12448859431387719817996696632, 0, 14074277963198175070799590958, 0, 7599210785241187178802335054], [274652991504413827592, 0, 9035767616699291448344, 0, 142898330128064203909216, 0, 1657438838863464634167554, 0, 15226324571076520676476156, 0, 113641059969762685415951714, 0, 693554169967251141931725616, 0, 3447321667304475161787619124, 0, 13780696488651463218737582056, 0, 43328924251863294034564439684, 0, 103337952585768871979172005296, 0, 175909450571238532704756647174, 0, 190564824306817463099197017508, 0, 98789740208135433324430355702], [0, 12880909497761085034632, 0, 260363309145154992737688, 0, 3515117130528299284987362, 0, 36773029476301560920654358, 0, 311583279393757454210141742, 0, 2170887949574166052339097898, 0, 12463525876878740006900052132, 0, 58595878163609640321976630668, 0, 222477978604332315878153006412, 0, 666613967859991694428509721188, 0, 1519302834186233868433992716022, 0, 2477387681732918388261033430770, 0, 2576132456196762453613991583306, 0, 1284266622705760633217594624126], [12880909497761085034632, 0, 427815132616049098187904, 0, 6899840149415314190577306, 0, 82469552173169451625490064, 0, 789632662585677746178648396, 0, 6221470581693012957070940544, 0, 40685069221342898687308324806, 0, 220621714563033260411677308384, 0, 984224394731257640063849205096, 0, 3558827689716311800844498804544, 0, 10185284416366125896004619091466, 0, 22228324526153958677902938739056, 0, 34782172318724701501007426183316, 0, 34773988553263672530199485207104, 0, 16695466095174888231828730113638], [0, 608147865584704288672752, 0, 12461436873423952467020058, 0, 172167474115568536102995042, 0, 1861736840836880617310019228, 0, 16486695195306823657393369692, 0, 121564186783352067129230551878, 0, 749527614440490943346685530862, 0, 3852306684050690025415654214088, 0, 16353744821222661121674538470792, 0, 56450044382678179306983103550538, 0, 154637021938913595325962986928114, 0, 323750391158726164313745629791044, 0, 486942228696684792043296025590212, 0, 468757317287602631124422037805990, 0, 217041059237273547013773491477294], [608147865584704288672752, 0, 20367359126025108219765834, 0, 334166153470079918174255796, 0, 4099914004339271586648954774, 0, 40689274126186271682423619656, 0, 335891224322340774675344357874, 0, 2329862042624067816026682705276, 0, 13596165671777072288922566115294, 0, 66433731713881631452078043253936, 0, 269048727058572773888752103670834, 0, 888487598913729926316743333085108, 0, 2334031676364602903551264459856526, 0, 4695697313760124928121989212873784, 0, 6799006290344504927687270370478746, 0, 6310886183976107751631259982955164, 0, 2821533770084556111179055389204822], [0, 28881429244210968261184362, 0, 598941822108406325031211638, 0, 8444073999450310522914280122, 0, 93988156182596802308860031718, 0, 864851787962762306546851413402, 0, 6696447958814497886806159357638, 0, 43884372225889953897269441283882, 0, 243183885446983571208071402752758, 0, 1132687239339033982765766665972002, 0, 4386121050675175986870520680805950, 0, 13884370462243091945668927789962930, 0, 35038109106499962674288427191008622, 0, 67843071369226128993273130137837938, 0, 94697967958454671811565774799178862, 0, 84863054161773956882385435167621954, 0, 36679939011099229445327720059662686], [28881429244210968261184362, 0, 974400402283148912426608344, 0, 16230317686859592748320031416, 0, 203761118175450839106745673304, 0, 2086697818336520736562031825736, 0, 17939521202330407871915227731864, 0, 130938195690478426425749512933176, 0, 813680724383552971872574139443224, 0, 4294077750149820408470694901757856, 0, 19111055162082617762825487338441976, 0, 70903944121020379774985696640440280, 0, 215534925115660157967984488460526712, 0, 523338489753725643759022683620950024, 0, 976657895758394348724116466591072056, 0, 1315936637621684690432740507556947160, 0, 1139899643114160668916338377238748088, 0, 476839207144289982789260360775614918], [0, 1378740411702102468083189412, 0, 28897522916540528609865939888, 0, 414755248104625544834906081712, 0, 4735592354617381644949725578688, 0, 45066592840705177447221641466432, 0, 364151971320773728760647473447408, 0, 2515877268359772515407317807574512, 0, 14871927167136009042814158714519768, 0, 74934065914030283072944521061294104, 0, 319347661228094410691717032040185968, 0, 1137286198688925095042798544786250352, 0, 3325292516257307697342821033607797280, 0, 7780058262556827717591411353663422368, 0, 14012489282480811223846254573240883888, 0, 18247075932196061644541964975479061168, 0, 15295534567628378678701659264879340062, 0, 6198909692875769776260384690082993934], [1378740411702102468083189412, 0, 46821148268667860694947402244, 0, 790423046019652416763163300256, 0, 10127410579977513727803504640944, 0, 106629293450731138831568073989376, 0, 950017678249941035574528812511024, 0, 7249852895529830989295734962390816, 0, 47578331655813051743109290212988424, 0, 268269119086798400629528584350051088, 0, 1293490518110488090639995805837009320, 0, 5288805794654152434035119961308667936, 0, 18110013099213333932899202115829051856, 0, 51008860973901827783048084790564787008, 0, 115153246695719571552534602170865374672, 0, 200409436604446607554543274427610551712, 0, 252507521686177180057747203946107135246, 0, 205040859072044692599381955133514414740, 0, 80585826007385007091385000971078921142], [0, 66123514032497295248112054012, 0, 1399097973512334605797479529428, 0, 20402910178232995145724627544272, 0, 238285630990438817293013634321648, 0, 2336198493109445840384913774372912, 0, 19600082712779064451764609525034128, 0, 141826419297700854603953844724069032, 0, 886787430612368073289949357118900600, 0, 4780989066238867298823867402387673464, 0, 22104182530090497612355065437189789096, 0, 86864488429717315575355761612841735024, 0, 286439031263675168910737712296342461136, 0, 778268439356443332732159704448207605776, 0, 1697401643648801037737493102648860422448, 0, 2857830197543983078266809771505044307502, 0, 3487638640992348033350095606432907172938, 0, 2746116993943966010883350417706766312762, 0, 1047615738096005092188005012624025974846], [66123514032497295248112054012, 0, 2258703655934799444022936231584, 0, 38591183833893345021091861426836, 0, 503523463307467754187433792397184, 0, 5433911695985150465194091020554336, 0, 49970663123201860376768488591881984, 0, 396627494563828692476893768549512696, 0, 2730530881482479183141349338531798016, 0, 16309225664199652251593209044933381264, 0, 84257040391195772497065341668229544128, 0, 374218861320893784535971612296308993272, 0, 1415677380850000271390362613263285016448, 0, 4501975845784220528571749964300659600544, 0, 11814891355282564363255569260475559297536, 0, 24924051564978396568854220105940229799326, 0, 40639431209064128050818622635998483170464, 0, 48085419326844490444434593301334559560956, 0, 36747136659367563233671560442811988040752, 0, 13619004595248066198444065164112337672998], [0, 3184432852389761577496504987752, 0, 67954331361045737793390032437428, 0, 1005208853148081239461627990946052, 0, 11979716718982231269630730321717728, 0, 120611515171008816424291671859088352, 0, 1046246115165452877374884120243978488, 0, 7886688310812252185340968329675463064, 0, 51806127123471881632430750445846755472, 0, 296276974025791251767777059252363500560, 0, 1469560386406438826997821053983293066936, 0, 6280522578021619470357993573115301928984, 0, 22905781796834224056646463936723364814368, 0, 70340577350477431234688318796384134104608, 0, 178517639183651733291176620492122500667294, 0, 364652101553783283445923484013221470561702, 0, 576398025044678155105076687569314840776988, 0, 661857587908345939011321273360161262333180, 0, 491331781167026388236174350920668182202774, 0, 177047059738224860579772847133460389748974], [3184432852389761577496504987752, 0, 109351958442112638300844597278204, 0, 1888615160841675830775698412632616, 0, 25047431809907287382631894204016404, 0, 276347832517777822929491166041418816, 0, 2614195812388567490890675854412127064, 0, 21487887807963139591214461892847183408, 0, 154333075164031160041863338731627775304, 0, 969756626630925712989376815048371321696, 0, 5321161048741725099978922824264018574216, 0, 25384807601305324221329667274898111799152, 0, 104552575311115277171300380387222289891160, 0, 368115740709322343971092349973787876691392, 0, 1092945144739858339342124764845116244027198, 0, 2685381410941255816231219550410813979236524, 0, 5316875345243860839902081979741193958079114, 0, 8155031913489161955377318211761254192434024, 0, 9095480423975523595383350904602764592534114, 0, 6564360214909567907650039409102146758385036, 0, 2301611776596923187537047012734985066736662], [0, 153934018375569300385795667106732, 0, 3310190620589140128686678177249268, 0, 49599428900849073182715973568240412, 0, 601964446046572558903705790693632068, 0, 6206717635119679188974061012950571672, 0, 55472433369014516972793248000204835240, 0, 433675616667551974727651343338641159608, 0, 2976086603763330793533600218559532400648, 0, 17927997194943759368840821419892845756264, 0, 94559901234947750521055663990330353263960, 0, 434555074128084492048586054960897743280136, 0, 1727299219753820947197997295007677645276472, 0, 5878449773961048810966325314504358641015294, 0, 16893668292559414227678841493397325151590098, 0, 40226833687480186450907936135081775688153926, 0, 77274411401659352874104383948396775647462506, 0, 115110895299334629015288487657499069094176426, 0, 124805605726591374647633601168938086461328518, 0, 87638294570421305986987559331062892925742130, 0, 29920953095760001437981611165554805867576606], [153934018375569300385795667106732, 0, 5311332859471541033702021849636784, 0, 92631906968507894855642789872480896, 0, 1246757021757610510279013447080757424, 0, 14032255433725122454722236291967788556, 0, 136159762625570346429456041168562266976, 0, 1154817250464740695373963567341304017728, 0, 8613869620441506464993067681961867475552, 0, 56617123043867059684777624261166766964688, 0, 327623864769216622315986342448937348095392, 0, 1663833790182405248822309686835192335711616, 0, 7376515183418919343829616009499348307918240, 0, 28333339630760721124540290149604168029609430, 0, 93313515354053048770241070581953987484788920, 0, 259844521490752571410732875549247002658825200, 0, 600223249338901776735907553704459859593463544, 0, 1119678243520906216378645478986657152511189004, 0, 1621247244617941551846383940716425984685622056, 0, 1710111169016109176406224374527258016923012864, 0, 1169218782511236979268819882469372413902224296, 0, 388972390244880018693760945152212476278495878]]
def tab (p : Int) : List (List Int) := if p = 3 then tab3 else if p = 5 then tab5 else if p = 7 then tab7 else if p = 11 then tab11 else tab13
def eqL : List Int → List Int → Bool
  | [], [] => true
  | x :: r, y :: w => decide (x = y) && eqL r w
  | _, _ => false
theorem eqL_eq : ∀ {a b : List Int}, eqL a b = true → a = b
  | [], [], _ => rfl
  | [], _ :: _, h => by simp [eqL] at h
  | _ :: _, [], h => by simp [eqL] at h
  | x :: r, y :: w, h => by
    have h' := Bool.and_eq_true_iff.mp h
    rw [of_decide_eq_true h'.1, eqL_eq h'.2]
def linked (p : Int) : List (List Int) → Bool
  | a :: b :: r => eqL (nxt p a) b && linked p (b :: r)
  | _ => true
theorem linked_all : ps.all (fun p => eqL ((tab p).headD []) [1] && decide ((tab p).length = 41) && linked p (tab p)) = true := by decide +kernel
theorem linked_at {p : Int} : ∀ {t : List (List Int)} (k : Nat) {a b : List Int}, linked p t = true → t[k]? = some a → t[k + 1]? = some b → b = nxt p a
  | a :: b :: r, 0, _, _, h, h1, h2 => by
    have h' := Bool.and_eq_true_iff.mp h
    simp at h1 h2
    rw [← h1, ← h2, eqL_eq h'.1]
  | a :: b :: r, k + 1, _, _, h, h1, h2 => by
    have h' := Bool.and_eq_true_iff.mp h
    exact linked_at k h'.2 (by simpa using h1) (by simpa using h2)
  | [a], 0, _, _, _, _, h2 => by simp at h2
  | [a], k + 1, _, _, _, h1, _ => by simp at h1
  | [], _, _, _, _, h1, _ => by simp at h1
theorem row_tab {p : Int} (hp : p ∈ ps) : ∀ k, k ≤ 40 → (tab p)[k]? = some (rowk p k) := by
  have h := List.all_eq_true.mp linked_all p hp
  have h' := Bool.and_eq_true_iff.mp h
  have h2 := Bool.and_eq_true_iff.mp h'.1
  have hl : (tab p).length = 41 := of_decide_eq_true h2.2
  intro k
  induction k with
  | zero =>
    intro _
    have e := eqL_eq h2.1
    cases q : tab p with
    | nil => rw [q] at hl; cases hl
    | cons a r =>
      rw [q] at e
      exact congrArg some e
  | succ k ih =>
    intro hk
    have e1 := ih (by omega)
    have e2 := List.getElem?_eq_getElem (show k + 1 < (tab p).length by omega)
    rw [e2]
    exact congrArg some (linked_at k h'.2 e1 e2)
/-- a check of all rows -/
theorem row_chk {p : Int} (hp : p ∈ ps) {c : Int → Nat → List Int → Bool} (h : ps.all (fun p => (tab p).zipIdx.all fun x => c p x.2 x.1) = true) {k : Nat} (hk : k ≤ 40) : c p k (rowk p k) = true := by
  have h1 := List.all_eq_true.mp h p hp
  have h2 := row_tab hp k hk
  have h3 : (rowk p k, k) ∈ (tab p).zipIdx := by
    refine List.mem_of_getElem? (i := k) ?_
    rw [List.getElem?_zipIdx, h2]
    simp
  exact List.all_eq_true.mp h1 _ h3
def smC (_ : Int) (_ : Nat) (l : List Int) : Bool := l.all fun i => Nat.blt i.natAbs.log2 1000
theorem sm_all : ps.all (fun p => (tab p).zipIdx.all fun x => smC p x.2 x.1) = true := by decide +kernel
theorem row_sm {p : Int} (hp : p ∈ ps) {k : Nat} (hk : k ≤ 40) : ∀ x ∈ rowk p k, Sm x := fun x hx =>
  Nat.le_of_ble_eq_true (List.all_eq_true.mp (row_chk hp (c := smC) sm_all hk) x hx)
end K18
namespace K18
open PySem PySem.Spec PyProof.Rows L2 Fe
theorem F_told {p : Int} (hp : p ∈ ps) {k : Nat} (hk : k ≤ 40) : F_told_lengths [.int p, .int (k : Nat)] = some (.tuple ((rowk p k).map .int)) := by
  have hb : inB (k : Int) = true := inB_of (by omega) (by omega)
  have ml : Nat.ble 1 16777216 = true := rfl
  obtain ⟨ρ', h1, h2⟩ := lp_rng (g := gNm 3) (b := b_told_lengths_0)
    (fun i ρ => ∃ x, ρ = [.v (.int p), .v (.int k), .v (.list ((rowk p i).map .int)), x]) (lo := 0) (n := k) (ρ := [.v (.int p), .v (.int k), .v (.list [.int 1]), .un]) ⟨_, rfl⟩ fun i ρ hi ⟨x, e⟩ => by
      subst e
      have z := F_next hp (row := rowk p i) (by rw [rowk_len]; omega) (row_sm hp (by omega))
      refine ⟨_, ?_, .v (.int (0 + (i : Nat))), rfl⟩
      simp only [lp1, b_told_lengths_0, fC, fVar, rdS, Rf.get, fRd, bnd, Fe.ret, fOp, fUn, fTst, fNot, fAnd, fOr, fIf, fBool, fNil, fCons, fTup, fLst, fAsL, fVal, fAndV, fOrV, fNotV, oI, oIc, oNeg, oIsN, oNotN, oIx, fIx, fR1, fR1L, oLen, oList, oTuple, oInt, oAbs, fRep, fCat, sNil, sThen, sSeq, sSet, sOwn, sRet, sRetN, sDrop, sIf, sTg, gNm, gNil', gCons', gTp, sFor, frzS, fSeq, fRng1, fRng2, fEnum, fZip, fComp, fYes, sApp, sExt, sIx, fPop, fPopAt, sPar, fCall, fCallS, oEq_int, oNe_int, List.getElem?_cons_zero, List.getElem?_cons_succ, List.set_cons_zero, List.set_cons_succ, oAdd, oSub, oMul, oDiv, oMod, oLt, oLe, oGt, oGe, oMin, oMax, oPow, decide_eq_true_eq, if_true, if_false, Bool.false_eq_true, Bool.not_true, Bool.not_false, decide_true, decide_false, List.length_cons, List.length_nil, List.length_map, Bool.and_self, z, rowk]
  obtain ⟨x, rfl⟩ := h2
  refine runF_rt (ρ := [.v (.int p), .v (.int k), .v (.list ((rowk p k).map .int)), x]) ?_
  show b_told_lengths [.v (.int p), .v (.int (k : Nat)), .un, .un] = _
  unfold b_told_lengths
  simp only [fC, fVar, rdS, Rf.get, fRd, bnd, Fe.ret, fOp, fUn, fTst, fNot, fAnd, fOr, fIf, fBool, fNil, fCons, fTup, fLst, fAsL, fVal, fAndV, fOrV, fNotV, oI, oIc, oNeg, oIsN, oNotN, oIx, fIx, fR1, fR1L, oLen, oList, oTuple, oInt, oAbs, fRep, fCat, sNil, sThen, sSeq, sSet, sOwn, sRet, sRetN, sDrop, sIf, sTg, gNm, gNil', gCons', gTp, sFor, frzS, fSeq, fRng1, fRng2, fEnum, fZip, fComp, fYes, sApp, sExt, sIx, fPop, fPopAt, sPar, fCall, fCallS, oEq_int, oNe_int, List.getElem?_cons_zero, List.getElem?_cons_succ, List.set_cons_zero, List.set_cons_succ, oAdd, oSub, oMul, oDiv, oMod, oLt, oLe, oGt, oGe, oMin, oMax, oPow, decide_eq_true_eq, if_true, if_false, Bool.false_eq_true, Bool.not_true, Bool.not_false, decide_true, decide_false, List.length_cons, List.length_nil, List.length_map, Bool.and_self, ml, hb, Int.toNat_natCast, h1]
theorem F_lawlen {p : Int} (hp : p ∈ ps) {k : Nat} (hk : k ≤ 40) : F_law_lengths [.int p, .int (k : Nat)] = some (.list ((rowk p k).map .int)) := by
  obtain ⟨p1, p2, p3, p4⟩ := ps_ok p hp
  have hb : inB (k : Int) = true := inB_of (by omega) (by omega)
  have ml : Nat.ble 1 16777216 = true := rfl
  obtain ⟨ρ', h1, h2⟩ := lp_rng (g := gNm 3) (b := b_law_lengths_1)
    (fun i ρ => ∃ x y z t, ρ = [.v (.int p), .v (.int k), .v (.list ((rowk p i).map .int)), x, y, z, t]) (lo := 0) (n := k) (ρ := [.v (.int p), .v (.int k), .v (.list [.int 1]), .un, .un, .un, .un]) ⟨_, _, _, _, rfl⟩ fun i ρ hi ⟨x, y, z, t, e⟩ => by
      subst e
      have hs := row_sm hp (k := i) (by omega)
      have hlen := rowk_len (p := p) i
      have en1 : rowk p (i + 1) = nxt p (rowk p i) := rfl
      rw [en1]
      generalize rowk p i = row at hs hlen
      obtain ⟨ρ2, g1, g2⟩ := lp_list (g := gTp 2 (gCons' (gNm 5) (gCons' (gNm 6) gNil'))) (b := b_law_lengths_0)
        (fun j ρ => ∃ u v, ρ = [.v (.int p), .v (.int k), .v (.list (row.map .int)), .v (.int (0 + (i : Nat))), .own ((nx p row j).map .int), u, v]) (ds := enumD 0 (row.map .int)) (ρ := [.v (.int p), .v (.int k), .v (.list (row.map .int)), .v (.int (0 + (i : Nat))), .own ((nx p row 0).map .int), z, t]) ⟨_, _, rfl⟩ fun j d ρ hd ⟨u, v, e⟩ => by
          subst e
          obtain ⟨hi, rfl⟩ := enum_map hd
          have hln := nx_len (p := p) (row := row) j
          have hb := lbody_ok p1 p2 (iat_sm hs j) (R := .v (.int k)) (Q := .v (.list (row.map .int))) (S := .v (.int (0 + (i : Nat)))) (f := nx p row j) (j := j) (by omega)
          refine ⟨_, ?_, .v (.int (j : Nat)), .v (.int (iat row j)), rfl⟩
          have hg : gTp 2 (gCons' (gNm 5) (gCons' (gNm 6) gNil')) (.tuple [.int (j : Nat), .int (iat row j)]) [.v (.int p), .v (.int k), .v (.list (row.map .int)), .v (.int (0 + (i : Nat))), .own ((nx p row j).map .int), u, v] = some [.v (.int p), .v (.int k), .v (.list (row.map .int)), .v (.int (0 + (i : Nat))), .own ((nx p row j).map .int), .v (.int (j : Nat)), .v (.int (iat row j))] := rfl
          unfold lp1
          rw [hg]
          dsimp only
          rw [hb]
          dsimp only
          congr 4
          have en : nx p row (j + 1) = nstep p row (nx p row j) j := rfl
          rw [en]
          by_cases h0 : 0 < j
          · simp only [nstep, h0, if_true]
          · simp only [nstep, h0, if_false]
      obtain ⟨u, v, rfl⟩ := g2
      have hl2 : (enumD 0 (row.map PyData.int)).length = row.length := by rw [enumD_len, List.length_map]
      rw [hl2] at g1
      have e5 : Nat.ble ((row.length : Int) + 1).toNat 16777216 = true := Nat.ble_eq_true_of_le (by omega)
      have e6 : Nat.ble ((row.length : Int) + 1).natAbs 16777216 = true := Nat.ble_eq_true_of_le (by omega)
      have e7 : Nat.ble (1 * ((row.length : Int) + 1).toNat) 16777216 = true := by rw [Nat.one_mul]; exact e5
      refine ⟨_, ?_, .v (.int (0 + (i : Nat))), .v (.list ((nx p row row.length).map .int)), u, v, rfl⟩
      simp only [lp1, b_law_lengths_1, fC, fVar, rdS, Rf.get, fRd, bnd, Fe.ret, fOp, fUn, fTst, fNot, fAnd, fOr, fIf, fBool, fNil, fCons, fTup, fLst, fAsL, fVal, fAndV, fOrV, fNotV, oI, oIc, oNeg, oIsN, oNotN, oIx, fIx, fR1, fR1L, oLen, oList, oTuple, oInt, oAbs, fRep, fCat, sNil, sThen, sSeq, sSet, sOwn, sRet, sRetN, sDrop, sIf, sTg, gNm, gNil', gCons', gTp, sFor, frzS, fSeq, fRng1, fRng2, fEnum, fZip, fComp, fYes, sApp, sExt, sIx, fPop, fPopAt, sPar, fCall, fCallS, oEq_int, oNe_int, List.getElem?_cons_zero, List.getElem?_cons_succ, List.set_cons_zero, List.set_cons_succ, oAdd, oSub, oMul, oDiv, oMod, oLt, oLe, oGt, oGe, oMin, oMax, oPow, decide_eq_true_eq, if_true, if_false, Bool.false_eq_true, Bool.not_true, Bool.not_false, decide_true, decide_false, List.length_cons, List.length_nil, List.length_map, Bool.and_self, ml, e5, e6, e7, rep0 (p := p), g1, nxt]
  obtain ⟨x, y, z, t, rfl⟩ := h2
  refine runF_rt (ρ := [.v (.int p), .v (.int k), .v (.list ((rowk p k).map .int)), x, y, z, t]) ?_
  show b_law_lengths [.v (.int p), .v (.int (k : Nat)), .un, .un, .un, .un, .un] = _
  unfold b_law_lengths
  simp only [fC, fVar, rdS, Rf.get, fRd, bnd, Fe.ret, fOp, fUn, fTst, fNot, fAnd, fOr, fIf, fBool, fNil, fCons, fTup, fLst, fAsL, fVal, fAndV, fOrV, fNotV, oI, oIc, oNeg, oIsN, oNotN, oIx, fIx, fR1, fR1L, oLen, oList, oTuple, oInt, oAbs, fRep, fCat, sNil, sThen, sSeq, sSet, sOwn, sRet, sRetN, sDrop, sIf, sTg, gNm, gNil', gCons', gTp, sFor, frzS, fSeq, fRng1, fRng2, fEnum, fZip, fComp, fYes, sApp, sExt, sIx, fPop, fPopAt, sPar, fCall, fCallS, oEq_int, oNe_int, List.getElem?_cons_zero, List.getElem?_cons_succ, List.set_cons_zero, List.set_cons_succ, oAdd, oSub, oMul, oDiv, oMod, oLt, oLe, oGt, oGe, oMin, oMax, oPow, decide_eq_true_eq, if_true, if_false, Bool.false_eq_true, Bool.not_true, Bool.not_false, decide_true, decide_false, List.length_cons, List.length_nil, List.length_map, Bool.and_self, ml, hb, Int.toNat_natCast, h1]
/-! ## words, home, balls -/
def wds (p : Int) (k j : Nat) : Int := if j ≤ k then iat (rowk p k) j / onw p j else 0
theorem F_words {p : Int} (hp : p ∈ ps) {k j : Nat} (hk : k ≤ 40) (hj : j < 43) : F_words_for [.int p, .int (k : Nat), .int (j : Nat)] = some (.int (wds p k j)) := by
  have h1 := F_told hp hk
  have h2 := F_onw hp hj
  obtain ⟨o1, o2⟩ := onw_ok hp hj
  have hd : divOk (onw p j) = true := divOk_of o1 (by omega)
  refine runF_rt (ρ := [.v (.int p), .v (.int (k : Nat)), .v (.int (j : Nat))]) ?_
  show b_words_for [.v (.int p), .v (.int (k : Nat)), .v (.int (j : Nat))] = _
  unfold b_words_for
  by_cases h : j ≤ k
  · have h' : (j : Int) ≤ (k : Int) := by omega
    have h3 := ixD_map (l := rowk p k) (n := j) (z := (j : Int)) rfl (by rw [rowk_len]; omega)
    simp only [fC, fVar, rdS, Rf.get, fRd, bnd, Fe.ret, fOp, fUn, fTst, fNot, fAnd, fOr, fIf, fBool, fNil, fCons, fTup, fLst, fAsL, fVal, fAndV, fOrV, fNotV, oI, oIc, oNeg, oIsN, oNotN, oIx, fIx, fR1, fR1L, oLen, oList, oTuple, oInt, oAbs, fRep, fCat, sNil, sThen, sSeq, sSet, sOwn, sRet, sRetN, sDrop, sIf, sTg, gNm, gNil', gCons', gTp, sFor, frzS, fSeq, fRng1, fRng2, fEnum, fZip, fComp, fYes, sApp, sExt, sIx, fPop, fPopAt, sPar, fCall, fCallS, oEq_int, oNe_int, List.getElem?_cons_zero, List.getElem?_cons_succ, List.set_cons_zero, List.set_cons_succ, oAdd, oSub, oMul, oDiv, oMod, oLt, oLe, oGt, oGe, oMin, oMax, oPow, decide_eq_true_eq, if_true, if_false, Bool.false_eq_true, Bool.not_true, Bool.not_false, decide_true, decide_false, List.length_cons, List.length_nil, List.length_map, Bool.and_self, h', h1, h2, h3, hd, wds, h]
  · have h' : ¬ (j : Int) ≤ (k : Int) := by omega
    simp only [fC, fVar, rdS, Rf.get, fRd, bnd, Fe.ret, fOp, fUn, fTst, fNot, fAnd, fOr, fIf, fBool, fNil, fCons, fTup, fLst, fAsL, fVal, fAndV, fOrV, fNotV, oI, oIc, oNeg, oIsN, oNotN, oIx, fIx, fR1, fR1L, oLen, oList, oTuple, oInt, oAbs, fRep, fCat, sNil, sThen, sSeq, sSet, sOwn, sRet, sRetN, sDrop, sIf, sTg, gNm, gNil', gCons', gTp, sFor, frzS, fSeq, fRng1, fRng2, fEnum, fZip, fComp, fYes, sApp, sExt, sIx, fPop, fPopAt, sPar, fCall, fCallS, oEq_int, oNe_int, List.getElem?_cons_zero, List.getElem?_cons_succ, List.set_cons_zero, List.set_cons_succ, oAdd, oSub, oMul, oDiv, oMod, oLt, oLe, oGt, oGe, oMin, oMax, oPow, decide_eq_true_eq, if_true, if_false, Bool.false_eq_true, Bool.not_true, Bool.not_false, decide_true, decide_false, List.length_cons, List.length_nil, List.length_map, Bool.and_self, h', wds, h]
theorem F_home {p : Int} (hp : p ∈ ps) {k : Nat} (hk : k ≤ 40) : F_back_home [.int p, .int (k : Nat)] = some (.int (iat (rowk p k) 0)) := by
  have h1 := F_told hp hk
  have h3 := ixD_map (l := rowk p k) (n := 0) (z := 0) rfl (by rw [rowk_len]; omega)
  refine runF_rt (ρ := [.v (.int p), .v (.int (k : Nat))]) ?_
  show b_back_home [.v (.int p), .v (.int (k : Nat))] = _
  unfold b_back_home
  simp only [fC, fVar, rdS, Rf.get, fRd, bnd, Fe.ret, fOp, fUn, fTst, fNot, fAnd, fOr, fIf, fBool, fNil, fCons, fTup, fLst, fAsL, fVal, fAndV, fOrV, fNotV, oI, oIc, oNeg, oIsN, oNotN, oIx, fIx, fR1, fR1L, oLen, oList, oTuple, oInt, oAbs, fRep, fCat, sNil, sThen, sSeq, sSet, sOwn, sRet, sRetN, sDrop, sIf, sTg, gNm, gNil', gCons', gTp, sFor, frzS, fSeq, fRng1, fRng2, fEnum, fZip, fComp, fYes, sApp, sExt, sIx, fPop, fPopAt, sPar, fCall, fCallS, oEq_int, oNe_int, List.getElem?_cons_zero, List.getElem?_cons_succ, List.set_cons_zero, List.set_cons_succ, oAdd, oSub, oMul, oDiv, oMod, oLt, oLe, oGt, oGe, oMin, oMax, oPow, decide_eq_true_eq, if_true, if_false, Bool.false_eq_true, Bool.not_true, Bool.not_false, decide_true, decide_false, List.length_cons, List.length_nil, List.length_map, Bool.and_self, h1, h3]
def balls (p : Int) (k : Nat) : List Int := (List.range (k + 1)).map (onw p)
theorem F_ball {p : Int} (hp : p ∈ ps) {k : Nat} (hk : k ≤ 40) : F_ball_size [.int p, .int (k : Nat)] = some (.int (balls p k).sum) := by
  have hb : inB ((k : Int) + 1) = true := inB_of (by omega) (by omega)
  have hn : ((k : Int) + 1).toNat = k + 1 := by omega
  have hl : Nat.ble (rngL 0 (k + 1)).length 16777216 = true := by rw [rngL_len]; exact Nat.ble_eq_true_of_le (by omega)
  have hc := cl_map (vs := [2]) (g := gNm 2) (e := e_ball_size_0) (ρ := [.v (.int p), .v (.int (k : Nat)), .un]) (rngL 0 (k + 1)) (mI (onw p)) (fun d hd => by
    obtain ⟨i, hi, rfl⟩ := mem_rng0 hd
    refine ⟨_, [.v (.int p), .v (.int (k : Nat)), .v (.int (i : Nat))], rfl, ?_, rfl⟩
    simp only [e_ball_size_0, wipeE, fC, fVar, rdS, Rf.get, fRd, bnd, Fe.ret, fOp, fUn, fTst, fNot, fAnd, fOr, fIf, fBool, fNil, fCons, fTup, fLst, fAsL, fVal, fAndV, fOrV, fNotV, oI, oIc, oNeg, oIsN, oNotN, oIx, fIx, fR1, fR1L, oLen, oList, oTuple, oInt, oAbs, fRep, fCat, sNil, sThen, sSeq, sSet, sOwn, sRet, sRetN, sDrop, sIf, sTg, gNm, gNil', gCons', gTp, sFor, frzS, fSeq, fRng1, fRng2, fEnum, fZip, fComp, fYes, sApp, sExt, sIx, fPop, fPopAt, sPar, fCall, fCallS, oEq_int, oNe_int, List.getElem?_cons_zero, List.getElem?_cons_succ, List.set_cons_zero, List.set_cons_succ, oAdd, oSub, oMul, oDiv, oMod, oLt, oLe, oGt, oGe, oMin, oMax, oPow, decide_eq_true_eq, if_true, if_false, Bool.false_eq_true, Bool.not_true, Bool.not_false, decide_true, decide_false, List.length_cons, List.length_nil, List.length_map, Bool.and_self, F_onw hp (show i < 43 by omega), mI_nat]) [.v (.int p), .v (.int (k : Nat)), .un] rfl
  rw [mI_rng] at hc
  refine runF_rt (ρ := [.v (.int p), .v (.int (k : Nat)), .un]) ?_
  show b_ball_size [.v (.int p), .v (.int (k : Nat)), .un] = _
  unfold b_ball_size
  simp only [fC, fVar, rdS, Rf.get, fRd, bnd, Fe.ret, fOp, fUn, fTst, fNot, fAnd, fOr, fIf, fBool, fNil, fCons, fTup, fLst, fAsL, fVal, fAndV, fOrV, fNotV, oI, oIc, oNeg, oIsN, oNotN, oIx, fIx, fR1, fR1L, oLen, oList, oTuple, oInt, oAbs, fRep, fCat, sNil, sThen, sSeq, sSet, sOwn, sRet, sRetN, sDrop, sIf, sTg, gNm, gNil', gCons', gTp, sFor, frzS, fSeq, fRng1, fRng2, fEnum, fZip, fComp, fYes, sApp, sExt, sIx, fPop, fPopAt, sPar, fCall, fCallS, oEq_int, oNe_int, List.getElem?_cons_zero, List.getElem?_cons_succ, List.set_cons_zero, List.set_cons_succ, oAdd, oSub, oMul, oDiv, oMod, oLt, oLe, oGt, oGe, oMin, oMax, oPow, decide_eq_true_eq, if_true, if_false, Bool.false_eq_true, Bool.not_true, Bool.not_false, decide_true, decide_false, List.length_cons, List.length_nil, List.length_map, Bool.and_self, hb, hn, hl, hc, wipeE, oSum, intsD_map, balls]
end K18
namespace K18
open PySem PySem.Spec PyProof.Rows L2 Fe
/-! ## the checks -/
def divs (p w : Int) (j : Nat) : List Int → Bool
  | [] => true
  | x :: r => decide (x / w * w = x) && divs p (w * (if 0 < j then p else p + 1)) (j + 1) r
def c1 (p : Int) (k : Nat) (l : List Int) : Bool := decide (l.sum = (p + 1) ^ k) && ((Nat.beq (k % 2) 0 || decide (iat l 0 = 0)) && (divs p 1 0 l && (Nat.blt ((p + 1) ^ k).natAbs.log2 1000 && repOk (.tuple (l.map .int)))))
theorem c1_all : ps.all (fun p => (tab p).zipIdx.all fun x => c1 p x.2 x.1) = true := by decide +kernel
theorem divs_at {p : Int} : ∀ (l : List Int) (j : Nat), divs p (onw p j) j l = true → ∀ i, i < l.length → iat l i / onw p (j + i) * onw p (j + i) = iat l i
  | [], _, _, i, hi => absurd hi (by simp)
  | x :: r, j, h, i, hi => by
    have h' := Bool.and_eq_true_iff.mp h
    cases i with
    | zero => exact of_decide_eq_true h'.1
    | succ i =>
      have z := divs_at r (j + 1) h'.2 i (by simpa using hi)
      rw [show j + (i + 1) = j + 1 + i by omega]
      exact z
theorem row1 {p : Int} (hp : p ∈ ps) {k : Nat} (hk : k ≤ 40) : (rowk p k).sum = (p + 1) ^ k ∧ (k % 2 = 0 ∨ iat (rowk p k) 0 = 0) ∧ (∀ j, j ≤ k → iat (rowk p k) j / onw p j * onw p j = iat (rowk p k) j) ∧ Sm ((p + 1) ^ k) ∧ repOk (.tuple ((rowk p k).map .int)) = true := by
  have h := row_chk hp c1_all hk
  unfold c1 at h
  simp only [Bool.and_eq_true, decide_eq_true_eq, Bool.or_eq_true] at h
  obtain ⟨h1, h2, h3, h4, h5⟩ := h
  refine ⟨h1, ?_, fun j hj => ?_, Nat.le_of_ble_eq_true h4, h5⟩
  · rcases h2 with h2 | h2
    · exact Or.inl (Nat.eq_of_beq_eq_true h2)
    · exact Or.inr h2
  · have := divs_at (p := p) (rowk p k) 0 h3 j (by rw [rowk_len]; omega)
    rwa [Nat.zero_add] at this
def dotW (p w : Int) (j : Nat) : List Int → List Int → Int
  | x :: r, y :: s => x * (y / w) + dotW p (w * (if 0 < j then p else p + 1)) (j + 1) r s
  | _, _ => 0
theorem dot_eq {p : Int} : ∀ (a b : List Int) (j : Nat), dotW p (onw p j) j a b = ((List.range (min a.length b.length)).map fun i => iat a i * (iat b i / onw p (j + i))).sum
  | [], b, j => by simp [dotW]
  | x :: r, [], j => by simp [dotW]
  | x :: r, y :: s, j => by
    have ih := dot_eq (p := p) r s (j + 1)
    show x * (y / onw p j) + dotW p (onw p (j + 1)) (j + 1) r s = _
    rw [ih, List.length_cons, List.length_cons, Nat.add_min_add_right, List.range_succ_eq_map, List.map_cons, List.sum_cons, List.map_map]
    congr 1
    refine congrArg List.sum (List.map_congr_left fun i _ => ?_)
    show _ = iat (x :: r) (i + 1) * (iat (y :: s) (i + 1) / onw p (j + (i + 1)))
    rw [show j + (i + 1) = j + 1 + i by omega]
    rfl
def homesOk (p : Int) : Bool := (tab p).zipIdx.all fun x => (tab p).zipIdx.all fun y => Nat.blt 40 (x.2 + y.2) || decide (dotW p 1 0 x.1 y.1 = iat ((tab p).getD (x.2 + y.2) []) 0)
theorem homes_all : ps.all homesOk = true := by decide +kernel
theorem mem_tab {p : Int} (hp : p ∈ ps) {k : Nat} (hk : k ≤ 40) : (rowk p k, k) ∈ (tab p).zipIdx := by
  refine List.mem_of_getElem? (i := k) ?_
  rw [List.getElem?_zipIdx, row_tab hp k hk]
  simp
theorem homes {p : Int} (hp : p ∈ ps) {k m : Nat} (h : k + m ≤ 40) : ((List.range (min k m + 1)).map fun j => iat (rowk p k) j * wds p m j).sum = iat (rowk p (k + m)) 0 := by
  have h1 := List.all_eq_true.mp (List.all_eq_true.mp (List.all_eq_true.mp homes_all p hp) _ (mem_tab hp (k := k) (by omega))) _ (mem_tab hp (k := m) (by omega))
  simp only [Bool.or_eq_true, decide_eq_true_eq] at h1
  rcases h1 with h1 | h1
  · exact absurd (Nat.le_of_ble_eq_true h1) (by omega)
  · rw [List.getD_eq_getElem?_getD, row_tab hp _ h] at h1
    have h2 := dot_eq (p := p) (rowk p k) (rowk p m) 0
    rw [show onw p 0 = 1 from rfl, h1, rowk_len, rowk_len, Nat.add_min_add_right] at h2
    show _ = iat (Option.getD (some (rowk p (k + m))) []) 0
    rw [h2]
    refine congrArg List.sum (List.map_congr_left fun j hj => ?_)
    have hj' := List.mem_range.mp hj
    unfold wds
    rw [if_pos (by omega), Nat.zero_add]
end K18
namespace K18
open PySem PySem.Spec PyProof.Rows L2 Fe
theorem repOk_int {i : Int} (h : i.natAbs.log2 < 1900) : repOk (.int i) = true := by
  have h1 : plainD (.int i) = true := Nat.ble_eq_true_of_le (by omega)
  have h2 : Nat.ble (shB (.int i)) 16777216 = true := Nat.ble_eq_true_of_le (by show i.natAbs.log2 + 3 ≤ _; omega)
  unfold repOk
  rw [h1, h2]
  rfl
theorem repI {i : Int} (h : Sm i) : (sm (.int i) (.int i) && repOk (.int i)) = true := by
  rw [sm_rfl _ (repOk_ok (repOk_int (by omega))).1, repOk_int (by omega)]
  rfl
theorem repT {d : PyData} (h : repOk d = true) : (sm d d && repOk d) = true := by
  rw [sm_rfl _ (repOk_ok h).1, h]
  rfl
theorem natAbs_div_le (a b : Int) (hb : 0 < b) : (a / b).natAbs ≤ a.natAbs := by
  have := Int.natAbs_ediv_le_natAbs a b
  exact this
theorem Sm_div {a b : Int} (h : Sm a) (hb : 0 < b) : Sm (a / b) := by
  have h1 := natAbs_div_le a b hb
  have h2 : a.natAbs < 2 ^ 1000 := Nat.lt_of_lt_of_le Nat.lt_log2_self (Nat.pow_le_pow_right (by decide) h)
  exact log2_lt (by decide) (Nat.lt_of_le_of_lt h1 h2)
theorem wds_sm {p : Int} (hp : p ∈ ps) {k j : Nat} (hk : k ≤ 40) (hj : j < 43) : Sm (wds p k j) := by
  unfold wds
  split
  · exact Sm_div (iat_sm (row_sm hp hk) j) (onw_ok hp hj).1
  · decide
/-- one length of the law's list -/
theorem lawj {p : Int} (hp : p ∈ ps) {k m j : Nat} (hk : k ≤ 40) (hj : j < 43) {s : Src} {x3 x7 x8 x9 x10 x11 x12 x13 : Sl} :
    ∃ y11 y12, lp1 (gNm 9) b_law_1 (.int (j : Nat)) [.un, .src s, .v (.int p), x3, .v (.int (k : Nat)), .v (.int (m : Nat)), .v (.list ((rowk p k).map .int)), x7, x8, x9, x10, x11, x12, x13] =
      some [.un, .src s, .v (.int p), x3, .v (.int (k : Nat)), .v (.int (m : Nat)), .v (.list ((rowk p k).map .int)), x7, x8, .v (.int (j : Nat)), x10, y11, y12, x13] := by
  obtain ⟨o1, o2⟩ := onw_ok hp hj
  have hd : divOk (onw p j) = true := divOk_of o1 (by omega)
  have f1 := F_onw hp hj
  have f2 := F_lonw hp hj
  have f3 := F_words hp hk hj
  have g3 := repI (wds_sm hp hk hj)
  have g1 := repI o2
  have hpow : powOk 10 12 = true := by decide
  have hm := Sm_mul (wds_sm hp hk hj) o2
  by_cases h : j ≤ k
  · have h' : (j : Int) ≤ (k : Int) := by omega
    have h3 := ixD_map (l := rowk p k) (n := j) (z := (j : Int)) rfl (by rw [rowk_len]; omega)
    have ew : wds p k j = iat (rowk p k) j / onw p j := if_pos h
    have h4 := (row1 hp hk).2.2.1 j h
    rw [← ew] at h4
    refine ⟨.v (.int (iat (rowk p k) j)), .v (.int (wds p k j)), ?_⟩
    by_cases hq : onw p j < 10 ^ (12 : Int).toNat
    · simp only [lp1, b_law_1, fC, fVar, rdS, Rf.get, fRd, bnd, Fe.ret, fOp, fUn, fTst, fNot, fAnd, fOr, fIf, fBool, fNil, fCons, fTup, fLst, fAsL, fVal, fAndV, fOrV, fNotV, oI, oIc, oNeg, oIsN, oNotN, oIx, fIx, fR1, fR1L, oLen, oList, oTuple, oInt, oAbs, fRep, fCat, sNil, sThen, sSeq, sSet, sOwn, sRet, sRetN, sDrop, sIf, sTg, gNm, gNil', gCons', gTp, sFor, frzS, fSeq, fRng1, fRng2, fEnum, fZip, fComp, fYes, sApp, sExt, sIx, fPop, fPopAt, sPar, fCall, fCallS, oEq_int, oNe_int, List.getElem?_cons_zero, List.getElem?_cons_succ, List.set_cons_zero, List.set_cons_succ, oAdd, oSub, oMul, oDiv, oMod, oLt, oLe, oGt, oGe, oMin, oMax, oPow, decide_eq_true_eq, if_true, if_false, Bool.false_eq_true, Bool.not_true, Bool.not_false, decide_true, decide_false, List.length_cons, List.length_nil, List.length_map, Bool.and_self, h', h3, hd, f2, f1, ← ew, hm, h4, f3, fRepNe, fRep2, g3, g1, hpow, hq]
    · simp only [lp1, b_law_1, fC, fVar, rdS, Rf.get, fRd, bnd, Fe.ret, fOp, fUn, fTst, fNot, fAnd, fOr, fIf, fBool, fNil, fCons, fTup, fLst, fAsL, fVal, fAndV, fOrV, fNotV, oI, oIc, oNeg, oIsN, oNotN, oIx, fIx, fR1, fR1L, oLen, oList, oTuple, oInt, oAbs, fRep, fCat, sNil, sThen, sSeq, sSet, sOwn, sRet, sRetN, sDrop, sIf, sTg, gNm, gNil', gCons', gTp, sFor, frzS, fSeq, fRng1, fRng2, fEnum, fZip, fComp, fYes, sApp, sExt, sIx, fPop, fPopAt, sPar, fCall, fCallS, oEq_int, oNe_int, List.getElem?_cons_zero, List.getElem?_cons_succ, List.set_cons_zero, List.set_cons_succ, oAdd, oSub, oMul, oDiv, oMod, oLt, oLe, oGt, oGe, oMin, oMax, oPow, decide_eq_true_eq, if_true, if_false, Bool.false_eq_true, Bool.not_true, Bool.not_false, decide_true, decide_false, List.length_cons, List.length_nil, List.length_map, Bool.and_self, h', h3, hd, f2, f1, ← ew, hm, h4, f3, fRepNe, fRep2, g3, g1, hpow, hq]
  · have h' : ¬ (j : Int) ≤ (k : Int) := by omega
    have ew : wds p k j = 0 := if_neg h
    rw [ew] at g3 hm f3
    refine ⟨.v (.int 0), .v (.int 0), ?_⟩
    have e0 : (0 : Int) / onw p j = 0 := Int.zero_ediv _
    have e1 : (0 : Int) * onw p j = 0 := Int.zero_mul _
    by_cases hq : onw p j < 10 ^ (12 : Int).toNat
    · simp only [lp1, b_law_1, fC, fVar, rdS, Rf.get, fRd, bnd, Fe.ret, fOp, fUn, fTst, fNot, fAnd, fOr, fIf, fBool, fNil, fCons, fTup, fLst, fAsL, fVal, fAndV, fOrV, fNotV, oI, oIc, oNeg, oIsN, oNotN, oIx, fIx, fR1, fR1L, oLen, oList, oTuple, oInt, oAbs, fRep, fCat, sNil, sThen, sSeq, sSet, sOwn, sRet, sRetN, sDrop, sIf, sTg, gNm, gNil', gCons', gTp, sFor, frzS, fSeq, fRng1, fRng2, fEnum, fZip, fComp, fYes, sApp, sExt, sIx, fPop, fPopAt, sPar, fCall, fCallS, oEq_int, oNe_int, List.getElem?_cons_zero, List.getElem?_cons_succ, List.set_cons_zero, List.set_cons_succ, oAdd, oSub, oMul, oDiv, oMod, oLt, oLe, oGt, oGe, oMin, oMax, oPow, decide_eq_true_eq, if_true, if_false, Bool.false_eq_true, Bool.not_true, Bool.not_false, decide_true, decide_false, List.length_cons, List.length_nil, List.length_map, Bool.and_self, h', hd, f2, f1, e0, e1, hm, f3, fRepNe, fRep2, g3, g1, hpow, hq]
    · simp only [lp1, b_law_1, fC, fVar, rdS, Rf.get, fRd, bnd, Fe.ret, fOp, fUn, fTst, fNot, fAnd, fOr, fIf, fBool, fNil, fCons, fTup, fLst, fAsL, fVal, fAndV, fOrV, fNotV, oI, oIc, oNeg, oIsN, oNotN, oIx, fIx, fR1, fR1L, oLen, oList, oTuple, oInt, oAbs, fRep, fCat, sNil, sThen, sSeq, sSet, sOwn, sRet, sRetN, sDrop, sIf, sTg, gNm, gNil', gCons', gTp, sFor, frzS, fSeq, fRng1, fRng2, fEnum, fZip, fComp, fYes, sApp, sExt, sIx, fPop, fPopAt, sPar, fCall, fCallS, oEq_int, oNe_int, List.getElem?_cons_zero, List.getElem?_cons_succ, List.set_cons_zero, List.set_cons_succ, oAdd, oSub, oMul, oDiv, oMod, oLt, oLe, oGt, oGe, oMin, oMax, oPow, decide_eq_true_eq, if_true, if_false, Bool.false_eq_true, Bool.not_true, Bool.not_false, decide_true, decide_false, List.length_cons, List.length_nil, List.length_map, Bool.and_self, h', hd, f2, f1, e0, e1, hm, f3, fRepNe, fRep2, g3, g1, hpow, hq]
theorem pick_ok (s : Src) {m : Int} (h : 0 < m) (h2 : m.natAbs.log2 < 9000) : ∃ (k : Nat) (s' : Src), (k : Int) < m ∧ F_law_pick s [.int m] = some (.int (k : Nat), s') := by
  obtain ⟨h3, h4⟩ := pickA_rng s h
  refine ⟨(pickA s m).1.toNat, (pickA s m).2, by omega, ?_⟩
  show (if Nat.blt m.natAbs.log2 9000 = true then some (PyData.int (pickA s m).1, (pickA s m).2) else none) = _
  rw [if_pos (show Nat.blt m.natAbs.log2 9000 = true from Nat.ble_eq_true_of_le h2), Int.toNat_of_nonneg h3]
def ballsOk (p : Int) : Bool := (List.range 41).all fun k => Nat.blt (balls p k).sum.natAbs.log2 1000
theorem balls_all : ps.all ballsOk = true := by decide +kernel
theorem balls_sm {p : Int} (hp : p ∈ ps) {k : Nat} (hk : k ≤ 40) : Sm (balls p k).sum := Nat.le_of_ble_eq_true (List.all_eq_true.mp (List.all_eq_true.mp balls_all p hp) k (List.mem_range.mpr (by omega)))
theorem law_lap {p : Int} (hp : p ∈ ps) (s : Src) (i₀ : Nat) (x3 x4 x5 x6 x7 x8 x9 x10 x11 x12 x13 : Sl) :
    ∃ s' y4 y5 y6 y7 y8 y9 y10 y11 y12 y13, lp1 (gNm 3) b_law_4 (.int (0 + (i₀ : Nat))) [.un, .src s, .v (.int p), x3, x4, x5, x6, x7, x8, x9, x10, x11, x12, x13] =
      some [.un, .src s', .v (.int p), .v (.int (0 + (i₀ : Nat))), y4, y5, y6, y7, y8, y9, y10, y11, y12, y13] := by
  obtain ⟨p1, p2, p3, p4⟩ := ps_ok p hp
  obtain ⟨k, s1, hk0, e1⟩ := pick_ok s (m := 41) (by decide) (by decide)
  obtain ⟨m, s2, hm0, e2⟩ := pick_ok s1 (m := 41) (by decide) (by decide)
  have hk : k ≤ 40 := by omega
  have hm : m ≤ 40 := by omega
  have lg : ((k : Int) + 1).natAbs.log2 < 9000 := by
    have := Nat.log2_le_self ((k : Int) + 1).natAbs
    omega
  obtain ⟨j3, s3, hj3, e3⟩ := pick_ok s2 (m := (k : Int) + 1) (by omega) lg
  have f1 := F_lawlen hp hk
  have f2 := F_told hp hk
  have f3 := F_home hp hk
  obtain ⟨c1, c2, c3, c4, c5⟩ := row1 hp hk
  have g1 := repT c5
  have hr0 : Sm (iat (rowk p k) 0) := iat_sm (row_sm hp hk) 0
  have g2 := repI hr0
  have h0 := ixD_map (l := rowk p k) (n := 0) (z := 0) rfl (by rw [rowk_len]; omega)
  have hbk : inB (k : Int) = true := inB_of (by omega) (by omega)
  -- total
  obtain ⟨ρt, t1, t2⟩ := lp_rng (g := gNm 8) (b := b_law_0) (fun i ρ => ∃ x, ρ = [.un, .src s2, .v (.int p), .v (.int (0 + (i₀ : Nat))), .v (.int (k : Nat)), .v (.int (m : Nat)), .v (.list ((rowk p k).map .int)), .v (.int ((p + 1) ^ i)), x, x9, x10, x11, x12, x13]) (lo := 0) (n := k)
    (ρ := [.un, .src s2, .v (.int p), .v (.int (0 + (i₀ : Nat))), .v (.int (k : Nat)), .v (.int (m : Nat)), .v (.list ((rowk p k).map .int)), .v (.int 1), x8, x9, x10, x11, x12, x13]) ⟨x8, by rw [Int.pow_zero]⟩ fun i ρ hi ⟨x, e⟩ => by
      subst e
      have z := (row1 hp (k := i) (by omega)).2.2.2.1
      refine ⟨_, ?_, .v (.int (0 + (i : Nat))), rfl⟩
      simp only [lp1, b_law_0, fC, fVar, rdS, Rf.get, fRd, bnd, Fe.ret, fOp, fUn, fTst, fNot, fAnd, fOr, fIf, fBool, fNil, fCons, fTup, fLst, fAsL, fVal, fAndV, fOrV, fNotV, oI, oIc, oNeg, oIsN, oNotN, oIx, fIx, fR1, fR1L, oLen, oList, oTuple, oInt, oAbs, fRep, fCat, sNil, sThen, sSeq, sSet, sOwn, sRet, sRetN, sDrop, sIf, sTg, gNm, gNil', gCons', gTp, sFor, frzS, fSeq, fRng1, fRng2, fEnum, fZip, fComp, fYes, sApp, sExt, sIx, fPop, fPopAt, sPar, fCall, fCallS, oEq_int, oNe_int, List.getElem?_cons_zero, List.getElem?_cons_succ, List.set_cons_zero, List.set_cons_succ, oAdd, oSub, oMul, oDiv, oMod, oLt, oLe, oGt, oGe, oMin, oMax, oPow, decide_eq_true_eq, if_true, if_false, Bool.false_eq_true, Bool.not_true, Bool.not_false, decide_true, decide_false, List.length_cons, List.length_nil, List.length_map, Bool.and_self, Sm_mul z p2, Int.pow_succ]
  obtain ⟨y8, rfl⟩ := t2
  -- the lengths drawn
  have e40 : ∃ j5 : Nat, j5 < 43 ∧ (if (k : Int) + 1 < 40 then (k : Int) + 1 else 40) = (j5 : Nat) := by
    by_cases h : (k : Int) + 1 < 40
    · exact ⟨k + 1, by omega, by rw [if_pos h]; omega⟩
    · exact ⟨40, by omega, by rw [if_neg h]; rfl⟩
  obtain ⟨j5, hj5, e5⟩ := e40
  obtain ⟨ρj, q1, q2⟩ := lp_list (g := gNm 9) (b := b_law_1) (fun _ ρ => ∃ x y z, ρ = [.un, .src s3, .v (.int p), .v (.int (0 + (i₀ : Nat))), .v (.int (k : Nat)), .v (.int (m : Nat)), .v (.list ((rowk p k).map .int)), .v (.int ((p + 1) ^ k)), y8, x, x10, y, z, x13])
    (ds := [.int 0, .int 1, .int (j3 : Nat), .int (k : Nat), .int (j5 : Nat)]) (ρ := [.un, .src s3, .v (.int p), .v (.int (0 + (i₀ : Nat))), .v (.int (k : Nat)), .v (.int (m : Nat)), .v (.list ((rowk p k).map .int)), .v (.int ((p + 1) ^ k)), y8, x9, x10, x11, x12, x13]) ⟨_, _, _, rfl⟩ fun i d ρ hd ⟨x, y, z, e⟩ => by
      subst e
      have hj : ∃ j : Nat, j < 43 ∧ d = .int (j : Nat) := by
        have hm := List.mem_of_getElem? hd
        simp only [List.mem_cons, List.not_mem_nil, or_false] at hm
        rcases hm with e | e | e | e | e
        · exact ⟨0, by omega, e⟩
        · exact ⟨1, by omega, e⟩
        · exact ⟨j3, by omega, e⟩
        · exact ⟨k, by omega, e⟩
        · exact ⟨j5, by omega, e⟩
      obtain ⟨j, hj, rfl⟩ := hj
      obtain ⟨y11, y12, hl⟩ := lawj hp hk hj (m := m) (s := s3) (x3 := .v (.int (0 + (i₀ : Nat)))) (x7 := .v (.int ((p + 1) ^ k))) (x8 := y8) (x9 := x) (x10 := x10) (x11 := y) (x12 := z) (x13 := x13)
      exact ⟨_, hl, _, _, _, rfl⟩
  obtain ⟨y9, y11, y12, rfl⟩ := q2
  have htup : Nat.ble 5 16777216 = true := rfl
  have htup2 : Nat.ble 2 16777216 = true := rfl
  -- odd lengths
  have hodd : ¬ (k : Int) / 2 * 2 = (k : Int) → iat (rowk p k) 0 = 0 := fun h => by
    rcases c2 with c2 | c2
    · exfalso
      apply h
      omega
    · exact c2
  have m2 : mulOk ((k : Int) / 2) 2 = true := by
    have := Nat.log2_le_self ((k : Int) / 2).natAbs
    exact mulOk_of (a := 100) (b := 2) (by omega) (by decide) (by decide)
  have d2 : divOk 2 = true := by decide
  -- the balls
  have hb1 : inB ((k : Int) + 1) = true := inB_of (by omega) (by omega)
  have hn1 : ((k : Int) + 1).toNat = k + 1 := by omega
  have hl1 : Nat.ble (rngL 0 (k + 1)).length 16777216 = true := by rw [rngL_len]; exact Nat.ble_eq_true_of_le (by omega)
  have hcB := fun (z13 : Sl) => cl_map (vs := [9]) (g := gNm 9) (e := e_law_3) (ρ := [.un, .src s3, .v (.int p), .v (.int (0 + (i₀ : Nat))), .v (.int (k : Nat)), .v (.int (m : Nat)), .v (.list ((rowk p k).map .int)), .v (.int ((p + 1) ^ k)), y8, .un, x10, y11, y12, z13]) (rngL 0 (k + 1)) (mI (onw p)) (fun d hd => by
    obtain ⟨i, hi, rfl⟩ := mem_rng0 hd
    refine ⟨_, [.un, .src s3, .v (.int p), .v (.int (0 + (i₀ : Nat))), .v (.int (k : Nat)), .v (.int (m : Nat)), .v (.list ((rowk p k).map .int)), .v (.int ((p + 1) ^ k)), y8, .v (.int (i : Nat)), x10, y11, y12, z13], rfl, ?_, rfl⟩
    simp only [e_law_3, wipeE, fC, fVar, rdS, Rf.get, fRd, bnd, Fe.ret, fOp, fUn, fTst, fNot, fAnd, fOr, fIf, fBool, fNil, fCons, fTup, fLst, fAsL, fVal, fAndV, fOrV, fNotV, oI, oIc, oNeg, oIsN, oNotN, oIx, fIx, fR1, fR1L, oLen, oList, oTuple, oInt, oAbs, fRep, fCat, sNil, sThen, sSeq, sSet, sOwn, sRet, sRetN, sDrop, sIf, sTg, gNm, gNil', gCons', gTp, sFor, frzS, fSeq, fRng1, fRng2, fEnum, fZip, fComp, fYes, sApp, sExt, sIx, fPop, fPopAt, sPar, fCall, fCallS, oEq_int, oNe_int, List.getElem?_cons_zero, List.getElem?_cons_succ, List.set_cons_zero, List.set_cons_succ, oAdd, oSub, oMul, oDiv, oMod, oLt, oLe, oGt, oGe, oMin, oMax, oPow, decide_eq_true_eq, if_true, if_false, Bool.false_eq_true, Bool.not_true, Bool.not_false, decide_true, decide_false, List.length_cons, List.length_nil, List.length_map, Bool.and_self, F_lonw hp (show i < 43 by omega), mI_nat])
  have hcB := fun z9 z13 => hcB z13 [.un, .src s3, .v (.int p), .v (.int (0 + (i₀ : Nat))), .v (.int (k : Nat)), .v (.int (m : Nat)), .v (.list ((rowk p k).map .int)), .v (.int ((p + 1) ^ k)), y8, z9, x10, y11, y12, z13] rfl
  simp only [mI_rng] at hcB
  have fB := F_ball hp hk
  have gB := repI (balls_sm hp hk)
  have fO := F_lonw hp (k := k) (by omega)
  have hpow : powOk 10 12 = true := by decide
  have eB : (balls p k).sum = (List.map (onw p) (List.range (k + 1))).sum := rfl
  -- home again
  have hmin : (if (m : Int) < (k : Int) then (m : Int) else (k : Int)) = ((min k m : Nat) : Int) := by
    split <;> omega
  have hb2 : inB (((min k m : Nat) : Int) + 1) = true := inB_of (by omega) (by omega)
  have hn2 : (((min k m : Nat) : Int) + 1).toNat = min k m + 1 := by omega
  have hl2 : Nat.ble (rngL 0 (min k m + 1)).length 16777216 = true := by rw [rngL_len]; exact Nat.ble_eq_true_of_le (by omega)
  have hcH := cl_map (vs := [9]) (g := gNm 9) (e := e_law_2) (ρ := [.un, .src s3, .v (.int p), .v (.int (0 + (i₀ : Nat))), .v (.int (k : Nat)), .v (.int (m : Nat)), .v (.list ((rowk p k).map .int)), .v (.int ((p + 1) ^ k)), y8, y9, x10, y11, y12, x13]) (rngL 0 (min k m + 1)) (mI fun i => iat (rowk p k) i * wds p m i) (fun d hd => by
    obtain ⟨i, hi, rfl⟩ := mem_rng0 hd
    have hik : i ≤ k := by omega
    have h3 := ixD_map (l := rowk p k) (n := i) (z := (i : Int)) rfl (by rw [rowk_len]; omega)
    have hmm := Sm_mul (iat_sm (row_sm hp hk) i) (wds_sm hp hm (show i < 43 by omega))
    refine ⟨_, [.un, .src s3, .v (.int p), .v (.int (0 + (i₀ : Nat))), .v (.int (k : Nat)), .v (.int (m : Nat)), .v (.list ((rowk p k).map .int)), .v (.int ((p + 1) ^ k)), y8, .v (.int (i : Nat)), x10, y11, y12, x13], rfl, ?_, rfl⟩
    simp only [e_law_2, wipeE, fC, fVar, rdS, Rf.get, fRd, bnd, Fe.ret, fOp, fUn, fTst, fNot, fAnd, fOr, fIf, fBool, fNil, fCons, fTup, fLst, fAsL, fVal, fAndV, fOrV, fNotV, oI, oIc, oNeg, oIsN, oNotN, oIx, fIx, fR1, fR1L, oLen, oList, oTuple, oInt, oAbs, fRep, fCat, sNil, sThen, sSeq, sSet, sOwn, sRet, sRetN, sDrop, sIf, sTg, gNm, gNil', gCons', gTp, sFor, frzS, fSeq, fRng1, fRng2, fEnum, fZip, fComp, fYes, sApp, sExt, sIx, fPop, fPopAt, sPar, fCall, fCallS, oEq_int, oNe_int, List.getElem?_cons_zero, List.getElem?_cons_succ, List.set_cons_zero, List.set_cons_succ, oAdd, oSub, oMul, oDiv, oMod, oLt, oLe, oGt, oGe, oMin, oMax, oPow, decide_eq_true_eq, if_true, if_false, Bool.false_eq_true, Bool.not_true, Bool.not_false, decide_true, decide_false, List.length_cons, List.length_nil, List.length_map, Bool.and_self, F_words hp hm (show i < 43 by omega), h3, hmm, mI_nat])
  have hcH := hcH _ rfl
  simp only [mI_rng] at hcH
  have hke0 : ¬ (k : Int) / 2 * 2 = (k : Int) → PyData.int (iat (rowk p k) 0) = .int 0 := fun h => by rw [hodd h]
  by_cases hkm : k + m ≤ 40
  · have hk2 : ((k : Int) + (m : Int)) ≤ 40 := by omega
    have fH := F_home hp (k := k + m) hkm
    rw [show ((k + m : Nat) : Int) = (k : Int) + (m : Int) by omega] at fH
    have gH := repI (iat_sm (row_sm hp hkm) 0)
    have hh := homes hp hkm
    refine ⟨s3, .v (.int (k : Nat)), .v (.int (m : Nat)), .v (.list ((rowk p k).map .int)), .v (.int ((p + 1) ^ k)), y8, .un, .v (.int (balls p k).sum), y11, y12, .v (.int (iat (rowk p (k + m)) 0)), ?_⟩
    by_cases hke : (k : Int) / 2 * 2 = (k : Int)
    · by_cases hq : onw p k < 10 ^ (12 : Int).toNat
      · simp only [lp1, b_law_4, fC, fVar, rdS, Rf.get, fRd, bnd, Fe.ret, fOp, fUn, fTst, fNot, fAnd, fOr, fIf, fBool, fNil, fCons, fTup, fLst, fAsL, fVal, fAndV, fOrV, fNotV, oI, oIc, oNeg, oIsN, oNotN, oIx, fIx, fR1, fR1L, oLen, oList, oTuple, oInt, oAbs, fRep, fCat, sNil, sThen, sSeq, sSet, sOwn, sRet, sRetN, sDrop, sIf, sTg, gNm, gNil', gCons', gTp, sFor, frzS, fSeq, fRng1, fRng2, fEnum, fZip, fComp, fYes, sApp, sExt, sIx, fPop, fPopAt, sPar, fCall, fCallS, oEq_int, oNe_int, List.getElem?_cons_zero, List.getElem?_cons_succ, List.set_cons_zero, List.set_cons_succ, oAdd, oSub, oMul, oDiv, oMod, oLt, oLe, oGt, oGe, oMin, oMax, oPow, decide_eq_true_eq, if_true, if_false, Bool.false_eq_true, Bool.not_true, Bool.not_false, decide_true, decide_false, List.length_cons, List.length_nil, List.length_map, Bool.and_self, e1, e2, e3, f1, f2, f3, fRepNe, fRep2, g1, g2, h0, hbk, Int.toNat_natCast, t1, oSum, intsD_map, c1, d2, m2, hke, Nat.reduceAdd, Nat.reduceBEq, htup, htup2, q1, e5, hk2, hmin, hb2, hn2, hl2, hcH, hh, fH, gH, wipeE, hb1, hn1, hl1, hcB, ← eB, fO, hpow, hq, fB, gB]
      · simp only [lp1, b_law_4, fC, fVar, rdS, Rf.get, fRd, bnd, Fe.ret, fOp, fUn, fTst, fNot, fAnd, fOr, fIf, fBool, fNil, fCons, fTup, fLst, fAsL, fVal, fAndV, fOrV, fNotV, oI, oIc, oNeg, oIsN, oNotN, oIx, fIx, fR1, fR1L, oLen, oList, oTuple, oInt, oAbs, fRep, fCat, sNil, sThen, sSeq, sSet, sOwn, sRet, sRetN, sDrop, sIf, sTg, gNm, gNil', gCons', gTp, sFor, frzS, fSeq, fRng1, fRng2, fEnum, fZip, fComp, fYes, sApp, sExt, sIx, fPop, fPopAt, sPar, fCall, fCallS, oEq_int, oNe_int, List.getElem?_cons_zero, List.getElem?_cons_succ, List.set_cons_zero, List.set_cons_succ, oAdd, oSub, oMul, oDiv, oMod, oLt, oLe, oGt, oGe, oMin, oMax, oPow, decide_eq_true_eq, if_true, if_false, Bool.false_eq_true, Bool.not_true, Bool.not_false, decide_true, decide_false, List.length_cons, List.length_nil, List.length_map, Bool.and_self, e1, e2, e3, f1, f2, f3, fRepNe, fRep2, g1, g2, h0, hbk, Int.toNat_natCast, t1, oSum, intsD_map, c1, d2, m2, hke, Nat.reduceAdd, Nat.reduceBEq, htup, htup2, q1, e5, hk2, hmin, hb2, hn2, hl2, hcH, hh, fH, gH, wipeE, hb1, hn1, hl1, hcB, ← eB, fO, hpow, hq, fB, gB]
    · have hz := hodd hke
      rw [hz] at h0 f3 g2
      by_cases hq : onw p k < 10 ^ (12 : Int).toNat
      · simp only [lp1, b_law_4, fC, fVar, rdS, Rf.get, fRd, bnd, Fe.ret, fOp, fUn, fTst, fNot, fAnd, fOr, fIf, fBool, fNil, fCons, fTup, fLst, fAsL, fVal, fAndV, fOrV, fNotV, oI, oIc, oNeg, oIsN, oNotN, oIx, fIx, fR1, fR1L, oLen, oList, oTuple, oInt, oAbs, fRep, fCat, sNil, sThen, sSeq, sSet, sOwn, sRet, sRetN, sDrop, sIf, sTg, gNm, gNil', gCons', gTp, sFor, frzS, fSeq, fRng1, fRng2, fEnum, fZip, fComp, fYes, sApp, sExt, sIx, fPop, fPopAt, sPar, fCall, fCallS, oEq_int, oNe_int, List.getElem?_cons_zero, List.getElem?_cons_succ, List.set_cons_zero, List.set_cons_succ, oAdd, oSub, oMul, oDiv, oMod, oLt, oLe, oGt, oGe, oMin, oMax, oPow, decide_eq_true_eq, if_true, if_false, Bool.false_eq_true, Bool.not_true, Bool.not_false, decide_true, decide_false, List.length_cons, List.length_nil, List.length_map, Bool.and_self, e1, e2, e3, f1, f2, f3, fRepNe, fRep2, g1, g2, h0, hbk, Int.toNat_natCast, t1, oSum, intsD_map, c1, d2, m2, hke, Nat.reduceAdd, Nat.reduceBEq, htup, htup2, q1, e5, hk2, hmin, hb2, hn2, hl2, hcH, hh, fH, gH, wipeE, hb1, hn1, hl1, hcB, ← eB, fO, hpow, hq, fB, gB]
      · simp only [lp1, b_law_4, fC, fVar, rdS, Rf.get, fRd, bnd, Fe.ret, fOp, fUn, fTst, fNot, fAnd, fOr, fIf, fBool, fNil, fCons, fTup, fLst, fAsL, fVal, fAndV, fOrV, fNotV, oI, oIc, oNeg, oIsN, oNotN, oIx, fIx, fR1, fR1L, oLen, oList, oTuple, oInt, oAbs, fRep, fCat, sNil, sThen, sSeq, sSet, sOwn, sRet, sRetN, sDrop, sIf, sTg, gNm, gNil', gCons', gTp, sFor, frzS, fSeq, fRng1, fRng2, fEnum, fZip, fComp, fYes, sApp, sExt, sIx, fPop, fPopAt, sPar, fCall, fCallS, oEq_int, oNe_int, List.getElem?_cons_zero, List.getElem?_cons_succ, List.set_cons_zero, List.set_cons_succ, oAdd, oSub, oMul, oDiv, oMod, oLt, oLe, oGt, oGe, oMin, oMax, oPow, decide_eq_true_eq, if_true, if_false, Bool.false_eq_true, Bool.not_true, Bool.not_false, decide_true, decide_false, List.length_cons, List.length_nil, List.length_map, Bool.and_self, e1, e2, e3, f1, f2, f3, fRepNe, fRep2, g1, g2, h0, hbk, Int.toNat_natCast, t1, oSum, intsD_map, c1, d2, m2, hke, Nat.reduceAdd, Nat.reduceBEq, htup, htup2, q1, e5, hk2, hmin, hb2, hn2, hl2, hcH, hh, fH, gH, wipeE, hb1, hn1, hl1, hcB, ← eB, fO, hpow, hq, fB, gB]
  · have hk2 : ¬ ((k : Int) + (m : Int)) ≤ 40 := by omega
    refine ⟨s3, .v (.int (k : Nat)), .v (.int (m : Nat)), .v (.list ((rowk p k).map .int)), .v (.int ((p + 1) ^ k)), y8, .un, .v (.int (balls p k).sum), y11, y12, x13, ?_⟩
    by_cases hke : (k : Int) / 2 * 2 = (k : Int)
    · by_cases hq : onw p k < 10 ^ (12 : Int).toNat
      · simp only [lp1, b_law_4, fC, fVar, rdS, Rf.get, fRd, bnd, Fe.ret, fOp, fUn, fTst, fNot, fAnd, fOr, fIf, fBool, fNil, fCons, fTup, fLst, fAsL, fVal, fAndV, fOrV, fNotV, oI, oIc, oNeg, oIsN, oNotN, oIx, fIx, fR1, fR1L, oLen, oList, oTuple, oInt, oAbs, fRep, fCat, sNil, sThen, sSeq, sSet, sOwn, sRet, sRetN, sDrop, sIf, sTg, gNm, gNil', gCons', gTp, sFor, frzS, fSeq, fRng1, fRng2, fEnum, fZip, fComp, fYes, sApp, sExt, sIx, fPop, fPopAt, sPar, fCall, fCallS, oEq_int, oNe_int, List.getElem?_cons_zero, List.getElem?_cons_succ, List.set_cons_zero, List.set_cons_succ, oAdd, oSub, oMul, oDiv, oMod, oLt, oLe, oGt, oGe, oMin, oMax, oPow, decide_eq_true_eq, if_true, if_false, Bool.false_eq_true, Bool.not_true, Bool.not_false, decide_true, decide_false, List.length_cons, List.length_nil, List.length_map, Bool.and_self, e1, e2, e3, f1, f2, f3, fRepNe, fRep2, g1, g2, h0, hbk, Int.toNat_natCast, t1, oSum, intsD_map, c1, d2, m2, hke, Nat.reduceAdd, Nat.reduceBEq, htup, htup2, q1, e5, hk2, wipeE, hb1, hn1, hl1, hcB, ← eB, fO, hpow, hq, fB, gB]
      · simp only [lp1, b_law_4, fC, fVar, rdS, Rf.get, fRd, bnd, Fe.ret, fOp, fUn, fTst, fNot, fAnd, fOr, fIf, fBool, fNil, fCons, fTup, fLst, fAsL, fVal, fAndV, fOrV, fNotV, oI, oIc, oNeg, oIsN, oNotN, oIx, fIx, fR1, fR1L, oLen, oList, oTuple, oInt, oAbs, fRep, fCat, sNil, sThen, sSeq, sSet, sOwn, sRet, sRetN, sDrop, sIf, sTg, gNm, gNil', gCons', gTp, sFor, frzS, fSeq, fRng1, fRng2, fEnum, fZip, fComp, fYes, sApp, sExt, sIx, fPop, fPopAt, sPar, fCall, fCallS, oEq_int, oNe_int, List.getElem?_cons_zero, List.getElem?_cons_succ, List.set_cons_zero, List.set_cons_succ, oAdd, oSub, oMul, oDiv, oMod, oLt, oLe, oGt, oGe, oMin, oMax, oPow, decide_eq_true_eq, if_true, if_false, Bool.false_eq_true, Bool.not_true, Bool.not_false, decide_true, decide_false, List.length_cons, List.length_nil, List.length_map, Bool.and_self, e1, e2, e3, f1, f2, f3, fRepNe, fRep2, g1, g2, h0, hbk, Int.toNat_natCast, t1, oSum, intsD_map, c1, d2, m2, hke, Nat.reduceAdd, Nat.reduceBEq, htup, htup2, q1, e5, hk2, wipeE, hb1, hn1, hl1, hcB, ← eB, fO, hpow, hq, fB, gB]
    · have hz := hodd hke
      rw [hz] at h0 f3 g2
      by_cases hq : onw p k < 10 ^ (12 : Int).toNat
      · simp only [lp1, b_law_4, fC, fVar, rdS, Rf.get, fRd, bnd, Fe.ret, fOp, fUn, fTst, fNot, fAnd, fOr, fIf, fBool, fNil, fCons, fTup, fLst, fAsL, fVal, fAndV, fOrV, fNotV, oI, oIc, oNeg, oIsN, oNotN, oIx, fIx, fR1, fR1L, oLen, oList, oTuple, oInt, oAbs, fRep, fCat, sNil, sThen, sSeq, sSet, sOwn, sRet, sRetN, sDrop, sIf, sTg, gNm, gNil', gCons', gTp, sFor, frzS, fSeq, fRng1, fRng2, fEnum, fZip, fComp, fYes, sApp, sExt, sIx, fPop, fPopAt, sPar, fCall, fCallS, oEq_int, oNe_int, List.getElem?_cons_zero, List.getElem?_cons_succ, List.set_cons_zero, List.set_cons_succ, oAdd, oSub, oMul, oDiv, oMod, oLt, oLe, oGt, oGe, oMin, oMax, oPow, decide_eq_true_eq, if_true, if_false, Bool.false_eq_true, Bool.not_true, Bool.not_false, decide_true, decide_false, List.length_cons, List.length_nil, List.length_map, Bool.and_self, e1, e2, e3, f1, f2, f3, fRepNe, fRep2, g1, g2, h0, hbk, Int.toNat_natCast, t1, oSum, intsD_map, c1, d2, m2, hke, Nat.reduceAdd, Nat.reduceBEq, htup, htup2, q1, e5, hk2, wipeE, hb1, hn1, hl1, hcB, ← eB, fO, hpow, hq, fB, gB]
      · simp only [lp1, b_law_4, fC, fVar, rdS, Rf.get, fRd, bnd, Fe.ret, fOp, fUn, fTst, fNot, fAnd, fOr, fIf, fBool, fNil, fCons, fTup, fLst, fAsL, fVal, fAndV, fOrV, fNotV, oI, oIc, oNeg, oIsN, oNotN, oIx, fIx, fR1, fR1L, oLen, oList, oTuple, oInt, oAbs, fRep, fCat, sNil, sThen, sSeq, sSet, sOwn, sRet, sRetN, sDrop, sIf, sTg, gNm, gNil', gCons', gTp, sFor, frzS, fSeq, fRng1, fRng2, fEnum, fZip, fComp, fYes, sApp, sExt, sIx, fPop, fPopAt, sPar, fCall, fCallS, oEq_int, oNe_int, List.getElem?_cons_zero, List.getElem?_cons_succ, List.set_cons_zero, List.set_cons_succ, oAdd, oSub, oMul, oDiv, oMod, oLt, oLe, oGt, oGe, oMin, oMax, oPow, decide_eq_true_eq, if_true, if_false, Bool.false_eq_true, Bool.not_true, Bool.not_false, decide_true, decide_false, List.length_cons, List.length_nil, List.length_map, Bool.and_self, e1, e2, e3, f1, f2, f3, fRepNe, fRep2, g1, g2, h0, hbk, Int.toNat_natCast, t1, oSum, intsD_map, c1, d2, m2, hke, Nat.reduceAdd, Nat.reduceBEq, htup, htup2, q1, e5, hk2, wipeE, hb1, hn1, hl1, hcB, ← eB, fO, hpow, hq, fB, gB]
end K18
namespace K18
open PySem PySem.Spec PyProof.Rows L2 Fe
theorem law_of_ok (s : Src) : ∃ (p : Int) (s' : Src), p ∈ ps ∧ F_law_of s [.list (ps.map .int)] = some (.int p, s') := by
  obtain ⟨k, s', hk, e⟩ := pick_ok s (m := 5) (by decide) (by decide)
  have hk : k < 5 := by omega
  refine ⟨iat ps k, s', ?_, ?_⟩
  · have : ∀ k, k < 5 → iat ps k ∈ ps := by decide
    exact this k hk
  · refine runS_rt (ρ := [.v (.list (ps.map .int))]) ?_
    have h3 := ixD_map (l := ps) (n := k) (z := (k : Int)) rfl hk
    have e' : F_law_pick s [.int (0 + 1 + 1 + 1 + 1 + 1 : Nat)] = some (.int (k : Nat), s') := e
    simp only [ps, List.map_cons, List.map_nil] at h3 ⊢
    show b_law_of [.src s, .v (.list [.int 3, .int 5, .int 7, .int 11, .int 13])] = _
    simp only [b_law_of, fC, fVar, rdS, Rf.get, fRd, bnd, Fe.ret, fOp, fUn, fTst, fNot, fAnd, fOr, fIf, fBool, fNil, fCons, fTup, fLst, fAsL, fVal, fAndV, fOrV, fNotV, oI, oIc, oNeg, oIsN, oNotN, oIx, fIx, fR1, fR1L, oLen, oList, oTuple, oInt, oAbs, fRep, fCat, sNil, sThen, sSeq, sSet, sOwn, sRet, sRetN, sDrop, sIf, sTg, gNm, gNil', gCons', gTp, sFor, frzS, fSeq, fRng1, fRng2, fEnum, fZip, fComp, fYes, sApp, sExt, sIx, fPop, fPopAt, sPar, fCall, fCallS, oEq_int, oNe_int, List.getElem?_cons_zero, List.getElem?_cons_succ, List.set_cons_zero, List.set_cons_succ, oAdd, oSub, oMul, oDiv, oMod, oLt, oLe, oGt, oGe, oMin, oMax, oPow, decide_eq_true_eq, if_true, if_false, Bool.false_eq_true, Bool.not_true, Bool.not_false, decide_true, decide_false, List.length_cons, List.length_nil, List.length_map, Bool.and_self, e', h3]
theorem hF : ∀ s : Src, ∃ ρ', b_law (startL 14 s) = some (.rt (.bool true) ρ') := fun s => by
  obtain ⟨p, s1, hp, e1⟩ := law_of_ok s
  obtain ⟨ρ', q1, s2, z3, z4, z5, z6, z7, z8, z9, z10, z11, z12, z13, rfl⟩ := lp_rng (g := gNm 3) (b := b_law_4) (fun _ ρ => ∃ s2 z3 z4 z5 z6 z7 z8 z9 z10 z11 z12 z13, ρ = [.un, .src s2, .v (.int p), z3, z4, z5, z6, z7, z8, z9, z10, z11, z12, z13]) (lo := 0) (n := 3)
    (ρ := [.un, .src s1, .v (.int p), .un, .un, .un, .un, .un, .un, .un, .un, .un, .un, .un]) ⟨_, _, _, _, _, _, _, _, _, _, _, _, rfl⟩ fun i ρ hi ⟨s2, z3, z4, z5, z6, z7, z8, z9, z10, z11, z12, z13, e⟩ => by
      subst e
      obtain ⟨s', y4, y5, y6, y7, y8, y9, y10, y11, y12, y13, h⟩ := law_lap hp s2 i z3 z4 z5 z6 z7 z8 z9 z10 z11 z12 z13
      exact ⟨_, h, _, _, _, _, _, _, _, _, _, _, _, _, rfl⟩
  have hb : inB 3 = true := by decide
  have hn : (3 : Int).toNat = 3 := rfl
  simp only [ps, List.map_cons, List.map_nil] at e1
  refine ⟨[.un, .src s2, .v (.int p), z3, z4, z5, z6, z7, z8, z9, z10, z11, z12, z13], ?_⟩
  show b_law [.un, .src s, .un, .un, .un, .un, .un, .un, .un, .un, .un, .un, .un, .un] = _
  simp only [b_law, fC, fVar, rdS, Rf.get, fRd, bnd, Fe.ret, fOp, fUn, fTst, fNot, fAnd, fOr, fIf, fBool, fNil, fCons, fTup, fLst, fAsL, fVal, fAndV, fOrV, fNotV, oI, oIc, oNeg, oIsN, oNotN, oIx, fIx, fR1, fR1L, oLen, oList, oTuple, oInt, oAbs, fRep, fCat, sNil, sThen, sSeq, sSet, sOwn, sRet, sRetN, sDrop, sIf, sTg, gNm, gNil', gCons', gTp, sFor, frzS, fSeq, fRng1, fRng2, fEnum, fZip, fComp, fYes, sApp, sExt, sIx, fPop, fPopAt, sPar, fCall, fCallS, oEq_int, oNe_int, List.getElem?_cons_zero, List.getElem?_cons_succ, List.set_cons_zero, List.set_cons_succ, oAdd, oSub, oMul, oDiv, oMod, oLt, oLe, oGt, oGe, oMin, oMax, oPow, decide_eq_true_eq, if_true, if_false, Bool.false_eq_true, Bool.not_true, Bool.not_false, decide_true, decide_false, List.length_cons, List.length_nil, List.length_map, Bool.and_self, e1, hb, hn, q1, Nat.reduceAdd, Nat.reduceBEq, show Nat.ble 5 16777216 = true from rfl]
end K18
namespace K18
open PySem PySem.Spec PyProof.Rows L2 Fe
theorem all_mk {l : PySem.W.OpenLaw} {w : World} {K : PySem.W.Frag} {h : Heap} {mg : Str → Option Value} {fa f0 f1 f2 f3 f4 f5 f6 f7 f8 f9 f10 f11 : Addr} (X : K.In h) (G : h.Ns mainGlobals mg) (hfa : mg "law" = some (.ref fa))
    {od0 an0 od1 an1 od2 an2 od3 an3 od4 an4 od5 an5 od6 an6 od7 an7 od8 an8 od9 an9 od10 an10 od11 an11 : Option Addr} {sl0 sl1 sl2 sl3 sl4 sl5 sl6 sl7 sl8 sl9 sl10 sl11 : Array (Option Value)} {oc0 kV0 dc0 pm0 cd0 ct0 oc1 kV1 dc1 pm1 cd1 ct1 oc2 kV2 dc2 pm2 cd2 ct2 oc3 kV3 dc3 pm3 cd3 ct3 oc4 kV4 dc4 pm4 cd4 ct4 oc5 kV5 dc5 pm5 cd5 ct5 oc6 kV6 dc6 pm6 cd6 ct6 oc7 kV7 dc7 pm7 cd7 ct7 oc8 kV8 dc8 pm8 cd8 ct8 oc9 kV9 dc9 pm9 cd9 ct9 oc10 kV10 dc10 pm10 cd10 ct10 oc11 kV11 dc11 pm11 cd11 ct11 : Value}
    (a0 : PySem.W.nsIn K mainGlobals "count_never_back" = some (some (.ref f0))) (l0 : K.lookup f0 = some ⟨oc0, od0, .func (PySem.W.fnOf "count_never_back" "count_never_back" (defArgs (top 1)) (defBody (top 1)) (defScope (top 1)) .none kV0 dc0 pm0 an0 cd0 ct0), sl0⟩) (c0 : PySem.W.codeIn K cd0 "count_never_back" = true) (k0 : PySem.W.keepIn K (.ref f0) = true)
    (a1 : PySem.W.nsIn K mainGlobals "ball_size" = some (some (.ref f1))) (l1 : K.lookup f1 = some ⟨oc1, od1, .func (PySem.W.fnOf "ball_size" "ball_size" (defArgs (top 2)) (defBody (top 2)) (defScope (top 2)) .none kV1 dc1 pm1 an1 cd1 ct1), sl1⟩) (c1 : PySem.W.codeIn K cd1 "ball_size" = true) (k1 : PySem.W.keepIn K (.ref f1) = true)
    (a2 : PySem.W.nsIn K mainGlobals "next_lengths" = some (some (.ref f2))) (l2 : K.lookup f2 = some ⟨oc2, od2, .func (PySem.W.fnOf "next_lengths" "next_lengths" (defArgs (top 4)) (defBody (top 4)) (defScope (top 4)) .none kV2 dc2 pm2 an2 cd2 ct2), sl2⟩) (c2 : PySem.W.codeIn K cd2 "next_lengths" = true) (k2 : PySem.W.keepIn K (.ref f2) = true)
    (a3 : PySem.W.nsIn K mainGlobals "told_lengths" = some (some (.ref f3))) (l3 : K.lookup f3 = some ⟨oc3, od3, .func (PySem.W.fnOf "told_lengths" "told_lengths" (defArgs (top 5)) (defBody (top 5)) (defScope (top 5)) .none kV3 dc3 pm3 an3 cd3 ct3), sl3⟩) (c3 : PySem.W.codeIn K cd3 "told_lengths" = true) (k3 : PySem.W.keepIn K (.ref f3) = true)
    (a4 : PySem.W.nsIn K mainGlobals "words_for" = some (some (.ref f4))) (l4 : K.lookup f4 = some ⟨oc4, od4, .func (PySem.W.fnOf "words_for" "words_for" (defArgs (top 6)) (defBody (top 6)) (defScope (top 6)) .none kV4 dc4 pm4 an4 cd4 ct4), sl4⟩) (c4 : PySem.W.codeIn K cd4 "words_for" = true) (k4 : PySem.W.keepIn K (.ref f4) = true)
    (a5 : PySem.W.nsIn K mainGlobals "back_home" = some (some (.ref f5))) (l5 : K.lookup f5 = some ⟨oc5, od5, .func (PySem.W.fnOf "back_home" "back_home" (defArgs (top 7)) (defBody (top 7)) (defScope (top 7)) .none kV5 dc5 pm5 an5 cd5 ct5), sl5⟩) (c5 : PySem.W.codeIn K cd5 "back_home" = true) (k5 : PySem.W.keepIn K (.ref f5) = true)
    (a6 : PySem.W.nsIn K mainGlobals "_law_open_cells" = some (some (.ref f6))) (l6 : K.lookup f6 = some ⟨oc6, od6, .func (PySem.W.fnOf "_law_open_cells" "_law_open_cells" (defArgs (top 9)) (defBody (top 9)) (defScope (top 9)) .none kV6 dc6 pm6 an6 cd6 ct6), sl6⟩) (c6 : PySem.W.codeIn K cd6 "_law_open_cells" = true) (k6 : PySem.W.keepIn K (.ref f6) = true)
    (a7 : PySem.W.nsIn K mainGlobals "_law_pick" = some (some (.ref f7))) (l7 : K.lookup f7 = some ⟨oc7, od7, .func (PySem.W.fnOf "_law_pick" "_law_pick" (defArgs (top 10)) (defBody (top 10)) (defScope (top 10)) .none kV7 dc7 pm7 an7 cd7 ct7), sl7⟩) (c7 : PySem.W.codeIn K cd7 "_law_pick" = true) (k7 : PySem.W.keepIn K (.ref f7) = true)
    (a8 : PySem.W.nsIn K mainGlobals "_law_of" = some (some (.ref f8))) (l8 : K.lookup f8 = some ⟨oc8, od8, .func (PySem.W.fnOf "_law_of" "_law_of" (defArgs (top 11)) (defBody (top 11)) (defScope (top 11)) .none kV8 dc8 pm8 an8 cd8 ct8), sl8⟩) (c8 : PySem.W.codeIn K cd8 "_law_of" = true) (k8 : PySem.W.keepIn K (.ref f8) = true)
    (a9 : PySem.W.nsIn K mainGlobals "_law_lengths" = some (some (.ref f9))) (l9 : K.lookup f9 = some ⟨oc9, od9, .func (PySem.W.fnOf "_law_lengths" "_law_lengths" (defArgs (top 12)) (defBody (top 12)) (defScope (top 12)) .none kV9 dc9 pm9 an9 cd9 ct9), sl9⟩) (c9 : PySem.W.codeIn K cd9 "_law_lengths" = true) (k9 : PySem.W.keepIn K (.ref f9) = true)
    (a10 : PySem.W.nsIn K mainGlobals "_law_onwards" = some (some (.ref f10))) (l10 : K.lookup f10 = some ⟨oc10, od10, .func (PySem.W.fnOf "_law_onwards" "_law_onwards" (defArgs (top 13)) (defBody (top 13)) (defScope (top 13)) .none kV10 dc10 pm10 an10 cd10 ct10), sl10⟩) (c10 : PySem.W.codeIn K cd10 "_law_onwards" = true) (k10 : PySem.W.keepIn K (.ref f10) = true)
    (a11 : PySem.W.nsIn K mainGlobals "law" = some (some (.ref f11))) (l11 : K.lookup f11 = some ⟨oc11, od11, .func (PySem.W.fnOf "law" "law" (defArgs (top 14)) (defBody (top 14)) (defScope (top 14)) .none kV11 dc11 pm11 an11 cd11 ct11), sl11⟩) (c11 : PySem.W.codeIn K cd11 "law" = true) (k11 : PySem.W.keepIn K (.ref f11) = true)
    (z_abs : PySem.W.nsIn K mainGlobals "abs" = some none)
    (z_enumerate : PySem.W.nsIn K mainGlobals "enumerate" = some none)
    (z_int : PySem.W.nsIn K mainGlobals "int" = some none)
    (z_len : PySem.W.nsIn K mainGlobals "len" = some none)
    (z_min : PySem.W.nsIn K mainGlobals "min" = some none)
    (z_range : PySem.W.nsIn K mainGlobals "range" = some none)
    (z_repr : PySem.W.nsIn K mainGlobals "repr" = some none)
    (z_sum : PySem.W.nsIn K mainGlobals "sum" = some none)
    (z_tuple : PySem.W.nsIn K mainGlobals "tuple" = some none)
    : ∃ fd : FuncData, (∀ (s : Shared) (v : Value), BindsTo s fd ⟨[v], []⟩ [("script", v)]) ∧ ∀ base : Heap, K.In base → base.Ns mainGlobals mg → FnG l.prog w K mg base 4 fa fd ["script"] (spLaw K) := by
  have e := hfa.symm.trans (PySem.W.mg_of X G a11)
  cases e
  have F0 := fun_mk (st := top 1) l0 c0 k0
  have b0 := F0.binds (ps := ["p", "k"]) fun _ _ _ _ _ _ us hl => match us, hl with | [_, _], _ => rfl
  have F1 := fun_mk (st := top 2) l1 c1 k1
  have b1 := F1.binds (ps := ["p", "k"]) fun _ _ _ _ _ _ us hl => match us, hl with | [_, _], _ => rfl
  have F2 := fun_mk (st := top 4) l2 c2 k2
  have b2 := F2.binds (ps := ["p", "row"]) fun _ _ _ _ _ _ us hl => match us, hl with | [_, _], _ => rfl
  have F3 := fun_mk (st := top 5) l3 c3 k3
  have b3 := F3.binds (ps := ["p", "k"]) fun _ _ _ _ _ _ us hl => match us, hl with | [_, _], _ => rfl
  have F4 := fun_mk (st := top 6) l4 c4 k4
  have b4 := F4.binds (ps := ["p", "k", "j"]) fun _ _ _ _ _ _ us hl => match us, hl with | [_, _, _], _ => rfl
  have F5 := fun_mk (st := top 7) l5 c5 k5
  have b5 := F5.binds (ps := ["p", "k"]) fun _ _ _ _ _ _ us hl => match us, hl with | [_, _], _ => rfl
  have F6 := fun_mk (st := top 9) l6 c6 k6
  have b6 := F6.binds (ps := ["script"]) fun _ _ _ _ _ _ us hl => match us, hl with | [_], _ => rfl
  have F7 := fun_mk (st := top 10) l7 c7 k7
  have b7 := F7.binds (ps := ["source", "most"]) fun _ _ _ _ _ _ us hl => match us, hl with | [_, _], _ => rfl
  have F8 := fun_mk (st := top 11) l8 c8 k8
  have b8 := F8.binds (ps := ["source", "some"]) fun _ _ _ _ _ _ us hl => match us, hl with | [_, _], _ => rfl
  have F9 := fun_mk (st := top 12) l9 c9 k9
  have b9 := F9.binds (ps := ["p", "k"]) fun _ _ _ _ _ _ us hl => match us, hl with | [_, _], _ => rfl
  have F10 := fun_mk (st := top 13) l10 c10 k10
  have b10 := F10.binds (ps := ["p", "j"]) fun _ _ _ _ _ _ us hl => match us, hl with | [_, _], _ => rfl
  have F11 := fun_mk (st := top 14) l11 c11 k11
  have b11 := F11.binds (ps := ["script"]) fun _ _ _ _ _ _ us hl => match us, hl with | [_], _ => rfl
  have T : Tx K mg (fun i => [f0, f1, f2, f3, f4, f5, f6, f7, f8, f9, f10, fa].getD i 0) (fun i => [(PySem.W.fnOf "count_never_back" "count_never_back" (defArgs (top 1)) (defBody (top 1)) (defScope (top 1)) .none kV0 dc0 pm0 an0 cd0 ct0), (PySem.W.fnOf "ball_size" "ball_size" (defArgs (top 2)) (defBody (top 2)) (defScope (top 2)) .none kV1 dc1 pm1 an1 cd1 ct1), (PySem.W.fnOf "next_lengths" "next_lengths" (defArgs (top 4)) (defBody (top 4)) (defScope (top 4)) .none kV2 dc2 pm2 an2 cd2 ct2), (PySem.W.fnOf "told_lengths" "told_lengths" (defArgs (top 5)) (defBody (top 5)) (defScope (top 5)) .none kV3 dc3 pm3 an3 cd3 ct3), (PySem.W.fnOf "words_for" "words_for" (defArgs (top 6)) (defBody (top 6)) (defScope (top 6)) .none kV4 dc4 pm4 an4 cd4 ct4), (PySem.W.fnOf "back_home" "back_home" (defArgs (top 7)) (defBody (top 7)) (defScope (top 7)) .none kV5 dc5 pm5 an5 cd5 ct5), (PySem.W.fnOf "_law_open_cells" "_law_open_cells" (defArgs (top 9)) (defBody (top 9)) (defScope (top 9)) .none kV6 dc6 pm6 an6 cd6 ct6), (PySem.W.fnOf "_law_pick" "_law_pick" (defArgs (top 10)) (defBody (top 10)) (defScope (top 10)) .none kV7 dc7 pm7 an7 cd7 ct7), (PySem.W.fnOf "_law_of" "_law_of" (defArgs (top 11)) (defBody (top 11)) (defScope (top 11)) .none kV8 dc8 pm8 an8 cd8 ct8), (PySem.W.fnOf "_law_lengths" "_law_lengths" (defArgs (top 12)) (defBody (top 12)) (defScope (top 12)) .none kV9 dc9 pm9 an9 cd9 ct9), (PySem.W.fnOf "_law_onwards" "_law_onwards" (defArgs (top 13)) (defBody (top 13)) (defScope (top 13)) .none kV10 dc10 pm10 an10 cd10 ct10), (PySem.W.fnOf "law" "law" (defArgs (top 14)) (defBody (top 14)) (defScope (top 14)) .none kV11 dc11 pm11 an11 cd11 ct11)].getD i (PySem.W.fnOf "count_never_back" "count_never_back" (defArgs (top 1)) (defBody (top 1)) (defScope (top 1)) .none kV0 dc0 pm0 an0 cd0 ct0)) := ⟨F0, PySem.W.mg_of X G a0, b0, F1, PySem.W.mg_of X G a1, b1, F2, PySem.W.mg_of X G a2, b2, F3, PySem.W.mg_of X G a3, b3, F4, PySem.W.mg_of X G a4, b4, F5, PySem.W.mg_of X G a5, b5, F6, PySem.W.mg_of X G a6, b6, F7, PySem.W.mg_of X G a7, b7, F8, PySem.W.mg_of X G a8, b8, F9, PySem.W.mg_of X G a9, b9, F10, PySem.W.mg_of X G a10, b10, F11, PySem.W.mg_of X G a11, b11, PySem.W.mg_none_of X G z_abs, PySem.W.mg_none_of X G z_enumerate, PySem.W.mg_none_of X G z_int, PySem.W.mg_none_of X G z_len, PySem.W.mg_none_of X G z_min, PySem.W.mg_none_of X G z_range, PySem.W.mg_none_of X G z_repr, PySem.W.mg_none_of X G z_sum, PySem.W.mg_none_of X G z_tuple⟩
  exact ⟨_, fun s v => .of_eq rfl, fun base _ _ => d_law hF T⟩
end K18
open PySem PySem.W PyProof.Rows
set_option maxRecDepth 100000 in
set_option maxHeartbeats 0 in
theorem PySem.Challenge.cw_wholefours_k18_whole_lengths_of_words_to_holds : PySem.Challenge.rw_wholefours_k18_whole_lengths_of_words_to.Holds := by
  w_on; o_law; k_head; (case hw => w_witness2)
  k_fill
  refine Fe.walkG (l := PySem.Challenge.rw_wholefours_k18_whole_lengths_of_words_to) (k := 4) (x := "script") rfl rfl ⟨rfl, by decide, by decide⟩ (fun w h Y => PySem.W.kIn_of Y) ?F
  case F =>
    intro w mg fa h KX G hmg
    refine' K18.all_mk KX G hmg ?a0 ?l0 ?c0 ?k0 ?a1 ?l1 ?c1 ?k1 ?a2 ?l2 ?c2 ?k2 ?a3 ?l3 ?c3 ?k3 ?a4 ?l4 ?c4 ?k4 ?a5 ?l5 ?c5 ?k5 ?a6 ?l6 ?c6 ?k6 ?a7 ?l7 ?c7 ?k7 ?a8 ?l8 ?c8 ?k8 ?a9 ?l9 ?c9 ?k9 ?a10 ?l10 ?c10 ?k10 ?a11 ?l11 ?c11 ?k11 ?z_abs ?z_enumerate ?z_int ?z_len ?z_min ?z_range ?z_repr ?z_sum ?z_tuple
    (case a0 => k_is)
    (case l0 => k_is)
    (case c0 => k_is)
    (case k0 => k_is)
    (case a1 => k_is)
    (case l1 => k_is)
    (case c1 => k_is)
    (case k1 => k_is)
    (case a2 => k_is)
    (case l2 => k_is)
    (case c2 => k_is)
    (case k2 => k_is)
    (case a3 => k_is)
    (case l3 => k_is)
    (case c3 => k_is)
    (case k3 => k_is)
    (case a4 => k_is)
    (case l4 => k_is)
    (case c4 => k_is)
    (case k4 => k_is)
    (case a5 => k_is)
    (case l5 => k_is)
    (case c5 => k_is)
    (case k5 => k_is)
    (case a6 => k_is)
    (case l6 => k_is)
    (case c6 => k_is)
    (case k6 => k_is)
    (case a7 => k_is)
    (case l7 => k_is)
    (case c7 => k_is)
    (case k7 => k_is)
    (case a8 => k_is)
    (case l8 => k_is)
    (case c8 => k_is)
    (case k8 => k_is)
    (case a9 => k_is)
    (case l9 => k_is)
    (case c9 => k_is)
    (case k9 => k_is)
    (case a10 => k_is)
    (case l10 => k_is)
    (case c10 => k_is)
    (case k10 => k_is)
    (case a11 => k_is)
    (case l11 => k_is)
    (case c11 => k_is)
    (case k11 => k_is)
    (case z_abs => k_is)
    (case z_enumerate => k_is)
    (case z_int => k_is)
    (case z_len => k_is)
    (case z_min => k_is)
    (case z_range => k_is)
    (case z_repr => k_is)
    (case z_sum => k_is)
    (case z_tuple => k_is)
