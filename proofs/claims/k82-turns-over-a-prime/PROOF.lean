import PyProof.Rows.All
import Wide.All
import OpenK.AllK
import Wide.FinOn
import HandS.ForMost
import HandS.Walk
import HandS.Zip
import HandS.IsInst
import HandS.Wide
import HandS.Gcd
import KE.GoesMore
import KE.KDictWalk
import HandS.Conv
import HandS.Call
import HandS.List
import KE.GoesEnum
import HandS.Style
import HandS.ForExc
import PySem.Challenge.RW_foursteps_k82_across_turns_over_a_prime
set_option Elab.async false
set_option linter.all false
set_option maxRecDepth 100000
set_option maxHeartbeats 4000000
/-! Data as plain values, and how they stand in the abstract heap. -/
namespace EV
open PySem L2

inductive D where
  | non | bl (b : Bool) | int (i : Int) | str (x : Str)
  | tup (xs : List D) | lst (xs : List D) | dk (xs : List D) | draw
  deriving Inhabited

mutual
def D.py : D → PyData
  | .non => .none | .bl b => .bool b | .int i => .int i | .str x => .str x
  | .tup xs => .tuple (D.pyL xs) | .lst xs => .list (D.pyL xs) | .dk _ => .dict [] | .draw => .dict []
def D.pyL : List D → List PyData
  | [] => []
  | x :: xs => x.py :: D.pyL xs
end

/-- the one mutable object of the laws: the state of the draws -/
structure Draw where
  large : List Int
  rest : Int
  cells : List Int
  turn : Int

abbrev Mst := Option Draw

/-- the frozen part of the heap; where the state of the draws lies (its dict, its list, its cells) -/
structure Gh where
  Fz : Hp
  dr : Option (Addr × Addr × Addr)

def drA (G : Gh) : List Addr := match G.dr with
  | none => []
  | some (da, la, _) => [da, la]

/-- a dict's keys and values, one behind the other -/
def flatV : List (Key × V) → List V
  | [] => []
  | (k, v) :: r => kV k :: v :: flatV r

mutual
def Rp (K : PySem.W.Frag) (G : Gh) : D → V → Prop
  | .non, v => v = .non
  | .bl b, v => v = .bl b
  | .int i, v => v = .int i
  | .str x, v => v = .str x
  | .tup xs, v => ∃ a vs, v = .ref a ∧ SqT K G.Fz a vs ∧ RpL K G xs vs
  | .lst xs, v => ∃ a vs, v = .ref a ∧ SqL K G.Fz a vs ∧ RpL K G xs vs
  | .dk xs, v => ∃ a kvs, v = .ref a ∧ Rd G.Fz a (.dK kvs) ∧ RpL K G xs (flatV kvs)
  | .draw, v => ∃ da la ca, G.dr = some (da, la, ca) ∧ v = .ref da
def RpL (K : PySem.W.Frag) (G : Gh) : List D → List V → Prop
  | [], vs => vs = []
  | d :: ds, vs => ∃ v r, vs = v :: r ∧ Rp K G d v ∧ RpL K G ds r
end

structure GLe (G G' : Gh) : Prop where
  fz : ∀ a o, G.Fz a = some o → G'.Fz a = some o
  dr : ∀ x, G.dr = some x → G'.dr = some x

theorem GLe.refl (G : Gh) : GLe G G := ⟨fun _ _ h => h, fun _ h => h⟩
theorem GLe.trans {A B C : Gh} (h : GLe A B) (k : GLe B C) : GLe A C := ⟨fun a o e => k.fz a o (h.fz a o e), fun x e => k.dr x (h.dr x e)⟩

section
variable {K : PySem.W.Frag} {G G' : Gh}
theorem rd_mono {a : Addr} {u : HO} {F F' : Hp} (h : ∀ a o, F a = some o → F' a = some o) (q : Rd F a u) : Rd F' a u := by
  rcases q with q | ⟨o, q⟩
  · exact .inl (h _ _ q)
  · exact .inr ⟨o, h _ _ q⟩
theorem sqT_mono {a : Addr} {vs : List V} {F F' : Hp} (h : ∀ a o, F a = some o → F' a = some o) (q : SqT K F a vs) : SqT K F' a vs := by
  rcases q with (q | ⟨o, q⟩) | q
  · exact .inl (.inl (h _ _ q))
  · exact .inl (.inr ⟨o, h _ _ q⟩)
  · exact .inr q
theorem sqL_mono {a : Addr} {vs : List V} {F F' : Hp} (h : ∀ a o, F a = some o → F' a = some o) (q : SqL K F a vs) : SqL K F' a vs := by
  rcases q with (q | ⟨o, q⟩) | q
  · exact .inl (.inl (h _ _ q))
  · exact .inl (.inr ⟨o, h _ _ q⟩)
  · exact .inr q
mutual
theorem Rp.mono (h : GLe G G') : ∀ {d : D} {v : V}, Rp K G d v → Rp K G' d v
  | .non, _, q => by unfold Rp at q ⊢; exact q
  | .bl _, _, q => by unfold Rp at q ⊢; exact q
  | .int _, _, q => by unfold Rp at q ⊢; exact q
  | .str _, _, q => by unfold Rp at q ⊢; exact q
  | .tup xs, _, q => by
    unfold Rp at q ⊢
    obtain ⟨a, vs, e, s, r⟩ := q
    exact ⟨a, vs, e, sqT_mono h.fz s, RpL.mono h r⟩
  | .lst xs, _, q => by
    unfold Rp at q ⊢
    obtain ⟨a, vs, e, s, r⟩ := q
    exact ⟨a, vs, e, sqL_mono h.fz s, RpL.mono h r⟩
  | .dk xs, _, q => by
    unfold Rp at q ⊢
    obtain ⟨a, kvs, e, s, r⟩ := q
    exact ⟨a, kvs, e, rd_mono h.fz s, RpL.mono h r⟩
  | .draw, _, q => by
    unfold Rp at q ⊢
    obtain ⟨da, la, ca, e, r⟩ := q
    exact ⟨da, la, ca, h.dr _ e, r⟩
theorem RpL.mono (h : GLe G G') : ∀ {ds : List D} {vs : List V}, RpL K G ds vs → RpL K G' ds vs
  | [], _, q => by unfold RpL at q ⊢; exact q
  | d :: ds, _, q => by
    unfold RpL at q ⊢
    obtain ⟨v, r, e, q1, q2⟩ := q
    exact ⟨v, r, e, Rp.mono h q1, RpL.mono h q2⟩
end
theorem RpL.nil : RpL K G [] [] := by unfold RpL; rfl
theorem RpL.cons {d : D} {ds : List D} {v : V} {vs : List V} (h : Rp K G d v) (k : RpL K G ds vs) : RpL K G (d :: ds) (v :: vs) := by
  unfold RpL; exact ⟨v, vs, rfl, h, k⟩
theorem RpL.length : ∀ {ds : List D} {vs : List V}, RpL K G ds vs → ds.length = vs.length
  | [], _, q => by unfold RpL at q; subst q; rfl
  | d :: ds, _, q => by
    unfold RpL at q
    obtain ⟨v, r, e, _, q2⟩ := q
    subst e
    simp [RpL.length q2]
theorem RpL.get : ∀ {ds : List D} {vs : List V} {i : Nat} {d : D}, RpL K G ds vs → ds[i]? = some d → ∃ v, vs[i]? = some v ∧ Rp K G d v
  | [], _, _, _, _, h => by simp at h
  | d :: ds, _, 0, d', q, h => by
    unfold RpL at q
    obtain ⟨v, r, e, q1, _⟩ := q
    subst e
    simp at h
    subst h
    exact ⟨v, rfl, q1⟩
  | d :: ds, _, i + 1, d', q, h => by
    unfold RpL at q
    obtain ⟨v, r, e, _, q2⟩ := q
    subst e
    simp at h
    obtain ⟨u, hu, ru⟩ := RpL.get q2 h
    exact ⟨u, by simpa using hu, ru⟩
theorem RpL.getv {ds : List D} {vs : List V} {i : Nat} {v : V} (q : RpL K G ds vs) (h : vs[i]? = some v) : ∃ d, ds[i]? = some d ∧ Rp K G d v := by
  have hl := q.length
  obtain ⟨hi, e⟩ := List.getElem?_eq_some_iff.mp h
  have hd : ds[i]? = some ds[i] := List.getElem?_eq_getElem (by omega)
  obtain ⟨u, hu, ru⟩ := q.get hd
  rw [h] at hu
  cases hu
  exact ⟨_, hd, ru⟩
theorem RpL.append : ∀ {ds es : List D} {vs us : List V}, RpL K G ds vs → RpL K G es us → RpL K G (ds ++ es) (vs ++ us)
  | [], _, _, _, q, k => by unfold RpL at q; subst q; exact k
  | d :: ds, _, _, _, q, k => by
    unfold RpL at q
    obtain ⟨v, r, e, q1, q2⟩ := q
    subst e
    exact RpL.cons q1 (RpL.append q2 k)
theorem RpL.ints : ∀ {ns : List Int}, RpL K G (ns.map .int) (ns.map .int)
  | [] => RpL.nil
  | n :: ns => RpL.cons (by unfold Rp; rfl) RpL.ints
theorem RpL.ints_eq : ∀ {ns : List Int} {vs : List V}, RpL K G (ns.map .int) vs → vs = ns.map .int
  | [], _, q => by simp only [List.map_nil] at q; unfold RpL at q; exact q
  | n :: ns, _, q => by
    simp only [List.map_cons] at q
    unfold RpL at q
    obtain ⟨v, r, e, q1, q2⟩ := q
    unfold Rp at q1
    subst e q1
    rw [RpL.ints_eq q2]; rfl
theorem Rp.non_ : Rp K G .non .non := by unfold Rp; rfl
theorem Rp.bl_ {b : Bool} : Rp K G (.bl b) (.bl b) := by unfold Rp; rfl
theorem Rp.int_ {i : Int} : Rp K G (.int i) (.int i) := by unfold Rp; rfl
theorem Rp.str_ {x : Str} : Rp K G (.str x) (.str x) := by unfold Rp; rfl
theorem Rp.tup_ {a : Addr} {vs : List V} {xs : List D} (s : SqT K G.Fz a vs) (r : RpL K G xs vs) : Rp K G (.tup xs) (.ref a) := by unfold Rp; exact ⟨a, vs, rfl, s, r⟩
theorem Rp.lst_ {a : Addr} {vs : List V} {xs : List D} (s : SqL K G.Fz a vs) (r : RpL K G xs vs) : Rp K G (.lst xs) (.ref a) := by unfold Rp; exact ⟨a, vs, rfl, s, r⟩
theorem Rp.of_bl {b : Bool} {v : V} (h : Rp K G (.bl b) v) : v = .bl b := by unfold Rp at h; exact h
theorem Rp.of_int {i : Int} {v : V} (h : Rp K G (.int i) v) : v = .int i := by unfold Rp at h; exact h
theorem Rp.of_str {x : Str} {v : V} (h : Rp K G (.str x) v) : v = .str x := by unfold Rp at h; exact h
theorem Rp.of_non {v : V} (h : Rp K G .non v) : v = .non := by unfold Rp at h; exact h
theorem Rp.of_tup {xs : List D} {v : V} (h : Rp K G (.tup xs) v) : ∃ a vs, v = .ref a ∧ SqT K G.Fz a vs ∧ RpL K G xs vs := by unfold Rp at h; exact h
theorem Rp.of_lst {xs : List D} {v : V} (h : Rp K G (.lst xs) v) : ∃ a vs, v = .ref a ∧ SqL K G.Fz a vs ∧ RpL K G xs vs := by unfold Rp at h; exact h
theorem Rp.of_dk {xs : List D} {v : V} (h : Rp K G (.dk xs) v) : ∃ a kvs, v = .ref a ∧ Rd G.Fz a (.dK kvs) ∧ RpL K G xs (flatV kvs) := by unfold Rp at h; exact h
theorem Rp.of_draw {v : V} (h : Rp K G .draw v) : ∃ da la ca, G.dr = some (da, la, ca) ∧ v = .ref da := by unfold Rp at h; exact h
end

def Low (G : Gh) (H : Hp) : Prop := ∀ a o, G.Fz a = some o → H a = some o

mutual
/-- data as the library's == takes it -/
theorem Rp.dp {K : PySem.W.Frag} {G : Gh} {H : Hp} (l : Low G H) : ∀ {d : D} {v : V}, d.py.canLay0 = true → Rp K G d v → Dp K H v d.py
  | .non, _, _, q => by rw [q.of_non]; unfold D.py; exact .non
  | .bl _, _, _, q => by rw [q.of_bl]; unfold D.py; exact .bl _
  | .int _, _, _, q => by rw [q.of_int]; unfold D.py; exact .int _
  | .str _, _, _, q => by rw [q.of_str]; unfold D.py; exact .str _
  | .tup xs, _, c, q => by
    obtain ⟨a, vs, e, s, r⟩ := q.of_tup
    subst e
    unfold D.py at c ⊢
    exact .tup (sqT_mono l s) (RpL.dp l (by simpa [PyData.canLay0] using c) r)
  | .lst xs, _, c, q => by
    obtain ⟨a, vs, e, s, r⟩ := q.of_lst
    subst e
    unfold D.py at c ⊢
    exact .lst (sqL_mono l s) (RpL.dp l (by simpa [PyData.canLay0] using c) r)
  | .dk _, _, c, _ => by unfold D.py at c; simp [PyData.canLay0] at c
  | .draw, _, c, _ => by unfold D.py at c; simp [PyData.canLay0] at c
theorem RpL.dp {K : PySem.W.Frag} {G : Gh} {H : Hp} (l : Low G H) : ∀ {ds : List D} {vs : List V}, PyData.canLayAll0 (D.pyL ds) = true → RpL K G ds vs → DpAll K H vs (D.pyL ds)
  | [], _, _, q => by unfold RpL at q; subst q; unfold D.pyL; exact .nil
  | d :: ds, _, c, q => by
    unfold RpL at q
    obtain ⟨v, r, e, q1, q2⟩ := q
    subst e
    unfold D.pyL at c ⊢
    have c' : d.py.canLay0 = true ∧ PyData.canLayAll0 (D.pyL ds) = true := by simpa [PyData.canLayAll0] using c
    exact .cons (Rp.dp l c'.1 q1) (RpL.dp l c'.2 q2)
end
end EV

set_option Elab.async false
set_option linter.all false
set_option maxRecDepth 100000
set_option maxHeartbeats 4000000
namespace EV
open PySem L2

def kLarge : Key := Sum.inr "large"
def kRest : Key := Sum.inr "rest"
def kCells : Key := Sum.inr "cells"
def kTurn : Key := Sum.inr "turn"
def drawKvs (la ca : Addr) (m : Draw) : List (Key × V) := [(kLarge, .ref la), (kRest, .int m.rest), (kCells, .ref ca), (kTurn, .int m.turn)]

/-- the mutable store stands in the heap -/
def RelM (K : PySem.W.Frag) (G : Gh) (H : Hp) : Mst → Prop
  | none => G.dr = none
  | some m => ∃ da la ca, G.dr = some (da, la, ca) ∧ H da = some (.dK (drawKvs la ca m)) ∧ H la = some (.lst (m.large.map V.int)) ∧
      SqL K G.Fz ca (m.cells.map V.int) ∧ G.Fz da = none ∧ G.Fz la = none

structure Step (K : PySem.W.Frag) (G : Gh) (H : Hp) (G' : Gh) (M' : Mst) (H' : Hp) : Prop where
  le : GLe G G'
  new : ∀ a o, G'.Fz a = some o → G.Fz a = some o ∨ H a = none
  fr : ∀ a o, H a = some o → a ∉ drA G → H' a = some o
  nd : ∀ a, a ∈ drA G' → a ∈ drA G ∨ H a = none
  kp : ∀ a, H a ≠ none → H' a ≠ none
  low : Low G' H'
  mst : RelM K G' H' M'

section
variable {K : PySem.W.Frag} {G G' G1 G2 : Gh} {H H' H1 H2 : Hp} {M M' M1 M2 : Mst}
theorem drA_le (h : GLe G G') {a : Addr} (m : a ∈ drA G) : a ∈ drA G' := by
  unfold drA at m ⊢
  cases e : G.dr with
  | none => rw [e] at m; simp at m
  | some x =>
    obtain ⟨da, la, ca⟩ := x
    rw [e] at m
    rw [h.dr _ e]
    exact m
theorem drA_fz (r : RelM K G H M) {a : Addr} (m : a ∈ drA G) : G.Fz a = none ∧ H a ≠ none := by
  cases M with
  | none =>
    have r : G.dr = none := r
    unfold drA at m
    rw [r] at m
    simp at m
  | some md =>
    obtain ⟨da, la, ca, e, h1, h2, _, h3, h4⟩ := r
    unfold drA at m
    rw [e] at m
    have m' : a = da ∨ a = la := by simpa using m
    rcases m' with rfl | rfl
    · exact ⟨h3, by rw [h1]; exact fun z => by cases z⟩
    · exact ⟨h4, by rw [h2]; exact fun z => by cases z⟩
theorem Step.refl (l : Low G H) (r : RelM K G H M) : Step K G H G M H :=
  ⟨GLe.refl G, fun _ _ h => .inl h, fun _ _ h _ => h, fun _ h => .inl h, fun _ h => h, l, r⟩
theorem Step.trans (a : Step K G H G1 M1 H1) (b : Step K G1 H1 G2 M2 H2) : Step K G H G2 M2 H2 := by
  refine ⟨a.le.trans b.le, fun x o h => ?_, fun x o h hx => ?_, fun x h => ?_, fun x h => b.kp x (a.kp x h), b.low, b.mst⟩
  · rcases b.new x o h with h | h
    · exact a.new x o h
    · refine .inr ?_
      cases e : H x with
      | none => rfl
      | some u => exact absurd h (a.kp x (by rw [e]; exact fun z => by cases z))
  · have h1 := a.fr x o h hx
    refine b.fr x o h1 fun m => ?_
    rcases a.nd x m with m | m
    · exact hx m
    · rw [m] at h; cases h
  · rcases b.nd x h with m | m
    · exact a.nd x m
    · refine .inr ?_
      cases e : H x with
      | none => rfl
      | some u => exact absurd m (a.kp x (by rw [e]; exact fun z => by cases z))

/-- an object that stood, outside the draws and not frozen, stands so still -/
theorem Step.owned (s : Step K G H G' M' H') {a : Addr} {o : HO} (h : H a = some o) (f : G.Fz a = none) (d : a ∉ drA G) : H' a = some o ∧ G'.Fz a = none ∧ a ∉ drA G' := by
  refine ⟨s.fr a o h d, ?_, fun m => ?_⟩
  · cases e : G'.Fz a with
    | none => rfl
    | some u =>
      rcases s.new a u e with z | z
      · rw [f] at z; cases z
      · rw [h] at z; cases z
  · rcases s.nd a m with z | z
    · exact d z
    · rw [h] at z; cases z

theorem RelM.set_new {p : Addr} {o : HO} (r : RelM K G H M) (hp : H p = none) : RelM K G (upd H p o) M := by
  cases M with
  | none => exact r
  | some m =>
    obtain ⟨da, la, ca, e, h1, h2, h3, h4, h5⟩ := r
    exact ⟨da, la, ca, e, by rw [upd_ne (ne_of_none h1 hp)]; exact h1, by rw [upd_ne (ne_of_none h2 hp)]; exact h2, h3, h4, h5⟩
theorem RelM.set_own {p : Addr} {o : HO} (r : RelM K G H M) (hp : p ∉ drA G) : RelM K G (upd H p o) M := by
  cases M with
  | none => exact r
  | some m =>
    obtain ⟨da, la, ca, e, h1, h2, h3, h4, h5⟩ := r
    have h : ∀ q, q = da ∨ q = la → q ≠ p := fun q hq z => hp (by unfold drA; rw [e]; subst z; simpa using hq)
    exact ⟨da, la, ca, e, by rw [upd_ne (h _ (.inl rfl))]; exact h1, by rw [upd_ne (h _ (.inr rfl))]; exact h2, h3, h4, h5⟩
def Gh.add (G : Gh) (p : Addr) (o : HO) : Gh := { G with Fz := upd G.Fz p o }
theorem GLe.add {p : Addr} {o : HO} (h : G.Fz p = none) : GLe G (G.add p o) := ⟨fun a u e => by
  show upd G.Fz p o a = some u
  rw [upd_ne (ne_of_none e h)]; exact e, fun _ e => e⟩
theorem drA_add {p : Addr} {o : HO} : drA (G.add p o) = drA G := rfl
theorem RelM.add {p : Addr} {o : HO} (r : RelM K G H M) (h : G.Fz p = none) (hp : p ∉ drA G) : RelM K (G.add p o) H M := by
  cases M with
  | none => exact r
  | some m =>
    obtain ⟨da, la, ca, e, h1, h2, h3, h4, h5⟩ := r
    have hh : ∀ q, q = da ∨ q = la → q ≠ p := fun q hq z => hp (by unfold drA; rw [e]; subst z; simpa using hq)
    refine ⟨da, la, ca, e, h1, h2, sqL_mono (GLe.add h).fz h3, ?_, ?_⟩
    · show upd G.Fz p o da = none
      rw [upd_ne (hh _ (.inl rfl))]; exact h4
    · show upd G.Fz p o la = none
      rw [upd_ne (hh _ (.inr rfl))]; exact h5
theorem Low.fz_none (l : Low G H) {p : Addr} (h : H p = none) : G.Fz p = none := by
  cases e : G.Fz p with
  | none => rfl
  | some u => rw [l p u e] at h; cases h
theorem notin_dr (r : RelM K G H M) {p : Addr} (h : H p = none) : p ∉ drA G := fun m => (drA_fz r m).2 h
/-- a new object is laid and not frozen -/
theorem Step.lay (l : Low G H) (r : RelM K G H M) {p : Addr} {o : HO} (hp : H p = none) : Step K G H G M (upd H p o) :=
  ⟨GLe.refl G, fun _ _ h => .inl h, fun a u h _ => by rw [upd_ne (ne_of_none h hp)]; exact h, fun _ h => .inl h, fun a h => by
    by_cases e : a = p
    · subst e; rw [upd_same]; exact fun z => by cases z
    · rw [upd_ne e]; exact h, fun a u h => by rw [upd_ne (ne_of_none (l a u h) hp)]; exact l a u h, r.set_new hp⟩
/-- an object of ours is frozen -/
theorem Step.freeze (l : Low G H) (r : RelM K G H M) {p : Addr} {o : HO} {H0 : Hp} {G0 : Gh} (s : Step K G0 H0 G M H) (h0 : H0 p = none) (hp : H p = some o) (f : G.Fz p = none) (d : p ∉ drA G) : Step K G0 H0 (G.add p o) M H := by
  refine ⟨s.le.trans (GLe.add f), fun a u h => ?_, s.fr, s.nd, s.kp, fun a u h => ?_, r.add f d⟩
  · by_cases e : a = p
    · exact .inr (e ▸ h0)
    · have h : upd G.Fz p o a = some u := h
      rw [upd_ne e] at h
      exact s.new a u h
  · have h : upd G.Fz p o a = some u := h
    by_cases e : a = p
    · subst e; rw [upd_same] at h; rw [← h]; exact hp
    · rw [upd_ne e] at h; exact l a u h
end

/-! ### slots -/
/-- what a slot may own: an object of this frame alone, that is changed in place -/
inductive OwnC where
  | lst (xs : List D)
  | dk (xs : List D)
inductive Slot where
  | val (d : D)
  | own (o : OwnC)
def OwnC.d : OwnC → D
  | .lst xs => .lst xs
  | .dk xs => .dk xs
def OwnR (K : PySem.W.Frag) (G : Gh) : OwnC → HO → Prop
  | .lst xs, u => ∃ vs, u = .lst vs ∧ RpL K G xs vs
  | .dk xs, u => ∃ kvs, u = .dK kvs ∧ RpL K G xs (flatV kvs)
theorem OwnR.mono {K : PySem.W.Frag} {G G' : Gh} (h : GLe G G') : ∀ {o : OwnC} {u : HO}, OwnR K G o u → OwnR K G' o u
  | .lst _, _, ⟨vs, e, r⟩ => ⟨vs, e, r.mono h⟩
  | .dk _, _, ⟨kvs, e, r⟩ => ⟨kvs, e, r.mono h⟩
abbrev Env := List (Option Slot)

structure Slots (K : PySem.W.Frag) (G : Gh) (H0 H : Hp) (ρ : Env) (σ : L2.St) : Prop where
  len : ρ.length = σ.length
  val : ∀ (i : Nat) (d : D), ρ[i]? = some (some (Slot.val d)) → ∃ v, σ[i]? = some (some v) ∧ Rp K G d v
  own : ∀ (i : Nat) (xs : OwnC), ρ[i]? = some (some (Slot.own xs)) → ∃ a u, σ[i]? = some (some (.ref a)) ∧ H a = some u ∧ H0 a = none ∧ G.Fz a = none ∧ a ∉ drA G ∧ OwnR K G xs u
  apart : ∀ (i j : Nat) (xs ys : OwnC) (a : Addr), i ≠ j → ρ[i]? = some (some (Slot.own xs)) → ρ[j]? = some (some (Slot.own ys)) → σ[i]? = some (some (.ref a)) → σ[j]? = some (some (.ref a)) → False

section
variable {K : PySem.W.Frag} {G G' : Gh} {H0 H H' : Hp} {ρ : Env} {σ : L2.St} {M' : Mst}
theorem Slots.step (S : Slots K G H0 H ρ σ) (s : Step K G H G' M' H') : Slots K G' H0 H' ρ σ := by
  refine ⟨S.len, fun i d h => ?_, fun i xs h => ?_, S.apart⟩
  · obtain ⟨v, e, r⟩ := S.val i d h
    exact ⟨v, e, r.mono s.le⟩
  · obtain ⟨a, vs, e, h1, h0, h2, h3, r⟩ := S.own i xs h
    obtain ⟨k1, k2, k3⟩ := s.owned h1 h2 h3
    exact ⟨a, vs, e, k1, h0, k2, k3, r.mono s.le⟩
/-- a value is stored -/
theorem Slots.set (S : Slots K G H0 H ρ σ) {i : Nat} {d : D} {v : V} (r : Rp K G d v) : Slots K G H0 H (ρ.set i (some (Slot.val d))) (σ.set i (some v)) := by
  refine ⟨by simp [S.len], fun j d' h => ?_, fun j xs h => ?_, fun j k xs ys a hjk h1 h2 h3 h4 => ?_⟩
  · by_cases e : i = j
    · subst e
      by_cases hi : i < ρ.length
      · rw [List.getElem?_set_self hi] at h
        cases h
        exact ⟨v, List.getElem?_set_self (by rw [← S.len]; exact hi), r⟩
      · rw [List.getElem?_eq_none (by simpa using hi)] at h; cases h
    · rw [List.getElem?_set_ne e] at h
      rw [List.getElem?_set_ne e]
      exact S.val j d' h
  · by_cases e : i = j
    · subst e
      by_cases hi : i < ρ.length
      · rw [List.getElem?_set_self hi] at h; cases h
      · rw [List.getElem?_eq_none (by simpa using hi)] at h; cases h
    · rw [List.getElem?_set_ne e] at h
      rw [List.getElem?_set_ne e]
      exact S.own j xs h
  · have n : ∀ (m : Nat) (zs : OwnC), (ρ.set i (some (Slot.val d)))[m]? = some (some (Slot.own zs)) → i ≠ m := fun m zs h e => by
      subst e
      by_cases hi : i < ρ.length
      · rw [List.getElem?_set_self hi] at h; cases h
      · rw [List.getElem?_eq_none (by simpa using hi)] at h; cases h
    have n1 := n j xs h1
    have n2 := n k ys h2
    rw [List.getElem?_set_ne n1] at h1 h3
    rw [List.getElem?_set_ne n2] at h2 h4
    exact S.apart j k xs ys a hjk h1 h2 h3 h4
/-- a fresh list is stored -/
theorem Slots.setOwn (S : Slots K G H0 H ρ σ) {i : Nat} {xs : OwnC} {a : Addr} {vs : HO} (h0 : H0 a = none) (ha : H a = some vs) (hf : G.Fz a = none) (hd : a ∉ drA G) (r : OwnR K G xs vs)
    (ap : ∀ (j : Nat) (ys : OwnC), ρ[j]? = some (some (Slot.own ys)) → σ[j]? ≠ some (some (V.ref a))) : Slots K G H0 H (ρ.set i (some (Slot.own xs))) (σ.set i (some (.ref a))) := by
  have key : ∀ (m : Nat) (zs : OwnC), i ≠ m → (ρ.set i (some (Slot.own xs)))[m]? = some (some (Slot.own zs)) → ρ[m]? = some (some (Slot.own zs)) := fun m zs e h => by rw [List.getElem?_set_ne e] at h; exact h
  refine ⟨by simp [S.len], fun j d' h => ?_, fun j ys h => ?_, fun j k ys zs b hjk h1 h2 h3 h4 => ?_⟩
  · by_cases e : i = j
    · subst e
      by_cases hi : i < ρ.length
      · rw [List.getElem?_set_self hi] at h; cases h
      · rw [List.getElem?_eq_none (by simpa using hi)] at h; cases h
    · rw [List.getElem?_set_ne e] at h
      rw [List.getElem?_set_ne e]
      exact S.val j d' h
  · by_cases e : i = j
    · subst e
      by_cases hi : i < ρ.length
      · rw [List.getElem?_set_self hi] at h
        cases h
        exact ⟨a, vs, List.getElem?_set_self (by rw [← S.len]; exact hi), ha, h0, hf, hd, r⟩
      · rw [List.getElem?_eq_none (by simpa using hi)] at h; cases h
    · rw [List.getElem?_set_ne e] at h
      rw [List.getElem?_set_ne e]
      exact S.own j ys h
  · by_cases ej : i = j
    · subst ej
      have hk : i ≠ k := hjk
      have h2' := key k zs hk h2
      have hi : i < σ.length := by
        by_cases hi : i < σ.length
        · exact hi
        · rw [List.getElem?_eq_none (by simpa using hi)] at h3; cases h3
      rw [List.getElem?_set_self hi] at h3
      cases h3
      rw [List.getElem?_set_ne hk] at h4
      exact ap k zs h2' h4
    · have h1' := key j ys ej h1
      rw [List.getElem?_set_ne ej] at h3
      by_cases ek : i = k
      · subst ek
        have hi : i < σ.length := by
          by_cases hi : i < σ.length
          · exact hi
          · rw [List.getElem?_eq_none (by simpa using hi)] at h4; cases h4
        rw [List.getElem?_set_self hi] at h4
        cases h4
        exact ap j ys h1' h3
      · have h2' := key k zs ek h2
        rw [List.getElem?_set_ne ek] at h4
        exact S.apart j k ys zs b hjk h1' h2' h3 h4
/-- slots forgotten -/
def wipeR (ρ : Env) : List Nat → Env
  | [] => ρ
  | v :: vs => (wipeR ρ vs).set v none
theorem wipeR_length (ρ : Env) : ∀ vs, (wipeR ρ vs).length = ρ.length
  | [] => rfl
  | v :: vs => by unfold wipeR; rw [List.length_set, wipeR_length ρ vs]
theorem Slots.forget (S : Slots K G H0 H ρ σ) (i : Nat) : Slots K G H0 H (ρ.set i none) (σ.set i none) := by
  have key : ∀ (m : Nat) (s : Slot), (ρ.set i none)[m]? = some (some s) → i ≠ m := fun m s h e => by
    subst e
    by_cases hi : i < ρ.length
    · rw [List.getElem?_set_self hi] at h; cases h
    · rw [List.getElem?_eq_none (by simpa using hi)] at h; cases h
  refine ⟨by simp [S.len], fun j d' h => ?_, fun j xs h => ?_, fun j k xs ys a hjk h1 h2 h3 h4 => ?_⟩
  · have e := key j _ h
    rw [List.getElem?_set_ne e] at h ⊢
    exact S.val j d' h
  · have e := key j _ h
    rw [List.getElem?_set_ne e] at h ⊢
    exact S.own j xs h
  · have e1 := key j _ h1
    have e2 := key k _ h2
    rw [List.getElem?_set_ne e1] at h1 h3
    rw [List.getElem?_set_ne e2] at h2 h4
    exact S.apart j k xs ys a hjk h1 h2 h3 h4
theorem Slots.wipe (S : Slots K G H0 H ρ σ) : ∀ vs : List Nat, Slots K G H0 H (wipeR ρ vs) (L2.wipe σ vs)
  | [] => S
  | v :: vs => by
    unfold wipeR L2.wipe
    exact (S.wipe vs).forget v
end

/-- the state of a def's frame, within an expression -/
structure Rel (K : PySem.W.Frag) (H0 : Hp) (ρ : Env) (M : Mst) (G : Gh) (σ : L2.St) (H : Hp) : Prop where
  low : Low G H
  mst : RelM K G H M
  slots : Slots K G H0 H ρ σ
theorem Rel.step {K : PySem.W.Frag} {H0 : Hp} {ρ : Env} {M M' : Mst} {G G' : Gh} {σ : L2.St} {H H' : Hp} (R : Rel K H0 ρ M G σ H) (s : Step K G H G' M' H') : Rel K H0 ρ M' G' σ H' :=
  ⟨s.low, s.mst, R.slots.step s⟩
theorem Rel.refl {K : PySem.W.Frag} {H0 : Hp} {ρ : Env} {M : Mst} {G : Gh} {σ : L2.St} {H : Hp} (R : Rel K H0 ρ M G σ H) : Step K G H G M H := Step.refl R.low R.mst
end EV

set_option Elab.async false
set_option linter.all false
set_option maxRecDepth 100000
set_option maxHeartbeats 4000000
/-! The core language and its evaluator. -/
namespace EV
open PySem L2

inductive Bop | add | sub | mul | fdiv | mod | pow deriving DecidableEq
inductive Cop | eq | ne | lt | le | gt | ge | isN | notN | inn | nin deriving DecidableEq
inductive Blt | len | abs | min2 | max2 | sumL | allL | anyL | int1 | tuple1 | list1 | isInt | isBool | isTuple | isList | gcd2 | tupZip3 deriving DecidableEq
inductive DK | rest | turn | cells deriving DecidableEq

inductive Tgt | name (i : Nat) | tup (ts : List Tgt)

mutual
inductive E where
  | var (i : Nat) | const (d : D)
  | bin (o : Bop) (a b : E) | neg (a : E) | notV (a : E) | cmp (o : Cop) (a b : E) | chain (o p : Cop) (a b c : E)
  | andV (a b : E) | orV (a b : E) | ite (c a b : E) | tru (a : E)
  | tup (es : Es) | lst (es : Es) | idx (a b : E)
  | call (f : Nat) (es : Es) | blt (b : Blt) (es : Es)
  | comp (elt : E) (t : Tgt) (it : Itr) (ifs : Es) (own : List Nat)
  | dget (e : E) (k : DK) | dne (e : E) | dpop (e : E)
inductive Es where
  | nil | cons (e : E) (es : Es)
inductive Itr where
  | seq (e : E) | rng1 (a : E) | rng2 (a b : E) | rngD (a b : E) | zip2 (a b : E) | enum (a : E)
end

/-- numbers whose product is reckoned: one of them small, or both of at most 100000 bits -/
def LIM : Nat := 2 ^ 100000
def mulOk (a b : Int) : Bool := decide (b.natAbs < 2 ^ 64) || decide (a.natAbs < 2 ^ 64) || (decide (a.natAbs < LIM) && decide (b.natAbs < LIM))
def divOk (b : Int) : Bool := decide (0 < b) && decide (b.natAbs < 2 ^ 8000)
def powOk (a b : Int) : Bool := decide (0 ≤ b) && decide ((Builtin.Int.intBits a : Int) * b ≤ 2 ^ 27)

def truthD : D → Option Bool
  | .non => some false
  | .bl b => some b
  | .int i => some (i != 0)
  | .lst xs => some (!xs.isEmpty)
  | .tup xs => some (!xs.isEmpty)
  | _ => none

def binD : Bop → D → D → Option D
  | .add, .int a, .int b => some (.int (a + b))
  | .add, .tup xs, .tup ys => if !xs.isEmpty && decide (xs.length + ys.length ≤ 1000000) then some (.tup (xs ++ ys)) else none
  | .sub, .int a, .int b => some (.int (a - b))
  | .mul, .int a, .int b => if mulOk a b then some (.int (a * b)) else none
  | .fdiv, .int a, .int b => if divOk b then some (.int (a / b)) else none
  | .mod, .int a, .int b => if decide (0 < b) then some (.int (a % b)) else none
  | .pow, .int a, .int b => if powOk a b then some (.int (a ^ b.toNat)) else none
  | _, _, _ => none

def eqD (x y : D) : Option Bool := if SeqAt.shaped x.py && SeqAt.shaped y.py then some (PyData.eqv x.py y.py) else none
def keyD : D → Option Key
  | .int i => some (.inl i)
  | .str x => some (.inr x)
  | _ => none
def lookD (k : Key) : List D → Option D
  | kd :: d :: r => if keyD kd = some k then some d else lookD k r
  | _ => none
def toV : D → Option V
  | .non => some .non | .bl b => some (.bl b) | .int i => some (.int i) | .str x => some (.str x) | _ => none
def allV : List D → Option (List V)
  | [] => some []
  | d :: ds => match toV d, allV ds with
    | some v, some vs => some (v :: vs)
    | _, _ => none
def inD (x y : D) : Option Bool := match y with
  | .dk kvs => (keyD x).map fun k => (lookD k kvs).isSome
  | .lst ys | .tup ys => match toV x, allV ys with
    | some v, some vs => if L2.flatV v && vs.all L2.flatV then some (L2.inV v vs) else none
    | _, _ => none
  | _ => none
def cmpD : Cop → D → D → Option Bool
  | .eq, x, y => eqD x y
  | .ne, x, y => (eqD x y).map not
  | .lt, .int a, .int b => some (decide (a < b))
  | .le, .int a, .int b => some (decide (a ≤ b))
  | .gt, .int a, .int b => some (decide (b < a))
  | .ge, .int a, .int b => some (decide (b ≤ a))
  | .isN, x, .non => match x with
    | .non => some true
    | .draw => none
    | _ => some false
  | .notN, x, .non => match x with
    | .non => some false
    | .draw => none
    | _ => some true
  | .inn, x, y => inD x y
  | .nin, x, y => (inD x y).map not
  | _, _, _ => none

def idxD : D → D → Option D
  | .lst xs, .int i => L2.atI xs i
  | .tup xs, .int i => L2.atI xs i
  | .dk kvs, k => (keyD k).bind fun k => lookD k kvs
  | _, _ => none

def allInt : List D → Option (List Int)
  | [] => some []
  | .int i :: r => (allInt r).map (i :: ·)
  | _ => none
def allBl : List D → Option (List Bool)
  | [] => some []
  | .bl i :: r => (allBl r).map (i :: ·)
  | _ => none
def zip3 : List D → List D → List D → List D
  | x :: xs, y :: ys, z :: zs => .tup [x, y, z] :: zip3 xs ys zs
  | _, _, _ => []

/-- the kinds that isinstance is asked of -/
def isD (c : Blt) : D → Option Bool
  | .non => some false
  | .bl _ => some (decide (c = .isInt) || decide (c = .isBool))
  | .int _ => some (decide (c = .isInt))
  | .str _ => some false
  | .tup _ => some (decide (c = .isTuple))
  | .lst _ => some (decide (c = .isList))
  | _ => none

def bltD : Blt → List D → Option D
  | .len, [.lst xs] => some (.int xs.length)
  | .len, [.tup xs] => some (.int xs.length)
  | .abs, [.int i] => some (.int (if i < 0 then -i else i))
  | .min2, [.int i, .int j] => some (.int (if j < i then j else i))
  | .max2, [.int i, .int j] => some (.int (if j > i then j else i))
  | .sumL, [.lst xs] => (allInt xs).map fun ns => .int ns.sum
  | .allL, [.lst xs] => (allBl xs).map fun bs => .bl (bs.all id)
  | .anyL, [.lst xs] => (allBl xs).map fun bs => .bl (bs.any id)
  | .int1, [.int i] => some (.int i)
  | .int1, [.bl b] => some (.int (if b then 1 else 0))
  | .tuple1, [.lst xs] => some (.tup xs)
  | .tuple1, [.tup xs] => some (.tup xs)
  | .list1, [.lst xs] => some (.lst xs)
  | .list1, [.tup xs] => some (.lst xs)
  | .isInt, [x] => (isD .isInt x).map .bl
  | .isBool, [x] => (isD .isBool x).map .bl
  | .isTuple, [x] => (isD .isTuple x).map .bl
  | .isList, [x] => (isD .isList x).map .bl
  | .gcd2, [.int a, .int b] => some (.int ((Nat.gcd a.natAbs b.natAbs : Nat) : Int))
  | .tupZip3, [.tup a, .tup b, .tup c] => if a.length = c.length ∧ b.length = c.length ∧ c.length ≤ 1000000 then some (.tup (zip3 a b c)) else none
  | _, _ => none

mutual
def bindT : Tgt → D → Env → Option Env
  | .name i, d, ρ => some (ρ.set i (some (.val d)))
  | .tup ts, .tup ds, ρ => bindTs ts ds ρ
  | .tup _, _, _ => none
def bindTs : List Tgt → List D → Env → Option Env
  | [], [], ρ => some ρ
  | t :: ts, d :: ds, ρ => match bindT t d ρ with
    | some ρ' => bindTs ts ds ρ'
    | none => none
  | _, _, _ => none
end

def rngL (lo : Int) (n : Nat) : List D := (List.range n).map fun (i : Nat) => .int (lo + (i : Int))
def rngDL (lo : Int) (n : Nat) : List D := (List.range n).map fun (i : Nat) => .int (lo + (i : Nat) * (-1))
def zip2L : List D → List D → List D
  | x :: xs, y :: ys => .tup [x, y] :: zip2L xs ys
  | _, _ => []
def enumL (k : Nat) : List D → List D
  | [] => []
  | x :: xs => .tup [.int (k : Int), x] :: enumL (k + 1) xs

/-- the loop of a comprehension -/
def cloop (f : D → Mst → Option (Option D × Mst)) : List D → Mst → Option (List D × Mst)
  | [], M => some ([], M)
  | d :: ds, M => match f d M with
    | none => none
    | some (o, M1) => match cloop f ds M1 with
      | none => none
      | some (r, M2) => some (match o with | some x => x :: r | none => r, M2)

abbrev Orc := Nat → List D → Mst → Option (D × Mst)

/-- behind a value -/
def bd {α : Type} (r : Option (D × Mst)) (k : D → Mst → Option α) : Option α := match r with
  | some (d, M) => k d M
  | none => none
def bdL {α : Type} (r : Option (List D × Mst)) (k : List D → Mst → Option α) : Option α := match r with
  | some (d, M) => k d M
  | none => none
def bdB {α : Type} (r : Option (Bool × Mst)) (k : Bool → Mst → Option α) : Option α := match r with
  | some (d, M) => k d M
  | none => none
def ret1 (o : Option D) (M : Mst) : Option (D × Mst) := match o with
  | some d => some (d, M)
  | none => none
def retB (o : Option Bool) (M : Mst) : Option (D × Mst) := match o with
  | some b => some (.bl b, M)
  | none => none
def bl? : D → Option Bool
  | .bl b => some b
  | _ => none

mutual
def ev (C : Orc) : E → Env → Mst → Option (D × Mst)
  | .var i, ρ, M => match ρ[i]? with
    | some (some (.val d)) => some (d, M)
    | _ => none
  | .const d, _, M => some (d, M)
  | .bin o a b, ρ, M => bd (ev C a ρ M) fun x M1 => bd (ev C b ρ M1) fun y M2 => ret1 (binD o x y) M2
  | .neg a, ρ, M => bd (ev C a ρ M) fun x M1 => match x with
    | .int i => some (.int (-i), M1)
    | _ => none
  | .notV a, ρ, M => bd (ev C a ρ M) fun x M1 => match x with
    | .bl b => some (.bl (!b), M1)
    | _ => none
  | .cmp o a b, ρ, M => bd (ev C a ρ M) fun x M1 => bd (ev C b ρ M1) fun y M2 => retB (cmpD o x y) M2
  | .chain o p a b c, ρ, M => bd (ev C a ρ M) fun x M1 => bd (ev C b ρ M1) fun y M2 => match cmpD o x y with
    | some true => bd (ev C c ρ M2) fun z M3 => retB (cmpD p y z) M3
    | some false => some (.bl false, M2)
    | none => none
  | .andV a b, ρ, M => bd (ev C a ρ M) fun x M1 => match x with
    | .bl true => ev C b ρ M1
    | .bl false => some (.bl false, M1)
    | _ => none
  | .orV a b, ρ, M => bd (ev C a ρ M) fun x M1 => match x with
    | .bl true => some (.bl true, M1)
    | .bl false => ev C b ρ M1
    | _ => none
  | .ite c a b, ρ, M => bd (ev C c ρ M) fun x M1 => match x with
    | .bl true => ev C a ρ M1
    | .bl false => ev C b ρ M1
    | _ => none
  | .tru a, ρ, M => bd (ev C a ρ M) fun x M1 => retB (truthD x) M1
  | .tup es, ρ, M => bdL (evs C es ρ M) fun ds M1 => if ds.length ≤ 1000000 then some (.tup ds, M1) else none
  | .lst es, ρ, M => bdL (evs C es ρ M) fun ds M1 => if ds.length ≤ 1000000 then some (.lst ds, M1) else none
  | .idx a b, ρ, M => bd (ev C a ρ M) fun x M1 => bd (ev C b ρ M1) fun y M2 => ret1 (idxD x y) M2
  | .call f es, ρ, M => bdL (evs C es ρ M) fun ds M1 => C f ds M1
  | .blt b es, ρ, M => bdL (evs C es ρ M) fun ds M1 => ret1 (bltD b ds) M1
  | .comp elt t it ifs own, ρ, M => bdL (evI C it ρ M) fun items M1 =>
      bdL (cloop (fun d M => match bindT t d (wipeR ρ own) with
        | none => none
        | some ρ1 => bdB (evC C ifs ρ1 M) fun b M2 => match b with
          | true => bd (ev C elt ρ1 M2) fun y M3 => some (some y, M3)
          | false => some (none, M2)) items M1) fun ds M4 => some (.lst ds, M4)
  | .dget e k, ρ, M => bd (ev C e ρ M) fun x M1 => match x, M1 with
    | .draw, some m => some (match k with | .rest => .int m.rest | .turn => .int m.turn | .cells => .lst (m.cells.map .int), M1)
    | _, _ => none
  | .dne e, ρ, M => bd (ev C e ρ M) fun x M1 => match x, M1 with
    | .draw, some m => some (.bl (!m.large.isEmpty), M1)
    | _, _ => none
  | .dpop e, ρ, M => bd (ev C e ρ M) fun x M1 => match x, M1 with
    | .draw, some m => match m.large with
      | i :: r => some (.int i, some { m with large := r })
      | [] => none
    | _, _ => none
def evs (C : Orc) : Es → Env → Mst → Option (List D × Mst)
  | .nil, _, M => some ([], M)
  | .cons e es, ρ, M => bd (ev C e ρ M) fun d M1 => bdL (evs C es ρ M1) fun ds M2 => some (d :: ds, M2)
/-- a clause's tests -/
def evC (C : Orc) : Es → Env → Mst → Option (Bool × Mst)
  | .nil, _, M => some (true, M)
  | .cons e .nil, ρ, M => bd (ev C e ρ M) fun d M1 => match d with
    | .bl b => some (b, M1)
    | _ => none
  | _, _, _ => none
def evI (C : Orc) : Itr → Env → Mst → Option (List D × Mst)
  | .seq e, ρ, M => bd (ev C e ρ M) fun x M1 => match x with
    | .lst xs => some (xs, M1)
    | .tup xs => some (xs, M1)
    | _ => none
  | .rng1 a, ρ, M => bd (ev C a ρ M) fun x M1 => match x with
    | .int n => if -1000000 ≤ n ∧ n ≤ 1000000 then some (rngL 0 n.toNat, M1) else none
    | _ => none
  | .rng2 a b, ρ, M => bd (ev C a ρ M) fun x M1 => bd (ev C b ρ M1) fun y M2 => match x, y with
    | .int i, .int j => if (-1000000 ≤ i ∧ i ≤ 1000000) ∧ (-1000000 ≤ j ∧ j ≤ 1000000) then some (rngL i (j - i).toNat, M2) else none
    | _, _ => none
  | .rngD a b, ρ, M => bd (ev C a ρ M) fun x M1 => bd (ev C b ρ M1) fun y M2 => match x, y with
    | .int i, .int j => if (-1000000 ≤ i ∧ i ≤ 1000000) ∧ (-1000000 ≤ j ∧ j ≤ 1000000) then some (rngDL i (i - j).toNat, M2) else none
    | _, _ => none
  | .zip2 a b, ρ, M => bd (ev C a ρ M) fun x M1 => bd (ev C b ρ M1) fun y M2 => match x, y with
    | .tup xs, .tup ys => if xs.length ≤ 1000000 then some (zip2L xs ys, M2) else none
    | .lst xs, .lst ys => if xs.length ≤ 1000000 then some (zip2L xs ys, M2) else none
    | _, _ => none
  | .enum a, ρ, M => bd (ev C a ρ M) fun x M1 => match x with
    | .lst xs => if xs.length ≤ 1000000 then some (enumL 0 xs, M1) else none
    | _ => none
end
end EV

set_option Elab.async false
set_option linter.all false
set_option maxRecDepth 100000
set_option maxHeartbeats 4000000
/-! Statements, defs, calls. -/
namespace EV
open PySem L2

mutual
inductive S where
  | asg (t : Tgt) (e : E) (ns : List Nat)
  | asgF (i : Nat) (e : E) (ns : List Nat)
  | par (is : List Nat) (es : Es) (ns : List Nat)
  | newK (i : Nat)
  | expr (e : E) (ns : List Nat)
  | append (i : Nat) (e : E) (ns : List Nat)
  | dput (i : Nat) (k v : E) (ns : List Nat)
  | drawSet (d : Nat) (k : DK) (e : E) (ns : List Nat)
  | ret (e : E) (ns : List Nat)
  | retN
  | retDraw (i : Nat) (c : E) (ns : List Nat)
  | ite (c : E) (ns : List Nat) (a b : Ss)
  | for_ (t : Tgt) (it : Itr) (ns : List Nat) (body : Ss)
  | while_ (c : E) (ns : List Nat) (body : Ss)
  | brk | cnt | pass | never
inductive Ss where
  | nil | cons (s : S) (ss : Ss)
end

/-- owned slots of some numbers told as values: frozen -/
def view1 (ρ : Env) (i : Nat) : Env := match ρ[i]? with
  | some (some (.own o)) => ρ.set i (some (.val o.d))
  | _ => ρ
def view (ns : List Nat) (ρ : Env) : Env := ns.foldl view1 ρ

def scalarD : D → Bool
  | .non | .bl _ | .int _ | .str _ => true
  | _ => false
/-- the draws' cells are as they were -/
def sameCells : Mst → Mst → Bool
  | none, none => true
  | some m, some m' => decide (m.cells = m'.cells)
  | _, _ => false
/-- the slots behind an expression whose value is d -/
def behind (ns : List Nat) (ρ : Env) (d : D) (M M1 : Mst) : Env := if scalarD d && sameCells M M1 then ρ else view ns ρ
def behindL (ns : List Nat) (ρ : Env) (ds : List D) (M M1 : Mst) : Env := if ds.all scalarD && sameCells M M1 then ρ else view ns ρ

def freshE : E → Bool
  | .lst _ | .comp .. => true
  | .blt .list1 _ => true
  | _ => false

inductive Out where
  | nx (ρ : Env) | ret (d : D) | brk (ρ : Env) | cnt (ρ : Env)

def setAll : List Nat → List D → Env → Option Env
  | [], [], ρ => some ρ
  | i :: is, d :: ds, ρ => setAll is ds (ρ.set i (some (.val d)))
  | _, _, _ => none

def dkRep (k d : D) : List D → List D
  | k' :: d' :: r => k' :: (if keyD k' = keyD k then d else d') :: dkRep k d r
  | l => l
def dkHas (k : D) : List D → Bool
  | k' :: _ :: r => decide (keyD k' = keyD k) || dkHas k r
  | _ => false
def dkPut (k d : D) (xs : List D) : List D := if dkHas k xs then dkRep k d xs else xs ++ [k, d]

def floop (f : Env → D → Mst → Option (Out × Mst)) : List D → Env → Mst → Option (Out × Mst)
  | [], ρ, M => some (.nx ρ, M)
  | d :: ds, ρ, M => match f ρ d M with
    | some (.nx ρ', M') => floop f ds ρ' M'
    | some (.cnt ρ', M') => floop f ds ρ' M'
    | some (.brk ρ', M') => some (.nx ρ', M')
    | some (.ret d, M') => some (.ret d, M')
    | none => none
def wloop (t : Env → Mst → Option (Bool × Env × Mst)) (f : Env → Mst → Option (Out × Mst)) : Nat → Env → Mst → Option (Out × Mst)
  | 0, _, _ => none
  | n + 1, ρ, M => match t ρ M with
    | some (true, ρ1, M1) => (match f ρ1 M1 with
      | some (.nx ρ', M') => wloop t f n ρ' M'
      | some (.cnt ρ', M') => wloop t f n ρ' M'
      | some (.brk ρ', M') => some (.nx ρ', M')
      | some (.ret d, M') => some (.ret d, M')
      | none => none)
    | some (false, ρ1, M1) => some (.nx ρ1, M1)
    | none => none

/-- small things of a statement, each by itself -/
def exAsg (t : Tgt) (ns : List Nat) (ρ : Env) (d : D) (M M1 : Mst) : Option (Out × Mst) := match bindT t d (behind ns ρ d M M1) with
  | some ρ' => some (.nx ρ', M1)
  | none => none
def exAsgF (i : Nat) (ns : List Nat) (ρ : Env) (d : D) (M M1 : Mst) : Option (Out × Mst) := match d with
  | .lst xs => some (.nx ((behindL ns ρ xs M M1).set i (some (.own (.lst xs)))), M1)
  | _ => none
def exPar (is : List Nat) (ns : List Nat) (ρ : Env) (ds : List D) (M M1 : Mst) : Option (Out × Mst) := match setAll is ds (behindL ns ρ ds M M1) with
  | some ρ' => some (.nx ρ', M1)
  | none => none
def exApp (i : Nat) (ρ1 : Env) (d : D) (M1 : Mst) : Option (Out × Mst) := match ρ1[i]? with
  | some (some (.own (.lst xs))) => if xs.length < 1000000 then some (.nx (ρ1.set i (some (.own (.lst (xs ++ [d]))))), M1) else none
  | _ => none
def exPut (i : Nat) (kd d : D) (ρ2 : Env) (M2 : Mst) : Option (Out × Mst) := match ρ2[i]?, keyD kd with
  | some (some (.own (.dk xs))), some _ => if xs.length < 1000000 then some (.nx (ρ2.set i (some (.own (.dk (dkPut kd d xs))))), M2) else none
  | _, _ => none
def drawPut (k : DK) (z : Int) (m : Draw) : Option Draw := match k with
  | .rest => some { m with rest := z }
  | .turn => some { m with turn := z }
  | .cells => none
def exDraw (i : Nat) (k : DK) (d : D) (ρ1 : Env) (M1 : Mst) : Option (Out × Mst) := match ρ1[i]?, d, M1 with
  | some (some (.val .draw)), .int z, some m => (drawPut k z m).map fun m' => (.nx ρ1, some m')
  | _, _, _ => none
def exRetD (i : Nat) (ρ1 : Env) (d : D) (M1 : Mst) : Option (Out × Mst) := match ρ1[i]?, d, M1 with
  | some (some (.own (.lst xs))), .lst cs, none => (match allInt xs, allInt cs with
    | some l, some cells => some (.ret .draw, some ⟨l, 0, cells, 0⟩)
    | _, _ => none)
  | _, _, _ => none

mutual
def ex (C : Orc) (W : Nat) : S → Env → Mst → Option (Out × Mst)
  | .asg t e ns, ρ, M => bd (ev C e (view ns ρ) M) fun d M1 => exAsg t ns ρ d M M1
  | .asgF i e ns, ρ, M => if freshE e then bd (ev C e (view ns ρ) M) fun d M1 => exAsgF i ns ρ d M M1 else none
  | .par is es ns, ρ, M => bdL (evs C es (view ns ρ) M) fun ds M1 => exPar is ns ρ ds M M1
  | .newK i, ρ, M => some (.nx (ρ.set i (some (.own (.dk [])))), M)
  | .expr e ns, ρ, M => bd (ev C e (view ns ρ) M) fun d M1 => some (.nx (behind ns ρ d M M1), M1)
  | .append i e ns, ρ, M => bd (ev C e (view ns ρ) M) fun d M1 => exApp i (behind ns ρ d M M1) d M1
  | .dput i k v ns, ρ, M => bd (ev C v (view ns ρ) M) fun d M1 => bd (ev C k (view ns (behind ns ρ d M M1)) M1) fun kd M2 => exPut i kd d (behind ns (behind ns ρ d M M1) kd M1 M2) M2
  | .drawSet i k e ns, ρ, M => bd (ev C e (view ns ρ) M) fun d M1 => exDraw i k d (behind ns ρ d M M1) M1
  | .ret e ns, ρ, M => bd (ev C e (view ns ρ) M) fun d M1 => some (.ret d, M1)
  | .retN, _, M => some (.ret .non, M)
  | .retDraw i c ns, ρ, M => bd (ev C c (view ns ρ) M) fun d M1 => if ns.contains i then none else exRetD i (view ns ρ) d M1
  | .ite c ns a b, ρ, M => bd (ev C c (view ns ρ) M) fun d M1 => match d with
    | .bl true => exs C W a (behind ns ρ d M M1) M1
    | .bl false => exs C W b (behind ns ρ d M M1) M1
    | _ => none
  | .for_ t it ns body, ρ, M => bdL (evI C it (view ns ρ) M) fun items M1 =>
      floop (fun ρ d M => match bindT t d ρ with
        | some ρ' => exs C W body ρ' M
        | none => none) items (view ns ρ) M1
  | .while_ c ns body, ρ, M => wloop (fun ρ M => bd (ev C c (view ns ρ) M) fun d M1 => match d with
    | .bl b => some (b, behind ns ρ d M M1, M1)
    | _ => none) (fun ρ M => exs C W body ρ M) W ρ M
  | .brk, ρ, M => some (.brk ρ, M)
  | .cnt, ρ, M => some (.cnt ρ, M)
  | .pass, ρ, M => some (.nx ρ, M)
  | .never, _, _ => none
def exs (C : Orc) (W : Nat) : Ss → Env → Mst → Option (Out × Mst)
  | .nil, ρ, M => some (.nx ρ, M)
  | .cons s ss, ρ, M => match ex C W s ρ M with
    | some (.nx ρ', M') => exs C W ss ρ' M'
    | r => r
end

structure Fn where
  ar : Nat
  n : Nat
  body : Ss

def callK (F : List Fn) (W : Nat) : Nat → Orc
  | 0, _, _, _ => none
  | k + 1, f, ds, M => match F[f]? with
    | none => none
    | some fn => if ds.length = fn.ar then
        (match exs (callK F W k) W fn.body (ds.map (fun d => some (Slot.val d)) ++ List.replicate (fn.n - ds.length) none) M with
          | some (.ret d, M') => some (d, M')
          | some (.nx _, M') => some (.non, M')
          | _ => none)
      else none
end EV

set_option Elab.async false
set_option linter.all false
set_option maxRecDepth 100000
set_option maxHeartbeats 4000000
/-! From the model's own trees to the core language. -/
namespace EV
open PySem L2

structure Frm where
  N : List Str
  sc : Scope
  fn : Str → Bool

structure Tab where
  funs : List (Str × Nat)
  consts : List (Str × D)
  gcd : Bool

def visB (sc : Scope) (x : Str) : Bool := match sc.names.lookup x with
  | some .local | some .cell | some .free => true
  | _ => false
def locB (F : Frm) (x : Str) : Bool := match F.sc.names.lookup x with
  | some .local => true
  | some .cell => F.fn x
  | _ => false
def glB (sc : Scope) (x : Str) : Bool := match sc.names.lookup x with
  | some .globalImplicit => true
  | _ => false
def Frm.idx (F : Frm) (x : Str) : Option Nat := F.N.findIdx? (fun y => decide (y = x))
def nameOk (x : Str) : Bool := !(x == ("__debug__" : Str)) && !(x == ("__classdict__" : Str)) && !(x == ("__name__" : Str))

def bopOf : Operator → Option Bop
  | .Add => some .add | .Sub => some .sub | .Mult => some .mul | .FloorDiv => some .fdiv | .Mod => some .mod | .Pow => some .pow | _ => none
def copOf : CmpOp → Option Cop
  | .Eq => some .eq | .NotEq => some .ne | .Lt => some .lt | .LtE => some .le | .Gt => some .gt | .GtE => some .ge
  | .In => some .inn | .NotIn => some .nin | .Is => some .isN | .IsNot => some .notN

def noneB : Expr → Bool
  | .Constant .none _ _ => true
  | _ => false
def starB : Expr → Bool
  | .Starred .. => true
  | _ => false
def sliceB : Expr → Bool
  | .Slice .. => true
  | _ => false
def setB : Expr → Bool
  | .Set .. => true
  | _ => false
/-- is, is not: of None alone; no set behind in -/
def cmpB (op : CmpOp) (b : Expr) : Bool := match op with
  | .Is | .IsNot => noneB b
  | .In | .NotIn => !setB b
  | _ => true

def bltOf (g : Bool) (x : Str) (n : Nat) : Option Blt :=
  if x = "len" ∧ n = 1 then some .len
  else if x = "abs" ∧ n = 1 then some .abs
  else if x = "min" ∧ n = 2 then some .min2
  else if x = "max" ∧ n = 2 then some .max2
  else if x = "sum" ∧ n = 1 then some .sumL
  else if x = "all" ∧ n = 1 then some .allL
  else if x = "any" ∧ n = 1 then some .anyL
  else if x = "int" ∧ n = 1 then some .int1
  else if x = "tuple" ∧ n = 1 then some .tuple1
  else if x = "list" ∧ n = 1 then some .list1
  else if x = "gcd" ∧ n = 2 ∧ g = true then some .gcd2
  else none
def isOf (x : Str) : Option Blt :=
  if x = "int" then some .isInt
  else if x = "bool" then some .isBool
  else if x = "tuple" then some .isTuple
  else if x = "list" then some .isList
  else none
/-- tuple(zip(a, b, c)) -/
def zipArgs (sc : Scope) (f : Str) : List Expr → Option (List Expr)
  | [.Call (.Name z _) [a, b, c] [] _] => if f = "tuple" ∧ z = "zip" ∧ glB sc z = true ∧ [a, b, c].any starB = false then some [a, b, c] else none
  | _ => none
def strC : Expr → Option Str
  | .Constant (.str x) _ _ => some x
  | _ => none
def dkOf (x : Str) : Option DK :=
  if x = "rest" then some .rest else if x = "turn" then some .turn else if x = "cells" then some .cells else none

mutual
def compTg (F : Frm) : Nat → Expr → Option Tgt
  | 0, _ => none
  | n + 1, e => match e with
    | .Name x _ => match F.idx x with
      | some i => if locB F x then some (.name i) else none
      | none => none
    | .Tuple es _ _ => (compTgL F n es).map .tup
    | _ => none
def compTgL (F : Frm) : Nat → List Expr → Option (List Tgt)
  | 0, _ => none
  | _ + 1, [] => some []
  | n + 1, e :: es => if starB e then none else match compTg F n e, compTgL F n es with
    | some t, some ts => some (t :: ts)
    | _, _ => none
end
mutual
def Tgt.slots : Tgt → List Nat
  | .name i => [i]
  | .tup ts => Tgt.slotsL ts
def Tgt.slotsL : List Tgt → List Nat
  | [] => []
  | t :: ts => Tgt.slots t ++ Tgt.slotsL ts
end
/-- zip, enumerate give to a written tuple of targets -/
def itTgt : Itr → Expr → Bool
  | .zip2 .., .Tuple .. => true
  | .zip2 .., _ => false
  | .enum .., .Tuple .. => true
  | .enum .., _ => false
  | _, _ => true

def ownOf (F : Frm) (scope : Scope) : List (Str × Nat) := scope.names.filterMap fun (x, k) => match k with
  | .local | .cell => (F.idx x).map fun i => (x, i)
  | _ => none
def Frm.blk (F : Frm) (scope : Scope) : Frm := ⟨F.N, relS scope F.sc, fun x => scope.names.lookup x == some .cell⟩

def esOf : List E → Es
  | [] => .nil
  | e :: es => .cons e (esOf es)
def andOf : List E → Option E
  | [] => none
  | [e] => some e
  | e :: es => (andOf es).map (.andV e)
def orOf : List E → Option E
  | [] => none
  | [e] => some e
  | e :: es => (orOf es).map (.orV e)

mutual
def compE (T : Tab) : Nat → Frm → Expr → Option E
  | 0, _, _ => none
  | n + 1, F, e => match e with
    | .Constant (.int i) _ _ => some (.const (.int i))
    | .Constant (.bool i) _ _ => some (.const (.bl i))
    | .Constant .none _ _ => some (.const .non)
    | .Constant (.str i) _ _ => some (.const (.str i))
    | .Name x _ => if nameOk x then (if visB F.sc x then (F.idx x).map .var else if glB F.sc x then (T.consts.lookup x).map .const else none) else none
    | .BinOp a op b _ => match bopOf op, compE T n F a, compE T n F b with
      | some o, some x, some y => some (.bin o x y)
      | _, _, _ => none
    | .UnaryOp .USub a _ => (compE T n F a).map .neg
    | .UnaryOp .Not a _ => (compE T n F a).map .notV
    | .Compare (.Subscript d (.Constant (.str s) _ _) _) [.NotEq] [.List [] _] _ => if s = "large" then (compE T n F d).map .dne else none
    | .Compare a [op] [b] _ => if cmpB op b then (match copOf op, compE T n F a, compE T n F b with
      | some o, some x, some y => some (.cmp o x y)
      | _, _, _ => none) else none
    | .Compare a [op, op'] [b, c] _ => if cmpB op b && cmpB op' c then (match copOf op, copOf op', compE T n F a, compE T n F b, compE T n F c with
      | some o, some p, some x, some y, some z => some (.chain o p x y z)
      | _, _, _, _, _ => none) else none
    | .BoolOp .And vs _ => if vs.length < 2 then none else (compL T n F vs).bind andOf
    | .BoolOp .Or vs _ => if vs.length < 2 then none else (compL T n F vs).bind orOf
    | .IfExp c a b _ => match compT T n F c, compE T n F a, compE T n F b with
      | some x, some y, some z => some (.ite x y z)
      | _, _, _ => none
    | .Tuple es _ _ => if es.any starB then none else (compL T n F es).map fun l => .tup (esOf l)
    | .List es _ => if es.any starB then none else (compL T n F es).map fun l => .lst (esOf l)
    | .Subscript a b _ => match strC b with
      | some s => match dkOf s, compE T n F a with
        | some k, some x => some (.dget x k)
        | _, _ => none
      | none => if sliceB b then none else (match compE T n F a, compE T n F b with
        | some x, some y => some (.idx x y)
        | _, _ => none)
    | .Call (.Attribute (.Subscript d (.Constant (.str s) _ _) _) m ap) [.Constant (.int 0) _ _] [] cp =>
      if s = "large" ∧ m = "pop" ∧ (ap.endLine == cp.line) = true then (compE T n F d).map .dpop else none
    | .Call (.Name f _) args [] _ => if nameOk f && glB F.sc f && !(args.any starB) then
        (if f = "isinstance" then (match args with
          | [a, .Name t _] => if glB F.sc t && nameOk t then (match isOf t, compE T n F a with
            | some b, some x => some (.blt b (.cons x .nil))
            | _, _ => none) else none
          | _ => none)
        else match T.funs.lookup f with
          | some i => (compL T n F args).map fun l => .call i (esOf l)
          | none => match zipArgs F.sc f args with
            | some zs => (compL T n F zs).map fun l => .blt .tupZip3 (esOf l)
            | none => match bltOf T.gcd f args.length with
              | some b => (compL T n F args).map fun l => .blt b (esOf l)
              | none => none)
      else none
    | .ListComp elt [⟨t, it, ifs, 0⟩] scope _ =>
      if blkC F.N F.sc scope (ownOf F scope) && !setB it then
        (match compTg (F.blk scope) n t, compI T n F it, compTL T n (F.blk scope) ifs, compE T n (F.blk scope) elt with
        | some t', some i', some c', some e' => if c'.length ≤ 1 ∧ itTgt i' t = true ∧ (t'.slots.all fun i => ((ownOf F scope).map (·.2)).contains i) = true then some (.comp e' t' i' (esOf c') ((ownOf F scope).map (·.2))) else none
        | _, _, _, _ => none)
      else none
    | _ => none
def compL (T : Tab) : Nat → Frm → List Expr → Option (List E)
  | 0, _, _ => none
  | _ + 1, _, [] => some []
  | n + 1, F, e :: es => match compE T n F e, compL T n F es with
    | some x, some r => some (x :: r)
    | _, _ => none
/-- as a test: what comes is a bool -/
def compT (T : Tab) : Nat → Frm → Expr → Option E
  | 0, _, _ => none
  | n + 1, F, e => match e with
    | .UnaryOp .Not a _ => (compT T n F a).map .notV
    | .BoolOp .And vs _ => (compTL T n F vs).bind andOf
    | .BoolOp .Or vs _ => (compTL T n F vs).bind orOf
    | .IfExp .. => none
    | .Compare .. => compE T n F e
    | e => (compE T n F e).map .tru
def compTL (T : Tab) : Nat → Frm → List Expr → Option (List E)
  | 0, _, _ => none
  | _ + 1, _, [] => some []
  | n + 1, F, e :: es => match compT T n F e, compTL T n F es with
    | some x, some r => some (x :: r)
    | _, _ => none
def compI (T : Tab) : Nat → Frm → Expr → Option Itr
  | 0, _, _ => none
  | n + 1, F, e => match e with
    | .Call (.Name f _) args [] _ =>
      if f = "range" then (if glB F.sc f && !(args.any starB) then (match compL T n F args with
        | some [a] => some (.rng1 a)
        | some [a, b] => some (.rng2 a b)
        | some [a, b, .neg (.const (.int 1))] => some (.rngD a b)
        | _ => none) else none)
      else if f = "zip" then (if glB F.sc f && !(args.any starB) then (match compL T n F args with
        | some [a, b] => some (.zip2 a b)
        | _ => none) else none)
      else if f = "enumerate" then (if glB F.sc f && !(args.any starB) then (match compL T n F args with
        | some [a] => some (.enum a)
        | _ => none) else none)
      else (compE T n F e).map .seq
    | e => (compE T n F e).map .seq
end

mutual
def E.vars : E → List Nat
  | .var i => [i]
  | .const _ => []
  | .bin _ a b | .cmp _ a b | .andV a b | .orV a b | .idx a b => E.vars a ++ E.vars b
  | .neg a | .notV a | .tru a | .dget a _ | .dne a | .dpop a => E.vars a
  | .chain _ _ a b c | .ite a b c => E.vars a ++ E.vars b ++ E.vars c
  | .tup es | .lst es | .call _ es | .blt _ es => Es.vars es
  | .comp elt _ it ifs own => Itr.vars it ++ (Es.vars ifs ++ E.vars elt).filter fun i => !own.contains i
def Es.vars : Es → List Nat
  | .nil => []
  | .cons e es => E.vars e ++ Es.vars es
def Itr.vars : Itr → List Nat
  | .seq e | .rng1 e | .enum e => E.vars e
  | .rng2 a b | .rngD a b | .zip2 a b => E.vars a ++ E.vars b
end
def dedup (l : List Nat) : List Nat := l.foldl (fun acc i => if acc.contains i then acc else acc ++ [i]) []
def E.ns (e : E) : List Nat := dedup e.vars
def Itr.ns (e : Itr) : List Nat := dedup e.vars
def Es.ns (e : Es) : List Nat := dedup e.vars

/-- names on the left that the model stores from the right: plain locals of one row -/
def parB (F : Frm) (nps : List (Str × Nat)) (vs : List Expr) : Bool :=
  (F.sc.kind == .function) && (nps.all fun (x, l) => (F.sc.names.lookup x == some .local) && l == (nps.head?.map (·.2)).getD 0) && decide ((nps.map (·.1)).eraseDups.length = nps.length)
    && !(vs.any starB) && !(vs.all (foldedForSure 8)) && !(vs.all (constantsAlone 8))
def nlB (F : Frm) : Expr → Bool
  | .Name x _ => F.sc.names.lookup x == some .local
  | _ => false
def compish : Expr → Bool
  | .ListComp .. | .SetComp .. | .DictComp .. => true
  | _ => false
def tupB : Expr → Bool
  | .Tuple .. | .List .. => true
  | _ => false

mutual
def compS (T : Tab) : Nat → Frm → Stmt → Option S
  | 0, _, _ => none
  | n + 1, F, s => match s with
    | .Assign [.Subscript (.Name d _) (.Constant (.str k) _ _) _] v _ =>
      (match dkOf k, F.idx d, compE T n F v with
      | some k', some i, some e => if visB F.sc d && nameOk d && !compish v && decide (k' ≠ .cells) then some (.drawSet i k' e e.ns) else none
      | _, _, _ => none)
    | .Assign [.Subscript (.Name d _) k _] v _ =>
      (match F.idx d, compE T n F k, compE T n F v with
      | some i, some k', some e => if visB F.sc d && nameOk d && !compish v && !sliceB k && (strC k).isNone then some (.dput i k' e (dedup (e.vars ++ k'.vars))) else none
      | _, _, _ => none)
    | .Assign [.Name x p] (.Dict [] [] _) _ => (match F.idx x with
      | some i => if locB F x then some (.newK i) else none
      | none => none)
    | .Assign [.Name x p] v pos => (match F.idx x, compE T n F v with
      | some i, some e => if locB F x then
          (if freshE e then some (.asgF i e e.ns) else if compish v then none else some (.asg (.name i) e e.ns)) else none
      | _, _ => none)
    | .Assign [.Tuple ts k p] (.Tuple vs k' p') pos =>
      if ts.all (nlB F) then (match ts, vs with
        | [.Name x px, .Name y py], [a, b] => if parB F [(x, px.line), (y, py.line)] [a, b] then (match F.idx x, F.idx y, compL T n F [a, b] with
          | some i, some j, some l => if i ≠ j then some (.par [i, j] (esOf l) (esOf l).ns) else none
          | _, _, _ => none) else none
        | [.Name x px, .Name y py, .Name z pz], [a, b, c] => if parB F [(x, px.line), (y, py.line), (z, pz.line)] [a, b, c] then (match F.idx x, F.idx y, F.idx z, compL T n F [a, b, c] with
          | some i, some j, some h, some l => if i ≠ j ∧ i ≠ h ∧ j ≠ h then some (.par [i, j, h] (esOf l) (esOf l).ns) else none
          | _, _, _, _ => none) else none
        | _, _ => none)
      else (match compTg F n (.Tuple ts k p), compE T n F (.Tuple vs k' p') with
        | some t, some e => some (.asg t e e.ns)
        | _, _ => none)
    | .Assign [.Tuple ts k p] v _ => if tupB v || compish v then none else (match compTg F n (.Tuple ts k p), compE T n F v with
        | some t, some e => some (.asg t e e.ns)
        | _, _ => none)
    | .Expr (.Call (.Attribute (.Name x _) m ap) [a] [] cp) _ =>
      if m = "append" ∧ (ap.endLine == cp.line) = true then (match F.idx x, compE T n F a with
      | some i, some e => if visB F.sc x && nameOk x && !starB a then some (.append i e e.ns) else none
      | _, _ => none) else none
    | .Expr (.Constant (.str _) _ _) _ => some .pass
    | .Expr (.Call (.Name f p) args kw cp) _ => (compE T n F (.Call (.Name f p) args kw cp)).map fun e => .expr e e.ns
    | .Return (some (.Dict [some k1, some k2, some k3, some k4] [.Name x _, .Constant (.int 0) _ _, c, .Constant (.int 0) _ _] _)) _ =>
      (match strC k1, strC k2, strC k3, strC k4, F.idx x, compE T n F c with
      | some a1, some a2, some a3, some a4, some i, some e =>
        if visB F.sc x && nameOk x && decide (a1 = "large") && decide (a2 = "rest") && decide (a3 = "cells") && decide (a4 = "turn") then some (.retDraw i e e.ns) else none
      | _, _, _, _, _, _ => none)
    | .Return (some e) _ => (compE T n F e).map fun e => .ret e e.ns
    | .Return none _ => some .retN
    | .If c a b _ => (match compT T n F c, compSs T n F a, compSs T n F b with
      | some c', some a', some b' => some (.ite c' c'.ns a' b')
      | _, _, _ => none)
    | .For t it body [] _ => if setB it then none else (match compTg F n t, compI T n F it, compSs T n F body with
      | some t', some i', some b' => if itTgt i' t then some (.for_ t' i' i'.ns b') else none
      | _, _, _ => none)
    | .While c body [] _ => (match compT T n F c, compSs T n F body with
      | some c', some b' => some (.while_ c' c'.ns b')
      | _, _ => none)
    | .Break _ => some .brk
    | .Continue _ => some .cnt
    | .Pass _ => some .pass
    | .Raise .. => some .never
    | _ => none
def compSs (T : Tab) : Nat → Frm → List Stmt → Option Ss
  | 0, _, _ => none
  | _ + 1, _, [] => some .nil
  | n + 1, F, s :: ss => match compS T n F s, compSs T n F ss with
    | some x, some r => some (.cons x r)
    | _, _ => none
end

/-- a def's frame: parameters first, then the other names that are stored, those of its comprehensions too -/
def frmOf (st : Stmt) (N : List Str) : Frm := ⟨N, defScope st, fun _ => true⟩
end EV

set_option Elab.async false
set_option linter.all false
set_option maxRecDepth 100000
set_option maxHeartbeats 4000000
/-! The evaluator is right: expressions. -/
namespace EV
open PySem L2

def bltNames : List Str := ["len", "abs", "min", "max", "sum", "all", "any", "int", "bool", "tuple", "list", "isinstance", "range", "zip", "enumerate"]

/-- what a def promises, by the evaluator's own call -/
def spD (K : PySem.W.Frag) (n : Nat) (g : List D → Mst → Option (D × Mst)) : Sp := fun vs H Q _ =>
  ∃ G M ds r M', ds.length = n ∧ RpL K G ds vs ∧ Low G H ∧ RelM K G H M ∧ g ds M = some (r, M') ∧ ∀ v H' G', Step K G H G' M' H' → Rp K G' r v → Q v H'

structure TabOk (P : Program) (w : World) (K : PySem.W.Frag) (mg : Str → Option Value) (base : Heap) (T : Tab) (C : Orc) (k : Nat) : Prop where
  consts : ∀ x d, T.consts.lookup x = some d → ∃ u v, mg x = some u ∧ RelV v u ∧ ∀ G, Rp K G d v
  funs : ∀ x f, T.funs.lookup x = some f → ∃ a fd ps, mg x = some (.ref a) ∧ PySem.W.keepIn K (.ref a) = true ∧ Binds K fd ps [] ∧ FnOk P w K mg base CX0 k a fd ps (spD K ps.length (C f)) ∧ ∀ ds M r, C f ds M = some r → ds.length = ps.length
  bl : ∀ x ∈ bltNames, mg x = none
  gcd : T.gcd = true → mg "gcd" = some (.builtin "math.gcd")

structure CtxOk (X : Cx) (F : Frm) (T : Tab) (C : Orc) (k : Nat) : Prop where
  calm : X.calm = true
  N : X.N = F.N
  nd : F.N.Nodup
  sc : X.env.scope = F.sc
  fn : X.fn = F.fn
  xe : X.xe = fun _ _ => False
  room : Room k X.A
  tab : TabOk X.prog X.w X.K X.mg X.base T C k

theorem PE.weak {X : Cx} {e : Expr} {t t' : TE} (h : PE X e t) (w : ∀ σ H Q, t' σ H Q → t σ H Q) : PE X e t' := ⟨fun pins s σ H Q I q => h.run pins s σ H Q I (w σ H Q q)⟩
theorem PT.weak {X : Cx} {e : Expr} {t t' : TT} (h : PT X e t) (w : ∀ σ H Q, t' σ H Q → t σ H Q) : PT X e t' := ⟨fun pins s σ H Q I q => h.run pins s σ H Q I (w σ H Q q)⟩
theorem PW.weak {X : Cx} {e : Expr} {t t' : TT} (h : PW X e t) (w : ∀ σ H Q, t' σ H Q → t σ H Q) : PW X e t' := ⟨fun wh pins s σ H Q I q => h.run wh pins s σ H Q I (w σ H Q q)⟩
theorem PA.weak {X : Cx} {e : List Expr} {t t' : TA} (h : PA X e t) (w : ∀ σ H Q, t' σ H Q → t σ H Q) : PA X e t' := ⟨fun pos pins s σ H Q I q => h.run pos pins s σ H Q I (w σ H Q q)⟩
theorem PI.weak {X : Cx} {tg e : Expr} {t t' : TI} (h : PI X tg e t) (w : ∀ σ H Q, t' σ H Q → t σ H Q) : PI X tg e t' := ⟨fun pins s σ H Q I q => h.run pins s σ H Q I (w σ H Q q)⟩

/-- an expression gives d, the draws being M' then -/
def tJ (K : PySem.W.Frag) (H0 : Hp) (ρ : Env) (M : Mst) (d : D) (M' : Mst) : TE := fun σ H Q => ∃ G, Rel K H0 ρ M G σ H ∧ ∀ v H' G', Step K G H G' M' H' → Rp K G' d v → Q v H'
/-- .. a list that is new and no one else's -/
def tJF (K : PySem.W.Frag) (H0 : Hp) (ρ : Env) (M : Mst) (xs : List D) (M' : Mst) : TE := fun σ H Q => ∃ G, Rel K H0 ρ M G σ H ∧
  ∀ a vs H' G', Step K G H G' M' H' → H a = none → H' a = some (.lst vs) → G'.Fz a = none → a ∉ drA G' → RpL K G' xs vs → Q (.ref a) H'
def tJT (K : PySem.W.Frag) (H0 : Hp) (ρ : Env) (M : Mst) (b : Bool) (M' : Mst) : TT := fun σ H Q => ∃ G, Rel K H0 ρ M G σ H ∧ ∀ H' G', Step K G H G' M' H' → Q b H'
def tJs (K : PySem.W.Frag) (H0 : Hp) (ρ : Env) (M : Mst) (ds : List D) (M' : Mst) : TA := fun σ H Q => ∃ G, Rel K H0 ρ M G σ H ∧ ∀ vs H' G', Step K G H G' M' H' → RpL K G' ds vs → Q vs H'

section
variable {K : PySem.W.Frag} {H0 H : Hp} {ρ : Env} {M M1 M2 M' : Mst} {G G' : Gh} {σ : L2.St} {xs : List D} {d : D}
/-- a new list, frozen -/
theorem tJ_of_F {Q : VK} (h : tJ K H0 ρ M (.lst xs) M' σ H Q) : tJF K H0 ρ M xs M' σ H Q := by
  obtain ⟨G, R, q⟩ := h
  refine ⟨G, R, fun a vs H' G' s ha ha' hf hd r => ?_⟩
  refine q (.ref a) H' (G'.add a (.lst vs)) (Step.freeze s.low s.mst s ha ha' hf hd) (Rp.lst_ ?_ (r.mono (GLe.add hf)))
  exact .inl (.inl (by show upd G'.Fz a (.lst vs) a = _; exact upd_same))
/-- a new tuple -/
theorem tup_new {p : Addr} {vs : List V} {M : Mst} (l : Low G H) (r : RelM K G H M) (hp : H p = none) (q : RpL K G xs vs) :
    ∃ G', Step K G H G' M (upd H p (.tup vs)) ∧ Rp K G' (.tup xs) (.ref p) := by
  have s := Step.lay (o := .tup vs) l r hp
  have hf : G.Fz p = none := l.fz_none hp
  have hd : p ∉ drA G := notin_dr r hp
  refine ⟨G.add p (.tup vs), Step.freeze s.low s.mst s hp upd_same hf hd, Rp.tup_ ?_ (q.mono (GLe.add hf))⟩
  exact .inl (.inl (by show upd G.Fz p (.tup vs) p = _; exact upd_same))
end

section
variable {X : Cx} {F : Frm} {T : Tab} {C : Orc} {k : Nat} {H0 : Hp} {ρ : Env} {M M1 M2 M' : Mst} {e a b c : Expr} {d x y : D}
theorem CtxOk.units (O : CtxOk X F T C k) : X.A.units + 64 < cLine := O.room.units
theorem CtxOk.units1 (O : CtxOk X F T C k) : X.A.units + 1 < cLine := by have := O.room.units; omega

theorem idx_get {F : Frm} {x : Str} {i : Nat} (h : F.idx x = some i) : F.N[i]? = some x := by
  unfold Frm.idx at h
  rw [List.findIdx?_eq_some_iff_getElem] at h
  obtain ⟨hi, e, _⟩ := h
  rw [List.getElem?_eq_getElem hi]
  exact congrArg some (of_decide_eq_true e)
theorem visB_ok {sc : Scope} {x : Str} (h : visB sc x = true) : Vis sc x := by
  unfold visB at h
  unfold Vis
  split at h
  · exact .inl (by assumption)
  · exact .inr (.inl (by assumption))
  · exact .inr (.inr (by assumption))
  · cases h
theorem nameOk_ok {x : Str} (h : nameOk x = true) : (x == ("__debug__" : Str)) = false ∧ (x == ("__classdict__" : Str)) = false ∧ x ≠ "__name__" := by
  unfold nameOk at h
  simp only [Bool.and_eq_true, Bool.not_eq_true'] at h
  refine ⟨h.1.1, h.1.2, fun e => ?_⟩
  rw [e] at h
  have := h.2
  simp at this
theorem glB_ok {X : Cx} {sc : Scope} {x : Str} (e : X.env.scope = sc) (h : glB sc x = true) : Gl X x := by
  unfold glB at h
  show X.env.scope.names.lookup x = _
  rw [e]
  split at h
  · assumption
  · cases h

theorem j_var {x : Str} {i : Nat} {pos : Pos} (O : CtxOk X F T C k) (hn : nameOk x = true) (hv : visB F.sc x = true) (hi : F.idx x = some i) (h : ρ[i]? = some (some (.val d))) :
    PE X (.Name x pos) (tJ X.K H0 ρ M d M) := by
  obtain ⟨h1, h2, _⟩ := nameOk_ok hn
  refine PE.weak (pe_var (i := i) (by rw [O.N]; exact idx_get hi) (by rw [O.sc]; exact visB_ok hv) h1 h2) fun σ H Q ⟨G, R, q⟩ => ?_
  obtain ⟨v, e, r⟩ := R.slots.val i d h
  exact ⟨v, e, q v H G R.refl r⟩
theorem j_const {x : Str} {pos : Pos} (O : CtxOk X F T C k) (hn : nameOk x = true) (hg : glB F.sc x = true) (h : T.consts.lookup x = some d) : PE X (.Name x pos) (tJ X.K H0 ρ M d M) := by
  obtain ⟨h1, h2, _⟩ := nameOk_ok hn
  obtain ⟨u, v, hm, r, hd⟩ := O.tab.consts x d h
  exact PE.weak (pe_glob (glB_ok O.sc hg) hm r h1) fun σ H Q ⟨G, R, q⟩ => q v H G R.refl (hd G)
theorem j_c {v : V} (h : PE X e (tC v)) (r : ∀ G, Rp X.K G d v) : PE X e (tJ X.K H0 ρ M d M) := PE.weak h fun σ H Q ⟨G, R, q⟩ => q v H G R.refl (r G)

/-- two in a row -/
theorem j_two {R2' : R2} (h : PE X e (tOp R2' (tJ X.K H0 ρ M x M1) (tJ X.K H0 ρ M1 y M2)))
    (w : ∀ σ H G Q v u H2 G2, Rel X.K H0 ρ M G σ H → Step X.K G H G2 M2 H2 → Rp X.K G2 x v → Rp X.K G2 y u → (∀ v H' G', Step X.K G H G' M' H' → Rp X.K G' d v → Q v H') → R2' v u H2 Q) : PE X e (tJ X.K H0 ρ M d M') :=
  PE.weak h fun σ H Q ⟨G, R, q⟩ => ⟨G, R, fun v H1 G1 s1 r1 => ⟨G1, R.step s1, fun u H2 G2 s2 r2 => w σ H G Q v u H2 G2 R (s1.trans s2) (r1.mono s2.le) r2 q⟩⟩

theorem mulOk_ok {i j : Int} (h : mulOk i j = true) : IntMulOk i j := by
  unfold mulOk at h
  simp only [Bool.or_eq_true, Bool.and_eq_true, decide_eq_true_eq] at h
  rcases h with (h | h) | ⟨h1, h2⟩
  · exact CMul.ok (.inr (by omega))
  · exact CMul.ok (.inl (by omega))
  · exact CMulW.ok (wide_mul (a := 100000) (b := 100000) h1 h2 (by decide) (by decide) (by decide))
theorem op_mulE {X : Cx} : OpR X (binaryOp .Mult) (rI (fun i j => mulOk i j = true) fun i j => .int (i * j)) := opI fun _ _ _ _ _ _ _ hc q => PyProof.Rows.mul_int q (mulOk_ok hc)
theorem op_divE {X : Cx} : OpR X (binaryOp .FloorDiv) (rI (fun _ j => divOk j = true) fun i j => .int (i / j)) := opI fun i j _ _ _ _ _ hc q => by
  unfold divOk at hc
  simp only [Bool.and_eq_true, decide_eq_true_eq] at hc
  have h1 : (0 : Int) < j := hc.1
  have h2 := wide_div (i := 0) hc.1 hc.2 (by decide) (by decide)
  exact PyProof.Rows.floordiv_int (by omega) (by rw [Int.fdiv_eq_ediv_of_nonneg i (by omega)]; exact q) (.inl (PyProof.noPylong_of_log2 h2.2))
theorem op_powE {X : Cx} : OpR X (binaryOp .Pow) (rI (fun i j => powOk i j = true) fun i j => .int (i ^ j.toNat)) := opI fun i j _ _ _ _ _ hc q => by
  unfold powOk at hc
  simp only [Bool.and_eq_true, decide_eq_true_eq] at hc
  exact PyProof.Rows.pow_int hc.1 hc.2 q

theorem j_int2 {f : Value → Value → Sem Value} {Cd : Int → Int → Prop} {g : Int → Int → Int} {i j : Int} {op : Operator} {pos : Pos} (ho : OpR X (binaryOp op) (rI Cd fun i j => .int (g i j))) (hc : Cd i j)
    (ha : PE X a (tJ X.K H0 ρ M (.int i) M1)) (hb : PE X b (tJ X.K H0 ρ M1 (.int j) M2)) : PE X (.BinOp a op b pos) (tJ X.K H0 ρ M (.int (g i j)) M2) :=
  j_two (pe_op ho ha hb) fun σ H G Q v u H2 G2 R s r1 r2 q => ⟨i, j, r1.of_int, r2.of_int, hc, q _ H2 G2 s Rp.int_⟩
theorem j_int2' {g : Int → Int → Int} {i j : Int} {op : Operator} {pos : Pos} (ho : OpR X (binaryOp op) (rI0 fun i j => .int (g i j)))
    (ha : PE X a (tJ X.K H0 ρ M (.int i) M1)) (hb : PE X b (tJ X.K H0 ρ M1 (.int j) M2)) : PE X (.BinOp a op b pos) (tJ X.K H0 ρ M (.int (g i j)) M2) :=
  j_two (pe_op ho ha hb) fun σ H G Q v u H2 G2 R s r1 r2 q => ⟨i, j, r1.of_int, r2.of_int, q _ H2 G2 s Rp.int_⟩

theorem j_bin {op : Operator} {o : Bop} {pos : Pos} (hop : bopOf op = some o) (hr : binD o x y = some d)
    (ha : PE X a (tJ X.K H0 ρ M x M1)) (hb : PE X b (tJ X.K H0 ρ M1 y M2)) : PE X (.BinOp a op b pos) (tJ X.K H0 ρ M d M2) := by
  unfold binD at hr
  split at hr
  · cases op <;> simp [bopOf] at hop
    cases hr
    exact j_int2' op_add ha hb
  · cases op <;> simp [bopOf] at hop
    rename_i xs ys
    split at hr
    · rename_i hc
      cases hr
      simp only [Bool.and_eq_true, Bool.not_eq_true', decide_eq_true_eq] at hc
      refine j_two (pe_op op_catT ha hb) fun σ H G Q v u H2 G2 R s r1 r2 q => ?_
      obtain ⟨p, vs, e1, s1, q1⟩ := r1.of_tup
      obtain ⟨p', us, e2, s2, q2⟩ := r2.of_tup
      have l1 := q1.length
      have l2 := q2.length
      have hne : vs ≠ [] := fun z => by
        have hc1 := hc.1
        cases xs with
        | nil => simp at hc1
        | cons _ _ => rw [z] at l1; simp at l1
      refine ⟨p, p', vs, us, e1, e2, sqT_mono s.low s1, sqT_mono s.low s2, hne, ?_, ?_⟩
      · (have hz : sizeLine = 16777216 := by decide); omega
      · refine ⟨fun hz => ?_, fun hz p hp => ?_⟩
        · subst hz
          have : ys = [] := by cases ys with | nil => rfl | cons _ _ => simp at l2
          subst this
          rw [List.append_nil] at q
          exact q _ H2 G2 s (Rp.tup_ s1 q1)
        · obtain ⟨G3, s3, r3⟩ := tup_new s.low s.mst hp (q1.append q2)
          exact q _ _ G3 (s.trans s3) r3
    · cases hr
  · cases op <;> simp [bopOf] at hop
    cases hr
    exact j_int2' op_sub ha hb
  · cases op <;> simp [bopOf] at hop
    split at hr
    · cases hr
      exact j_int2 (f := binaryOp .Mult) op_mulE (by assumption) ha hb
    · cases hr
  · cases op <;> simp [bopOf] at hop
    split at hr
    · cases hr
      exact j_int2 (f := binaryOp .FloorDiv) op_divE (by assumption) ha hb
    · cases hr
  · cases op <;> simp [bopOf] at hop
    split at hr
    · cases hr
      exact j_int2 (f := binaryOp .Mod) op_mod (by rename_i h; exact of_decide_eq_true h) ha hb
    · cases hr
  · cases op <;> simp [bopOf] at hop
    split at hr
    · cases hr
      exact j_int2 (f := binaryOp .Pow) op_powE (by assumption) ha hb
    · cases hr
  · cases hr
end
end EV

set_option Elab.async false
set_option linter.all false
set_option maxRecDepth 100000
set_option maxHeartbeats 4000000
/-! Comparisons, subscripts. -/
namespace EV
open PySem L2
section
variable {X : Cx} {F : Frm} {T : Tab} {C : Orc} {k : Nat} {H0 : Hp} {ρ : Env} {M M1 M2 M' : Mst} {e a b c : Expr} {d x y z : D}

/-- the two operands known as data -/
def rDC (K : PySem.W.Frag) (dx dy : D) (r : Bool) : R2 := fun x y H Q => ∃ G, Low G H ∧ Rp K G dx x ∧ Rp K G dy y ∧ Q (.bl r) H

theorem key_of_rp {K : PySem.W.Frag} {G : Gh} {kd : D} {ky : Key} {v : V} (h : keyD kd = some ky) (r : Rp K G kd v) : v = kV ky := by
  cases kd with
  | int i => simp [keyD] at h; subst h; exact r.of_int
  | str s => simp [keyD] at h; subst h; exact r.of_str
  | _ => simp [keyD] at h
theorem keyD_of_kV {K : PySem.W.Frag} {G : Gh} {kd : D} {ky : Key} (r : Rp K G kd (kV ky)) : keyD kd = some ky := by
  cases kd with
  | int i =>
    have e := r.of_int
    cases ky with
    | inl j => cases e; rfl
    | inr s => cases e
  | str i =>
    have e := r.of_str
    cases ky with
    | inl j => cases e
    | inr s => cases e; rfl
  | non => have e := r.of_non; cases ky <;> cases e
  | bl b => have e := r.of_bl; cases ky <;> cases e
  | tup xs => obtain ⟨a, vs, e, _⟩ := r.of_tup; cases ky <;> cases e
  | lst xs => obtain ⟨a, vs, e, _⟩ := r.of_lst; cases ky <;> cases e
  | dk xs => obtain ⟨a, vs, e, _⟩ := r.of_dk; cases ky <;> cases e
  | draw => obtain ⟨da, la, ca, _, e⟩ := r.of_draw; cases ky <;> cases e
theorem look_rel {K : PySem.W.Frag} {G : Gh} (ky : Key) : ∀ {kvs : List (Key × V)} {xs : List D}, RpL K G xs (flatV kvs) →
    (∀ d, lookD ky xs = some d → ∃ v, valV kvs ky = some v ∧ Rp K G d v) ∧ (lookD ky xs = none → valV kvs ky = none)
  | [], xs, r => by
    unfold flatV at r
    cases xs with
    | nil => exact ⟨fun d h => by simp [lookD] at h, fun _ => rfl⟩
    | cons x xs =>
      unfold RpL at r
      obtain ⟨v, r', e, _⟩ := r
      cases e
  | (k', v') :: kvs, xs, r => by
    unfold flatV at r
    cases xs with
    | nil => unfold RpL at r; cases r
    | cons x xs =>
      unfold RpL at r
      obtain ⟨v, r', e, q1, q⟩ := r
      cases xs with
      | nil =>
        unfold RpL at q
        subst q
        cases e
      | cons y xs =>
        unfold RpL at q
        obtain ⟨w, r'', e2, q2, q3⟩ := q
        subst e2
        injection e with e1 e2
        injection e2 with e2 e3
        subst e1 e2 e3
        have hk := keyD_of_kV q1
        obtain ⟨i1, i2⟩ := look_rel ky (kvs := kvs) (xs := xs) q3
        unfold lookD
        by_cases hh : k' = ky
        · rw [if_pos (by rw [hk, hh])]
          rw [valV_pos hh]
          exact ⟨fun d h => ⟨_, rfl, by cases h; exact q2⟩, fun h => by cases h⟩
        · rw [if_neg (by rw [hk]; exact fun z => hh (Option.some.inj z))]
          rw [valV_neg hh]
          exact ⟨i1, i2⟩

theorem toV_rp {K : PySem.W.Frag} {G : Gh} {d : D} {v u : V} (h : toV d = some u) (r : Rp K G d v) : v = u := by
  cases d with
  | non => simp [toV] at h; rw [← h]; exact r.of_non
  | bl _ => simp [toV] at h; rw [← h]; exact r.of_bl
  | int _ => simp [toV] at h; rw [← h]; exact r.of_int
  | str _ => simp [toV] at h; rw [← h]; exact r.of_str
  | _ => simp [toV] at h
theorem allV_rp {K : PySem.W.Frag} {G : Gh} : ∀ {ds : List D} {vs us : List V}, allV ds = some us → RpL K G ds vs → vs = us
  | [], _, _, h, r => by simp [allV] at h; unfold RpL at r; rw [h, r]
  | d :: ds, _, us, h, r => by
    unfold RpL at r
    obtain ⟨v, r', e, q1, q2⟩ := r
    unfold allV at h
    split at h
    · rename_i v1 vs1 h1 h2
      cases h
      rw [e, toV_rp h1 q1, allV_rp h2 q2]
    · cases h

theorem op_inD (hu : X.A.units + 1 < cLine) {neg : Bool} {r : Bool} (h : inD x y = some r) : OpR X (compareOp (if neg = true then .NotIn else .In)) (rDC X.K x y (if neg = true then !r else r)) := by
  intro pins s σ H vx vy u w Q I rx ry q
  obtain ⟨G, l, r1, r2, q⟩ := q
  cases y with
  | dk kvs =>
    obtain ⟨p, ks, e, rd, rl⟩ := r2.of_dk
    subst e
    cases ry
    unfold inD at h
    cases hk : keyD x with
    | none => simp [hk] at h
    | some ky =>
      rw [hk] at h
      simp at h
      have ev := key_of_rp hk r1
      subst ev
      have g : DGet H p (kV ky) (valV ks ky) := .inl ⟨ks, ky, rd_mono l rd, rfl, rfl⟩
      obtain ⟨i1, i2⟩ := look_rel ky rl
      have eq : (valV ks ky).isSome = r := by
        rw [← h]
        cases hl : lookD ky kvs with
        | none => rw [i2 hl]; rfl
        | some d' => obtain ⟨v, e, _⟩ := i1 d' hl; rw [e]; rfl
      cases neg with
      | true => exact d_notIn hu I g rx fun s' I' => ⟨.bl _, H, I', by rw [eq]; rfl, q⟩
      | false => exact d_in hu I g rx fun s' I' => ⟨.bl _, H, I', by rw [eq]; rfl, q⟩
  | lst ys =>
    obtain ⟨p, vs, e, sq, rl⟩ := r2.of_lst
    unfold inD at h
    simp only at h
    split at h
    · rename_i v1 us h1 h2
      split at h
      · rename_i hf
        cases h
        simp only [Bool.and_eq_true] at hf
        have e1 := toV_rp h1 r1
        have e2 := allV_rp h2 rl
        subst e1 e2
        cases neg with
        | true => exact op_notIn_seq pins s σ H _ _ u w Q I rx ry ⟨p, _, e, .inl (sqL_mono l sq), hf.1, hf.2, q⟩
        | false => exact op_in_seq pins s σ H _ _ u w Q I rx ry ⟨p, _, e, .inl (sqL_mono l sq), hf.1, hf.2, q⟩
      · cases h
    · cases h
  | tup ys =>
    obtain ⟨p, vs, e, sq, rl⟩ := r2.of_tup
    unfold inD at h
    simp only at h
    split at h
    · rename_i v1 us h1 h2
      split at h
      · rename_i hf
        cases h
        simp only [Bool.and_eq_true] at hf
        have e1 := toV_rp h1 r1
        have e2 := allV_rp h2 rl
        subst e1 e2
        cases neg with
        | true => exact op_notIn_seq pins s σ H _ _ u w Q I rx ry ⟨p, _, e, .inr (sqT_mono l sq), hf.1, hf.2, q⟩
        | false => exact op_in_seq pins s σ H _ _ u w Q I rx ry ⟨p, _, e, .inr (sqT_mono l sq), hf.1, hf.2, q⟩
      · cases h
    · cases h
  | _ => simp [inD] at h

theorem op_cmpD (O : CtxOk X F T C k) {op : CmpOp} {o : Cop} {r : Bool} (hop : copOf op = some o) (h : cmpD o x y = some r) : OpR X (compareOp op) (rDC X.K x y r) := by
  have eqs : ∀ (neg : Bool) {r : Bool}, eqD x y = some r → OpR X (compareOp (if neg = true then .NotEq else .Eq)) (rDC X.K x y (if neg = true then !r else r)) := fun neg r h => by
    unfold eqD at h
    split at h
    · rename_i hs
      simp only [Bool.and_eq_true] at hs
      cases h
      intro pins s σ H vx vy u w Q I rx ry q
      obtain ⟨G, l, r1, r2, q⟩ := q
      have d1 := Rp.dp l (SeqAt.canLay_of_shaped hs.1) r1
      have d2 := Rp.dp l (SeqAt.canLay_of_shaped hs.2) r2
      cases neg with
      | true => exact op_neD O.units pins s σ H vx vy u w Q I rx ry ⟨_, _, d1, d2, hs.1, hs.2, q⟩
      | false => exact op_eqD O.units pins s σ H vx vy u w Q I rx ry ⟨_, _, d1, d2, hs.1, hs.2, q⟩
    · cases h
  have intz : ∀ {f : Value → Value → Sem Value} {g : Int → Int → Bool} {i j : Int}, OpR X f (rI0 fun i j => .bl (g i j)) → OpR X f (rDC X.K (.int i) (.int j) (g i j)) := fun {f g i j} hf pins s σ H vx vy u w Q I rx ry ⟨G, l, r1, r2, q⟩ =>
    hf pins s σ H vx vy u w Q I rx ry ⟨i, j, r1.of_int, r2.of_int, q⟩
  cases op <;> simp only [copOf, Option.some.injEq] at hop <;> subst hop
  · exact eqs false h
  · replace h : (eqD x y).map not = some r := h
    cases e : eqD x y with
    | none => rw [e] at h; cases h
    | some r' => rw [e] at h; cases h; exact eqs true e
  · unfold cmpD at h
    split at h <;> first | contradiction | skip
    cases h; exact intz op_lt
  · unfold cmpD at h
    split at h <;> first | contradiction | skip
    cases h; exact intz op_le
  · unfold cmpD at h
    split at h <;> first | contradiction | skip
    cases h; exact intz op_gt
  · unfold cmpD at h
    split at h <;> first | contradiction | skip
    cases h; exact intz op_ge
  · intro pins s σ H vx vy u w Q I rx ry ⟨G, l, r1, r2, q⟩
    cases y with
    | non =>
      refine op_isN pins s σ H vx vy u w Q I rx ry ⟨r2.of_non, ?_⟩
      unfold cmpD at h
      cases x with
      | non => cases h; rw [r1.of_non]; exact q
      | bl _ => cases h; rw [r1.of_bl]; exact q
      | int _ => cases h; rw [r1.of_int]; exact q
      | str _ => cases h; rw [r1.of_str]; exact q
      | tup _ => cases h; obtain ⟨p, vs, e, _⟩ := r1.of_tup; rw [e]; exact q
      | lst _ => cases h; obtain ⟨p, vs, e, _⟩ := r1.of_lst; rw [e]; exact q
      | dk _ => cases h; obtain ⟨p, vs, e, _⟩ := r1.of_dk; rw [e]; exact q
      | draw => cases h
    | _ => simp [cmpD] at h
  · intro pins s σ H vx vy u w Q I rx ry ⟨G, l, r1, r2, q⟩
    cases y with
    | non =>
      refine op_notN pins s σ H vx vy u w Q I rx ry ⟨r2.of_non, ?_⟩
      unfold cmpD at h
      cases x with
      | non => cases h; rw [r1.of_non]; exact q
      | bl _ => cases h; rw [r1.of_bl]; exact q
      | int _ => cases h; rw [r1.of_int]; exact q
      | str _ => cases h; rw [r1.of_str]; exact q
      | tup _ => cases h; obtain ⟨p, vs, e, _⟩ := r1.of_tup; rw [e]; exact q
      | lst _ => cases h; obtain ⟨p, vs, e, _⟩ := r1.of_lst; rw [e]; exact q
      | dk _ => cases h; obtain ⟨p, vs, e, _⟩ := r1.of_dk; rw [e]; exact q
      | draw => cases h
    | _ => simp [cmpD] at h
  · exact op_inD (neg := false) O.units1 h
  · replace h : (inD x y).map not = some r := h
    cases e : inD x y with
    | none => rw [e] at h; cases h
    | some r' => rw [e] at h; cases h; exact op_inD (neg := true) O.units1 e

theorem mark_of {op : CmpOp} {b : Expr} (h : cmpB op b = true) : behindInMarks op b = false := by
  cases op with
  | In => cases b <;> simp_all [cmpB, setB, behindInMarks]
  | NotIn => cases b <;> simp_all [cmpB, setB, behindInMarks]
  | _ => exact nomark b
theorem j_cmp {op : CmpOp} {o : Cop} {r : Bool} {pos : Pos} (O : CtxOk X F T C k) (hc : cmpB op b = true) (hop : copOf op = some o) (h : cmpD o x y = some r)
    (ha : PE X a (tJ X.K H0 ρ M x M1)) (hb : PE X b (tJ X.K H0 ρ M1 y M2)) : PE X (.Compare a [op] [b] pos) (tJ X.K H0 ρ M (.bl r) M2) :=
  j_two (pe_cmpR (op_cmpD O hop h) ha hb (mark_of hc)) fun σ H G Q v u H2 G2 R s r1 r2 q => ⟨G2, s.low, r1, r2, q _ H2 G2 s Rp.bl_⟩
theorem jt_cmp {op : CmpOp} {o : Cop} {r : Bool} {pos : Pos} (O : CtxOk X F T C k) (hc : cmpB op b = true) (hop : copOf op = some o) (h : cmpD o x y = some r)
    (ha : PE X a (tJ X.K H0 ρ M x M1)) (hb : PE X b (tJ X.K H0 ρ M1 y M2)) : PT X (.Compare a [op] [b] pos) (tJT X.K H0 ρ M r M2) :=
  PT.weak (pt_cmpR (op_cmpD O hop h) ha hb (mark_of hc)) fun σ H Q ⟨G, R, q⟩ => ⟨G, R, fun v H1 G1 s1 r1 => ⟨G1, R.step s1, fun u H2 G2 s2 r2 => ⟨G2, s2.low, r1.mono s2.le, r2, r, rfl, q H2 G2 (s1.trans s2)⟩⟩⟩
theorem lastMark_of {op op' : CmpOp} {b c : Expr} (h : cmpB op' c = true) : lastMarks [op, op'] [b, c] = false := by
  show behindInMarks op' c = false
  exact mark_of h
theorem j_chain {op op' : CmpOp} {o o' : Cop} {r' : Bool} {pos : Pos} (O : CtxOk X F T C k) (hc : cmpB op' c = true) (hop : copOf op = some o) (h : cmpD o x y = some true) (hop' : copOf op' = some o') (h' : cmpD o' y z = some r')
    (ha : PE X a (tJ X.K H0 ρ M x M1)) (hb : PE X b (tJ X.K H0 ρ M1 y M2)) (hcc : PE X c (tJ X.K H0 ρ M2 z M')) : PE X (.Compare a [op, op'] [b, c] pos) (tJ X.K H0 ρ M (.bl r') M') :=
  PE.weak (pe_chain (op_cmpD O hop h) (op_cmpD O hop' h') ha hb hcc (lastMark_of hc)) fun σ H Q ⟨G, R, q⟩ => ⟨G, R, fun v H1 G1 s1 r1 => ⟨G1, R.step s1, fun u H2 G2 s2 r2 =>
    ⟨G2, s2.low, r1.mono s2.le, r2, true, rfl, iteT ⟨G2, (R.step s1).step s2, fun w H3 G3 s3 r3 => ⟨G3, s3.low, r2.mono s3.le, r3, q _ H3 G3 ((s1.trans s2).trans s3) Rp.bl_⟩⟩⟩⟩⟩
theorem j_chainF {op op' : CmpOp} {o : Cop} {pos : Pos} (O : CtxOk X F T C k) (hc : cmpB op' c = true) (hop : copOf op = some o) (h : cmpD o x y = some false) {o' : Cop} (hop' : copOf op' = some o') {tc : TE}
    (ha : PE X a (tJ X.K H0 ρ M x M1)) (hb : PE X b (tJ X.K H0 ρ M1 y M2)) (hcc : PE X c tc) (ho' : ∃ r2, OpR X (compareOp op') r2) : PE X (.Compare a [op, op'] [b, c] pos) (tJ X.K H0 ρ M (.bl false) M2) := by
  obtain ⟨r2, ho'⟩ := ho'
  exact PE.weak (pe_chain (op_cmpD O hop h) ho' ha hb hcc (lastMark_of hc)) fun σ H Q ⟨G, R, q⟩ => ⟨G, R, fun v H1 G1 s1 r1 => ⟨G1, R.step s1, fun u H2 G2 s2 r2 =>
    ⟨G2, s2.low, r1.mono s2.le, r2, false, rfl, iteF (q _ H2 G2 (s1.trans s2) Rp.bl_)⟩⟩⟩
theorem op_none {f : Value → Value → Sem Value} : ∃ r2, OpR X f r2 := ⟨fun _ _ _ _ => False, fun _ _ _ _ _ _ _ _ _ _ _ _ h => h.elim⟩
theorem pe_none {e : Expr} : PE X e (fun _ _ _ => False) := ⟨fun _ _ _ _ _ _ h => h.elim⟩

theorem plainIx_of {b : Expr} (h : sliceB b = false) : PlainIx b := fun o i => by
  cases b <;> first | rfl | (simp [sliceB] at h)
theorem atI_rp {K : PySem.W.Frag} {G : Gh} {xs : List D} {vs : List V} {i : Int} {d : D} (r : RpL K G xs vs) (h : L2.atI xs i = some d) : ∃ v, L2.atI vs i = some v ∧ Rp K G d v := by
  unfold L2.atI at h ⊢
  rw [← r.length]
  cases e : L2.ixN xs.length i with
  | none => rw [e] at h; cases h
  | some j =>
    rw [e] at h
    exact r.get h
theorem j_idx {pos : Pos} (O : CtxOk X F T C k) (hs : sliceB b = false) (h : idxD x y = some d) (ha : PE X a (tJ X.K H0 ρ M x M1)) (hb : PE X b (tJ X.K H0 ρ M1 y M2)) :
    PE X (.Subscript a b pos) (tJ X.K H0 ρ M d M2) := by
  cases x with
  | lst xs =>
    cases y with
    | int i =>
      refine j_two (pe_ix ix_list ha hb (plainIx_of hs)) fun σ H G Q v u H2 G2 R s r1 r2 q => ?_
      obtain ⟨p, vs, e, sq, rl⟩ := r1.of_lst
      obtain ⟨v', hv, rv⟩ := atI_rp rl h
      exact ⟨p, vs, i, v', e, r2.of_int, sqL_mono s.low sq, hv, q _ H2 G2 s rv⟩
    | _ => simp [idxD] at h
  | tup xs =>
    cases y with
    | int i =>
      refine j_two (pe_ix ix_tup ha hb (plainIx_of hs)) fun σ H G Q v u H2 G2 R s r1 r2 q => ?_
      obtain ⟨p, vs, e, sq, rl⟩ := r1.of_tup
      obtain ⟨v', hv, rv⟩ := atI_rp rl h
      exact ⟨p, vs, i, v', e, r2.of_int, sqT_mono s.low sq, hv, q _ H2 G2 s rv⟩
    | _ => simp [idxD] at h
  | dk kvs =>
    cases hk : keyD y with
    | none => simp [idxD, hk] at h
    | some ky =>
      simp [idxD, hk] at h
      refine PE.weak (pe_dget O.units1 ha hb (plainIx_of hs)) fun σ H Q ⟨G, R, q⟩ => ⟨G, R, fun v H1 G1 s1 r1 => ⟨G1, R.step s1, fun u H2 G2 s2 r2 => ?_⟩⟩
      obtain ⟨p, ks, e, rd, rl⟩ := (r1.mono s2.le).of_dk
      obtain ⟨i1, _⟩ := look_rel ky rl
      obtain ⟨v', hv, rv⟩ := i1 d h
      have eu := key_of_rp hk r2
      subst eu
      exact ⟨p, v', e, .inl ⟨ks, ky, rd_mono s2.low rd, rfl, hv.symm⟩, q _ H2 G2 (s1.trans s2) rv⟩
  | _ => simp [idxD] at h
end
end EV

set_option Elab.async false
set_option linter.all false
set_option maxRecDepth 100000
set_option maxHeartbeats 4000000
/-! Displays, calls, built-ins, the draws. -/
namespace EV
open PySem L2
section
variable {X : Cx} {F : Frm} {T : Tab} {C : Orc} {k : Nat} {H0 : Hp} {ρ : Env} {M M1 M2 M' : Mst} {e a b c : Expr} {es : List Expr} {d x y z : D} {ds : List D} {pos p : Pos}

theorem star_cons {env : PySem.Env} {e : Expr} {es : List Expr} (h : starB e = false) : starEach (e :: es) env = (false, eval e env) :: starEach es env := by
  cases e <;> first | rfl | (simp [starB] at h)
theorem star_plain {env : PySem.Env} {pos : Pos} : ∀ {es : List Expr}, es.any starB = false → (backTo pos (starEach es env)).any (·.1) = false
  | [], _ => rfl
  | e :: es, h => by
    simp only [List.any_cons, Bool.or_eq_false_iff] at h
    rw [star_cons h.1]
    show ((false, _) :: backTo pos (starEach es env)).any (·.1) = false
    rw [List.any_cons, star_plain h.2]
    rfl
theorem any_cons {e : Expr} {es : List Expr} (h : (e :: es).any starB = false) : starB e = false ∧ es.any starB = false := by
  simpa only [List.any_cons, Bool.or_eq_false_iff] using h

theorem js_nil : PA X [] (tJs X.K H0 ρ M [] M) := PA.weak pa_nil fun σ H Q ⟨G, R, q⟩ => q [] H G R.refl RpL.nil
theorem js_cons (hs : starB e = false) (h : PE X e (tJ X.K H0 ρ M d M1)) (hr : PA X es (tJs X.K H0 ρ M1 ds M2)) : PA X (e :: es) (tJs X.K H0 ρ M (d :: ds) M2) :=
  PA.weak (pa_cons h hr (star_cons hs)) fun σ H Q ⟨G, R, q⟩ => ⟨G, R, fun v H1 G1 s1 r1 => ⟨G1, R.step s1, fun vs H2 G2 s2 r2 => q (v :: vs) H2 G2 (s1.trans s2) (RpL.cons (r1.mono s2.le) r2)⟩⟩

theorem j_tup {kk : Nat} (hl : ds.length ≤ 1000000) (h : PA X es (tJs X.K H0 ρ M ds M1)) : PE X (.Tuple es kk pos) (tJ X.K H0 ρ M (.tup ds) M1) :=
  PE.weak (pe_tup h) fun σ H Q ⟨G, R, q⟩ => ⟨G, R, fun vs H1 G1 s1 r1 => ⟨by rw [← r1.length, sizeLine_eq]; omega, fun p hp => by
    obtain ⟨G2, s2, r2⟩ := tup_new s1.low s1.mst hp r1
    exact q _ _ G2 (s1.trans s2) r2⟩⟩
/-- a new list -/
theorem lst_new {K : PySem.W.Frag} {G : Gh} {H : Hp} {p : Addr} {vs : List V} {xs : List D} {M : Mst} (l : Low G H) (r : RelM K G H M) (hp : H p = none) (q : RpL K G xs vs) :
    Step K G H G M (upd H p (.lst vs)) ∧ G.Fz p = none ∧ p ∉ drA G := ⟨Step.lay l r hp, l.fz_none hp, notin_dr r hp⟩
theorem jf_lst (hl : ds.length ≤ 1000000) (h : PA X es (tJs X.K H0 ρ M ds M1)) : PE X (.List es pos) (tJF X.K H0 ρ M ds M1) :=
  PE.weak (pe_lst h) fun σ H Q ⟨G, R, q⟩ => ⟨G, R, fun vs H1 G1 s1 r1 => ⟨by rw [← r1.length, sizeLine_eq]; omega, fun p hp => by
    obtain ⟨s2, f2, d2⟩ := lst_new s1.low s1.mst hp r1
    have hH : H p = none := by
      cases e : H p with
      | none => rfl
      | some u => exact absurd hp (s1.kp p (by rw [e]; exact fun z => by cases z))
    exact q p vs _ G1 (s1.trans s2) hH upd_same f2 d2 r1⟩⟩
theorem J_of_F {xs : List D} (h : PE X e (tJF X.K H0 ρ M xs M')) : PE X e (tJ X.K H0 ρ M (.lst xs) M') := PE.weak h fun _ _ _ q => tJ_of_F q

/-! ### a def's call -/
theorem j_call {f : Str} {i : Nat} (O : CtxOk X F T C k) (hn : nameOk f = true) (hg : glB F.sc f = true) (hf : T.funs.lookup f = some i) (hs : (e :: es).any starB = false)
    (h : PA X (e :: es) (tJs X.K H0 ρ M ds M1)) (hc : C i ds M1 = some (d, M2)) : PE X (.Call (.Name f p) (e :: es) [] pos) (tJ X.K H0 ρ M d M2) := by
  obtain ⟨ad, fd, ps, hm, hk, hb, hF, hlen⟩ := O.tab.funs f i hf
  obtain ⟨h1, _, _⟩ := nameOk_ok hn
  obtain ⟨hs1, hs2⟩ := any_cons hs
  refine PE.weak (pe_call hF O.room (glB_ok O.sc hg) hm hk hb .nil pass0 h h1 (star_cons hs1) (star_plain hs2)) fun σ H Q ⟨G, R, q⟩ => ⟨G, R, fun vs H1 G1 s1 r1 => ?_⟩
  show spD X.K ps.length (C i) (vs ++ []) H1 Q E0
  rw [List.append_nil]
  exact ⟨G1, M1, ds, d, M2, hlen ds M1 _ hc, r1, s1.low, s1.mst, hc, fun v H' G' s r => q v H' G' (s1.trans s) r⟩
theorem j_call0 {f : Str} {i : Nat} (O : CtxOk X F T C k) (hn : nameOk f = true) (hg : glB F.sc f = true) (hf : T.funs.lookup f = some i)
    (hc : C i [] M = some (d, M2)) : PE X (.Call (.Name f p) [] [] pos) (tJ X.K H0 ρ M d M2) := by
  obtain ⟨ad, fd, ps, hm, hk, hb, hF, hlen⟩ := O.tab.funs f i hf
  obtain ⟨h1, _, _⟩ := nameOk_ok hn
  refine PE.weak (pe_call0 hF O.room (glB_ok O.sc hg) hm hk hb .nil pass0 h1) fun σ H Q ⟨G, R, q⟩ => ?_
  show spD X.K ps.length (C i) ([] ++ []) H Q E0
  exact ⟨G, M, [], d, M2, hlen [] M _ hc, RpL.nil, R.low, R.mst, hc, q⟩

/-! ### built-ins -/
/-- a built-in by its values -/
theorem j_blt1 {f : Str} {id : String} {r : List V → Hp → VK → Prop} (O : CtxOk X F T C k) (hn : nameOk f = true) (hg : glB F.sc f = true) (hm : X.mg f = none) (hv : bootBuiltins f = some (.builtin id)) (hs : (e :: es).any starB = false)
    (hc : CallR X (.builtin id) r) (h : PA X (e :: es) (tJs X.K H0 ρ M ds M1))
    (w : ∀ H G Q vs, Low G H → RelM X.K G H M1 → RpL X.K G ds vs → (∀ v H' G', Step X.K G H G' M1 H' → Rp X.K G' d v → Q v H') → r vs H Q) : PE X (.Call (.Name f p) (e :: es) [] pos) (tJ X.K H0 ρ M d M1) := by
  obtain ⟨h1, _, h3⟩ := nameOk_ok hn
  obtain ⟨hs1, hs2⟩ := any_cons hs
  exact PE.weak (pe_callB hc (glB_ok O.sc hg) hm hv h h3 h1 (star_cons hs1) (star_plain hs2)) fun σ H Q ⟨G, R, q⟩ => ⟨G, R, fun vs H1 G1 s1 r1 =>
    w H1 G1 Q vs s1.low s1.mst r1 fun v H' G' s r => q v H' G' (s1.trans s) r⟩
theorem j_bltT {f : Str} {id : String} {r : List V → Hp → VK → Prop} (O : CtxOk X F T C k) (hn : nameOk f = true) (hg : glB F.sc f = true) (hm : X.mg f = none) (hv : bootBuiltins f = some (.type id)) (hs : (e :: es).any starB = false)
    (hc : CallR X (.type id) r) (h : PA X (e :: es) (tJs X.K H0 ρ M ds M1))
    (w : ∀ H G Q vs, Low G H → RelM X.K G H M1 → RpL X.K G ds vs → (∀ v H' G', Step X.K G H G' M1 H' → Rp X.K G' d v → Q v H') → r vs H Q) : PE X (.Call (.Name f p) (e :: es) [] pos) (tJ X.K H0 ρ M d M1) := by
  obtain ⟨h1, _, h3⟩ := nameOk_ok hn
  obtain ⟨hs1, hs2⟩ := any_cons hs
  exact PE.weak (pe_callTy hc (glB_ok O.sc hg) hm hv h h3 h1 (star_cons hs1) (star_plain hs2)) fun σ H Q ⟨G, R, q⟩ => ⟨G, R, fun vs H1 G1 s1 r1 =>
    w H1 G1 Q vs s1.low s1.mst r1 fun v H' G' s r => q v H' G' (s1.trans s) r⟩
theorem RpL.one {K : PySem.W.Frag} {G : Gh} {d : D} {vs : List V} (h : RpL K G [d] vs) : ∃ v, vs = [v] ∧ Rp K G d v := by
  unfold RpL at h
  obtain ⟨v, r, e, q, h⟩ := h
  unfold RpL at h
  exact ⟨v, by rw [e, h], q⟩
theorem RpL.two {K : PySem.W.Frag} {G : Gh} {d d' : D} {vs : List V} (h : RpL K G [d, d'] vs) : ∃ v v', vs = [v, v'] ∧ Rp K G d v ∧ Rp K G d' v' := by
  unfold RpL at h
  obtain ⟨v, r, e, q, h⟩ := h
  obtain ⟨v', e', q'⟩ := h.one
  exact ⟨v, v', by rw [e, e'], q, q'⟩
theorem allInt_rp {K : PySem.W.Frag} {G : Gh} : ∀ {ds : List D} {ns : List Int} {vs : List V}, allInt ds = some ns → RpL K G ds vs → vs = ns.map V.int
  | [], ns, vs, h, r => by simp [allInt] at h; unfold RpL at r; rw [h, r]; rfl
  | d :: ds, ns, vs, h, r => by
    unfold RpL at r
    obtain ⟨v, r', e, q1, q2⟩ := r
    cases d with
    | int i =>
      simp only [allInt, Option.map_eq_some_iff] at h
      obtain ⟨ms, h1, h2⟩ := h
      rw [e, q1.of_int, allInt_rp h1 q2, ← h2]; rfl
    | _ => simp [allInt] at h
theorem allBl_rp {K : PySem.W.Frag} {G : Gh} : ∀ {ds : List D} {ns : List Bool} {vs : List V}, allBl ds = some ns → RpL K G ds vs → vs = ns.map V.bl
  | [], ns, vs, h, r => by simp [allBl] at h; unfold RpL at r; rw [h, r]; rfl
  | d :: ds, ns, vs, h, r => by
    unfold RpL at r
    obtain ⟨v, r', e, q1, q2⟩ := r
    cases d with
    | bl i =>
      simp only [allBl, Option.map_eq_some_iff] at h
      obtain ⟨ms, h1, h2⟩ := h
      rw [e, q1.of_bl, allBl_rp h1 q2, ← h2]; rfl
    | _ => simp [allBl] at h

theorem j_blt {f : Str} {b : Blt} {n : Nat} (O : CtxOk X F T C k) (hn : nameOk f = true) (hg : glB F.sc f = true) (hb : bltOf T.gcd f n = some b) (hs : (e :: es).any starB = false)
    (h : PA X (e :: es) (tJs X.K H0 ρ M ds M1)) (hd : bltD b ds = some d) : PE X (.Call (.Name f p) (e :: es) [] pos) (tJ X.K H0 ρ M d M1) := by
  have hm : ∀ x, x ∈ bltNames → X.mg x = none := O.tab.bl
  unfold bltOf at hb
  split at hb
  · rename_i hx; cases hb; rw [hx.1] at hn hg ⊢
    unfold bltD at hd; split at hd <;> try contradiction
    · cases hd
      refine j_blt1 O hn hg (hm _ (by decide)) PySem.boot_len hs call_len_seq h fun H G Q vs l m r q => ?_
      obtain ⟨v, e1, r1⟩ := r.one
      obtain ⟨a, us, e2, s2, r2⟩ := r1.of_lst
      exact ⟨a, us, by rw [e1, e2], .inl (sqL_mono l s2), by rw [← r2.length]; exact q _ H G (Step.refl l m) Rp.int_⟩
    · cases hd
      refine j_blt1 O hn hg (hm _ (by decide)) PySem.boot_len hs call_len_seq h fun H G Q vs l m r q => ?_
      obtain ⟨v, e1, r1⟩ := r.one
      obtain ⟨a, us, e2, s2, r2⟩ := r1.of_tup
      exact ⟨a, us, by rw [e1, e2], .inr (sqT_mono l s2), by rw [← r2.length]; exact q _ H G (Step.refl l m) Rp.int_⟩
  split at hb
  · rename_i hx; cases hb; rw [hx.1] at hn hg ⊢
    unfold bltD at hd; split at hd <;> try contradiction
    cases hd
    refine j_blt1 O hn hg (hm _ (by decide)) (by decide +kernel) hs call_abs h fun H G Q vs l m r q => ?_
    obtain ⟨v, e1, r1⟩ := r.one
    exact ⟨_, by rw [e1, r1.of_int], q _ H G (Step.refl l m) Rp.int_⟩
  split at hb
  · rename_i hx; cases hb; rw [hx.1] at hn hg ⊢
    unfold bltD at hd; split at hd <;> try contradiction
    cases hd
    refine j_blt1 O hn hg (hm _ (by decide)) (by decide +kernel) hs (call_min2 O.calm) h fun H G Q vs l m r q => ?_
    obtain ⟨v, v', e1, r1, r2⟩ := r.two
    exact ⟨_, _, by rw [e1, r1.of_int, r2.of_int], q _ H G (Step.refl l m) Rp.int_⟩
  split at hb
  · rename_i hx; cases hb; rw [hx.1] at hn hg ⊢
    unfold bltD at hd; split at hd <;> try contradiction
    cases hd
    refine j_blt1 O hn hg (hm _ (by decide)) (by decide +kernel) hs (call_max2 O.calm) h fun H G Q vs l m r q => ?_
    obtain ⟨v, v', e1, r1, r2⟩ := r.two
    exact ⟨_, _, by rw [e1, r1.of_int, r2.of_int], q _ H G (Step.refl l m) Rp.int_⟩
  split at hb
  · rename_i hx; cases hb; rw [hx.1] at hn hg ⊢
    unfold bltD at hd; split at hd <;> try contradiction
    rename_i xs
    simp only [Option.map_eq_some_iff] at hd
    obtain ⟨ns, h1, rfl⟩ := hd
    refine j_blt1 O hn hg (hm _ (by decide)) (by decide +kernel) hs (cr_sum O.calm) h fun H G Q vs l m r q => ?_
    obtain ⟨v, e1, r1⟩ := r.one
    obtain ⟨a, us, e2, s2, r2⟩ := r1.of_lst
    have e3 := allInt_rp h1 r2
    subst e3
    exact ⟨a, ns, by rw [e1, e2], sqL_mono l s2, q _ H G (Step.refl l m) Rp.int_⟩
  split at hb
  · rename_i hx; cases hb; rw [hx.1] at hn hg ⊢
    unfold bltD at hd; split at hd <;> try contradiction
    rename_i xs
    simp only [Option.map_eq_some_iff] at hd
    obtain ⟨ns, h1, rfl⟩ := hd
    refine j_blt1 O hn hg (hm _ (by decide)) (by decide +kernel) hs (cr_all O.calm) h fun H G Q vs l m r q => ?_
    obtain ⟨v, e1, r1⟩ := r.one
    obtain ⟨a, us, e2, s2, r2⟩ := r1.of_lst
    have e3 := allBl_rp h1 r2
    subst e3
    exact ⟨a, ns, by rw [e1, e2], sqL_mono l s2, q _ H G (Step.refl l m) Rp.bl_⟩
  split at hb
  · rename_i hx; cases hb; rw [hx.1] at hn hg ⊢
    unfold bltD at hd; split at hd <;> try contradiction
    rename_i xs
    simp only [Option.map_eq_some_iff] at hd
    obtain ⟨ns, h1, rfl⟩ := hd
    refine j_blt1 O hn hg (hm _ (by decide)) (by decide +kernel) hs (cr_any O.calm) h fun H G Q vs l m r q => ?_
    obtain ⟨v, e1, r1⟩ := r.one
    obtain ⟨a, us, e2, s2, r2⟩ := r1.of_lst
    have e3 := allBl_rp h1 r2
    subst e3
    exact ⟨a, ns, by rw [e1, e2], sqL_mono l s2, q _ H G (Step.refl l m) Rp.bl_⟩
  split at hb
  · rename_i hx; cases hb; rw [hx.1] at hn hg ⊢
    unfold bltD at hd; split at hd <;> try contradiction
    · cases hd
      refine j_bltT O hn hg (hm _ (by decide)) (by decide +kernel) hs call_int1 h fun H G Q vs l m r q => ?_
      obtain ⟨v, e1, r1⟩ := r.one
      exact .inl ⟨_, by rw [e1, r1.of_int], q _ H G (Step.refl l m) Rp.int_⟩
    · cases hd
      refine j_bltT O hn hg (hm _ (by decide)) (by decide +kernel) hs call_int1 h fun H G Q vs l m r q => ?_
      obtain ⟨v, e1, r1⟩ := r.one
      exact .inr ⟨_, by rw [e1, r1.of_bl], q _ H G (Step.refl l m) Rp.int_⟩
  split at hb
  · rename_i hx; cases hb; rw [hx.1] at hn hg ⊢
    unfold bltD at hd; split at hd <;> try contradiction
    · cases hd
      refine j_bltT O hn hg (hm _ (by decide)) (by decide +kernel) hs call_tuple_of h fun H G Q vs l m r q => ?_
      obtain ⟨v, e1, r1⟩ := r.one
      obtain ⟨a, us, e2, s2, r2⟩ := r1.of_lst
      refine ⟨a, us, by rw [e1, e2], .inl ⟨sqL_mono l s2, fun p hp => ?_⟩⟩
      obtain ⟨G2, st, r3⟩ := tup_new l m hp r2
      exact q _ _ G2 st r3
    · cases hd
      refine j_bltT O hn hg (hm _ (by decide)) (by decide +kernel) hs call_tuple_of h fun H G Q vs l m r q => ?_
      obtain ⟨v, e1, r1⟩ := r.one
      obtain ⟨a, us, e2, s2, r2⟩ := r1.of_tup
      exact ⟨a, us, by rw [e1, e2], .inr ⟨sqT_mono l s2, q _ H G (Step.refl l m) (Rp.tup_ s2 r2)⟩⟩
  split at hb
  · rename_i hx; cases hb; rw [hx.1] at hn hg ⊢
    have key : ∀ (xs : List D) H G (Q : VK) (us : List V) l m, RpL X.K G xs us → (∀ v H' G', Step X.K G H G' M1 H' → Rp X.K G' (.lst xs) v → Q v H') → Low G H → RelM X.K G H M1 → l = l → m = m → ∀ p, H p = none → Q (.ref p) (upd H p (.lst us)) := fun xs H G Q us (l : Unit) (m : Unit) r2 q l m _ _ p hp => by
      obtain ⟨st, f2, d2⟩ := lst_new l m hp r2
      refine q _ _ (G.add p (.lst us)) (Step.freeze st.low st.mst st hp upd_same f2 d2) (Rp.lst_ ?_ (r2.mono (GLe.add f2)))
      exact .inl (.inl (by show upd G.Fz p (.lst us) p = _; exact upd_same))
    unfold bltD at hd; split at hd <;> try contradiction
    · cases hd
      refine j_bltT O hn hg (hm _ (by decide)) (by decide +kernel) hs call_list_of h fun H G Q vs l m r q => ?_
      obtain ⟨v, e1, r1⟩ := r.one
      obtain ⟨a, us, e2, s2, r2⟩ := r1.of_lst
      exact ⟨a, us, by rw [e1, e2], .inl (sqL_mono l s2), key _ H G Q us () () r2 q l m rfl rfl⟩
    · cases hd
      refine j_bltT O hn hg (hm _ (by decide)) (by decide +kernel) hs call_list_of h fun H G Q vs l m r q => ?_
      obtain ⟨v, e1, r1⟩ := r.one
      obtain ⟨a, us, e2, s2, r2⟩ := r1.of_tup
      exact ⟨a, us, by rw [e1, e2], .inr (sqT_mono l s2), key _ H G Q us () () r2 q l m rfl rfl⟩
  split at hb
  · rename_i hx; cases hb; rw [hx.1] at hn hg ⊢
    unfold bltD at hd; split at hd <;> try contradiction
    cases hd
    obtain ⟨h1, _, h3⟩ := nameOk_ok hn
    obtain ⟨hs1, hs2⟩ := any_cons hs
    refine PE.weak (pe_callBfun cr_gcd (glB_ok O.sc hg) (O.tab.gcd hx.2.2) h h1 (star_cons hs1) (star_plain hs2)) fun σ H Q ⟨G, R, q⟩ => ⟨G, R, fun vs H1 G1 s1 r1 => ?_⟩
    obtain ⟨v, v', e1, q1, q2⟩ := r1.two
    exact ⟨_, _, by rw [e1, q1.of_int, q2.of_int], q _ H1 G1 s1 Rp.int_⟩
  · cases hb

/-! ### isinstance -/
theorem tyx_of {K : PySem.W.Frag} {G : Gh} {H : Hp} (l : Low G H) {d : D} {v : V} (r : Rp K G d v) : ∀ {c : Blt} {b : Bool} {n : String}, isD c d = some b →
    (c = .isInt ∧ n = "int" ∨ c = .isBool ∧ n = "bool" ∨ c = .isTuple ∧ n = "tuple" ∨ c = .isList ∧ n = "list") → ∃ t, TyX K H v t ∧ PySem.W.kitOne K t (.type n) = some b := by
  intro c b n h hc
  cases d with
  | non =>
    rw [r.of_non]
    simp [isD] at h; subst h
    exact ⟨_, .base .non, by rcases hc with ⟨_, e⟩ | ⟨_, e⟩ | ⟨_, e⟩ | ⟨_, e⟩ <;> subst e <;> exact kit_ty (by decide +kernel)⟩
  | bl x =>
    rw [r.of_bl]
    simp [isD] at h
    refine ⟨_, .base (.bl x), ?_⟩
    rcases hc with ⟨e0, e⟩ | ⟨e0, e⟩ | ⟨e0, e⟩ | ⟨e0, e⟩ <;> subst e e0 <;> simp at h <;> subst h <;> exact kit_ty (by decide +kernel)
  | int x =>
    rw [r.of_int]
    simp [isD] at h
    refine ⟨_, .base (.int x), ?_⟩
    rcases hc with ⟨e0, e⟩ | ⟨e0, e⟩ | ⟨e0, e⟩ | ⟨e0, e⟩ <;> subst e e0 <;> simp at h <;> subst h <;> exact kit_ty (by decide +kernel)
  | str x =>
    rw [r.of_str]
    simp [isD] at h; subst h
    exact ⟨_, .base (.str x), by rcases hc with ⟨_, e⟩ | ⟨_, e⟩ | ⟨_, e⟩ | ⟨_, e⟩ <;> subst e <;> exact kit_ty (by decide +kernel)⟩
  | tup xs =>
    obtain ⟨a, vs, e, s, _⟩ := r.of_tup
    subst e
    simp [isD] at h
    have ty : TyX K H (.ref a) (.type "tuple") := by
      rcases s with (s | ⟨o, s⟩) | ⟨o, _, _, s, e, _⟩
      · exact .base (.tup (l _ _ s))
      · exact .fTuple (l _ _ s)
      · exact .kTuple s e
    refine ⟨_, ty, ?_⟩
    rcases hc with ⟨e0, e⟩ | ⟨e0, e⟩ | ⟨e0, e⟩ | ⟨e0, e⟩ <;> subst e e0 <;> simp at h <;> subst h <;> exact kit_ty (by decide +kernel)
  | lst xs =>
    obtain ⟨a, vs, e, s, _⟩ := r.of_lst
    subst e
    simp [isD] at h
    have ty : TyX K H (.ref a) (.type "list") := by
      rcases s with (s | ⟨o, s⟩) | ⟨o, _, _, s, e, _⟩
      · exact .base (.lst (l _ _ s))
      · exact .base (.frz (l _ _ s))
      · exact .kList s e
    refine ⟨_, ty, ?_⟩
    rcases hc with ⟨e0, e⟩ | ⟨e0, e⟩ | ⟨e0, e⟩ | ⟨e0, e⟩ <;> subst e e0 <;> simp at h <;> subst h <;> exact kit_ty (by decide +kernel)
  | dk _ => simp [isD] at h
  | draw => simp [isD] at h
theorem j_isi {t : Str} {b : Blt} {r : Bool} {p' : Pos} (O : CtxOk X F T C k) (hn : nameOk "isinstance" = true) (hg : glB F.sc "isinstance" = true) (ht : glB F.sc t = true) (htn : nameOk t = true) (hb : isOf t = some b)
    (hs : starB a = false) (h : PE X a (tJ X.K H0 ρ M x M1)) (hd : isD b x = some r) : PE X (.Call (.Name "isinstance" p) [a, .Name t p'] [] pos) (tJ X.K H0 ρ M (.bl r) M1) := by
  obtain ⟨h1, _, h3⟩ := nameOk_ok hn
  obtain ⟨t1, _, t3⟩ := nameOk_ok htn
  have go : ∀ (n : String), (b = .isInt ∧ n = "int" ∨ b = .isBool ∧ n = "bool" ∨ b = .isTuple ∧ n = "tuple" ∨ b = .isList ∧ n = "list") → X.mg t = none → bootBuiltins t = some (.type n) →
      PE X (.Call (.Name "isinstance" p) [a, .Name t p'] [] pos) (tJ X.K H0 ρ M (.bl r) M1) := fun n hc hm hv => by
    refine PE.weak (pe_callB call_isi (glB_ok O.sc hg) (O.tab.bl _ (by decide)) (by decide +kernel) (pa_cons h (pa_cons (pe_bltn (v := .ty n) (glB_ok O.sc ht) hm hv rfl t3 t1) pa_nil) (star_cons hs)) h3 h1 (star_cons hs) (star_plain rfl)) fun σ H Q ⟨G, R, q⟩ => ⟨G, R, fun v H1 G1 s1 r1 => ?_⟩
    obtain ⟨ty, hty, hk⟩ := tyx_of s1.low r1 hd hc
    exact ⟨v, .ty n, ty, .type n, r, rfl, .ty n, hty, hk, q _ H1 G1 s1 Rp.bl_⟩
  unfold isOf at hb
  split at hb
  · rename_i e; cases hb; exact go "int" (.inl ⟨rfl, rfl⟩) (by rw [e]; exact O.tab.bl _ (by decide)) (by rw [e]; decide +kernel)
  split at hb
  · rename_i e; cases hb; exact go "bool" (.inr (.inl ⟨rfl, rfl⟩)) (by rw [e]; exact O.tab.bl _ (by decide)) (by rw [e]; decide +kernel)
  split at hb
  · rename_i e; cases hb; exact go "tuple" (.inr (.inr (.inl ⟨rfl, rfl⟩))) (by rw [e]; exact O.tab.bl _ (by decide)) (by rw [e]; decide +kernel)
  split at hb
  · rename_i e; cases hb; exact go "list" (.inr (.inr (.inr ⟨rfl, rfl⟩))) (by rw [e]; exact O.tab.bl _ (by decide)) (by rw [e]; decide +kernel)
  · cases hb
end
end EV

set_option Elab.async false
set_option linter.all false
set_option maxRecDepth 100000
set_option maxHeartbeats 4000000
/-! The draws; and, or, not, if. -/
namespace EV
open PySem L2
section
variable {X : Cx} {F : Frm} {T : Tab} {C : Orc} {k : Nat} {H0 : Hp} {ρ : Env} {M M1 M2 M' : Mst} {e a b c : Expr} {es : List Expr} {d x y z : D} {ds : List D} {pos p : Pos}

theorem j_neg {i : Int} (ha : PE X a (tJ X.K H0 ρ M (.int i) M1)) : PE X (.UnaryOp .USub a pos) (tJ X.K H0 ρ M (.int (-i)) M1) :=
  PE.weak (pe_un un_neg ha) fun σ H Q ⟨G, R, q⟩ => ⟨G, R, fun v H1 G1 s1 r1 => ⟨i, r1.of_int, q _ H1 G1 s1 Rp.int_⟩⟩
theorem j_not {b : Bool} (ha : PE X a (tJ X.K H0 ρ M (.bl b) M1)) : PE X (.UnaryOp .Not a pos) (tJ X.K H0 ρ M (.bl (!b)) M1) :=
  PE.weak (pe_not ha) fun σ H Q ⟨G, R, q⟩ => ⟨G, R, fun v H1 G1 s1 r1 => ⟨b, r1.of_bl, q _ H1 G1 s1 Rp.bl_⟩⟩
theorem jt_not {b : Bool} (ha : PT X a (tJT X.K H0 ρ M b M1)) : PT X (.UnaryOp .Not a pos) (tJT X.K H0 ρ M (!b) M1) :=
  PT.weak (pt_not ha) fun σ H Q ⟨G, R, q⟩ => ⟨G, R, fun H1 G1 s1 => q H1 G1 s1⟩

/-! ### and, or -/
theorem j_and1 {es : List Expr} (ha : PE X a (tJ X.K H0 ρ M (.bl true) M1)) (hb : PE X (.BoolOp .And (b :: es) pos) (tJ X.K H0 ρ M1 d M2)) : PE X (.BoolOp .And (a :: b :: es) pos) (tJ X.K H0 ρ M d M2) :=
  PE.weak (pe_and ha hb) fun σ H Q ⟨G, R, q⟩ => ⟨G, R, fun v H1 G1 s1 r1 => ⟨true, r1.of_bl, iteT ⟨G1, R.step s1, fun v H2 G2 s2 r2 => q v H2 G2 (s1.trans s2) r2⟩⟩⟩
theorem j_and0 {es : List Expr} {t : TE} (ha : PE X a (tJ X.K H0 ρ M (.bl false) M1)) (hb : PE X (.BoolOp .And (b :: es) pos) t) : PE X (.BoolOp .And (a :: b :: es) pos) (tJ X.K H0 ρ M (.bl false) M1) :=
  PE.weak (pe_and ha hb) fun σ H Q ⟨G, R, q⟩ => ⟨G, R, fun v H1 G1 s1 r1 => ⟨false, r1.of_bl, iteF (q _ H1 G1 s1 Rp.bl_)⟩⟩
theorem j_or0 {es : List Expr} (ha : PE X a (tJ X.K H0 ρ M (.bl false) M1)) (hb : PE X (.BoolOp .Or (b :: es) pos) (tJ X.K H0 ρ M1 d M2)) : PE X (.BoolOp .Or (a :: b :: es) pos) (tJ X.K H0 ρ M d M2) :=
  PE.weak (pe_or ha hb) fun σ H Q ⟨G, R, q⟩ => ⟨G, R, fun v H1 G1 s1 r1 => ⟨false, r1.of_bl, iteF ⟨G1, R.step s1, fun v H2 G2 s2 r2 => q v H2 G2 (s1.trans s2) r2⟩⟩⟩
theorem j_or1 {es : List Expr} {t : TE} (ha : PE X a (tJ X.K H0 ρ M (.bl true) M1)) (hb : PE X (.BoolOp .Or (b :: es) pos) t) : PE X (.BoolOp .Or (a :: b :: es) pos) (tJ X.K H0 ρ M (.bl true) M1) :=
  PE.weak (pe_or ha hb) fun σ H Q ⟨G, R, q⟩ => ⟨G, R, fun v H1 G1 s1 r1 => ⟨true, r1.of_bl, iteT (q _ H1 G1 s1 Rp.bl_)⟩⟩
theorem jt_and1 {es : List Expr} {r : Bool} (ha : PT X a (tJT X.K H0 ρ M true M1)) (hb : PW X (.BoolOp .And (b :: es) pos) (tJT X.K H0 ρ M1 r M2)) : PW X (.BoolOp .And (a :: b :: es) pos) (tJT X.K H0 ρ M r M2) :=
  PW.weak (pw_and ha hb) fun σ H Q ⟨G, R, q⟩ => ⟨G, R, fun H1 G1 s1 => iteT ⟨G1, R.step s1, fun H2 G2 s2 => q H2 G2 (s1.trans s2)⟩⟩
theorem jt_and0 {es : List Expr} {t : TT} (ha : PT X a (tJT X.K H0 ρ M false M1)) (hb : PW X (.BoolOp .And (b :: es) pos) t) : PW X (.BoolOp .And (a :: b :: es) pos) (tJT X.K H0 ρ M false M1) :=
  PW.weak (pw_and ha hb) fun σ H Q ⟨G, R, q⟩ => ⟨G, R, fun H1 G1 s1 => iteF (q H1 G1 s1)⟩
theorem jt_or0 {es : List Expr} {r : Bool} (ha : PT X a (tJT X.K H0 ρ M false M1)) (hb : PW X (.BoolOp .Or (b :: es) pos) (tJT X.K H0 ρ M1 r M2)) : PW X (.BoolOp .Or (a :: b :: es) pos) (tJT X.K H0 ρ M r M2) :=
  PW.weak (pw_or ha hb) fun σ H Q ⟨G, R, q⟩ => ⟨G, R, fun H1 G1 s1 => iteF ⟨G1, R.step s1, fun H2 G2 s2 => q H2 G2 (s1.trans s2)⟩⟩
theorem jt_or1 {es : List Expr} {t : TT} (ha : PT X a (tJT X.K H0 ρ M true M1)) (hb : PW X (.BoolOp .Or (b :: es) pos) t) : PW X (.BoolOp .Or (a :: b :: es) pos) (tJT X.K H0 ρ M true M1) :=
  PW.weak (pw_or ha hb) fun σ H Q ⟨G, R, q⟩ => ⟨G, R, fun H1 G1 s1 => iteT (q H1 G1 s1)⟩
theorem pt_none {e : Expr} : PT X e (fun _ _ _ => False) := ⟨fun _ _ _ _ _ _ h => h.elim⟩
theorem pw_none {e : Expr} : PW X e (fun _ _ _ => False) := ⟨fun _ _ _ _ _ _ _ h => h.elim⟩

/-! ### if -/
theorem j_ite1 {t : TE} (hc : PT X c (tJT X.K H0 ρ M true M1)) (ha : PE X a (tJ X.K H0 ρ M1 d M2)) (hb : PE X b t) : PE X (.IfExp c a b pos) (tJ X.K H0 ρ M d M2) :=
  PE.weak (pe_ifExp hc ha hb) fun σ H Q ⟨G, R, q⟩ => ⟨G, R, fun H1 G1 s1 => iteT ⟨G1, R.step s1, fun v H2 G2 s2 r2 => q v H2 G2 (s1.trans s2) r2⟩⟩
theorem j_ite0 {t : TE} (hc : PT X c (tJT X.K H0 ρ M false M1)) (ha : PE X a t) (hb : PE X b (tJ X.K H0 ρ M1 d M2)) : PE X (.IfExp c a b pos) (tJ X.K H0 ρ M d M2) :=
  PE.weak (pe_ifExp hc ha hb) fun σ H Q ⟨G, R, q⟩ => ⟨G, R, fun H1 G1 s1 => iteF ⟨G1, R.step s1, fun v H2 G2 s2 r2 => q v H2 G2 (s1.trans s2) r2⟩⟩

/-! ### truth -/
theorem tru_rp {K : PySem.W.Frag} {G : Gh} {H : Hp} (l : Low G H) {d : D} {v : V} {b : Bool} (h : truthD d = some b) (r : Rp K G d v) : TruV K v H b := by
  cases d with
  | non => simp [truthD] at h; rw [r.of_non]; show b = false; simp [h]
  | bl x => simp [truthD] at h; rw [r.of_bl]; show b = x; exact h.symm
  | int x => have h' : some (x != 0) = some b := h; rw [r.of_int]; show b = (x != 0); exact (Option.some.inj h').symm
  | str x => simp [truthD] at h
  | tup xs =>
    simp [truthD] at h
    obtain ⟨a, vs, e, s, rl⟩ := r.of_tup
    subst e
    refine .inr (.inl ⟨vs, sqT_mono l s, ?_⟩)
    have hl := rl.length
    cases xs <;> cases vs <;> simp at hl h ⊢ <;> exact h
  | lst xs =>
    simp [truthD] at h
    obtain ⟨a, vs, e, s, rl⟩ := r.of_lst
    subst e
    refine .inl ⟨vs, sqL_mono l s, ?_⟩
    have hl := rl.length
    cases xs <;> cases vs <;> simp at hl h ⊢ <;> exact h
  | dk _ => simp [truthD] at h
  | draw => simp [truthD] at h
/-- an expression that isTrue asks by its value's truth -/
def plainT : Expr → Bool
  | .UnaryOp .Not _ _ | .BoolOp .. | .IfExp .. | .Compare .. => false
  | _ => true
theorem isTrue_of {e : Expr} {env : PySem.Env} (h : plainT e = true) (whole : Sem Value) : isTrue e env whole = (do let v ← whole; standAt e.pos; holding [v] (truthy v)) := by
  cases e with
  | UnaryOp op a p => cases op <;> first | rfl | (simp [plainT] at h)
  | BoolOp _ _ _ => simp [plainT] at h
  | IfExp _ _ _ _ => simp [plainT] at h
  | Compare _ _ _ _ => simp [plainT] at h
  | _ => rfl
theorem jt_tru {r : Bool} (hp : plainT e = true) (h : PE X e (tJ X.K H0 ρ M d M1)) (ht : truthD d = some r) : PT X e (tJT X.K H0 ρ M r M1) :=
  PT.weak (pt_truth h (isTrue_of hp)) fun σ H Q ⟨G, R, q⟩ => ⟨G, R, fun v H1 G1 s1 r1 => ⟨r, tru_rp s1.low ht r1, q H1 G1 s1⟩⟩

/-! ### the draws -/
theorem strC_ok {e : Expr} {s : Str} (h : strC e = some s) : PE X e (tC (.str s)) := by
  unfold strC at h
  split at h
  · cases h; exact pe_str
  · cases h
theorem strC_sl {e : Expr} {s : Str} (h : strC e = some s) : PlainIx e := by
  unfold strC at h
  split at h
  · exact fun _ _ => rfl
  · cases h
theorem nk (x y : Str) (h : x ≠ y) : ¬ (Sum.inr x : Key) = Sum.inr y := fun z => h (Sum.inr.inj z)
theorem ne1 : ("large" : Str) ≠ "rest" := by decide +kernel
theorem ne2 : ("large" : Str) ≠ "cells" := by decide +kernel
theorem ne3 : ("large" : Str) ≠ "turn" := by decide +kernel
theorem ne4 : ("rest" : Str) ≠ "cells" := by decide +kernel
theorem ne5 : ("rest" : Str) ≠ "turn" := by decide +kernel
theorem ne6 : ("cells" : Str) ≠ "turn" := by decide +kernel
theorem val_rest (la ca : Addr) (m : Draw) : valV (drawKvs la ca m) (Sum.inr "rest" : Key) = some (.int m.rest) := by
  unfold drawKvs; exact (valV_neg (nk _ _ ne1)).trans (valV_pos rfl)
theorem val_cells (la ca : Addr) (m : Draw) : valV (drawKvs la ca m) (Sum.inr "cells" : Key) = some (.ref ca) := by
  unfold drawKvs; exact (valV_neg (nk _ _ ne2)).trans ((valV_neg (nk _ _ ne4)).trans (valV_pos rfl))
theorem val_turn (la ca : Addr) (m : Draw) : valV (drawKvs la ca m) (Sum.inr "turn" : Key) = some (.int m.turn) := by
  unfold drawKvs; exact (valV_neg (nk _ _ ne3)).trans ((valV_neg (nk _ _ ne5)).trans ((valV_neg (nk _ _ ne6)).trans (valV_pos rfl)))
theorem val_large (la ca : Addr) (m : Draw) : valV (drawKvs la ca m) (Sum.inr "large" : Key) = some (.ref la) := by
  unfold drawKvs; exact valV_pos rfl
def dkD (m : Draw) : DK → D
  | .rest => .int m.rest
  | .turn => .int m.turn
  | .cells => .lst (m.cells.map .int)
theorem j_dget {s : Str} {kk : DK} {m : Draw} (O : CtxOk X F T C k) (hs : strC b = some s) (hk : dkOf s = some kk) (ha : PE X a (tJ X.K H0 ρ M .draw (some m))) :
    PE X (.Subscript a b pos) (tJ X.K H0 ρ M (dkD m kk) (some m)) := by
  refine PE.weak (pe_dget O.units1 ha (strC_ok hs) (strC_sl hs)) fun σ H Q ⟨G, R, q⟩ => ⟨G, R, fun v H1 G1 s1 r1 => ?_⟩
  obtain ⟨da, la, ca, e, ev⟩ := r1.of_draw
  obtain ⟨da', la', ca', e', h1, h2, h3, h4, h5⟩ := s1.mst
  rw [e] at e'; cases e'
  unfold dkOf at hk
  split at hk
  · rename_i es; cases hk; subst es
    exact ⟨da, _, ev, .inl ⟨_, (Sum.inr "rest" : Key), .inl h1, rfl, (val_rest la ca m).symm⟩, q _ H1 G1 s1 Rp.int_⟩
  split at hk
  · rename_i es; cases hk; subst es
    exact ⟨da, _, ev, .inl ⟨_, (Sum.inr "turn" : Key), .inl h1, rfl, (val_turn la ca m).symm⟩, q _ H1 G1 s1 Rp.int_⟩
  split at hk
  · rename_i es; cases hk; subst es
    exact ⟨da, _, ev, .inl ⟨_, (Sum.inr "cells" : Key), .inl h1, rfl, (val_cells la ca m).symm⟩, q _ H1 G1 s1 (Rp.lst_ h3 RpL.ints)⟩
  · cases hk
theorem dpAll_ints {K : PySem.W.Frag} {H : Hp} : ∀ ns : List Int, DpAll K H (ns.map V.int) (ns.map PyData.int)
  | [] => .nil
  | n :: ns => .cons (.int n) (dpAll_ints ns)
theorem shaped_ints : ∀ ns : List Int, SeqAt.shaped (.list (ns.map PyData.int)) = true := fun ns => PySem.W.ke_shaped_ints ns
theorem j_dne {s : Str} {kk : DK} {m : Draw} {p1 p2 p3 : Pos} {j : Nat} (O : CtxOk X F T C k) (ha : PE X a (tJ X.K H0 ρ M .draw (some m))) :
    PE X (.Compare (.Subscript a (.Constant (.str "large") j p1) p2) [.NotEq] [.List [] p3] pos) (tJ X.K H0 ρ M (.bl (!m.large.isEmpty)) (some m)) := by
  refine PE.weak (pe_cmpR (op_neD O.units) (pe_dget O.units1 ha pe_str (fun _ _ => rfl)) (pe_lst pa_nil) (nomark _)) fun σ H Q ⟨G, R, q⟩ => ⟨G, R, fun v H1 G1 s1 r1 => ?_⟩
  obtain ⟨da, la, ca, e, ev⟩ := r1.of_draw
  obtain ⟨da', la', ca', e', h1, h2, h3, h4, h5⟩ := id s1.mst
  rw [e] at e'; cases e'
  refine ⟨da, _, ev, .inl ⟨_, (Sum.inr "large" : Key), .inl h1, rfl, (val_large la ca m).symm⟩, by rw [sizeLine_eq]; decide, fun p hp => ?_⟩
  have e1 : SqL X.K (upd H1 p (.lst [])) la (m.large.map V.int) := SqL.of (by rw [upd_ne (ne_of_none h2 hp)]; exact h2)
  refine ⟨_, _, .lst e1 (dpAll_ints _), .lst (SqL.of upd_same) .nil, shaped_ints _, by decide, ?_⟩
  obtain ⟨s2, f2, d2⟩ := lst_new (xs := []) s1.low s1.mst hp RpL.nil
  have eq : PyData.eqv (.list (m.large.map PyData.int)) (.list []) = m.large.isEmpty := by
    cases m.large with
    | nil => rfl
    | cons _ _ => simp [PyData.eqv, PyData.eqvAll]
  rw [eq]
  exact q _ _ G1 (s1.trans s2) Rp.bl_
theorem hd_pop {α : Type} (i : α) (r : List α) : seqIndex? 0 (i :: r).length = some 0 := by
  show seqIndex? ((0 : Nat) : Int) _ = _
  exact (L2.ixN_seq (n := (i :: r).length) (i := 0) (j := 0) (by unfold L2.ixN; simp)).1
theorem j_dpop {m : Draw} {i : Int} {r : List Int} {p1 p2 p3 : Pos} {j j' : Nat} {ap : Pos} (O : CtxOk X F T C k) (hl : (ap.endLine == pos.line) = true) (ha : PE X a (tJ X.K H0 ρ M .draw (some m))) (hm : m.large = i :: r) :
    PE X (.Call (.Attribute (.Subscript a (.Constant (.str "large") j p1) p2) "pop" ap) [.Constant (.int 0) j' p3] [] pos) (tJ X.K H0 ρ M (.int i) (some { m with large := r })) := by
  refine PE.weak (pe_bm PySem.F.plainAttrs_list PySem.F.slot_list_pop PySem.F.type_list_pop mt_popAt (pe_dget O.units1 ha pe_str (fun _ _ => rfl)) (pa_cons pe_int pa_nil) rfl rfl hl) fun σ H Q ⟨G, R, q⟩ => ⟨G, R, fun v H1 G1 s1 r1 => ?_⟩
  obtain ⟨da, la, ca, e, ev⟩ := r1.of_draw
  obtain ⟨da', la', ca', e', h1, h2, h3, h4, h5⟩ := id s1.mst
  rw [e] at e'; cases e'
  have hne : da ≠ la := ne_of h1 h2 (by intro z; cases z)
  refine ⟨da, _, ev, .inl ⟨_, (Sum.inr "large" : Key), .inl h1, rfl, (val_large la ca m).symm⟩, .inl ⟨rfl, _, SqL.of h2⟩, la, _, 0, 0, .int i, rfl, rfl, h2, by decide, by decide, by rw [hm]; exact hd_pop _ _, by rw [hm]; rfl, ?_⟩
  have inl : la ∈ drA G1 := by unfold drA; rw [e]; simp
  refine q (.int i) _ G1 (s1.trans ⟨GLe.refl G1, fun _ _ h => .inl h, fun a u h ha => ?_, fun _ h => .inl h, fun a h => ?_, fun a u h => ?_, ?_⟩) Rp.int_
  · rw [upd_ne (fun z => ha (by rw [z]; exact inl))]; exact h
  · by_cases z : a = la
    · subst z; rw [upd_same]; exact fun z => by cases z
    · rw [upd_ne z]; exact h
  · rw [upd_ne (fun z => by rw [z, h5] at h; cases h)]; exact s1.low a u h
  · refine ⟨da, la, ca, e, by rw [upd_ne hne]; exact h1, ?_, h3, h4, h5⟩
    rw [upd_same, hm]
    rfl
end
end EV

set_option Elab.async false
set_option linter.all false
set_option maxRecDepth 100000
set_option maxHeartbeats 4000000
/-! What is walked; comprehensions. -/
namespace EV
open PySem L2

/-- an iterator that gives these data, while what is frozen stands -/
structure WalkD (K : PySem.W.Frag) (G0 : Gh) (J : It) (items : List D) : Prop where
  len : items.length ≤ sizeLine
  go : ∀ i H, i < items.length → Low G0 H → J.go i H
  stop : ∀ H, Low G0 H → J.stop items.length H
  yld : ∀ i H x H' G d M, items[i]? = some d → GLe G0 G → Low G H → RelM K G H M → J.yld i H x H' → ∃ G', Step K G H G' M H' ∧ Rp K G' d x

theorem Low.le {G0 G : Gh} {H : Hp} (h : GLe G0 G) (l : Low G H) : Low G0 H := fun a o e => l a o (h.fz a o e)

def tI (K : PySem.W.Frag) (H0 : Hp) (ρ : Env) (M : Mst) (items : List D) (M' : Mst) : TI := fun σ H R => ∃ G, Rel K H0 ρ M G σ H ∧ ∀ J H' G', Step K G H G' M' H' → WalkD K G' J items → R J H'

section
variable {K : PySem.W.Frag} {G0 : Gh} {a b : Addr} {vs us : List V} {xs ys : List D}
theorem walkD_list (hl : vs.length ≤ sizeLine) (s : SqL K G0.Fz a vs) (r : RpL K G0 xs vs) : WalkD K G0 (Itl K a) xs := by
  have e := r.length
  refine ⟨by omega, fun i H hi l => ?_, fun H l => ⟨vs, sqL_mono l s, by omega⟩, fun i H x H' G d M hd hg l m y => ?_⟩
  · exact ⟨vs, vs[i]'(by omega), sqL_mono l s, by simp [show i < vs.length by omega]⟩
  · obtain ⟨v, hv, rv⟩ := r.get hd
    obtain ⟨e1, y⟩ := y
    subst e1
    have := y vs (sqL_mono (l.le hg) s)
    rw [hv] at this
    cases this
    exact ⟨G, Step.refl l m, rv.mono hg⟩
theorem walkD_tup (hl : vs.length ≤ sizeLine) (s : SqT K G0.Fz a vs) (r : RpL K G0 xs vs) : WalkD K G0 (Itt K a) xs := by
  have e := r.length
  refine ⟨by omega, fun i H hi l => ?_, fun H l => ⟨vs, sqT_mono l s, by omega⟩, fun i H x H' G d M hd hg l m y => ?_⟩
  · exact ⟨vs, vs[i]'(by omega), sqT_mono l s, by simp [show i < vs.length by omega]⟩
  · obtain ⟨v, hv, rv⟩ := r.get hd
    obtain ⟨e1, y⟩ := y
    subst e1
    have := y vs (sqT_mono (l.le hg) s)
    rw [hv] at this
    cases this
    exact ⟨G, Step.refl l m, rv.mono hg⟩
theorem rngL_get {lo : Int} {n i : Nat} {d : D} (h : (rngL lo n)[i]? = some d) : d = .int (lo + (i : Int)) := by
  unfold rngL at h
  rw [List.getElem?_map] at h
  cases e : (List.range n)[i]? with
  | none => rw [e] at h; cases h
  | some j =>
    rw [e] at h
    obtain ⟨hi, e'⟩ := List.getElem?_eq_some_iff.mp e
    rw [List.getElem_range] at e'
    subst e'
    exact (Option.some.inj h).symm
theorem walkD_rng {lo : Int} {n : Nat} (h : n ≤ sizeLine) : WalkD K G0 (L2.Itr lo n) (rngL lo n) := by
  have e : (rngL lo n).length = n := by simp [rngL]
  refine ⟨by omega, fun i H hi l => by rw [e] at hi; exact hi, fun H l => by rw [e]; exact Nat.le_refl _, fun i H x H' G d M hd hg l m y => ?_⟩
  obtain ⟨e1, y⟩ := y
  subst e1
  rw [rngL_get hd, y]
  exact ⟨G, Step.refl l m, Rp.int_⟩
theorem rngDL_get {lo : Int} {n i : Nat} {d : D} (h : (rngDL lo n)[i]? = some d) : d = .int (lo + (i : Nat) * (-1)) := by
  unfold rngDL at h
  rw [List.getElem?_map] at h
  cases e : (List.range n)[i]? with
  | none => rw [e] at h; cases h
  | some j =>
    rw [e] at h
    obtain ⟨hi, e'⟩ := List.getElem?_eq_some_iff.mp e
    rw [List.getElem_range] at e'
    subst e'
    exact (Option.some.inj h).symm
theorem walkD_rngD {lo : Int} {n : Nat} (h : n ≤ sizeLine) : WalkD K G0 (Itc lo (-1) n) (rngDL lo n) := by
  have e : (rngDL lo n).length = n := by simp [rngDL]
  refine ⟨by omega, fun i H hi l => by rw [e] at hi; exact hi, fun H l => by rw [e]; exact Nat.le_refl _, fun i H x H' G d M hd hg l m y => ?_⟩
  obtain ⟨e1, y⟩ := y
  subst e1
  rw [rngDL_get hd, y]
  exact ⟨G, Step.refl l m, Rp.int_⟩
theorem zip2L_length : ∀ xs ys : List D, (zip2L xs ys).length = min xs.length ys.length
  | [], ys => by cases ys <;> simp [zip2L]
  | x :: xs, [] => by simp [zip2L]
  | x :: xs, y :: ys => by simp [zip2L, zip2L_length xs ys]
theorem zip2L_get : ∀ {xs ys : List D} {i : Nat} {d : D}, (zip2L xs ys)[i]? = some d → ∃ x y, xs[i]? = some x ∧ ys[i]? = some y ∧ d = .tup [x, y]
  | [], ys, i, d, h => by cases ys <;> simp [zip2L] at h
  | x :: xs, [], i, d, h => by simp [zip2L] at h
  | x :: xs, y :: ys, 0, d, h => by simp [zip2L] at h; exact ⟨x, y, rfl, rfl, h.symm⟩
  | x :: xs, y :: ys, i + 1, d, h => by
    simp [zip2L] at h
    obtain ⟨x', y', h1, h2, e⟩ := zip2L_get h
    exact ⟨x', y', by simpa using h1, by simpa using h2, e⟩
theorem walkD_zipT (hl : xs.length ≤ 1000000) (s : SqT K G0.Fz a vs) (s' : SqT K G0.Fz b us) (r : RpL K G0 xs vs) (r' : RpL K G0 ys us) : WalkD K G0 (RZ.ItzT K a b) (zip2L xs ys) := by
  have e := r.length
  have e' := r'.length
  have el := zip2L_length xs ys
  refine ⟨by rw [sizeLine_eq]; omega, fun i H hi l => ?_, fun H l => ⟨vs, us, sqT_mono l s, sqT_mono l s', by omega⟩, fun i H x H' G d M hd hg l m y => ?_⟩
  · exact ⟨vs, us, vs[i]'(by omega), us[i]'(by omega), sqT_mono l s, sqT_mono l s', by simp [show i < vs.length by omega], by simp [show i < us.length by omega]⟩
  · obtain ⟨dx, dy, h1, h2, ed⟩ := zip2L_get hd
    obtain ⟨v, hv, rv⟩ := r.get h1
    obtain ⟨u, hu, ru⟩ := r'.get h2
    obtain ⟨T, x', y', ex, hT, eH, f1, f2⟩ := y
    have e1 := f1 vs (sqT_mono (l.le hg) s)
    have e2 := f2 us (sqT_mono (l.le hg) s')
    rw [hv] at e1; rw [hu] at e2
    cases e1; cases e2
    subst ex eH ed
    exact tup_new l m hT (RpL.cons (rv.mono hg) (RpL.cons (ru.mono hg) RpL.nil))
theorem walkD_zipL (hl : xs.length ≤ 1000000) (s : SqL K G0.Fz a vs) (s' : SqL K G0.Fz b us) (r : RpL K G0 xs vs) (r' : RpL K G0 ys us) : WalkD K G0 (Itz K a b) (zip2L xs ys) := by
  have e := r.length
  have e' := r'.length
  have el := zip2L_length xs ys
  refine ⟨by rw [sizeLine_eq]; omega, fun i H hi l => ?_, fun H l => ⟨vs, us, sqL_mono l s, sqL_mono l s', by omega⟩, fun i H x H' G d M hd hg l m y => ?_⟩
  · exact ⟨vs, us, vs[i]'(by omega), us[i]'(by omega), sqL_mono l s, sqL_mono l s', by simp [show i < vs.length by omega], by simp [show i < us.length by omega]⟩
  · obtain ⟨dx, dy, h1, h2, ed⟩ := zip2L_get hd
    obtain ⟨v, hv, rv⟩ := r.get h1
    obtain ⟨u, hu, ru⟩ := r'.get h2
    obtain ⟨T, x', y', ex, hT, eH, f1, f2⟩ := y
    have e1 := f1 vs (sqL_mono (l.le hg) s)
    have e2 := f2 us (sqL_mono (l.le hg) s')
    rw [hv] at e1; rw [hu] at e2
    cases e1; cases e2
    subst ex eH ed
    exact tup_new l m hT (RpL.cons (rv.mono hg) (RpL.cons (ru.mono hg) RpL.nil))
theorem enumL_length : ∀ (k : Nat) (xs : List D), (enumL k xs).length = xs.length
  | k, [] => rfl
  | k, x :: xs => by simp [enumL, enumL_length (k + 1) xs]
theorem enumL_get : ∀ {k : Nat} {xs : List D} {i : Nat} {d : D}, (enumL k xs)[i]? = some d → ∃ x, xs[i]? = some x ∧ d = .tup [.int ((k + i : Nat) : Int), x]
  | k, [], i, d, h => by simp [enumL] at h
  | k, x :: xs, 0, d, h => by simp [enumL] at h; exact ⟨x, rfl, by rw [← h]; rfl⟩
  | k, x :: xs, i + 1, d, h => by
    simp [enumL] at h
    obtain ⟨x', h1, e⟩ := enumL_get h
    exact ⟨x', by simpa using h1, by rw [e, show k + 1 + i = k + (i + 1) by omega]⟩
theorem walkD_enum (hl : xs.length ≤ 1000000) (s : SqL K G0.Fz a vs) (r : RpL K G0 xs vs) : WalkD K G0 (Ite K a) (enumL 0 xs) := by
  have e := r.length
  have el := enumL_length 0 xs
  refine ⟨by rw [sizeLine_eq]; omega, fun i H hi l => ?_, fun H l => ⟨vs, sqL_mono l s, by omega⟩, fun i H x H' G d M hd hg l m y => ?_⟩
  · exact ⟨vs, vs[i]'(by omega), sqL_mono l s, by simp [show i < vs.length by omega]⟩
  · obtain ⟨dx, h1, ed⟩ := enumL_get hd
    obtain ⟨v, hv, rv⟩ := r.get h1
    obtain ⟨T, x', ex, hT, eH, f1⟩ := y
    have e1 := f1 vs (sqL_mono (l.le hg) s)
    rw [hv] at e1
    cases e1
    subst ex eH ed
    rw [Nat.zero_add]
    exact tup_new l m hT (RpL.cons Rp.int_ (RpL.cons (rv.mono hg) RpL.nil))
end

/-- a list, a tuple that is walked, its length known -/
def iListL (K : PySem.W.Frag) (tl : TE) : TI := fun σ H R => tl σ H fun x H1 => ∃ a, x = .ref a ∧ ∃ xs, SqL K H1 a xs ∧ (xs.length ≤ sizeLine → R (Itl K a) H1)
def iTupL (K : PySem.W.Frag) (tl : TE) : TI := fun σ H R => tl σ H fun x H1 => ∃ a, x = .ref a ∧ ∃ xs, SqT K H1 a xs ∧ (xs.length ≤ sizeLine → R (Itt K a) H1)
section
open PySem.Spec PyProof.Rows
variable {X : Cx} {tg : Expr}
theorem pi_listL {l : Expr} {tl : TE} (hl : PE X l tl) : PI X tg l (iListL X.K tl) := by
  refine ⟨fun pins s σ H R I h => ?_⟩
  refine thn (hl.run pins s σ H _ I h) fun v s1 ⟨x, H1, I1, r1, q1⟩ => ?_
  obtain ⟨a, e, xs, hq, q⟩ := q1
  subst e
  cases r1
  obtain ⟨its, rv, p, hz⟩ := I1.list hq
  refine wpAny_pyIter_list p.isList ?_
  refine ⟨s1.heap.objs.size, [s1.heap.objs.size], _, _, H1, rfl, I1.kept (t' := s1.toks) fun b o e => Heap.get?_push_of_some _ e, turn_list a _, ⟨_, Heap.get?_push_size _ rfl, rfl, rfl⟩, fun b hb => ?_, q hz⟩
  have e : b = s1.heap.objs.size := by simpa using hb
  subst e
  exact I1.fpOk (Nat.le_refl _) (I1.hok.fresh (Nat.le_refl _))
theorem pi_tupL {l : Expr} {tl : TE} (hl : PE X l tl) : PI X tg l (iTupL X.K tl) := by
  refine ⟨fun pins s σ H R I h => ?_⟩
  refine thn (hl.run pins s σ H _ I h) fun v s1 ⟨x, H1, I1, r1, q1⟩ => ?_
  obtain ⟨a, e, xs, hq, q⟩ := q1
  subst e
  cases r1
  obtain ⟨its, rv, p, hz⟩ := I1.tuple hq
  refine wpAny_pyIter_tuple (show s1.heap.IsTuple a its.toArray from p) ?_
  refine ⟨s1.heap.objs.size, [s1.heap.objs.size], _, _, H1, rfl, I1.kept (t' := s1.toks) fun b o e => Heap.get?_push_of_some _ e, turn_tuple a _, ⟨_, Heap.get?_push_size _ rfl, rfl, rfl⟩, fun b hb => ?_, q hz⟩
  have e : b = s1.heap.objs.size := by simpa using hb
  subst e
  exact I1.fpOk (Nat.le_refl _) (I1.hok.fresh (Nat.le_refl _))
end

section
variable {X : Cx} {F : Frm} {T : Tab} {C : Orc} {k : Nat} {H0 : Hp} {ρ : Env} {M M1 M2 M' : Mst} {e a b c tg : Expr} {es : List Expr} {d x y z : D} {ds xs ys : List D} {pos p : Pos}
theorem ji_list (h : PE X e (tJ X.K H0 ρ M (.lst xs) M1)) : PI X tg e (tI X.K H0 ρ M xs M1) :=
  PI.weak (pi_listL h) fun σ H R ⟨G, Rl, q⟩ => ⟨G, Rl, fun v H1 G1 s1 r1 => by
    obtain ⟨a, vs, e, sq, r⟩ := r1.of_lst
    exact ⟨a, e, vs, sqL_mono s1.low sq, fun hz => q _ H1 G1 s1 (walkD_list hz sq r)⟩⟩
theorem ji_tup (h : PE X e (tJ X.K H0 ρ M (.tup xs) M1)) : PI X tg e (tI X.K H0 ρ M xs M1) :=
  PI.weak (pi_tupL h) fun σ H R ⟨G, Rl, q⟩ => ⟨G, Rl, fun v H1 G1 s1 r1 => by
    obtain ⟨a, vs, e, sq, r⟩ := r1.of_tup
    exact ⟨a, e, vs, sqT_mono s1.low sq, fun hz => q _ H1 G1 s1 (walkD_tup hz sq r)⟩⟩
theorem star1 {env : PySem.Env} {e : Expr} (h : starB e = false) : starEach [e] env = [(false, eval e env)] := star_cons h
theorem ji_rng1 {n : Int} (O : CtxOk X F T C k) (hg : glB F.sc "range" = true) (hs : starB a = false) (hn : -1000000 ≤ n ∧ n ≤ 1000000) (h : PE X a (tJ X.K H0 ρ M (.int n) M1)) :
    PI X tg (.Call (.Name "range" p) [a] [] pos) (tI X.K H0 ρ M (rngL 0 n.toNat) M1) :=
  PI.weak (pi_range1 (glB_ok O.sc hg) (O.tab.bl _ (by decide)) (pa_cons h pa_nil (star_cons hs)) (star1 hs)) fun σ H R ⟨G, Rl, q⟩ => ⟨G, Rl, fun v H1 G1 s1 r1 =>
    ⟨n, by rw [r1.of_int], by omega, by omega, q _ H1 G1 s1 (walkD_rng (lo := 0) (n := n.toNat) (by rw [sizeLine_eq]; omega))⟩⟩
theorem ji_rng2 {i j : Int} (O : CtxOk X F T C k) (hg : glB F.sc "range" = true) (hs : starB a = false) (hs' : starB b = false) (hi : -1000000 ≤ i ∧ i ≤ 1000000) (hj : -1000000 ≤ j ∧ j ≤ 1000000)
    (h : PE X a (tJ X.K H0 ρ M (.int i) M1)) (h' : PE X b (tJ X.K H0 ρ M1 (.int j) M2)) : PI X tg (.Call (.Name "range" p) [a, b] [] pos) (tI X.K H0 ρ M (rngL i (j - i).toNat) M2) :=
  PI.weak (pi_range2 (glB_ok O.sc hg) (O.tab.bl _ (by decide)) (pa_cons h (pa_cons h' pa_nil (star_cons hs')) (star_cons hs)) (by rw [star_cons hs, star1 hs']) (star1 hs')) fun σ H R ⟨G, Rl, q⟩ => ⟨G, Rl, fun v H1 G1 s1 r1 => ⟨G1, Rl.step s1, fun u H2 G2 s2 r2 =>
    ⟨i, j, by rw [r1.of_int, r2.of_int], ⟨by omega, by omega, by omega, by omega⟩, q _ H2 G2 (s1.trans s2) (walkD_rng (lo := i) (n := (j - i).toNat) (by rw [sizeLine_eq]; omega))⟩⟩⟩
theorem ji_rngD {i j : Int} (O : CtxOk X F T C k) (hg : glB F.sc "range" = true) (hs : starB a = false) (hs' : starB b = false) (hs2 : starB c = false) (hi : -1000000 ≤ i ∧ i ≤ 1000000) (hj : -1000000 ≤ j ∧ j ≤ 1000000)
    (h : PE X a (tJ X.K H0 ρ M (.int i) M1)) (h' : PE X b (tJ X.K H0 ρ M1 (.int j) M2)) (h2 : PE X c (tJ X.K H0 ρ M2 (.int (-1)) M2)) : PI X tg (.Call (.Name "range" p) [a, b, c] [] pos) (tI X.K H0 ρ M (rngDL i (i - j).toNat) M2) :=
  PI.weak (pi_range3 (glB_ok O.sc hg) (O.tab.bl _ (by decide)) (pa_cons h (pa_cons h' (pa_cons h2 pa_nil (star_cons hs2)) (star_cons hs')) (star_cons hs)) (star_cons hs) (star_plain (by simp [hs', hs2]))) fun σ H R ⟨G, Rl, q⟩ => ⟨G, Rl, fun v H1 G1 s1 r1 => ⟨G1, Rl.step s1, fun u H2 G2 s2 r2 =>
    ⟨G2, (Rl.step s1).step s2, fun w H3 G3 s3 r3 => ⟨i, j, -1, (i - j).toNat, by rw [r1.of_int, r2.of_int, r3.of_int], RgC.neg (by omega) (by omega) (by omega) (by omega), q _ H3 G3 ((s1.trans s2).trans s3) (walkD_rngD (lo := i) (n := (i - j).toNat) (by rw [sizeLine_eq]; omega))⟩⟩⟩⟩
theorem ji_zip {elts : List Expr} {kk : Nat} {tpos : Pos} (O : CtxOk X F T C k) (hg : glB F.sc "zip" = true) (hs : starB a = false) (hs' : starB b = false)
    (h : PE X a (tJ X.K H0 ρ M x M1)) (h' : PE X b (tJ X.K H0 ρ M1 y M2)) (hl : xs.length ≤ 1000000) (hxy : (x = .tup xs ∧ y = .tup ys) ∨ (x = .lst xs ∧ y = .lst ys)) :
    PI X (.Tuple elts kk tpos) (.Call (.Name "zip" p) [a, b] [] pos) (tI X.K H0 ρ M (zip2L xs ys) M2) :=
  PI.weak (RZ.pi_zipA (glB_ok O.sc hg) (O.tab.bl _ (by decide)) (pa_cons h (pa_cons h' pa_nil (star_cons hs')) (star_cons hs)) (star_cons hs) (star_plain (by simp [hs']))) fun σ H R ⟨G, Rl, q⟩ => ⟨G, Rl, fun v H1 G1 s1 r1 => ⟨G1, Rl.step s1, fun u H2 G2 s2 r2 => by
    rcases hxy with ⟨rfl, rfl⟩ | ⟨rfl, rfl⟩
    · obtain ⟨pa, vs, e1, q1, l1⟩ := (r1.mono s2.le).of_tup
      obtain ⟨pb, us, e2, q2, l2⟩ := r2.of_tup
      exact ⟨pa, pb, vs, us, by rw [e1, e2], .inr ⟨sqT_mono s2.low q1, sqT_mono s2.low q2, q _ H2 G2 (s1.trans s2) (walkD_zipT hl q1 q2 l1 l2)⟩⟩
    · obtain ⟨pa, vs, e1, q1, l1⟩ := (r1.mono s2.le).of_lst
      obtain ⟨pb, us, e2, q2, l2⟩ := r2.of_lst
      exact ⟨pa, pb, vs, us, by rw [e1, e2], .inl ⟨sqL_mono s2.low q1, sqL_mono s2.low q2, q _ H2 G2 (s1.trans s2) (walkD_zipL hl q1 q2 l1 l2)⟩⟩⟩⟩
theorem ji_enum {elts : List Expr} {kk : Nat} {tpos : Pos} (O : CtxOk X F T C k) (hg : glB F.sc "enumerate" = true) (hs : starB a = false) (hl : xs.length ≤ 1000000)
    (h : PE X a (tJ X.K H0 ρ M (.lst xs) M1)) : PI X (.Tuple elts kk tpos) (.Call (.Name "enumerate" p) [a] [] pos) (tI X.K H0 ρ M (enumL 0 xs) M1) :=
  PI.weak (pi_enum (glB_ok O.sc hg) (O.tab.bl _ (by decide)) (pa_cons h pa_nil (star_cons hs)) (star1 hs)) fun σ H R ⟨G, Rl, q⟩ => ⟨G, Rl, fun v H1 G1 s1 r1 => by
    obtain ⟨pa, vs, e1, q1, l1⟩ := r1.of_lst
    exact ⟨pa, vs, by rw [e1], sqL_mono s1.low q1, q _ H1 G1 s1 (walkD_enum hl q1 l1)⟩⟩
end

/-! ### targets -/
/-- the frame's slots are the same but at some numbers -/
def wip (vs : List Nat) (σ σ' : L2.St) : Prop := L2.wipe σ' vs = L2.wipe σ vs
theorem wipe_get (σ : L2.St) : ∀ (vs : List Nat) (j : Nat), (L2.wipe σ vs)[j]? = if j ∈ vs then (if j < σ.length then some none else none) else σ[j]?
  | [], j => by simp [L2.wipe]
  | v :: vs, j => by
    unfold L2.wipe
    have hl := L2.wipe_length σ vs
    by_cases e : v = j
    · subst e
      by_cases hv : v < σ.length
      · rw [List.getElem?_set_self (by omega)]; simp [hv]
      · rw [List.getElem?_eq_none (by simp; omega)]; simp [hv]
    · rw [List.getElem?_set_ne e, wipe_get σ vs j]
      by_cases hm : j ∈ vs
      · simp [hm]
      · simp [hm, Ne.symm e]
theorem wipe_set {σ : L2.St} {i : Nat} {x : Option V} {vs : List Nat} (h : i ∈ vs) : L2.wipe (σ.set i x) vs = L2.wipe σ vs := by
  apply List.ext_getElem?
  intro j
  rw [wipe_get, wipe_get]
  by_cases hm : j ∈ vs
  · simp [hm]
  · simp only [hm, if_false]
    rw [List.getElem?_set_ne (fun e => hm (by rw [← e]; exact h))]
theorem wipe_wipe (σ : L2.St) (vs : List Nat) : L2.wipe (L2.wipe σ vs) vs = L2.wipe σ vs := by
  apply List.ext_getElem?
  intro j
  rw [wipe_get, wipe_get]
  by_cases hm : j ∈ vs
  · simp [hm, L2.wipe_length]
  · simp only [hm, if_false]

def tGx (K : PySem.W.Frag) (H0 : Hp) (t : Tgt) : TG := fun v σ H Q => ∃ ρ ρ' d G, bindT t d ρ = some ρ' ∧ Slots K G H0 H ρ σ ∧ Low G H ∧ Rp K G d v ∧
  ∀ σ', Slots K G H0 H ρ' σ' → (∀ vs, (∀ i ∈ t.slots, i ∈ vs) → L2.wipe σ' vs = L2.wipe σ vs) → Q σ' H
def tGxs (K : PySem.W.Frag) (H0 : Hp) (ts : List Tgt) : TGs := fun vs σ H Q => ∃ ρ ρ' ds G, bindTs ts ds ρ = some ρ' ∧ Slots K G H0 H ρ σ ∧ Low G H ∧ RpL K G ds vs ∧
  ∀ σ', Slots K G H0 H ρ' σ' → (∀ vs, (∀ i ∈ Tgt.slotsL ts, i ∈ vs) → L2.wipe σ' vs = L2.wipe σ vs) → Q σ' H

theorem PG.weak {X : Cx} {e : Expr} {t t' : TG} (h : PG X e t) (w : ∀ v σ H Q, t' v σ H Q → t v σ H Q) : PG X e t' := ⟨fun pins s σ H v u Q I r q => h.run pins s σ H v u Q I r (w v σ H Q q)⟩
theorem PGs.weak {X : Cx} {e : List Expr} {t t' : TGs} (h : PGs X e t) (w : ∀ v σ H Q, t' v σ H Q → t v σ H Q) : PGs X e t' := ⟨fun pins s σ H v u Q I r q => h.run pins s σ H v u Q I r (w v σ H Q q)⟩
theorem asgn_cons {env : PySem.Env} {e : Expr} {es : List Expr} (h : starB e = false) : assignEach (e :: es) env = (false, assign e env) :: assignEach es env := by
  cases e <;> first | rfl | (simp [starB] at h)

theorem locB_ok {X : Cx} {F : Frm} {x : Str} (hs : X.env.scope = F.sc) (hf : X.fn = F.fn) (h : locB F x = true) : L2.Loc X.env.scope x ∧ (X.fn x = true ∨ X.env.scope.names.lookup x = some .local) := by
  unfold locB at h
  unfold L2.Loc
  rw [hs, hf]
  split at h
  · rename_i e; exact ⟨.inl e, .inr e⟩
  · rename_i e; exact ⟨.inr e, .inl h⟩
  · cases h

theorem asgn_len {env : PySem.Env} {F : Frm} : ∀ (n : Nat) {es : List Expr} {ts : List Tgt}, compTgL F n es = some ts → (assignEach es env).length = ts.length ∧ (assignEach es env).findIdx? (·.1) = none
  | 0, _, _, h => by simp [compTgL] at h
  | n + 1, [], ts, h => by simp [compTgL] at h; subst h; exact ⟨rfl, rfl⟩
  | n + 1, e :: es, ts, h => by
    unfold compTgL at h
    split at h
    · cases h
    · rename_i hs
      split at h
      · rename_i t ts' h1 h2
        cases h
        obtain ⟨i1, i2⟩ := asgn_len (env := env) n h2
        rw [asgn_cons (by simpa using hs)]
        refine ⟨by simp [i1], ?_⟩
        rw [List.findIdx?_cons]
        simp [i2]
      · cases h

theorem target_ok {T : Tab} {C : Orc} {k : Nat} {H0 : Hp} : ∀ (n : Nat), (∀ {X : Cx} {F : Frm} {e : Expr} {t : Tgt}, CtxOk X F T C k → compTg F n e = some t → PG X e (tGx X.K H0 t)) ∧
    (∀ {X : Cx} {F : Frm} {es : List Expr} {ts : List Tgt}, CtxOk X F T C k → compTgL F n es = some ts → PGs X es (tGxs X.K H0 ts))
  | 0 => ⟨fun _ h => by simp [compTg] at h, fun _ h => by simp [compTgL] at h⟩
  | n + 1 => by
    obtain ⟨ih1, ih2⟩ := target_ok (T := T) (C := C) (k := k) (H0 := H0) n
    refine ⟨fun {X F e t} O h => ?_, fun {X F es ts} O h => ?_⟩
    · unfold compTg at h
      split at h
      · rename_i x ps
        split at h
        · rename_i i hi
          split at h
          · rename_i hl
            cases h
            obtain ⟨l1, l2⟩ := locB_ok O.sc O.fn hl
            refine PG.weak (pg_name (i := i) (by rw [O.N]; exact O.nd) (by rw [O.N]; exact idx_get hi) l1 l2) fun v σ H Q ⟨ρ, ρ', d, G, hb, S, l, r, q⟩ => ?_
            unfold bindT at hb
            cases hb
            exact q _ (S.set r) fun vs hv => wipe_set (hv i (by unfold Tgt.slots; simp))
          · cases h
        · cases h
      · rename_i es kk ps
        simp only [Option.map_eq_some_iff] at h
        obtain ⟨ts, h1, rfl⟩ := h
        obtain ⟨a1, a2⟩ := asgn_len (env := X.env) n h1
        refine PG.weak (pg_tup O.calm (ih2 O h1) a1 a2) fun v σ H Q ⟨ρ, ρ', d, G, hb, S, l, r, q⟩ => ?_
        cases d with
        | tup ds =>
          unfold bindT at hb
          obtain ⟨a, vs, e, sq, rl⟩ := r.of_tup
          have hlen : ∀ {ts : List Tgt} {ds : List D} {ρ ρ' : Env}, bindTs ts ds ρ = some ρ' → ds.length = ts.length := by
            intro ts
            induction ts with
            | nil => intro ds ρ ρ' h; cases ds with | nil => rfl | cons _ _ => simp [bindTs] at h
            | cons t ts ih =>
              intro ds ρ ρ' h
              cases ds with
              | nil => simp [bindTs] at h
              | cons d ds =>
                unfold bindTs at h
                split at h
                · simp [ih h]
                · cases h
          refine ⟨a, vs, e, sqT_mono l sq, by rw [← rl.length, hlen hb], ρ, ρ', ds, G, hb, S, l, rl, fun σ' S' w => q σ' S' fun vs hv => w vs fun i hi => hv i (by unfold Tgt.slots; exact hi)⟩
        | _ => simp [bindT] at hb
      · cases h
    · cases es with
      | nil =>
        simp [compTgL] at h
        subst h
        refine PGs.weak pgs_nil fun vs σ H Q ⟨ρ, ρ', ds, G, hb, S, l, r, q⟩ => ?_
        cases ds with
        | nil =>
          unfold bindTs at hb
          cases hb
          unfold RpL at r
          exact ⟨r, q σ S fun _ _ => rfl⟩
        | cons _ _ => simp [bindTs] at hb
      | cons e es =>
        unfold compTgL at h
        split at h
        · cases h
        · rename_i hs
          split at h
          · rename_i t ts' h1 h2
            cases h
            refine PGs.weak (pgs_cons (ih1 O h1) (ih2 O h2) (by rw [asgn_cons (by simpa using hs)]; rfl)) fun vs σ H Q ⟨ρ, ρ', ds, G, hb, S, l, r, q⟩ => ?_
            cases ds with
            | nil => simp [bindTs] at hb
            | cons d ds =>
              unfold RpL at r
              obtain ⟨v, r', e1, q1, q2⟩ := r
              unfold bindTs at hb
              split at hb
              · rename_i ρ1 hb1
                refine ⟨v, r', e1, ρ, ρ1, d, G, hb1, S, l, q1, fun σ1 S1 w1 => ⟨ρ1, ρ', ds, G, hb, S1, l, q2, fun σ2 S2 w2 => q σ2 S2 fun vs hv => ?_⟩⟩
                rw [w2 vs fun i hi => hv i (by unfold Tgt.slotsL; simp [hi]), w1 vs fun i hi => hv i (by unfold Tgt.slotsL; simp [hi])]
              · cases hb
          · cases h
end EV

set_option Elab.async false
set_option linter.all false
set_option maxRecDepth 100000
set_option maxHeartbeats 2000000
namespace RZ3
open PySem PySem.W PyProof.Rows
open Sem (wp)
abbrev IsZipO (h : Heap) (z TI TO T : Addr) (fl : Bool) : Prop := h.get? z = some { cls := .type "zip", data := .fields #[rawInt T, .bool fl, .bool false, .ref TI, .ref TO] }
section
variable {prog : Program} {w : World} {A : Around} {E : Value → Shared → Prop} {s : Shared} {z TI TO i1 i2 i3 T : Addr} {fp1 fp2 fp3 : List Addr} {n1 n2 n3 i : Nat} {P1 P2 P3 : Nat → Value → Prop} {St1 St2 St3 : Nat → Heap → Prop} {fl : Bool} {oT : Obj}
theorem out_item {Q : Value → Shared → Prop} (S : ZipSep3 z TI TO i1 i2 i3 fp1 fp2 fp3) (D1 : Draws prog w A i1 fp1 n1 P1 St1) (D2 : Draws prog w A i2 fp2 n2 P2 St2) (D3 : Draws prog w A i3 fp3 n3 P3 St3)
    (hz : IsZipO s.heap z TI TO T fl) (hT : s.heap.get? T = some oT) (hTI : IsTupOf3 s.heap TI (.ref i1) (.ref i2) (.ref i3)) (st1 : St1 i s.heap) (st2 : St2 i s.heap) (st3 : St3 i s.heap) (hlt1 : i < n1) (hlt2 : i < n2) (hlt3 : i < n3)
    (hQ : ∀ x1 x2 x3 h' tk, P1 i x1 → P2 i x2 → P3 i x3 → IsZipO h' z TI TO T true → St1 (i + 1) h' → St2 (i + 1) h' → St3 (i + 1) h' → IsTupOf3 h' s.heap.objs.size x1 x2 x3 → h'.objs.size = s.heap.objs.size + 1 →
      (∀ c o, c ≠ z → c ≠ i1 → c ≠ i2 → c ≠ i3 → s.heap.get? c = some o → h'.get? c = some o) → Q (.ref s.heap.objs.size) { s with heap := h', toks := tk }) :
    wpAny (model prog w) A (Builtin.«zip.__next__» ⟨[.ref z], []⟩) (fun fin s' => ∃ v, fin = .done (.ret v) ∧ Q v s') E s := by
  obtain ⟨hp, g, d, tk0, os⟩ := s
  show wpAny _ _ (field (.ref z) 2 >>= _) _ _ _
  refine wpAny_bind (wpAny_field hz rfl (x := .bool false) rfl ?_)
  show wpAny _ _ (field (.ref z) 3 >>= _) _ _ _
  refine wpAny_bind (wpAny_field hz rfl (x := .ref TI) rfl ?_)
  refine wpAny_bind (wpAny_seqItems hTI rfl ?_)
  show wpAny _ _ (Builtin.SmallTypes.ownedTupleIsFree (.ref z) >>= _) _ _ _
  refine wpAny_bind ?_
  unfold Builtin.SmallTypes.ownedTupleIsFree
  refine wpAny_bind (wpAny_field hz rfl (x := rawInt T) rfl ?_)
  show wpAny _ _ (loadIfAlive ((T : Int).toNat) >>= _) _ _ _
  rw [Int.toNat_natCast]
  refine wpAny_bind (kdx_alive hT ?_)
  simp only [Option.isNone_some, Bool.false_eq_true, if_false]
  refine wpAny_bind (wpAny_field hz rfl (x := .bool fl) rfl ?_)
  have fin3 : ∀ h0 : Heap, IsZipO h0 z TI TO T true → Heap.SameBut z hp h0 → IsZipO h0 z TI TO T true ∧ Heap.SameBut z hp h0 := fun _ a b => ⟨a, b⟩
  cases fl with
  | true =>
    rw [if_neg (show ¬ ((Value.bool true != Value.bool true) = true) from Bool.false_ne_true)]
    refine wpAny_pure ?_
    simp only [Bool.false_eq_true, if_false]
    obtain ⟨h0, hz0, hs0, e0⟩ : ∃ h0 : Heap, IsZipO h0 z TI TO T true ∧ Heap.SameBut z hp h0 ∧ hp = h0 := ⟨hp, hz, Heap.SameBut.refl _ _, rfl⟩
    have hst : ({ heap := hp, gens := g, drawn := d, toks := tk0, os := os } : Shared) = ⟨h0, g, d, tk0, os⟩ := by rw [e0]
    rw [hst]
    simp only [List.forIn_toArray, List.forIn_cons, List.forIn_nil]
    refine wpAny_bind (wpAny_bind (wpAny_bind (wpAny_holding ?_)))
    show wpAny _ _ (Builtin.SmallTypes.nextOf (.ref i1) >>= _) _ _ ⟨h0, g, d, tk0, os⟩
    refine wpAny_bind (D1.item i _ _ _ hlt1 (D1.over st1 hs0 S.zf1) fun x1 p1 tk1 hx1 sn1 hp1 => wpAny_pure ?_)
    replace hp1 : Heap.SameBut i1 h0 p1 := hp1
    refine wpAny_pure ?_
    refine wpAny_bind (wpAny_bind (wpAny_holding ?_))
    show wpAny _ _ (Builtin.SmallTypes.nextOf (.ref i2) >>= _) _ _ ⟨p1, g, d, tk1, os⟩
    refine wpAny_bind (D2.item i _ _ _ hlt2 (D2.over (D2.over st2 hs0 S.zf2) hp1 S.sep1_2) fun x2 p2 tk2 hx2 sn2 hp2 => wpAny_pure ?_)
    replace hp2 : Heap.SameBut i2 p1 p2 := hp2
    refine wpAny_pure ?_
    refine wpAny_bind (wpAny_bind (wpAny_holding ?_))
    show wpAny _ _ (Builtin.SmallTypes.nextOf (.ref i3) >>= _) _ _ ⟨p2, g, d, tk2, os⟩
    refine wpAny_bind (D3.item i _ _ _ hlt3 (D3.over (D3.over (D3.over st3 hs0 S.zf3) hp1 S.sep1_3) hp2 S.sep2_3) fun x3 p3 tk3 hx3 sn3 hp3 => wpAny_pure ?_)
    replace hp3 : Heap.SameBut i3 p2 p3 := hp3
    refine wpAny_pure ?_
    refine wpAny_pure ?_
    show wpAny _ _ (newTuple [x1, x2, x3] >>= fun v => ret v) _ _ ⟨p3, g, d, tk3, os⟩
    refine wpAny_bind (wpAny_newTuple ?_)
    refine wpAny_pure ⟨_, rfl, ?_⟩
    have sz : p3.objs.size = hp.objs.size := by rw [hp3.1, hp2.1, hp1.1, hs0.1]
    show Q (.ref p3.objs.size) _
    rw [sz]
    have up : ∀ c o, p3.get? c = some o → (p3.push { cls := .type "tuple", data := .seq #[x1, x2, x3] }).get? c = some o := fun c o e => Heap.get?_push_of_some _ e
    refine hQ x1 x2 x3 _ tk3 hx1 hx2 hx3 (up _ _ (hp3.extBut _ _ S.zi3 (hp2.extBut _ _ S.zi2 (hp1.extBut _ _ S.zi1 hz0)))) (D1.frame _ _ _ (D1.over (D1.over sn1 hp2 S.sep2_1) hp3 S.sep3_1) fun b _ o e => up b o e)
      (D2.frame _ _ _ (D2.over sn2 hp3 S.sep3_2) fun b _ o e => up b o e) (D3.frame _ _ _ sn3 fun b _ o e => up b o e) ?_ ?_ fun c o cz c1 c2 c3 e => up c o (hp3.extBut _ _ c3 (hp2.extBut _ _ c2 (hp1.extBut _ _ c1 (hs0.extBut _ _ cz e))))
    · show (p3.push _).get? hp.objs.size = _
      rw [← sz]; exact Heap.get?_push_size _ rfl
    · show (p3.push _).objs.size = hp.objs.size + 1
      rw [Heap.size_push, sz]
  | false =>
    rw [if_pos (show (Value.bool false != Value.bool true) = true from rfl)]
    refine wpAny_bind (wpAny_setField_rec hz (by simp) fun h0 hz0 hs0 => ?_)
    replace hs0 : Heap.SameBut z hp h0 := hs0
    replace hz0 : IsZipO h0 z TI TO T true := hz0
    refine wpAny_pure ?_
    simp only [Bool.false_eq_true, if_false]
    have hst : ({ heap := h0, gens := g, drawn := d, toks := tk0, os := os } : Shared) = ⟨h0, g, d, tk0, os⟩ := rfl
    rw [hst]
    simp only [List.forIn_toArray, List.forIn_cons, List.forIn_nil]
    refine wpAny_bind (wpAny_bind (wpAny_bind (wpAny_holding ?_)))
    show wpAny _ _ (Builtin.SmallTypes.nextOf (.ref i1) >>= _) _ _ ⟨h0, g, d, tk0, os⟩
    refine wpAny_bind (D1.item i _ _ _ hlt1 (D1.over st1 hs0 S.zf1) fun x1 p1 tk1 hx1 sn1 hp1 => wpAny_pure ?_)
    replace hp1 : Heap.SameBut i1 h0 p1 := hp1
    refine wpAny_pure ?_
    refine wpAny_bind (wpAny_bind (wpAny_holding ?_))
    show wpAny _ _ (Builtin.SmallTypes.nextOf (.ref i2) >>= _) _ _ ⟨p1, g, d, tk1, os⟩
    refine wpAny_bind (D2.item i _ _ _ hlt2 (D2.over (D2.over st2 hs0 S.zf2) hp1 S.sep1_2) fun x2 p2 tk2 hx2 sn2 hp2 => wpAny_pure ?_)
    replace hp2 : Heap.SameBut i2 p1 p2 := hp2
    refine wpAny_pure ?_
    refine wpAny_bind (wpAny_bind (wpAny_holding ?_))
    show wpAny _ _ (Builtin.SmallTypes.nextOf (.ref i3) >>= _) _ _ ⟨p2, g, d, tk2, os⟩
    refine wpAny_bind (D3.item i _ _ _ hlt3 (D3.over (D3.over (D3.over st3 hs0 S.zf3) hp1 S.sep1_3) hp2 S.sep2_3) fun x3 p3 tk3 hx3 sn3 hp3 => wpAny_pure ?_)
    replace hp3 : Heap.SameBut i3 p2 p3 := hp3
    refine wpAny_pure ?_
    refine wpAny_pure ?_
    show wpAny _ _ (newTuple [x1, x2, x3] >>= fun v => ret v) _ _ ⟨p3, g, d, tk3, os⟩
    refine wpAny_bind (wpAny_newTuple ?_)
    refine wpAny_pure ⟨_, rfl, ?_⟩
    have sz : p3.objs.size = hp.objs.size := by rw [hp3.1, hp2.1, hp1.1, hs0.1]
    show Q (.ref p3.objs.size) _
    rw [sz]
    have up : ∀ c o, p3.get? c = some o → (p3.push { cls := .type "tuple", data := .seq #[x1, x2, x3] }).get? c = some o := fun c o e => Heap.get?_push_of_some _ e
    refine hQ x1 x2 x3 _ tk3 hx1 hx2 hx3 (up _ _ (hp3.extBut _ _ S.zi3 (hp2.extBut _ _ S.zi2 (hp1.extBut _ _ S.zi1 hz0)))) (D1.frame _ _ _ (D1.over (D1.over sn1 hp2 S.sep2_1) hp3 S.sep3_1) fun b _ o e => up b o e)
      (D2.frame _ _ _ (D2.over sn2 hp3 S.sep3_2) fun b _ o e => up b o e) (D3.frame _ _ _ sn3 fun b _ o e => up b o e) ?_ ?_ fun c o cz c1 c2 c3 e => up c o (hp3.extBut _ _ c3 (hp2.extBut _ _ c2 (hp1.extBut _ _ c1 (hs0.extBut _ _ cz e))))
    · show (p3.push _).get? hp.objs.size = _
      rw [← sz]; exact Heap.get?_push_size _ rfl
    · show (p3.push _).objs.size = hp.objs.size + 1
      rw [Heap.size_push, sz]

theorem out_end {Q : Fin → Shared → Prop} (D1 : Draws prog w A i1 fp1 n1 P1 St1) (h1z : z ∉ fp1)
    (hz : IsZipO s.heap z TI TO T fl) (hT : s.heap.get? T = some oT) (hTI : IsTupOf3 s.heap TI (.ref i1) (.ref i2) (.ref i3)) (st1 : St1 n1 s.heap)
    (hE : ∀ h' e, (∀ c o, c ≠ z → c ≠ i1 → s.heap.get? c = some o → h'.get? c = some o) → (∃ o, h'.get? e = some o ∧ o.cls = .type "StopIteration") → E (.ref e) { s with heap := h' }) :
    wpAny (model prog w) A (Builtin.«zip.__next__» ⟨[.ref z], []⟩) Q E s := by
  obtain ⟨hp, g, d, tk0, os⟩ := s
  show wpAny _ _ (field (.ref z) 2 >>= _) _ _ _
  refine wpAny_bind (wpAny_field hz rfl (x := .bool false) rfl ?_)
  show wpAny _ _ (field (.ref z) 3 >>= _) _ _ _
  refine wpAny_bind (wpAny_field hz rfl (x := .ref TI) rfl ?_)
  refine wpAny_bind (wpAny_seqItems hTI rfl ?_)
  show wpAny _ _ (Builtin.SmallTypes.ownedTupleIsFree (.ref z) >>= _) _ _ _
  refine wpAny_bind ?_
  unfold Builtin.SmallTypes.ownedTupleIsFree
  refine wpAny_bind (wpAny_field hz rfl (x := rawInt T) rfl ?_)
  show wpAny _ _ (loadIfAlive ((T : Int).toNat) >>= _) _ _ _
  rw [Int.toNat_natCast]
  refine wpAny_bind (kdx_alive hT ?_)
  simp only [Option.isNone_some, Bool.false_eq_true, if_false]
  refine wpAny_bind (wpAny_field hz rfl (x := .bool fl) rfl ?_)
  cases fl with
  | true =>
    rw [if_neg (show ¬ ((Value.bool true != Value.bool true) = true) from Bool.false_ne_true)]
    refine wpAny_pure ?_
    simp only [Bool.false_eq_true, if_false]
    obtain ⟨h0, hz0, hs0, e0⟩ : ∃ h0 : Heap, IsZipO h0 z TI TO T true ∧ Heap.SameBut z hp h0 ∧ hp = h0 := ⟨hp, hz, Heap.SameBut.refl _ _, rfl⟩
    have hst : ({ heap := hp, gens := g, drawn := d, toks := tk0, os := os } : Shared) = ⟨h0, g, d, tk0, os⟩ := by rw [e0]
    rw [hst]
    simp only [List.forIn_toArray, List.forIn_cons, List.forIn_nil]
    refine wpAny_bind (wpAny_bind (wpAny_bind (wpAny_holding ?_)))
    show wpAny _ _ (Builtin.SmallTypes.nextOf (.ref i1) >>= _) _ _ ⟨h0, g, d, tk0, os⟩
    refine wpAny_bind (D1.done ⟨h0, g, d, tk0, os⟩ _ _ (D1.over st1 hs0 h1z) fun q e hq he => ?_)
    replace hq : Heap.ExtBut i1 h0 q := hq
    exact hE q e (fun c o cz c1 x => hq _ _ c1 (hs0.extBut _ _ cz x)) he
  | false =>
    rw [if_pos (show (Value.bool false != Value.bool true) = true from rfl)]
    refine wpAny_bind (wpAny_setField_rec hz (by simp) fun h0 hz0 hs0 => ?_)
    replace hs0 : Heap.SameBut z hp h0 := hs0
    replace hz0 : IsZipO h0 z TI TO T true := hz0
    refine wpAny_pure ?_
    simp only [Bool.false_eq_true, if_false]
    have hst : ({ heap := h0, gens := g, drawn := d, toks := tk0, os := os } : Shared) = ⟨h0, g, d, tk0, os⟩ := rfl
    rw [hst]
    simp only [List.forIn_toArray, List.forIn_cons, List.forIn_nil]
    refine wpAny_bind (wpAny_bind (wpAny_bind (wpAny_holding ?_)))
    show wpAny _ _ (Builtin.SmallTypes.nextOf (.ref i1) >>= _) _ _ ⟨h0, g, d, tk0, os⟩
    refine wpAny_bind (D1.done ⟨h0, g, d, tk0, os⟩ _ _ (D1.over st1 hs0 h1z) fun q e hq he => ?_)
    replace hq : Heap.ExtBut i1 h0 q := hq
    exact hE q e (fun c o cz c1 x => hq _ _ c1 (hs0.extBut _ _ cz x)) he
/-- the zip at its turn i: fresh, or with its last tuple out -/
def ZAt (B z TI TO : Addr) (i : Nat) (h : Heap) : Prop := (i = 0 ∧ IsZip h z TI TO .none) ∨ ∃ T fl oT, IsZipO h z TI TO T fl ∧ h.get? T = some oT ∧ B ≤ T
theorem next_item {B : Addr} {Q : Option Value → Shared → Prop} (S : ZipSep3 z TI TO i1 i2 i3 fp1 fp2 fp3) (D1 : Draws prog w A.in1 i1 fp1 n1 P1 St1) (D2 : Draws prog w A.in1 i2 fp2 n2 P2 St2) (D3 : Draws prog w A.in1 i3 fp3 n3 P3 St3) (hB : B ≤ s.heap.objs.size)
    (hz : ZAt B z TI TO i s.heap) (hTI : IsTupOf3 s.heap TI (.ref i1) (.ref i2) (.ref i3)) (hTO : ∃ a1 a2 a3, IsTupOf3 s.heap TO a1 a2 a3) (st1 : St1 i s.heap) (st2 : St2 i s.heap) (st3 : St3 i s.heap) (hlt1 : i < n1) (hlt2 : i < n2) (hlt3 : i < n3)
    (hQ : ∀ x1 x2 x3 h' tk, P1 i x1 → P2 i x2 → P3 i x3 → ZAt B z TI TO (i + 1) h' → (∃ a1 a2 a3, IsTupOf3 h' TO a1 a2 a3) → St1 (i + 1) h' → St2 (i + 1) h' → St3 (i + 1) h' → IsTupOf3 h' s.heap.objs.size x1 x2 x3 → h'.objs.size = s.heap.objs.size + 1 →
      (∀ c o, c ≠ z → c ≠ TO → c ≠ i1 → c ≠ i2 → c ≠ i3 → s.heap.get? c = some o → h'.get? c = some o) → Q (some (.ref s.heap.objs.size)) { s with heap := h', toks := tk }) :
    (∀ T : Addr, B ≤ T → T ≠ z ∧ T ≠ i1 ∧ T ≠ i2 ∧ T ≠ i3) → wpAny (model prog w) A (pyNext (.ref z)) Q E s := by
  intro hne
  rcases hz with ⟨rfl, hz⟩ | ⟨T, fl, oT, hz, hT, hBT⟩
  · obtain ⟨a1, a2, a3, hTO⟩ := hTO
    refine wpAny_pyNext_zipD3_item S D1 D2 D3 hz hTI hTO st1 st2 st3 hlt1 hlt2 hlt3 fun x1 x2 x3 h' tk y1 y2 y3 b1 b2 d1 d2 d3 b5 b6 b7 => ?_
    exact hQ x1 x2 x3 h' tk y1 y2 y3 (.inr ⟨_, false, _, b1, b5, hB⟩) ⟨_, _, _, b2⟩ d1 d2 d3 b5 b6 b7
  · obtain ⟨a1, a2, a3, hTO⟩ := hTO
    have hTy : s.TypeIs (.ref z) "zip" := ⟨_, hz, rfl⟩
    unfold pyNext
    refine wpAny_bind (wpAny_attempt (wpAny_callSpecial?_slot (name := Str.ofString "__next__") hTy PySem.F.slot_zip_next
      (wpAny_call_entry PySem.F.slot_zip_next hTy PySem.F.entry_zip_next
        (out_item S D1 D2 D3 hz hT hTI st1 st2 st3 hlt1 hlt2 hlt3 fun x1 x2 x3 h' tk y1 y2 y3 b1 d1 d2 d3 b5 b6 b7 => wpAny_pure ?_) (PySem.F.args_zip_next_1 _))))
    obtain ⟨t1, t2, t3, t4⟩ := hne T hBT
    refine hQ x1 x2 x3 h' tk y1 y2 y3 (.inr ⟨T, true, oT, b1, b7 T oT t1 t2 t3 t4 hT, hBT⟩) ⟨a1, a2, a3, b7 _ _ S.TOz S.Ti1 S.Ti2 S.Ti3 hTO⟩ d1 d2 d3 b5 b6 fun c o cz cT c1 c2 c3 e => b7 c o cz c1 c2 c3 e
theorem next_end {B : Addr} {Q : Option Value → Shared → Prop} (S : ZipSep3 z TI TO i1 i2 i3 fp1 fp2 fp3) (D1 : Draws prog w A.in1 i1 fp1 n1 P1 St1) (D2 : Draws prog w A.in1 i2 fp2 n1 P2 St2) (D3 : Draws prog w A.in1 i3 fp3 n1 P3 St3)
    (hz : ZAt B z TI TO n1 s.heap) (hTI : IsTupOf3 s.heap TI (.ref i1) (.ref i2) (.ref i3)) (hTO : ∃ a1 a2 a3, IsTupOf3 s.heap TO a1 a2 a3) (st1 : St1 n1 s.heap) (st2 : St2 n1 s.heap) (st3 : St3 n1 s.heap)
    (hQ : ∀ h' tk, (∀ c o, c ≠ z → c ≠ TO → c ≠ i1 → c ≠ i2 → c ≠ i3 → s.heap.get? c = some o → h'.get? c = some o) → Q none { s with heap := h', toks := tk }) : wpAny (model prog w) A (pyNext (.ref z)) Q E s := by
  rcases hz with ⟨h0, hz⟩ | ⟨T, fl, oT, hz, hT, hBT⟩
  · obtain ⟨a1, a2, a3, hTO⟩ := hTO
    exact wpAny_pyNext_zipD3_end S D1 D2 D3 hz hTI hTO st1 st2 st3 (Nat.le_refl _) (Nat.le_refl _) (Nat.le_refl _) (.inl rfl) hQ
  · have hTy : s.TypeIs (.ref z) "zip" := ⟨_, hz, rfl⟩
    unfold pyNext
    refine wpAny_bind (wpAny_attempt (wpAny_callSpecial?_slot (name := Str.ofString "__next__") hTy PySem.F.slot_zip_next
      (wpAny_call_entry PySem.F.slot_zip_next hTy PySem.F.entry_zip_next (out_end D1 S.zf1 hz hT hTI st1 fun h' e hk he => ?_) (PySem.F.args_zip_next_1 _))))
    obtain ⟨o, ho, hc⟩ := he
    refine wpAny_bind (wpAny_isInstance (T := "StopIteration") (b := true) ⟨o, ho, hc⟩ isSubtype_stop ?_)
    exact wpAny_pure (hQ _ _ fun c o cz cT c1 c2 c3 e => hk c o cz c1 e)
end
end RZ3

set_option Elab.async false
set_option linter.all false
set_option maxRecDepth 100000
set_option maxHeartbeats 2000000
namespace RZ3
open PySem PySem.W PyProof.Rows
open Sem (wp)
theorem zip_no_len : typeLookup (.type "zip") "__len__" = pure none := by rw [typeLookup_type, builtinLookup_eq_fast]; kernel_rfl
theorem zip_no_hint : typeLookup (.type "zip") "__length_hint__" = pure none := by rw [typeLookup_type, builtinLookup_eq_fast]; kernel_rfl
section
variable {prog : Program} {w : World} {A : Around} {E : Value → Shared → Prop} {s : Shared} {z TI TO i1 i2 i3 : Addr} {fp1 fp2 fp3 : List Addr} {n : Nat} {P1 P2 P3 : Nat → Value → Prop} {St1 St2 St3 : Nat → Heap → Prop}
/-- the tuples that were given so far -/
structure Got (P1 P2 P3 : Nat → Value → Prop) (B : Addr) (h : Heap) (as : List Addr) : Prop where
  at_ : ∀ (j : Nat) (a : Addr), as[j]? = some a → B ≤ a ∧ ∃ x1 x2 x3, IsTupOf3 h a x1 x2 x3 ∧ P1 j x1 ∧ P2 j x2 ∧ P3 j x3
  nd : as.Nodup
theorem z_loop {R : Result → Shared → Prop} {L B : Addr} (S : ZipSep3 z TI TO i1 i2 i3 fp1 fp2 fp3) (D1 : Draws prog w A.in1.in1 i1 fp1 n P1 St1) (D2 : Draws prog w A.in1.in1 i2 fp2 n P2 St2) (D3 : Draws prog w A.in1.in1 i3 fp3 n P3 St3)
    (hn : n ≤ sizeLine) (lz : z < B) (lT : TO < B) (l1 : i1 < B) (l2 : i2 < B) (l3 : i3 < B) (lL : L < B) (nz : L ≠ z) (nTI : L ≠ TI) (nTO : L ≠ TO) (n1 : L ∉ fp1) (n2 : L ∉ fp2) (n3 : L ∉ fp3) (res : Value) {hb : Heap}
    (hR : ∀ h' tk acc c as, (∀ b o, b ≠ z → b ≠ TO → b ≠ i1 → b ≠ i2 → b ≠ i3 → b ≠ L → hb.get? b = some o → h'.get? b = some o) → h'.get? L = some { cls := .type "list", dict := none, data := .seq acc c, slots := #[] } → as.length = n → Got P1 P2 P3 B h' as →
      acc.toList = as.map Value.ref → R (.ok (.ret res)) { s with heap := h', toks := tk }) :
    ∀ (k i : Nat) (h : Heap) (tk c : Nat) (acc : Array Value) (as : List Addr), n - i = k → i ≤ n → B ≤ h.objs.size → ZAt B z TI TO i h → IsTupOf3 h TI (.ref i1) (.ref i2) (.ref i3) → (∃ a1 a2 a3, IsTupOf3 h TO a1 a2 a3) → St1 i h → St2 i h → St3 i h →
      (∀ b o, b ≠ z → b ≠ TO → b ≠ i1 → b ≠ i2 → b ≠ i3 → b ≠ L → hb.get? b = some o → h.get? b = some o) → h.get? L = some { cls := .type "list", dict := none, data := .seq acc c, slots := #[] } → acc.toList = as.map Value.ref → as.length = i → Got P1 P2 P3 B h as →
      codeAny (model prog w) A (.builtin "list.extend.loop" ⟨[.ref L, .ref z, res], []⟩) R { s with heap := h, toks := tk } := by
  have far : ∀ T : Addr, B ≤ T → T ≠ z ∧ T ≠ i1 ∧ T ≠ i2 ∧ T ≠ i3 := fun T hT => ⟨Nat.ne_of_gt (Nat.lt_of_lt_of_le lz hT), Nat.ne_of_gt (Nat.lt_of_lt_of_le l1 hT), Nat.ne_of_gt (Nat.lt_of_lt_of_le l2 hT), Nat.ne_of_gt (Nat.lt_of_lt_of_le l3 hT)⟩
  have farT : ∀ T : Addr, B ≤ T → T ≠ TO := fun T hT => Nat.ne_of_gt (Nat.lt_of_lt_of_le lT hT)
  have farL : ∀ T : Addr, B ≤ T → T ≠ L := fun T hT => Nat.ne_of_gt (Nat.lt_of_lt_of_le lL hT)
  have m1 : L ≠ i1 := fun e => n1 (by rw [e]; exact S.mem1)
  have m2 : L ≠ i2 := fun e => n2 (by rw [e]; exact S.mem2)
  have m3 : L ≠ i3 := fun e => n3 (by rw [e]; exact S.mem3)
  intro k
  induction k with
  | zero =>
    intro i h tk c acc as hk hi hB hz hTI hTO st1 st2 st3 hkeep hL hacc hal hG
    have hin : i = n := by omega
    subst hin
    refine codeAny_builtin PySem.F.entry_extend_loop ?_
    rw [Around.under_plainId PySem.F.plain_extend_loop _]
    show wpAny _ A.in1 (pyNext (.ref z) >>= _) _ _ _
    refine wpAny_bind (next_end (s := { s with heap := h, toks := tk }) (A := A.in1) S D1 D2 D3 hz hTI hTO st1 st2 st3 fun h' tk' he => ?_)
    refine wpAny_pure (hR h' tk' acc c as (fun b o b1 b2 b3 b4 b5 b6 e => he b o b1 b2 b3 b4 b5 (hkeep b o b1 b2 b3 b4 b5 b6 e)) (he L _ nz nTO m1 m2 m3 hL) hal ⟨fun j a hj => ?_, hG.nd⟩ hacc)
    obtain ⟨hBa, x1, x2, x3, e3, p⟩ := hG.at_ j a hj
    obtain ⟨f1, f2, f3, f4⟩ := far a hBa
    exact ⟨hBa, x1, x2, x3, he a _ f1 (farT a hBa) f2 f3 f4 e3, p⟩
  | succ k ih =>
    intro i h tk c acc as hk hi hB hz hTI hTO st1 st2 st3 hkeep hL hacc hal hG
    have hlt : i < n := by omega
    have hsz : acc.size = i := by rw [← Array.length_toList, hacc, List.length_map, hal]
    refine codeAny_builtin PySem.F.entry_extend_loop ?_
    rw [Around.under_plainId PySem.F.plain_extend_loop _]
    show wpAny _ A.in1 (pyNext (.ref z) >>= _) _ _ _
    refine wpAny_bind (next_item (s := { s with heap := h, toks := tk }) (A := A.in1) S D1 D2 D3 hB hz hTI hTO st1 st2 st3 hlt hlt hlt (fun x1 x2 x3 h' tk' y1 y2 y3 hz' hTO' st1' st2' st3' ht hsz' hkp => ?_) far)
    dsimp only at ht hsz' hkp ⊢
    have hL' := hkp L _ nz nTO m1 m2 m3 hL
    have up : ∀ b o, b ≠ L → h'.get? b = some o → (h'.update L (Obj.mapSeq (·.push (Value.ref h.objs.size)))).get? b = some o := fun b o hb e => (Heap.get?_update_other _ _ (Ne.symm hb)).trans e
    show wpAny _ A.in1 (updateSeq L (·.push (Value.ref h.objs.size)) >>= _) _ _ _
    refine wpAny_bind ?_
    have hTI' := hkp TI _ S.TIz S.TITO S.TIi1 S.TIi2 S.TIi3 hTI
    have sz2 : (h'.update L (Obj.mapSeq (·.push (Value.ref h.objs.size)))).objs.size = h.objs.size + 1 := by
      rw [(Heap.SameBut.update ..).1, hsz']
    refine wpAny_updateSeq hL' rfl (wpAny_pure ⟨plainId_quiet PySem.F.plain_extend_loop _, ih (i + 1) _ tk' _ (acc.push (Value.ref h.objs.size)) (as ++ [h.objs.size]) (by omega) hlt (by rw [sz2]; exact Nat.le_succ_of_le hB) ?_ (up _ _ (Ne.symm nTI) hTI')
      (let ⟨a1, a2, a3, e⟩ := hTO'; ⟨a1, a2, a3, up _ _ (Ne.symm nTO) e⟩) (D1.frame _ _ _ st1' fun b hb o e => up b o (fun q => n1 (q ▸ hb)) e) (D2.frame _ _ _ st2' fun b hb o e => up b o (fun q => n2 (q ▸ hb)) e) (D3.frame _ _ _ st3' fun b hb o e => up b o (fun q => n3 (q ▸ hb)) e)
      (fun b o b1 b2 b3 b4 b5 b6 e => up b o b6 (hkp b o b1 b2 b3 b4 b5 (hkeep b o b1 b2 b3 b4 b5 b6 e))) (Heap.get?_update_self _ hL' rfl) (by rw [Array.toList_push, hacc, List.map_append]; rfl) (by rw [List.length_append, hal]; rfl) ⟨?_, ?_⟩⟩) (by rw [hsz]; omega) (by show (acc.push (Value.ref h.objs.size)).size ≤ sizeLine + 1; rw [Array.size_push, hsz]; omega)
    · rcases hz' with ⟨h0, _⟩ | ⟨T, fl, oT, a, b, c'⟩
      · omega
      · exact .inr ⟨T, fl, oT, up _ _ (Ne.symm nz) a, up _ _ (farL T c') b, c'⟩
    · intro j b hj
      rcases Nat.lt_trichotomy j as.length with q1 | q1 | q1
      · rw [List.getElem?_append_left q1] at hj
        obtain ⟨hBb, x1', x2', x3', e3, p⟩ := hG.at_ j b hj
        obtain ⟨f1, f2, f3, f4⟩ := far b hBb
        exact ⟨hBb, x1', x2', x3', up b _ (farL b hBb) (hkp b _ f1 (farT b hBb) f2 f3 f4 e3), p⟩
      · subst q1
        have hb' : h.objs.size = b := by simpa using hj
        subst hb'
        rw [hal]
        exact ⟨hB, x1, x2, x3, up _ _ (farL _ hB) ht, y1, y2, y3⟩
      · have hnone : (as ++ [h.objs.size])[j]? = none := List.getElem?_eq_none (by rw [List.length_append, List.length_singleton]; omega)
        rw [hnone] at hj; cases hj
    · refine List.nodup_append.mpr ⟨hG.nd, by simp, fun a ha b hb => ?_⟩
      rw [List.mem_singleton.mp hb]
      obtain ⟨j, hj⟩ := List.mem_iff_getElem?.mp ha
      obtain ⟨_, _, _, _, e3, _⟩ := hG.at_ j a hj
      exact Nat.ne_of_lt (Heap.lt_size e3)

theorem z_collect {R : List Value → Shared → Prop} (S : ZipSep3 z TI TO i1 i2 i3 fp1 fp2 fp3) (D1 : Draws prog w A.in1.in1 i1 fp1 n P1 St1) (D2 : Draws prog w A.in1.in1 i2 fp2 n P2 St2) (D3 : Draws prog w A.in1.in1 i3 fp3 n P3 St3) (hn : n ≤ sizeLine)
    (hz : IsZip s.heap z TI TO .none) (hTI : IsTupOf3 s.heap TI (.ref i1) (.ref i2) (.ref i3)) (hTO : ∃ a1 a2 a3, IsTupOf3 s.heap TO a1 a2 a3) (st1 : St1 0 s.heap) (st2 : St2 0 s.heap) (st3 : St3 0 s.heap)
    (b1 : ∀ b ∈ fp1, b < s.heap.objs.size) (b2 : ∀ b ∈ fp2, b < s.heap.objs.size) (b3 : ∀ b ∈ fp3, b < s.heap.objs.size)
    (hR : ∀ h' tk as, (∀ b o, b ≠ z → b ≠ TO → b ≠ i1 → b ≠ i2 → b ≠ i3 → s.heap.get? b = some o → h'.get? b = some o) → as.length = n → Got P1 P2 P3 s.heap.objs.size h' as → R (as.map Value.ref) { s with heap := h', toks := tk }) :
    wpAny (model prog w) A (collect (.ref z)) R E s := by
  have lz : z < s.heap.objs.size := Heap.lt_size hz
  have lTI : TI < s.heap.objs.size := Heap.lt_size hTI
  have lTO : TO < s.heap.objs.size := let ⟨_, _, _, e⟩ := hTO; Heap.lt_size e
  have ne : ∀ {b : Addr}, b < s.heap.objs.size → s.heap.objs.size ≠ b := fun h => Nat.ne_of_gt h
  unfold collect
  refine wpAny_bind (wpAny_runValue (codeAny_builtin F.entry_proto_collect ?_))
  rw [Around.under_plainId F.plain_proto_collect _]
  show wpAny _ A.in1 (newList [] >>= fun l => again (.builtin "list.__iadd__" ⟨[l, .ref z], []⟩)) _ _ s
  refine wpAny_bind (wpAny_newObj_type ?_)
  refine wpAny_pure ⟨plainId_quiet F.plain_list_iadd _, codeAny_builtin F.entry_list_iadd ?_⟩
  rw [Around.under_plainId F.plain_list_iadd _]
  have hp : ∀ b o, s.heap.get? b = some o → (s.heap.push { cls := .type "list", data := .seq ([] : List Value).toArray }).get? b = some o := fun b o e => Heap.get?_push_of_some _ e
  show wpAny _ A.in1 (Builtin.List.listExtendWith (.ref s.heap.objs.size) (.ref z) (.ref s.heap.objs.size)) _ _ _
  unfold Builtin.List.listExtendWith
  have hT : Shared.TypeIs { s with heap := s.heap.push { cls := .type "list", data := .seq ([] : List Value).toArray } } (.ref z) "zip" := ⟨_, hp _ _ hz, rfl⟩
  refine wpAny_bind (wpAny_typeOf hT ?_)
  have h1 : Builtin.List.listSameRef (.ref s.heap.objs.size) (.ref z) = false := by simp [Builtin.List.listSameRef, ne lz]
  have h2 : (Value.type "zip" == Value.type "list") = false := by decide
  have h3 : (Value.type "zip" == Value.type "tuple") = false := by decide
  simp only [h1, h2, h3, Bool.or_false, Bool.false_eq_true, if_false]
  refine wpAny_bind (wpAny_pyIter_zip (hp _ _ hz) ?_)
  refine wpAny_bind (wpAny_holding ?_)
  unfold Builtin.List.listLengthHint
  refine wpAny_bind (wpAny_specialOf hT zip_no_len ?_)
  show wpAny _ A.in1 (specialOf (Value.ref z) (Str.ofString "__length_hint__") >>= _) _ _ _
  refine wpAny_bind (wpAny_specialOf hT zip_no_hint ?_)
  refine wpAny_pure ?_
  show wpAny _ A.in1 (rule "list.extend.makes-room" >>= fun _ => Builtin.List.listTouch (.ref s.heap.objs.size) >>= fun _ =>
    again (.builtin "list.extend.loop" ⟨[.ref s.heap.objs.size, .ref z, .ref s.heap.objs.size], []⟩)) _ _ _
  refine wpAny_bind (wpAny_rule ?_)
  have hS₁ : (s.heap.push { cls := .type "list", data := .seq ([] : List Value).toArray }).get? s.heap.objs.size = some { cls := .type "list", data := .seq ([] : List Value).toArray } := Heap.get?_push_size _ rfl
  refine wpAny_bind ?_
  show wpAny _ A.in1 (updateSeq s.heap.objs.size (·.push .none) >>= fun _ => updateSeq s.heap.objs.size (·.pop)) _ _ _
  refine wpAny_bind (wpAny_updateSeq hS₁ rfl ?_)
  have hS₂ := Heap.get?_update_self (Obj.mapSeq (·.push Value.none)) hS₁ rfl
  refine wpAny_updateSeq hS₂ rfl ?_
  have hS₃ := Heap.get?_update_self (Obj.mapSeq (·.pop)) hS₂ rfl
  have oth : ∀ b o, b ≠ s.heap.objs.size → (s.heap.push { cls := .type "list", data := .seq ([] : List Value).toArray }).get? b = some o →
      (((s.heap.push { cls := .type "list", data := .seq ([] : List Value).toArray }).update s.heap.objs.size (Obj.mapSeq (·.push Value.none))).update s.heap.objs.size (Obj.mapSeq (·.pop))).get? b = some o :=
    fun b o hb e => (Heap.get?_update_other _ _ (Ne.symm hb)).trans ((Heap.get?_update_other _ _ (Ne.symm hb)).trans e)
  have all : ∀ b o, s.heap.get? b = some o → (((s.heap.push { cls := .type "list", data := .seq ([] : List Value).toArray }).update s.heap.objs.size (Obj.mapSeq (·.push Value.none))).update s.heap.objs.size (Obj.mapSeq (·.pop))).get? b = some o :=
    fun b o e => oth b o (Nat.ne_of_lt (Heap.lt_size e)) (hp b o e)
  have size3 : (((s.heap.push { cls := .type "list", data := .seq ([] : List Value).toArray }).update s.heap.objs.size (Obj.mapSeq (·.push Value.none))).update s.heap.objs.size (Obj.mapSeq (·.pop))).objs.size = s.heap.objs.size + 1 := by
    rw [(Heap.SameBut.update ..).1, (Heap.SameBut.update ..).1, Heap.size_push]
  have lt1 : ∀ {b : Addr}, b < s.heap.objs.size → b < s.heap.objs.size + 1 := fun h => Nat.lt_succ_of_lt h
  refine wpAny_pure ⟨plainId_quiet F.plain_extend_loop _, z_loop (A := A) (s := s) (B := s.heap.objs.size + 1) S D1 D2 D3 hn (lt1 lz) (lt1 lTO) (lt1 (b1 _ S.mem1)) (lt1 (b2 _ S.mem2)) (lt1 (b3 _ S.mem3)) (Nat.lt_succ_self _) (ne lz) (ne lTI) (ne lTO) (fun m => Nat.lt_irrefl _ (b1 _ m)) (fun m => Nat.lt_irrefl _ (b2 _ m)) (fun m => Nat.lt_irrefl _ (b3 _ m)) (.ref s.heap.objs.size) (hb := s.heap)
    (fun h' tk acc c as hk hL hl hG hacc => ?_) n 0 _ s.toks _ #[] [] (Nat.sub_zero _) (Nat.zero_le _) (by rw [size3]; exact Nat.le_refl _) (.inl ⟨rfl, all _ _ hz⟩) (all _ _ hTI) (let ⟨a1, a2, a3, e⟩ := hTO; ⟨a1, a2, a3, all _ _ e⟩)
    (D1.frame _ _ _ st1 fun b _ o e => all b o e) (D2.frame _ _ _ st2 fun b _ o e => all b o e) (D3.frame _ _ _ st3 fun b _ o e => all b o e) (fun b o _ _ _ _ _ _ e => all b o e) hS₃ rfl rfl ⟨fun j a hj => by simp at hj, List.nodup_nil⟩⟩
  show wpAny _ A (load s.heap.objs.size >>= _) _ _ _
  refine wpAny_bind (wpAny_load hL ?_)
  refine wpAny_pure ?_
  show R acc.toList _
  rw [hacc]
  exact hR h' tk as (fun b o q1 q2 q3 q4 q5 e => hk b o q1 q2 q3 q4 q5 (Nat.ne_of_lt (Heap.lt_size e)) e) hl ⟨fun j a hj => by
    obtain ⟨x, y⟩ := hG.at_ j a hj
    exact ⟨Nat.le_of_succ_le x, y⟩, hG.nd⟩
end
end RZ3

set_option Elab.async false
set_option linter.all false
set_option maxRecDepth 100000
set_option maxHeartbeats 4000000
namespace RZ3
open PySem PySem.W PyProof.Rows
open Sem (wp)
section
variable {prog : Program} {w : World} {A : Around} {E : Value → Shared → Prop} {s : Shared} {z TI TO i1 i2 i3 : Addr} {fp1 fp2 fp3 : List Addr} {n : Nat} {P1 P2 P3 : Nat → Value → Prop} {St1 St2 St3 : Nat → Heap → Prop}
theorem code_zip {Q₁ : Value → Shared → Prop} (S : ZipSep3 z TI TO i1 i2 i3 fp1 fp2 fp3) (D1 : Draws prog w A.in1.in1.in1 i1 fp1 n P1 St1) (D2 : Draws prog w A.in1.in1.in1 i2 fp2 n P2 St2) (D3 : Draws prog w A.in1.in1.in1 i3 fp3 n P3 St3) (hn : n ≤ sizeLine)
    (hz : IsZip s.heap z TI TO .none) (hTI : IsTupOf3 s.heap TI (.ref i1) (.ref i2) (.ref i3)) (hTO : ∃ a1 a2 a3, IsTupOf3 s.heap TO a1 a2 a3) (st1 : St1 0 s.heap) (st2 : St2 0 s.heap) (st3 : St3 0 s.heap)
    (b1 : ∀ b ∈ fp1, b < s.heap.objs.size) (b2 : ∀ b ∈ fp2, b < s.heap.objs.size) (b3 : ∀ b ∈ fp3, b < s.heap.objs.size)
    (h : ∀ (h' : Heap) (tk : Nat) (as : List Addr), (∀ b o, b ≠ z → b ≠ TO → b ≠ i1 → b ≠ i2 → b ≠ i3 → s.heap.get? b = some o → h'.get? b = some o) → as.length = n → Got P1 P2 P3 s.heap.objs.size h' as →
      Q₁ (.ref h'.objs.size) { s with heap := h'.push { cls := .type "tuple", data := .seq (as.map Value.ref).toArray }, toks := tk }) :
    codeAny (model prog w) A (.call (.builtin "tuple.__new__") ⟨[.type "tuple", .ref z], []⟩) (wants Q₁ E) s := by
  refine codeAny_of_tree ?_
  show wpAny _ A.in1 (do checkBuiltinCall "tuple.__new__" ⟨[.type "tuple", .ref z], []⟩; again (.builtin "tuple.__new__" ⟨[.type "tuple", .ref z], []⟩)) _ _ s
  refine wpAny_bind (wpAny_of_eq (F.newCall_tuple_1 _) (wpAny_pure ⟨plainId_quiet F.plain_tuple_new _, codeAny_builtin F.entry_tuple_new ?_⟩))
  rw [Around.under_plainId F.plain_tuple_new _]
  have hsub := sub_tuple_self
  have hinit := init_tuple_lookup
  have hmh := madeHere_tuple
  have hTy : s.TypeIs (.ref z) "zip" := ⟨_, hz, rfl⟩
  wp_walk using wpAny_typeOf hTy, z_collect (A := A.in1) S D1 D2 D3 hn hz hTI hTO st1 st2 st3 b1 b2 b3
  intro h' tk as hk hl hG
  show wpAny _ _ (Builtin.Tuple.tupleExact (as.map Value.ref).toArray >>= fun v => ret v) _ _ _
  unfold Builtin.Tuple.tupleExact
  refine wpAny_bind (wpAny_newObj_type ?_ (by show (as.map Value.ref).toArray.size ≤ sizeLine; simpa [hl] using hn))
  exact wpAny_pure (h h' tk as hk hl hG)
theorem call_zip {Q : Value → Shared → Prop} (S : ZipSep3 z TI TO i1 i2 i3 fp1 fp2 fp3) (D1 : Draws prog w A.in1.in1.in1.in1 i1 fp1 n P1 St1) (D2 : Draws prog w A.in1.in1.in1.in1 i2 fp2 n P2 St2) (D3 : Draws prog w A.in1.in1.in1.in1 i3 fp3 n P3 St3) (hn : n ≤ sizeLine)
    (hz : IsZip s.heap z TI TO .none) (hTI : IsTupOf3 s.heap TI (.ref i1) (.ref i2) (.ref i3)) (hTO : ∃ a1 a2 a3, IsTupOf3 s.heap TO a1 a2 a3) (st1 : St1 0 s.heap) (st2 : St2 0 s.heap) (st3 : St3 0 s.heap)
    (b1 : ∀ b ∈ fp1, b < s.heap.objs.size) (b2 : ∀ b ∈ fp2, b < s.heap.objs.size) (b3 : ∀ b ∈ fp3, b < s.heap.objs.size)
    (h : ∀ (h' : Heap) (tk : Nat) (as : List Addr), (∀ b o, b ≠ z → b ≠ TO → b ≠ i1 → b ≠ i2 → b ≠ i3 → s.heap.get? b = some o → h'.get? b = some o) → as.length = n → Got P1 P2 P3 s.heap.objs.size h' as →
      Q (.ref h'.objs.size) { s with heap := h'.push { cls := .type "tuple", data := .seq (as.map Value.ref).toArray }, toks := tk }) :
    wpAny (model prog w) A (call (.type "tuple") [.ref z]) Q E s := by
  refine callType_codes (Q₁ := fun obj s₁ => s₁.TypeIs obj "tuple" ∧ Q obj s₁) F.called_tuple (F.typeCall_tuple_1 _) F.entry_object_init
    (code_zip (A := A.in1) S D1 D2 D3 hn hz hTI hTO st1 st2 st3 b1 b2 b3 fun h' tk as hk hl hG => ⟨⟨_, Heap.get?_push_size _ rfl, rfl⟩, h h' tk as hk hl hG⟩) fun obj s₁ h₁ => ?_
  exact ⟨h₁.1, F.args_object_init_2 obj _, object_init_meets F.called_tuple.init.lookup F.called_tuple.made (by decide) prog w A.in1 _ s₁ ⟨h₁.1, rfl, h₁.2⟩⟩
/-- tuple(zip(t1, t2, t3)), three tuples of one length -/
theorem tuple_zip {Q : Value → Shared → Prop} {t1 t2 t3 : Addr} {x1 x2 x3 : Array Value} (hh : A.handled = none) (e1 : s.heap.IsTuple t1 x1) (e2 : s.heap.IsTuple t2 x2) (e3 : s.heap.IsTuple t3 x3) (n1 : x1.size = n) (n2 : x2.size = n) (n3 : x3.size = n) (hn : n ≤ sizeLine)
    (h : ∀ (h' : Heap) (tk : Nat) (as : List Addr), (∀ b o, s.heap.get? b = some o → h'.get? b = some o) → as.length = n → Got (fun i v => x1[i]? = some v) (fun i v => x2[i]? = some v) (fun i v => x3[i]? = some v) s.heap.objs.size h' as →
      Q (.ref h'.objs.size) { s with heap := h'.push { cls := .type "tuple", data := .seq (as.map Value.ref).toArray }, toks := tk }) :
    wpAny (model prog w) A (call (.type "zip") [.ref t1, .ref t2, .ref t3]) (fun v s1 => wpAny (model prog w) A (call (.type "tuple") [v]) Q E s1) E s := by
  have lt1 : t1 < s.heap.objs.size := let ⟨_, a, _⟩ := e1; Heap.lt_size a
  have lt2 : t2 < s.heap.objs.size := let ⟨_, a, _⟩ := e2; Heap.lt_size a
  have lt3 : t3 < s.heap.objs.size := let ⟨_, a, _⟩ := e3; Heap.lt_size a
  refine zip_begins3 (begins_tuple t1 x1) (begins_tuple t2 x2) (begins_tuple t3 x3) e1 e2 e3 fun h6 hz hTI hTO g1 g2 g3 hsz hk => ?_
  have u1 := e1.at fun o e => hk t1 o e
  have u2 := e2.at fun o e => hk t2 o e
  have u3 := e3.at fun o e => hk t3 o e
  have S := zip_sep3 (N := s.heap.objs.size) (fp1 := [t1]) (fp2 := [t2]) (fp3 := [t3]) (by simpa using lt1) (by simpa using lt2) (by simpa using lt3)
  have D1 := Draws.tuple (prog := prog) (w := w) (A := A.in1.in1.in1.in1) hh s.heap.objs.size t1 (Nat.ne_of_lt lt1) x1
  have D2 := Draws.tuple (prog := prog) (w := w) (A := A.in1.in1.in1.in1) hh (s.heap.objs.size + 1) t2 (Nat.ne_of_lt (Nat.lt_succ_of_lt lt2)) x2
  have D3 := Draws.tuple (prog := prog) (w := w) (A := A.in1.in1.in1.in1) hh (s.heap.objs.size + 2) t3 (Nat.ne_of_lt (Nat.lt_succ_of_lt (Nat.lt_succ_of_lt lt3))) x3
  rw [n1] at D1
  rw [n2] at D2
  rw [n3] at D3
  have far : ∀ {b : Addr} {o : Obj} (i : Nat), s.heap.get? b = some o → b ≠ s.heap.objs.size + i := fun i e => Nat.ne_of_lt (Nat.lt_of_lt_of_le (Heap.lt_size e) (Nat.le_add_right _ _))
  have lt6 : ∀ {b : Addr} (i : Nat), i < 6 → b = s.heap.objs.size + i → b < h6.objs.size := fun i hi e => by rw [hsz, e]; exact Nat.add_lt_add_left hi _
  have lo : ∀ {b : Addr}, b < s.heap.objs.size → b < h6.objs.size := fun h => by rw [hsz]; exact Nat.lt_of_lt_of_le h (Nat.le_add_right _ _)
  refine call_zip S D1 D2 D3 hn hz hTI ⟨_, _, _, hTO⟩ ⟨?_, u1⟩ ⟨?_, u2⟩ ⟨?_, u3⟩ ?_ ?_ ?_ fun h' tk as hkk hl hG => h h' tk as (fun b o e => hkk b o (far 5 e) (far 4 e) (far 0 e) (far 1 e) (far 2 e) (hk b o e)) hl ⟨fun j a hj => ?_, hG.nd⟩
  · exact ⟨_, g1, rfl, rfl⟩
  · exact ⟨_, g2, rfl, rfl⟩
  · exact ⟨_, g3, rfl, rfl⟩
  · intro b hb
    rcases List.mem_cons.mp hb with e | hb
    · exact lt6 0 (by decide) e
    · rw [List.mem_singleton.mp hb]; exact lo lt1
  · intro b hb
    rcases List.mem_cons.mp hb with e | hb
    · exact lt6 1 (by decide) e
    · rw [List.mem_singleton.mp hb]; exact lo lt2
  · intro b hb
    rcases List.mem_cons.mp hb with e | hb
    · exact lt6 2 (by decide) e
    · rw [List.mem_singleton.mp hb]; exact lo lt3
  · obtain ⟨hB, y⟩ := hG.at_ j a hj
    refine ⟨?_, y⟩
    have hB : h6.objs.size ≤ a := hB
    rw [hsz] at hB
    exact Nat.le_trans (Nat.le_add_right _ _) hB
end
end RZ3

set_option Elab.async false
set_option linter.all false
set_option maxRecDepth 100000
set_option maxHeartbeats 4000000
/-! tuple(zip(a, b, c)). -/
namespace EV
open PySem L2 PySem.Spec PyProof.Rows
theorem zipArgs_ok {sc : Scope} {f : Str} {args zs : List Expr} (h : zipArgs sc f args = some zs) : f = "tuple" ∧ glB sc "zip" = true ∧ zs.any starB = false ∧ ∃ p a b c q, args = [.Call (.Name "zip" p) [a, b, c] [] q] ∧ zs = [a, b, c] := by
  unfold zipArgs at h
  split at h
  · split at h
    · rename_i hc
      obtain ⟨h1, h2, h3, h4⟩ := hc
      cases h
      subst h2
      exact ⟨h1, h3, h4, _, _, _, _, _, rfl, rfl⟩
    · cases h
  · cases h
/-- several tuples are laid -/
def layT (H : Hp) : List (Addr × List V) → Hp
  | [] => H
  | (a, xs) :: r => upd (layT H r) a (.tup xs)
theorem layT_old {H : Hp} : ∀ {L : List (Addr × List V)} {b : Addr} {o : HO}, H b = some o → (∀ p ∈ L, H p.1 = none) → layT H L b = some o
  | [], _, _, h, _ => h
  | (a, xs) :: r, b, o, h, n => by
    unfold layT
    rw [upd_ne (ne_of_none h (n (a, xs) (by simp)))]
    exact layT_old h fun p hp => n p (by simp [hp])
theorem layT_in {H : Hp} : ∀ {L : List (Addr × List V)} {b : Addr} {o : HO}, layT H L b = some o → H b = some o ∨ ∃ xs, (b, xs) ∈ L ∧ o = .tup xs
  | [], _, _, h => .inl h
  | (a, xs) :: r, b, o, h => by
    unfold layT at h
    by_cases e : b = a
    · subst e
      rw [upd_same] at h
      cases h
      exact .inr ⟨xs, by simp, rfl⟩
    · rw [upd_ne e] at h
      rcases layT_in h with q | ⟨ys, m, e⟩
      · exact .inl q
      · exact .inr ⟨ys, by simp [m], e⟩
theorem layT_none {H : Hp} : ∀ {L : List (Addr × List V)} {b : Addr}, H b = none → (∀ p ∈ L, p.1 ≠ b) → layT H L b = none
  | [], _, h, _ => h
  | (a, xs) :: r, b, h, n => by
    unfold layT
    rw [upd_ne (Ne.symm (n (a, xs) (by simp)))]
    exact layT_none h fun p hp => n p (by simp [hp])
theorem Inv.lays {X : Cx} {pins : List (Addr × Obj)} {σ : L2.St} {H : Hp} {s : Shared} {h' : Heap} {t' : Nat} {L : List (Addr × List V)} (I : Inv X pins σ H s) (k : ∀ b u, s.heap.get? b = some u → h'.get? b = some u) (hp : ∀ p ∈ L, s.heap.objs.size ≤ p.1)
    (new : ∀ p ∈ L, p.2.length ≤ sizeLine ∧ ∃ its : List Value, Vals p.2 its ∧ IsTup h' p.1 its.toArray) : Inv X pins σ (layT H L) { s with heap := h', toks := t' } := by
  have hn : ∀ p ∈ L, H p.1 = none := fun p m => I.hok.fresh (hp p m)
  refine I.un ⟨fun b u q _ _ _ => k b u q, fun b u q _ _ _ => ⟨u.slots, k b u q⟩, fun b u q n _ => layT_none n fun p m e => ?_, fun b u q _ => ⟨u, k b u q⟩, fun b xs q => layT_old q hn, fun b u xs q => layT_old q hn, fun b ps q => ⟨#[], by rw [layT_old q hn]; simp⟩⟩ fun b u e => ?_
  · have h1 := hp p m
    rw [e] at h1
    exact absurd (Heap.lt_size q) (Nat.not_lt.mpr h1)
  · rcases layT_in e with q | ⟨xs, m, rfl⟩
    · exact (I.hok b u q).stay (fun c v _ q => k c v q) (fun c q => layT_old q hn) fun c xs q => layT_old q hn
    · exact new (b, xs) m
def z3 : List V → List V → List V → List (List V)
  | x :: xs, y :: ys, z :: zs => [x, y, z] :: z3 xs ys zs
  | _, _, _ => []
def tZ3 (K : PySem.W.Frag) (ta : TA) : TE := fun σ H Q => ta σ H fun vs H1 => ∃ p1 p2 p3 xs ys zs, vs = [.ref p1, .ref p2, .ref p3] ∧ SqT K H1 p1 xs ∧ SqT K H1 p2 ys ∧ SqT K H1 p3 zs ∧ xs.length = zs.length ∧ ys.length = zs.length ∧ zs.length ≤ sizeLine ∧
  ∀ (as : List Addr) (q : Addr), as.length = zs.length → as.Nodup → (∀ a ∈ as, H1 a = none) → H1 q = none → q ∉ as → Q (.ref q) (upd (layT H1 (as.zip (z3 xs ys zs))) q (.tup (as.map V.ref)))
theorem z3_get : ∀ {xs ys zs : List V} {j : Nat} {l : List V}, (z3 xs ys zs)[j]? = some l → ∃ x y z, xs[j]? = some x ∧ ys[j]? = some y ∧ zs[j]? = some z ∧ l = [x, y, z]
  | [], _, _, _, _, h => by simp [z3] at h
  | _ :: _, [], _, _, _, h => by simp [z3] at h
  | _ :: _, _ :: _, [], _, _, h => by simp [z3] at h
  | x :: xs, y :: ys, z :: zs, 0, l, h => by simp [z3] at h; exact ⟨x, y, z, rfl, rfl, rfl, h.symm⟩
  | x :: xs, y :: ys, z :: zs, j + 1, l, h => by simp [z3] at h; simpa using z3_get h
theorem vals_refs : ∀ as : List Addr, Vals (as.map V.ref) (as.map Value.ref)
  | [] => .nil
  | a :: as => .cons rfl (vals_refs as)
theorem Vals.get {vs : List V} {us : List Value} (r : Vals vs us) : ∀ {j : Nat} {v : V} {u : Value}, vs[j]? = some v → us[j]? = some u → RelV v u := by
  unfold Vals at r
  induction r with
  | nil => intro j v u h; simp at h
  | cons h t ih =>
    intro j v u h1 h2
    cases j with
    | zero => simp at h1 h2; subst h1 h2; exact h
    | succ j => simp at h1 h2; exact ih h1 h2
section
variable {X : Cx} {a b c : Expr} {ta : TA} {p p2 q q2 : Pos}
theorem pe_zip3 (g1 : Gl X "tuple") (m1 : X.mg "tuple" = none) (g2 : Gl X "zip") (m2 : X.mg "zip" = none) (hc : X.calm = true) (ha : PA X [a, b, c] ta) (hs : [a, b, c].any starB = false) :
    PE X (.Call (.Name "tuple" p) [.Call (.Name "zip" p2) [a, b, c] [] q2] [] q) (tZ3 X.K ta) := by
  have sa : starB a = false := (any_cons hs).1
  have sbc : [b, c].any starB = false := (any_cons hs).2
  refine ⟨fun pins s σ H Q I h => ?_⟩
  refine Call_ (ld_blt I g1 m1 boot_tuple (PyProof.Rows.callWith_type1 (args_cons ?_ (star_cons rfl)) (star_cons rfl) rfl))
  refine Call_ (ld_blt I g2 m2 PyProof.Rows.boot_zip (PyProof.Rows.callWith_type1 (thn (ha.run q2 pins s σ H _ I h) fun us s1 ⟨vs, H1, I1, r1, q1⟩ => ?_) (star_cons sa) (star_plain sbc)))
  obtain ⟨a1, a2, a3, xs, ys, zs, ev, e1, e2, e3, l1, l2, l3, qq⟩ := q1
  subst ev
  obtain rfl : us = [.ref a1, .ref a2, .ref a3] := by
    cases r1 with
    | cons r rr =>
      cases rr with
      | cons r' rr =>
        cases rr with
        | cons r'' rr =>
          cases rr
          cases r; cases r'; cases r''
          rfl
  obtain ⟨i1, v1, t1, z1⟩ := I1.tuple e1
  obtain ⟨i2, v2, t2, z2⟩ := I1.tuple e2
  obtain ⟨i3, v3, t3, z3'⟩ := I1.tuple e3
  have n1 : i1.toArray.size = zs.length := by rw [List.size_toArray, ← v1.length, l1]
  have n2 : i2.toArray.size = zs.length := by rw [List.size_toArray, ← v2.length, l2]
  have n3 : i3.toArray.size = zs.length := by rw [List.size_toArray, ← v3.length]
  refine thn (RZ3.tuple_zip (I1.ok.hd hc) t1 t2 t3 n1 n2 n3 l3 (Q := EP X pins σ Q) fun h' tk as hk hl hG => ?_) fun v s2 hv => args_nil hv
  have fresh : ∀ a ∈ as, s1.heap.objs.size ≤ a := fun a m => by
    obtain ⟨j, hj⟩ := List.mem_iff_getElem?.mp m
    exact (hG.at_ j a hj).1
  have inH : ∀ a ∈ as, ∃ o, h'.get? a = some o := fun a m => by
    obtain ⟨j, hj⟩ := List.mem_iff_getElem?.mp m
    obtain ⟨_, _, _, _, e, _⟩ := hG.at_ j a hj
    exact ⟨_, e⟩
  have I2 : Inv X pins σ (layT H1 (as.zip (z3 xs ys zs))) { s1 with heap := h', toks := tk } := Inv.lays I1 hk (fun pr m => fresh _ (List.of_mem_zip m).1) fun pr m => by
    obtain ⟨j, hj⟩ := List.mem_iff_getElem?.mp m
    rw [List.getElem?_zip_eq_some] at hj
    obtain ⟨ja, jl⟩ := hj
    obtain ⟨x, y, z, jx, jy, jz, el⟩ := z3_get jl
    obtain ⟨_, u1, u2, u3, e, y1, y2, y3⟩ := hG.at_ j _ ja
    rw [el]
    refine ⟨by show 3 ≤ sizeLine; decide, [u1, u2, u3], .cons (Vals.get v1 jx (by simpa using y1)) (.cons (Vals.get v2 jy (by simpa using y2)) (.cons (Vals.get v3 jz (by simpa using y3)) .nil)), ?_⟩
    exact ⟨_, e, rfl, _, rfl⟩
  have hq : (layT H1 (as.zip (z3 xs ys zs))) h'.objs.size = none := I2.hok.fresh (Nat.le_refl _)
  have I3 := I2.laid (a := h'.objs.size) (o := .tup (as.map V.ref)) (h' := h'.push { cls := .type "tuple", data := .seq (as.map Value.ref).toArray }) (t' := tk) (fun b o e => Heap.get?_push_of_some _ e) (Nat.le_refl _)
    (show ObjOk X.prog X.w _ _ _ (.tup (as.map V.ref)) from ⟨by rw [List.length_map, hl]; exact l3, as.map Value.ref, vals_refs as, IsTup.new _ _⟩)
  have hq1 : H1 h'.objs.size = none := by
    cases e : H1 h'.objs.size with
    | none => rfl
    | some o =>
      rw [layT_old e fun pr m => I1.hok.fresh (fresh _ (List.of_mem_zip m).1)] at hq
      cases hq
  refine ⟨.ref h'.objs.size, _, I3, rfl, qq as h'.objs.size hl hG.nd (fun a m => I1.hok.fresh (fresh a m)) hq1 fun m => ?_⟩
  · obtain ⟨o, e⟩ := inH _ m
    exact absurd (Heap.lt_size e) (Nat.lt_irrefl _)
end
theorem RpL.three' {K : PySem.W.Frag} {G : Gh} {a b c : D} {vs : List V} (h : RpL K G [a, b, c] vs) : ∃ u v w, vs = [u, v, w] ∧ Rp K G a u ∧ Rp K G b v ∧ Rp K G c w := by
  unfold RpL at h
  obtain ⟨u, r, e, h1, h2⟩ := h
  obtain ⟨v, w, e2, h3, h4⟩ := RpL.two h2
  subst e e2
  exact ⟨u, v, w, rfl, h1, h3, h4⟩
theorem lay_steps {K : PySem.W.Frag} {G : Gh} {H : Hp} {M : Mst} (l : Low G H) (m : RelM K G H M) : ∀ {xs ys zs : List D} {us vs ws : List V}, RpL K G xs us → RpL K G ys vs → RpL K G zs ws → ∀ as : List Addr, as.length = zs.length → xs.length = zs.length → ys.length = zs.length → as.Nodup → (∀ a ∈ as, H a = none) →
    ∃ G', Step K G H G' M (layT H (as.zip (z3 us vs ws))) ∧ RpL K G' (zip3 xs ys zs) (as.map V.ref)
  | [], _, _, _, _, _, _, _, _, [], _, _, _, _, _ => ⟨G, Step.refl l m, by unfold zip3; exact RpL.nil⟩
  | _ :: _, _, [], _, _, _, _, _, _, _, _, h, _, _, _ => by simp at h
  | _, _ :: _, [], _, _, _, _, _, _, _, _, _, h, _, _ => by simp at h
  | [], _, _ :: _, _, _, _, _, _, _, _, _, h, _, _, _ => by simp at h
  | _, [], _ :: _, _, _, _, _, _, _, _, _, _, h, _, _ => by simp at h
  | [], [], [], _, _, _, _, _, _, _ :: _, h, _, _, _, _ => by simp at h
  | x :: xs, y :: ys, z :: zs, _, _, _, _, _, _, [], h, _, _, _, _ => by simp at h
  | x :: xs, y :: ys, z :: zs, us, vs, ws, q1, q2, q3, a :: as, h1, h2, h3, nd, fr => by
    unfold RpL at q1 q2 q3
    obtain ⟨u, us', rfl, u1, u2⟩ := q1
    obtain ⟨v, vs', rfl, v1, v2⟩ := q2
    obtain ⟨w, ws', rfl, w1, w2⟩ := q3
    obtain ⟨na, nd'⟩ := List.nodup_cons.mp nd
    obtain ⟨G1, s1, r1⟩ := lay_steps l m u2 v2 w2 as (by simpa using h1) (by simpa using h2) (by simpa using h3) nd' (fun b hb => fr b (by simp [hb]))
    have hn : layT H (as.zip (z3 us' vs' ws')) a = none := layT_none (fr a (by simp)) fun pr mm e => na (e ▸ (List.of_mem_zip mm).1)
    obtain ⟨G2, s2, r2⟩ := tup_new (xs := [x, y, z]) (vs := [u, v, w]) s1.low s1.mst hn (RpL.cons (u1.mono s1.le) (RpL.cons (v1.mono s1.le) (RpL.cons (w1.mono s1.le) RpL.nil)))
    refine ⟨G2, ?_, ?_⟩
    · have := s1.trans s2
      simpa [z3, layT] using this
    · unfold zip3
      rw [List.map_cons]
      exact RpL.cons r2 (r1.mono s2.le)
section
variable {X : Cx} {F : Frm} {T : Tab} {C : Orc} {k : Nat} {H0 : Hp} {ρ : Env} {M M1 : Mst}
theorem j_zip3 {a b c : Expr} {p p2 q q2 : Pos} {ds : List D} {d : D} (O : CtxOk X F T C k) (g1 : glB F.sc "tuple" = true) (g2 : glB F.sc "zip" = true) (hs : [a, b, c].any starB = false) (h : PA X [a, b, c] (tJs X.K H0 ρ M ds M1)) (hd : bltD .tupZip3 ds = some d) :
    PE X (.Call (.Name "tuple" p) [.Call (.Name "zip" p2) [a, b, c] [] q2] [] q) (tJ X.K H0 ρ M d M1) := by
  unfold bltD at hd
  split at hd
  all_goals first | (cases hd; done) | skip
  all_goals first | (rename_i e; cases e; done) | skip
  rename_i xs ys zs _
  split at hd
  · rename_i hl
    obtain ⟨l1, l2, l3⟩ := hl
    cases hd
    refine PE.weak (pe_zip3 (glB_ok O.sc g1) (O.tab.bl _ (by decide +kernel)) (glB_ok O.sc g2) (O.tab.bl _ (by decide +kernel)) O.calm h hs) fun σ H Q ⟨G, R, q⟩ => ⟨G, R, fun vs H1 G1 s1 r1 => ?_⟩
    obtain ⟨u, v, w, e, ru, rv, rw'⟩ := r1.three'
    obtain ⟨a1, us, e1, s1', q1⟩ := ru.of_tup
    obtain ⟨a2, vs2, e2, s2', q2⟩ := rv.of_tup
    obtain ⟨a3, ws, e3, s3', q3⟩ := rw'.of_tup
    subst e e1 e2 e3
    have n1 := q1.length
    have n2 := q2.length
    have n3 := q3.length
    refine ⟨a1, a2, a3, us, vs2, ws, rfl, sqT_mono s1.low s1', sqT_mono s1.low s2', sqT_mono s1.low s3', by omega, by omega, by (have hz : sizeLine = 16777216 := by decide); omega, fun as qd hl hnd hfr hq hqn => ?_⟩
    obtain ⟨G2, s2, r2⟩ := lay_steps (M := M1) s1.low s1.mst q1 q2 q3 as (by omega) l1 l2 hnd hfr
    have hqd : layT H1 (as.zip (z3 us vs2 ws)) qd = none := layT_none hq fun pr m e => hqn (e ▸ (List.of_mem_zip m).1)
    obtain ⟨G3, s3, r3⟩ := tup_new s2.low s2.mst hqd r2
    exact q _ _ G3 ((s1.trans s2).trans s3) r3
  · cases hd
end
end EV

set_option Elab.async false
set_option linter.all false
set_option maxRecDepth 100000
set_option maxHeartbeats 4000000
/-! Comprehensions; the evaluator is right at expressions. -/
namespace EV
open PySem L2

/-- an expression of the core language, whatever the frame's slots are -/
def tEv (K : PySem.W.Frag) (H0 : Hp) (C : Orc) (e : E) : TE := fun σ H Q => ∃ ρ M d M', ev C e ρ M = some (d, M') ∧ tJ K H0 ρ M d M' σ H Q
def tEvC (K : PySem.W.Frag) (H0 : Hp) (C : Orc) (e : Es) : TT := fun σ H Q => ∃ ρ M b M', evC C e ρ M = some (b, M') ∧ tJT K H0 ρ M b M' σ H Q
theorem pe_ev {X : Cx} {e : Expr} {e' : E} {C : Orc} {H0 : Hp} (h : ∀ ρ M d M', ev C e' ρ M = some (d, M') → PE X e (tJ X.K H0 ρ M d M')) : PE X e (tEv X.K H0 C e') :=
  ⟨fun pins s σ H Q I ⟨ρ, M, d, M', h1, q⟩ => (h ρ M d M' h1).run pins s σ H Q I q⟩

theorem blk_ok {X : Cx} {F : Frm} {T : Tab} {C : Orc} {k : Nat} (O : CtxOk X F T C k) (s : Shared) (H : Hp) (scope : Scope) (Ca : Addr) (cl : List (Str × Addr)) (fp : List Addr) :
    CtxOk (X.blk s H scope (compEnvC scope cl Ca X.env) fp) (F.blk scope) T C k :=
  ⟨O.calm, O.N, O.nd, by show relS scope X.env.scope = relS scope F.sc; rw [O.sc], rfl, rfl, O.room, O.tab⟩

/-- a turn of a comprehension -/
def cbody (C : Orc) (elt : E) (t : Tgt) (ifs : Es) (own : List Nat) (ρ : Env) (d : D) (M : Mst) : Option (Option D × Mst) := match bindT t d (wipeR ρ own) with
  | none => none
  | some ρ1 => bdB (evC C ifs ρ1 M) fun b M2 => match b with
    | true => bd (ev C elt ρ1 M2) fun y M3 => some (some y, M3)
    | false => some (none, M2)

section
variable {X : Cx} {F : Frm} {T : Tab} {C : Orc} {k : Nat} {H0 : Hp} {ρ : Env} {M M1 M2 M' M4 : Mst} {items res : List D}
theorem Step.put_own {K : PySem.W.Frag} {G G' : Gh} {H H' : Hp} {M : Mst} {p : Addr} {o : HO} (s : Step K G H G' M H') (h0 : H p = none) (hf : G'.Fz p = none) (hd : p ∉ drA G') : Step K G H G' M (upd H' p o) := by
  refine ⟨s.le, s.new, fun a u h ha => ?_, s.nd, fun a h => ?_, fun a u h => ?_, s.mst.set_own hd⟩
  · rw [upd_ne (ne_of_none h h0)]; exact s.fr a u h ha
  · by_cases z : a = p
    · subst z; rw [upd_same]; exact fun z => by cases z
    · rw [upd_ne z]; exact s.kp a h
  · rw [upd_ne (fun z => by rw [z, hf] at h; cases h)]; exact s.low a u h

theorem lc_of {K : PySem.W.Frag} {own : List (Str × Nat)} {t' : Tgt} {elt' : E} {ifs' : Es} (hin : ∀ i ∈ t'.slots, i ∈ own.map (·.2)) (hl : cloop (cbody C elt' t' ifs' (own.map (·.2)) ρ) items M1 = some (res, M4))
    {σ : L2.St} {H : Hp} {Q : VK} (h : tJF K H0 ρ M res M4 σ H Q) : tLc (tI K H0 ρ M items M1) (tGx K H0 t') (tEvC K H0 C ifs') (tEv K H0 C elt') (own.map (·.2)) σ H Q := by
  obtain ⟨G, R, q⟩ := h
  refine ⟨G, R, fun J H1 G1 s1 W D hD => ?_⟩
  have S1 : Slots K G1 H0 H1 (wipeR ρ (own.map (·.2))) (L2.wipe σ (own.map (·.2))) := (R.slots.step s1).wipe _
  have P0 : ∃ G2 M2 acc vs r, Step K G1 H1 G2 M2 (upd H1 D (.lst [])) ∧ G2.Fz D = none ∧ D ∉ drA G2 ∧ (upd H1 D (.lst []) : Hp) D = some (.lst vs) ∧ RpL K G2 acc vs ∧ vs.length ≤ 0 ∧
      cloop (cbody C elt' t' ifs' (own.map (·.2)) ρ) (items.drop 0) M2 = some (r, M4) ∧ acc ++ r = res := by
    obtain ⟨a1, a2, a3⟩ := lst_new (vs := []) (xs := []) s1.low s1.mst hD RpL.nil
    exact ⟨G1, M1, [], [], res, a1, a2, a3, upd_same, RpL.nil, Nat.le_refl _, hl, rfl⟩
  refine ⟨fun i m Hc => m = items.length - i ∧ i ≤ items.length ∧ ∃ G2 M2 acc vs r, Step K G1 H1 G2 M2 Hc ∧ G2.Fz D = none ∧ D ∉ drA G2 ∧ Hc D = some (.lst vs) ∧ RpL K G2 acc vs ∧ vs.length ≤ i ∧
      cloop (cbody C elt' t' ifs' (own.map (·.2)) ρ) (items.drop i) M2 = some (r, M4) ∧ acc ++ r = res, ⟨_, rfl, Nat.zero_le _, P0⟩, ?_⟩
  rintro i m Hc ⟨rfl, hle, G2, M2, acc, vs, r, st, f2, d2, hDc, rl, hv, hc, hr⟩
  by_cases hlt : i < items.length
  · refine .inr ⟨W.go i Hc hlt (Low.le st.le st.low), fun Hn => i + 1 ≤ items.length ∧ ∃ G2 M2 acc vs r, Step K G1 H1 G2 M2 Hn ∧ G2.Fz D = none ∧ D ∉ drA G2 ∧ Hn D = some (.lst vs) ∧ RpL K G2 acc vs ∧ vs.length ≤ i + 1 ∧
      cloop (cbody C elt' t' ifs' (own.map (·.2)) ρ) (items.drop (i + 1)) M2 = some (r, M4) ∧ acc ++ r = res, fun H' p => ⟨_, by omega, rfl, p.1, p.2⟩, fun x H' y => ?_⟩
    have hget : items[i]? = some items[i] := List.getElem?_eq_getElem hlt
    obtain ⟨G3, s3, r3⟩ := W.yld i Hc x H' G2 items[i] M2 hget st.le st.low st.mst y
    rw [List.drop_eq_getElem_cons hlt] at hc
    unfold cloop at hc
    cases hbd : cbody C elt' t' ifs' (own.map (·.2)) ρ items[i] M2 with
    | none => rw [hbd] at hc; cases hc
    | some om =>
      obtain ⟨o, M3⟩ := om
      rw [hbd] at hc
      simp only at hc
      cases hrest : cloop (cbody C elt' t' ifs' (own.map (·.2)) ρ) (items.drop (i + 1)) M3 with
      | none => rw [hrest] at hc; cases hc
      | some rm =>
        obtain ⟨r', M5⟩ := rm
        rw [hrest] at hc
        simp only [Option.some.injEq, Prod.mk.injEq] at hc
        obtain ⟨hc1, hc2⟩ := hc
        subst hc2
        unfold cbody at hbd
        cases hbt : bindT t' items[i] (wipeR ρ (own.map (·.2))) with
        | none => rw [hbt] at hbd; cases hbd
        | some ρ1 =>
          rw [hbt] at hbd
          simp only at hbd
          have S3 := S1.step (st.trans s3)
          refine ⟨_, ρ1, items[i], G3, hbt, S3, s3.low, r3, fun σ' S' hw => ⟨by rw [hw _ hin, wipe_wipe], ?_⟩⟩
          cases hcv : evC C ifs' ρ1 M2 with
          | none => rw [hcv] at hbd; cases hbd
          | some bm =>
            obtain ⟨b, M6⟩ := bm
            rw [hcv] at hbd
            refine ⟨ρ1, M2, b, M6, hcv, G3, ⟨s3.low, s3.mst, S'⟩, fun H5 G5 s5 => ?_⟩
            have own5 := (s3.trans s5).owned hDc f2 d2
            cases b with
            | false =>
              simp only [bdB, Option.some.injEq, Prod.mk.injEq] at hbd
              obtain ⟨e1, e2⟩ := hbd
              subst e1 e2
              refine iteF ⟨hlt, G5, M6, acc, vs, r', (st.trans s3).trans s5, own5.2.1, own5.2.2, own5.1, rl.mono ((s3.trans s5).le), by omega, hrest, ?_⟩
              rw [← hr, ← hc1]
            | true =>
              simp only [bdB] at hbd
              cases hev : ev C elt' ρ1 M6 with
              | none => rw [hev] at hbd; cases hbd
              | some ym =>
                obtain ⟨yd, M7⟩ := ym
                rw [hev] at hbd
                simp only [bd, Option.some.injEq, Prod.mk.injEq] at hbd
                obtain ⟨e1, e2⟩ := hbd
                subst e1 e2
                refine iteT ⟨ρ1, M6, yd, M7, hev, G5, ⟨s5.low, s5.mst, S'.step s5⟩, fun yv H7 G7 s7 r7 => ?_⟩
                have own7 := ((s3.trans s5).trans s7).owned hDc f2 d2
                refine ⟨vs, own7.1, by have := W.len; omega, hlt, G7, M7, acc ++ [yd], vs ++ [yv], r', (((st.trans s3).trans s5).trans s7).put_own hD own7.2.1 own7.2.2, own7.2.1, own7.2.2, upd_same, ?_, by simp; omega, hrest, ?_⟩
                · exact (rl.mono ((s3.trans s5).trans s7).le).append (RpL.cons r7 RpL.nil)
                · rw [← hr, ← hc1]; simp
  · have e : i = items.length := by omega
    subst e
    rw [List.drop_length] at hc
    unfold cloop at hc
    cases hc
    rw [List.append_nil] at hr
    subst hr
    have hH : H D = none := by
      cases e : H D with
      | none => rfl
      | some u => exact absurd hD (s1.kp D (by rw [e]; exact fun z => by cases z))
    exact .inl ⟨W.stop Hc (Low.le st.le st.low), q D vs Hc G2 (s1.trans st) hH hDc f2 d2 rl⟩

theorem jf_comp {elt tg it : Expr} {ifs : List Expr} {scope : Scope} {pos : Pos} {own : List (Str × Nat)} {t' : Tgt} {elt' : E} {ifs' : Es} (O : CtxOk X F T C k)
    (hb : blkC F.N F.sc scope own = true) (hs : ∀ x, foldedSetIterable it X.env x = pure x) (hin : ∀ i ∈ t'.slots, i ∈ own.map (·.2))
    (hi : PI X tg it (tI X.K H0 ρ M items M1))
    (hg : ∀ X', CtxOk X' (F.blk scope) T C k → X'.K = X.K → PG X' tg (tGx X.K H0 t')) (ht : ∀ X', CtxOk X' (F.blk scope) T C k → X'.K = X.K → PTs X' ifs (tEvC X.K H0 C ifs'))
    (he : ∀ X', CtxOk X' (F.blk scope) T C k → X'.K = X.K → PE X' elt (tEv X.K H0 C elt')) (hl : cloop (cbody C elt' t' ifs' (own.map (·.2)) ρ) items M1 = some (res, M4)) :
    PE X (.ListComp elt [⟨tg, it, ifs, 0⟩] scope pos) (tJF X.K H0 ρ M res M4) := by
  have ok : BlkOk X.N X.env.scope scope own := by rw [O.N, O.sc]; exact blkOk_by hb
  exact PE.weak (pe_lc O.calm (by rw [O.N]; exact O.nd) hi ok (fun s H Ca cl fp => hg _ (blk_ok O s H scope Ca cl fp) rfl) (fun s H Ca cl fp => ht _ (blk_ok O s H scope Ca cl fp) rfl)
    (fun s H Ca cl fp => he _ (blk_ok O s H scope Ca cl fp) rfl) hs) fun σ H Q h => lc_of hin hl h
/-- name = [..], the new list stored from within the block -/
theorem js_comp {elt tg it : Expr} {ifs : List Expr} {scope : Scope} {pos spos py : Pos} {y : Str} {i : Nat} {own : List (Str × Nat)} {t' : Tgt} {elt' : E} {ifs' : Es} (O : CtxOk X F T C k)
    (hb : blkC F.N F.sc scope own = true) (hs : ∀ x, foldedSetIterable it X.env x = pure x) (hin : ∀ i ∈ t'.slots, i ∈ own.map (·.2))
    (hi : PI X tg it (tI X.K H0 ρ M items M1))
    (hg : ∀ X', CtxOk X' (F.blk scope) T C k → X'.K = X.K → PG X' tg (tGx X.K H0 t')) (ht : ∀ X', CtxOk X' (F.blk scope) T C k → X'.K = X.K → PTs X' ifs (tEvC X.K H0 C ifs'))
    (he : ∀ X', CtxOk X' (F.blk scope) T C k → X'.K = X.K → PE X' elt (tEv X.K H0 C elt')) (hl : cloop (cbody C elt' t' ifs' (own.map (·.2)) ρ) items M1 = some (res, M4))
    (hy : F.idx y = some i) (hyl : F.sc.names.lookup y = some .local) (hsw : swapsWith (.ListComp elt [⟨tg, it, ifs, 0⟩] scope pos) (some (.Name y py)) spos.line X.env = pure true) :
    PS X (.Assign [.Name y py] (.ListComp elt [⟨tg, it, ifs, 0⟩] scope pos) spos) (tAsg (tJF X.K H0 ρ M res M4) (gName i)) := by
  have ok : BlkOk X.N X.env.scope scope own := by rw [O.N, O.sc]; exact blkOk_by hb
  have h := ps_setLc O.calm (by rw [O.N]; exact O.nd) (by rw [O.N]; exact idx_get hy) (by rw [O.sc]; exact hyl) hsw hi ok (fun s H Ca cl fp => hg _ (blk_ok O s H scope Ca cl fp) rfl) (fun s H Ca cl fp => ht _ (blk_ok O s H scope Ca cl fp) rfl)
    (fun s H Ca cl fp => he _ (blk_ok O s H scope Ca cl fp) rfl) hs
  exact ⟨fun pins s σ H D I q => h.run pins s σ H D I (lc_of hin hl q)⟩
end
end EV

set_option Elab.async false
set_option linter.all false
set_option maxRecDepth 100000
set_option maxHeartbeats 8000000
/-! The evaluator is right at expressions. -/
namespace EV
open PySem L2

theorem bd_some {α : Type} {r : Option (D × Mst)} {f : D → Mst → Option α} {x : α} (h : bd r f = some x) : ∃ d M, r = some (d, M) ∧ f d M = some x := by
  unfold bd at h
  split at h
  · exact ⟨_, _, rfl, h⟩
  · cases h
theorem bdL_some {α : Type} {r : Option (List D × Mst)} {f : List D → Mst → Option α} {x : α} (h : bdL r f = some x) : ∃ d M, r = some (d, M) ∧ f d M = some x := by
  unfold bdL at h
  split at h
  · exact ⟨_, _, rfl, h⟩
  · cases h
theorem ret1_some {o : Option D} {M : Mst} {d : D} {M' : Mst} (h : ret1 o M = some (d, M')) : o = some d ∧ M = M' := by
  unfold ret1 at h
  split at h
  · cases h; exact ⟨rfl, rfl⟩
  · cases h
theorem retB_some {o : Option Bool} {M : Mst} {d : D} {M' : Mst} (h : retB o M = some (d, M')) : ∃ b, o = some b ∧ d = .bl b ∧ M = M' := by
  unfold retB at h
  split at h
  · cases h; exact ⟨_, rfl, rfl, rfl⟩
  · cases h

theorem notSet {e : Expr} (h : setB e = false) (env : PySem.Env) : ∀ x, foldedSetIterable e env x = pure x := by
  intro x
  cases e <;> first | rfl | (simp [setB] at h)

structure Sound (T : Tab) (C : Orc) (k : Nat) (H0 : Hp) (n : Nat) : Prop where
  e : ∀ {X F e e'}, CtxOk X F T C k → compE T n F e = some e' → ∀ {ρ M d M'}, ev C e' ρ M = some (d, M') → PE X e (tJ X.K H0 ρ M d M')
  f : ∀ {X F e e'}, CtxOk X F T C k → compE T n F e = some e' → freshE e' = true → ∀ {ρ M xs M'}, ev C e' ρ M = some (.lst xs, M') → PE X e (tJF X.K H0 ρ M xs M')
  l : ∀ {X F es es'}, CtxOk X F T C k → compL T n F es = some es' → es.any starB = false → ∀ {ρ M ds M'}, evs C (esOf es') ρ M = some (ds, M') → PA X es (tJs X.K H0 ρ M ds M') ∧ ds.length = es.length
  ba : ∀ {X F es es' e' pos}, CtxOk X F T C k → compL T n F es = some es' → andOf es' = some e' → ∀ {ρ M d M'}, ev C e' ρ M = some (d, M') → PE X (.BoolOp .And es pos) (tJ X.K H0 ρ M d M')
  bo : ∀ {X F es es' e' pos}, CtxOk X F T C k → compL T n F es = some es' → orOf es' = some e' → ∀ {ρ M d M'}, ev C e' ρ M = some (d, M') → PE X (.BoolOp .Or es pos) (tJ X.K H0 ρ M d M')
  t : ∀ {X F e e'}, CtxOk X F T C k → compT T n F e = some e' → ∀ {ρ M b M'}, ev C e' ρ M = some (.bl b, M') → PT X e (tJT X.K H0 ρ M b M')
  ct : ∀ {X F a ops cs pos e'}, CtxOk X F T C k → compE T n F (.Compare a ops cs pos) = some e' → ∀ {ρ M b M'}, ev C e' ρ M = some (.bl b, M') → PT X (.Compare a ops cs pos) (tJT X.K H0 ρ M b M')
  ta : ∀ {X F es es' e' pos}, CtxOk X F T C k → compTL T n F es = some es' → andOf es' = some e' → ∀ {ρ M b M'}, ev C e' ρ M = some (.bl b, M') → PW X (.BoolOp .And es pos) (tJT X.K H0 ρ M b M')
  to : ∀ {X F es es' e' pos}, CtxOk X F T C k → compTL T n F es = some es' → orOf es' = some e' → ∀ {ρ M b M'}, ev C e' ρ M = some (.bl b, M') → PW X (.BoolOp .Or es pos) (tJT X.K H0 ρ M b M')
  c : ∀ {X F es es'}, CtxOk X F T C k → compTL T n F es = some es' → es'.length ≤ 1 → ∀ {ρ M b M'}, evC C (esOf es') ρ M = some (b, M') → PTs X es (tJT X.K H0 ρ M b M')
  i : ∀ {X F e i' tg}, CtxOk X F T C k → compI T n F e = some i' → itTgt i' tg = true → ∀ {ρ M ds M'}, evI C i' ρ M = some (ds, M') → PI X tg e (tI X.K H0 ρ M ds M')

theorem PTs.weak {X : Cx} {e : List Expr} {t t' : TT} (h : PTs X e t) (w : ∀ σ H Q, t' σ H Q → t σ H Q) : PTs X e t' := ⟨fun pins s σ H Q I q => h.run pins s σ H Q I (w σ H Q q)⟩

section
variable {T : Tab} {C : Orc} {k : Nat} {H0 : Hp}
theorem sound_zero : Sound T C k H0 0 where
  e := fun _ h => by simp [compE] at h
  f := fun _ h => by simp [compE] at h
  l := fun _ h => by simp [compL] at h
  ba := fun _ h => by simp [compL] at h
  bo := fun _ h => by simp [compL] at h
  t := fun _ h => by simp [compT] at h
  ct := fun _ h => by simp [compE] at h
  ta := fun _ h => by simp [compTL] at h
  to := fun _ h => by simp [compTL] at h
  c := fun _ h => by simp [compTL] at h
  i := fun _ h => by simp [compI] at h

variable {n : Nat}
theorem pos_len {α : Type} {l : List α} (h : l.length ≤ 1000000) : l.length ≤ 1000000 := h

/-- comprehension, by the induction's hypothesis -/
theorem comp_ok (S : Sound T C k H0 n) {X : Cx} {F : Frm} {elt t it : Expr} {ifs : List Expr} {scope : Scope} {pos : Pos} {e' : E} (O : CtxOk X F T C k)
    (h : compE T (n + 1) F (.ListComp elt [⟨t, it, ifs, 0⟩] scope pos) = some e') {ρ : Env} {M M' : Mst} {d : D} (hev : ev C e' ρ M = some (d, M')) : ∃ xs, d = .lst xs ∧ PE X (.ListComp elt [⟨t, it, ifs, 0⟩] scope pos) (tJF X.K H0 ρ M xs M') := by
  unfold compE at h
  simp only at h
  split at h
  · rename_i hc
    simp only [Bool.and_eq_true, Bool.not_eq_true'] at hc
    split at h
    · rename_i t' i' c' e1 h1 h2 h3 h4
      split at h
      · rename_i hc2
        cases h
        simp only [ev] at hev
        obtain ⟨items, M1, hi, hev⟩ := bdL_some hev
        obtain ⟨res, M4, hl, hev⟩ := bdL_some hev
        cases hev
        refine ⟨res, rfl, jf_comp O hc.1 (notSet hc.2 _) (fun i hi => ?_) (S.i O h2 hc2.2.1 hi) (fun X' O' e => ?_) (fun X' O' e => ?_) (fun X' O' e => ?_) hl⟩
        · have := hc2.2.2
          rw [List.all_eq_true] at this
          simpa using this i hi
        · have := (target_ok (T := T) (C := C) (k := k) (H0 := H0) n).1 O' h1
          rw [e] at this; exact this
        · refine ⟨fun pins s σ H Q I ⟨ρ, M, b, M', h1, q⟩ => ?_⟩
          have := (S.c O' h3 hc2.1 h1).run pins s σ H Q I
          rw [e] at this; exact this q
        · rw [← e]; exact pe_ev fun ρ M d M' h => S.e O' h4 h
      · cases h
    · cases h
  · cases h

/-- name = comprehension -/
theorem comp_okS (S : Sound T C k H0 n) {X : Cx} {F : Frm} {elt t it : Expr} {ifs : List Expr} {scope : Scope} {pos spos py : Pos} {y : Str} {i : Nat} {e' : E} (O : CtxOk X F T C k)
    (h : compE T (n + 1) F (.ListComp elt [⟨t, it, ifs, 0⟩] scope pos) = some e') {ρ : Env} {M M' : Mst} {xs : List D} (hev : ev C e' ρ M = some (.lst xs, M'))
    (hy : F.idx y = some i) (hyl : F.sc.names.lookup y = some .local) (hsw : swapsWith (.ListComp elt [⟨t, it, ifs, 0⟩] scope pos) (some (.Name y py)) spos.line X.env = pure true) :
    PS X (.Assign [.Name y py] (.ListComp elt [⟨t, it, ifs, 0⟩] scope pos) spos) (tAsg (tJF X.K H0 ρ M xs M') (gName i)) := by
  unfold compE at h
  simp only at h
  split at h
  · rename_i hc
    simp only [Bool.and_eq_true, Bool.not_eq_true'] at hc
    split at h
    · rename_i t' i' c' e1 h1 h2 h3 h4
      split at h
      · rename_i hc2
        cases h
        simp only [ev] at hev
        obtain ⟨items, M1, hi, hev⟩ := bdL_some hev
        obtain ⟨res, M4, hl, hev⟩ := bdL_some hev
        cases hev
        refine js_comp O hc.1 (notSet hc.2 _) (fun i hi => ?_) (S.i O h2 hc2.2.1 hi) (fun X' O' e => ?_) (fun X' O' e => ?_) (fun X' O' e => ?_) hl hy hyl hsw
        · have := hc2.2.2
          rw [List.all_eq_true] at this
          simpa using this i hi
        · have := (target_ok (T := T) (C := C) (k := k) (H0 := H0) n).1 O' h1
          rw [e] at this; exact this
        · refine ⟨fun pins s σ H Q I ⟨ρ, M, b, M', h1, q⟩ => ?_⟩
          have := (S.c O' h3 hc2.1 h1).run pins s σ H Q I
          rw [e] at this; exact this q
        · rw [← e]; exact pe_ev fun ρ M d M' h => S.e O' h4 h
      · cases h
    · cases h
  · cases h
end
end EV

set_option Elab.async false
set_option linter.all false
set_option maxRecDepth 100000
set_option maxHeartbeats 8000000
namespace EV
open PySem L2
section
variable {T : Tab} {C : Orc} {k : Nat} {H0 : Hp} {n : Nat}

theorem s_l (S : Sound T C k H0 n) {X : Cx} {F : Frm} {es : List Expr} {es' : List E} (O : CtxOk X F T C k) (h : compL T (n + 1) F es = some es') (hs : es.any starB = false) {ρ : Env} {M M' : Mst} {ds : List D}
    (hev : evs C (esOf es') ρ M = some (ds, M')) : PA X es (tJs X.K H0 ρ M ds M') ∧ ds.length = es.length := by
  cases es with
  | nil =>
    simp [compL] at h; subst h
    simp [esOf, evs] at hev
    obtain ⟨rfl, rfl⟩ := hev
    exact ⟨js_nil, rfl⟩
  | cons e es =>
    unfold compL at h
    split at h
    · rename_i x r h1 h2
      cases h
      simp only [esOf, evs] at hev
      obtain ⟨d, M1, e1, hev⟩ := bd_some hev
      obtain ⟨ds1, M2, e2, hev⟩ := bdL_some hev
      cases hev
      obtain ⟨hs1, hs2⟩ := any_cons hs
      obtain ⟨p1, p2⟩ := S.l O h2 hs2 e2
      exact ⟨js_cons hs1 (S.e O h1 e1) p1, by simp [p2]⟩
    · cases h

theorem s_ba (S : Sound T C k H0 n) {X : Cx} {F : Frm} {es : List Expr} {es' : List E} {e' : E} {pos : Pos} (O : CtxOk X F T C k) (h : compL T (n + 1) F es = some es') (ha : andOf es' = some e') {ρ : Env} {M M' : Mst} {d : D}
    (hev : ev C e' ρ M = some (d, M')) : PE X (.BoolOp .And es pos) (tJ X.K H0 ρ M d M') := by
  cases es with
  | nil => simp [compL] at h; subst h; simp [andOf] at ha
  | cons e es =>
    unfold compL at h
    split at h
    · rename_i x r h1 h2
      cases h
      cases es with
      | nil =>
        have hr : r = [] := by
          cases n with
          | zero => simp [compL] at h2
          | succ m => simp [compL] at h2; exact h2
        subst hr
        simp [andOf] at ha; subst ha
        exact pe_one (S.e O h1 hev)
      | cons e2 es =>
        obtain ⟨x2, r2, hr⟩ : ∃ x2 r2, r = x2 :: r2 := by
          cases n with
          | zero => simp [compL] at h2
          | succ m =>
            unfold compL at h2
            split at h2
            · cases h2; exact ⟨_, _, rfl⟩
            · cases h2
        subst hr
        simp only [andOf, Option.map_eq_some_iff] at ha
        obtain ⟨y, hy, rfl⟩ := ha
        simp only [ev] at hev
        obtain ⟨d1, M1, e1, hev⟩ := bd_some hev
        split at hev
        · exact j_and1 (S.e O h1 e1) (S.ba O h2 hy hev)
        · cases hev
          exact j_and0 (S.e O h1 e1) pe_none
        · cases hev
    · cases h
theorem s_bo (S : Sound T C k H0 n) {X : Cx} {F : Frm} {es : List Expr} {es' : List E} {e' : E} {pos : Pos} (O : CtxOk X F T C k) (h : compL T (n + 1) F es = some es') (ha : orOf es' = some e') {ρ : Env} {M M' : Mst} {d : D}
    (hev : ev C e' ρ M = some (d, M')) : PE X (.BoolOp .Or es pos) (tJ X.K H0 ρ M d M') := by
  cases es with
  | nil => simp [compL] at h; subst h; simp [orOf] at ha
  | cons e es =>
    unfold compL at h
    split at h
    · rename_i x r h1 h2
      cases h
      cases es with
      | nil =>
        have hr : r = [] := by
          cases n with
          | zero => simp [compL] at h2
          | succ m => simp [compL] at h2; exact h2
        subst hr
        simp [orOf] at ha; subst ha
        exact pe_one (S.e O h1 hev)
      | cons e2 es =>
        obtain ⟨x2, r2, hr⟩ : ∃ x2 r2, r = x2 :: r2 := by
          cases n with
          | zero => simp [compL] at h2
          | succ m =>
            unfold compL at h2
            split at h2
            · cases h2; exact ⟨_, _, rfl⟩
            · cases h2
        subst hr
        simp only [orOf, Option.map_eq_some_iff] at ha
        obtain ⟨y, hy, rfl⟩ := ha
        simp only [ev] at hev
        obtain ⟨d1, M1, e1, hev⟩ := bd_some hev
        split at hev
        · cases hev
          exact j_or1 (S.e O h1 e1) pe_none
        · exact j_or0 (S.e O h1 e1) (S.bo O h2 hy hev)
        · cases hev
    · cases h
theorem s_ta (S : Sound T C k H0 n) {X : Cx} {F : Frm} {es : List Expr} {es' : List E} {e' : E} {pos : Pos} (O : CtxOk X F T C k) (h : compTL T (n + 1) F es = some es') (ha : andOf es' = some e') {ρ : Env} {M M' : Mst} {b : Bool}
    (hev : ev C e' ρ M = some (.bl b, M')) : PW X (.BoolOp .And es pos) (tJT X.K H0 ρ M b M') := by
  cases es with
  | nil => simp [compTL] at h; subst h; simp [andOf] at ha
  | cons e es =>
    unfold compTL at h
    split at h
    · rename_i x r h1 h2
      cases h
      cases es with
      | nil =>
        have hr : r = [] := by
          cases n with
          | zero => simp [compTL] at h2
          | succ m => simp [compTL] at h2; exact h2
        subst hr
        simp [andOf] at ha; subst ha
        exact pw_and1 (S.t O h1 hev)
      | cons e2 es =>
        obtain ⟨x2, r2, hr⟩ : ∃ x2 r2, r = x2 :: r2 := by
          cases n with
          | zero => simp [compTL] at h2
          | succ m =>
            unfold compTL at h2
            split at h2
            · cases h2; exact ⟨_, _, rfl⟩
            · cases h2
        subst hr
        simp only [andOf, Option.map_eq_some_iff] at ha
        obtain ⟨y, hy, rfl⟩ := ha
        simp only [ev] at hev
        obtain ⟨d1, M1, e1, hev⟩ := bd_some hev
        split at hev
        · exact jt_and1 (S.t O h1 e1) (S.ta O h2 hy hev)
        · cases hev
          exact jt_and0 (S.t O h1 e1) pw_none
        · cases hev
    · cases h
theorem s_to (S : Sound T C k H0 n) {X : Cx} {F : Frm} {es : List Expr} {es' : List E} {e' : E} {pos : Pos} (O : CtxOk X F T C k) (h : compTL T (n + 1) F es = some es') (ha : orOf es' = some e') {ρ : Env} {M M' : Mst} {b : Bool}
    (hev : ev C e' ρ M = some (.bl b, M')) : PW X (.BoolOp .Or es pos) (tJT X.K H0 ρ M b M') := by
  cases es with
  | nil => simp [compTL] at h; subst h; simp [orOf] at ha
  | cons e es =>
    unfold compTL at h
    split at h
    · rename_i x r h1 h2
      cases h
      cases es with
      | nil =>
        have hr : r = [] := by
          cases n with
          | zero => simp [compTL] at h2
          | succ m => simp [compTL] at h2; exact h2
        subst hr
        simp [orOf] at ha; subst ha
        exact pw_or1 (S.t O h1 hev)
      | cons e2 es =>
        obtain ⟨x2, r2, hr⟩ : ∃ x2 r2, r = x2 :: r2 := by
          cases n with
          | zero => simp [compTL] at h2
          | succ m =>
            unfold compTL at h2
            split at h2
            · cases h2; exact ⟨_, _, rfl⟩
            · cases h2
        subst hr
        simp only [orOf, Option.map_eq_some_iff] at ha
        obtain ⟨y, hy, rfl⟩ := ha
        simp only [ev] at hev
        obtain ⟨d1, M1, e1, hev⟩ := bd_some hev
        split at hev
        · cases hev
          exact jt_or1 (S.t O h1 e1) pw_none
        · exact jt_or0 (S.t O h1 e1) (S.to O h2 hy hev)
        · cases hev
    · cases h
theorem s_c (S : Sound T C k H0 n) {X : Cx} {F : Frm} {es : List Expr} {es' : List E} (O : CtxOk X F T C k) (h : compTL T (n + 1) F es = some es') (hl : es'.length ≤ 1) {ρ : Env} {M M' : Mst} {b : Bool}
    (hev : evC C (esOf es') ρ M = some (b, M')) : PTs X es (tJT X.K H0 ρ M b M') := by
  cases es with
  | nil =>
    simp [compTL] at h; subst h
    simp [esOf, evC] at hev
    obtain ⟨rfl, rfl⟩ := hev
    exact PTs.weak pts_nil fun σ H Q ⟨G, R, q⟩ => q H G R.refl
  | cons e es =>
    unfold compTL at h
    split at h
    · rename_i x r h1 h2
      cases h
      have hr : r = [] := by cases r with | nil => rfl | cons _ _ => simp at hl
      subst hr
      have he : es = [] := by
        cases es with
        | nil => rfl
        | cons e2 es =>
          cases n with
          | zero => simp [compTL] at h2
          | succ m =>
            unfold compTL at h2
            split at h2 <;> cases h2
      subst he
      simp only [esOf, evC] at hev
      obtain ⟨d, M1, e1, hev⟩ := bd_some hev
      split at hev
      · cases hev
        exact pts_one (S.t O h1 e1)
      · cases hev
    · cases h
theorem s_t (S : Sound T C k H0 n) {X : Cx} {F : Frm} {e : Expr} {e' : E} (O : CtxOk X F T C k) (h : compT T (n + 1) F e = some e') {ρ : Env} {M M' : Mst} {b : Bool}
    (hev : ev C e' ρ M = some (.bl b, M')) (cmpT : ∀ {a : Expr} {ops : List CmpOp} {cs : List Expr} {pos : Pos}, e = .Compare a ops cs pos → PT X (.Compare a ops cs pos) (tJT X.K H0 ρ M b M')) : PT X e (tJT X.K H0 ρ M b M') := by
  have plain : ∀ {e : Expr}, plainT e = true → (compE T n F e).map .tru = some e' → PT X e (tJT X.K H0 ρ M b M') := fun {e} hp h => by
    simp only [Option.map_eq_some_iff] at h
    obtain ⟨x, h1, rfl⟩ := h
    simp only [ev] at hev
    obtain ⟨d, M1, e1, hev⟩ := bd_some hev
    obtain ⟨b', h2, h3, rfl⟩ := retB_some hev
    cases h3
    exact jt_tru hp (S.e O h1 e1) h2
  unfold compT at h
  split at h
  · simp only [Option.map_eq_some_iff] at h
    obtain ⟨x, h1, rfl⟩ := h
    simp only [ev] at hev
    obtain ⟨d, M1, e1, hev⟩ := bd_some hev
    split at hev
    · cases hev
      exact jt_not (S.t O h1 e1)
    · cases hev
  · simp only [Option.bind_eq_some_iff] at h
    obtain ⟨es, h1, h2⟩ := h
    exact (S.ta O h1 h2 hev).pt
  · simp only [Option.bind_eq_some_iff] at h
    obtain ⟨es, h1, h2⟩ := h
    exact (S.to O h1 h2 hev).pt
  · cases h
  · exact cmpT rfl
  · rename_i h1 h2 h3 h4 h5
    refine plain ?_ h
    cases e with
    | UnaryOp op a p => cases op <;> first | rfl | exact absurd rfl (h1 _ _)
    | BoolOp op a p => cases op <;> first | exact absurd rfl (h2 _ _) | exact absurd rfl (h3 _ _)
    | IfExp a b c p => exact absurd rfl (h4 _ _ _ _)
    | Compare a b c p => exact absurd rfl (h5 _ _ _ _)
    | _ => rfl
end
end EV

set_option Elab.async false
set_option linter.all false
set_option maxRecDepth 100000
set_option maxHeartbeats 8000000
namespace EV
open PySem L2
section
variable {T : Tab} {C : Orc} {k : Nat} {H0 : Hp} {n : Nat}

theorem jt_chain {X : Cx} {F : Frm} {ρ : Env} {M M1 M2 M' : Mst} {a b c : Expr} {x y z : D} {op op' : CmpOp} {o o' : Cop} {r' : Bool} {pos : Pos} (O : CtxOk X F T C k) (hc : cmpB op' c = true) (hop : copOf op = some o) (h : cmpD o x y = some true) (hop' : copOf op' = some o') (h' : cmpD o' y z = some r')
    (ha : PE X a (tJ X.K H0 ρ M x M1)) (hb : PE X b (tJ X.K H0 ρ M1 y M2)) (hcc : PE X c (tJ X.K H0 ρ M2 z M')) : PT X (.Compare a [op, op'] [b, c] pos) (tJT X.K H0 ρ M r' M') :=
  PT.weak (pt_chain (op_cmpD O hop h) (op_cmpD O hop' h') ha hb hcc (lastMark_of hc)) fun σ H Q ⟨G, R, q⟩ => ⟨G, R, fun v H1 G1 s1 r1 => ⟨G1, R.step s1, fun u H2 G2 s2 r2 =>
    ⟨G2, s2.low, r1.mono s2.le, r2, true, rfl, iteT ⟨G2, (R.step s1).step s2, fun w H3 G3 s3 r3 => ⟨G3, s3.low, r2.mono s3.le, r3, r', rfl, q H3 G3 ((s1.trans s2).trans s3)⟩⟩⟩⟩⟩
theorem jt_chainF {X : Cx} {F : Frm} {ρ : Env} {M M1 M2 : Mst} {a b c : Expr} {x y : D} {op op' : CmpOp} {o : Cop} {pos : Pos} (O : CtxOk X F T C k) (hc : cmpB op' c = true) (hop : copOf op = some o) (h : cmpD o x y = some false)
    (ha : PE X a (tJ X.K H0 ρ M x M1)) (hb : PE X b (tJ X.K H0 ρ M1 y M2)) : PT X (.Compare a [op, op'] [b, c] pos) (tJT X.K H0 ρ M false M2) := by
  obtain ⟨r2, ho'⟩ := op_none (X := X) (f := compareOp op')
  exact PT.weak (pt_chain (op_cmpD O hop h) ho' ha hb pe_none (lastMark_of hc)) fun σ H Q ⟨G, R, q⟩ => ⟨G, R, fun v H1 G1 s1 r1 => ⟨G1, R.step s1, fun u H2 G2 s2 r2 =>
    ⟨G2, s2.low, r1.mono s2.le, r2, false, rfl, iteF ⟨false, rfl, q H2 G2 (s1.trans s2)⟩⟩⟩⟩
theorem jt_dne {X : Cx} {F : Frm} {ρ : Env} {M : Mst} {a : Expr} {m : Draw} {p1 p2 p3 pos : Pos} {j : Nat} (O : CtxOk X F T C k) (ha : PE X a (tJ X.K H0 ρ M .draw (some m))) :
    PT X (.Compare (.Subscript a (.Constant (.str "large") j p1) p2) [.NotEq] [.List [] p3] pos) (tJT X.K H0 ρ M (!m.large.isEmpty) (some m)) := by
  refine PT.weak (pt_cmpR (op_neD O.units) (pe_dget O.units1 ha pe_str (fun _ _ => rfl)) (pe_lst pa_nil) (nomark _)) fun σ H Q ⟨G, R, q⟩ => ⟨G, R, fun v H1 G1 s1 r1 => ?_⟩
  obtain ⟨da, la, ca, e, ev⟩ := r1.of_draw
  obtain ⟨da', la', ca', e', h1, h2, h3, h4, h5⟩ := id s1.mst
  rw [e] at e'; cases e'
  refine ⟨da, _, ev, .inl ⟨_, (Sum.inr "large" : Key), .inl h1, rfl, (val_large la ca m).symm⟩, by rw [sizeLine_eq]; decide, fun p hp => ?_⟩
  have e1 : SqL X.K (upd H1 p (.lst [])) la (m.large.map V.int) := SqL.of (by rw [upd_ne (ne_of_none h2 hp)]; exact h2)
  refine ⟨_, _, .lst e1 (dpAll_ints _), .lst (SqL.of upd_same) .nil, shaped_ints _, by decide, _, ?_, q _ G1 (s1.trans (lst_new (xs := []) s1.low s1.mst hp RpL.nil).1)⟩
  cases m.large with
  | nil => rfl
  | cons _ _ => simp [PyData.eqv, PyData.eqvAll]

theorem s_ct (S : Sound T C k H0 n) {X : Cx} {F : Frm} {a : Expr} {ops : List CmpOp} {cs : List Expr} {pos : Pos} {e' : E} (O : CtxOk X F T C k) (h : compE T (n + 1) F (.Compare a ops cs pos) = some e') {ρ : Env} {M M' : Mst} {b : Bool}
    (hev : ev C e' ρ M = some (.bl b, M')) : PT X (.Compare a ops cs pos) (tJT X.K H0 ρ M b M') := by
  unfold compE at h
  split at h <;> try contradiction
  · rename_i heq
    cases heq
    split at h
    · rename_i hs
      simp only [Option.map_eq_some_iff] at h
      obtain ⟨x, h1, rfl⟩ := h
      simp only [ev] at hev
      obtain ⟨d, M1, e1, hev⟩ := bd_some hev
      split at hev
      · cases hev
        subst hs
        exact jt_dne O (S.e O h1 e1)
      · cases hev
    · cases h
  · rename_i heq
    cases heq
    split at h
    · rename_i hc
      split at h
      · rename_i o x y h1 h2 h3
        cases h
        simp only [ev] at hev
        obtain ⟨d, M1, e1, hev⟩ := bd_some hev
        obtain ⟨d2, M2, e2, hev⟩ := bd_some hev
        obtain ⟨r, h4, h5, rfl⟩ := retB_some hev
        cases h5
        exact jt_cmp O hc h1 h4 (S.e O h2 e1) (S.e O h3 e2)
      · cases h
    · cases h
  · rename_i heq
    cases heq
    split at h
    · rename_i hc
      simp only [Bool.and_eq_true] at hc
      split at h
      · rename_i o p x y z h1 h2 h3 h4 h5
        cases h
        simp only [ev] at hev
        obtain ⟨d, M1, e1, hev⟩ := bd_some hev
        obtain ⟨d2, M2, e2, hev⟩ := bd_some hev
        split at hev
        · rename_i hx
          obtain ⟨d3, M3, e3, hev⟩ := bd_some hev
          obtain ⟨r, h6, h7, rfl⟩ := retB_some hev
          cases h7
          exact jt_chain O hc.2 h1 hx h2 h6 (S.e O h3 e1) (S.e O h4 e2) (S.e O h5 e3)
        · rename_i hx
          cases hev
          exact jt_chainF O hc.2 h1 hx (S.e O h3 e1) (S.e O h4 e2)
        · cases hev
      · cases h
    · cases h

theorem compL_inv {F : Frm} {n : Nat} {es : List Expr} {x : E} {r : List E} (h : compL T n F es = some (x :: r)) : ∃ m e es1, n = m + 1 ∧ es = e :: es1 ∧ compE T m F e = some x ∧ compL T m F es1 = some r := by
  cases n with
  | zero => simp [compL] at h
  | succ m =>
    cases es with
    | nil => simp [compL] at h
    | cons e es1 =>
      unfold compL at h
      split at h
      · rename_i h1 h2; cases h; exact ⟨m, e, es1, rfl, rfl, h1, h2⟩
      · cases h
theorem compL_nilInv {F : Frm} {n : Nat} {es : List Expr} (h : compL T n F es = some []) : es = [] := by
  cases n with
  | zero => simp [compL] at h
  | succ m =>
    cases es with
    | nil => rfl
    | cons e es1 =>
      unfold compL at h
      split at h <;> cases h

theorem s_i (S : ∀ m, m ≤ n → Sound T C k H0 m) {X : Cx} {F : Frm} {e tg : Expr} {i' : Itr} (O : CtxOk X F T C k) (h : compI T (n + 1) F e = some i') (ht : itTgt i' tg = true) {ρ : Env} {M M' : Mst} {ds : List D}
    (hev : evI C i' ρ M = some (ds, M')) : PI X tg e (tI X.K H0 ρ M ds M') := by
  have seq : ∀ {e : Expr}, (compE T n F e).map .seq = some i' → PI X tg e (tI X.K H0 ρ M ds M') := fun {e} h => by
    simp only [Option.map_eq_some_iff] at h
    obtain ⟨x, h1, rfl⟩ := h
    simp only [evI] at hev
    obtain ⟨d, M1, e1, hev⟩ := bd_some hev
    split at hev
    · cases hev; exact ji_list ((S n (Nat.le_refl _)).e O h1 e1)
    · cases hev; exact ji_tup ((S n (Nat.le_refl _)).e O h1 e1)
    · cases hev
  unfold compI at h
  split at h
  · rename_i f p args pos
    split at h
    · rename_i hf
      subst hf
      split at h
      · rename_i hc
        simp only [Bool.and_eq_true, Bool.not_eq_true'] at hc
        split at h
        · rename_i x hx
          cases h
          obtain ⟨m, a, r, rfl, rfl, h1, h2⟩ := compL_inv hx
          have := compL_nilInv h2
          subst this
          have hs : starB a = false := by simpa using hc.2
          simp only [evI] at hev
          obtain ⟨d, M1, e1, hev⟩ := bd_some hev
          split at hev
          · split at hev
            · rename_i hn
              cases hev
              exact ji_rng1 O hc.1 hs hn ((S m (by omega)).e O h1 e1)
            · cases hev
          · cases hev
        · rename_i x y hx
          cases h
          obtain ⟨m, a, r, rfl, rfl, h1, h2⟩ := compL_inv hx
          obtain ⟨m2, b, r2, rfl, rfl, h3, h4⟩ := compL_inv h2
          have := compL_nilInv h4
          subst this
          have hs : starB a = false ∧ starB b = false := by simpa using hc.2
          simp only [evI] at hev
          obtain ⟨d, M1, e1, hev⟩ := bd_some hev
          obtain ⟨d2, M2, e2, hev⟩ := bd_some hev
          split at hev
          · split at hev
            · rename_i hn
              cases hev
              exact ji_rng2 O hc.1 hs.1 hs.2 hn.1 hn.2 ((S _ (by omega)).e O h1 e1) ((S _ (by omega)).e O h3 e2)
            · cases hev
          · cases hev
        · rename_i x y hx
          cases h
          obtain ⟨m, a, r, rfl, rfl, h1, h2⟩ := compL_inv hx
          obtain ⟨m2, b, r2, rfl, rfl, h3, h4⟩ := compL_inv h2
          obtain ⟨m3, c, r3, rfl, rfl, h5, h6⟩ := compL_inv h4
          have := compL_nilInv h6
          subst this
          have hs : starB a = false ∧ starB b = false ∧ starB c = false := by simpa using hc.2
          simp only [evI] at hev
          obtain ⟨d, M1, e1, hev⟩ := bd_some hev
          obtain ⟨d2, M2, e2, hev⟩ := bd_some hev
          split at hev
          · split at hev
            · rename_i hn
              cases hev
              exact ji_rngD O hc.1 hs.1 hs.2.1 hs.2.2 hn.1 hn.2 ((S _ (by omega)).e O h1 e1) ((S _ (by omega)).e O h3 e2) ((S _ (by omega)).e O h5 (by simp only [ev, bd]))
            · cases hev
          · cases hev
        · cases h
      · cases h
    split at h
    · rename_i hf
      subst hf
      split at h
      · rename_i hc
        simp only [Bool.and_eq_true, Bool.not_eq_true'] at hc
        split at h
        · rename_i x y hx
          cases h
          obtain ⟨m, a, r, rfl, rfl, h1, h2⟩ := compL_inv hx
          obtain ⟨m2, b, r2, rfl, rfl, h3, h4⟩ := compL_inv h2
          have := compL_nilInv h4
          subst this
          have hs : starB a = false ∧ starB b = false := by simpa using hc.2
          simp only [evI] at hev
          obtain ⟨d, M1, e1, hev⟩ := bd_some hev
          obtain ⟨d2, M2, e2, hev⟩ := bd_some hev
          cases tg <;> simp only [itTgt, Bool.false_eq_true] at ht
          split at hev
          · split at hev
            · rename_i hn
              cases hev
              exact ji_zip O hc.1 hs.1 hs.2 ((S _ (by omega)).e O h1 e1) ((S _ (by omega)).e O h3 e2) hn (.inl ⟨rfl, rfl⟩)
            · cases hev
          · split at hev
            · rename_i hn
              cases hev
              exact ji_zip O hc.1 hs.1 hs.2 ((S _ (by omega)).e O h1 e1) ((S _ (by omega)).e O h3 e2) hn (.inr ⟨rfl, rfl⟩)
            · cases hev
          · cases hev
        · cases h
      · cases h
    split at h
    · rename_i hf
      subst hf
      split at h
      · rename_i hc
        simp only [Bool.and_eq_true, Bool.not_eq_true'] at hc
        split at h
        · rename_i x hx
          cases h
          obtain ⟨m, a, r, rfl, rfl, h1, h2⟩ := compL_inv hx
          have := compL_nilInv h2
          subst this
          have hs : starB a = false := by simpa using hc.2
          simp only [evI] at hev
          obtain ⟨d, M1, e1, hev⟩ := bd_some hev
          cases tg <;> simp only [itTgt, Bool.false_eq_true] at ht
          split at hev
          · split at hev
            · rename_i hn
              cases hev
              exact ji_enum O hc.1 hs hn ((S _ (by omega)).e O h1 e1)
            · cases hev
          · cases hev
        · cases h
      · cases h
    · exact seq h
  · exact seq h

theorem dk_of {kk : DK} {m : Draw} : (match kk with | .rest => D.int m.rest | .turn => D.int m.turn | .cells => D.lst (m.cells.map .int)) = dkD m kk := by cases kk <;> rfl

theorem lst_ok (S : Sound T C k H0 n) {X : Cx} {F : Frm} {es : List Expr} {pos : Pos} {e' : E} (O : CtxOk X F T C k) (h : compE T (n + 1) F (.List es pos) = some e') {ρ : Env} {M M' : Mst} {d : D}
    (hev : ev C e' ρ M = some (d, M')) : ∃ xs, d = .lst xs ∧ PE X (.List es pos) (tJF X.K H0 ρ M xs M') := by
  unfold compE at h
  simp only at h
  split at h
  · cases h
  · rename_i hs
    simp only [Option.map_eq_some_iff] at h
    obtain ⟨es', h1, rfl⟩ := h
    simp only [ev] at hev
    obtain ⟨ds, M1, e1, hev⟩ := bdL_some hev
    split at hev
    · rename_i hl
      cases hev
      exact ⟨ds, rfl, jf_lst hl (S.l O h1 (by simpa using hs) e1).1⟩
    · cases hev
theorem s_call (S : Sound T C k H0 n) {X : Cx} {F : Frm} {f : Str} {p pos : Pos} {args : List Expr} {e' : E} (O : CtxOk X F T C k) (h : compE T (n + 1) F (.Call (.Name f p) args [] pos) = some e') {ρ : Env} {M M' : Mst} {d : D}
    (hev : ev C e' ρ M = some (d, M')) : PE X (.Call (.Name f p) args [] pos) (tJ X.K H0 ρ M d M') := by
  unfold compE at h
  simp only at h
  split at h
  · rename_i hc
    simp only [Bool.and_eq_true, Bool.not_eq_true'] at hc
    split at h
    · rename_i hf
      split at h
      · split at h
        · rename_i ht
          simp only [Bool.and_eq_true] at ht
          split at h
          · rename_i b x h1 h2
            cases h
            simp only [ev, evs] at hev
            obtain ⟨ds, M1, e1, hev⟩ := bdL_some hev
            obtain ⟨d1, M2, e2, e1⟩ := bd_some e1
            simp only [bdL, Option.some.injEq, Prod.mk.injEq] at e1
            obtain ⟨r1, r2⟩ := e1
            subst r1 r2
            obtain ⟨h4, rfl⟩ := ret1_some hev
            subst hf
            have hst : starB _ = false := (any_cons hc.2).1
            have hb : ∃ r, isD b d1 = some r ∧ d = .bl r := by
              unfold isOf at h1
              split at h1
              · cases h1; simp only [bltD, Option.map_eq_some_iff] at h4; obtain ⟨r, q1, q2⟩ := h4; exact ⟨r, q1, q2.symm⟩
              split at h1
              · cases h1; simp only [bltD, Option.map_eq_some_iff] at h4; obtain ⟨r, q1, q2⟩ := h4; exact ⟨r, q1, q2.symm⟩
              split at h1
              · cases h1; simp only [bltD, Option.map_eq_some_iff] at h4; obtain ⟨r, q1, q2⟩ := h4; exact ⟨r, q1, q2.symm⟩
              split at h1
              · cases h1; simp only [bltD, Option.map_eq_some_iff] at h4; obtain ⟨r, q1, q2⟩ := h4; exact ⟨r, q1, q2.symm⟩
              · cases h1
            obtain ⟨r, hr, rfl⟩ := hb
            exact j_isi O hc.1.1 hc.1.2 ht.1 ht.2 h1 hst (S.e O h2 e2) hr
          · cases h
        · cases h
      · cases h
    · split at h
      · rename_i i hi
        simp only [Option.map_eq_some_iff] at h
        obtain ⟨es, h1, rfl⟩ := h
        simp only [ev] at hev
        obtain ⟨ds, M1, e1, hev2⟩ := bdL_some hev
        obtain ⟨p1, p2⟩ := S.l O h1 hc.2 e1
        cases args with
        | nil =>
          have : ds = [] := by simpa using p2
          subst this
          have hM : M1 = M := by
            have h2 : es = [] := by
              cases n with
              | zero => simp [compL] at h1
              | succ m => simp [compL] at h1; exact h1
            subst h2
            simp [esOf, evs] at e1
            exact e1.symm
          subst hM
          exact j_call0 O hc.1.1 hc.1.2 hi hev2
        | cons a as => exact j_call O hc.1.1 hc.1.2 hi hc.2 p1 hev2
      · split at h
        · rename_i zs hz
          simp only [Option.map_eq_some_iff] at h
          obtain ⟨es, h1, rfl⟩ := h
          simp only [ev] at hev
          obtain ⟨ds, M1, e1, hev⟩ := bdL_some hev
          obtain ⟨h4, rfl⟩ := ret1_some hev
          obtain ⟨rfl, z2, z3, p', a, b, c, q', rfl, rfl⟩ := zipArgs_ok hz
          exact j_zip3 O hc.1.2 z2 z3 (S.l O h1 z3 e1).1 h4
        split at h
        · rename_i b hb
          simp only [Option.map_eq_some_iff] at h
          obtain ⟨es, h1, rfl⟩ := h
          simp only [ev] at hev
          obtain ⟨ds, M1, e1, hev⟩ := bdL_some hev
          obtain ⟨h4, rfl⟩ := ret1_some hev
          obtain ⟨p1, p2⟩ := S.l O h1 hc.2 e1
          cases args with
          | nil => simp [bltOf] at hb
          | cons a as => exact j_blt O hc.1.1 hc.1.2 hb hc.2 p1 h4
        · cases h
  · cases h

theorem s_e (S : Sound T C k H0 n) {X : Cx} {F : Frm} {e : Expr} {e' : E} (O : CtxOk X F T C k) (h : compE T (n + 1) F e = some e') {ρ : Env} {M M' : Mst} {d : D}
    (hev : ev C e' ρ M = some (d, M')) : PE X e (tJ X.K H0 ρ M d M') := by
  have h0 := h
  unfold compE at h
  split at h
  · cases h; simp only [ev] at hev; cases hev; exact j_c pe_int fun _ => Rp.int_
  · cases h; simp only [ev] at hev; cases hev; exact j_c pe_bl fun _ => Rp.bl_
  · cases h; simp only [ev] at hev; cases hev; exact j_c pe_non fun _ => Rp.non_
  · cases h; simp only [ev] at hev; cases hev; exact j_c pe_str fun _ => Rp.str_
  · split at h
    · rename_i hn
      split at h
      · rename_i hv
        simp only [Option.map_eq_some_iff] at h
        obtain ⟨i, hi, rfl⟩ := h
        simp only [ev] at hev
        split at hev
        · rename_i hs
          cases hev
          exact j_var O hn hv hi hs
        · cases hev
      split at h
      · rename_i hg
        simp only [Option.map_eq_some_iff] at h
        obtain ⟨i, hi, rfl⟩ := h
        simp only [ev] at hev
        cases hev
        exact j_const O hn hg hi
      · cases h
    · cases h
  · split at h
    · rename_i o x y h1 h2 h3
      cases h
      simp only [ev] at hev
      obtain ⟨d1, M1, e1, hev⟩ := bd_some hev
      obtain ⟨d2, M2, e2, hev⟩ := bd_some hev
      obtain ⟨h4, rfl⟩ := ret1_some hev
      exact j_bin h1 h4 (S.e O h2 e1) (S.e O h3 e2)
    · cases h
  · simp only [Option.map_eq_some_iff] at h
    obtain ⟨x, h1, rfl⟩ := h
    simp only [ev] at hev
    obtain ⟨d1, M1, e1, hev⟩ := bd_some hev
    split at hev
    · cases hev; exact j_neg (S.e O h1 e1)
    · cases hev
  · simp only [Option.map_eq_some_iff] at h
    obtain ⟨x, h1, rfl⟩ := h
    simp only [ev] at hev
    obtain ⟨d1, M1, e1, hev⟩ := bd_some hev
    split at hev
    · cases hev; exact j_not (S.e O h1 e1)
    · cases hev
  · split at h
    · rename_i hs
      simp only [Option.map_eq_some_iff] at h
      obtain ⟨x, h1, rfl⟩ := h
      simp only [ev] at hev
      obtain ⟨d1, M1, e1, hev⟩ := bd_some hev
      split at hev
      · cases hev; subst hs; exact j_dne (kk := .rest) (s := "") O (S.e O h1 e1)
      · cases hev
    · cases h
  · split at h
    · rename_i hc
      split at h
      · rename_i o x y h1 h2 h3
        cases h
        simp only [ev] at hev
        obtain ⟨d1, M1, e1, hev⟩ := bd_some hev
        obtain ⟨d2, M2, e2, hev⟩ := bd_some hev
        obtain ⟨r, h4, rfl, rfl⟩ := retB_some hev
        exact j_cmp O hc h1 h4 (S.e O h2 e1) (S.e O h3 e2)
      · cases h
    · cases h
  · split at h
    · rename_i hc
      simp only [Bool.and_eq_true] at hc
      split at h
      · rename_i o p x y z h1 h2 h3 h4 h5
        cases h
        simp only [ev] at hev
        obtain ⟨d1, M1, e1, hev⟩ := bd_some hev
        obtain ⟨d2, M2, e2, hev⟩ := bd_some hev
        split at hev
        · rename_i hx
          obtain ⟨d3, M3, e3, hev⟩ := bd_some hev
          obtain ⟨r, h6, rfl, rfl⟩ := retB_some hev
          exact j_chain O hc.2 h1 hx h2 h6 (S.e O h3 e1) (S.e O h4 e2) (S.e O h5 e3)
        · rename_i hx
          cases hev
          exact j_chainF O hc.2 h1 hx h2 (S.e O h3 e1) (S.e O h4 e2) pe_none op_none
        · cases hev
      · cases h
    · cases h
  · split at h
    · cases h
    · simp only [Option.bind_eq_some_iff] at h
      obtain ⟨es, h1, h2⟩ := h
      exact S.ba O h1 h2 hev
  · split at h
    · cases h
    · simp only [Option.bind_eq_some_iff] at h
      obtain ⟨es, h1, h2⟩ := h
      exact S.bo O h1 h2 hev
  · split at h
    · rename_i x y z h1 h2 h3
      cases h
      simp only [ev] at hev
      obtain ⟨d1, M1, e1, hev⟩ := bd_some hev
      split at hev
      · exact j_ite1 (S.t O h1 e1) (S.e O h2 hev) pe_none
      · exact j_ite0 (S.t O h1 e1) pe_none (S.e O h3 hev)
      · cases hev
    · cases h
  · split at h
    · cases h
    · rename_i hs
      simp only [Option.map_eq_some_iff] at h
      obtain ⟨es, h1, rfl⟩ := h
      simp only [ev] at hev
      obtain ⟨ds, M1, e1, hev⟩ := bdL_some hev
      split at hev
      · rename_i hl
        cases hev
        exact j_tup hl (S.l O h1 (by simpa using hs) e1).1
      · cases hev
  · obtain ⟨xs, rfl, p⟩ := lst_ok S O h0 hev
    exact J_of_F p
  · split at h
    · rename_i s hs
      split at h
      · rename_i kk x h1 h2
        cases h
        simp only [ev] at hev
        obtain ⟨d1, M1, e1, hev⟩ := bd_some hev
        split at hev
        · rename_i m
          simp only [Option.some.injEq, Prod.mk.injEq] at hev
          obtain ⟨r1, r2⟩ := hev
          subst r1 r2
          cases kk <;> exact j_dget O hs h1 (S.e O h2 e1)
        · cases hev
      · cases h
    · split at h
      · cases h
      · rename_i hs
        split at h
        · rename_i x y h1 h2
          cases h
          simp only [ev] at hev
          obtain ⟨d1, M1, e1, hev⟩ := bd_some hev
          obtain ⟨d2, M2, e2, hev⟩ := bd_some hev
          obtain ⟨h4, rfl⟩ := ret1_some hev
          exact j_idx O (by simpa using hs) h4 (S.e O h1 e1) (S.e O h2 e2)
        · cases h
  · split at h
    · rename_i hs
      simp only [Option.map_eq_some_iff] at h
      obtain ⟨x, h1, rfl⟩ := h
      simp only [ev] at hev
      obtain ⟨d1, M1, e1, hev⟩ := bd_some hev
      split at hev
      · split at hev
        · rename_i hm
          cases hev
          obtain ⟨hs1, hs2, hs3⟩ := hs
          subst hs1 hs2
          exact j_dpop O hs3 (S.e O h1 e1) hm
        · cases hev
      · cases hev
    · cases h
  · exact s_call S O h0 hev
  · obtain ⟨xs, rfl, p⟩ := comp_ok S O h0 hev
    exact J_of_F p
  · cases h
end
end EV

set_option Elab.async false
set_option linter.all false
set_option maxRecDepth 100000
set_option maxHeartbeats 8000000
namespace EV
open PySem L2
section
variable {T : Tab} {C : Orc} {k : Nat} {H0 : Hp} {n : Nat}
theorem jf_list1 {X : Cx} {F : Frm} {f : Str} {e : Expr} {es : List Expr} {p pos : Pos} {ρ : Env} {M M1 : Mst} {ds xs : List D} {m : Nat} (O : CtxOk X F T C k) (hn : nameOk f = true) (hg : glB F.sc f = true) (hb : bltOf T.gcd f m = some .list1) (hs : (e :: es).any starB = false)
    (h : PA X (e :: es) (tJs X.K H0 ρ M ds M1)) (hd : bltD .list1 ds = some (.lst xs)) : PE X (.Call (.Name f p) (e :: es) [] pos) (tJF X.K H0 ρ M xs M1) := by
  have hf : f = "list" := by
    unfold bltOf at hb
    repeat' (split at hb <;> try (cases hb; done))
    rename_i hx
    exact hx.1
  subst hf
  obtain ⟨h1, _, h3⟩ := nameOk_ok hn
  obtain ⟨hs1, hs2⟩ := any_cons hs
  refine PE.weak (pe_callTy call_list_of (glB_ok O.sc hg) (O.tab.bl _ (by decide)) (by decide +kernel) h h3 h1 (star_cons hs1) (star_plain hs2)) fun σ H Q ⟨G, R, q⟩ => ⟨G, R, fun vs H1 G1 s1 r1 => ?_⟩
  have key : ∀ us, RpL X.K G1 xs us → ∀ p, H1 p = none → Q (.ref p) (upd H1 p (.lst us)) := fun us r2 p hp => by
    obtain ⟨st, f2, d2⟩ := lst_new s1.low s1.mst hp r2
    have hH : H p = none := by
      cases e : H p with
      | none => rfl
      | some u => exact absurd hp (s1.kp p (by rw [e]; exact fun z => by cases z))
    exact q p us _ G1 (s1.trans st) hH upd_same f2 d2 r2
  unfold bltD at hd
  split at hd <;> try contradiction
  · rename_i heq _
    cases hd
    obtain ⟨v, e1, r2⟩ := r1.one
    obtain ⟨a, us, e2, s2, r3⟩ := r2.of_lst
    exact ⟨a, us, by rw [e1, e2], .inl (sqL_mono s1.low s2), key us r3⟩
  · cases hd
    obtain ⟨v, e1, r2⟩ := r1.one
    obtain ⟨a, us, e2, s2, r3⟩ := r2.of_tup
    exact ⟨a, us, by rw [e1, e2], .inr (sqT_mono s1.low s2), key us r3⟩

theorem list1_case {X : Cx} {F : Frm} {f : Str} {es : List Expr} {p pos : Pos} {ρ : Env} {M M1 : Mst} {ds xs : List D} (O : CtxOk X F T C k) (hc : (nameOk f = true ∧ glB F.sc f = true) ∧ es.any starB = false) (hb : bltOf T.gcd f es.length = some .list1)
    (h : PA X es (tJs X.K H0 ρ M ds M1)) (hd : bltD .list1 ds = some (.lst xs)) : PE X (.Call (.Name f p) es [] pos) (tJF X.K H0 ρ M xs M1) := by
  cases es with
  | nil => simp [bltOf] at hb
  | cons a as => exact jf_list1 O hc.1.1 hc.1.2 hb hc.2 h hd

theorem andOf_fresh {es : List E} {e' : E} (h : andOf es = some e') (hl : 2 ≤ es.length) : freshE e' = false := by
  cases es with
  | nil => simp [andOf] at h
  | cons a es =>
    cases es with
    | nil => simp at hl
    | cons b es =>
      simp only [andOf, Option.map_eq_some_iff] at h
      obtain ⟨y, _, rfl⟩ := h
      rfl
theorem orOf_fresh {es : List E} {e' : E} (h : orOf es = some e') (hl : 2 ≤ es.length) : freshE e' = false := by
  cases es with
  | nil => simp [orOf] at h
  | cons a es =>
    cases es with
    | nil => simp at hl
    | cons b es =>
      simp only [orOf, Option.map_eq_some_iff] at h
      obtain ⟨y, _, rfl⟩ := h
      rfl
theorem compL_len {F : Frm} : ∀ {n : Nat} {es : List Expr} {es' : List E}, compL T n F es = some es' → es'.length = es.length
  | 0, es, es', h => by simp [compL] at h
  | n + 1, [], es', h => by simp [compL] at h; subst h; rfl
  | n + 1, e :: es, es', h => by
    unfold compL at h
    split at h
    · rename_i h2; cases h; simp [compL_len h2]
    · cases h

theorem s_f (S : Sound T C k H0 n) {X : Cx} {F : Frm} {e : Expr} {e' : E} (O : CtxOk X F T C k) (h : compE T (n + 1) F e = some e') (hf : freshE e' = true) {ρ : Env} {M M' : Mst} {xs : List D}
    (hev : ev C e' ρ M = some (.lst xs, M')) : PE X e (tJF X.K H0 ρ M xs M') := by
  have h0 := h
  unfold compE at h
  split at h
  · cases h; cases hf
  · cases h; cases hf
  · cases h; cases hf
  · cases h; cases hf
  · split at h
    · split at h
      · simp only [Option.map_eq_some_iff] at h
        obtain ⟨i, hi, rfl⟩ := h
        cases hf
      split at h
      · simp only [Option.map_eq_some_iff] at h
        obtain ⟨i, hi, rfl⟩ := h
        cases hf
      · cases h
    · cases h
  · split at h
    · cases h; cases hf
    · cases h
  · simp only [Option.map_eq_some_iff] at h
    obtain ⟨x, h1, rfl⟩ := h
    cases hf
  · simp only [Option.map_eq_some_iff] at h
    obtain ⟨x, h1, rfl⟩ := h
    cases hf
  · split at h
    · simp only [Option.map_eq_some_iff] at h
      obtain ⟨x, h1, rfl⟩ := h
      cases hf
    · cases h
  · split at h
    · split at h
      · cases h; cases hf
      · cases h
    · cases h
  · split at h
    · split at h
      · cases h; cases hf
      · cases h
    · cases h
  · split at h
    · cases h
    · rename_i hl
      simp only [Option.bind_eq_some_iff] at h
      obtain ⟨es, h1, h2⟩ := h
      rw [andOf_fresh h2 (by rw [compL_len h1]; omega)] at hf; cases hf
  · split at h
    · cases h
    · rename_i hl
      simp only [Option.bind_eq_some_iff] at h
      obtain ⟨es, h1, h2⟩ := h
      rw [orOf_fresh h2 (by rw [compL_len h1]; omega)] at hf; cases hf
  · split at h
    · cases h; cases hf
    · cases h
  · split at h
    · cases h
    · simp only [Option.map_eq_some_iff] at h
      obtain ⟨x, h1, rfl⟩ := h
      cases hf
  · obtain ⟨ys, e1, p⟩ := lst_ok S O h0 hev
    cases e1
    exact p
  · split at h
    · split at h
      · cases h; cases hf
      · cases h
    · split at h
      · cases h
      · split at h
        · cases h; cases hf
        · cases h
  · split at h
    · simp only [Option.map_eq_some_iff] at h
      obtain ⟨x, h1, rfl⟩ := h
      cases hf
    · cases h
  · split at h
    · rename_i hc
      simp only [Bool.and_eq_true, Bool.not_eq_true'] at hc
      split at h
      · split at h
        · split at h
          · split at h
            · rename_i b x h1 h2
              cases h
              have hb : b = .isInt ∨ b = .isBool ∨ b = .isTuple ∨ b = .isList := by
                unfold isOf at h1
                split at h1
                · cases h1; exact .inl rfl
                split at h1
                · cases h1; exact .inr (.inl rfl)
                split at h1
                · cases h1; exact .inr (.inr (.inl rfl))
                split at h1
                · cases h1; exact .inr (.inr (.inr rfl))
                · cases h1
              rcases hb with rfl | rfl | rfl | rfl <;> cases hf
            · cases h
          · cases h
        · cases h
      · split at h
        · simp only [Option.map_eq_some_iff] at h
          obtain ⟨x, h1, rfl⟩ := h
          cases hf
        · split at h
          · simp only [Option.map_eq_some_iff] at h
            obtain ⟨x, h1, rfl⟩ := h
            cases hf
          split at h
          · rename_i b hb
            simp only [Option.map_eq_some_iff] at h
            obtain ⟨es, h1, rfl⟩ := h
            cases b <;> try (cases hf; done)
            simp only [ev] at hev
            obtain ⟨ds, M1, e1, hev2⟩ := bdL_some hev
            obtain ⟨h4, rfl⟩ := ret1_some hev2
            obtain ⟨p1, p2⟩ := S.l O h1 hc.2 e1
            exact list1_case O hc hb p1 h4
          · cases h
    · cases h
  · obtain ⟨ys, e1, p⟩ := comp_ok S O h0 hev
    cases e1
    exact p
  · cases h

theorem sound_all : ∀ n, Sound T C k H0 n := by
  have key : ∀ n, ∀ m, m ≤ n → Sound T C k H0 m := by
    intro n
    induction n with
    | zero => intro m hm; rw [Nat.le_zero.mp hm]; exact sound_zero
    | succ n ih =>
      intro m hm
      by_cases h : m ≤ n
      · exact ih m h
      · have e : m = n + 1 := by omega
        subst e
        have S := ih n (Nat.le_refl _)
        exact {
          e := fun {X F e e'} O h {ρ M d M'} hv => s_e S O h hv
          f := fun {X F e e'} O h hf {ρ M xs M'} hv => s_f S O h hf hv
          l := fun {X F es es'} O h hs {ρ M ds M'} hv => s_l S O h hs hv
          ba := fun {X F es es' e' pos} O h ha {ρ M d M'} hv => s_ba S O h ha hv
          bo := fun {X F es es' e' pos} O h ha {ρ M d M'} hv => s_bo S O h ha hv
          t := fun {X F e e'} O h {ρ M b M'} hv => s_t S O h hv (fun he => by
            subst he
            unfold compT at h
            exact S.ct O h hv)
          ct := fun {X F a ops cs pos e'} O h {ρ M b M'} hv => s_ct S O h hv
          ta := fun {X F es es' e' pos} O h ha {ρ M b M'} hv => s_ta S O h ha hv
          to := fun {X F es es' e' pos} O h ha {ρ M b M'} hv => s_to S O h ha hv
          c := fun {X F es es'} O h hl {ρ M b M'} hv => s_c S O h hl hv
          i := fun {X F e i' tg} O h ht {ρ M ds M'} hv => s_i ih O h ht hv }
  exact fun n => key n n (Nat.le_refl _)
end
end EV

set_option Elab.async false
set_option linter.all false
set_option maxRecDepth 100000
set_option maxHeartbeats 8000000
/-! Statements: the frame between two statements. -/
namespace EV
open PySem L2

/-- the frame's state between two statements; G0, H0: as the def was entered -/
structure Fr (K : PySem.W.Frag) (G0 : Gh) (H0 : Hp) (ρ : Env) (M : Mst) (G : Gh) (σ : L2.St) (H : Hp) : Prop where
  st : Step K G0 H0 G M H
  sl : Slots K G H0 H ρ σ

section
variable {K : PySem.W.Frag} {G0 G G' Gv : Gh} {H0 H H' : Hp} {ρ ρv : Env} {M M' M1 : Mst} {σ : L2.St}
theorem Fr.rel (R : Fr K G0 H0 ρ M G σ H) : Rel K H0 ρ M G σ H := ⟨R.st.low, R.st.mst, R.sl⟩
theorem Fr.step (R : Fr K G0 H0 ρ M G σ H) (s : Step K G H G' M' H') : Fr K G0 H0 ρ M' G' σ H' := ⟨R.st.trans s, R.sl.step s⟩

theorem ownR_rp {o : OwnC} {a : Addr} {u : HO} {G2 : Gh} (h : G2.Fz a = some u) (r : OwnR K G2 o u) : Rp K G2 o.d (.ref a) := by
  cases o with
  | lst xs =>
    obtain ⟨vs, e, r⟩ := r
    subst e
    exact Rp.lst_ (.inl (.inl h)) r
  | dk xs =>
    obtain ⟨kvs, e, r⟩ := r
    subst e
    show Rp K G2 (.dk xs) _
    unfold Rp
    exact ⟨a, kvs, rfl, .inl h, r⟩

theorem Fr.view1 (R : Fr K G0 H0 ρ M G σ H) (i : Nat) : ∃ G', Fr K G0 H0 (view1 ρ i) M G' σ H ∧ GLe G G' ∧ G'.dr = G.dr := by
  unfold EV.view1
  split
  · rename_i o ho
    obtain ⟨a, u, e, h1, h0, h2, h3, r⟩ := R.sl.own i o ho
    have hi : i < ρ.length := by
      by_cases hi : i < ρ.length
      · exact hi
      · rw [List.getElem?_eq_none (by omega)] at ho; cases ho
    have le : GLe G (G.add a u) := GLe.add h2
    refine ⟨G.add a u, ⟨Step.freeze R.st.low R.st.mst R.st h0 h1 h2 h3, ?_⟩, le, rfl⟩
    have key : ∀ (m : Nat) (zs : OwnC), (ρ.set i (some (Slot.val o.d)))[m]? = some (some (Slot.own zs)) → i ≠ m ∧ ρ[m]? = some (some (Slot.own zs)) := fun m zs h => by
      by_cases em : i = m
      · subst em; rw [List.getElem?_set_self hi] at h; cases h
      · exact ⟨em, by rw [List.getElem?_set_ne em] at h; exact h⟩
    refine ⟨by simp [R.sl.len], fun j d h => ?_, fun j ys h => ?_, fun j l ys zs b hjl g1 g2 g3 g4 => ?_⟩
    · by_cases ej : i = j
      · subst ej
        rw [List.getElem?_set_self hi] at h
        cases h
        exact ⟨_, e, ownR_rp (by show upd G.Fz a u a = _; exact upd_same) (r.mono le)⟩
      · rw [List.getElem?_set_ne ej] at h
        obtain ⟨v, e1, r1⟩ := R.sl.val j d h
        exact ⟨v, e1, r1.mono le⟩
    · obtain ⟨ne, h⟩ := key j ys h
      obtain ⟨b, w, e1, k1, k0, k2, k3, kr⟩ := R.sl.own j ys h
      have nb : b ≠ a := fun z => R.sl.apart i j o ys a ne ho h e (by rw [← z]; exact e1)
      exact ⟨b, w, e1, k1, k0, by show upd G.Fz a u b = none; rw [upd_ne nb]; exact k2, k3, kr.mono le⟩
    · obtain ⟨_, g1⟩ := key j ys g1
      obtain ⟨_, g2⟩ := key l zs g2
      exact R.sl.apart j l ys zs b hjl g1 g2 g3 g4
  · exact ⟨G, R, GLe.refl G, rfl⟩
theorem Fr.view (R : Fr K G0 H0 ρ M G σ H) : ∀ ns : List Nat, ∃ G', Fr K G0 H0 (view ns ρ) M G' σ H ∧ GLe G G' ∧ G'.dr = G.dr := by
  intro ns
  unfold EV.view
  induction ns generalizing ρ G with
  | nil => exact ⟨G, R, GLe.refl G, rfl⟩
  | cons i ns ih =>
    obtain ⟨G1, R1, l1, e1⟩ := R.view1 i
    obtain ⟨G2, R2, l2, e2⟩ := ih R1
    exact ⟨G2, R2, l1.trans l2, e2.trans e1⟩

theorem drA_eq (h : Gv.dr = G.dr) : drA Gv = drA G := by unfold drA; rw [h]
/-- the view is dropped: what it froze is ours again -/
theorem Fr.back (R : Fr K G0 H0 ρ M G σ H) (le : GLe G Gv) (dr : Gv.dr = G.dr) (Rv : Fr K G0 H0 ρv M Gv σ H) (s : Step K Gv H G' M' H') (sc : sameCells M M' = true) : Fr K G0 H0 ρ M' G σ H' := by
  have t := Rv.st.trans s
  have fr : ∀ a o, H a = some o → a ∉ drA G → H' a = some o := fun a o h hd => s.fr a o h (by rw [drA_eq dr]; exact hd)
  refine ⟨⟨R.st.le, R.st.new, t.fr, R.st.nd, t.kp, fun a o h => fr a o (R.st.low a o h) fun m => ?_, ?_⟩, ⟨R.sl.len, R.sl.val, fun i xs h => ?_, R.sl.apart⟩⟩
  · rw [(drA_fz R.st.mst m).1] at h; cases h
  · have m0 := R.st.mst
    have m1 := s.mst
    cases M with
    | none =>
      cases M' with
      | none => exact m0
      | some _ => cases sc
    | some m =>
      cases M' with
      | none => cases sc
      | some m' =>
        obtain ⟨da, la, ca, e, h1, h2, h3, h4, h5⟩ := m0
        obtain ⟨da', la', ca', e', k1, k2, k3, k4, k5⟩ := m1
        have e2 := s.le.dr _ (dr.trans e)
        rw [e2] at e'
        cases e'
        have hc : m.cells = m'.cells := by unfold sameCells at sc; exact of_decide_eq_true sc
        exact ⟨da, la, ca, e, k1, k2, by rw [← hc]; exact h3, h4, h5⟩
  · obtain ⟨a, u, e, h1, h0, h2, h3, r⟩ := R.sl.own i xs h
    exact ⟨a, u, e, fr a u h1 h3, h0, h2, h3, r⟩
theorem scalar_rp {G G' : Gh} {d : D} {v : V} (h : scalarD d = true) (r : Rp K G' d v) : Rp K G d v := by
  cases d <;> first | (unfold Rp at r ⊢; exact r) | cases h
theorem scalar_rpL {G G' : Gh} : ∀ {ds : List D} {vs : List V}, ds.all scalarD = true → RpL K G' ds vs → RpL K G ds vs
  | [], _, _, r => by unfold RpL at r ⊢; exact r
  | d :: ds, _, h, r => by
    unfold RpL at r
    obtain ⟨v, r', e, q1, q2⟩ := r
    subst e
    simp only [List.all_cons, Bool.and_eq_true] at h
    exact RpL.cons (scalar_rp h.1 q1) (scalar_rpL h.2 q2)
/-- behind an expression that was taken in the view -/
theorem Fr.behind (R : Fr K G0 H0 ρ M G σ H) {ns : List Nat} {d : D} (le : GLe G Gv) (dr : Gv.dr = G.dr) (Rv : Fr K G0 H0 (EV.view ns ρ) M Gv σ H) (s : Step K Gv H G' M1 H') :
    ∃ G2, Fr K G0 H0 (EV.behind ns ρ d M M1) M1 G2 σ H' ∧ (∀ v, Rp K G' d v → Rp K G2 d v) ∧ GLe G G2 := by
  unfold EV.behind
  split
  · rename_i h
    simp only [Bool.and_eq_true] at h
    exact ⟨G, R.back le dr Rv s h.2, fun v r => scalar_rp h.1 r, GLe.refl G⟩
  · exact ⟨G', Rv.step s, fun v r => r, le.trans s.le⟩
theorem Fr.behindL (R : Fr K G0 H0 ρ M G σ H) {ns : List Nat} {ds : List D} (le : GLe G Gv) (dr : Gv.dr = G.dr) (Rv : Fr K G0 H0 (EV.view ns ρ) M Gv σ H) (s : Step K Gv H G' M1 H') :
    ∃ G2, Fr K G0 H0 (EV.behindL ns ρ ds M M1) M1 G2 σ H' ∧ (∀ v, RpL K G' ds v → RpL K G2 ds v) ∧ (∀ a, H a = none → G'.Fz a = none → G2.Fz a = none) ∧ (∀ a, H a = none → a ∉ drA G' → a ∉ drA G2) ∧ GLe G G2 := by
  unfold EV.behindL
  split
  · rename_i h
    simp only [Bool.and_eq_true] at h
    exact ⟨G, R.back le dr Rv s h.2, fun v r => scalar_rpL h.1 r, fun a h _ => R.st.low.fz_none h, fun a h _ => notin_dr R.st.mst h, GLe.refl G⟩
  · exact ⟨G', Rv.step s, fun v r => r, fun _ _ h => h, fun _ _ h => h, le.trans s.le⟩
/-- owned slots' objects stand already -/
theorem Fr.own_old (R : Fr K G0 H0 ρ M G σ H) {a : Addr} (h : H a = none) (j : Nat) (ys : OwnC) (hj : ρ[j]? = some (some (Slot.own ys))) : σ[j]? ≠ some (some (V.ref a)) := fun z => by
  obtain ⟨b, u, e, h1, _⟩ := R.sl.own j ys hj
  rw [z] at e
  cases e
  rw [h] at h1; cases h1
theorem Fr.new0 (R : Fr K G0 H0 ρ M G σ H) {a : Addr} (h : H a = none) : H0 a = none := by
  cases e : H0 a with
  | none => rfl
  | some u => exact absurd h (R.st.kp a (by rw [e]; exact fun z => by cases z))
end

/-! ### readings of expressions in a statement -/
section
variable {K : PySem.W.Frag} {G0 G : Gh} {H0 H : Hp} {ρ : Env} {M M1 : Mst} {σ : L2.St} {C : Orc} {ns : List Nat}
theorem use_e {e : E} {d : D} {Q : VK} (R : Fr K G0 H0 ρ M G σ H) (h : ev C e (EV.view ns ρ) M = some (d, M1))
    (q : ∀ v H' G2, GLe G G2 → Fr K G0 H0 (EV.behind ns ρ d M M1) M1 G2 σ H' → Rp K G2 d v → Q v H') : tEv K H0 C e σ H Q := by
  obtain ⟨Gv, Rv, le, dr⟩ := R.view ns
  refine ⟨_, _, _, _, h, Gv, Rv.rel, fun v H' G' s r => ?_⟩
  obtain ⟨G2, R2, w, l2⟩ := R.behind (d := d) le dr Rv s
  exact q v H' G2 l2 R2 (w v r)
/-- .. not coming back to the frame -/
theorem use_r {e : E} {d : D} {Q : VK} (R : Fr K G0 H0 ρ M G σ H) (h : ev C e (EV.view ns ρ) M = some (d, M1)) (q : ∀ v H' G2, Step K G0 H0 G2 M1 H' → Rp K G2 d v → Q v H') : tEv K H0 C e σ H Q := by
  obtain ⟨Gv, Rv, le, dr⟩ := R.view ns
  exact ⟨_, _, _, _, h, Gv, Rv.rel, fun v H' G' s r => q v H' G' (Rv.st.trans s) r⟩
def tEvT (K : PySem.W.Frag) (H0 : Hp) (C : Orc) (e : E) : TT := fun σ H Q => ∃ ρ M b M', ev C e ρ M = some (.bl b, M') ∧ tJT K H0 ρ M b M' σ H Q
theorem pt_ev {X : Cx} {e : Expr} {e' : E} {C : Orc} {H0 : Hp} (h : ∀ ρ M d M', ev C e' ρ M = some (.bl d, M') → PT X e (tJT X.K H0 ρ M d M')) : PT X e (tEvT X.K H0 C e') :=
  ⟨fun pins s σ H Q I ⟨ρ, M, d, M', h1, q⟩ => (h ρ M d M' h1).run pins s σ H Q I q⟩
theorem use_t {e : E} {b : Bool} {Q : Bool → Hp → Prop} (R : Fr K G0 H0 ρ M G σ H) (h : ev C e (EV.view ns ρ) M = some (.bl b, M1))
    (q : ∀ H' G2, GLe G G2 → Fr K G0 H0 (EV.behind ns ρ (.bl b) M M1) M1 G2 σ H' → Q b H') : tEvT K H0 C e σ H Q := by
  obtain ⟨Gv, Rv, le, dr⟩ := R.view ns
  refine ⟨_, _, _, _, h, Gv, Rv.rel, fun H' G' s => ?_⟩
  obtain ⟨G2, R2, _, l2⟩ := R.behind (d := .bl b) le dr Rv s
  exact q H' G2 l2 R2
def tEvL (K : PySem.W.Frag) (H0 : Hp) (C : Orc) (e : Es) : TA := fun σ H Q => ∃ ρ M b M', evs C e ρ M = some (b, M') ∧ tJs K H0 ρ M b M' σ H Q
theorem pa_ev {X : Cx} {es : List Expr} {e' : Es} {C : Orc} {H0 : Hp} (h : ∀ ρ M d M', evs C e' ρ M = some (d, M') → PA X es (tJs X.K H0 ρ M d M')) : PA X es (tEvL X.K H0 C e') :=
  ⟨fun pos pins s σ H Q I ⟨ρ, M, d, M', h1, q⟩ => (h ρ M d M' h1).run pos pins s σ H Q I q⟩
theorem use_l {e : Es} {ds : List D} {Q : List V → Hp → Prop} (R : Fr K G0 H0 ρ M G σ H) (h : evs C e (EV.view ns ρ) M = some (ds, M1))
    (q : ∀ vs H' G2, GLe G G2 → Fr K G0 H0 (EV.behindL ns ρ ds M M1) M1 G2 σ H' → RpL K G2 ds vs → Q vs H') : tEvL K H0 C e σ H Q := by
  obtain ⟨Gv, Rv, le, dr⟩ := R.view ns
  refine ⟨_, _, _, _, h, Gv, Rv.rel, fun vs H' G' s r => ?_⟩
  obtain ⟨G2, R2, w, _, _, l2⟩ := R.behindL (ds := ds) le dr Rv s
  exact q vs H' G2 l2 R2 (w vs r)
def tEvI (K : PySem.W.Frag) (H0 : Hp) (C : Orc) (e : Itr) : TI := fun σ H Q => ∃ ρ M b M', evI C e ρ M = some (b, M') ∧ tI K H0 ρ M b M' σ H Q
theorem pi_ev {X : Cx} {tg e : Expr} {e' : Itr} {C : Orc} {H0 : Hp} (h : ∀ ρ M d M', evI C e' ρ M = some (d, M') → PI X tg e (tI X.K H0 ρ M d M')) : PI X tg e (tEvI X.K H0 C e') :=
  ⟨fun pins s σ H Q I ⟨ρ, M, d, M', h1, q⟩ => (h ρ M d M' h1).run pins s σ H Q I q⟩
def tEvF (K : PySem.W.Frag) (H0 : Hp) (C : Orc) (e : E) : TE := fun σ H Q => ∃ ρ M xs M', ev C e ρ M = some (.lst xs, M') ∧ tJF K H0 ρ M xs M' σ H Q
theorem pe_evF {X : Cx} {e : Expr} {e' : E} {C : Orc} {H0 : Hp} (h : ∀ ρ M xs M', ev C e' ρ M = some (.lst xs, M') → PE X e (tJF X.K H0 ρ M xs M')) : PE X e (tEvF X.K H0 C e') :=
  ⟨fun pins s σ H Q I ⟨ρ, M, d, M', h1, q⟩ => (h ρ M d M' h1).run pins s σ H Q I q⟩
theorem use_jf {xs : List D} {Q : VK} (R : Fr K G0 H0 ρ M G σ H) (q : ∀ a vs H' G2, GLe G G2 → Fr K G0 H0 (EV.behindL ns ρ xs M M1) M1 G2 σ H' → H0 a = none → H' a = some (.lst vs) → G2.Fz a = none → a ∉ drA G2 → RpL K G2 xs vs →
      (∀ (j : Nat) (ys : OwnC), (EV.behindL ns ρ xs M M1)[j]? = some (some (Slot.own ys)) → σ[j]? ≠ some (some (V.ref a))) → Q (.ref a) H') : tJF K H0 (EV.view ns ρ) M xs M1 σ H Q := by
  obtain ⟨Gv, Rv, le, dr⟩ := R.view ns
  refine ⟨Gv, Rv.rel, fun a vs H' G' s ha ha' hf hd r => ?_⟩
  obtain ⟨G2, R2, w, w1, w2, l2⟩ := R.behindL (ds := xs) le dr Rv s
  refine q a vs H' G2 l2 R2 (R.new0 ha) ha' (w1 a ha hf) (w2 a ha hd) (w vs r) fun j ys hj => ?_
  by_cases hh : (xs.all scalarD && sameCells M M1) = true
  · have e : EV.behindL ns ρ xs M M1 = ρ := by unfold EV.behindL; rw [if_pos hh]
    rw [e] at hj
    exact R.own_old ha j ys hj
  · have e : EV.behindL ns ρ xs M M1 = EV.view ns ρ := by unfold EV.behindL; rw [if_neg hh]
    rw [e] at hj
    exact Rv.own_old ha j ys hj
end

/-! ### what a statement comes to -/
def ends (K : PySem.W.Frag) (G0 : Gh) (H0 : Hp) (G : Gh) (D : Ends) (o : Out) (M' : Mst) : Prop := match o with
  | .nx ρ' => ∀ G' σ' H', GLe G G' → Fr K G0 H0 ρ' M' G' σ' H' → D.nx σ' H'
  | .brk ρ' => ∀ G' σ' H', GLe G G' → Fr K G0 H0 ρ' M' G' σ' H' → D.bk σ' H'
  | .cnt ρ' => ∀ G' σ' H', GLe G G' → Fr K G0 H0 ρ' M' G' σ' H' → D.ct σ' H'
  | .ret d => ∀ G' v H', Step K G0 H0 G' M' H' → Rp K G' d v → D.rt v H'
def tSx (K : PySem.W.Frag) (G0 : Gh) (H0 : Hp) (r : Env → Mst → Option (Out × Mst)) : TS := fun D σ H => ∃ ρ M G o M', r ρ M = some (o, M') ∧ Fr K G0 H0 ρ M G σ H ∧ ends K G0 H0 G D o M'
theorem PS.weak {X : Cx} {e : Stmt} {t t' : TS} (h : PS X e t) (w : ∀ D σ H, t' D σ H → t D σ H) : PS X e t' := ⟨fun pins s σ H Q I q => h.run pins s σ H Q I (w Q σ H q)⟩
theorem PSs.weak {X : Cx} {e : List Stmt} {t t' : TS} (h : PSs X e t) (w : ∀ D σ H, t' D σ H → t D σ H) : PSs X e t' := ⟨fun pins s σ H Q I q => h.run pins s σ H Q I (w Q σ H q)⟩
end EV

set_option Elab.async false
set_option linter.all false
set_option maxRecDepth 100000
set_option maxHeartbeats 8000000
/-! Statements, one by one. -/
namespace EV
open PySem L2

section
variable {X : Cx} {F : Frm} {T : Tab} {C : Orc} {k W : Nat} {G0 : Gh} {H0 : Hp}

theorem sw_plain {e : Expr} {t : Option Expr} {l : Nat} {env : PySem.Env} (h : compish e = false) : swapsWith e t l env = pure false := by
  cases e <;> first | rfl | (simp [compish] at h)
theorem sws_plain {e t : Expr} {l : Nat} {env : PySem.Env} (h : compish e = false) : swapsWithSole [t] e l env = pure false := sw_plain h
theorem sw_comp {elt : Expr} {gs : List Comprehension} {scope : Scope} {pos py : Pos} {y : Str} {l : Nat} {env : PySem.Env} : swapsWith (.ListComp elt gs scope pos) (some (.Name y py)) l env =
    pure (env.blockKind == .function && env.kindOf y == some .local && py.line == pos.line && !(scope.names.any fun (n, k) => n == y && (k == .local || k == .cell))) := rfl
theorem ss_plain {ts : List Expr} {kk : Nat} {p : Pos} {e : Expr} {env : PySem.Env} (h : tupB e = false) : swappedStores [.Tuple ts kk p] e env = pure none := by
  cases e <;> first | rfl | (simp [tupB] at h)
theorem filterMap_lt {α β : Type} {f : α → Option β} : ∀ {l : List α}, (l.filterMap f).length = l.length → ∀ x ∈ l, (f x).isSome = true
  | [], _, _, h => by cases h
  | a :: l, e, x, h => by
    rw [List.filterMap_cons] at e
    have hle := List.length_filterMap_le f l
    cases hf : f a with
    | none => rw [hf] at e; simp at e; omega
    | some b =>
      rw [hf] at e
      have e' : (l.filterMap f).length = l.length := Nat.succ.inj e
      cases h with
      | head => rw [hf]; rfl
      | tail _ h => exact filterMap_lt e' x h
theorem ss_tup {ts vs : List Expr} {kk k2 : Nat} {p p2 : Pos} {env : PySem.Env} {F : Frm} (hs : env.scope = F.sc) (h : ts.all (nlB F) = false) : swappedStores [.Tuple ts kk p] (.Tuple vs k2 p2) env = pure none := by
  unfold swappedStores
  simp only [pure_bind]
  split
  · rfl
  split
  · rfl
  split
  · rfl
  · rename_i hn
    exfalso
    apply hn
    have : (ts.filterMap fun
      | .Name id pos => if (env.kindOf id == some .local && pos.line == (ts.head?.map (·.pos.line)).getD 0) = true then some id else none
      | _ => none).length ≠ ts.length := fun e => by
      have w := filterMap_lt e
      have : ts.all (nlB F) = true := by
        rw [List.all_eq_true]
        intro x hx
        have := w x hx
        cases x <;> simp [nlB] at this ⊢
        have h1 := this.1
        have : env.scope.names.lookup _ = some .local := h1
        rw [hs] at this
        exact this
      rw [this] at h; cases h
    simp only [Bool.or_eq_true, bne_iff_ne, ne_eq]
    exact .inl this
theorem par_parts {F : Frm} {nps : List (Str × Nat)} {vs : List Expr} (h : parB F nps vs = true) : F.sc.kind = .function ∧ (∀ x l, (x, l) ∈ nps → F.sc.names.lookup x = some .local ∧ l = (nps.head?.map (·.2)).getD 0) ∧ (nps.map (·.1)).eraseDups.length = nps.length ∧
    vs.any starB = false ∧ vs.all (foldedForSure 8) = false ∧ vs.all (constantsAlone 8) = false := by
  unfold parB at h
  simp only [Bool.and_eq_true, Bool.not_eq_true', beq_iff_eq, decide_eq_true_eq] at h
  obtain ⟨⟨⟨⟨⟨h1, h2⟩, h3⟩, h4⟩, h5⟩, h6⟩ := h
  refine ⟨h1, fun x l hx => ?_, h3, h4, h5, h6⟩
  rw [List.all_eq_true] at h2
  have := h2 (x, l) hx
  simp only [Bool.and_eq_true, beq_iff_eq] at this
  exact this
theorem star_eq (vs : List Expr) : (vs.any fun | .Starred .. => true | _ => false) = vs.any starB := by
  congr 1
theorem ss_par2 {x y : Str} {px py p p2 : Pos} {a b : Expr} {kk k2 : Nat} {env : PySem.Env} {F : Frm} (hs : env.scope = F.sc) (h : parB F [(x, px.line), (y, py.line)] [a, b] = true) :
    swappedStores [.Tuple [.Name x px, .Name y py] kk p] (.Tuple [a, b] k2 p2) env = pure (some [x, y]) := by
  obtain ⟨h1, h2, h3, h4, h5, h6⟩ := par_parts h
  obtain ⟨x1, x2⟩ := h2 x px.line (by simp)
  obtain ⟨y1, y2⟩ := h2 y py.line (by simp)
  have kx : (env.kindOf x == some NameKind.local) = true := by show (env.scope.names.lookup x == some NameKind.local) = true; rw [hs, x1]; rfl
  have ky : (env.kindOf y == some NameKind.local) = true := by show (env.scope.names.lookup y == some NameKind.local) = true; rw [hs, y1]; rfl
  have hb : env.blockKind = .function := by unfold Env.blockKind; rw [hs, h1]; rfl
  have ly : py.line = px.line := y2
  have h3' : [x, y].eraseDups.length = 2 := h3
  unfold swappedStores
  simp only [pure_bind, List.filterMap_cons, List.filterMap_nil, Expr.pos, List.head?_cons, Option.map_some, Option.getD_some, kx, ky, ly, hb, h5, h6, h3', List.length_cons, List.length_nil, beq_self_eq_true, Bool.true_and, Bool.and_true, if_true]
  refine (if_neg (by decide)).trans ((if_neg fun hh => ?_).trans rfl)
  have : [a, b].any starB = true := hh
  rw [h4] at this; cases this
theorem ss_par3 {x y z : Str} {px py pz p p2 : Pos} {a b c : Expr} {kk k2 : Nat} {env : PySem.Env} {F : Frm} (hs : env.scope = F.sc) (h : parB F [(x, px.line), (y, py.line), (z, pz.line)] [a, b, c] = true) :
    swappedStores [.Tuple [.Name x px, .Name y py, .Name z pz] kk p] (.Tuple [a, b, c] k2 p2) env = pure (some [x, y, z]) := by
  obtain ⟨h1, h2, h3, h4, h5, h6⟩ := par_parts h
  obtain ⟨x1, x2⟩ := h2 x px.line (by simp)
  obtain ⟨y1, y2⟩ := h2 y py.line (by simp)
  obtain ⟨z1, z2⟩ := h2 z pz.line (by simp)
  have kx : (env.kindOf x == some NameKind.local) = true := by show (env.scope.names.lookup x == some NameKind.local) = true; rw [hs, x1]; rfl
  have ky : (env.kindOf y == some NameKind.local) = true := by show (env.scope.names.lookup y == some NameKind.local) = true; rw [hs, y1]; rfl
  have kz : (env.kindOf z == some NameKind.local) = true := by show (env.scope.names.lookup z == some NameKind.local) = true; rw [hs, z1]; rfl
  have hb : env.blockKind = .function := by unfold Env.blockKind; rw [hs, h1]; rfl
  have ly : py.line = px.line := y2
  have lz : pz.line = px.line := z2
  have h3' : [x, y, z].eraseDups.length = 3 := h3
  unfold swappedStores
  simp only [pure_bind, List.filterMap_cons, List.filterMap_nil, Expr.pos, List.head?_cons, Option.map_some, Option.getD_some, kx, ky, kz, ly, lz, hb, h5, h6, h3', List.length_cons, List.length_nil, beq_self_eq_true, Bool.true_and, Bool.and_true, if_true]
  refine (if_neg (by decide)).trans ((if_neg fun hh => ?_).trans rfl)
  have : [a, b, c].any starB = true := hh
  rw [h4] at this; cases this

theorem view1_own {ρ : Env} {i j : Nat} {o : OwnC} (h : (EV.view1 ρ j)[i]? = some (some (Slot.own o))) : ρ[i]? = some (some (Slot.own o)) := by
  unfold EV.view1 at h
  split at h
  · by_cases e : j = i
    · subst e
      by_cases hi : j < ρ.length
      · rw [List.getElem?_set_self hi] at h; cases h
      · rw [List.getElem?_eq_none (by simpa using hi)] at h; cases h
    · rw [List.getElem?_set_ne e] at h; exact h
  · exact h
theorem view_own {i : Nat} {o : OwnC} : ∀ {ns : List Nat} {ρ : Env}, (EV.view ns ρ)[i]? = some (some (Slot.own o)) → ρ[i]? = some (some (Slot.own o))
  | [], _, h => h
  | j :: ns, ρ, h => view1_own (view_own (ns := ns) (ρ := EV.view1 ρ j) h)
theorem behind_own {i : Nat} {o : OwnC} {ns : List Nat} {ρ : Env} {d : D} {M M1 : Mst} (h : (EV.behind ns ρ d M M1)[i]? = some (some (Slot.own o))) : ρ[i]? = some (some (Slot.own o)) := by
  unfold EV.behind at h
  split at h
  · exact h
  · exact view_own h

/-! ### assignments -/
theorem s_name {i : Nat} {x : Str} {p pos : Pos} {v : Expr} {e : E} {ns : List Nat} (O : CtxOk X F T C k) (hl : locB F x = true) (hi : F.idx x = some i) (hc : compish v = false) (he : PE X v (tEv X.K H0 C e)) :
    PS X (.Assign [.Name x p] v pos) (tSx X.K G0 H0 (ex C W (.asg (.name i) e ns))) := by
  obtain ⟨l1, l2⟩ := locB_ok O.sc O.fn hl
  refine PS.weak (ps_set (by rw [O.N]; exact O.nd) (by rw [O.N]; exact idx_get hi) l1 he (sw_plain hc) l2) fun D σ H ⟨ρ, M, G, o, M', hr, R, en⟩ => ?_
  simp only [ex] at hr
  obtain ⟨d, M1, hev, hr⟩ := bd_some hr
  unfold exAsg at hr
  simp only [bindT] at hr
  cases hr
  exact use_e R hev fun v H' G2 l2 R2 r => en G2 _ H' l2 ⟨R2.st, R2.sl.set r⟩
theorem s_tgt {ts : List Expr} {kk : Nat} {t : Tgt} {p pos : Pos} {v : Expr} {e : E} {ns : List Nat} (O : CtxOk X F T C k) (hg : PG X (.Tuple ts kk p) (tGx X.K H0 t)) (hc : compish v = false) (hw : swappedStores [.Tuple ts kk p] v X.env = pure none) (he : PE X v (tEv X.K H0 C e)) :
    PS X (.Assign [.Tuple ts kk p] v pos) (tSx X.K G0 H0 (ex C W (.asg t e ns))) := by
  refine PS.weak (ps_asg he hg (sws_plain hc) hw) fun D σ H ⟨ρ, M, G, o, M', hr, R, en⟩ => ?_
  simp only [ex] at hr
  obtain ⟨d, M1, hev, hr⟩ := bd_some hr
  unfold exAsg at hr
  split at hr
  · rename_i ρ' hb
    cases hr
    exact use_e R hev fun v H' G2 l2 R2 r => ⟨_, ρ', d, G2, hb, R2.sl, R2.st.low, r, fun σ' S' _ => en G2 σ' H' l2 ⟨R2.st, S'⟩⟩
  · cases hr
theorem s_fresh {st : Stmt} {i : Nat} {e : E} {ns : List Nat} (h : ∀ ρ M xs M', ev C e ρ M = some (.lst xs, M') → PS X st (tAsg (tJF X.K H0 ρ M xs M') (gName i))) : PS X st (tSx X.K G0 H0 (ex C W (.asgF i e ns))) := by
  refine ⟨fun pins s σ H D I ⟨ρ, M, G, o, M', hr, R, en⟩ => ?_⟩
  simp only [ex] at hr
  split at hr
  · obtain ⟨d, M1, hev, hr⟩ := bd_some hr
    unfold exAsgF at hr
    split at hr
    · cases hr
      exact (h _ _ _ _ hev).run pins s σ H D I (use_jf R fun a vs H' G2 l2 R2 h0 ha hf hd r ap => en G2 _ H' l2 ⟨R2.st, R2.sl.setOwn h0 ha hf hd ⟨vs, rfl, r⟩ ap⟩)
    · cases hr
  · cases hr
theorem s_newK {i : Nat} {x : Str} {p p' pos : Pos} (O : CtxOk X F T C k) (hl : locB F x = true) (hi : F.idx x = some i) : PS X (.Assign [.Name x p] (.Dict [] [] p') pos) (tSx X.K G0 H0 (ex C W (.newK i))) := by
  obtain ⟨l1, l2⟩ := locB_ok O.sc O.fn hl
  refine PS.weak (ps_set (by rw [O.N]; exact O.nd) (by rw [O.N]; exact idx_get hi) l1 pe_dnewK (sw_plain rfl) l2) fun D σ H ⟨ρ, M, G, o, M', hr, R, en⟩ => ?_
  simp only [ex] at hr
  cases hr
  intro q hq
  have s := Step.lay (o := .dK []) R.st.low R.st.mst hq
  have R2 := R.step s
  exact en G _ _ (GLe.refl G) ⟨R2.st, R2.sl.setOwn (R.new0 hq) upd_same (R.st.low.fz_none hq) (notin_dr R.st.mst hq) ⟨[], rfl, RpL.nil⟩ fun j ys hj => R.own_old hq j ys hj⟩
theorem setAll2 {i j : Nat} {ds : List D} {ρ ρ' : Env} (h : setAll [i, j] ds ρ = some ρ') : ∃ a b, ds = [a, b] ∧ ρ' = (ρ.set i (some (.val a))).set j (some (.val b)) := by
  match ds, h with
  | [a, b], h => simp [setAll] at h; exact ⟨a, b, rfl, h.symm⟩
  | [], h => simp [setAll] at h
  | [_], h => simp [setAll] at h
  | _ :: _ :: _ :: _, h => simp [setAll] at h
theorem setAll3 {i j l : Nat} {ds : List D} {ρ ρ' : Env} (h : setAll [i, j, l] ds ρ = some ρ') : ∃ a b c, ds = [a, b, c] ∧ ρ' = ((ρ.set i (some (.val a))).set j (some (.val b))).set l (some (.val c)) := by
  match ds, h with
  | [a, b, c], h => simp [setAll] at h; exact ⟨a, b, c, rfl, h.symm⟩
  | [], h => simp [setAll] at h
  | [_], h => simp [setAll] at h
  | [_, _], h => simp [setAll] at h
  | _ :: _ :: _ :: _ :: _, h => simp [setAll] at h
theorem RpL.three {K : PySem.W.Frag} {G : Gh} {a b c : D} {vs : List V} (h : RpL K G [a, b, c] vs) : ∃ u v w, vs = [u, v, w] ∧ Rp K G a u ∧ Rp K G b v ∧ Rp K G c w := by
  unfold RpL at h
  obtain ⟨u, r, e, h1, h2⟩ := h
  obtain ⟨v, w, e2, h3, h4⟩ := RpL.two h2
  subst e e2
  exact ⟨u, v, w, rfl, h1, h3, h4⟩
theorem s_par2 {i j : Nat} {x y : Str} {px py p p' pos : Pos} {a b : Expr} {kk k2 : Nat} {es : Es} {ns : List Nat} (O : CtxOk X F T C k) (h : parB F [(x, px.line), (y, py.line)] [a, b] = true) (hi : F.idx x = some i) (hj : F.idx y = some j) (hij : i ≠ j)
    (he : PA X [a, b] (tEvL X.K H0 C es)) : PS X (.Assign [.Tuple [.Name x px, .Name y py] kk p] (.Tuple [a, b] k2 p') pos) (tSx X.K G0 H0 (ex C W (.par [i, j] es ns))) := by
  obtain ⟨_, h2, _⟩ := par_parts h
  obtain ⟨x1, _⟩ := h2 x px.line (by simp)
  obtain ⟨y1, _⟩ := h2 y py.line (by simp)
  refine PS.weak (ps_par O.calm (by rw [O.N]; exact O.nd) (by rw [O.N]; exact idx_get hi) (by rw [O.N]; exact idx_get hj) hij (by rw [O.sc]; exact x1) (by rw [O.sc]; exact y1) he (ss_par2 O.sc h)) fun D σ H ⟨ρ, M, G, o, M', hr, R, en⟩ => ?_
  simp only [ex] at hr
  obtain ⟨ds, M1, hev, hr⟩ := bdL_some hr
  unfold exPar at hr
  split at hr
  · rename_i ρ' hb
    cases hr
    obtain ⟨da, db, e1, e2⟩ := setAll2 hb
    subst e1 e2
    refine use_l R hev fun vs H' G2 l2 R2 r => ?_
    obtain ⟨u, v, e, r1, r2⟩ := r.two
    exact ⟨u, v, e, en G2 _ H' l2 ⟨R2.st, (R2.sl.set r1).set r2⟩⟩
  · cases hr
theorem s_par3 {i j l : Nat} {x y z : Str} {px py pz p p' pos : Pos} {a b c : Expr} {kk k2 : Nat} {es : Es} {ns : List Nat} (O : CtxOk X F T C k) (h : parB F [(x, px.line), (y, py.line), (z, pz.line)] [a, b, c] = true) (hi : F.idx x = some i) (hj : F.idx y = some j) (hl : F.idx z = some l)
    (hij : i ≠ j) (hil : i ≠ l) (hjl : j ≠ l) (he : PA X [a, b, c] (tEvL X.K H0 C es)) : PS X (.Assign [.Tuple [.Name x px, .Name y py, .Name z pz] kk p] (.Tuple [a, b, c] k2 p') pos) (tSx X.K G0 H0 (ex C W (.par [i, j, l] es ns))) := by
  obtain ⟨_, h2, _⟩ := par_parts h
  obtain ⟨x1, _⟩ := h2 x px.line (by simp)
  obtain ⟨y1, _⟩ := h2 y py.line (by simp)
  obtain ⟨z1, _⟩ := h2 z pz.line (by simp)
  refine PS.weak (ps_par3 O.calm (by rw [O.N]; exact O.nd) (by rw [O.N]; exact idx_get hi) (by rw [O.N]; exact idx_get hj) (by rw [O.N]; exact idx_get hl) hij hil hjl (by rw [O.sc]; exact x1) (by rw [O.sc]; exact y1) (by rw [O.sc]; exact z1) he (ss_par3 O.sc h)) fun D σ H ⟨ρ, M, G, o, M', hr, R, en⟩ => ?_
  simp only [ex] at hr
  obtain ⟨ds, M1, hev, hr⟩ := bdL_some hr
  unfold exPar at hr
  split at hr
  · rename_i ρ' hb
    cases hr
    obtain ⟨da, db, dc, e1, e2⟩ := setAll3 hb
    subst e1 e2
    refine use_l R hev fun vs H' G2 l2 R2 r => ?_
    obtain ⟨u, v, w, e, r1, r2, r3⟩ := r.three
    exact ⟨u, v, w, e, en G2 _ H' l2 ⟨R2.st, ((R2.sl.set r1).set r2).set r3⟩⟩
  · cases hr

/-! ### small statements -/
theorem s_expr {v : Expr} {e : E} {ns : List Nat} {pos : Pos} (hc : compish v = false) (he : PE X v (tEv X.K H0 C e)) : PS X (.Expr v pos) (tSx X.K G0 H0 (ex C W (.expr e ns))) := by
  refine PS.weak (ps_expr he (sw_plain hc)) fun D σ H ⟨ρ, M, G, o, M', hr, R, en⟩ => ?_
  simp only [ex] at hr
  obtain ⟨d, M1, hev, hr⟩ := bd_some hr
  cases hr
  exact use_e R hev fun v H' G2 l2 R2 r => en G2 σ H' l2 R2
theorem s_ret {v : Expr} {e : E} {ns : List Nat} {pos : Pos} (he : PE X v (tEv X.K H0 C e)) : PS X (.Return (some v) pos) (tSx X.K G0 H0 (ex C W (.ret e ns))) := by
  refine PS.weak (ps_ret he) fun D σ H ⟨ρ, M, G, o, M', hr, R, en⟩ => ?_
  simp only [ex] at hr
  obtain ⟨d, M1, hev, hr⟩ := bd_some hr
  cases hr
  exact use_r R hev fun v H' G2 s r => en G2 v H' s r
theorem s_retN {pos : Pos} : PS X (.Return none pos) (tSx X.K G0 H0 (ex C W .retN)) := by
  refine PS.weak ps_retN fun D σ H ⟨ρ, M, G, o, M', hr, R, en⟩ => ?_
  simp only [ex] at hr
  cases hr
  exact en G .non H R.st Rp.non_
theorem s_brk {pos : Pos} : PS X (.Break pos) (tSx X.K G0 H0 (ex C W .brk)) := by
  refine PS.weak ps_break fun D σ H ⟨ρ, M, G, o, M', hr, R, en⟩ => ?_
  simp only [ex] at hr
  cases hr
  exact en G σ H (GLe.refl G) R
theorem s_cnt {pos : Pos} : PS X (.Continue pos) (tSx X.K G0 H0 (ex C W .cnt)) := by
  refine PS.weak ps_continue fun D σ H ⟨ρ, M, G, o, M', hr, R, en⟩ => ?_
  simp only [ex] at hr
  cases hr
  exact en G σ H (GLe.refl G) R
theorem s_pass {st : Stmt} (h : PS X st tNext) : PS X st (tSx X.K G0 H0 (ex C W .pass)) := by
  refine PS.weak h fun D σ H ⟨ρ, M, G, o, M', hr, R, en⟩ => ?_
  simp only [ex] at hr
  cases hr
  exact en G σ H (GLe.refl G) R
theorem s_never {st : Stmt} : PS X st (tSx X.K G0 H0 (ex C W .never)) := by
  refine PS.weak ps_never fun D σ H ⟨ρ, M, G, o, M', hr, R, en⟩ => ?_
  simp only [ex] at hr
  cases hr
end
end EV

set_option Elab.async false
set_option linter.all false
set_option maxRecDepth 100000
set_option maxHeartbeats 8000000
/-! Statements that change an object; blocks. -/
namespace EV
open PySem L2

section
variable {X : Cx} {F : Frm} {T : Tab} {C : Orc} {k W : Nat} {G0 : Gh} {H0 : Hp}

theorem Slots.putOwn {K : PySem.W.Frag} {G : Gh} {H0 H : Hp} {ρ : Env} {σ : L2.St} (S : Slots K G H0 H ρ σ) {i : Nat} {o o' : OwnC} {a : Addr} {u u' : HO} (hi : ρ[i]? = some (some (Slot.own o))) (hs : σ[i]? = some (some (.ref a))) (ha : H a = some u) (h0 : H0 a = none) (hf : G.Fz a = none) (hd : a ∉ drA G)
    (r : OwnR K G o' u') : Slots K G H0 (upd H a u') (ρ.set i (some (Slot.own o'))) σ := by
  have hl : i < ρ.length := by
    by_cases hl : i < ρ.length
    · exact hl
    · rw [List.getElem?_eq_none (by omega)] at hi; cases hi
  have key : ∀ (m : Nat) (zs : OwnC), (ρ.set i (some (Slot.own o')))[m]? = some (some (Slot.own zs)) → ∃ z', ρ[m]? = some (some (Slot.own z')) := fun m zs h => by
    by_cases em : i = m
    · subst em; exact ⟨o, hi⟩
    · rw [List.getElem?_set_ne em] at h; exact ⟨zs, h⟩
  refine ⟨by simp [S.len], fun j d h => ?_, fun j ys h => ?_, fun j l ys zs b hjl g1 g2 g3 g4 => ?_⟩
  · by_cases ej : i = j
    · subst ej; rw [List.getElem?_set_self hl] at h; cases h
    · rw [List.getElem?_set_ne ej] at h; exact S.val j d h
  · by_cases ej : i = j
    · subst ej
      rw [List.getElem?_set_self hl] at h
      cases h
      exact ⟨a, u', hs, upd_same, h0, hf, hd, r⟩
    · rw [List.getElem?_set_ne ej] at h
      obtain ⟨b, w, e1, k1, k0, k2, k3, kr⟩ := S.own j ys h
      have nb : b ≠ a := fun z => S.apart i j o ys a ej hi h hs (by rw [← z]; exact e1)
      exact ⟨b, w, e1, by rw [upd_ne nb]; exact k1, k0, k2, k3, kr⟩
  · obtain ⟨y', g1⟩ := key j ys g1
    obtain ⟨z', g2⟩ := key l zs g2
    exact S.apart j l y' z' b hjl g1 g2 g3 g4
theorem Fr.putOwn {K : PySem.W.Frag} {G : Gh} {H : Hp} {ρ : Env} {M : Mst} {σ : L2.St} (R : Fr K G0 H0 ρ M G σ H) {i : Nat} {o o' : OwnC} {a : Addr} {u u' : HO} (hi : ρ[i]? = some (some (Slot.own o))) (hs : σ[i]? = some (some (.ref a))) (ha : H a = some u) (h0 : H0 a = none) (hf : G.Fz a = none) (hd : a ∉ drA G)
    (r : OwnR K G o' u') : Fr K G0 H0 (ρ.set i (some (Slot.own o'))) M G σ (upd H a u') :=
  ⟨R.st.put_own h0 hf hd, R.sl.putOwn hi hs ha h0 hf hd r⟩

theorem s_append {i : Nat} {x : Str} {p ap cp pos : Pos} {v : Expr} {e : E} {ns : List Nat} (O : CtxOk X F T C k) (hv : visB F.sc x = true) (hn : nameOk x = true) (hi : F.idx x = some i) (hs : starB v = false) (hl : (ap.endLine == cp.line) = true) (he : PE X v (tEv X.K H0 C e)) :
    PS X (.Expr (.Call (.Attribute (.Name x p) "append" ap) [v] [] cp) pos) (tSx X.K G0 H0 (ex C W (.append i e ns))) := by
  obtain ⟨h1, h2, _⟩ := nameOk_ok hn
  refine PS.weak (ps_expr (pe_bm PySem.F.plainAttrs_list PySem.F.slot_list_append PySem.F.type_list_append mt_append (pe_var (i := i) (by rw [O.N]; exact idx_get hi) (by rw [O.sc]; exact visB_ok hv) h1 h2)
    (pa_cons he pa_nil (star_cons hs)) rfl (by rw [star_cons hs]; rfl) hl (star_cons hs) rfl) (sw_plain rfl)) fun D σ H ⟨ρ, M, G, o, M', hr, R, en⟩ => ?_
  simp only [ex] at hr
  obtain ⟨d, M1, hev, hr⟩ := bd_some hr
  unfold exApp at hr
  split at hr
  · rename_i xs hx
    split at hr
    · rename_i hlen
      cases hr
      obtain ⟨a, u, e1, k1, _, _, _, vs0, eu, r0⟩ := R.sl.own i _ (behind_own hx)
      subst eu
      refine ⟨.ref a, e1, .inl ⟨rfl, _, SqL.of k1⟩, use_e R hev fun v H' G2 l2 R2 r => ?_⟩
      obtain ⟨a', u', e2, k2, z2, f2, d2, vs, eu, rl⟩ := R2.sl.own i _ hx
      rw [e1] at e2
      cases e2
      subst eu
      have := rl.length
      refine ⟨a, vs, v, rfl, rfl, k2, by (have hz : sizeLine = 16777216 := by decide); omega, ?_⟩
      exact en G2 σ _ l2 (R2.putOwn hx e1 k2 z2 f2 d2 ⟨_, rfl, rl.append (RpL.cons r RpL.nil)⟩)
    · cases hr
  · cases hr

theorem dkHas_rel {K : PySem.W.Frag} {G : Gh} {kd : D} {ky : Key} (hk : keyD kd = some ky) : ∀ {kvs : List (Key × V)} {xs : List D}, RpL K G xs (flatV kvs) → dkHas kd xs = kvs.any fun kv => decide (kv.1 = ky)
  | [], xs, r => by
    unfold EV.flatV at r
    have := r.length
    cases xs with
    | nil => rfl
    | cons _ _ => simp at this
  | (k', v') :: kvs, xs, r => by
    unfold EV.flatV at r
    match xs, r with
    | [], r => unfold RpL at r; cases r
    | [_], r =>
      have := r.length
      simp at this
    | a :: b :: xs, r =>
      unfold RpL at r
      obtain ⟨v1, r1, e1, q1, q2⟩ := r
      cases e1
      unfold RpL at q2
      obtain ⟨v2, r2, e2, q3, q4⟩ := q2
      cases e2
      unfold dkHas
      rw [dkHas_rel hk q4, List.any_cons, keyD_of_kV q1, hk]
      congr 1
      simp
theorem dkRep_rel {K : PySem.W.Frag} {G : Gh} {kd d : D} {v : V} {ky : Key} (hk : keyD kd = some ky) (rv : Rp K G d v) : ∀ {kvs : List (Key × V)} {xs : List D}, RpL K G xs (flatV kvs) → RpL K G (dkRep kd d xs) (flatV (kvs.map fun kv => if kv.1 = ky then (kv.1, v) else kv))
  | [], xs, r => by
    unfold EV.flatV at r
    have := r.length
    cases xs with
    | nil => unfold dkRep; unfold EV.flatV; simp; exact RpL.nil
    | cons _ _ => simp at this
  | (k', v') :: kvs, xs, r => by
    unfold EV.flatV at r
    match xs, r with
    | [], r => unfold RpL at r; cases r
    | [_], r =>
      have := r.length
      simp at this
    | a :: b :: xs, r =>
      unfold RpL at r
      obtain ⟨v1, r1, e1, q1, q2⟩ := r
      cases e1
      unfold RpL at q2
      obtain ⟨v2, r2, e2, q3, q4⟩ := q2
      cases e2
      have ih := dkRep_rel hk rv q4
      unfold dkRep
      rw [List.map_cons]
      have ek := keyD_of_kV q1
      by_cases hh : k' = ky
      · subst hh
        rw [if_pos (by rw [ek, hk]), if_pos rfl]
        unfold EV.flatV
        exact RpL.cons q1 (RpL.cons rv ih)
      · rw [if_neg (by rw [ek, hk]; exact fun z => hh (Option.some.inj z)), if_neg hh]
        unfold EV.flatV
        exact RpL.cons q1 (RpL.cons q3 ih)
theorem flatV_append (a b : List (Key × V)) : flatV (a ++ b) = flatV a ++ flatV b := by
  induction a with
  | nil => rfl
  | cons p a ih => obtain ⟨k, v⟩ := p; simp only [List.cons_append, EV.flatV]; rw [ih]
theorem flatV_length (a : List (Key × V)) : (flatV a).length = 2 * a.length := by
  induction a with
  | nil => rfl
  | cons p a ih => obtain ⟨k, v⟩ := p; simp only [EV.flatV, List.length_cons]; omega
theorem dkPut_rel {K : PySem.W.Frag} {G : Gh} {kd d : D} {v : V} {ky : Key} (hk : keyD kd = some ky) (rk : Rp K G kd (kV ky)) (rv : Rp K G d v) {kvs : List (Key × V)} {xs : List D} (r : RpL K G xs (flatV kvs)) : RpL K G (dkPut kd d xs) (flatV (putK kvs ky v)) := by
  unfold dkPut putK
  rw [dkHas_rel hk r]
  split
  · rename_i h; exact dkRep_rel hk rv r
  · rename_i h
    rw [flatV_append]
    refine r.append ?_
    unfold EV.flatV EV.flatV
    exact RpL.cons rk (RpL.cons rv RpL.nil)

theorem s_dput {i : Nat} {x : Str} {p p' pos : Pos} {kx v : Expr} {e ke : E} {ns : List Nat} (O : CtxOk X F T C k) (hv : visB F.sc x = true) (hn : nameOk x = true) (hi : F.idx x = some i) (hc : compish v = false) (hk : PE X kx (tEv X.K H0 C ke)) (he : PE X v (tEv X.K H0 C e)) :
    PS X (.Assign [.Subscript (.Name x p) kx p'] v pos) (tSx X.K G0 H0 (ex C W (.dput i ke e ns))) := by
  obtain ⟨h1, h2, _⟩ := nameOk_ok hn
  refine PS.weak (ps_dput O.units1 (pe_var (i := i) (by rw [O.N]; exact idx_get hi) (by rw [O.sc]; exact visB_ok hv) h1 h2) hk he (sw_plain hc)) fun D σ H ⟨ρ, M, G, o, M', hr, R, en⟩ => ?_
  simp only [ex] at hr
  obtain ⟨d, M1, hev, hr⟩ := bd_some hr
  obtain ⟨kd, M2, hek, hr⟩ := bd_some hr
  unfold exPut at hr
  split at hr
  · rename_i xs ky hx hky
    split at hr
    · rename_i hlen
      cases hr
      refine use_e R hev fun v H' G2 l2 R2 r => ?_
      obtain ⟨a, u, e1, _⟩ := R2.sl.own i _ (behind_own hx)
      refine ⟨.ref a, e1, ?_⟩
      obtain ⟨Gv, Rv, le, dr⟩ := R2.view ns
      refine ⟨_, _, _, _, hek, Gv, Rv.rel, fun kv H3 G3 s3 r3 => ?_⟩
      obtain ⟨G4, R4, w, l4⟩ := R2.behind (d := kd) le dr Rv s3
      obtain ⟨a', u', e2, k2, z2, f2, d2, kvs, eu, rl⟩ := R4.sl.own i _ hx
      rw [e1] at e2
      cases e2
      subst eu
      have rv : Rp X.K G4 d v := r.mono l4
      have ek := key_of_rp hky (w _ r3)
      subst ek
      refine ⟨a, _, rfl, DPut.k k2 ?_, en G4 σ _ (l2.trans l4) (R4.putOwn hx e1 k2 z2 f2 d2 ⟨_, rfl, dkPut_rel hky (w _ r3) rv rl⟩)⟩
      have := rl.length
      rw [flatV_length] at this
      (have hz : sizeLine = 16777216 := by decide); omega
    · cases hr
  · cases hr

theorem drawPut_ok {k : DK} {z : Int} {m m' : Draw} (h : drawPut k z m = some m') (la ca : Addr) : ∃ s, dkOf s = some k ∧ putK (drawKvs la ca m) (Sum.inr s : Key) (.int z) = drawKvs la ca m' ∧ m'.large = m.large ∧ m'.cells = m.cells := by
  cases k with
  | rest =>
    simp [drawPut] at h; subst h
    exact ⟨"rest", by decide +kernel, by unfold putK drawKvs kLarge kRest kCells kTurn; simp [nk _ _ ne1, nk _ _ ne4, nk _ _ ne5, nk _ _ ne4.symm, nk _ _ ne5.symm], rfl, rfl⟩
  | turn =>
    simp [drawPut] at h; subst h
    exact ⟨"turn", by decide +kernel, by unfold putK drawKvs kLarge kRest kCells kTurn; simp [nk _ _ ne3, nk _ _ ne5, nk _ _ ne6], rfl, rfl⟩
  | cells => simp [drawPut] at h
def dkName : DK → Str
  | .rest => "rest" | .turn => "turn" | .cells => "cells"
theorem dkOf_val {s : Str} {k : DK} (h : dkOf s = some k) : s = dkName k := by
  unfold dkOf at h
  split at h
  · rename_i e; cases h; exact e
  split at h
  · rename_i e; cases h; exact e
  split at h
  · rename_i e; cases h; exact e
  · cases h
theorem dkOf_inj {s s' : Str} {k : DK} (h : dkOf s = some k) (h' : dkOf s' = some k) : s = s' := (dkOf_val h).trans (dkOf_val h').symm
theorem s_drawSet {i : Nat} {x s : Str} {p p' pos p2 : Pos} {j : Nat} {v : Expr} {dk : DK} {e : E} {ns : List Nat} (O : CtxOk X F T C k) (hv : visB F.sc x = true) (hn : nameOk x = true) (hi : F.idx x = some i) (hc : compish v = false) (hk : dkOf s = some dk) (he : PE X v (tEv X.K H0 C e)) :
    PS X (.Assign [.Subscript (.Name x p) (.Constant (.str s) j p2) p'] v pos) (tSx X.K G0 H0 (ex C W (.drawSet i dk e ns))) := by
  obtain ⟨h1, h2, _⟩ := nameOk_ok hn
  refine PS.weak (ps_dput O.units1 (pe_var (i := i) (by rw [O.N]; exact idx_get hi) (by rw [O.sc]; exact visB_ok hv) h1 h2) pe_str he (sw_plain hc)) fun D σ H ⟨ρ, M, G, o, M', hr, R, en⟩ => ?_
  simp only [ex] at hr
  obtain ⟨d, M1, hev, hr⟩ := bd_some hr
  unfold exDraw at hr
  split at hr
  · rename_i z m hx
    simp only [Option.map_eq_some_iff] at hr
    obtain ⟨m', hm', hr⟩ := hr
    cases hr
    refine use_e R hev fun v H' G2 l2 R2 r => ?_
    obtain ⟨u, e1, r1⟩ := R2.sl.val i _ hx
    obtain ⟨da, la, ca, e2, e3⟩ := r1.of_draw
    subst e3
    obtain ⟨da', la', ca', e', k1, k2, k3, k4, k5⟩ := id R2.st.mst
    rw [e2] at e'; cases e'
    refine ⟨_, e1, da, _, rfl, DPut.k (k := Sum.inr s) k1 (by show 4 < sizeLine; decide), ?_⟩
    obtain ⟨s', hs', hput, hlg, hcl⟩ := drawPut_ok hm' la ca
    have es : s = s' := dkOf_inj hk hs'
    subst es
    rw [r.of_int, hput]
    have inl : da ∈ drA G2 := by unfold drA; rw [e2]; simp
    have hne : la ≠ da := Ne.symm (ne_of k1 k2 (by intro z; cases z))
    refine en G2 σ _ l2 ⟨R2.st.trans ⟨GLe.refl G2, fun _ _ h => .inl h, fun a u h ha => ?_, fun _ h => .inl h, fun a h => ?_, fun a u h => ?_, ?_⟩, ⟨R2.sl.len, R2.sl.val, fun j xs h => ?_, R2.sl.apart⟩⟩
    · rw [upd_ne (fun z => ha (by rw [z]; exact inl))]; exact h
    · by_cases z : a = da
      · subst z; rw [upd_same]; exact fun z => by cases z
      · rw [upd_ne z]; exact h
    · rw [upd_ne (fun z => by rw [z, k4] at h; cases h)]; exact R2.st.low a u h
    · exact ⟨da, la, ca, e2, upd_same, by rw [upd_ne hne, hlg]; exact k2, by rw [hcl]; exact k3, k4, k5⟩
    · obtain ⟨a, u, f1, f2, f3, f4, f5, f6⟩ := R2.sl.own j xs h
      exact ⟨a, u, f1, by rw [upd_ne (fun z => f5 (by rw [z]; exact inl))]; exact f2, f3, f4, f5, f6⟩
  · cases hr
end
end EV

set_option Elab.async false
set_option linter.all false
set_option maxRecDepth 100000
set_option maxHeartbeats 8000000
/-! Branches, loops, blocks. -/
namespace EV
open PySem L2

section
variable {X : Cx} {F : Frm} {T : Tab} {C : Orc} {k W : Nat} {G0 : Gh} {H0 : Hp}

theorem merge_draw (la ca : Addr) (m : Draw) : mergeK [] (drawKvs la ca m) = drawKvs la ca m := by
  unfold mergeK drawKvs putK kLarge kRest kCells kTurn
  simp [nk _ _ ne1, nk _ _ ne2, nk _ _ ne3, nk _ _ ne4, nk _ _ ne5, nk _ _ ne6]

theorem s_retDraw {i : Nat} {x : Str} {p p2 p4 dp pos : Pos} {j2 j4 : Nat} {k1 k2 k3 k4 c : Expr} {e : E} {ns : List Nat} (O : CtxOk X F T C k) (hv : visB F.sc x = true) (hn : nameOk x = true) (hi : F.idx x = some i)
    (e1 : strC k1 = some "large") (e2 : strC k2 = some "rest") (e3 : strC k3 = some "cells") (e4 : strC k4 = some "turn") (he : PE X c (tEv X.K H0 C e)) :
    PS X (.Return (some (.Dict [some k1, some k2, some k3, some k4] [.Name x p, .Constant (.int 0) j2 p2, c, .Constant (.int 0) j4 p4] dp)) pos) (tSx X.K G0 H0 (ex C W (.retDraw i e ns))) := by
  obtain ⟨h1, h2, _⟩ := nameOk_ok hn
  refine PS.weak (ps_ret (pe_disp (pps_cons (strC_ok e1) (pe_var (i := i) (by rw [O.N]; exact idx_get hi) (by rw [O.sc]; exact visB_ok hv) h1 h2) (pps_cons (strC_ok e2) pe_int (pps_cons (strC_ok e3) he (pps_cons (strC_ok e4) pe_int pps_nil)))) rfl rfl (by simp) (by simp)))
    fun D σ H ⟨ρ, M, G, o, M', hr, R, en⟩ => ?_
  simp only [ex] at hr
  obtain ⟨d, M1, hev, hr⟩ := bd_some hr
  split at hr
  · cases hr
  unfold exRetD at hr
  split at hr
  · rename_i xs cs hx
    split at hr
    · rename_i l cells hl hcs
      cases hr
      obtain ⟨Gv, Rv, le, dr⟩ := R.view ns
      intro p hp
      have sl := Step.lay (o := .dK []) Rv.st.low Rv.st.mst hp
      have R1 := Rv.step sl
      have fp : Gv.Fz p = none := Rv.st.low.fz_none hp
      have np : p ∉ drA Gv := notin_dr Rv.st.mst hp
      obtain ⟨a, u, ea, ha, h0a, fa, na, vs, eu, rl⟩ := R1.sl.own i _ hx
      subst eu
      refine ⟨.ref a, ea, ?_⟩
      refine ⟨_, _, _, _, hev, Gv, R1.rel, fun v H2 G2 s2 r2 => ?_⟩
      obtain ⟨ca, us, ev, sq, rc⟩ := r2.of_lst
      subst ev
      obtain ⟨hp2, fp2, np2⟩ := s2.owned (upd_same (H := H) (a := p) (o := .dK [])) fp np
      obtain ⟨ha2, fa2, na2⟩ := s2.owned ha fa na
      have hvs := allInt_rp hl rl
      have hus := allInt_rp hcs rc
      subst hvs hus
      refine ⟨hp2, drawKvs a ca ⟨l, 0, cells, 0⟩, rfl, by show 4 ≤ 15; decide, ?_⟩
      rw [merge_draw]
      have ts := R1.st.trans s2
      have d2 : G2.dr = none := s2.mst
      have hne : a ≠ p := by
        obtain ⟨a', u', ea', ha', _⟩ := Rv.sl.own i _ hx
        rw [ea] at ea'; cases ea'
        exact ne_of_none ha' hp
      have h0p : H0 p = none := Rv.new0 hp
      refine en ⟨G2.Fz, some (p, a, ca)⟩ (.ref p) _ ⟨⟨ts.le.fz, fun x hx => ?_⟩, ts.new, fun b o hb hd => ?_, fun b hb => ?_, fun b hb => ?_, fun b o hb => ?_, ?_⟩ (by unfold Rp; exact ⟨p, a, ca, rfl, rfl⟩)
      · have := ts.le.dr x hx
        rw [d2] at this; cases this
      · rw [upd_ne (ne_of_none hb h0p)]
        exact ts.fr b o hb hd
      · have : b = p ∨ b = a := by unfold drA at hb; simpa using hb
        rcases this with rfl | rfl
        · exact .inr h0p
        · exact .inr h0a
      · by_cases z : b = p
        · subst z; rw [upd_same]; exact fun z => by cases z
        · rw [upd_ne z]; exact ts.kp b hb
      · rw [upd_ne (fun z => by rw [z] at hb; have hb : G2.Fz p = some o := hb; rw [fp2] at hb; cases hb)]
        exact ts.low b o hb
      · exact ⟨p, a, ca, rfl, upd_same, by rw [upd_ne hne]; exact ha2, sq, fp2, fa2⟩
    · cases hr
  · cases hr

theorem s_ite {c : Expr} {p q : List Stmt} {c' : E} {ns : List Nat} {a b : Ss} {pos : Pos} (hc : PT X c (tEvT X.K H0 C c')) (ha : PSs X p (tSx X.K G0 H0 (exs C W a))) (hb : PSs X q (tSx X.K G0 H0 (exs C W b))) : PS X (.If c p q pos) (tSx X.K G0 H0 (ex C W (.ite c' ns a b))) := by
  refine PS.weak (ps_if hc ha hb) fun D σ H ⟨ρ, M, G, o, M', hr, R, en⟩ => ?_
  simp only [ex] at hr
  obtain ⟨d, M1, hev, hr⟩ := bd_some hr
  have up : ∀ G2, GLe G G2 → ends X.K G0 H0 G2 D o M' := fun G2 l => by
    cases o with
    | nx ρ' => exact fun G' σ' H' l' R' => en G' σ' H' (l.trans l') R'
    | brk ρ' => exact fun G' σ' H' l' R' => en G' σ' H' (l.trans l') R'
    | cnt ρ' => exact fun G' σ' H' l' R' => en G' σ' H' (l.trans l') R'
    | ret d => exact en
  split at hr
  · refine use_t R hev fun H' G2 l R2 => ?_
    exact iteT ⟨_, _, G2, o, M', hr, R2, up G2 l⟩
  · refine use_t R hev fun H' G2 l R2 => ?_
    exact iteF ⟨_, _, G2, o, M', hr, R2, up G2 l⟩
  · cases hr
theorem ends_up {K : PySem.W.Frag} {G G2 : Gh} {D : Ends} {o : Out} {M' : Mst} (l : GLe G G2) (en : ends K G0 H0 G D o M') : ends K G0 H0 G2 D o M' := by
  cases o with
  | nx ρ' => exact fun G' σ' H' l' R' => en G' σ' H' (l.trans l') R'
  | brk ρ' => exact fun G' σ' H' l' R' => en G' σ' H' (l.trans l') R'
  | cnt ρ' => exact fun G' σ' H' l' R' => en G' σ' H' (l.trans l') R'
  | ret d => exact en

theorem s_for {tg it : Expr} {body : List Stmt} {t' : Tgt} {i' : Itr} {ns : List Nat} {b' : Ss} {pos : Pos} (O : CtxOk X F T C k) (hi : PI X tg it (tEvI X.K H0 C i')) (hg : PG X tg (tGx X.K H0 t')) (hb : PSs X body (tSx X.K G0 H0 (exs C W b'))) (hs : ∀ x, foldedSetIterable it X.env x = pure x) :
    PS X (.For tg it body [] pos) (tSx X.K G0 H0 (ex C W (.for_ t' i' ns b'))) := by
  refine PS.weak (ps_for (by rw [O.xe]; exact PassesOwn.never) O.calm hi hg hb hs) fun D σ H ⟨ρ, M, G, o, M', hr, R, en⟩ => ?_
  simp only [ex] at hr
  obtain ⟨items, M1, hev, hr⟩ := bdL_some hr
  obtain ⟨Gv, Rv, le, dr⟩ := R.view ns
  refine ⟨_, _, _, _, hev, Gv, Rv.rel, fun J H1 G1 s1 Wk => ?_⟩
  generalize hf : (fun (ρ : Env) d M => match bindT t' d ρ with
        | some ρ' => exs C W b' ρ' M
        | none => none) = f at hr
  have l1 : GLe G G1 := le.trans s1.le
  refine ⟨fun i m σ H => m = items.length - i ∧ i ≤ items.length ∧ ∃ ρ M G2, GLe G1 G2 ∧ Fr X.K G0 H0 ρ M G2 σ H ∧ floop f (items.drop i) ρ M = some (o, M'), ⟨_, rfl, Nat.zero_le _, _, _, G1, GLe.refl G1, Rv.step s1, hr⟩, ?_⟩
  rintro i m σ2 H2 ⟨rfl, hle, ρ2, M2, G2, l2, R2, hl⟩
  by_cases hlt : i < items.length
  · refine .inr ⟨Wk.go i H2 hlt (Low.le l2 R2.st.low), fun σ' H' => i + 1 ≤ items.length ∧ ∃ ρ M G2, GLe G1 G2 ∧ Fr X.K G0 H0 ρ M G2 σ' H' ∧ floop f (items.drop (i + 1)) ρ M = some (o, M'), fun σ' H' p => ⟨_, by omega, rfl, p.1, p.2⟩, fun x H3 y => ?_⟩
    have hget : items[i]? = some items[i] := List.getElem?_eq_getElem hlt
    obtain ⟨G3, s3, r3⟩ := Wk.yld i H2 x H3 G2 items[i] M2 hget l2 R2.st.low R2.st.mst y
    have R3 := R2.step s3
    rw [List.drop_eq_getElem_cons hlt] at hl
    unfold floop at hl
    have hfd : f ρ2 items[i] M2 = match bindT t' items[i] ρ2 with
        | some ρ' => exs C W b' ρ' M2
        | none => none := by rw [← hf]
    rw [hfd] at hl
    cases hbt : bindT t' items[i] ρ2 with
    | none => rw [hbt] at hl; simp at hl
    | some ρ3 =>
      rw [hbt] at hl
      simp only at hl
      refine ⟨ρ2, ρ3, items[i], G3, hbt, R3.sl, R3.st.low, r3, fun σ3 S3 _ => ?_⟩
      have R4 : Fr X.K G0 H0 ρ3 M2 G3 σ3 H3 := ⟨R3.st, S3⟩
      cases hx : exs C W b' ρ3 M2 with
      | none => rw [hx] at hl; simp at hl
      | some om =>
        obtain ⟨o1, M4⟩ := om
        rw [hx] at hl
        refine ⟨ρ3, M2, G3, o1, M4, hx, R4, ?_⟩
        have l3 := l2.trans s3.le
        cases o1 with
        | nx ρ' =>
          simp only at hl
          exact fun G' σ' H' l' R' => ⟨hlt, ρ', M4, G', l3.trans l', R', hl⟩
        | cnt ρ' =>
          simp only at hl
          exact fun G' σ' H' l' R' => ⟨hlt, ρ', M4, G', l3.trans l', R', hl⟩
        | brk ρ' =>
          simp only [Option.some.injEq, Prod.mk.injEq] at hl
          obtain ⟨e1, e2⟩ := hl
          subst e1 e2
          exact fun G' σ' H' l' R' => en G' σ' H' ((l1.trans l3).trans l') R'
        | ret d =>
          simp only [Option.some.injEq, Prod.mk.injEq] at hl
          obtain ⟨e1, e2⟩ := hl
          subst e1 e2
          exact en
  · have e : i = items.length := by omega
    subst e
    rw [List.drop_length] at hl
    unfold floop at hl
    cases hl
    exact .inl ⟨Wk.stop H2 (Low.le l2 R2.st.low), en G2 σ2 H2 (l1.trans l2) R2⟩

theorem s_while {c : Expr} {body : List Stmt} {c' : E} {ns : List Nat} {b' : Ss} {pos : Pos} (O : CtxOk X F T C k) (hc : PT X c (tEvT X.K H0 C c')) (hb : PSs X body (tSx X.K G0 H0 (exs C W b'))) :
    PS X (.While c body [] pos) (tSx X.K G0 H0 (ex C W (.while_ c' ns b'))) := by
  refine PS.weak (ps_while (by rw [O.xe]; exact PassesOwn.never) hc hb) fun D σ H ⟨ρ, M, G, o, M', hr, R, en⟩ => ?_
  simp only [ex] at hr
  generalize ht : (fun (ρ : Env) M => bd (ev C c' (view ns ρ) M) fun d M1 => match d with
    | .bl b => some (b, behind ns ρ d M M1, M1)
    | _ => none) = t at hr
  refine ⟨fun m σ H => ∃ ρ M G2, GLe G G2 ∧ Fr X.K G0 H0 ρ M G2 σ H ∧ wloop t (fun ρ M => exs C W b' ρ M) m ρ M = some (o, M'), ⟨W, ρ, M, G, GLe.refl G, R, hr⟩, ?_⟩
  rintro m σ2 H2 ⟨ρ2, M2, G2, l2, R2, hl⟩
  cases m with
  | zero => unfold wloop at hl; cases hl
  | succ m =>
    unfold wloop at hl
    have htd : t ρ2 M2 = bd (ev C c' (view ns ρ2) M2) fun d M1 => match d with
      | .bl b => some (b, behind ns ρ2 d M2 M1, M1)
      | _ => none := by rw [← ht]
    cases hev : ev C c' (view ns ρ2) M2 with
    | none => rw [htd, hev] at hl; simp [bd] at hl
    | some dm =>
      obtain ⟨d, M3⟩ := dm
      rw [htd, hev] at hl
      cases d with
      | bl b =>
        simp only [bd] at hl
        refine use_t R2 hev fun H3 G3 l3 R3 => ?_
        cases b with
        | false =>
          simp only [Option.some.injEq, Prod.mk.injEq] at hl
          obtain ⟨e1, e2⟩ := hl
          subst e1 e2
          exact iteF (en G3 σ2 H3 (l2.trans l3) R3)
        | true =>
          simp only at hl
          refine iteT ⟨fun σ' H' => ∃ ρ M G2, GLe G G2 ∧ Fr X.K G0 H0 ρ M G2 σ' H' ∧ wloop t (fun ρ M => exs C W b' ρ M) m ρ M = some (o, M'), fun σ' H' p => ⟨m, Nat.lt_succ_self m, p⟩, ?_⟩
          cases hx : exs C W b' (behind ns ρ2 (.bl true) M2 M3) M3 with
          | none => rw [hx] at hl; simp at hl
          | some om =>
            obtain ⟨o1, M4⟩ := om
            rw [hx] at hl
            refine ⟨_, _, G3, o1, M4, hx, R3, ?_⟩
            cases o1 with
            | nx ρ' =>
              simp only at hl
              exact fun G' σ' H' l' R' => ⟨ρ', M4, G', (l2.trans l3).trans l', R', hl⟩
            | cnt ρ' =>
              simp only at hl
              exact fun G' σ' H' l' R' => ⟨ρ', M4, G', (l2.trans l3).trans l', R', hl⟩
            | brk ρ' =>
              simp only [Option.some.injEq, Prod.mk.injEq] at hl
              obtain ⟨e1, e2⟩ := hl
              subst e1 e2
              exact fun G' σ' H' l' R' => en G' σ' H' ((l2.trans l3).trans l') R'
            | ret d =>
              simp only [Option.some.injEq, Prod.mk.injEq] at hl
              obtain ⟨e1, e2⟩ := hl
              subst e1 e2
              exact en
      | _ => simp [bd] at hl

theorem ss_nil : PSs X [] (tSx X.K G0 H0 (exs C W .nil)) := by
  refine PSs.weak pss_nil fun D σ H ⟨ρ, M, G, o, M', hr, R, en⟩ => ?_
  simp only [exs] at hr
  cases hr
  exact en G σ H (GLe.refl G) R
theorem ss_cons {s : Stmt} {ss : List Stmt} {s' : S} {ss' : Ss} (h1 : PS X s (tSx X.K G0 H0 (ex C W s'))) (h2 : PSs X ss (tSx X.K G0 H0 (exs C W ss'))) : PSs X (s :: ss) (tSx X.K G0 H0 (exs C W (.cons s' ss'))) := by
  refine PSs.weak (pss_cons h1 h2) fun D σ H ⟨ρ, M, G, o, M', hr, R, en⟩ => ?_
  simp only [exs] at hr
  cases hx : ex C W s' ρ M with
  | none => rw [hx] at hr; simp at hr
  | some om =>
    obtain ⟨o1, M1⟩ := om
    rw [hx] at hr
    refine ⟨ρ, M, G, o1, M1, hx, R, ?_⟩
    cases o1 with
    | nx ρ' =>
      simp only at hr
      exact fun G' σ' H' l' R' => ⟨ρ', M1, G', o, M', hr, R', ends_up l' en⟩
    | cnt ρ' => simp only at hr; cases hr; exact en
    | brk ρ' => simp only at hr; cases hr; exact en
    | ret d => simp only at hr; cases hr; exact en
end
end EV

set_option Elab.async false
set_option linter.all false
set_option maxRecDepth 100000
set_option maxHeartbeats 16000000
/-! The evaluator is right at statements. -/
namespace EV
open PySem L2

section
variable {T : Tab} {C : Orc} {k W : Nat} {G0 : Gh} {H0 : Hp}
theorem e_ev {X : Cx} {F : Frm} {n : Nat} {e : Expr} {e' : E} (O : CtxOk X F T C k) (h : compE T n F e = some e') : PE X e (tEv X.K H0 C e') := pe_ev fun _ _ _ _ hv => (sound_all n).e O h hv
theorem t_ev {X : Cx} {F : Frm} {n : Nat} {e : Expr} {e' : E} (O : CtxOk X F T C k) (h : compT T n F e = some e') : PT X e (tEvT X.K H0 C e') := pt_ev fun _ _ _ _ hv => (sound_all n).t O h hv
theorem l_ev {X : Cx} {F : Frm} {n : Nat} {es : List Expr} {e' : List E} (O : CtxOk X F T C k) (h : compL T n F es = some e') (hs : es.any starB = false) : PA X es (tEvL X.K H0 C (esOf e')) := pa_ev fun _ _ _ _ hv => ((sound_all n).l O h hs hv).1
theorem i_ev {X : Cx} {F : Frm} {n : Nat} {tg e : Expr} {e' : Itr} (O : CtxOk X F T C k) (h : compI T n F e = some e') (ht : itTgt e' tg = true) : PI X tg e (tEvI X.K H0 C e') := pi_ev fun _ _ _ _ hv => (sound_all n).i O h ht hv
theorem compE_lc {F : Frm} {n : Nat} {elt : Expr} {gs : List Comprehension} {scope : Scope} {pos : Pos} {e' : E} (h : compE T n F (.ListComp elt gs scope pos) = some e') : ∃ m t it ifs, n = m + 1 ∧ gs = [⟨t, it, ifs, 0⟩] := by
  cases n with
  | zero => simp [compE] at h
  | succ m =>
    unfold compE at h
    split at h
    all_goals first | (rename_i heq; cases heq; done) | (cases h; done) | skip
    all_goals first | (rename_i heq; cases heq; exact ⟨m, _, _, _, rfl, rfl⟩) | skip

theorem stmt_sound : ∀ n, (∀ {X : Cx} {F : Frm} {s : Stmt} {s' : S}, CtxOk X F T C k → compS T n F s = some s' → PS X s (tSx X.K G0 H0 (ex C W s'))) ∧
    (∀ {X : Cx} {F : Frm} {s : List Stmt} {s' : Ss}, CtxOk X F T C k → compSs T n F s = some s' → PSs X s (tSx X.K G0 H0 (exs C W s')))
  | 0 => ⟨fun _ h => by simp [compS] at h, fun _ h => by simp [compSs] at h⟩
  | n + 1 => by
    obtain ⟨ih1, ih2⟩ := stmt_sound n
    refine ⟨fun {X F s s'} O h => ?_, fun {X F s s'} O h => ?_⟩
    · unfold compS at h
      split at h
      · -- drawSet
        split at h
        · rename_i k' i e h1 h2 h3
          split at h
          · rename_i hc
            simp only [Bool.and_eq_true, Bool.not_eq_true', decide_eq_true_eq] at hc
            cases h
            exact s_drawSet O hc.1.1.1 hc.1.1.2 h2 hc.1.2 h1 (e_ev O h3)
          · cases h
        · cases h
      · -- dput
        split at h
        · rename_i i k' e h1 h2 h3
          split at h
          · rename_i hc
            simp only [Bool.and_eq_true, Bool.not_eq_true', decide_eq_true_eq] at hc
            cases h
            exact s_dput O hc.1.1.1.1 hc.1.1.1.2 h1 hc.1.1.2 (e_ev O h2) (e_ev O h3)
          · cases h
        · cases h
      · -- newK
        split at h
        · rename_i i h1
          split at h
          · rename_i hl
            cases h
            exact s_newK O hl h1
          · cases h
        · cases h
      · -- name
        rename_i x p v pos _
        split at h
        · rename_i i e h1 h2
          split at h
          · rename_i hl
            split at h
            · rename_i hf
              cases h
              refine s_fresh fun ρ M xs M' hev => ?_
              obtain ⟨l1, l2⟩ := locB_ok O.sc O.fn hl
              have plain : swapsWith v (some (.Name x p)) pos.line X.env = pure false → PS X (.Assign [.Name x p] v pos) (tAsg (tJF X.K H0 ρ M xs M') (gName i)) := fun hsw =>
                ps_set (by rw [O.N]; exact O.nd) (by rw [O.N]; exact idx_get h1) l1 ((sound_all n).f O h2 hf hev) hsw l2
              by_cases hc : compish v = false
              · exact plain (sw_plain hc)
              · cases v <;> first | (exact absurd rfl hc) | skip
                · rename_i elt gs scope ps _
                  obtain ⟨m, t, it, ifs, rfl, rfl⟩ := compE_lc h2
                  by_cases hb : (X.env.blockKind == .function && X.env.kindOf x == some .local && p.line == ps.line && !(scope.names.any fun (n, k) => n == x && (k == .local || k == .cell))) = true
                  · have hyl : F.sc.names.lookup x = some .local := by
                      simp only [Bool.and_eq_true, beq_iff_eq] at hb
                      have := hb.1.1.2
                      have : X.env.scope.names.lookup x = some .local := this
                      rw [← O.sc]; exact this
                    exact comp_okS (sound_all m) O h2 hev h1 hyl (by rw [sw_comp, hb])
                  · exact plain (by rw [sw_comp, Bool.not_eq_true _ |>.mp hb])
                · exfalso
                  cases n <;> simp [compE] at h2
                · exfalso
                  cases n <;> simp [compE] at h2
            · split at h
              · cases h
              · rename_i hc
                cases h
                exact s_name O hl h1 (by simpa using hc) (e_ev O h2)
          · cases h
        · cases h
      · -- tuple = tuple
        split at h
        · split at h
          · split at h
            · rename_i hp
              split at h
              · rename_i i j l h1 h2 h3
                split at h
                · rename_i hij
                  cases h
                  exact s_par2 O hp h1 h2 hij (l_ev O h3 (par_parts hp).2.2.2.1)
                · cases h
              · cases h
            · cases h
          · split at h
            · rename_i hp
              split at h
              · rename_i i j m l h1 h2 h3 h4
                split at h
                · rename_i hij
                  cases h
                  exact s_par3 O hp h1 h2 h3 hij.1 hij.2.1 hij.2.2 (l_ev O h4 (par_parts hp).2.2.2.1)
                · cases h
              · cases h
            · cases h
          · cases h
        · rename_i hn
          split at h
          · rename_i t e h1 h2
            cases h
            exact s_tgt O ((target_ok (T := T) (C := C) (k := k) (H0 := H0) n).1 O h1) rfl (ss_tup O.sc (by simpa using hn)) (e_ev O h2)
          · cases h
      · -- tuple = value
        split at h
        · cases h
        · rename_i hn
          simp only [Bool.or_eq_true, not_or, Bool.not_eq_true] at hn
          split at h
          · rename_i t e h1 h2
            cases h
            exact s_tgt O ((target_ok (T := T) (C := C) (k := k) (H0 := H0) n).1 O h1) hn.2 (ss_plain hn.1) (e_ev O h2)
          · cases h
      · -- append
        split at h
        · rename_i hm
          obtain ⟨hm1, hm2⟩ := hm
          subst hm1
          split at h
          · rename_i i e h1 h2
            split at h
            · rename_i hc
              simp only [Bool.and_eq_true, Bool.not_eq_true'] at hc
              cases h
              exact s_append O hc.1.1 hc.1.2 h1 hc.2 hm2 (e_ev O h2)
            · cases h
          · cases h
        · cases h
      · cases h
        exact s_pass ps_doc
      · simp only [Option.map_eq_some_iff] at h
        obtain ⟨e, h1, rfl⟩ := h
        exact s_expr rfl (e_ev O h1)
      · -- the draws
        split at h
        · rename_i a1 a2 a3 a4 i e g1 g2 g3 g4 h1 h2
          split at h
          · rename_i hc
            simp only [Bool.and_eq_true, decide_eq_true_eq] at hc
            cases h
            obtain ⟨⟨⟨⟨⟨c1, c2⟩, c3⟩, c4⟩, c5⟩, c6⟩ := hc
            subst c3 c4 c5 c6
            exact s_retDraw O c1 c2 h1 g1 g2 g3 g4 (e_ev O h2)
          · cases h
        · cases h
      · simp only [Option.map_eq_some_iff] at h
        obtain ⟨e, h1, rfl⟩ := h
        exact s_ret (e_ev O h1)
      · cases h; exact s_retN
      · split at h
        · rename_i c' a' b' h1 h2 h3
          cases h
          exact s_ite (t_ev O h1) (ih2 O h2) (ih2 O h3)
        · cases h
      · split at h
        · cases h
        · rename_i hs
          split at h
          · rename_i t' i' b' h1 h2 h3
            split at h
            · rename_i ht
              cases h
              exact s_for O (i_ev O h2 ht) ((target_ok (T := T) (C := C) (k := k) (H0 := H0) n).1 O h1) (ih2 O h3) (notSet (by simpa using hs) _)
            · cases h
          · cases h
      · split at h
        · rename_i c' b' h1 h2
          cases h
          exact s_while O (t_ev O h1) (ih2 O h2)
        · cases h
      · cases h; exact s_brk
      · cases h; exact s_cnt
      · cases h; exact s_pass ps_pass
      · cases h; exact s_never
      · cases h
    · cases s with
      | nil => simp [compSs] at h; subst h; exact ss_nil
      | cons s ss =>
        unfold compSs at h
        split at h
        · rename_i x r h1 h2
          cases h
          exact ss_cons (ih1 O h1) (ih2 O h2)
        · cases h
end
end EV

set_option Elab.async false
set_option linter.all false
set_option maxRecDepth 100000
set_option maxHeartbeats 8000000
/-! Defs, calls, the law's end. -/
namespace EV
open PySem L2

/-- a def of the program: its name, text, names (parameters first), parameters, its body in the core language -/
structure DefI where
  x : Str
  st : Stmt
  N : List Str
  ps : List Str
  body : Ss

def fnsOf (ds : List DefI) : List Fn := ds.map fun d => ⟨d.ps.length, d.N.length, d.body⟩
def numsFrom : Nat → List DefI → List (Str × Nat)
  | _, [] => []
  | i, d :: ds => (d.x, i) :: numsFrom (i + 1) ds
/-- what the kernel sees of a def by itself -/
structure DefS (T : Tab) (D : DefI) : Prop where
  comp : ∃ n, compSs T n (frmOf D.st D.N) (defBody D.st) = some D.body
  sc : FnScope D.N D.ps (defScope D.st)
/-- what the top has written of a def -/
structure DefD (K : PySem.W.Frag) (mg : Str → Option Value) (D : DefI) : Prop where
  ex : ∃ f fd, L2.Fun K D.x D.x D.st f fd ∧ mg D.x = some (.ref f) ∧ ∀ us : List Value, us.length = D.ps.length → bindArgs fd ⟨us, []⟩ = pure (D.ps.zip us)
structure EnvD (K : PySem.W.Frag) (mg : Str → Option Value) (T : Tab) : Prop where
  consts : ∀ x d, T.consts.lookup x = some d → ∃ u v, mg x = some u ∧ RelV v u ∧ ∀ G, Rp K G d v
  bl : ∀ x ∈ bltNames, mg x = none
  gcd : T.gcd = true → mg "gcd" = some (.builtin "math.gcd")

theorem start_slots {K : PySem.W.Frag} {G : Gh} {H : Hp} {ds : List D} {vs : List V} (r : RpL K G ds vs) (N : List Str) (n : Nat) (hn : n = N.length) :
    Slots K G H H (ds.map (fun d => some (Slot.val d)) ++ List.replicate (n - ds.length) none) (L2.start N vs) := by
  subst hn
  have hl := r.length
  have noOwn : ∀ (i : Nat) (xs : OwnC), (ds.map (fun d => some (Slot.val d)) ++ List.replicate (N.length - ds.length) none)[i]? = some (some (Slot.own xs)) → False := fun i xs h => by
    by_cases hi : i < ds.length
    · rw [List.getElem?_append_left (by simpa using hi), List.getElem?_map] at h
      rw [List.getElem?_eq_getElem hi] at h
      simp at h
    · rw [List.getElem?_append_right (by simpa using hi), List.getElem?_replicate] at h
      split at h <;> simp at h
  refine ⟨?_, fun i d h => ?_, fun i xs h => (noOwn i xs h).elim, fun i j xs ys a _ h _ _ _ => noOwn i xs h⟩
  · unfold L2.start
    simp [hl]
  · by_cases hi : i < ds.length
    · rw [List.getElem?_append_left (by simpa using hi), List.getElem?_map] at h
      cases hd : ds[i]? with
      | none => rw [hd] at h; simp at h
      | some d' =>
        rw [hd] at h
        simp at h
        subst h
        obtain ⟨v, hv, rv⟩ := r.get hd
        refine ⟨v, ?_, rv⟩
        unfold L2.start
        rw [List.getElem?_append_left (by rw [List.length_map]; omega), List.getElem?_map, hv]
        rfl
    · rw [List.getElem?_append_right (by simpa using hi), List.getElem?_replicate] at h
      split at h <;> simp at h

section
variable {P : Program} {w : World} {K : PySem.W.Frag} {mg : Str → Option Value} {base : Heap} {T : Tab} {W : Nat} {ds : List DefI}

theorem callK_len {k f : Nat} {D : DefI} (hD : ds[f]? = some D) : ∀ as M r, callK (fnsOf ds) W k f as M = some r → as.length = D.ps.length := by
  intro as M r h
  cases k with
  | zero => simp [callK] at h
  | succ k =>
    have e : (fnsOf ds)[f]? = some ⟨D.ps.length, D.N.length, D.body⟩ := by unfold fnsOf; rw [List.getElem?_map, hD]; rfl
    unfold callK at h
    rw [e] at h
    simp only at h
    split at h
    · rename_i hl; exact hl
    · cases h

theorem fn_ok {k f : Nat} {D : DefI} {fa : Addr} {fd : FuncData} (TK : TabOk P w K mg base T (callK (fnsOf ds) W k) k) (S : DefS T D) (F : L2.Fun K D.x D.x D.st fa fd) (hD : ds[f]? = some D) :
    FnOk P w K mg base CX0 (k + 1) fa fd D.ps (spD K D.ps.length (callK (fnsOf ds) W (k + 1) f)) := by
  refine F.ok S.sc (fun vs H Q E h => ?_) (fun cdv A outer s H vs Q E hr h => ?_)
  · obtain ⟨G, M, as, r, M', hl, rl, _⟩ := h
    rw [← rl.length, hl]
  · obtain ⟨G, M, as, r, M', hl, rl, low, mst, hc, q⟩ := h
    obtain ⟨n, hcomp⟩ := S.comp
    have O : CtxOk (cxOf CX0 P w K mg base D.N D.x (defScope D.st) fa cdv A outer s H E).nox (frmOf D.st D.N) T (callK (fnsOf ds) W k) k := ⟨rfl, rfl, S.sc.nd, rfl, rfl, rfl, hr, TK⟩
    refine ⟨_, (stmt_sound (W := W) (G0 := G) (H0 := H) n).2 O hcomp, ?_⟩
    have e : (fnsOf ds)[f]? = some ⟨D.ps.length, D.N.length, D.body⟩ := by unfold fnsOf; rw [List.getElem?_map, hD]; rfl
    unfold callK at hc
    rw [e] at hc
    simp only at hc
    rw [if_pos hl] at hc
    have fr : Fr K G H (as.map (fun d => some (Slot.val d)) ++ List.replicate (D.N.length - as.length) none) M G (L2.start D.N vs) H := ⟨Step.refl low mst, start_slots rl D.N _ rfl⟩
    split at hc
    · rename_i d M1 hx
      cases hc
      exact ⟨_, M, G, _, _, hx, fr, fun G' v H' s' r' => q v H' G' s' r'⟩
    · rename_i ρ' M1 hx
      cases hc
      exact ⟨_, M, G, _, _, hx, fr, fun G' σ' H' _ R' => q .non H' G' R'.st Rp.non_⟩
    · cases hc

theorem nums_get : ∀ {ds : List DefI} {i0 : Nat} {x : Str} {i : Nat}, (numsFrom i0 ds).lookup x = some i → ∃ D, ds[i - i0]? = some D ∧ D.x = x ∧ i0 ≤ i
  | [], _, _, _, h => by simp [numsFrom] at h
  | d :: ds, i0, x, i, h => by
    unfold numsFrom at h
    rw [List.lookup_cons] at h
    split at h
    · rename_i he
      cases h
      exact ⟨d, by simp, (eq_of_beq he).symm, Nat.le_refl _⟩
    · obtain ⟨D, h1, h2, h3⟩ := nums_get h
      have e : i - i0 = (i - (i0 + 1)) + 1 := by omega
      exact ⟨D, by rw [e, List.getElem?_cons_succ]; exact h1, h2, by omega⟩

theorem tab_ok (hS : ∀ D ∈ ds, DefS T D) (hF : ∀ D ∈ ds, DefD K mg D) (hE : EnvD K mg T) (hT : T.funs = numsFrom 0 ds) : ∀ k, TabOk P w K mg base T (callK (fnsOf ds) W k) k
  | 0 => by
    refine ⟨hE.consts, fun x f h => ?_, hE.bl, hE.gcd⟩
    rw [hT] at h
    obtain ⟨D, h1, h2, _⟩ := nums_get h
    obtain ⟨fa, fd, F, hm, hb⟩ := (hF D (List.mem_of_getElem? h1)).ex
    subst h2
    refine ⟨fa, fd, D.ps, hm, F.kp, .all hb, ⟨fun vs H Q E h => ?_, fun A outer s H args us vs Q E hr e0 hb r h => ?_⟩, fun as M r h => by simp [callK] at h⟩
    · obtain ⟨G, M, as, r, M', hl, rl, low, mst, hc, q⟩ := h
      simp [callK] at hc
    · obtain ⟨G, M, as, r, M', hl, rl, low, mst, hc, q⟩ := h
      simp [callK] at hc
  | k + 1 => by
    have TK := tab_ok hS hF hE hT k
    refine ⟨hE.consts, fun x f h => ?_, hE.bl, hE.gcd⟩
    rw [hT] at h
    obtain ⟨D, h1, h2, _⟩ := nums_get h
    have hm := List.mem_of_getElem? h1
    obtain ⟨fa, fd, F, hg, hb⟩ := (hF D hm).ex
    subst h2
    exact ⟨fa, fd, D.ps, hg, F.kp, .all hb, fn_ok TK (hS D hm) F (by simpa using h1), callK_len (by simpa using h1)⟩

/-- the law's promise -/
def spLaw (K : PySem.W.Frag) (n : Nat) : Sp := fun vs H Q _ => ∃ (a : Addr) (ns : List Int), vs = [.ref a] ∧ SqL K H a (ns.map V.int) ∧ ns.length ≤ n ∧ ∀ H', Q (.bl true) H'
theorem law_ok {n k f : Nat} {D : DefI} {fa : Addr} {fd : FuncData} (hn : n ≤ sizeLine) (FO : FnOk P w K mg base CX0 k fa fd D.ps (spD K D.ps.length (callK (fnsOf ds) W k f))) (h1 : D.ps.length = 1)
    (hlaw : ∀ ns : List Int, ns.length ≤ n → ∃ M, callK (fnsOf ds) W k f [.lst (ns.map .int)] none = some (.bl true, M)) : FnOk P w K mg base CX0 k fa fd D.ps (spLaw K n) := by
  refine FO.imp fun vs H Q E ⟨a, ns, e, hS, hl, q⟩ => ?_
  obtain ⟨M, hM⟩ := hlaw ns hl
  subst e
  refine ⟨⟨H, none⟩, none, [.lst (ns.map .int)], _, _, h1.symm, RpL.cons (Rp.lst_ hS RpL.ints) RpL.nil, fun _ _ h => h, rfl, hM, fun v H' G' _ r => ?_⟩
  rw [r.of_bl]
  exact q H'
end

/-- the law's end, with what stands of the loose names -/
theorem walk_X {l : PySem.W.OpenLaw} {n k : Nat} {q : Program} {loose : List Str} {XP : (Str → Option Value) → Heap → Prop} {YP : World → Heap → Prop} {d : DefRec} {K : Params → PySem.W.Frag} {x : Str}
    (hn : l.most = some n) (hn2 : n ≤ sizeLine) (hdf : d.params.defaults = []) (hr : Room k callerA)
    (hY : ∀ (w : World) (h : Heap), YP w h → (K w.params).In h)
    (F : ∀ (w : World) (mg : Str → Option Value) (fa : Addr) (h : Heap), (K w.params).In h → h.Ns mainGlobals mg → XP mg h → mg d.name = some (.ref fa) →
      ∃ fd : FuncData, (∀ (s : Shared) (u : Value), BindsTo s fd ⟨[u], []⟩ [(x, u)]) ∧
        ∀ base : Heap, (K w.params).In base → base.Ns mainGlobals mg → FnOk l.prog w (K w.params) mg base CX0 k fa fd [x] (spLaw (K w.params) n)) :
    PySem.W.WalkO q loose XP YP l.row.toRowW d [] (fun f vs => PySem.call f vs) := by
  refine Att.attach_call hn hdf fun w s₀ s₁ mg mb fa o pm cd doc a vs ns G Y ho hd hcd hmg hobj hints hlen hg => ?_
  have KX := hY w _ Y
  obtain ⟨fd, hb, hF⟩ := F w mg fa _ KX G.T.g G.X hmg
  exact law_call KX G.T.g G.T.b G.T.builtins G.T.nolimit hg hobj hints (Nat.le_trans hlen hn2) hr hF hb (fun H hO hS => ⟨a, ns, rfl, hS, hlen, fun _ => rfl⟩) fun H e s' h => h

theorem mkD {K : PySem.W.Frag} {mg : Str → Option Value} {h : Heap} {x : Str} {st : Stmt} {N ps : List Str} {body : Ss} {f : Addr} {oc kV doc pm cd ct : Value} {od an : Option Addr} {sl : Array (Option Value)} (X : K.In h) (G : h.Ns mainGlobals mg)
    (a : PySem.W.nsIn K mainGlobals x = some (some (.ref f))) (l : K.lookup f = some ⟨oc, od, .func (PySem.W.fnOf x x (defArgs st) (defBody st) (defScope st) .none kV doc pm an cd ct), sl⟩) (c : PySem.W.codeIn K cd x = true) (k : PySem.W.keepIn K (.ref f) = true)
    (hb : ∀ (kV doc pm : Value) (an : Option Addr) (cdv ct : Value) (us : List Value), us.length = ps.length → bindArgs (PySem.W.fnOf x x (defArgs st) (defBody st) (defScope st) .none kV doc pm an cdv ct) ⟨us, []⟩ = pure (ps.zip us)) :
    DefD K mg ⟨x, st, N, ps, body⟩ := ⟨f, _, fun_mk l c k, PySem.W.mg_of X G a, hb _ _ _ _ _ _⟩
def CstOk (K : PySem.W.Frag) (mg : Str → Option Value) (p : Str × D) : Prop := ∃ u v, mg p.1 = some u ∧ RelV v u ∧ ∀ G, Rp K G p.2 v
theorem cst_int {K : PySem.W.Frag} {mg : Str → Option Value} {h : Heap} {x : Str} {i : Int} {t : Tok} (X : K.In h) (G : h.Ns mainGlobals mg) (a : PySem.W.nsIn K mainGlobals x = some (some (.int i t))) : CstOk K mg (x, .int i) :=
  ⟨_, .int i, PySem.W.mg_of X G a, ⟨_, rfl⟩, fun _ => Rp.int_⟩
theorem cst_tup {K : PySem.W.Frag} {mg : Str → Option Value} {h : Heap} {x : Str} {p : Addr} {is : List Int} {vs : List Value} {od : Option Addr} {n : Nat} {sl : Array (Option Value)} (X : K.In h) (G : h.Ns mainGlobals mg) (a : PySem.W.nsIn K mainGlobals x = some (some (.ref p)))
    (l : K.lookup p = some ⟨.type "tuple", od, .seq vs.toArray n, sl⟩) (hv : Vals (is.map V.int) vs) (hl : vs.length ≤ sizeLine) : CstOk K mg (x, .tup (is.map .int)) :=
  ⟨_, .ref p, PySem.W.mg_of X G a, rfl, fun _ => Rp.tup_ (.inr ⟨_, _, _, l, rfl, rfl, by simpa using hl, by simpa using hv⟩) RpL.ints⟩
/-- a loose name: a whole number as it was read -/
theorem cst_loose {K : PySem.W.Frag} {p : Program} {lv : List (Str × PySem.W.WData)} {mg : Str → Option Value} {h : Heap} {x : Str} {i : Int} (X : PySem.W.XL p lv mg h) (hx : (x, PySem.W.WData.int i) ∈ lv) : CstOk K mg (x, .int i) := by
  obtain ⟨v, e, r⟩ := X.2.val _ hx
  cases r
  exact ⟨_, .int i, e, ⟨_, rfl⟩, fun _ => Rp.int_⟩
theorem lookup_mem {α : Type} : ∀ {l : List (Str × α)} {x : Str} {d : α}, l.lookup x = some d → (x, d) ∈ l
  | [], _, _, h => by simp at h
  | (y, e) :: l, x, d, h => by
    rw [List.lookup_cons] at h
    split at h
    · rename_i he
      cases h
      rw [eq_of_beq he]
      exact List.mem_cons_self
    · exact List.mem_cons_of_mem _ (lookup_mem h)
theorem envD_mk {K : PySem.W.Frag} {mg : Str → Option Value} {T : Tab} (hc : ∀ p ∈ T.consts, CstOk K mg p) (hb : ∀ x ∈ bltNames, mg x = none) (hg : T.gcd = true → mg "gcd" = some (.builtin "math.gcd")) : EnvD K mg T :=
  ⟨fun x d h => hc _ (lookup_mem h), hb, hg⟩
/-- the law's def, over every base -/
theorem law_end {P : Program} {w : World} {K : PySem.W.Frag} {mg : Str → Option Value} {T : Tab} {W k i : Nat} {ds : List DefI} {D : DefI} {fa : Addr} {n : Nat} (hn : n ≤ sizeLine) (hS : ∀ D ∈ ds, DefS T D) (hF : ∀ D ∈ ds, DefD K mg D) (hE : EnvD K mg T) (hT : T.funs = numsFrom 0 ds) (hi : ds[i]? = some D)
    (hm : mg D.x = some (.ref fa)) {x : Str} (hx : D.ps = [x]) (hlaw : ∀ ns : List Int, ns.length ≤ n → ∃ M, callK (fnsOf ds) W (k + 1) i [.lst (ns.map .int)] none = some (.bl true, M)) :
    ∃ fd : FuncData, (∀ (s : Shared) (u : Value), BindsTo s fd ⟨[u], []⟩ [(x, u)]) ∧ ∀ base : Heap, K.In base → base.Ns mainGlobals mg → FnOk P w K mg base CX0 (k + 1) fa fd [x] (spLaw K n) := by
  have hmem := List.mem_of_getElem? hi
  obtain ⟨f, fd, F, hg, hb⟩ := (hF D hmem).ex
  rw [hm] at hg
  cases hg
  rw [hx] at hb
  refine ⟨fd, fun s u => .of_eq (hb [u] rfl), fun base _ _ => ?_⟩
  have FO := fn_ok (P := P) (w := w) (base := base) (tab_ok (W := W) hS hF hE hT k) (hS D hmem) F hi
  have := law_ok hn FO (by rw [hx]; rfl) hlaw
  rw [hx] at this
  exact this
end EV

set_option Elab.async false
set_option linter.all false
set_option maxRecDepth 100000
set_option maxHeartbeats 4000000
namespace L82
open PySem L2 EV
def top (i : Nat) : Stmt := PySem.Challenge.pw_foursteps_k82_across_turns_over_a_prime.main.body.getD i (.Pass ⟨0, 0, 0, 0⟩)
def T : Tab := ⟨[(("is_number" : Str), 0), (("is_short" : Str), 1), (("is_quad_of" : Str), 2), (("need_quad" : Str), 3), (("need_two" : Str), 4), (("short_quad" : Str), 5), (("product_by" : Str), 6), (("plus_by" : Str), 7), (("product" : Str), 8), (("plus" : Str), 9), (("are_three" : Str), 10), (("shortened" : Str), 11), (("across" : Str), 12), (("determinant_of" : Str), 13), (("is_turn_of" : Str), 14), (("unshortened" : Str), 15), (("turn_by" : Str), 16), (("turns_behind" : Str), 17), (("turn_of" : Str), 18), (("turns_then" : Str), 19), (("is_prime" : Str), 20), (("need_prime" : Str), 21), (("need_odd" : Str), 22), (("is_table_of" : Str), 23), (("marks_by" : Str), 24), (("half_by" : Str), 25), (("table_by" : Str), 26), (("then_by" : Str), 27), (("quad_by" : Str), 28), (("table_of" : Str), 29), (("tables_then" : Str), 30), (("quad_of_table" : Str), 31), (("_law_begun" : Str), 32), (("_law_mixed" : Str), 33), (("_law_take" : Str), 34), (("_law_pick" : Str), 35), (("_law_size" : Str), 36), (("_law_quad" : Str), 37), (("_law_some_quad" : Str), 38), (("_law_net_quad" : Str), 39), (("_law_left" : Str), 40), (("law" : Str), 41)],
  [(("FIFTY_DIGITS" : Str), .int (100000000000000000000000000000000000000000000000000)), (("MOST_DIGITS" : Str), .int (200)), (("PARTS" : Str), .int (4)), (("NOUGHT" : Str), .tup [.int (0), .int (0), .int (0), .int (0)]), (("SPACE" : Str), .tup [.int (0), .int (1), .int (2)]), (("MOST_PRIME" : Str), .int (1000))], true⟩
/-- is_number -/
def b0 : Ss := (.cons (.ret (.andV (.blt .isInt (.cons (.var 0) .nil)) (.notV (.blt .isBool (.cons (.var 0) .nil)))) [0]) .nil)
abbrev D0 : DefI := ⟨"is_number", top 15, [("thing" : Str)], [("thing" : Str)], b0⟩
theorem s0 : DefS T D0 := ⟨⟨300, by kernel_rfl⟩, ⟨rfl, rfl, rfl, by decide +kernel, rfl, by decide +kernel, by decide +kernel⟩⟩
/-- is_short -/
def b1 : Ss := (.cons (.ret (.andV (.call 0 (.cons (.var 0) .nil)) (.cmp .lt (.blt .abs (.cons (.var 0) .nil)) (.bin .pow (.const (.int (100000000000000000000000000000000000000000000000000))) (.const (.int (4)))))) [0]) .nil)
abbrev D1 : DefI := ⟨"is_short", top 16, [("thing" : Str)], [("thing" : Str)], b1⟩
theorem s1 : DefS T D1 := ⟨⟨300, by kernel_rfl⟩, ⟨rfl, rfl, rfl, by decide +kernel, rfl, by decide +kernel, by decide +kernel⟩⟩
/-- is_quad_of -/
def b2 : Ss := (.cons (.ite (.orV (.notV (.tru (.blt .isTuple (.cons (.var 0) .nil)))) (.orV (.cmp .ne (.blt .len (.cons (.var 0) .nil)) (.const (.int (4)))) (.notV (.tru (.blt .allL (.cons (.comp (.call 1 (.cons (.var 1) .nil)) (.name 1) (.seq (.var 0)) .nil [1]) .nil)))))) [0] (.cons (.ret (.const (.bl false)) []) .nil) .nil) (.cons (.ret (.blt .allL (.cons (.comp (.cmp .eq (.bin .mod (.bin .sub (.var 1) (.idx (.var 0) (.const (.int (0))))) (.const (.int (2)))) (.const (.int (0)))) (.name 1) (.seq (.var 0)) .nil [1]) .nil)) [0]) .nil))
abbrev D2 : DefI := ⟨"is_quad_of", top 17, [("thing" : Str), ("number" : Str)], [("thing" : Str)], b2⟩
theorem s2 : DefS T D2 := ⟨⟨300, by kernel_rfl⟩, ⟨rfl, rfl, rfl, by decide +kernel, rfl, by decide +kernel, by decide +kernel⟩⟩
/-- need_quad -/
def b3 : Ss := (.cons (.ite (.notV (.tru (.call 2 (.cons (.var 0) .nil)))) [0] (.cons .never .nil) .nil) .nil)
abbrev D3 : DefI := ⟨"need_quad", top 18, [("quad" : Str)], [("quad" : Str)], b3⟩
theorem s3 : DefS T D3 := ⟨⟨300, by kernel_rfl⟩, ⟨rfl, rfl, rfl, by decide +kernel, rfl, by decide +kernel, by decide +kernel⟩⟩
/-- need_two -/
def b4 : Ss := (.cons (.ite (.notV (.tru (.call 2 (.cons (.var 0) .nil)))) [0] (.cons .never .nil) .nil) (.cons (.ite (.notV (.tru (.call 2 (.cons (.var 1) .nil)))) [1] (.cons .never .nil) .nil) .nil))
abbrev D4 : DefI := ⟨"need_two", top 19, [("one" : Str), ("other" : Str)], [("one" : Str), ("other" : Str)], b4⟩
theorem s4 : DefS T D4 := ⟨⟨300, by kernel_rfl⟩, ⟨rfl, rfl, rfl, by decide +kernel, rfl, by decide +kernel, by decide +kernel⟩⟩
/-- short_quad -/
def b5 : Ss := (.cons (.ite (.notV (.tru (.blt .allL (.cons (.comp (.call 1 (.cons (.var 1) .nil)) (.name 1) (.seq (.var 0)) .nil [1]) .nil)))) [0] (.cons .never .nil) .nil) (.cons (.ret (.var 0) [0]) .nil))
abbrev D5 : DefI := ⟨"short_quad", top 20, [("quad" : Str), ("number" : Str)], [("quad" : Str)], b5⟩
theorem s5 : DefS T D5 := ⟨⟨300, by kernel_rfl⟩, ⟨rfl, rfl, rfl, by decide +kernel, rfl, by decide +kernel, by decide +kernel⟩⟩
/-- product_by -/
def b6 : Ss := (.cons (.asg (.tup [(.tup [(.name 2), (.name 3), (.name 4), (.name 5)]), (.tup [(.name 6), (.name 7), (.name 8), (.name 9)])]) (.tup (.cons (.var 0) (.cons (.var 1) .nil))) [0, 1]) (.cons (.ret (.tup (.cons (.bin .fdiv (.bin .sub (.bin .sub (.bin .sub (.bin .mul (.var 2) (.var 6)) (.bin .mul (.var 3) (.var 7))) (.bin .mul (.var 4) (.var 8))) (.bin .mul (.var 5) (.var 9))) (.const (.int (2)))) (.cons (.bin .fdiv (.bin .sub (.bin .add (.bin .add (.bin .mul (.var 2) (.var 7)) (.bin .mul (.var 3) (.var 6))) (.bin .mul (.var 4) (.var 9))) (.bin .mul (.var 5) (.var 8))) (.const (.int (2)))) (.cons (.bin .fdiv (.bin .add (.bin .add (.bin .sub (.bin .mul (.var 2) (.var 8)) (.bin .mul (.var 3) (.var 9))) (.bin .mul (.var 4) (.var 6))) (.bin .mul (.var 5) (.var 7))) (.const (.int (2)))) (.cons (.bin .fdiv (.bin .add (.bin .sub (.bin .add (.bin .mul (.var 2) (.var 9)) (.bin .mul (.var 3) (.var 8))) (.bin .mul (.var 4) (.var 7))) (.bin .mul (.var 5) (.var 6))) (.const (.int (2)))) .nil))))) [2, 6, 3, 7, 4, 8, 5, 9]) .nil))
abbrev D6 : DefI := ⟨"product_by", top 21, [("one" : Str), ("other" : Str), ("a" : Str), ("b" : Str), ("c" : Str), ("d" : Str), ("e" : Str), ("f" : Str), ("g" : Str), ("h" : Str)], [("one" : Str), ("other" : Str)], b6⟩
theorem s6 : DefS T D6 := ⟨⟨300, by kernel_rfl⟩, ⟨rfl, rfl, rfl, by decide +kernel, rfl, by decide +kernel, by decide +kernel⟩⟩
/-- plus_by -/
def b7 : Ss := (.cons (.ret (.blt .tuple1 (.cons (.comp (.bin .add (.var 3) (.bin .mul (.var 2) (.var 4))) (.tup [(.name 3), (.name 4)]) (.zip2 (.var 0) (.var 1)) .nil [3, 4]) .nil)) [0, 1, 2]) .nil)
abbrev D7 : DefI := ⟨"plus_by", top 22, [("one" : Str), ("other" : Str), ("many" : Str), ("first" : Str), ("second" : Str)], [("one" : Str), ("other" : Str), ("many" : Str)], b7⟩
theorem s7 : DefS T D7 := ⟨⟨300, by kernel_rfl⟩, ⟨rfl, rfl, rfl, by decide +kernel, rfl, by decide +kernel, by decide +kernel⟩⟩
/-- product -/
def b8 : Ss := (.cons (.expr (.call 4 (.cons (.var 0) (.cons (.var 1) .nil))) [0, 1]) (.cons (.ret (.call 5 (.cons (.call 6 (.cons (.var 0) (.cons (.var 1) .nil))) .nil)) [0, 1]) .nil))
abbrev D8 : DefI := ⟨"product", top 23, [("one" : Str), ("other" : Str)], [("one" : Str), ("other" : Str)], b8⟩
theorem s8 : DefS T D8 := ⟨⟨300, by kernel_rfl⟩, ⟨rfl, rfl, rfl, by decide +kernel, rfl, by decide +kernel, by decide +kernel⟩⟩
/-- plus -/
def b9 : Ss := (.cons (.expr (.call 4 (.cons (.var 0) (.cons (.var 1) .nil))) [0, 1]) (.cons (.ite (.notV (.tru (.call 1 (.cons (.var 2) .nil)))) [2] (.cons .never .nil) .nil) (.cons (.ret (.call 5 (.cons (.call 7 (.cons (.var 0) (.cons (.var 1) (.cons (.var 2) .nil)))) .nil)) [0, 1, 2]) .nil)))
abbrev D9 : DefI := ⟨"plus", top 24, [("one" : Str), ("other" : Str), ("many" : Str)], [("one" : Str), ("other" : Str), ("many" : Str)], b9⟩
theorem s9 : DefS T D9 := ⟨⟨300, by kernel_rfl⟩, ⟨rfl, rfl, rfl, by decide +kernel, rfl, by decide +kernel, by decide +kernel⟩⟩
/-- are_three -/
def b10 : Ss := (.cons (.ret (.andV (.blt .isTuple (.cons (.var 0) .nil)) (.andV (.cmp .eq (.blt .len (.cons (.var 0) .nil)) (.blt .len (.cons (.const (.tup [.int (0), .int (1), .int (2)])) .nil))) (.blt .allL (.cons (.comp (.call 0 (.cons (.var 1) .nil)) (.name 1) (.seq (.var 0)) .nil [1]) .nil)))) [0]) .nil)
abbrev D10 : DefI := ⟨"are_three", top 27, [("thing" : Str), ("one" : Str)], [("thing" : Str)], b10⟩
theorem s10 : DefS T D10 := ⟨⟨300, by kernel_rfl⟩, ⟨rfl, rfl, rfl, by decide +kernel, rfl, by decide +kernel, by decide +kernel⟩⟩
/-- shortened -/
def b11 : Ss := (.cons (.asg (.name 2) (.var 0) [0]) (.cons (.for_ (.name 3) (.seq (.var 1)) [1] (.cons (.for_ (.name 4) (.seq (.var 3)) [3] (.cons (.asg (.name 2) (.blt .gcd2 (.cons (.var 2) (.cons (.var 4) .nil))) [2, 4]) .nil)) .nil)) (.cons (.ret (.tup (.cons (.bin .fdiv (.var 0) (.var 2)) (.cons (.blt .tuple1 (.cons (.comp (.blt .tuple1 (.cons (.comp (.bin .fdiv (.var 4) (.var 2)) (.name 4) (.seq (.var 3)) .nil [4]) .nil)) (.name 3) (.seq (.var 1)) .nil [3]) .nil)) .nil))) [0, 2, 1]) .nil)))
abbrev D11 : DefI := ⟨"shortened", top 28, [("below" : Str), ("rows" : Str), ("whole" : Str), ("row" : Str), ("number" : Str)], [("below" : Str), ("rows" : Str)], b11⟩
theorem s11 : DefS T D11 := ⟨⟨300, by kernel_rfl⟩, ⟨rfl, rfl, rfl, by decide +kernel, rfl, by decide +kernel, by decide +kernel⟩⟩
/-- across -/
def b12 : Ss := (.cons (.ret (.blt .sumL (.cons (.comp (.bin .mul (.var 2) (.var 3)) (.tup [(.name 2), (.name 3)]) (.zip2 (.var 0) (.var 1)) .nil [2, 3]) .nil)) [0, 1]) .nil)
abbrev D12 : DefI := ⟨"across", top 29, [("one" : Str), ("other" : Str), ("mine" : Str), ("late" : Str)], [("one" : Str), ("other" : Str)], b12⟩
theorem s12 : DefS T D12 := ⟨⟨300, by kernel_rfl⟩, ⟨rfl, rfl, rfl, by decide +kernel, rfl, by decide +kernel, by decide +kernel⟩⟩
/-- determinant_of -/
def b13 : Ss := (.cons (.asg (.tup [(.tup [(.name 1), (.name 2), (.name 3)]), (.tup [(.name 4), (.name 5), (.name 6)]), (.tup [(.name 7), (.name 8), (.name 9)])]) (.var 0) [0]) (.cons (.ret (.bin .add (.bin .sub (.bin .mul (.var 1) (.bin .sub (.bin .mul (.var 5) (.var 9)) (.bin .mul (.var 6) (.var 8)))) (.bin .mul (.var 2) (.bin .sub (.bin .mul (.var 4) (.var 9)) (.bin .mul (.var 6) (.var 7))))) (.bin .mul (.var 3) (.bin .sub (.bin .mul (.var 4) (.var 8)) (.bin .mul (.var 5) (.var 7))))) [1, 5, 9, 6, 8, 2, 4, 7, 3]) .nil))
abbrev D13 : DefI := ⟨"determinant_of", top 30, [("rows" : Str), ("a" : Str), ("b" : Str), ("c" : Str), ("d" : Str), ("e" : Str), ("f" : Str), ("g" : Str), ("h" : Str), ("i" : Str)], [("rows" : Str)], b13⟩
theorem s13 : DefS T D13 := ⟨⟨300, by kernel_rfl⟩, ⟨rfl, rfl, rfl, by decide +kernel, rfl, by decide +kernel, by decide +kernel⟩⟩
/-- is_turn_of -/
def b14 : Ss := (.cons (.ite (.orV (.notV (.tru (.blt .isTuple (.cons (.var 0) .nil)))) (.orV (.cmp .ne (.blt .len (.cons (.var 0) .nil)) (.const (.int (2)))) (.orV (.notV (.tru (.call 0 (.cons (.idx (.var 0) (.const (.int (0)))) .nil)))) (.cmp .lt (.idx (.var 0) (.const (.int (0)))) (.const (.int (1))))))) [0] (.cons (.ret (.const (.bl false)) []) .nil) .nil) (.cons (.asg (.tup [(.name 2), (.name 3)]) (.var 0) [0]) (.cons (.ite (.orV (.notV (.tru (.blt .isTuple (.cons (.var 3) .nil)))) (.orV (.cmp .ne (.blt .len (.cons (.var 3) .nil)) (.blt .len (.cons (.const (.tup [.int (0), .int (1), .int (2)])) .nil))) (.notV (.tru (.blt .allL (.cons (.comp (.call 10 (.cons (.var 5) .nil)) (.name 5) (.seq (.var 3)) .nil [5]) .nil)))))) [3] (.cons (.ret (.const (.bl false)) []) .nil) .nil) (.cons (.ite (.orV (.cmp .ne (.call 11 (.cons (.var 2) (.cons (.var 3) .nil))) (.var 0)) (.cmp .ne (.call 13 (.cons (.var 3) .nil)) (.bin .mul (.bin .mul (.var 2) (.var 2)) (.var 2)))) [2, 3, 0] (.cons (.ret (.const (.bl false)) []) .nil) .nil) (.cons (.for_ (.name 1) (.seq (.const (.tup [.int (0), .int (1), .int (2)]))) [] (.cons (.for_ (.name 4) (.seq (.const (.tup [.int (0), .int (1), .int (2)]))) [] (.cons (.ite (.cmp .ne (.call 12 (.cons (.idx (.var 3) (.var 1)) (.cons (.idx (.var 3) (.var 4)) .nil))) (.ite (.cmp .eq (.var 1) (.var 4)) (.bin .mul (.var 2) (.var 2)) (.const (.int (0))))) [3, 1, 4, 2] (.cons (.ret (.const (.bl false)) []) .nil) .nil) .nil)) .nil)) (.cons (.ret (.const (.bl true)) []) .nil))))))
abbrev D14 : DefI := ⟨"is_turn_of", top 31, [("thing" : Str), ("at" : Str), ("below" : Str), ("rows" : Str), ("to" : Str), ("row" : Str)], [("thing" : Str)], b14⟩
theorem s14 : DefS T D14 := ⟨⟨300, by kernel_rfl⟩, ⟨rfl, rfl, rfl, by decide +kernel, rfl, by decide +kernel, by decide +kernel⟩⟩
/-- unshortened -/
def b15 : Ss := (.cons (.asg (.tup [(.name 4), (.name 5), (.name 6), (.name 7)]) (.var 0) [0]) (.cons (.asg (.name 1) (.tup (.cons (.bin .sub (.bin .sub (.bin .add (.bin .mul (.var 4) (.var 4)) (.bin .mul (.var 5) (.var 5))) (.bin .mul (.var 6) (.var 6))) (.bin .mul (.var 7) (.var 7))) (.cons (.bin .mul (.const (.int (2))) (.bin .sub (.bin .mul (.var 5) (.var 6)) (.bin .mul (.var 4) (.var 7)))) (.cons (.bin .mul (.const (.int (2))) (.bin .add (.bin .mul (.var 5) (.var 7)) (.bin .mul (.var 4) (.var 6)))) .nil)))) [4, 5, 6, 7]) (.cons (.asg (.name 2) (.tup (.cons (.bin .mul (.const (.int (2))) (.bin .add (.bin .mul (.var 5) (.var 6)) (.bin .mul (.var 4) (.var 7)))) (.cons (.bin .sub (.bin .add (.bin .sub (.bin .mul (.var 4) (.var 4)) (.bin .mul (.var 5) (.var 5))) (.bin .mul (.var 6) (.var 6))) (.bin .mul (.var 7) (.var 7))) (.cons (.bin .mul (.const (.int (2))) (.bin .sub (.bin .mul (.var 6) (.var 7)) (.bin .mul (.var 4) (.var 5)))) .nil)))) [5, 6, 4, 7]) (.cons (.asg (.name 3) (.tup (.cons (.bin .mul (.const (.int (2))) (.bin .sub (.bin .mul (.var 5) (.var 7)) (.bin .mul (.var 4) (.var 6)))) (.cons (.bin .mul (.const (.int (2))) (.bin .add (.bin .mul (.var 6) (.var 7)) (.bin .mul (.var 4) (.var 5)))) (.cons (.bin .add (.bin .sub (.bin .sub (.bin .mul (.var 4) (.var 4)) (.bin .mul (.var 5) (.var 5))) (.bin .mul (.var 6) (.var 6))) (.bin .mul (.var 7) (.var 7))) .nil)))) [5, 7, 4, 6]) (.cons (.ret (.tup (.cons (.bin .add (.bin .add (.bin .add (.bin .mul (.var 4) (.var 4)) (.bin .mul (.var 5) (.var 5))) (.bin .mul (.var 6) (.var 6))) (.bin .mul (.var 7) (.var 7))) (.cons (.tup (.cons (.var 1) (.cons (.var 2) (.cons (.var 3) .nil)))) .nil))) [4, 5, 6, 7, 1, 2, 3]) .nil)))))
abbrev D15 : DefI := ⟨"unshortened", top 32, [("quad" : Str), ("first" : Str), ("second" : Str), ("third" : Str), ("a" : Str), ("b" : Str), ("c" : Str), ("d" : Str)], [("quad" : Str)], b15⟩
theorem s15 : DefS T D15 := ⟨⟨300, by kernel_rfl⟩, ⟨rfl, rfl, rfl, by decide +kernel, rfl, by decide +kernel, by decide +kernel⟩⟩
/-- turn_by -/
def b16 : Ss := (.cons (.asg (.tup [(.name 1), (.name 2)]) (.call 15 (.cons (.var 0) .nil)) [0]) (.cons (.ret (.call 11 (.cons (.var 1) (.cons (.var 2) .nil))) [1, 2]) .nil))
abbrev D16 : DefI := ⟨"turn_by", top 33, [("quad" : Str), ("below" : Str), ("rows" : Str)], [("quad" : Str)], b16⟩
theorem s16 : DefS T D16 := ⟨⟨300, by kernel_rfl⟩, ⟨rfl, rfl, rfl, by decide +kernel, rfl, by decide +kernel, by decide +kernel⟩⟩
/-- turns_behind -/
def b17 : Ss := (.cons (.asg (.name 2) (.blt .tupZip3 (.cons (.idx (.idx (.var 0) (.const (.int (1)))) (.const (.int (0)))) (.cons (.idx (.idx (.var 0) (.const (.int (1)))) (.const (.int (1)))) (.cons (.idx (.idx (.var 0) (.const (.int (1)))) (.const (.int (2)))) .nil)))) [0]) (.cons (.asg (.name 3) (.blt .tuple1 (.cons (.comp (.blt .tuple1 (.cons (.comp (.call 12 (.cons (.var 4) (.cons (.var 5) .nil))) (.name 5) (.seq (.var 2)) .nil [5]) .nil)) (.name 4) (.seq (.idx (.var 1) (.const (.int (1))))) .nil [4]) .nil)) [1, 2]) (.cons (.ret (.call 11 (.cons (.bin .mul (.idx (.var 0) (.const (.int (0)))) (.idx (.var 1) (.const (.int (0))))) (.cons (.var 3) .nil))) [0, 1, 3]) .nil)))
abbrev D17 : DefI := ⟨"turns_behind", top 34, [("one" : Str), ("other" : Str), ("columns" : Str), ("rows" : Str), ("row" : Str), ("column" : Str)], [("one" : Str), ("other" : Str)], b17⟩
theorem s17 : DefS T D17 := ⟨⟨300, by kernel_rfl⟩, ⟨rfl, rfl, rfl, by decide +kernel, rfl, by decide +kernel, by decide +kernel⟩⟩
/-- turn_of -/
def b18 : Ss := (.cons (.expr (.call 3 (.cons (.var 0) .nil)) [0]) (.cons (.ite (.cmp .eq (.var 0) (.const (.tup [.int (0), .int (0), .int (0), .int (0)]))) [0] (.cons .never .nil) .nil) (.cons (.ret (.call 16 (.cons (.var 0) .nil)) [0]) .nil)))
abbrev D18 : DefI := ⟨"turn_of", top 35, [("quad" : Str)], [("quad" : Str)], b18⟩
theorem s18 : DefS T D18 := ⟨⟨300, by kernel_rfl⟩, ⟨rfl, rfl, rfl, by decide +kernel, rfl, by decide +kernel, by decide +kernel⟩⟩
/-- turns_then -/
def b19 : Ss := (.cons (.ite (.notV (.tru (.call 14 (.cons (.var 0) .nil)))) [0] (.cons .never .nil) .nil) (.cons (.ite (.notV (.tru (.call 14 (.cons (.var 1) .nil)))) [1] (.cons .never .nil) .nil) (.cons (.ret (.call 17 (.cons (.var 0) (.cons (.var 1) .nil))) [0, 1]) .nil)))
abbrev D19 : DefI := ⟨"turns_then", top 36, [("one" : Str), ("other" : Str)], [("one" : Str), ("other" : Str)], b19⟩
theorem s19 : DefS T D19 := ⟨⟨300, by kernel_rfl⟩, ⟨rfl, rfl, rfl, by decide +kernel, rfl, by decide +kernel, by decide +kernel⟩⟩
/-- is_prime -/
def b20 : Ss := (.cons (.ite (.orV (.notV (.tru (.call 0 (.cons (.var 0) .nil)))) (.notV (.chain .lt .lt (.const (.int (1))) (.var 0) (.const (.int (1000)))))) [0] (.cons (.ret (.const (.bl false)) []) .nil) .nil) (.cons (.ret (.blt .allL (.cons (.comp (.cmp .ne (.bin .mod (.var 0) (.var 1)) (.const (.int (0)))) (.name 1) (.rng2 (.const (.int (2))) (.var 0)) (.cons (.cmp .le (.bin .mul (.var 1) (.var 1)) (.var 0)) .nil) [1]) .nil)) [0]) .nil))
abbrev D20 : DefI := ⟨"is_prime", top 39, [("thing" : Str), ("number" : Str)], [("thing" : Str)], b20⟩
theorem s20 : DefS T D20 := ⟨⟨300, by kernel_rfl⟩, ⟨rfl, rfl, rfl, by decide +kernel, rfl, by decide +kernel, by decide +kernel⟩⟩
/-- need_prime -/
def b21 : Ss := (.cons (.ite (.notV (.tru (.call 20 (.cons (.var 0) .nil)))) [0] (.cons .never .nil) .nil) .nil)
abbrev D21 : DefI := ⟨"need_prime", top 40, [("prime" : Str)], [("prime" : Str)], b21⟩
theorem s21 : DefS T D21 := ⟨⟨300, by kernel_rfl⟩, ⟨rfl, rfl, rfl, by decide +kernel, rfl, by decide +kernel, by decide +kernel⟩⟩
/-- need_odd -/
def b22 : Ss := (.cons (.expr (.call 21 (.cons (.var 0) .nil)) [0]) (.cons (.ite (.cmp .eq (.var 0) (.const (.int (2)))) [0] (.cons .never .nil) .nil) .nil))
abbrev D22 : DefI := ⟨"need_odd", top 42, [("prime" : Str)], [("prime" : Str)], b22⟩
theorem s22 : DefS T D22 := ⟨⟨300, by kernel_rfl⟩, ⟨rfl, rfl, rfl, by decide +kernel, rfl, by decide +kernel, by decide +kernel⟩⟩
/-- is_table_of -/
def b23 : Ss := (.cons (.ite (.orV (.notV (.tru (.blt .isTuple (.cons (.var 1) .nil)))) (.cmp .ne (.blt .len (.cons (.var 1) .nil)) (.const (.int (4))))) [1] (.cons (.ret (.const (.bl false)) []) .nil) .nil) (.cons (.ret (.blt .allL (.cons (.comp (.andV (.call 0 (.cons (.var 2) .nil)) (.chain .le .lt (.const (.int (0))) (.var 2) (.var 0))) (.name 2) (.seq (.var 1)) .nil [2]) .nil)) [1, 0]) .nil))
abbrev D23 : DefI := ⟨"is_table_of", top 43, [("prime" : Str), ("thing" : Str), ("one" : Str)], [("prime" : Str), ("thing" : Str)], b23⟩
theorem s23 : DefS T D23 := ⟨⟨300, by kernel_rfl⟩, ⟨rfl, rfl, rfl, by decide +kernel, rfl, by decide +kernel, by decide +kernel⟩⟩
/-- marks_by -/
def b24 : Ss := (.cons (.newK 1) (.cons (.for_ (.name 2) (.rngD (.bin .sub (.var 0) (.const (.int (1)))) (.neg (.const (.int (1))))) [0] (.cons (.dput 1 (.bin .mod (.bin .mul (.var 2) (.var 2)) (.var 0)) (.var 2) [2, 0]) .nil)) (.cons (.for_ (.name 3) (.rng1 (.var 0)) [0] (.cons (.asg (.name 4) (.bin .mod (.bin .sub (.neg (.const (.int (1)))) (.bin .mul (.var 3) (.var 3))) (.var 0)) [3, 0]) (.cons (.ite (.cmp .inn (.var 4) (.var 1)) [4, 1] (.cons (.ret (.tup (.cons (.var 3) (.cons (.idx (.var 1) (.var 4)) .nil))) [3, 1, 4]) .nil) .nil) .nil))) (.cons (.ret (.tup (.cons (.const (.int (0))) (.cons (.const (.int (0))) .nil))) []) .nil))))
abbrev D24 : DefI := ⟨"marks_by", top 44, [("prime" : Str), ("roots" : Str), ("number" : Str), ("e" : Str), ("left" : Str)], [("prime" : Str)], b24⟩
theorem s24 : DefS T D24 := ⟨⟨300, by kernel_rfl⟩, ⟨rfl, rfl, rfl, by decide +kernel, rfl, by decide +kernel, by decide +kernel⟩⟩
/-- half_by -/
def b25 : Ss := (.cons (.asg (.name 2) (.bin .mod (.var 1) (.var 0)) [1, 0]) (.cons (.ret (.ite (.cmp .eq (.bin .mod (.var 2) (.const (.int (2)))) (.const (.int (0)))) (.bin .fdiv (.var 2) (.const (.int (2)))) (.bin .fdiv (.bin .add (.var 2) (.var 0)) (.const (.int (2))))) [2, 0]) .nil))
abbrev D25 : DefI := ⟨"half_by", top 45, [("prime" : Str), ("number" : Str), ("rest" : Str)], [("prime" : Str), ("number" : Str)], b25⟩
theorem s25 : DefS T D25 := ⟨⟨300, by kernel_rfl⟩, ⟨rfl, rfl, rfl, by decide +kernel, rfl, by decide +kernel, by decide +kernel⟩⟩
/-- table_by -/
def b26 : Ss := (.cons (.asg (.tup [(.tup [(.name 3), (.name 4)]), (.tup [(.name 5), (.name 6), (.name 7), (.name 8)])]) (.tup (.cons (.call 24 (.cons (.var 0) .nil)) (.cons (.var 1) .nil))) [0, 1]) (.cons (.asg (.name 2) (.tup (.cons (.bin .sub (.bin .add (.var 5) (.bin .mul (.var 7) (.var 3))) (.bin .mul (.var 8) (.var 4))) (.cons (.bin .sub (.bin .add (.bin .mul (.var 7) (.var 4)) (.bin .mul (.var 8) (.var 3))) (.var 6)) (.cons (.bin .add (.bin .add (.var 6) (.bin .mul (.var 7) (.var 4))) (.bin .mul (.var 8) (.var 3))) (.cons (.bin .add (.bin .sub (.var 5) (.bin .mul (.var 7) (.var 3))) (.bin .mul (.var 8) (.var 4))) .nil))))) [5, 7, 3, 8, 4, 6]) (.cons (.ret (.blt .tuple1 (.cons (.comp (.call 25 (.cons (.var 0) (.cons (.var 9) .nil))) (.name 9) (.seq (.var 2)) .nil [9]) .nil)) [2, 0]) .nil)))
abbrev D26 : DefI := ⟨"table_by", top 46, [("prime" : Str), ("quad" : Str), ("rows" : Str), ("e" : Str), ("f" : Str), ("a" : Str), ("b" : Str), ("c" : Str), ("d" : Str), ("number" : Str)], [("prime" : Str), ("quad" : Str)], b26⟩
theorem s26 : DefS T D26 := ⟨⟨300, by kernel_rfl⟩, ⟨rfl, rfl, rfl, by decide +kernel, rfl, by decide +kernel, by decide +kernel⟩⟩
/-- then_by -/
def b27 : Ss := (.cons (.asg (.tup [(.tup [(.name 3), (.name 4), (.name 5), (.name 6)]), (.tup [(.name 7), (.name 8), (.name 9), (.name 10)])]) (.tup (.cons (.var 1) (.cons (.var 2) .nil))) [1, 2]) (.cons (.ret (.tup (.cons (.bin .mod (.bin .add (.bin .mul (.var 3) (.var 7)) (.bin .mul (.var 4) (.var 9))) (.var 0)) (.cons (.bin .mod (.bin .add (.bin .mul (.var 3) (.var 8)) (.bin .mul (.var 4) (.var 10))) (.var 0)) (.cons (.bin .mod (.bin .add (.bin .mul (.var 5) (.var 7)) (.bin .mul (.var 6) (.var 9))) (.var 0)) (.cons (.bin .mod (.bin .add (.bin .mul (.var 5) (.var 8)) (.bin .mul (.var 6) (.var 10))) (.var 0)) .nil))))) [3, 7, 4, 9, 0, 8, 10, 5, 6]) .nil))
abbrev D27 : DefI := ⟨"then_by", top 47, [("prime" : Str), ("one" : Str), ("other" : Str), ("a" : Str), ("b" : Str), ("c" : Str), ("d" : Str), ("e" : Str), ("f" : Str), ("g" : Str), ("h" : Str)], [("prime" : Str), ("one" : Str), ("other" : Str)], b27⟩
theorem s27 : DefS T D27 := ⟨⟨300, by kernel_rfl⟩, ⟨rfl, rfl, rfl, by decide +kernel, rfl, by decide +kernel, by decide +kernel⟩⟩
/-- quad_by -/
def b28 : Ss := (.cons (.asg (.tup [(.tup [(.name 3), (.name 4)]), (.tup [(.name 5), (.name 6), (.name 7), (.name 8)])]) (.tup (.cons (.call 24 (.cons (.var 0) .nil)) (.cons (.var 1) .nil))) [0, 1]) (.cons (.asg (.name 2) (.tup (.cons (.bin .add (.var 5) (.var 8)) (.cons (.bin .sub (.var 7) (.var 6)) (.cons (.neg (.bin .add (.bin .mul (.var 3) (.bin .sub (.var 5) (.var 8))) (.bin .mul (.var 4) (.bin .add (.var 6) (.var 7))))) (.cons (.bin .sub (.bin .mul (.var 4) (.bin .sub (.var 5) (.var 8))) (.bin .mul (.var 3) (.bin .add (.var 6) (.var 7)))) .nil))))) [5, 8, 7, 6, 3, 4]) (.cons (.ret (.blt .tuple1 (.cons (.comp (.bin .mul (.const (.int (2))) (.call 25 (.cons (.var 0) (.cons (.var 9) .nil)))) (.name 9) (.seq (.var 2)) .nil [9]) .nil)) [2, 0]) .nil)))
abbrev D28 : DefI := ⟨"quad_by", top 48, [("prime" : Str), ("table" : Str), ("parts" : Str), ("e" : Str), ("f" : Str), ("a" : Str), ("b" : Str), ("c" : Str), ("d" : Str), ("number" : Str)], [("prime" : Str), ("table" : Str)], b28⟩
theorem s28 : DefS T D28 := ⟨⟨300, by kernel_rfl⟩, ⟨rfl, rfl, rfl, by decide +kernel, rfl, by decide +kernel, by decide +kernel⟩⟩
/-- table_of -/
def b29 : Ss := (.cons (.expr (.call 22 (.cons (.var 0) .nil)) [0]) (.cons (.expr (.call 3 (.cons (.var 1) .nil)) [1]) (.cons (.ret (.call 26 (.cons (.var 0) (.cons (.var 1) .nil))) [0, 1]) .nil)))
abbrev D29 : DefI := ⟨"table_of", top 49, [("prime" : Str), ("quad" : Str)], [("prime" : Str), ("quad" : Str)], b29⟩
theorem s29 : DefS T D29 := ⟨⟨300, by kernel_rfl⟩, ⟨rfl, rfl, rfl, by decide +kernel, rfl, by decide +kernel, by decide +kernel⟩⟩
/-- tables_then -/
def b30 : Ss := (.cons (.expr (.call 22 (.cons (.var 0) .nil)) [0]) (.cons (.ite (.notV (.tru (.call 23 (.cons (.var 0) (.cons (.var 1) .nil))))) [0, 1] (.cons .never .nil) .nil) (.cons (.ite (.notV (.tru (.call 23 (.cons (.var 0) (.cons (.var 2) .nil))))) [0, 2] (.cons .never .nil) .nil) (.cons (.ret (.call 27 (.cons (.var 0) (.cons (.var 1) (.cons (.var 2) .nil)))) [0, 1, 2]) .nil))))
abbrev D30 : DefI := ⟨"tables_then", top 50, [("prime" : Str), ("one" : Str), ("other" : Str)], [("prime" : Str), ("one" : Str), ("other" : Str)], b30⟩
theorem s30 : DefS T D30 := ⟨⟨300, by kernel_rfl⟩, ⟨rfl, rfl, rfl, by decide +kernel, rfl, by decide +kernel, by decide +kernel⟩⟩
/-- quad_of_table -/
def b31 : Ss := (.cons (.expr (.call 22 (.cons (.var 0) .nil)) [0]) (.cons (.ite (.notV (.tru (.call 23 (.cons (.var 0) (.cons (.var 1) .nil))))) [0, 1] (.cons .never .nil) .nil) (.cons (.ret (.call 28 (.cons (.var 0) (.cons (.var 1) .nil))) [0, 1]) .nil)))
abbrev D31 : DefI := ⟨"quad_of_table", top 51, [("prime" : Str), ("table" : Str)], [("prime" : Str), ("table" : Str)], b31⟩
theorem s31 : DefS T D31 := ⟨⟨300, by kernel_rfl⟩, ⟨rfl, rfl, rfl, by decide +kernel, rfl, by decide +kernel, by decide +kernel⟩⟩
/-- _law_begun -/
def b32 : Ss := (.cons (.asgF 1 (.comp (.bin .sub (.blt .abs (.cons (.var 2) .nil)) (.bin .pow (.const (.int (10))) (.const (.int (18))))) (.name 2) (.seq (.var 0)) (.cons (.cmp .ge (.blt .abs (.cons (.var 2) .nil)) (.bin .pow (.const (.int (10))) (.const (.int (18))))) .nil) [2]) [0]) (.cons (.retDraw 1 (.comp (.blt .abs (.cons (.var 2) .nil)) (.name 2) (.seq (.var 0)) .nil [2]) [0]) .nil))
abbrev D32 : DefI := ⟨"_law_begun", top 53, [("script" : Str), ("large" : Str), ("cell" : Str)], [("script" : Str)], b32⟩
theorem s32 : DefS T D32 := ⟨⟨300, by kernel_rfl⟩, ⟨rfl, rfl, rfl, by decide +kernel, rfl, by decide +kernel, by decide +kernel⟩⟩
/-- _law_mixed -/
def b33 : Ss := (.cons (.drawSet 0 .turn (.bin .add (.dget (.var 0) .turn) (.const (.int (1)))) [0]) (.cons (.par [2, 3] (.cons (.blt .int1 (.cons (.dget (.var 0) .turn) .nil)) (.cons (.const (.int (0))) .nil)) [0]) (.cons (.for_ (.name 1) (.seq (.lst (.cons (.const (.int (2147483647))) (.cons (.const (.int (2147483629))) (.cons (.const (.int (2147483587))) .nil))))) [] (.cons (.asg (.name 4) (.bin .mod (.bin .add (.bin .mul (.var 2) (.const (.int (48271)))) (.bin .fdiv (.var 1) (.const (.int (11))))) (.var 1)) [2, 1]) (.cons (.for_ (.name 5) (.seq (.dget (.var 0) .cells)) [0] (.cons (.asg (.name 4) (.bin .mod (.bin .add (.bin .add (.bin .mul (.var 4) (.const (.int (69621)))) (.blt .int1 (.cons (.var 5) .nil))) (.var 2)) (.var 1)) [4, 5, 2, 1]) .nil)) (.cons (.asg (.name 3) (.bin .add (.bin .mul (.var 3) (.const (.int (2147483659)))) (.bin .mod (.bin .pow (.var 4) (.const (.int (5)))) (.var 1))) [3, 4, 1]) .nil)))) (.cons (.ret (.var 3) [3]) .nil))))
abbrev D33 : DefI := ⟨"_law_mixed", top 54, [("draw" : Str), ("great" : Str), ("lap" : Str), ("found" : Str), ("blend" : Str), ("cell" : Str)], [("draw" : Str)], b33⟩
theorem s33 : DefS T D33 := ⟨⟨300, by kernel_rfl⟩, ⟨rfl, rfl, rfl, by decide +kernel, rfl, by decide +kernel, by decide +kernel⟩⟩
/-- _law_take -/
def b34 : Ss := (.cons (.ite (.cmp .eq (.dget (.var 0) .rest) (.const (.int (0)))) [0] (.cons (.drawSet 0 .rest (.ite (.dne (.var 0)) (.dpop (.var 0)) (.call 33 (.cons (.var 0) .nil))) [0]) .nil) .nil) (.cons (.asg (.name 2) (.bin .mod (.blt .int1 (.cons (.dget (.var 0) .rest) .nil)) (.var 1)) [0, 1]) (.cons (.drawSet 0 .rest (.bin .fdiv (.blt .int1 (.cons (.dget (.var 0) .rest) .nil)) (.var 1)) [0, 1]) (.cons (.ret (.var 2) [2]) .nil))))
abbrev D34 : DefI := ⟨"_law_take", top 55, [("draw" : Str), ("amount" : Str), ("found" : Str)], [("draw" : Str), ("amount" : Str)], b34⟩
theorem s34 : DefS T D34 := ⟨⟨300, by kernel_rfl⟩, ⟨rfl, rfl, rfl, by decide +kernel, rfl, by decide +kernel, by decide +kernel⟩⟩
/-- _law_pick -/
def b35 : Ss := (.cons (.ret (.idx (.var 1) (.call 34 (.cons (.var 0) (.cons (.blt .len (.cons (.var 1) .nil)) .nil)))) [1, 0]) .nil)
abbrev D35 : DefI := ⟨"_law_pick", top 56, [("draw" : Str), ("some" : Str)], [("draw" : Str), ("some" : Str)], b35⟩
theorem s35 : DefS T D35 := ⟨⟨300, by kernel_rfl⟩, ⟨rfl, rfl, rfl, by decide +kernel, rfl, by decide +kernel, by decide +kernel⟩⟩
/-- _law_size -/
def b36 : Ss := (.cons (.ret (.bin .fdiv (.blt .sumL (.cons (.comp (.bin .mul (.var 1) (.var 1)) (.name 1) (.seq (.var 0)) .nil [1]) .nil)) (.const (.int (4)))) [0]) .nil)
abbrev D36 : DefI := ⟨"_law_size", top 57, [("quad" : Str), ("number" : Str)], [("quad" : Str)], b36⟩
theorem s36 : DefS T D36 := ⟨⟨300, by kernel_rfl⟩, ⟨rfl, rfl, rfl, by decide +kernel, rfl, by decide +kernel, by decide +kernel⟩⟩
/-- _law_quad -/
def b37 : Ss := (.cons (.asg (.name 1) (.call 34 (.cons (.var 0) (.cons (.const (.int (2))) .nil))) [0]) (.cons (.ret (.blt .tuple1 (.cons (.comp (.bin .add (.bin .mul (.const (.int (2))) (.bin .sub (.call 34 (.cons (.var 0) (.cons (.const (.int (9))) .nil))) (.const (.int (4))))) (.var 1)) (.name 2) (.rng1 (.const (.int (4)))) .nil [2]) .nil)) [0, 1]) .nil))
abbrev D37 : DefI := ⟨"_law_quad", top 58, [("draw" : Str), ("kind" : Str), ("lap" : Str)], [("draw" : Str)], b37⟩
theorem s37 : DefS T D37 := ⟨⟨300, by kernel_rfl⟩, ⟨rfl, rfl, rfl, by decide +kernel, rfl, by decide +kernel, by decide +kernel⟩⟩
/-- _law_some_quad -/
def b38 : Ss := (.cons (.asg (.name 1) (.call 37 (.cons (.var 0) .nil)) [0]) (.cons (.ret (.ite (.cmp .ne (.var 1) (.tup (.cons (.const (.int (0))) (.cons (.const (.int (0))) (.cons (.const (.int (0))) (.cons (.const (.int (0))) .nil)))))) (.var 1) (.tup (.cons (.const (.int (2))) (.cons (.const (.int (2))) (.cons (.const (.int (0))) (.cons (.const (.int (0))) .nil)))))) [1]) .nil))
abbrev D38 : DefI := ⟨"_law_some_quad", top 59, [("draw" : Str), ("found" : Str)], [("draw" : Str)], b38⟩
theorem s38 : DefS T D38 := ⟨⟨300, by kernel_rfl⟩, ⟨rfl, rfl, rfl, by decide +kernel, rfl, by decide +kernel, by decide +kernel⟩⟩
/-- _law_net_quad -/
def b39 : Ss := (.cons (.for_ (.name 2) (.rng1 (.const (.int (20)))) [] (.cons (.asg (.name 3) (.call 38 (.cons (.var 0) .nil)) [0]) (.cons (.ite (.cmp .ne (.bin .mod (.call 36 (.cons (.var 3) .nil)) (.var 1)) (.const (.int (0)))) [3, 1] (.cons (.ret (.var 3) [3]) .nil) .nil) .nil))) (.cons (.ret (.tup (.cons (.const (.int (2))) (.cons (.const (.int (0))) (.cons (.const (.int (0))) (.cons (.const (.int (0))) .nil))))) []) .nil))
abbrev D39 : DefI := ⟨"_law_net_quad", top 60, [("draw" : Str), ("q" : Str), ("lap" : Str), ("found" : Str)], [("draw" : Str), ("q" : Str)], b39⟩
theorem s39 : DefS T D39 := ⟨⟨300, by kernel_rfl⟩, ⟨rfl, rfl, rfl, by decide +kernel, rfl, by decide +kernel, by decide +kernel⟩⟩
/-- _law_left -/
def b40 : Ss := (.cons (.asg (.name 2) (.idx (.comp (.var 3) (.name 3) (.rng2 (.const (.int (1))) (.var 0)) (.cons (.cmp .eq (.bin .mod (.bin .mul (.var 3) (.idx (.var 1) (.const (.int (0))))) (.var 0)) (.const (.int (1)))) .nil) [3]) (.const (.int (0)))) [0, 1]) (.cons (.ret (.blt .tuple1 (.cons (.comp (.blt .tuple1 (.cons (.comp (.bin .mod (.blt .int1 (.cons (.bin .mul (.var 2) (.var 5)) .nil)) (.var 0)) (.name 5) (.seq (.var 4)) .nil [5]) .nil)) (.name 4) (.seq (.idx (.var 1) (.const (.int (1))))) .nil [4]) .nil)) [1, 2, 0]) .nil))
abbrev D40 : DefI := ⟨"_law_left", top 61, [("q" : Str), ("told" : Str), ("back" : Str), ("number" : Str), ("row" : Str), ("one" : Str)], [("q" : Str), ("told" : Str)], b40⟩
theorem s40 : DefS T D40 := ⟨⟨300, by kernel_rfl⟩, ⟨rfl, rfl, rfl, by decide +kernel, rfl, by decide +kernel, by decide +kernel⟩⟩
/-- law -/
def b41 : Ss := (.cons (.asg (.name 1) (.call 32 (.cons (.var 0) .nil)) [0]) (.cons (.for_ (.name 2) (.rng1 (.bin .add (.const (.int (3))) (.blt .min2 (.cons (.blt .len (.cons (.var 0) .nil)) (.cons (.const (.int (6))) .nil))))) [0] (.cons (.asg (.name 3) (.call 35 (.cons (.var 1) (.cons (.lst (.cons (.const (.int (3))) (.cons (.const (.int (5))) (.cons (.const (.int (7))) (.cons (.const (.int (11))) (.cons (.const (.int (13))) .nil)))))) .nil))) [1]) (.cons (.par [10, 11] (.cons (.call 39 (.cons (.var 1) (.cons (.var 3) .nil))) (.cons (.call 37 (.cons (.var 1) .nil)) .nil)) [1, 3]) (.cons (.asg (.name 4) (.call 9 (.cons (.var 10) (.cons (.var 11) (.cons (.bin .mul (.var 3) (.bin .add (.const (.int (1))) (.call 34 (.cons (.var 1) (.cons (.const (.int (4))) .nil))))) .nil)))) [10, 11, 3, 1]) (.cons (.ite (.cmp .eq (.var 4) (.tup (.cons (.const (.int (0))) (.cons (.const (.int (0))) (.cons (.const (.int (0))) (.cons (.const (.int (0))) .nil)))))) [4] (.cons .cnt .nil) .nil) (.cons (.ite (.orV (.cmp .ne (.call 29 (.cons (.var 3) (.cons (.var 4) .nil))) (.call 29 (.cons (.var 3) (.cons (.var 10) .nil)))) (.cmp .ne (.call 40 (.cons (.var 3) (.cons (.call 18 (.cons (.var 4) .nil)) .nil))) (.call 40 (.cons (.var 3) (.cons (.call 18 (.cons (.var 10) .nil)) .nil))))) [3, 4, 10] (.cons (.ret (.const (.bl false)) []) .nil) .nil) (.cons (.asg (.name 5) (.call 31 (.cons (.var 3) (.cons (.call 29 (.cons (.var 3) (.cons (.var 10) .nil))) .nil))) [3, 10]) (.cons (.ite (.cmp .ne (.call 40 (.cons (.var 3) (.cons (.call 18 (.cons (.var 5) .nil)) .nil))) (.call 40 (.cons (.var 3) (.cons (.call 18 (.cons (.var 10) .nil)) .nil)))) [3, 5, 10] (.cons (.ret (.const (.bl false)) []) .nil) .nil) (.cons (.asg (.name 6) (.call 39 (.cons (.var 1) (.cons (.var 3) .nil))) [1, 3]) (.cons (.asg (.name 7) (.call 8 (.cons (.var 10) (.cons (.var 6) .nil))) [10, 6]) (.cons (.asg (.tup [(.name 12), (.name 13), (.name 14)]) (.tup (.cons (.call 40 (.cons (.var 3) (.cons (.call 18 (.cons (.var 7) .nil)) .nil))) (.cons (.call 40 (.cons (.var 3) (.cons (.call 18 (.cons (.var 10) .nil)) .nil))) (.cons (.call 40 (.cons (.var 3) (.cons (.call 18 (.cons (.var 6) .nil)) .nil))) .nil)))) [3, 7, 10, 6]) (.cons (.asg (.name 8) (.blt .tuple1 (.cons (.comp (.blt .tuple1 (.cons (.comp (.bin .mod (.blt .int1 (.cons (.blt .sumL (.cons (.comp (.bin .mul (.idx (.var 15) (.var 17)) (.idx (.idx (.var 14) (.var 17)) (.var 16))) (.name 17) (.rng1 (.const (.int (3)))) .nil [17]) .nil)) .nil)) (.var 3)) (.name 16) (.rng1 (.const (.int (3)))) .nil [16]) .nil)) (.name 15) (.seq (.var 13)) .nil [15]) .nil)) [13, 14, 3]) (.cons (.ite (.orV (.cmp .ne (.var 12) (.var 8)) (.orV (.cmp .ne (.call 29 (.cons (.var 3) (.cons (.var 7) .nil))) (.call 30 (.cons (.var 3) (.cons (.call 29 (.cons (.var 3) (.cons (.var 10) .nil))) (.cons (.call 29 (.cons (.var 3) (.cons (.var 6) .nil))) .nil))))) (.cmp .ne (.call 18 (.cons (.var 7) .nil)) (.call 19 (.cons (.call 18 (.cons (.var 6) .nil)) (.cons (.call 18 (.cons (.var 10) .nil)) .nil)))))) [12, 8, 3, 7, 10, 6] (.cons (.ret (.const (.bl false)) []) .nil) .nil) (.cons (.asg (.name 9) (.bin .add (.const (.int (1))) (.call 34 (.cons (.var 1) (.cons (.bin .sub (.var 3) (.const (.int (1)))) .nil)))) [1, 3]) (.cons (.ite (.orV (.cmp .ne (.call 40 (.cons (.var 3) (.cons (.call 18 (.cons (.tup (.cons (.bin .mul (.const (.int (2))) (.var 9)) (.cons (.const (.int (0))) (.cons (.const (.int (0))) (.cons (.const (.int (0))) .nil))))) .nil)) .nil))) (.tup (.cons (.tup (.cons (.const (.int (1))) (.cons (.const (.int (0))) (.cons (.const (.int (0))) .nil)))) (.cons (.tup (.cons (.const (.int (0))) (.cons (.const (.int (1))) (.cons (.const (.int (0))) .nil)))) (.cons (.tup (.cons (.const (.int (0))) (.cons (.const (.int (0))) (.cons (.const (.int (1))) .nil)))) .nil))))) (.cmp .ne (.call 29 (.cons (.var 3) (.cons (.tup (.cons (.bin .mul (.const (.int (2))) (.var 9)) (.cons (.const (.int (0))) (.cons (.const (.int (0))) (.cons (.const (.int (0))) .nil))))) .nil))) (.tup (.cons (.var 9) (.cons (.const (.int (0))) (.cons (.const (.int (0))) (.cons (.var 9) .nil))))))) [3, 9] (.cons (.ret (.const (.bl false)) []) .nil) .nil) .nil))))))))))))))) (.cons (.ret (.const (.bl true)) []) .nil)))
abbrev D41 : DefI := ⟨"law", top 62, [("script" : Str), ("draw" : Str), ("turn" : Str), ("q" : Str), ("late" : Str), ("low" : Str), ("other" : Str), ("both" : Str), ("due" : Str), ("many" : Str), ("quad" : Str), ("more" : Str), ("rows" : Str), ("mine" : Str), ("yours" : Str), ("row" : Str), ("to" : Str), ("at" : Str)], [("script" : Str)], b41⟩
theorem s41 : DefS T D41 := ⟨⟨300, by kernel_rfl⟩, ⟨rfl, rfl, rfl, by decide +kernel, rfl, by decide +kernel, by decide +kernel⟩⟩
def ds : List DefI := [D0, D1, D2, D3, D4, D5, D6, D7, D8, D9, D10, D11, D12, D13, D14, D15, D16, D17, D18, D19, D20, D21, D22, D23, D24, D25, D26, D27, D28, D29, D30, D31, D32, D33, D34, D35, D36, D37, D38, D39, D40, D41]
theorem hS : ∀ D ∈ ds, DefS T D := by
  unfold ds
  simp only [List.forall_mem_cons]
  exact ⟨s0, s1, s2, s3, s4, s5, s6, s7, s8, s9, s10, s11, s12, s13, s14, s15, s16, s17, s18, s19, s20, s21, s22, s23, s24, s25, s26, s27, s28, s29, s30, s31, s32, s33, s34, s35, s36, s37, s38, s39, s40, s41, fun _ h => nomatch h⟩
theorem hT : T.funs = numsFrom 0 ds := by kernel_rfl
end L82

set_option Elab.async false
set_option linter.all false
set_option maxRecDepth 100000
set_option maxHeartbeats 4000000
/-! Running the core language on symbols. -/
namespace EV
open PySem L2

def fin (r : Option (Out × Mst)) : Option (D × Mst) := match r with
  | some (.ret d, M') => some (d, M')
  | some (.nx _, M') => some (.non, M')
  | _ => none
theorem callD {ds : List DefI} {W k f : Nat} {as : List D} {M : Mst} {Df : DefI} (hD : ds[f]? = some Df) (hl : as.length = Df.ps.length) :
    callK (fnsOf ds) W (k + 1) f as M = fin (exs (callK (fnsOf ds) W k) W Df.body (as.map (fun d => some (Slot.val d)) ++ List.replicate (Df.N.length - as.length) none) M) := by
  have e : (fnsOf ds)[f]? = some ⟨Df.ps.length, Df.N.length, Df.body⟩ := by unfold fnsOf; rw [List.getElem?_map, hD]; rfl
  rw [callK, e]
  simp only [hl, if_true]
  unfold fin
  rfl

/-- small enough: at most n bits -/
def Bd (n : Nat) (x : Int) : Prop := x.natAbs < 2 ^ n
theorem Bd.mul {n m : Nat} {x y : Int} (h : Bd n x) (k : Bd m y) : Bd (n + m) (x * y) := by
  unfold Bd at *
  rw [Int.natAbs_mul, Nat.pow_add]
  exact Nat.mul_lt_mul'' h k
theorem Bd.mono {n m : Nat} {x : Int} (h : Bd n x) (k : n ≤ m) : Bd m x := Nat.lt_of_lt_of_le h (Nat.pow_le_pow_right (by decide) k)
theorem Bd.add {n m : Nat} {x y : Int} (h : Bd n x) (k : Bd m y) : Bd (n + m + 1) (x + y) := by
  have h' := h.mono (m := n + m) (by omega)
  have k' := k.mono (m := n + m) (by omega)
  unfold Bd at *
  rw [Nat.pow_succ]
  omega
theorem Bd.neg {n : Nat} {x : Int} (h : Bd n x) : Bd n (-x) := by unfold Bd at *; rw [Int.natAbs_neg]; exact h
theorem Bd.sub {n m : Nat} {x y : Int} (h : Bd n x) (k : Bd m y) : Bd (n + m + 1) (x - y) := by rw [Int.sub_eq_add_neg]; exact h.add k.neg
theorem Bd.add' {n : Nat} {x y : Int} (h : Bd n x) (k : Bd n y) : Bd (n + 1) (x + y) := by unfold Bd at *; rw [Nat.pow_succ]; omega
theorem Bd.sub' {n : Nat} {x y : Int} (h : Bd n x) (k : Bd n y) : Bd (n + 1) (x - y) := by unfold Bd at *; rw [Nat.pow_succ]; omega
theorem Bd.two : Bd 2 2 := by unfold Bd; decide
theorem Bd.of_mul {n : Nat} {w x : Int} (hw : 0 < w) (h : Bd n (w * x)) : Bd n x := by
  unfold Bd at *
  rw [Int.natAbs_mul] at h
  have h1 : 1 ≤ w.natAbs := by omega
  have := Nat.mul_le_mul_right x.natAbs h1
  omega
theorem mulOk_bd {n m : Nat} {x y : Int} (h : Bd n x) (k : Bd m y) (hn : n ≤ 100000) (hm : m ≤ 100000) : mulOk x y = true := by
  have h' := h.mono hn
  have k' := k.mono hm
  unfold Bd at h' k'
  unfold mulOk LIM
  rw [decide_eq_true h', decide_eq_true k']
  simp
theorem mulOk_l {x y : Int} (h : x.natAbs < 2 ^ 64) : mulOk x y = true := by unfold mulOk; rw [decide_eq_true h]; simp
theorem mulOk_r {x y : Int} (h : y.natAbs < 2 ^ 64) : mulOk x y = true := by unfold mulOk; rw [decide_eq_true h]; simp
theorem bin_mul {x y : Int} (h : mulOk x y = true) : binD .mul (.int x) (.int y) = some (.int (x * y)) := by show (if mulOk x y = true then some _ else none) = _; rw [if_pos h]
theorem bin_add {x y : Int} : binD .add (.int x) (.int y) = some (.int (x + y)) := rfl
theorem bin_sub {x y : Int} : binD .sub (.int x) (.int y) = some (.int (x - y)) := rfl
theorem bin_div {x y : Int} (h : divOk y = true) : binD .fdiv (.int x) (.int y) = some (.int (x / y)) := by show (if divOk y = true then some _ else none) = _; rw [if_pos h]
theorem bin_mod {x y : Int} (h : 0 < y) : binD .mod (.int x) (.int y) = some (.int (x % y)) := by show (if decide (0 < y) = true then some _ else none) = _; rw [if_pos (decide_eq_true h)]
theorem bin_pow {x y : Int} (h : powOk x y = true) : binD .pow (.int x) (.int y) = some (.int (x ^ y.toNat)) := by show (if powOk x y = true then some _ else none) = _; rw [if_pos h]
theorem divOk_s {y : Int} (h : 0 < y) (k : y < 2 ^ 64) : divOk y = true := by
  unfold divOk
  rw [decide_eq_true h]
  have : y.natAbs < 2 ^ 8000 := Nat.lt_of_lt_of_le (show y.natAbs < 2 ^ 64 by omega) (Nat.pow_le_pow_right (by decide) (by decide))
  rw [decide_eq_true this]
  rfl
theorem atN {α : Type} (l : List α) (i : Nat) (a : α) (h : l[i]? = some a) : L2.atI l (i : Int) = some a := by
  obtain ⟨hi, _⟩ := List.getElem?_eq_some_iff.mp h
  unfold L2.atI L2.ixN
  rw [if_pos (by omega), if_pos (by omega)]
  simpa using h
theorem at0 {α : Type} (a : α) (l : List α) : L2.atI (a :: l) 0 = some a := atN _ 0 a rfl
theorem at1 {α : Type} (a b : α) (l : List α) : L2.atI (a :: b :: l) 1 = some b := atN _ 1 b rfl
theorem at2 {α : Type} (a b c : α) (l : List α) : L2.atI (a :: b :: c :: l) 2 = some c := atN _ 2 c rfl
theorem same_self (M : Mst) : sameCells M M = true := by cases M <;> simp [sameCells]
theorem bl_tuple1 (xs : List D) : bltD .tuple1 [.lst xs] = some (.tup xs) := rfl
theorem bl_len (xs : List D) : bltD .len [.tup xs] = some (.int xs.length) := rfl
theorem bl_isT (xs : List D) : bltD .isTuple [.tup xs] = some (.bl true) := rfl
theorem bl_all (xs : List D) : bltD .allL [.lst xs] = (allBl xs).map fun bs => .bl (bs.all id) := rfl
theorem cloop_filter {f : D → Mst → Option (Option D × Mst)} {M : Mst} (p : Int → Bool) : ∀ ns : List Int, (∀ n ∈ ns, f (.int n) M = some (if p n then some (.int n) else none, M)) → cloop f (ns.map .int) M = some ((ns.filter p).map .int, M)
  | [], _ => rfl
  | n :: ns, h => by
    have h1 := h n (by simp)
    have h2 := cloop_filter p ns (fun m hm => h m (by simp [hm]))
    simp only [List.map_cons, cloop, h1, h2]
    cases hp : p n <;> simp [List.filter_cons, hp]
theorem cloop_map {f : D → Mst → Option (Option D × Mst)} {M : Mst} (g : Int → D) : ∀ ns : List Int, (∀ n ∈ ns, f (.int n) M = some (some (g n), M)) → cloop f (ns.map .int) M = some (ns.map g, M)
  | [], _ => rfl
  | n :: ns, h => by
    have h1 := h n (by simp)
    have h2 := cloop_map g ns (fun m hm => h m (by simp [hm]))
    simp only [List.map_cons, cloop, h1, h2]
theorem ev_filter {C : Orc} {elt : E} {t : Tgt} {it : Itr} {ifs : Es} {own : List Nat} {ρ : Env} {M : Mst} {ns : List Int} (p : Int → Bool) (hI : evI C it ρ M = some (ns.map .int, M))
    (h : ∀ n ∈ ns, (match bindT t (.int n) (wipeR ρ own) with
        | none => none
        | some ρ1 => bdB (evC C ifs ρ1 M) fun b M2 => match b with
          | true => bd (ev C elt ρ1 M2) fun y M3 => some (some y, M3)
          | false => some (none, M2)) = some (if p n then some (.int n) else none, M)) : ev C (.comp elt t it ifs own) ρ M = some (.lst ((ns.filter p).map .int), M) := by
  simp only [ev, hI, bdL]
  rw [cloop_filter p ns h]
theorem ev_map {C : Orc} {elt : E} {t : Tgt} {it : Itr} {ifs : Es} {own : List Nat} {ρ : Env} {M : Mst} {ns : List Int} (g : Int → D) (hI : evI C it ρ M = some (ns.map .int, M))
    (h : ∀ n ∈ ns, (match bindT t (.int n) (wipeR ρ own) with
        | none => none
        | some ρ1 => bdB (evC C ifs ρ1 M) fun b M2 => match b with
          | true => bd (ev C elt ρ1 M2) fun y M3 => some (some y, M3)
          | false => some (none, M2)) = some (some (g n), M)) : ev C (.comp elt t it ifs own) ρ M = some (.lst (ns.map g), M) := by
  simp only [ev, hI, bdL]
  rw [cloop_map g ns h]
def rngZ (lo : Int) (n : Nat) : List Int := (List.range n).map fun (i : Nat) => lo + (i : Int)
theorem rngL_eq (lo : Int) (n : Nat) : rngL lo n = (rngZ lo n).map .int := by unfold rngL rngZ; rw [List.map_map]; rfl
theorem mem_rngZ {lo : Int} {n : Nat} {z : Int} : z ∈ rngZ lo n ↔ lo ≤ z ∧ z < lo + n := by
  unfold rngZ
  rw [List.mem_map]
  constructor
  · rintro ⟨i, hi, rfl⟩
    have := List.mem_range.mp hi
    omega
  · rintro ⟨h1, h2⟩
    exact ⟨(z - lo).toNat, List.mem_range.mpr (by omega), by omega⟩
/-- the first that is picked -/
theorem filter_head {p : Int → Bool} {ns : List Int} {y : Int} (hy : y ∈ ns) (hp : p y = true) : ∃ z r, ns.filter p = z :: r ∧ z ∈ ns ∧ p z = true := by
  cases h : ns.filter p with
  | nil => exact absurd (List.mem_filter.mpr ⟨hy, hp⟩) (by rw [h]; simp)
  | cons z r =>
    have := List.mem_filter.mp (show z ∈ ns.filter p by rw [h]; simp)
    exact ⟨z, r, rfl, this.1, this.2⟩
end EV

set_option Elab.async false
set_option linter.all false
set_option maxRecDepth 100000
set_option maxHeartbeats 8000000
namespace L82
open PySem L2 EV
variable {k W : Nat} {M : Mst}
theorem emod2 (x : Int) : binD .mod (.int x) (.int 2) = some (.int (x % 2)) := bin_mod (by decide)
theorem div2 (x : Int) : binD .fdiv (.int x) (.int 2) = some (.int (x / 2)) := bin_div (divOk_s (by decide) (by decide))
theorem eq_int (x y : Int) : eqD (.int x) (.int y) = some (x == y) := by
  simp [eqD, D.py, SeqAt.shaped, PyData.canLay0, PyData.depth, PyData.eqv]
abbrev q4 (a b c d : Int) : D := .tup [.int a, .int b, .int c, .int d]
abbrev q3 (a b c : Int) : D := .tup [.int a, .int b, .int c]
abbrev q9 (a b c d e f g h i : Int) : D := .tup [q3 a b c, q3 d e f, q3 g h i]
theorem eq_q4 (a b c d e f g h : Int) : eqD (q4 a b c d) (q4 e f g h) = some (a == e && (b == f && (c == g && d == h))) := by
  simp [eqD, D.py, D.pyL, SeqAt.shaped, PyData.canLay0, PyData.canLayAll0, PyData.depth, PyData.depthAll, PyData.eqv, PyData.eqvAll]
theorem eq_q4s (a b c d : Int) : eqD (q4 a b c d) (q4 a b c d) = some true := by rw [eq_q4]; simp
theorem eq_q9s (a b c d e f g h i : Int) : eqD (q9 a b c d e f g h i) (q9 a b c d e f g h i) = some true := by
  simp [eqD, D.py, D.pyL, SeqAt.shaped, PyData.canLay0, PyData.canLayAll0, PyData.depth, PyData.depthAll, PyData.eqv, PyData.eqvAll]
theorem eq_ts (n a b c d e f g h i : Int) : eqD (.tup [.int n, q9 a b c d e f g h i]) (.tup [.int n, q9 a b c d e f g h i]) = some true := by
  simp [eqD, D.py, D.pyL, SeqAt.shaped, PyData.canLay0, PyData.canLayAll0, PyData.depth, PyData.depthAll, PyData.eqv, PyData.eqvAll]
theorem f_is_number (x : Int) : callK (fnsOf ds) W (k + 1) 0 [.int x] M = some (.bl true, M) := by
  rw [callD (Df := D0) rfl rfl]
  simp [b0, exs, ex, ev, evs, evC, evI, bd, bdL, bdB, exAsg, exAsgF, exPar, exApp, exPut, exDraw, exRetD, bindT, bindTs, behind, behindL, view, view1, scalarD, ret1, retB, fin, setAll, floop, same_self, cmpD, truthD, bltD, idxD, keyD, freshE, isD]
theorem pow4 : binD .pow (.int (100000000000000000000000000000000000000000000000000)) (.int 4) = some (.int (100000000000000000000000000000000000000000000000000 ^ 4)) := by
  rw [bin_pow (by decide +kernel)]; rfl
theorem short_lt {x : Int} (h : Bd 600 x) : decide ((if x < 0 then -x else x) < 100000000000000000000000000000000000000000000000000 ^ 4) = true := by
  refine decide_eq_true ?_
  have h : x.natAbs < 2 ^ 600 := h
  have e : (2 : Nat) ^ 600 < 100000000000000000000000000000000000000000000000000 ^ 4 := by decide +kernel
  split <;> omega
theorem f_is_short {x : Int} (h : Bd 600 x) : callK (fnsOf ds) W (k + 2) 1 [.int x] M = some (.bl true, M) := by
  rw [callD (Df := D1) rfl rfl]
  simp only [b1, exs, ex, ev, evs, evC, evI, bd, bdL, bdB, exAsg, exAsgF, exPar, exApp, exPut, exDraw, exRetD, bindT, bindTs, behind, behindL, view, view1, scalarD, ret1, retB, fin, setAll, floop, same_self, cmpD, truthD, bltD, idxD, keyD, freshE, List.map_cons, List.map_nil, List.length_cons, List.length_nil, List.cons_append, List.nil_append, List.replicate, List.getElem?_cons_zero, List.foldl_cons, List.foldl_nil, f_is_number, pow4, short_lt h]
/-- a quad: four numbers of one parity, not too long -/
structure Qd (a b c d : Int) : Prop where
  ha : Bd 600 a
  hb : Bd 600 b
  hc : Bd 600 c
  hd : Bd 600 d
  ab : (b - a) % 2 = 0
  ac : (c - a) % 2 = 0
  ad : (d - a) % 2 = 0
theorem f_is_quad {a b c d : Int} (q : Qd a b c d) : callK (fnsOf ds) W (k + 3) 2 [q4 a b c d] M = some (.bl true, M) := by
  rw [callD (Df := D2) rfl rfl]
  have h0 : (a - a) % 2 = 0 := by omega
  simp [b2, exs, ex, ev, evs, evC, evI, bd, bdL, bdB, exAsg, exAsgF, exPar, exApp, exPut, exDraw, exRetD, bindT, bindTs, behind, behindL, view, view1, scalarD, ret1, retB, fin, setAll, floop, same_self, cmpD, truthD, bltD, idxD, keyD, freshE, isD, cloop, wipeR, f_is_short q.ha, f_is_short q.hb, f_is_short q.hc, f_is_short q.hd, eq_int, allBl, at0, emod2, bin_sub, q.ab, q.ac, q.ad, h0]
theorem f_need_quad {a b c d : Int} (q : Qd a b c d) : callK (fnsOf ds) W (k + 4) 3 [q4 a b c d] M = some (.non, M) := by
  rw [callD (Df := D3) rfl rfl]
  simp [b3, exs, ex, ev, evs, evC, evI, bd, bdL, bdB, exAsg, exAsgF, exPar, exApp, exPut, exDraw, exRetD, bindT, bindTs, behind, behindL, view, view1, scalarD, ret1, retB, fin, setAll, floop, same_self, cmpD, truthD, bltD, idxD, keyD, freshE, f_is_quad q]
theorem f_need_two {a b c d e f g h : Int} (q : Qd a b c d) (p : Qd e f g h) : callK (fnsOf ds) W (k + 4) 4 [q4 a b c d, q4 e f g h] M = some (.non, M) := by
  rw [callD (Df := D4) rfl rfl]
  simp [b4, exs, ex, ev, evs, evC, evI, bd, bdL, bdB, exAsg, exAsgF, exPar, exApp, exPut, exDraw, exRetD, bindT, bindTs, behind, behindL, view, view1, scalarD, ret1, retB, fin, setAll, floop, same_self, cmpD, truthD, bltD, idxD, keyD, freshE, f_is_quad q, f_is_quad p]
theorem f_short_quad {a b c d : Int} (ha : Bd 600 a) (hb : Bd 600 b) (hc : Bd 600 c) (hd : Bd 600 d) : callK (fnsOf ds) W (k + 3) 5 [q4 a b c d] M = some (q4 a b c d, M) := by
  rw [callD (Df := D5) rfl rfl]
  simp [b5, exs, ex, ev, evs, evC, evI, bd, bdL, bdB, exAsg, exAsgF, exPar, exApp, exPut, exDraw, exRetD, bindT, bindTs, behind, behindL, view, view1, scalarD, ret1, retB, fin, setAll, floop, same_self, cmpD, truthD, bltD, idxD, keyD, freshE, isD, cloop, wipeR, f_is_short ha, f_is_short hb, f_is_short hc, f_is_short hd, allBl]

theorem f_product_by {a b c d e f g h : Int} (ha : Bd 20 a) (hb : Bd 20 b) (hc : Bd 20 c) (hd : Bd 20 d) (he : Bd 20 e) (hf : Bd 20 f) (hg : Bd 20 g) (hh : Bd 20 h) :
    callK (fnsOf ds) W (k + 1) 6 [q4 a b c d, q4 e f g h] M =
      some (q4 ((a * e - b * f - c * g - d * h) / 2) ((a * f + b * e + c * h - d * g) / 2) ((a * g - b * h + c * e + d * f) / 2) ((a * h + b * g - c * f + d * e) / 2), M) := by
  have m : ∀ {x y : Int}, Bd 20 x → Bd 20 y → binD .mul (.int x) (.int y) = some (.int (x * y)) := fun h k => bin_mul (mulOk_bd h k (by decide) (by decide))
  rw [callD (Df := D6) rfl rfl]
  simp [b6, exs, ex, ev, evs, evC, evI, bd, bdL, bdB, exAsg, exAsgF, exPar, exApp, exPut, exDraw, exRetD, bindT, bindTs, behind, behindL, view, view1, scalarD, ret1, retB, fin, setAll, floop, same_self, cmpD, truthD, bltD, idxD, keyD, freshE, bin_add, bin_sub, div2, m, ha, hb, hc, hd, he, hf, hg, hh]
theorem f_plus_by {a b c d e f g h n : Int} (hn : Bd 20 n) (he : Bd 20 e) (hf : Bd 20 f) (hg : Bd 20 g) (hh : Bd 20 h) :
    callK (fnsOf ds) W (k + 1) 7 [q4 a b c d, q4 e f g h, .int n] M = some (q4 (a + n * e) (b + n * f) (c + n * g) (d + n * h), M) := by
  have m : ∀ {x y : Int}, Bd 20 x → Bd 20 y → binD .mul (.int x) (.int y) = some (.int (x * y)) := fun h k => bin_mul (mulOk_bd h k (by decide) (by decide))
  rw [callD (Df := D7) rfl rfl]
  simp [b7, exs, ex, ev, evs, evC, evI, bd, bdL, bdB, exAsg, exAsgF, exPar, exApp, exPut, exDraw, exRetD, bindT, bindTs, behind, behindL, view, view1, scalarD, ret1, retB, fin, setAll, floop, same_self, cmpD, truthD, bltD, idxD, keyD, freshE, bin_add, m, hn, he, hf, hg, hh, cloop, wipeR, zip2L]
theorem bd_half {n : Nat} {x : Int} (h : Bd n x) : Bd n (x / 2) := by unfold Bd at *; omega
theorem bd20 {x : Int} (h : Bd 20 x) : Bd 600 x := h.mono (by decide)
/-- a quad of small numbers -/
structure Qs (a b c d : Int) : Prop where
  ha : Bd 20 a
  hb : Bd 20 b
  hc : Bd 20 c
  hd : Bd 20 d
  ab : (b - a) % 2 = 0
  ac : (c - a) % 2 = 0
  ad : (d - a) % 2 = 0
theorem Qs.q {a b c d : Int} (q : Qs a b c d) : Qd a b c d := ⟨bd20 q.ha, bd20 q.hb, bd20 q.hc, bd20 q.hd, q.ab, q.ac, q.ad⟩
theorem f_product {a b c d e f g h : Int} (q : Qs a b c d) (p : Qs e f g h) : callK (fnsOf ds) W (k + 5) 8 [q4 a b c d, q4 e f g h] M =
      some (q4 ((a * e - b * f - c * g - d * h) / 2) ((a * f + b * e + c * h - d * g) / 2) ((a * g - b * h + c * e + d * f) / 2) ((a * h + b * g - c * f + d * e) / 2), M) := by
  have m : ∀ {x y : Int}, Bd 20 x → Bd 20 y → Bd 40 (x * y) := fun h k => h.mul k
  have s1 : Bd 600 ((a * e - b * f - c * g - d * h) / 2) := bd_half (((((m q.ha p.ha).sub (m q.hb p.hb)).sub (m q.hc p.hc)).sub (m q.hd p.hd)).mono (by decide))
  have s2 : Bd 600 ((a * f + b * e + c * h - d * g) / 2) := bd_half (((((m q.ha p.hb).add (m q.hb p.ha)).add (m q.hc p.hd)).sub (m q.hd p.hc)).mono (by decide))
  have s3 : Bd 600 ((a * g - b * h + c * e + d * f) / 2) := bd_half (((((m q.ha p.hc).sub (m q.hb p.hd)).add (m q.hc p.ha)).add (m q.hd p.hb)).mono (by decide))
  have s4 : Bd 600 ((a * h + b * g - c * f + d * e) / 2) := bd_half (((((m q.ha p.hd).add (m q.hb p.hc)).sub (m q.hc p.hb)).add (m q.hd p.ha)).mono (by decide))
  rw [callD (Df := D8) rfl rfl]
  simp [b8, exs, ex, ev, evs, evC, evI, bd, bdL, bdB, exAsg, exAsgF, exPar, exApp, exPut, exDraw, exRetD, bindT, bindTs, behind, behindL, view, view1, scalarD, ret1, retB, fin, setAll, floop, same_self, cmpD, truthD, bltD, idxD, keyD, freshE, f_need_two q.q p.q, f_product_by q.ha q.hb q.hc q.hd p.ha p.hb p.hc p.hd, f_short_quad s1 s2 s3 s4]
theorem f_plus {a b c d e f g h n : Int} (q : Qs a b c d) (p : Qs e f g h) (hn : Bd 20 n) : callK (fnsOf ds) W (k + 5) 9 [q4 a b c d, q4 e f g h, .int n] M = some (q4 (a + n * e) (b + n * f) (c + n * g) (d + n * h), M) := by
  have m : ∀ {x y : Int}, Bd 20 x → Bd 20 y → Bd 600 (y + n * x) := fun h k => (k.add (hn.mul h)).mono (by decide)
  rw [callD (Df := D9) rfl rfl]
  simp [b9, exs, ex, ev, evs, evC, evI, bd, bdL, bdB, exAsg, exAsgF, exPar, exApp, exPut, exDraw, exRetD, bindT, bindTs, behind, behindL, view, view1, scalarD, ret1, retB, fin, setAll, floop, same_self, cmpD, truthD, bltD, idxD, keyD, freshE, f_need_two q.q p.q, f_is_short (bd20 hn), f_plus_by hn p.ha p.hb p.hc p.hd, f_short_quad (m p.ha q.ha) (m p.hb q.hb) (m p.hc q.hc) (m p.hd q.hd)]

/-! ### turns -/
def g (x y : Int) : Int := ((Nat.gcd x.natAbs y.natAbs : Nat) : Int)
theorem blg (x y : Int) : bltD .gcd2 [.int x, .int y] = some (.int (g x y)) := rfl
def gW (n a b c d e f g' h i : Int) : Int := g (g (g (g (g (g (g (g (g n a) b) c) d) e) f) g') h) i
abbrev tD (n a b c d e f g h i : Int) : D := .tup [.int n, q9 a b c d e f g h i]
theorem f_shortened {n a b c d e f g' h i : Int} (hw : divOk (gW n a b c d e f g' h i) = true) :
    callK (fnsOf ds) W (k + 1) 11 [.int n, q9 a b c d e f g' h i] M =
      some (let w := gW n a b c d e f g' h i; tD (n / w) (a / w) (b / w) (c / w) (d / w) (e / w) (f / w) (g' / w) (h / w) (i / w), M) := by
  have dv : ∀ x, binD .fdiv (.int x) (.int (gW n a b c d e f g' h i)) = some (.int (x / gW n a b c d e f g' h i)) := fun x => bin_div hw
  have e1 : g (g (g (g (g (g (g (g (g n a) b) c) d) e) f) g') h) i = gW n a b c d e f g' h i := rfl
  rw [callD (Df := D11) rfl rfl]
  simp [b11, exs, ex, ev, evs, evC, evI, bd, bdL, bdB, exAsg, exAsgF, exPar, exApp, exPut, exDraw, exRetD, bindT, bindTs, behind, behindL, view, view1, scalarD, ret1, retB, fin, setAll, floop, same_self, cmpD, truthD, idxD, keyD, freshE, blg, cloop, wipeR, e1, dv, bl_tuple1]
theorem f_across {a b c d e f : Int} (h1 : mulOk a d = true) (h2 : mulOk b e = true) (h3 : mulOk c f = true) : callK (fnsOf ds) W (k + 1) 12 [q3 a b c, q3 d e f] M = some (.int (a * d + (b * e + c * f)), M) := by
  rw [callD (Df := D12) rfl rfl]
  simp [b12, exs, ex, ev, evs, evC, evI, bd, bdL, bdB, exAsg, exAsgF, exPar, exApp, exPut, exDraw, exRetD, bindT, bindTs, behind, behindL, view, view1, scalarD, ret1, retB, fin, setAll, floop, same_self, cmpD, truthD, bltD, idxD, keyD, freshE, cloop, wipeR, zip2L, bin_mul h1, bin_mul h2, bin_mul h3, allInt]
theorem f_det {a b c d e f g' h i : Int} (ha : Bd 1000 a) (hb : Bd 1000 b) (hc : Bd 1000 c) (hd : Bd 1000 d) (he : Bd 1000 e) (hf : Bd 1000 f) (hg : Bd 1000 g') (hh : Bd 1000 h) (hi : Bd 1000 i) :
    callK (fnsOf ds) W (k + 1) 13 [q9 a b c d e f g' h i] M = some (.int (a * (e * i - f * h) - b * (d * i - f * g') + c * (d * h - e * g')), M) := by
  have m : ∀ {x y : Int}, Bd 1000 x → Bd 1000 y → binD .mul (.int x) (.int y) = some (.int (x * y)) := fun h k => bin_mul (mulOk_bd h k (by decide) (by decide))
  have m2 : ∀ {x y z u v : Int}, Bd 1000 x → Bd 1000 y → Bd 1000 z → Bd 1000 u → Bd 1000 v → binD .mul (.int x) (.int (y * z - u * v)) = some (.int (x * (y * z - u * v))) := fun h k l p q => bin_mul (mulOk_bd h ((k.mul l).sub (p.mul q)) (by decide) (by decide))
  rw [callD (Df := D13) rfl rfl]
  simp [b13, exs, ex, ev, evs, evC, evI, bd, bdL, bdB, exAsg, exAsgF, exPar, exApp, exPut, exDraw, exRetD, bindT, bindTs, behind, behindL, view, view1, scalarD, ret1, retB, fin, setAll, floop, same_self, cmpD, truthD, bltD, idxD, keyD, freshE, bin_add, bin_sub, m, m2, ha, hb, hc, hd, he, hf, hg, hh, hi]
theorem f_are_three {a b c : Int} : callK (fnsOf ds) W (k + 2) 10 [q3 a b c] M = some (.bl true, M) := by
  rw [callD (Df := D10) rfl rfl]
  simp [b10, exs, ex, ev, evs, evC, evI, bd, bdL, bdB, exAsg, exAsgF, exPar, exApp, exPut, exDraw, exRetD, bindT, bindTs, behind, behindL, view, view1, scalarD, ret1, retB, fin, setAll, floop, same_self, cmpD, truthD, bltD, idxD, keyD, freshE, isD, cloop, wipeR, f_is_number, eq_int, allBl]
end L82

set_option Elab.async false
set_option linter.all false
set_option maxRecDepth 100000
set_option maxHeartbeats 8000000
namespace L82
open PySem L2 EV
variable {k W : Nat} {M : Mst}
/-- a turn as the program keeps it -/
structure Tn (n a b c d e f g' h i : Int) : Prop where
  n0 : 0 < n
  w1 : gW n a b c d e f g' h i = 1
  hn : Bd 100 n
  ha : Bd 100 a
  hb : Bd 100 b
  hc : Bd 100 c
  hd : Bd 100 d
  he : Bd 100 e
  hf : Bd 100 f
  hg : Bd 100 g'
  hh : Bd 100 h
  hi : Bd 100 i
  det : a * (e * i - f * h) - b * (d * i - f * g') + c * (d * h - e * g') = n * n * n
  o11 : a * a + (b * b + c * c) = n * n
  o22 : d * d + (e * e + f * f) = n * n
  o33 : g' * g' + (h * h + i * i) = n * n
  o12 : a * d + (b * e + c * f) = 0
  o13 : a * g' + (b * h + c * i) = 0
  o23 : d * g' + (e * h + f * i) = 0
theorem ok1 : divOk 1 = true := divOk_s (by decide) (by decide)
theorem f_is_turn {n a b c d e f g' h i : Int} (t : Tn n a b c d e f g' h i) : callK (fnsOf ds) W (k + 3) 14 [tD n a b c d e f g' h i] M = some (.bl true, M) := by
  have m : ∀ {x y : Int}, Bd 100 x → Bd 100 y → mulOk x y = true := fun h k => mulOk_bd h k (by decide) (by decide)
  have o21 : d * a + (e * b + f * c) = 0 := by have := t.o12; grind
  have o31 : g' * a + (h * b + i * c) = 0 := by have := t.o13; grind
  have o32 : g' * d + (h * e + i * f) = 0 := by have := t.o23; grind
  have hs : callK (fnsOf ds) W (k + 2) 11 [.int n, q9 a b c d e f g' h i] M = some (tD n a b c d e f g' h i, M) := by
    rw [f_shortened (by rw [t.w1]; exact ok1), t.w1]
    simp
  have k9 : ∀ {x : Int}, Bd 100 x → Bd 1000 x := fun h => h.mono (by decide)
  have hdt := f_det (k := k + 1) (W := W) (M := M) (k9 t.ha) (k9 t.hb) (k9 t.hc) (k9 t.hd) (k9 t.he) (k9 t.hf) (k9 t.hg) (k9 t.hh) (k9 t.hi)
  rw [t.det] at hdt
  have a11 := f_across (k := k + 1) (W := W) (M := M) (m t.ha t.ha) (m t.hb t.hb) (m t.hc t.hc)
  have a12 := f_across (k := k + 1) (W := W) (M := M) (m t.ha t.hd) (m t.hb t.he) (m t.hc t.hf)
  have a13 := f_across (k := k + 1) (W := W) (M := M) (m t.ha t.hg) (m t.hb t.hh) (m t.hc t.hi)
  have a21 := f_across (k := k + 1) (W := W) (M := M) (m t.hd t.ha) (m t.he t.hb) (m t.hf t.hc)
  have a22 := f_across (k := k + 1) (W := W) (M := M) (m t.hd t.hd) (m t.he t.he) (m t.hf t.hf)
  have a23 := f_across (k := k + 1) (W := W) (M := M) (m t.hd t.hg) (m t.he t.hh) (m t.hf t.hi)
  have a31 := f_across (k := k + 1) (W := W) (M := M) (m t.hg t.ha) (m t.hh t.hb) (m t.hi t.hc)
  have a32 := f_across (k := k + 1) (W := W) (M := M) (m t.hg t.hd) (m t.hh t.he) (m t.hi t.hf)
  have a33 := f_across (k := k + 1) (W := W) (M := M) (m t.hg t.hg) (m t.hh t.hh) (m t.hi t.hi)
  rw [t.o11] at a11
  rw [t.o12] at a12
  rw [t.o13] at a13
  rw [o21] at a21
  rw [t.o22] at a22
  rw [t.o23] at a23
  rw [o31] at a31
  rw [o32] at a32
  rw [t.o33] at a33
  have n1 : ¬ n < 1 := by have := t.n0; omega
  have mn : binD .mul (.int n) (.int n) = some (.int (n * n)) := bin_mul (m t.hn t.hn)
  have mnn : binD .mul (.int (n * n)) (.int n) = some (.int (n * n * n)) := bin_mul (mulOk_bd (t.hn.mul t.hn) t.hn (by decide) (by decide))
  rw [callD (Df := D14) rfl rfl]
  simp [b14, exs, ex, ev, evs, evC, evI, bd, bdL, bdB, exAsg, exAsgF, exPar, exApp, exPut, exDraw, exRetD, bindT, bindTs, behind, behindL, view, view1, scalarD, ret1, retB, fin, setAll, floop, same_self, cmpD, truthD, bltD, idxD, keyD, freshE, isD, cloop, wipeR, at0, at1, at2, f_is_number, eq_int, f_are_three, allBl, n1, hs, eq_ts, hdt, mn, mnn, a11, a12, a13, a21, a22, a23, a31, a32, a33]
end L82

set_option Elab.async false
set_option linter.all false
set_option maxRecDepth 100000
set_option maxHeartbeats 8000000
namespace L82
open PySem L2 EV
variable {k W : Nat} {M : Mst}
/-! ### the greatest common divisor of ten -/
theorem g_nn (x y : Int) : 0 ≤ g x y := Int.natCast_nonneg _
theorem g_dl (x y : Int) : g x y ∣ x := by unfold g; rw [Int.ofNat_dvd_left]; exact Nat.gcd_dvd_left _ _
theorem g_dr (x y : Int) : g x y ∣ y := by unfold g; rw [Int.ofNat_dvd_left]; exact Nat.gcd_dvd_right _ _
theorem g_pos {x : Int} (y : Int) (h : 0 < x) : 0 < g x y := by
  unfold g
  have : 0 < Nat.gcd x.natAbs y.natAbs := Nat.gcd_pos_of_pos_left _ (by omega)
  omega
theorem g_mul {c : Int} (h : 0 ≤ c) (x y : Int) : g (c * x) (c * y) = c * g x y := by
  unfold g
  rw [Int.natAbs_mul, Int.natAbs_mul, Nat.gcd_mul_left]
  have : ((c.natAbs : Nat) : Int) = c := Int.natAbs_of_nonneg h
  rw [Int.natCast_mul, this]
theorem gW_pos {n : Int} (h : 0 < n) (a b c d e f g' i j : Int) : 0 < gW n a b c d e f g' i j := g_pos _ (g_pos _ (g_pos _ (g_pos _ (g_pos _ (g_pos _ (g_pos _ (g_pos _ (g_pos _ h))))))))
theorem gW_mul {w : Int} (h : 0 ≤ w) (n a b c d e f g' i j : Int) : gW (w * n) (w * a) (w * b) (w * c) (w * d) (w * e) (w * f) (w * g') (w * i) (w * j) = w * gW n a b c d e f g' i j := by
  unfold gW
  rw [g_mul h, g_mul h, g_mul h, g_mul h, g_mul h, g_mul h, g_mul h, g_mul h, g_mul h]
theorem gW_dvd (n a b c d e f g' i j : Int) : gW n a b c d e f g' i j ∣ n ∧ gW n a b c d e f g' i j ∣ a ∧ gW n a b c d e f g' i j ∣ b ∧ gW n a b c d e f g' i j ∣ c ∧ gW n a b c d e f g' i j ∣ d ∧ gW n a b c d e f g' i j ∣ e ∧ gW n a b c d e f g' i j ∣ f ∧ gW n a b c d e f g' i j ∣ g' ∧
    gW n a b c d e f g' i j ∣ i ∧ gW n a b c d e f g' i j ∣ j := by
  unfold gW
  have l := g_dl
  have dt : ∀ {x y z : Int}, x ∣ y → y ∣ z → x ∣ z := fun h k => Int.dvd_trans h k
  refine ⟨?_, ?_, ?_, ?_, ?_, ?_, ?_, ?_, ?_, g_dr _ _⟩
  · exact (dt (l _ _) (dt (l _ _) (dt (l _ _) (dt (l _ _) (dt (l _ _) (dt (l _ _) (dt (l _ _) (dt (l _ _) (l _ _)))))))))
  · exact (dt (l _ _) (dt (l _ _) (dt (l _ _) (dt (l _ _) (dt (l _ _) (dt (l _ _) (dt (l _ _) (dt (l _ _) (g_dr _ _)))))))))
  · exact (dt (l _ _) (dt (l _ _) (dt (l _ _) (dt (l _ _) (dt (l _ _) (dt (l _ _) (dt (l _ _) (g_dr _ _))))))))
  · exact (dt (l _ _) (dt (l _ _) (dt (l _ _) (dt (l _ _) (dt (l _ _) (dt (l _ _) (g_dr _ _)))))))
  · exact (dt (l _ _) (dt (l _ _) (dt (l _ _) (dt (l _ _) (dt (l _ _) (g_dr _ _))))))
  · exact (dt (l _ _) (dt (l _ _) (dt (l _ _) (dt (l _ _) (g_dr _ _)))))
  · exact (dt (l _ _) (dt (l _ _) (dt (l _ _) (g_dr _ _))))
  · exact (dt (l _ _) (dt (l _ _) (g_dr _ _)))
  · exact (dt (l _ _) (g_dr _ _))
/-- shortened, as a value -/
def sh (n a b c d e f g' i j : Int) : D := let w := gW n a b c d e f g' i j; tD (n / w) (a / w) (b / w) (c / w) (d / w) (e / w) (f / w) (g' / w) (i / w) (j / w)
theorem sh_mul {w : Int} (h : 0 < w) (n a b c d e f g' i j : Int) : sh (w * n) (w * a) (w * b) (w * c) (w * d) (w * e) (w * f) (w * g') (w * i) (w * j) = sh n a b c d e f g' i j := by
  have m : ∀ x y : Int, w * x / (w * y) = x / y := fun x y => Int.mul_ediv_mul_of_pos _ _ h
  unfold sh
  rw [gW_mul (by omega)]
  simp only [m]
theorem f_short {n a b c d e f g' i j : Int} (h0 : 0 < n) (h1 : n < 2 ^ 63) : callK (fnsOf ds) W (k + 1) 11 [.int n, q9 a b c d e f g' i j] M = some (sh n a b c d e f g' i j, M) := by
  have p := gW_pos h0 a b c d e f g' i j
  have l := Int.le_of_dvd h0 (gW_dvd n a b c d e f g' i j).1
  exact f_shortened (divOk_s p (by omega))

/-! ### the turn of a quad -/
def nN (a b c d : Int) : Int := a * a + b * b + c * c + d * d
def r1 (a b c d : Int) : Int := a * a + b * b - c * c - d * d
def r2 (a b c d : Int) : Int := 2 * (b * c - a * d)
def r3 (a b c d : Int) : Int := 2 * (b * d + a * c)
def r4 (a b c d : Int) : Int := 2 * (b * c + a * d)
def r5 (a b c d : Int) : Int := a * a - b * b + c * c - d * d
def r6 (a b c d : Int) : Int := 2 * (c * d - a * b)
def r7 (a b c d : Int) : Int := 2 * (b * d - a * c)
def r8 (a b c d : Int) : Int := 2 * (c * d + a * b)
def r9 (a b c d : Int) : Int := a * a - b * b - c * c + d * d
def uD (a b c d : Int) : D := tD (nN a b c d) (r1 a b c d) (r2 a b c d) (r3 a b c d) (r4 a b c d) (r5 a b c d) (r6 a b c d) (r7 a b c d) (r8 a b c d) (r9 a b c d)
def tq (a b c d : Int) : D := sh (nN a b c d) (r1 a b c d) (r2 a b c d) (r3 a b c d) (r4 a b c d) (r5 a b c d) (r6 a b c d) (r7 a b c d) (r8 a b c d) (r9 a b c d)
theorem f_unshort {a b c d : Int} (ha : Bd 21 a) (hb : Bd 21 b) (hc : Bd 21 c) (hd : Bd 21 d) : callK (fnsOf ds) W (k + 1) 15 [q4 a b c d] M = some (uD a b c d, M) := by
  have m : ∀ {x y : Int}, Bd 21 x → Bd 21 y → binD .mul (.int x) (.int y) = some (.int (x * y)) := fun h k => bin_mul (mulOk_bd h k (by decide) (by decide))
  have m2 : ∀ x : Int, binD .mul (.int 2) (.int x) = some (.int (2 * x)) := fun x => bin_mul (mulOk_l (by decide))
  rw [callD (Df := D15) rfl rfl]
  simp [b15, exs, ex, ev, evs, evC, evI, bd, bdL, bdB, exAsg, exAsgF, exPar, exApp, exPut, exDraw, exRetD, bindT, bindTs, behind, behindL, view, view1, scalarD, ret1, retB, fin, setAll, floop, same_self, cmpD, truthD, bltD, idxD, keyD, freshE, bin_add, bin_sub, m, m2, ha, hb, hc, hd, uD, nN, r1, r2, r3, r4, r5, r6, r7, r8, r9]
theorem sq_nn (x : Int) : 0 ≤ x * x := by
  rcases Int.le_total 0 x with h | h
  · exact Int.mul_nonneg h h
  · exact Int.mul_nonneg_of_nonpos_of_nonpos h h
theorem sq_pos {x : Int} (h : x ≠ 0) : 0 < x * x := by
  have h1 := sq_nn x
  have h2 : x * x ≠ 0 := fun e => by
    rcases Int.mul_eq_zero.mp e with z | z <;> exact h z
  omega
theorem nN_nn (a b c d : Int) : 0 ≤ nN a b c d := by
  have := sq_nn a; have := sq_nn b; have := sq_nn c; have := sq_nn d
  unfold nN; omega
theorem nN_zero {a b c d : Int} (h : nN a b c d = 0) : a = 0 ∧ b = 0 ∧ c = 0 ∧ d = 0 := by
  have h1 := sq_nn a; have h2 := sq_nn b; have h3 := sq_nn c; have h4 := sq_nn d
  unfold nN at h
  have z : ∀ x : Int, x * x = 0 → x = 0 := fun x e => by rcases Int.mul_eq_zero.mp e with z | z <;> exact z
  exact ⟨z a (by omega), z b (by omega), z c (by omega), z d (by omega)⟩
theorem sq_lt {x : Int} {n : Nat} (h : Bd n x) : x * x < 2 ^ (2 * n) := by
  have := h.mul h
  unfold Bd at this
  have e : ((x * x).natAbs : Int) = x * x := Int.natAbs_of_nonneg (sq_nn x)
  have : ((x * x).natAbs : Int) < ((2 ^ (n + n) : Nat) : Int) := by omega
  rw [e] at this
  rw [show 2 * n = n + n by omega]
  simpa using this
theorem nN_lt {a b c d : Int} (ha : Bd 21 a) (hb : Bd 21 b) (hc : Bd 21 c) (hd : Bd 21 d) : nN a b c d < 2 ^ 45 := by
  have := sq_lt ha; have := sq_lt hb; have := sq_lt hc; have := sq_lt hd
  unfold nN; omega
theorem f_turn_by {a b c d : Int} (ha : Bd 21 a) (hb : Bd 21 b) (hc : Bd 21 c) (hd : Bd 21 d) (h0 : 0 < nN a b c d) : callK (fnsOf ds) W (k + 2) 16 [q4 a b c d] M = some (tq a b c d, M) := by
  have hl := nN_lt ha hb hc hd
  rw [callD (Df := D16) rfl rfl]
  simp [b16, exs, ex, ev, evs, evC, evI, bd, bdL, bdB, exAsg, exAsgF, exPar, exApp, exPut, exDraw, exRetD, bindT, bindTs, behind, behindL, view, view1, scalarD, ret1, retB, fin, setAll, floop, same_self, cmpD, truthD, bltD, idxD, keyD, freshE, f_unshort ha hb hc hd, uD, f_short h0 (show nN a b c d < 2 ^ 63 by omega), tq]
structure Qt (a b c d : Int) : Prop where
  ha : Bd 21 a
  hb : Bd 21 b
  hc : Bd 21 c
  hd : Bd 21 d
  ab : (b - a) % 2 = 0
  ac : (c - a) % 2 = 0
  ad : (d - a) % 2 = 0
theorem Qt.q {a b c d : Int} (q : Qt a b c d) : Qd a b c d := ⟨q.ha.mono (by decide), q.hb.mono (by decide), q.hc.mono (by decide), q.hd.mono (by decide), q.ab, q.ac, q.ad⟩
theorem Qs.t {a b c d : Int} (q : Qs a b c d) : Qt a b c d := ⟨q.ha.mono (by decide), q.hb.mono (by decide), q.hc.mono (by decide), q.hd.mono (by decide), q.ab, q.ac, q.ad⟩
theorem f_turn_of {a b c d : Int} (q : Qt a b c d) (h0 : 0 < nN a b c d) : callK (fnsOf ds) W (k + 5) 18 [q4 a b c d] M = some (tq a b c d, M) := by
  have nz : (a == 0 && (b == 0 && (c == 0 && d == 0))) = false := by
    rw [Bool.eq_false_iff]
    intro h
    simp only [Bool.and_eq_true, beq_iff_eq] at h
    obtain ⟨rfl, rfl, rfl, rfl⟩ := h
    exact absurd h0 (by decide)
  rw [callD (Df := D18) rfl rfl]
  have e := eq_q4 a b c d 0 0 0 0
  rw [nz] at e
  simp [b18, exs, ex, ev, evs, evC, evI, bd, bdL, bdB, exAsg, exAsgF, exPar, exApp, exPut, exDraw, exRetD, bindT, bindTs, behind, behindL, view, view1, scalarD, ret1, retB, fin, setAll, floop, same_self, cmpD, truthD, bltD, idxD, keyD, freshE, f_need_quad q.q, e, f_turn_by q.ha q.hb q.hc q.hd h0]
end L82

set_option Elab.async false
set_option linter.all false
set_option maxRecDepth 100000
set_option maxHeartbeats 8000000
namespace L82
open PySem L2 EV
variable {k W : Nat} {M : Mst}
theorem cancel {w x y : Int} (hw : 0 < w) (h : w * x = w * y) : x = y := Int.eq_of_mul_eq_mul_left (by omega) h

theorem o11 (a b c d : Int) : r1 a b c d * r1 a b c d + (r2 a b c d * r2 a b c d + r3 a b c d * r3 a b c d) = nN a b c d * nN a b c d := by unfold r1 r2 r3 nN; grind
theorem o22 (a b c d : Int) : r4 a b c d * r4 a b c d + (r5 a b c d * r5 a b c d + r6 a b c d * r6 a b c d) = nN a b c d * nN a b c d := by unfold r4 r5 r6 nN; grind
theorem o33 (a b c d : Int) : r7 a b c d * r7 a b c d + (r8 a b c d * r8 a b c d + r9 a b c d * r9 a b c d) = nN a b c d * nN a b c d := by unfold r7 r8 r9 nN; grind
theorem o12 (a b c d : Int) : r1 a b c d * r4 a b c d + (r2 a b c d * r5 a b c d + r3 a b c d * r6 a b c d) = 0 := by unfold r1 r2 r3 r4 r5 r6; grind
theorem o13 (a b c d : Int) : r1 a b c d * r7 a b c d + (r2 a b c d * r8 a b c d + r3 a b c d * r9 a b c d) = 0 := by unfold r1 r2 r3 r7 r8 r9; grind
theorem o23 (a b c d : Int) : r4 a b c d * r7 a b c d + (r5 a b c d * r8 a b c d + r6 a b c d * r9 a b c d) = 0 := by unfold r4 r5 r6 r7 r8 r9; grind
theorem odet (a b c d : Int) : r1 a b c d * (r5 a b c d * r9 a b c d - r6 a b c d * r8 a b c d) - r2 a b c d * (r4 a b c d * r9 a b c d - r6 a b c d * r7 a b c d) + r3 a b c d * (r4 a b c d * r8 a b c d - r5 a b c d * r7 a b c d) = nN a b c d * nN a b c d * nN a b c d := by unfold r1 r2 r3 r4 r5 r6 r7 r8 r9 nN; grind
/-- the turn of a quad, shortened by w -/
structure Tq (a b c d w n x1 x2 x3 x4 x5 x6 x7 x8 x9 : Int) : Prop where
  w0 : 0 < w
  hn : nN a b c d = w * n
  e1 : r1 a b c d = w * x1
  e2 : r2 a b c d = w * x2
  e3 : r3 a b c d = w * x3
  e4 : r4 a b c d = w * x4
  e5 : r5 a b c d = w * x5
  e6 : r6 a b c d = w * x6
  e7 : r7 a b c d = w * x7
  e8 : r8 a b c d = w * x8
  e9 : r9 a b c d = w * x9
  e : tq a b c d = tD n x1 x2 x3 x4 x5 x6 x7 x8 x9
  t : Tn n x1 x2 x3 x4 x5 x6 x7 x8 x9
theorem tq_ex {a b c d : Int} (ha : Bd 21 a) (hb : Bd 21 b) (hc : Bd 21 c) (hd : Bd 21 d) (h0 : 0 < nN a b c d) : ∃ w n x1 x2 x3 x4 x5 x6 x7 x8 x9, Tq a b c d w n x1 x2 x3 x4 x5 x6 x7 x8 x9 := by
  obtain ⟨d0, d1, d2, d3, d4, d5, d6, d7, d8, d9⟩ := gW_dvd (nN a b c d) (r1 a b c d) (r2 a b c d) (r3 a b c d) (r4 a b c d) (r5 a b c d) (r6 a b c d) (r7 a b c d) (r8 a b c d) (r9 a b c d)
  have w0 := gW_pos h0 (r1 a b c d) (r2 a b c d) (r3 a b c d) (r4 a b c d) (r5 a b c d) (r6 a b c d) (r7 a b c d) (r8 a b c d) (r9 a b c d)
  generalize hw : gW (nN a b c d) (r1 a b c d) (r2 a b c d) (r3 a b c d) (r4 a b c d) (r5 a b c d) (r6 a b c d) (r7 a b c d) (r8 a b c d) (r9 a b c d) = w at *
  obtain ⟨n, hn⟩ := d0
  obtain ⟨x1, h1⟩ := d1
  obtain ⟨x2, h2⟩ := d2
  obtain ⟨x3, h3⟩ := d3
  obtain ⟨x4, h4⟩ := d4
  obtain ⟨x5, h5⟩ := d5
  obtain ⟨x6, h6⟩ := d6
  obtain ⟨x7, h7⟩ := d7
  obtain ⟨x8, h8⟩ := d8
  obtain ⟨x9, h9⟩ := d9
  have q : ∀ x : Int, w * x / w = x := fun x => Int.mul_ediv_cancel_left x (by omega)
  have e : tq a b c d = tD n x1 x2 x3 x4 x5 x6 x7 x8 x9 := by
    unfold tq sh
    rw [hw]
    simp only [hn, h1, h2, h3, h4, h5, h6, h7, h8, h9, q]
  have p : ∀ {x y : Int}, Bd 21 x → Bd 21 y → Bd 42 (x * y) := fun h k => h.mul k
  have p2 : ∀ {x y u v : Int}, Bd 21 x → Bd 21 y → Bd 21 u → Bd 21 v → Bd 100 (2 * (x * y - u * v)) := fun h k l m => (Bd.mul (n := 2) Bd.two (Bd.sub' (p h k) (p l m))).mono (by decide)
  have p3 : ∀ {x y u v : Int}, Bd 21 x → Bd 21 y → Bd 21 u → Bd 21 v → Bd 100 (2 * (x * y + u * v)) := fun h k l m => (Bd.mul (n := 2) Bd.two (Bd.add' (p h k) (p l m))).mono (by decide)
  have b0 : Bd 100 (nN a b c d) := by
    have := nN_lt ha hb hc hd
    unfold Bd
    omega
  have m1 : ∀ {n : Nat} {x : Int}, Bd n x → Bd (n + 1) x := fun h => h.mono (by omega)
  have b1 : Bd 100 (r1 a b c d) := ((((p ha ha).add' (p hb hb)).sub' (m1 (p hc hc))).sub' (m1 (m1 (p hd hd)))).mono (by decide)
  have b5 : Bd 100 (r5 a b c d) := ((((p ha ha).sub' (p hb hb)).add' (m1 (p hc hc))).sub' (m1 (m1 (p hd hd)))).mono (by decide)
  have b9 : Bd 100 (r9 a b c d) := ((((p ha ha).sub' (p hb hb)).sub' (m1 (p hc hc))).add' (m1 (m1 (p hd hd)))).mono (by decide)
  have b2 : Bd 100 (r2 a b c d) := p2 hb hc ha hd
  have b3 : Bd 100 (r3 a b c d) := p3 hb hd ha hc
  have b4 : Bd 100 (r4 a b c d) := p3 hb hc ha hd
  have b6 : Bd 100 (r6 a b c d) := p2 hc hd ha hb
  have b7 : Bd 100 (r7 a b c d) := p2 hb hd ha hc
  have b8 : Bd 100 (r8 a b c d) := p3 hc hd ha hb
  have ww : 0 < w * w := Int.mul_pos w0 w0
  have www : 0 < w * w * w := Int.mul_pos ww w0
  refine ⟨w, n, x1, x2, x3, x4, x5, x6, x7, x8, x9, w0, hn, h1, h2, h3, h4, h5, h6, h7, h8, h9, e, ?_, ?_, Bd.of_mul w0 (hn ▸ b0), Bd.of_mul w0 (h1 ▸ b1), Bd.of_mul w0 (h2 ▸ b2), Bd.of_mul w0 (h3 ▸ b3), Bd.of_mul w0 (h4 ▸ b4), Bd.of_mul w0 (h5 ▸ b5), Bd.of_mul w0 (h6 ▸ b6), Bd.of_mul w0 (h7 ▸ b7), Bd.of_mul w0 (h8 ▸ b8), Bd.of_mul w0 (h9 ▸ b9), ?_, ?_, ?_, ?_, ?_, ?_, ?_⟩
  · rw [hn] at h0
    exact Int.pos_of_mul_pos_right h0 w0
  · have := gW_mul (w := w) (by omega) n x1 x2 x3 x4 x5 x6 x7 x8 x9
    rw [← hn, ← h1, ← h2, ← h3, ← h4, ← h5, ← h6, ← h7, ← h8, ← h9, hw] at this
    have h' : w * 1 = w * gW n x1 x2 x3 x4 x5 x6 x7 x8 x9 := by rw [← this]; omega
    exact (cancel w0 h').symm
  · have o := odet a b c d
    rw [hn, h1, h2, h3, h4, h5, h6, h7, h8, h9] at o
    refine cancel www ?_
    grind
  · have o := o11 a b c d
    rw [hn, h1, h2, h3] at o
    refine cancel ww ?_
    grind
  · have o := o22 a b c d
    rw [hn, h4, h5, h6] at o
    refine cancel ww ?_
    grind
  · have o := o33 a b c d
    rw [hn, h7, h8, h9] at o
    refine cancel ww ?_
    grind
  · have o := o12 a b c d
    rw [h1, h2, h3, h4, h5, h6] at o
    refine cancel ww ?_
    grind
  · have o := o13 a b c d
    rw [h1, h2, h3, h7, h8, h9] at o
    refine cancel ww ?_
    grind
  · have o := o23 a b c d
    rw [h4, h5, h6, h7, h8, h9] at o
    refine cancel ww ?_
    grind

end L82

set_option Elab.async false
set_option linter.all false
set_option maxRecDepth 100000
set_option maxHeartbeats 8000000
namespace L82
open PySem L2 EV
variable {k W : Nat} {M : Mst}
/-! ### one turn behind another -/
theorem f_behind {n a b c d e f g' h i : Int} {m p q r s t u v x y : Int} (T1 : Tn n a b c d e f g' h i) (T2 : Tn m p q r s t u v x y) (hn : n < 2 ^ 30) (hm : m < 2 ^ 30) :
    callK (fnsOf ds) W (k + 2) 17 [tD n a b c d e f g' h i, tD m p q r s t u v x y] M =
      some (sh (n * m) (p * a + (q * d + r * g')) (p * b + (q * e + r * h)) (p * c + (q * f + r * i)) (s * a + (t * d + u * g')) (s * b + (t * e + u * h)) (s * c + (t * f + u * i)) (v * a + (x * d + y * g')) (v * b + (x * e + y * h)) (v * c + (x * f + y * i)), M) := by
  have ok : ∀ {x y : Int}, Bd 100 x → Bd 100 y → mulOk x y = true := fun h k => mulOk_bd h k (by decide) (by decide)
  have mn : binD .mul (.int n) (.int m) = some (.int (n * m)) := bin_mul (ok T1.hn T2.hn)
  have nm0 : 0 < n * m := Int.mul_pos T1.n0 T2.n0
  have nm1 : n * m < 2 ^ 63 := by
    have h1 : n * m ≤ n * 2 ^ 30 := Int.mul_le_mul_of_nonneg_left (by omega) (by have := T1.n0; omega)
    have h2 : n * 2 ^ 30 ≤ 2 ^ 30 * 2 ^ 30 := Int.mul_le_mul_of_nonneg_right (by omega) (by decide)
    omega
  have A := fun {a b c d e f : Int} (h1 : Bd 100 a) (h2 : Bd 100 b) (h3 : Bd 100 c) (h4 : Bd 100 d) (h5 : Bd 100 e) (h6 : Bd 100 f) => f_across (k := k) (W := W) (M := M) (ok h1 h4) (ok h2 h5) (ok h3 h6)
  rw [callD (Df := D17) rfl rfl]
  simp [b17, exs, ex, ev, evs, evC, evI, bd, bdL, bdB, exAsg, exAsgF, exPar, exApp, exPut, exDraw, exRetD, bindT, bindTs, behind, behindL, view, view1, scalarD, ret1, retB, fin, setAll, floop, same_self, cmpD, truthD, bltD, idxD, keyD, freshE, cloop, wipeR, at0, at1, at2, zip3, mn, A, T1.ha, T1.hb, T1.hc, T1.hd, T1.he, T1.hf, T1.hg, T1.hh, T1.hi, T2.ha, T2.hb, T2.hc, T2.hd, T2.he, T2.hf, T2.hg, T2.hh, T2.hi, f_short nm0 nm1]
end L82

set_option Elab.async false
set_option linter.all false
set_option maxRecDepth 100000
set_option maxHeartbeats 8000000
namespace L82
open PySem L2 EV
variable {k W : Nat} {M : Mst}
/-! ### products -/
def p1 (a b c d e f g h : Int) : Int := a * e - b * f - c * g - d * h
def p2 (a b c d e f g h : Int) : Int := a * f + b * e + c * h - d * g
def p3 (a b c d e f g h : Int) : Int := a * g - b * h + c * e + d * f
def p4 (a b c d e f g h : Int) : Int := a * h + b * g - c * f + d * e
/-- x y z u is the product of two quads -/
structure Pq (a b c d e f g h x y z u : Int) : Prop where
  h1 : p1 a b c d e f g h = 2 * x
  h2 : p2 a b c d e f g h = 2 * y
  h3 : p3 a b c d e f g h = 2 * z
  h4 : p4 a b c d e f g h = 2 * u
  ab : (y - x) % 2 = 0
  ac : (z - x) % 2 = 0
  ad : (u - x) % 2 = 0
theorem even_ex {x y : Int} (h : (y - x) % 2 = 0) : ∃ z, y = x + 2 * z := ⟨(y - x) / 2, by omega⟩
theorem even_of {x y : Int} (z : Int) (h : y - x = 2 * z) : (y - x) % 2 = 0 := by omega
theorem pq_ex {a b c d e f g h : Int} (ab : (b - a) % 2 = 0) (ac : (c - a) % 2 = 0) (ad : (d - a) % 2 = 0) (ef : (f - e) % 2 = 0) (eg : (g - e) % 2 = 0) (eh : (h - e) % 2 = 0) : ∃ x y z u, Pq a b c d e f g h x y z u := by
  obtain ⟨b', rfl⟩ := even_ex ab
  obtain ⟨c', rfl⟩ := even_ex ac
  obtain ⟨d', rfl⟩ := even_ex ad
  obtain ⟨f', rfl⟩ := even_ex ef
  obtain ⟨g', rfl⟩ := even_ex eg
  obtain ⟨h', rfl⟩ := even_ex eh
  refine ⟨-(a * e) - (a * f' + b' * e + 2 * (b' * f')) - (a * g' + c' * e + 2 * (c' * g')) - (a * h' + d' * e + 2 * (d' * h')),
    a * e + a * f' + b' * e + a * h' + c' * e - a * g' - d' * e + 2 * (c' * h' - d' * g'),
    a * e + a * g' - a * h' - b' * e - 2 * (b' * h') + c' * e + a * f' + d' * e + 2 * (d' * f'),
    a * e + a * h' + a * g' + b' * e + 2 * (b' * g') - a * f' - c' * e - 2 * (c' * f') + d' * e, ?_, ?_, ?_, ?_, ?_, ?_, ?_⟩
  · unfold p1; grind
  · unfold p2; grind
  · unfold p3; grind
  · unfold p4; grind
  · exact even_of (a * e + a * f' + b' * e + a * h' + c' * e + c' * h' - d' * g' + b' * f' + c' * g' + d' * h') (by grind)
  · exact even_of (a * e + a * g' + a * f' + c' * e + d' * e + b' * f' + c' * g' + d' * h' - b' * h' + d' * f') (by grind)
  · exact even_of (a * e + a * h' + a * g' + b' * e + d' * e + b' * f' + c' * g' + d' * h' + b' * g' - c' * f') (by grind)
section
variable {a b c d e f g' h x y z u : Int}
theorem Pq.nn (p : Pq a b c d e f g' h x y z u) : nN a b c d * nN e f g' h = 4 * nN x y z u := by
  have h1 := p.h1; have h2 := p.h2; have h3 := p.h3; have h4 := p.h4
  unfold p1 at h1; unfold p2 at h2; unfold p3 at h3; unfold p4 at h4
  have e1 : 4 * nN x y z u = nN (2 * x) (2 * y) (2 * z) (2 * u) := by unfold nN; grind
  rw [e1, ← h1, ← h2, ← h3, ← h4]; unfold nN; grind
theorem Pq.rr1 (p : Pq a b c d e f g' h x y z u) : r1 a b c d * r1 e f g' h + (r2 a b c d * r4 e f g' h + r3 a b c d * r7 e f g' h) = 4 * r1 x y z u := by
  have h1 := p.h1; have h2 := p.h2; have h3 := p.h3; have h4 := p.h4
  unfold p1 at h1; unfold p2 at h2; unfold p3 at h3; unfold p4 at h4
  have e1 : 4 * r1 x y z u = r1 (2 * x) (2 * y) (2 * z) (2 * u) := by unfold r1; grind
  rw [e1, ← h1, ← h2, ← h3, ← h4]; unfold r1 r2 r3 r4 r7; grind
theorem Pq.rr2 (p : Pq a b c d e f g' h x y z u) : r1 a b c d * r2 e f g' h + (r2 a b c d * r5 e f g' h + r3 a b c d * r8 e f g' h) = 4 * r2 x y z u := by
  have h1 := p.h1; have h2 := p.h2; have h3 := p.h3; have h4 := p.h4
  unfold p1 at h1; unfold p2 at h2; unfold p3 at h3; unfold p4 at h4
  have e1 : 4 * r2 x y z u = r2 (2 * x) (2 * y) (2 * z) (2 * u) := by unfold r2; grind
  rw [e1, ← h1, ← h2, ← h3, ← h4]; unfold r1 r2 r3 r5 r8; grind
theorem Pq.rr3 (p : Pq a b c d e f g' h x y z u) : r1 a b c d * r3 e f g' h + (r2 a b c d * r6 e f g' h + r3 a b c d * r9 e f g' h) = 4 * r3 x y z u := by
  have h1 := p.h1; have h2 := p.h2; have h3 := p.h3; have h4 := p.h4
  unfold p1 at h1; unfold p2 at h2; unfold p3 at h3; unfold p4 at h4
  have e1 : 4 * r3 x y z u = r3 (2 * x) (2 * y) (2 * z) (2 * u) := by unfold r3; grind
  rw [e1, ← h1, ← h2, ← h3, ← h4]; unfold r1 r2 r3 r6 r9; grind
theorem Pq.rr4 (p : Pq a b c d e f g' h x y z u) : r4 a b c d * r1 e f g' h + (r5 a b c d * r4 e f g' h + r6 a b c d * r7 e f g' h) = 4 * r4 x y z u := by
  have h1 := p.h1; have h2 := p.h2; have h3 := p.h3; have h4 := p.h4
  unfold p1 at h1; unfold p2 at h2; unfold p3 at h3; unfold p4 at h4
  have e1 : 4 * r4 x y z u = r4 (2 * x) (2 * y) (2 * z) (2 * u) := by unfold r4; grind
  rw [e1, ← h1, ← h2, ← h3, ← h4]; unfold r1 r4 r5 r6 r7; grind
theorem Pq.rr5 (p : Pq a b c d e f g' h x y z u) : r4 a b c d * r2 e f g' h + (r5 a b c d * r5 e f g' h + r6 a b c d * r8 e f g' h) = 4 * r5 x y z u := by
  have h1 := p.h1; have h2 := p.h2; have h3 := p.h3; have h4 := p.h4
  unfold p1 at h1; unfold p2 at h2; unfold p3 at h3; unfold p4 at h4
  have e1 : 4 * r5 x y z u = r5 (2 * x) (2 * y) (2 * z) (2 * u) := by unfold r5; grind
  rw [e1, ← h1, ← h2, ← h3, ← h4]; unfold r2 r4 r5 r6 r8; grind
theorem Pq.rr6 (p : Pq a b c d e f g' h x y z u) : r4 a b c d * r3 e f g' h + (r5 a b c d * r6 e f g' h + r6 a b c d * r9 e f g' h) = 4 * r6 x y z u := by
  have h1 := p.h1; have h2 := p.h2; have h3 := p.h3; have h4 := p.h4
  unfold p1 at h1; unfold p2 at h2; unfold p3 at h3; unfold p4 at h4
  have e1 : 4 * r6 x y z u = r6 (2 * x) (2 * y) (2 * z) (2 * u) := by unfold r6; grind
  rw [e1, ← h1, ← h2, ← h3, ← h4]; unfold r3 r4 r5 r6 r9; grind
theorem Pq.rr7 (p : Pq a b c d e f g' h x y z u) : r7 a b c d * r1 e f g' h + (r8 a b c d * r4 e f g' h + r9 a b c d * r7 e f g' h) = 4 * r7 x y z u := by
  have h1 := p.h1; have h2 := p.h2; have h3 := p.h3; have h4 := p.h4
  unfold p1 at h1; unfold p2 at h2; unfold p3 at h3; unfold p4 at h4
  have e1 : 4 * r7 x y z u = r7 (2 * x) (2 * y) (2 * z) (2 * u) := by unfold r7; grind
  rw [e1, ← h1, ← h2, ← h3, ← h4]; unfold r1 r4 r7 r8 r9; grind
theorem Pq.rr8 (p : Pq a b c d e f g' h x y z u) : r7 a b c d * r2 e f g' h + (r8 a b c d * r5 e f g' h + r9 a b c d * r8 e f g' h) = 4 * r8 x y z u := by
  have h1 := p.h1; have h2 := p.h2; have h3 := p.h3; have h4 := p.h4
  unfold p1 at h1; unfold p2 at h2; unfold p3 at h3; unfold p4 at h4
  have e1 : 4 * r8 x y z u = r8 (2 * x) (2 * y) (2 * z) (2 * u) := by unfold r8; grind
  rw [e1, ← h1, ← h2, ← h3, ← h4]; unfold r2 r5 r7 r8 r9; grind
theorem Pq.rr9 (p : Pq a b c d e f g' h x y z u) : r7 a b c d * r3 e f g' h + (r8 a b c d * r6 e f g' h + r9 a b c d * r9 e f g' h) = 4 * r9 x y z u := by
  have h1 := p.h1; have h2 := p.h2; have h3 := p.h3; have h4 := p.h4
  unfold p1 at h1; unfold p2 at h2; unfold p3 at h3; unfold p4 at h4
  have e1 : 4 * r9 x y z u = r9 (2 * x) (2 * y) (2 * z) (2 * u) := by unfold r9; grind
  rw [e1, ← h1, ← h2, ← h3, ← h4]; unfold r3 r6 r7 r8 r9; grind

theorem tq_then {w n x1 x2 x3 x4 x5 x6 x7 x8 x9 v m y1 y2 y3 y4 y5 y6 y7 y8 y9 : Int} (p : Pq a b c d e f g' h x y z u) (q : Tq a b c d v m y1 y2 y3 y4 y5 y6 y7 y8 y9) (o : Tq e f g' h w n x1 x2 x3 x4 x5 x6 x7 x8 x9) :
    sh (n * m) (y1 * x1 + (y2 * x4 + y3 * x7)) (y1 * x2 + (y2 * x5 + y3 * x8)) (y1 * x3 + (y2 * x6 + y3 * x9)) (y4 * x1 + (y5 * x4 + y6 * x7)) (y4 * x2 + (y5 * x5 + y6 * x8)) (y4 * x3 + (y5 * x6 + y6 * x9))
      (y7 * x1 + (y8 * x4 + y9 * x7)) (y7 * x2 + (y8 * x5 + y9 * x8)) (y7 * x3 + (y8 * x6 + y9 * x9)) = tq x y z u := by
  have wv : 0 < w * v := Int.mul_pos o.w0 q.w0
  unfold tq
  refine Eq.trans (sh_mul wv _ _ _ _ _ _ _ _ _ _).symm (Eq.trans ?_ (sh_mul (w := 4) (by decide) _ _ _ _ _ _ _ _ _ _))
  congr 1
  · have := p.nn; rw [q.hn, o.hn] at this; grind
  · have := p.rr1; rw [q.e1, q.e2, q.e3, o.e1, o.e4, o.e7] at this; grind
  · have := p.rr2; rw [q.e1, q.e2, q.e3, o.e2, o.e5, o.e8] at this; grind
  · have := p.rr3; rw [q.e1, q.e2, q.e3, o.e3, o.e6, o.e9] at this; grind
  · have := p.rr4; rw [q.e4, q.e5, q.e6, o.e1, o.e4, o.e7] at this; grind
  · have := p.rr5; rw [q.e4, q.e5, q.e6, o.e2, o.e5, o.e8] at this; grind
  · have := p.rr6; rw [q.e4, q.e5, q.e6, o.e3, o.e6, o.e9] at this; grind
  · have := p.rr7; rw [q.e7, q.e8, q.e9, o.e1, o.e4, o.e7] at this; grind
  · have := p.rr8; rw [q.e7, q.e8, q.e9, o.e2, o.e5, o.e8] at this; grind
  · have := p.rr9; rw [q.e7, q.e8, q.e9, o.e3, o.e6, o.e9] at this; grind
theorem f_then (hq : Qt a b c d) (ho : Qt e f g' h) (q0 : 0 < nN a b c d) (o0 : 0 < nN e f g' h) (l1 : nN a b c d < 2 ^ 30) (l2 : nN e f g' h < 2 ^ 30) (p : Pq a b c d e f g' h x y z u) :
    callK (fnsOf ds) W (k + 4) 19 [tq e f g' h, tq a b c d] M = some (tq x y z u, M) := by
  obtain ⟨v, m, y1, y2, y3, y4, y5, y6, y7, y8, y9, q⟩ := tq_ex hq.ha hq.hb hq.hc hq.hd q0
  obtain ⟨w, n, x1, x2, x3, x4, x5, x6, x7, x8, x9, o⟩ := tq_ex ho.ha ho.hb ho.hc ho.hd o0
  have le : ∀ {w n N : Int}, 0 < w → 0 < n → N = w * n → N < 2 ^ 30 → n < 2 ^ 30 := fun hw hn e l => by
    have := Int.mul_le_mul_of_nonneg_right (show (1 : Int) ≤ _ from hw) (Int.le_of_lt hn)
    omega
  have hb := f_behind (k := k + 1) (W := W) (M := M) o.t q.t (le o.w0 o.t.n0 o.hn l2) (le q.w0 q.t.n0 q.hn l1)
  rw [tq_then p q o] at hb
  rw [o.e, q.e, callD (Df := D19) rfl rfl]
  simp [b19, exs, ex, ev, evs, evC, evI, bd, bdL, bdB, exAsg, exAsgF, exPar, exApp, exPut, exDraw, exRetD, bindT, bindTs, behind, behindL, view, view1, scalarD, ret1, retB, fin, setAll, floop, same_self, cmpD, truthD, bltD, idxD, keyD, freshE, f_is_turn o.t, f_is_turn q.t, hb]
end
end L82

set_option Elab.async false
set_option linter.all false
set_option maxRecDepth 100000
set_option maxHeartbeats 8000000
namespace L82
open PySem L2 EV
variable {k W : Nat} {M : Mst}
/-! ### modulo q -/
def Cg (q x y : Int) : Prop := ∃ t, x = y + q * t
section
variable {q x y z u x' y' : Int}
theorem Cg.refl (x : Int) : Cg q x x := ⟨0, by simp⟩
theorem Cg.symm (h : Cg q x y) : Cg q y x := by obtain ⟨t, e⟩ := h; exact ⟨-t, by rw [e]; grind⟩
theorem Cg.trans (h : Cg q x y) (k : Cg q y z) : Cg q x z := by obtain ⟨s, e⟩ := h; obtain ⟨t, e'⟩ := k; exact ⟨s + t, by grind⟩
theorem Cg.add (h : Cg q x y) (k : Cg q x' y') : Cg q (x + x') (y + y') := by obtain ⟨s, e⟩ := h; obtain ⟨t, e'⟩ := k; exact ⟨s + t, by grind⟩
theorem Cg.sub (h : Cg q x y) (k : Cg q x' y') : Cg q (x - x') (y - y') := by obtain ⟨s, e⟩ := h; obtain ⟨t, e'⟩ := k; exact ⟨s - t, by grind⟩
theorem Cg.mul (h : Cg q x y) (k : Cg q x' y') : Cg q (x * x') (y * y') := by obtain ⟨s, e⟩ := h; obtain ⟨t, e'⟩ := k; exact ⟨s * y' + y * t + q * s * t, by grind⟩
theorem Cg.emod (h : Cg q x y) : x % q = y % q := by obtain ⟨t, e⟩ := h; rw [e, Int.add_mul_emod_self_left]
theorem Cg.of_emod (h : x % q = y % q) : Cg q x y := ⟨x / q - y / q, by
  have h1 := Int.emod_add_mul_ediv x q
  have h2 := Int.emod_add_mul_ediv y q
  grind⟩
theorem Cg.mod (x : Int) : Cg q (x % q) x := Cg.of_emod (by rw [Int.emod_emod_of_dvd _ (Int.dvd_refl q)])
/-- an inverse is one, but for multiples -/
theorem inv_cg {n b x a : Int} (hb : Cg q (b * n) 1) (hx : Cg q (x * n) 1) : Cg q (b * a) (x * a) := by
  obtain ⟨s, e⟩ := hb
  obtain ⟨t, e'⟩ := hx
  exact ⟨a * (x * s - b * t), by grind⟩
end
theorem cg_nN {q a b c d a' b' c' d' : Int} (ha : Cg q a a') (hb : Cg q b b') (hc : Cg q c c') (hd : Cg q d d') : Cg q (nN a b c d) (nN a' b' c' d') := (((ha.mul ha).add (hb.mul hb)).add (hc.mul hc)).add (hd.mul hd)
theorem cg_r1 {q a b c d a' b' c' d' : Int} (ha : Cg q a a') (hb : Cg q b b') (hc : Cg q c c') (hd : Cg q d d') : Cg q (r1 a b c d) (r1 a' b' c' d') := (((ha.mul ha).add (hb.mul hb)).sub (hc.mul hc)).sub (hd.mul hd)
theorem cg_r2 {q a b c d a' b' c' d' : Int} (ha : Cg q a a') (hb : Cg q b b') (hc : Cg q c c') (hd : Cg q d d') : Cg q (r2 a b c d) (r2 a' b' c' d') := (Cg.refl 2).mul ((hb.mul hc).sub (ha.mul hd))
theorem cg_r3 {q a b c d a' b' c' d' : Int} (ha : Cg q a a') (hb : Cg q b b') (hc : Cg q c c') (hd : Cg q d d') : Cg q (r3 a b c d) (r3 a' b' c' d') := (Cg.refl 2).mul ((hb.mul hd).add (ha.mul hc))
theorem cg_r4 {q a b c d a' b' c' d' : Int} (ha : Cg q a a') (hb : Cg q b b') (hc : Cg q c c') (hd : Cg q d d') : Cg q (r4 a b c d) (r4 a' b' c' d') := (Cg.refl 2).mul ((hb.mul hc).add (ha.mul hd))
theorem cg_r5 {q a b c d a' b' c' d' : Int} (ha : Cg q a a') (hb : Cg q b b') (hc : Cg q c c') (hd : Cg q d d') : Cg q (r5 a b c d) (r5 a' b' c' d') := (((ha.mul ha).sub (hb.mul hb)).add (hc.mul hc)).sub (hd.mul hd)
theorem cg_r6 {q a b c d a' b' c' d' : Int} (ha : Cg q a a') (hb : Cg q b b') (hc : Cg q c c') (hd : Cg q d d') : Cg q (r6 a b c d) (r6 a' b' c' d') := (Cg.refl 2).mul ((hc.mul hd).sub (ha.mul hb))
theorem cg_r7 {q a b c d a' b' c' d' : Int} (ha : Cg q a a') (hb : Cg q b b') (hc : Cg q c c') (hd : Cg q d d') : Cg q (r7 a b c d) (r7 a' b' c' d') := (Cg.refl 2).mul ((hb.mul hd).sub (ha.mul hc))
theorem cg_r8 {q a b c d a' b' c' d' : Int} (ha : Cg q a a') (hb : Cg q b b') (hc : Cg q c c') (hd : Cg q d d') : Cg q (r8 a b c d) (r8 a' b' c' d') := (Cg.refl 2).mul ((hc.mul hd).add (ha.mul hb))
theorem cg_r9 {q a b c d a' b' c' d' : Int} (ha : Cg q a a') (hb : Cg q b b') (hc : Cg q c c') (hd : Cg q d d') : Cg q (r9 a b c d) (r9 a' b' c' d') := (((ha.mul ha).sub (hb.mul hb)).sub (hc.mul hc)).add (hd.mul hd)

/-- an odd prime of the law, with its marks -/
structure Pr (q e f : Int) : Prop where
  lo : 2 < q
  hi : q < 20
  odd : q % 2 = 1
  e0 : Bd 10 e
  f0 : Bd 10 f
  ef : Cg q (e * e + f * f) (-1)
  need : ∀ (k W : Nat) (M : Mst), callK (fnsOf ds) W (k + 4) 22 [.int q] M = some (.non, M)
  marks : ∀ (k W : Nat) (M : Mst), callK (fnsOf ds) W (k + 1) 24 [.int q] M = some (.tup [.int e, .int f], M)
  inv : ∀ n : Int, n % q ≠ 0 → ∃ y, 1 ≤ y ∧ y < q ∧ y * n % q = 1
  prime : ∀ x y : Int, x % q ≠ 0 → y % q ≠ 0 → x * y % q ≠ 0
theorem inv_by {q : Int} (hq : 0 < q) (h : ∀ r : Nat, r < q.toNat → r ≠ 0 → ∃ y : Nat, y < q.toNat ∧ 1 ≤ y ∧ y * r % q.toNat = 1) (n : Int) (hn : n % q ≠ 0) : ∃ y, 1 ≤ y ∧ y < q ∧ y * n % q = 1 := by
  have h1 := Int.emod_nonneg n (show q ≠ 0 by omega)
  have h2 := Int.emod_lt_of_pos n hq
  obtain ⟨y, y1, y2, y3⟩ := h (n % q).toNat (by omega) (by omega)
  refine ⟨y, by omega, by omega, ?_⟩
  rw [Int.mul_emod, ← Int.emod_emod_of_dvd n (Int.dvd_refl q), ← Int.mul_emod]
  have e : (((y * (n % q).toNat % q.toNat : Nat)) : Int) = 1 := by rw [y3]; rfl
  rw [Int.natCast_emod, Int.natCast_mul] at e
  have e1 : (((n % q).toNat : Nat) : Int) = n % q := Int.toNat_of_nonneg h1
  have e2 : ((q.toNat : Nat) : Int) = q := Int.toNat_of_nonneg (by omega)
  rw [e1, e2] at e
  exact e
theorem prime_by {q : Int} (hq : 1 < q) (inv : ∀ n : Int, n % q ≠ 0 → ∃ y, 1 ≤ y ∧ y < q ∧ y * n % q = 1) (x y : Int) (hx : x % q ≠ 0) (hy : y % q ≠ 0) : x * y % q ≠ 0 := fun h => by
  obtain ⟨u, _, _, hu⟩ := inv x hx
  have c1 : Cg q (u * x) 1 := Cg.of_emod (by rw [hu, Int.emod_eq_of_lt (by decide) hq])
  have c2 : Cg q (x * y) 0 := Cg.of_emod (by rw [h, Int.zero_emod])
  have c3 : Cg q (u * (x * y)) (u * 0) := (Cg.refl u).mul c2
  have c4 : Cg q ((u * x) * y) (1 * y) := c1.mul (Cg.refl y)
  have c5 : Cg q y 0 := by
    have e : u * x * y = u * (x * y) := Int.mul_assoc _ _ _
    rw [e] at c4
    have := c4.symm.trans c3
    simpa using this
  have := c5.emod
  rw [Int.zero_emod] at this
  exact hy this
theorem mk_pr {q e f : Int} (lo : 2 < q) (hi : q < 20) (odd : q % 2 = 1) (e0 : Bd 10 e) (f0 : Bd 10 f) (ef : Cg q (e * e + f * f) (-1)) (need : ∀ (k W : Nat) (M : Mst), callK (fnsOf ds) W (k + 4) 22 [.int q] M = some (.non, M))
    (marks : ∀ (k W : Nat) (M : Mst), callK (fnsOf ds) W (k + 1) 24 [.int q] M = some (.tup [.int e, .int f], M)) (h : ∀ r : Nat, r < q.toNat → r ≠ 0 → ∃ y : Nat, y < q.toNat ∧ 1 ≤ y ∧ y * r % q.toNat = 1) : Pr q e f :=
  ⟨lo, hi, odd, e0, f0, ef, need, marks, inv_by (by omega) h, prime_by (by omega) (inv_by (by omega) h)⟩
theorem f_prime3 : callK (fnsOf ds) W (k + 2) 20 [.int 3] M = some (.bl true, M) := by
  have mo : ∀ x y : Int, 0 < y → binD .mod (.int x) (.int y) = some (.int (x % y)) := fun x y h => bin_mod h
  have mu : ∀ x y : Int, x.natAbs < 2 ^ 64 → binD .mul (.int x) (.int y) = some (.int (x * y)) := fun x y h => bin_mul (mulOk_l h)
  rw [callD (Df := D20) rfl rfl]
  simp [b20, exs, ex, ev, evs, evC, evI, bd, bdL, bdB, exAsg, exAsgF, exPar, exApp, exPut, exDraw, exRetD, bindT, bindTs, behind, behindL, view, view1, scalarD, ret1, retB, fin, setAll, floop, same_self, OwnC.d, cmpD, truthD, bltD, idxD, keyD, freshE, f_is_number, cloop, wipeR, rngL, List.range, List.range.loop, eq_int, mo, mu, allBl]
theorem f_odd3 : callK (fnsOf ds) W (k + 4) 22 [.int 3] M = some (.non, M) := by
  rw [callD (Df := D22) rfl rfl]
  have h : callK (fnsOf ds) W (k + 3) 21 [.int 3] M = some (.non, M) := by
    rw [callD (Df := D21) rfl rfl]
    simp [b21, exs, ex, ev, evs, evC, evI, bd, bdL, bdB, exAsg, exAsgF, exPar, exApp, exPut, exDraw, exRetD, bindT, bindTs, behind, behindL, view, view1, scalarD, ret1, retB, fin, setAll, floop, same_self, OwnC.d, cmpD, truthD, bltD, idxD, keyD, freshE, f_prime3]
  simp [b22, exs, ex, ev, evs, evC, evI, bd, bdL, bdB, exAsg, exAsgF, exPar, exApp, exPut, exDraw, exRetD, bindT, bindTs, behind, behindL, view, view1, scalarD, ret1, retB, fin, setAll, floop, same_self, OwnC.d, cmpD, truthD, bltD, idxD, keyD, freshE, h, eq_int]
theorem f_prime5 : callK (fnsOf ds) W (k + 2) 20 [.int 5] M = some (.bl true, M) := by
  have mo : ∀ x y : Int, 0 < y → binD .mod (.int x) (.int y) = some (.int (x % y)) := fun x y h => bin_mod h
  have mu : ∀ x y : Int, x.natAbs < 2 ^ 64 → binD .mul (.int x) (.int y) = some (.int (x * y)) := fun x y h => bin_mul (mulOk_l h)
  rw [callD (Df := D20) rfl rfl]
  simp [b20, exs, ex, ev, evs, evC, evI, bd, bdL, bdB, exAsg, exAsgF, exPar, exApp, exPut, exDraw, exRetD, bindT, bindTs, behind, behindL, view, view1, scalarD, ret1, retB, fin, setAll, floop, same_self, OwnC.d, cmpD, truthD, bltD, idxD, keyD, freshE, f_is_number, cloop, wipeR, rngL, List.range, List.range.loop, eq_int, mo, mu, allBl]
theorem f_odd5 : callK (fnsOf ds) W (k + 4) 22 [.int 5] M = some (.non, M) := by
  rw [callD (Df := D22) rfl rfl]
  have h : callK (fnsOf ds) W (k + 3) 21 [.int 5] M = some (.non, M) := by
    rw [callD (Df := D21) rfl rfl]
    simp [b21, exs, ex, ev, evs, evC, evI, bd, bdL, bdB, exAsg, exAsgF, exPar, exApp, exPut, exDraw, exRetD, bindT, bindTs, behind, behindL, view, view1, scalarD, ret1, retB, fin, setAll, floop, same_self, OwnC.d, cmpD, truthD, bltD, idxD, keyD, freshE, f_prime5]
  simp [b22, exs, ex, ev, evs, evC, evI, bd, bdL, bdB, exAsg, exAsgF, exPar, exApp, exPut, exDraw, exRetD, bindT, bindTs, behind, behindL, view, view1, scalarD, ret1, retB, fin, setAll, floop, same_self, OwnC.d, cmpD, truthD, bltD, idxD, keyD, freshE, h, eq_int]
theorem f_prime7 : callK (fnsOf ds) W (k + 2) 20 [.int 7] M = some (.bl true, M) := by
  have mo : ∀ x y : Int, 0 < y → binD .mod (.int x) (.int y) = some (.int (x % y)) := fun x y h => bin_mod h
  have mu : ∀ x y : Int, x.natAbs < 2 ^ 64 → binD .mul (.int x) (.int y) = some (.int (x * y)) := fun x y h => bin_mul (mulOk_l h)
  rw [callD (Df := D20) rfl rfl]
  simp [b20, exs, ex, ev, evs, evC, evI, bd, bdL, bdB, exAsg, exAsgF, exPar, exApp, exPut, exDraw, exRetD, bindT, bindTs, behind, behindL, view, view1, scalarD, ret1, retB, fin, setAll, floop, same_self, OwnC.d, cmpD, truthD, bltD, idxD, keyD, freshE, f_is_number, cloop, wipeR, rngL, List.range, List.range.loop, eq_int, mo, mu, allBl]
theorem f_odd7 : callK (fnsOf ds) W (k + 4) 22 [.int 7] M = some (.non, M) := by
  rw [callD (Df := D22) rfl rfl]
  have h : callK (fnsOf ds) W (k + 3) 21 [.int 7] M = some (.non, M) := by
    rw [callD (Df := D21) rfl rfl]
    simp [b21, exs, ex, ev, evs, evC, evI, bd, bdL, bdB, exAsg, exAsgF, exPar, exApp, exPut, exDraw, exRetD, bindT, bindTs, behind, behindL, view, view1, scalarD, ret1, retB, fin, setAll, floop, same_self, OwnC.d, cmpD, truthD, bltD, idxD, keyD, freshE, f_prime7]
  simp [b22, exs, ex, ev, evs, evC, evI, bd, bdL, bdB, exAsg, exAsgF, exPar, exApp, exPut, exDraw, exRetD, bindT, bindTs, behind, behindL, view, view1, scalarD, ret1, retB, fin, setAll, floop, same_self, OwnC.d, cmpD, truthD, bltD, idxD, keyD, freshE, h, eq_int]
theorem f_prime11 : callK (fnsOf ds) W (k + 2) 20 [.int 11] M = some (.bl true, M) := by
  have mo : ∀ x y : Int, 0 < y → binD .mod (.int x) (.int y) = some (.int (x % y)) := fun x y h => bin_mod h
  have mu : ∀ x y : Int, x.natAbs < 2 ^ 64 → binD .mul (.int x) (.int y) = some (.int (x * y)) := fun x y h => bin_mul (mulOk_l h)
  rw [callD (Df := D20) rfl rfl]
  simp [b20, exs, ex, ev, evs, evC, evI, bd, bdL, bdB, exAsg, exAsgF, exPar, exApp, exPut, exDraw, exRetD, bindT, bindTs, behind, behindL, view, view1, scalarD, ret1, retB, fin, setAll, floop, same_self, OwnC.d, cmpD, truthD, bltD, idxD, keyD, freshE, f_is_number, cloop, wipeR, rngL, List.range, List.range.loop, eq_int, mo, mu, allBl]
theorem f_odd11 : callK (fnsOf ds) W (k + 4) 22 [.int 11] M = some (.non, M) := by
  rw [callD (Df := D22) rfl rfl]
  have h : callK (fnsOf ds) W (k + 3) 21 [.int 11] M = some (.non, M) := by
    rw [callD (Df := D21) rfl rfl]
    simp [b21, exs, ex, ev, evs, evC, evI, bd, bdL, bdB, exAsg, exAsgF, exPar, exApp, exPut, exDraw, exRetD, bindT, bindTs, behind, behindL, view, view1, scalarD, ret1, retB, fin, setAll, floop, same_self, OwnC.d, cmpD, truthD, bltD, idxD, keyD, freshE, f_prime11]
  simp [b22, exs, ex, ev, evs, evC, evI, bd, bdL, bdB, exAsg, exAsgF, exPar, exApp, exPut, exDraw, exRetD, bindT, bindTs, behind, behindL, view, view1, scalarD, ret1, retB, fin, setAll, floop, same_self, OwnC.d, cmpD, truthD, bltD, idxD, keyD, freshE, h, eq_int]
theorem f_prime13 : callK (fnsOf ds) W (k + 2) 20 [.int 13] M = some (.bl true, M) := by
  have mo : ∀ x y : Int, 0 < y → binD .mod (.int x) (.int y) = some (.int (x % y)) := fun x y h => bin_mod h
  have mu : ∀ x y : Int, x.natAbs < 2 ^ 64 → binD .mul (.int x) (.int y) = some (.int (x * y)) := fun x y h => bin_mul (mulOk_l h)
  rw [callD (Df := D20) rfl rfl]
  simp [b20, exs, ex, ev, evs, evC, evI, bd, bdL, bdB, exAsg, exAsgF, exPar, exApp, exPut, exDraw, exRetD, bindT, bindTs, behind, behindL, view, view1, scalarD, ret1, retB, fin, setAll, floop, same_self, OwnC.d, cmpD, truthD, bltD, idxD, keyD, freshE, f_is_number, cloop, wipeR, rngL, List.range, List.range.loop, eq_int, mo, mu, allBl]
theorem f_odd13 : callK (fnsOf ds) W (k + 4) 22 [.int 13] M = some (.non, M) := by
  rw [callD (Df := D22) rfl rfl]
  have h : callK (fnsOf ds) W (k + 3) 21 [.int 13] M = some (.non, M) := by
    rw [callD (Df := D21) rfl rfl]
    simp [b21, exs, ex, ev, evs, evC, evI, bd, bdL, bdB, exAsg, exAsgF, exPar, exApp, exPut, exDraw, exRetD, bindT, bindTs, behind, behindL, view, view1, scalarD, ret1, retB, fin, setAll, floop, same_self, OwnC.d, cmpD, truthD, bltD, idxD, keyD, freshE, f_prime13]
  simp [b22, exs, ex, ev, evs, evC, evI, bd, bdL, bdB, exAsg, exAsgF, exPar, exApp, exPut, exDraw, exRetD, bindT, bindTs, behind, behindL, view, view1, scalarD, ret1, retB, fin, setAll, floop, same_self, OwnC.d, cmpD, truthD, bltD, idxD, keyD, freshE, h, eq_int]
theorem f_marks3 : callK (fnsOf ds) W (k + 1) 24 [.int 3] M = some (.tup [.int 1, .int 1], M) := by
  have mo : ∀ x y : Int, 0 < y → binD .mod (.int x) (.int y) = some (.int (x % y)) := fun x y h => bin_mod h
  have mu : ∀ x y : Int, x.natAbs < 2 ^ 64 → binD .mul (.int x) (.int y) = some (.int (x * y)) := fun x y h => bin_mul (mulOk_l h)
  rw [callD (Df := D24) rfl rfl]
  simp [b24, exs, ex, ev, evs, evC, evI, bd, bdL, bdB, exAsg, exAsgF, exPar, exApp, exPut, exDraw, exRetD, bindT, bindTs, behind, behindL, view, view1, scalarD, ret1, retB, fin, setAll, floop, same_self, OwnC.d, cmpD, truthD, bltD, idxD, keyD, freshE, rngL, rngDL, List.range, List.range.loop, mo, mu, bin_sub, dkPut, dkHas, dkRep, inD, lookD]
theorem f_marks5 : callK (fnsOf ds) W (k + 1) 24 [.int 5] M = some (.tup [.int 0, .int 2], M) := by
  have mo : ∀ x y : Int, 0 < y → binD .mod (.int x) (.int y) = some (.int (x % y)) := fun x y h => bin_mod h
  have mu : ∀ x y : Int, x.natAbs < 2 ^ 64 → binD .mul (.int x) (.int y) = some (.int (x * y)) := fun x y h => bin_mul (mulOk_l h)
  rw [callD (Df := D24) rfl rfl]
  simp [b24, exs, ex, ev, evs, evC, evI, bd, bdL, bdB, exAsg, exAsgF, exPar, exApp, exPut, exDraw, exRetD, bindT, bindTs, behind, behindL, view, view1, scalarD, ret1, retB, fin, setAll, floop, same_self, OwnC.d, cmpD, truthD, bltD, idxD, keyD, freshE, rngL, rngDL, List.range, List.range.loop, mo, mu, bin_sub, dkPut, dkHas, dkRep, inD, lookD]
theorem f_marks7 : callK (fnsOf ds) W (k + 1) 24 [.int 7] M = some (.tup [.int 2, .int 3], M) := by
  have mo : ∀ x y : Int, 0 < y → binD .mod (.int x) (.int y) = some (.int (x % y)) := fun x y h => bin_mod h
  have mu : ∀ x y : Int, x.natAbs < 2 ^ 64 → binD .mul (.int x) (.int y) = some (.int (x * y)) := fun x y h => bin_mul (mulOk_l h)
  rw [callD (Df := D24) rfl rfl]
  simp [b24, exs, ex, ev, evs, evC, evI, bd, bdL, bdB, exAsg, exAsgF, exPar, exApp, exPut, exDraw, exRetD, bindT, bindTs, behind, behindL, view, view1, scalarD, ret1, retB, fin, setAll, floop, same_self, OwnC.d, cmpD, truthD, bltD, idxD, keyD, freshE, rngL, rngDL, List.range, List.range.loop, mo, mu, bin_sub, dkPut, dkHas, dkRep, inD, lookD]
theorem f_marks11 : callK (fnsOf ds) W (k + 1) 24 [.int 11] M = some (.tup [.int 1, .int 3], M) := by
  have mo : ∀ x y : Int, 0 < y → binD .mod (.int x) (.int y) = some (.int (x % y)) := fun x y h => bin_mod h
  have mu : ∀ x y : Int, x.natAbs < 2 ^ 64 → binD .mul (.int x) (.int y) = some (.int (x * y)) := fun x y h => bin_mul (mulOk_l h)
  rw [callD (Df := D24) rfl rfl]
  simp [b24, exs, ex, ev, evs, evC, evI, bd, bdL, bdB, exAsg, exAsgF, exPar, exApp, exPut, exDraw, exRetD, bindT, bindTs, behind, behindL, view, view1, scalarD, ret1, retB, fin, setAll, floop, same_self, OwnC.d, cmpD, truthD, bltD, idxD, keyD, freshE, rngL, rngDL, List.range, List.range.loop, mo, mu, bin_sub, dkPut, dkHas, dkRep, inD, lookD]
theorem f_marks13 : callK (fnsOf ds) W (k + 1) 24 [.int 13] M = some (.tup [.int 0, .int 5], M) := by
  have mo : ∀ x y : Int, 0 < y → binD .mod (.int x) (.int y) = some (.int (x % y)) := fun x y h => bin_mod h
  have mu : ∀ x y : Int, x.natAbs < 2 ^ 64 → binD .mul (.int x) (.int y) = some (.int (x * y)) := fun x y h => bin_mul (mulOk_l h)
  rw [callD (Df := D24) rfl rfl]
  simp [b24, exs, ex, ev, evs, evC, evI, bd, bdL, bdB, exAsg, exAsgF, exPar, exApp, exPut, exDraw, exRetD, bindT, bindTs, behind, behindL, view, view1, scalarD, ret1, retB, fin, setAll, floop, same_self, OwnC.d, cmpD, truthD, bltD, idxD, keyD, freshE, rngL, rngDL, List.range, List.range.loop, mo, mu, bin_sub, dkPut, dkHas, dkRep, inD, lookD]
theorem pr3 : Pr 3 1 1 := mk_pr (by decide) (by decide) (by decide) (by unfold Bd; decide) (by unfold Bd; decide) ⟨1, by decide⟩ (fun k W M => f_odd3) (fun k W M => f_marks3) (by decide +kernel)
theorem pr5 : Pr 5 0 2 := mk_pr (by decide) (by decide) (by decide) (by unfold Bd; decide) (by unfold Bd; decide) ⟨1, by decide⟩ (fun k W M => f_odd5) (fun k W M => f_marks5) (by decide +kernel)
theorem pr7 : Pr 7 2 3 := mk_pr (by decide) (by decide) (by decide) (by unfold Bd; decide) (by unfold Bd; decide) ⟨2, by decide⟩ (fun k W M => f_odd7) (fun k W M => f_marks7) (by decide +kernel)
theorem pr11 : Pr 11 1 3 := mk_pr (by decide) (by decide) (by decide) (by unfold Bd; decide) (by unfold Bd; decide) ⟨1, by decide⟩ (fun k W M => f_odd11) (fun k W M => f_marks11) (by decide +kernel)
theorem pr13 : Pr 13 0 5 := mk_pr (by decide) (by decide) (by decide) (by unfold Bd; decide) (by unfold Bd; decide) ⟨2, by decide⟩ (fun k W M => f_odd13) (fun k W M => f_marks13) (by decide +kernel)
end L82

set_option Elab.async false
set_option linter.all false
set_option maxRecDepth 100000
set_option maxHeartbeats 8000000
namespace L82
open PySem L2 EV
variable {k W : Nat} {M : Mst}
theorem Cg.two {q x y : Int} (hq : q % 2 = 1) (h : Cg q (2 * x) (2 * y)) : Cg q x y := by
  obtain ⟨t, e⟩ := h
  have h1 : (q * t) % 2 = 0 := by omega
  have h2 : t % 2 = 0 := by
    rw [Int.mul_emod, hq] at h1
    omega
  refine ⟨t / 2, ?_⟩
  have h3 : t = 2 * (t / 2) := by omega
  have h4 : 2 * x = 2 * (y + q * (t / 2)) := by
    rw [e]
    have : q * t = q * (2 * (t / 2)) := by rw [← h3]
    grind
  omega
/-- half of a number over q -/
def hb (q x : Int) : Int := if x % q % 2 = 0 then x % q / 2 else (x % q + q) / 2
section
variable {q x y : Int}
theorem hb_lo (hq : 0 < q) (x : Int) : 0 ≤ hb q x := by
  have := Int.emod_nonneg x (show q ≠ 0 by omega)
  unfold hb
  split <;> omega
theorem hb_hi (hq : 0 < q) (x : Int) : hb q x < q := by
  have := Int.emod_lt_of_pos x hq
  have := Int.emod_nonneg x (show q ≠ 0 by omega)
  unfold hb
  split <;> omega
theorem hb_cg (hq : 0 < q) (o : q % 2 = 1) (x : Int) : Cg q (2 * hb q x) x := by
  unfold hb
  split
  · rename_i h
    have e : 2 * (x % q / 2) = x % q := by omega
    rw [e]; exact Cg.mod x
  · rename_i h
    have e : 2 * ((x % q + q) / 2) = x % q + q := by omega
    rw [e]
    obtain ⟨t, e2⟩ := Cg.mod (q := q) x
    exact ⟨t + 1, by grind⟩
theorem hb_eq (h : Cg q x y) : hb q x = hb q y := by unfold hb; rw [h.emod]
theorem hb_uniq (hq : 0 < q) (o : q % 2 = 1) (h : Cg q (2 * y) x) : y % q = hb q x := by
  have h1 : Cg q y (hb q x) := Cg.two o (h.trans (hb_cg hq o x).symm)
  rw [h1.emod]
  exact Int.emod_eq_of_lt (hb_lo hq x) (hb_hi hq x)
end
theorem f_half {q x : Int} (hq : 0 < q) : callK (fnsOf ds) W (k + 1) 25 [.int q, .int x] M = some (.int (hb q x), M) := by
  have mo : binD .mod (.int x) (.int q) = some (.int (x % q)) := bin_mod hq
  rw [callD (Df := D25) rfl rfl]
  unfold hb
  by_cases h : x % q % 2 = 0
  · simp [b25, exs, ex, ev, evs, evC, evI, bd, bdL, bdB, exAsg, exAsgF, exPar, exApp, exPut, exDraw, exRetD, bindT, bindTs, behind, behindL, view, view1, scalarD, ret1, retB, fin, setAll, floop, same_self, OwnC.d, cmpD, truthD, bltD, idxD, keyD, freshE, mo, emod2, div2, eq_int, bin_add, h]
  · have h' : x % q % 2 = 1 := by omega
    simp [b25, exs, ex, ev, evs, evC, evI, bd, bdL, bdB, exAsg, exAsgF, exPar, exApp, exPut, exDraw, exRetD, bindT, bindTs, behind, behindL, view, view1, scalarD, ret1, retB, fin, setAll, floop, same_self, OwnC.d, cmpD, truthD, bltD, idxD, keyD, freshE, mo, emod2, div2, eq_int, bin_add, h']
/-- the four numbers whose halves are the table -/
def l1 (e f a b c d : Int) : Int := a + c * e - d * f
def l2 (e f a b c d : Int) : Int := c * f + d * e - b
def l3 (e f a b c d : Int) : Int := b + c * f + d * e
def l4 (e f a b c d : Int) : Int := a - c * e + d * f
def tbD (q e f a b c d : Int) : D := q4 (hb q (l1 e f a b c d)) (hb q (l2 e f a b c d)) (hb q (l3 e f a b c d)) (hb q (l4 e f a b c d))
section
variable {q e f : Int}
theorem f_table_by (P : Pr q e f) {a b c d : Int} (hc : Bd 21 c) (hd : Bd 21 d) : callK (fnsOf ds) W (k + 2) 26 [.int q, q4 a b c d] M = some (tbD q e f a b c d, M) := by
  have m : ∀ {x y : Int}, Bd 21 x → Bd 10 y → binD .mul (.int x) (.int y) = some (.int (x * y)) := fun h k => bin_mul (mulOk_bd h k (by decide) (by decide))
  have h0 : 0 < q := by have := P.lo; omega
  have hf : ∀ x, callK (fnsOf ds) W (k + 1) 25 [.int q, .int x] M = some (.int (hb q x), M) := fun x => f_half h0
  rw [callD (Df := D26) rfl rfl]
  simp [b26, exs, ex, ev, evs, evC, evI, bd, bdL, bdB, exAsg, exAsgF, exPar, exApp, exPut, exDraw, exRetD, bindT, bindTs, behind, behindL, view, view1, scalarD, ret1, retB, fin, setAll, floop, same_self, OwnC.d, cmpD, truthD, bltD, idxD, keyD, freshE, P.marks, bin_add, bin_sub, m hc P.e0, m hc P.f0, m hd P.e0, m hd P.f0, cloop, wipeR, hf, tbD, l1, l2, l3, l4]
theorem f_table_of (P : Pr q e f) {a b c d : Int} (h : Qt a b c d) : callK (fnsOf ds) W (k + 5) 29 [.int q, q4 a b c d] M = some (tbD q e f a b c d, M) := by
  rw [callD (Df := D29) rfl rfl]
  simp [b29, exs, ex, ev, evs, evC, evI, bd, bdL, bdB, exAsg, exAsgF, exPar, exApp, exPut, exDraw, exRetD, bindT, bindTs, behind, behindL, view, view1, scalarD, ret1, retB, fin, setAll, floop, same_self, OwnC.d, cmpD, truthD, bltD, idxD, keyD, freshE, P.need, f_need_quad h.q, f_table_by P h.hc h.hd]
theorem f_is_table {a b c d : Int} (a0 : 0 ≤ a) (a1 : a < q) (b0 : 0 ≤ b) (b1 : b < q) (c0 : 0 ≤ c) (c1 : c < q) (d0 : 0 ≤ d) (d1 : d < q) : callK (fnsOf ds) W (k + 2) 23 [.int q, q4 a b c d] M = some (.bl true, M) := by
  rw [callD (Df := D23) rfl rfl]
  simp [b23, exs, ex, ev, evs, evC, evI, bd, bdL, bdB, exAsg, exAsgF, exPar, exApp, exPut, exDraw, exRetD, bindT, bindTs, behind, behindL, view, view1, scalarD, ret1, retB, fin, setAll, floop, same_self, OwnC.d, cmpD, truthD, bltD, idxD, keyD, freshE, isD, cloop, wipeR, f_is_number, eq_int, allBl, a0, a1, b0, b1, c0, c1, d0, d1]
theorem f_is_tb (P : Pr q e f) (a b c d : Int) : callK (fnsOf ds) W (k + 2) 23 [.int q, tbD q e f a b c d] M = some (.bl true, M) := by
  have h0 : 0 < q := by have := P.lo; omega
  exact f_is_table (hb_lo h0 _) (hb_hi h0 _) (hb_lo h0 _) (hb_hi h0 _) (hb_lo h0 _) (hb_hi h0 _) (hb_lo h0 _) (hb_hi h0 _)
theorem f_then_by (P : Pr q e f) {a b c d a' b' c' d' : Int} (ha : Bd 5 a) (hb : Bd 5 b) (hc : Bd 5 c) (hd : Bd 5 d) (ha' : Bd 5 a') (hb' : Bd 5 b') (hc' : Bd 5 c') (hd' : Bd 5 d') :
    callK (fnsOf ds) W (k + 1) 27 [.int q, q4 a b c d, q4 a' b' c' d'] M = some (q4 ((a * a' + b * c') % q) ((a * b' + b * d') % q) ((c * a' + d * c') % q) ((c * b' + d * d') % q), M) := by
  have m : ∀ {x y : Int}, Bd 5 x → Bd 5 y → binD .mul (.int x) (.int y) = some (.int (x * y)) := fun h k => bin_mul (mulOk_bd h k (by decide) (by decide))
  have mo : ∀ x, binD .mod (.int x) (.int q) = some (.int (x % q)) := fun x => bin_mod (by have := P.lo; omega)
  rw [callD (Df := D27) rfl rfl]
  simp [b27, exs, ex, ev, evs, evC, evI, bd, bdL, bdB, exAsg, exAsgF, exPar, exApp, exPut, exDraw, exRetD, bindT, bindTs, behind, behindL, view, view1, scalarD, ret1, retB, fin, setAll, floop, same_self, OwnC.d, cmpD, truthD, bltD, idxD, keyD, freshE, bin_add, mo, m, ha, hb, hc, hd, ha', hb', hc', hd']
theorem f_quad_by (P : Pr q e f) {a b c d : Int} (ha : Bd 5 a) (hb' : Bd 5 b) (hc : Bd 5 c) (hd : Bd 5 d) :
    callK (fnsOf ds) W (k + 2) 28 [.int q, q4 a b c d] M =
      some (q4 (2 * hb q (a + d)) (2 * hb q (c - b)) (2 * hb q (-(e * (a - d) + f * (b + c)))) (2 * hb q (f * (a - d) - e * (b + c))), M) := by
  have m : ∀ {x y : Int}, Bd 10 x → Bd 6 y → binD .mul (.int x) (.int y) = some (.int (x * y)) := fun h k => bin_mul (mulOk_bd h k (by decide) (by decide))
  have m2 : ∀ x : Int, binD .mul (.int 2) (.int x) = some (.int (2 * x)) := fun x => bin_mul (mulOk_l (by decide))
  have h0 : 0 < q := by have := P.lo; omega
  have hf : ∀ x, callK (fnsOf ds) W (k + 1) 25 [.int q, .int x] M = some (.int (hb q x), M) := fun x => f_half h0
  have e1 : Bd 6 (a - d) := ha.sub' hd
  have e2 : Bd 6 (b + c) := hb'.add' hc
  rw [callD (Df := D28) rfl rfl]
  simp [b28, exs, ex, ev, evs, evC, evI, bd, bdL, bdB, exAsg, exAsgF, exPar, exApp, exPut, exDraw, exRetD, bindT, bindTs, behind, behindL, view, view1, scalarD, ret1, retB, fin, setAll, floop, same_self, OwnC.d, cmpD, truthD, bltD, idxD, keyD, freshE, P.marks, bin_add, bin_sub, m P.e0 e1, m P.f0 e2, m P.f0 e1, m P.e0 e2, m2, cloop, wipeR, hf]
theorem bd5 (P : Pr q e f) (x : Int) : Bd 5 (hb q x) := by
  have h0 : 0 < q := by have := P.lo; omega
  have := hb_lo h0 x; have := hb_hi h0 x; have := P.hi
  unfold Bd; omega
theorem f_tables_then (P : Pr q e f) {a b c d a' b' c' d' x y z u : Int} (p : Pq a b c d a' b' c' d' x y z u) :
    callK (fnsOf ds) W (k + 5) 30 [.int q, tbD q e f a b c d, tbD q e f a' b' c' d'] M = some (tbD q e f x y z u, M) := by
  have h0 : 0 < q := by have := P.lo; omega
  have hh := hb_cg h0 P.odd
  have key : ∀ {t s t' s' L1 L2 L3 L4 L : Int}, Cg q (2 * t) L1 → Cg q (2 * s) L2 → Cg q (2 * t') L3 → Cg q (2 * s') L4 → Cg q (L1 * L3 + L2 * L4) (2 * L) → (t * t' + s * s') % q = hb q L := fun {t s t' s' L1 L2 L3 L4 L} h1 h2 h3 h4 h => by
    refine hb_uniq h0 P.odd (Cg.two P.odd ?_)
    have c := (h1.mul h3).add (h2.mul h4)
    have e : 2 * (2 * (t * t' + s * s')) = 2 * t * (2 * t') + 2 * s * (2 * s') := by grind
    rw [e]
    exact c.trans h
  obtain ⟨t, ht⟩ := P.ef
  have q1 := p.h1; have q2 := p.h2; have q3 := p.h3; have q4' := p.h4
  unfold p1 at q1; unfold p2 at q2; unfold p3 at q3; unfold p4 at q4'
  have k1 : (hb q (l1 e f a b c d) * hb q (l1 e f a' b' c' d') + hb q (l2 e f a b c d) * hb q (l3 e f a' b' c' d')) % q = hb q (l1 e f x y z u) :=
    key (hh _) (hh _) (hh _) (hh _) ⟨(c * c' + d * d') * t, by unfold l1 l2 l3; grind⟩
  have k2 : (hb q (l1 e f a b c d) * hb q (l2 e f a' b' c' d') + hb q (l2 e f a b c d) * hb q (l4 e f a' b' c' d')) % q = hb q (l2 e f x y z u) :=
    key (hh _) (hh _) (hh _) (hh _) ⟨(c * d' - d * c') * t, by unfold l1 l2 l4; grind⟩
  have k3 : (hb q (l3 e f a b c d) * hb q (l1 e f a' b' c' d') + hb q (l4 e f a b c d) * hb q (l3 e f a' b' c' d')) % q = hb q (l3 e f x y z u) :=
    key (hh _) (hh _) (hh _) (hh _) ⟨(d * c' - c * d') * t, by unfold l1 l3 l4; grind⟩
  have k4 : (hb q (l3 e f a b c d) * hb q (l2 e f a' b' c' d') + hb q (l4 e f a b c d) * hb q (l4 e f a' b' c' d')) % q = hb q (l4 e f x y z u) :=
    key (hh _) (hh _) (hh _) (hh _) ⟨(c * c' + d * d') * t, by unfold l2 l3 l4; grind⟩
  have hth := f_then_by (k := k + 3) (W := W) (M := M) P (bd5 P (l1 e f a b c d)) (bd5 P (l2 e f a b c d)) (bd5 P (l3 e f a b c d)) (bd5 P (l4 e f a b c d)) (bd5 P (l1 e f a' b' c' d')) (bd5 P (l2 e f a' b' c' d')) (bd5 P (l3 e f a' b' c' d')) (bd5 P (l4 e f a' b' c' d'))
  rw [k1, k2, k3, k4] at hth
  have s1 := f_is_tb (k := k + 2) (W := W) (M := M) P a b c d
  have s2 := f_is_tb (k := k + 2) (W := W) (M := M) P a' b' c' d'
  unfold tbD at s1 s2 ⊢
  rw [callD (Df := D30) rfl rfl]
  simp [b30, exs, ex, ev, evs, evC, evI, bd, bdL, bdB, exAsg, exAsgF, exPar, exApp, exPut, exDraw, exRetD, bindT, bindTs, behind, behindL, view, view1, scalarD, ret1, retB, fin, setAll, floop, same_self, OwnC.d, cmpD, truthD, bltD, idxD, keyD, freshE, P.need, s1, s2, hth]
/-- back from the table: a quad of even numbers, like the first over q -/
theorem f_quad_of (P : Pr q e f) (a b c d : Int) : ∃ x y z u, callK (fnsOf ds) W (k + 5) 31 [.int q, tbD q e f a b c d] M = some (q4 x y z u, M) ∧ Qt x y z u ∧ Cg q x a ∧ Cg q y b ∧ Cg q z c ∧ Cg q u d := by
  have h0 : 0 < q := by have := P.lo; omega
  have hh := hb_cg h0 P.odd
  have s1 := f_is_tb (k := k + 2) (W := W) (M := M) P a b c d
  have hq := f_quad_by (k := k + 2) (W := W) (M := M) P (bd5 P (l1 e f a b c d)) (bd5 P (l2 e f a b c d)) (bd5 P (l3 e f a b c d)) (bd5 P (l4 e f a b c d))
  have b21 : ∀ x, Bd 21 (2 * hb q x) := fun x => (Bd.mul Bd.two (bd5 P x)).mono (by decide)
  refine ⟨2 * hb q (hb q (l1 e f a b c d) + hb q (l4 e f a b c d)), 2 * hb q (hb q (l3 e f a b c d) - hb q (l2 e f a b c d)), 2 * hb q (-(e * (hb q (l1 e f a b c d) - hb q (l4 e f a b c d)) + f * (hb q (l2 e f a b c d) + hb q (l3 e f a b c d)))),
    2 * hb q (f * (hb q (l1 e f a b c d) - hb q (l4 e f a b c d)) - e * (hb q (l2 e f a b c d) + hb q (l3 e f a b c d))), ?_, ⟨b21 _, b21 _, b21 _, b21 _, by omega, by omega, by omega⟩, ?_, ?_, ?_, ?_⟩
  · unfold tbD at s1 ⊢
    rw [callD (Df := D31) rfl rfl]
    simp [b31, exs, ex, ev, evs, evC, evI, bd, bdL, bdB, exAsg, exAsgF, exPar, exApp, exPut, exDraw, exRetD, bindT, bindTs, behind, behindL, view, view1, scalarD, ret1, retB, fin, setAll, floop, same_self, OwnC.d, cmpD, truthD, bltD, idxD, keyD, freshE, P.need, s1, hq]
  · refine (hh _).trans (Cg.two P.odd ?_)
    have cc := (hh (l1 e f a b c d)).add (hh (l4 e f a b c d))
    have e1 : 2 * (hb q (l1 e f a b c d) + hb q (l4 e f a b c d)) = 2 * hb q (l1 e f a b c d) + 2 * hb q (l4 e f a b c d) := by omega
    rw [e1]
    exact cc.trans ⟨0, by unfold l1 l4; grind⟩
  · refine (hh _).trans (Cg.two P.odd ?_)
    have cc := (hh (l3 e f a b c d)).sub (hh (l2 e f a b c d))
    have e1 : 2 * (hb q (l3 e f a b c d) - hb q (l2 e f a b c d)) = 2 * hb q (l3 e f a b c d) - 2 * hb q (l2 e f a b c d) := by omega
    rw [e1]
    exact cc.trans ⟨0, by unfold l2 l3; grind⟩
  · refine (hh _).trans (Cg.two P.odd ?_)
    obtain ⟨t, ht⟩ := P.ef
    have cc := ((Cg.refl (q := q) e).mul ((hh (l1 e f a b c d)).sub (hh (l4 e f a b c d)))).add ((Cg.refl (q := q) f).mul ((hh (l2 e f a b c d)).add (hh (l3 e f a b c d))))
    obtain ⟨s, hs⟩ := cc
    unfold l1 l2 l3 l4 at hs ⊢
    exact ⟨-s - 2 * c * t, by grind⟩
  · refine (hh _).trans (Cg.two P.odd ?_)
    obtain ⟨t, ht⟩ := P.ef
    have cc := ((Cg.refl (q := q) f).mul ((hh (l1 e f a b c d)).sub (hh (l4 e f a b c d)))).sub ((Cg.refl (q := q) e).mul ((hh (l2 e f a b c d)).add (hh (l3 e f a b c d))))
    obtain ⟨s, hs⟩ := cc
    unfold l1 l2 l3 l4 at hs ⊢
    exact ⟨s - 2 * d * t, by grind⟩
end
end L82

set_option Elab.async false
set_option linter.all false
set_option maxRecDepth 100000
set_option maxHeartbeats 8000000
namespace L82
open PySem L2 EV
variable {k W : Nat} {M : Mst}
/-! ### the turn's rows over q -/
def cL : E := .comp (.var 3) (.name 3) (.rng2 (.const (.int (1))) (.var 0)) (.cons (.cmp .eq (.bin .mod (.bin .mul (.var 3) (.idx (.var 1) (.const (.int (0))))) (.var 0)) (.const (.int (1)))) .nil) [3]
theorem bL_eq : b40 = .cons (.asg (.name 2) (.idx cL (.const (.int (0)))) [0, 1]) (.cons (.ret (.blt .tuple1 (.cons (.comp (.blt .tuple1 (.cons (.comp (.bin .mod (.blt .int1 (.cons (.bin .mul (.var 2) (.var 5)) .nil)) (.var 0)) (.name 5) (.seq (.var 4)) .nil [5]) .nil)) (.name 4) (.seq (.idx (.var 1) (.const (.int (1))))) .nil [4]) .nil)) [1, 2, 0]) .nil) := rfl
section
variable {q e f : Int}
def lD (q x a b c d e f g' h i : Int) : D := q9 (x * a % q) (x * b % q) (x * c % q) (x * d % q) (x * e % q) (x * f % q) (x * g' % q) (x * h % q) (x * i % q)
theorem f_left (P : Pr q e f) {x n x1 x2 x3 x4 x5 x6 x7 x8 x9 : Int} (hx : x * n % q = 1) : callK (fnsOf ds) W (k + 1) 40 [.int q, tD n x1 x2 x3 x4 x5 x6 x7 x8 x9] M = some (lD q x x1 x2 x3 x4 x5 x6 x7 x8 x9, M) := by
  have h0 : 0 < q := by have := P.lo; omega
  have one : (1 : Int) % q = 1 := Int.emod_eq_of_lt (by decide) (by have := P.lo; omega)
  have hn : n % q ≠ 0 := fun z => by
    rw [Int.mul_emod, z] at hx
    simp at hx
  obtain ⟨y, y1, y2, y3⟩ := P.inv n hn
  have my : y ∈ rngZ 1 (q - 1).toNat := mem_rngZ.mpr ⟨y1, by omega⟩
  obtain ⟨z, r, hf, hz, hp⟩ := filter_head (p := fun z => z * n % q == 1) my (by simpa using y3)
  have hp' : z * n % q = 1 := by simpa using hp
  have z1 := mem_rngZ.mp hz
  have lq := P.hi
  have mo : ∀ x, binD .mod (.int x) (.int q) = some (.int (x % q)) := fun x => bin_mod h0
  have mz : ∀ x, binD .mul (.int z) (.int x) = some (.int (z * x)) := fun x => bin_mul (mulOk_l (by omega))
  have cv : ∀ a, z * a % q = x * a % q := fun a => (inv_cg (Cg.of_emod (by rw [hp', one])) (Cg.of_emod (by rw [hx, one]))).emod
  have lo := P.lo
  have i1 : evI (callK (fnsOf ds) W k) (.rng2 (.const (.int (1))) (.var 0)) [some (.val (.int q)), some (.val (tD n x1 x2 x3 x4 x5 x6 x7 x8 x9)), none, none, none, none] M = some ((rngZ 1 (q - 1).toNat).map .int, M) := by
    rw [← rngL_eq]
    have c1 : (-1000000 ≤ q ∧ q ≤ 1000000) := by omega
    simp [exs, ex, ev, evs, evC, evI, bd, bdL, bdB, exAsg, exAsgF, exPar, exApp, exPut, exDraw, exRetD, bindT, bindTs, behind, behindL, view, view1, scalarD, ret1, retB, fin, setAll, floop, same_self, OwnC.d, cmpD, truthD, bltD, idxD, keyD, freshE, c1]
  have hc : ev (callK (fnsOf ds) W k) cL [some (.val (.int q)), some (.val (tD n x1 x2 x3 x4 x5 x6 x7 x8 x9)), none, none, none, none] M = some (.lst ((z :: r).map .int), M) := by
    unfold cL
    rw [← hf]
    refine ev_filter _ i1 fun m hm => ?_
    have hm := mem_rngZ.mp hm
    have mm : ∀ x, binD .mul (.int m) (.int x) = some (.int (m * x)) := fun x => bin_mul (mulOk_l (by omega))
    by_cases hh : m * n % q = 1
    · simp [exs, ex, ev, evs, evC, evI, bd, bdL, bdB, exAsg, exAsgF, exPar, exApp, exPut, exDraw, exRetD, bindT, bindTs, behind, behindL, view, view1, scalarD, ret1, retB, fin, setAll, floop, same_self, OwnC.d, cmpD, truthD, bltD, idxD, keyD, freshE, wipeR, at0, mm, mo, eq_int, hh]
    · have hb : (m * n % q == 1) = false := by simpa using hh
      simp [exs, ex, ev, evs, evC, evI, bd, bdL, bdB, exAsg, exAsgF, exPar, exApp, exPut, exDraw, exRetD, bindT, bindTs, behind, behindL, view, view1, scalarD, ret1, retB, fin, setAll, floop, same_self, OwnC.d, cmpD, truthD, bltD, idxD, keyD, freshE, wipeR, at0, mm, mo, eq_int, hb, hh]
  rw [callD (Df := D40) rfl rfl]
  simp only [bL_eq]
  simp [exs, ex, ev, evs, evC, evI, bd, bdL, bdB, exAsg, exAsgF, exPar, exApp, exPut, exDraw, exRetD, bindT, bindTs, behind, behindL, view, view1, scalarD, ret1, retB, fin, setAll, floop, same_self, OwnC.d, cmpD, truthD, bltD, idxD, keyD, freshE, hc, at0, at1, mz, mo, cloop, wipeR, lD, cv]
theorem f_left_tq (P : Pr q e f) {a b c d x : Int} (h : Qt a b c d) (h0 : 0 < nN a b c d) (hx : x * nN a b c d % q = 1) :
    callK (fnsOf ds) W (k + 1) 40 [.int q, tq a b c d] M = some (lD q x (r1 a b c d) (r2 a b c d) (r3 a b c d) (r4 a b c d) (r5 a b c d) (r6 a b c d) (r7 a b c d) (r8 a b c d) (r9 a b c d), M) := by
  obtain ⟨w, n, x1, x2, x3, x4, x5, x6, x7, x8, x9, t⟩ := tq_ex h.ha h.hb h.hc h.hd h0
  have e1 : x * w * n % q = 1 := by rw [← hx, t.hn, Int.mul_assoc]
  have := f_left (k := k) (W := W) (M := M) (x1 := x1) (x2 := x2) (x3 := x3) (x4 := x4) (x5 := x5) (x6 := x6) (x7 := x7) (x8 := x8) (x9 := x9) P e1
  rw [t.e, this, t.e1, t.e2, t.e3, t.e4, t.e5, t.e6, t.e7, t.e8, t.e9]
  unfold lD
  simp only [Int.mul_assoc]
/-- like quads over q have like rows -/
theorem lD_cg {a b c d a' b' c' d' : Int} (x : Int) (ha : Cg q a a') (hb : Cg q b b') (hc : Cg q c c') (hd : Cg q d d') :
    lD q x (r1 a b c d) (r2 a b c d) (r3 a b c d) (r4 a b c d) (r5 a b c d) (r6 a b c d) (r7 a b c d) (r8 a b c d) (r9 a b c d) =
      lD q x (r1 a' b' c' d') (r2 a' b' c' d') (r3 a' b' c' d') (r4 a' b' c' d') (r5 a' b' c' d') (r6 a' b' c' d') (r7 a' b' c' d') (r8 a' b' c' d') (r9 a' b' c' d') := by
  unfold lD
  rw [((Cg.refl x).mul (cg_r1 ha hb hc hd)).emod, ((Cg.refl x).mul (cg_r2 ha hb hc hd)).emod, ((Cg.refl x).mul (cg_r3 ha hb hc hd)).emod, ((Cg.refl x).mul (cg_r4 ha hb hc hd)).emod, ((Cg.refl x).mul (cg_r5 ha hb hc hd)).emod,
    ((Cg.refl x).mul (cg_r6 ha hb hc hd)).emod, ((Cg.refl x).mul (cg_r7 ha hb hc hd)).emod, ((Cg.refl x).mul (cg_r8 ha hb hc hd)).emod, ((Cg.refl x).mul (cg_r9 ha hb hc hd)).emod]
theorem tb_cg {e f : Int} {a b c d a' b' c' d' : Int} (ha : Cg q a a') (hb : Cg q b b') (hc : Cg q c c') (hd : Cg q d d') : tbD q e f a b c d = tbD q e f a' b' c' d' := by
  have e1 : Cg q (l1 e f a b c d) (l1 e f a' b' c' d') := (ha.add (hc.mul (Cg.refl e))).sub (hd.mul (Cg.refl f))
  have e2 : Cg q (l2 e f a b c d) (l2 e f a' b' c' d') := ((hc.mul (Cg.refl f)).add (hd.mul (Cg.refl e))).sub hb
  have e3 : Cg q (l3 e f a b c d) (l3 e f a' b' c' d') := (hb.add (hc.mul (Cg.refl f))).add (hd.mul (Cg.refl e))
  have e4 : Cg q (l4 e f a b c d) (l4 e f a' b' c' d') := (ha.sub (hc.mul (Cg.refl e))).add (hd.mul (Cg.refl f))
  unfold tbD
  rw [hb_eq e1, hb_eq e2, hb_eq e3, hb_eq e4]
end
end L82

set_option Elab.async false
set_option linter.all false
set_option maxRecDepth 100000
set_option maxHeartbeats 8000000
namespace L82
open PySem L2 EV
variable {k W : Nat} {M : Mst}
/-! ### the draws -/
theorem cloop_fm {f : D → Mst → Option (Option D × Mst)} {M : Mst} (o : Int → Option D) : ∀ ns : List Int, (∀ n ∈ ns, f (.int n) M = some (o n, M)) → cloop f (ns.map .int) M = some (ns.filterMap o, M)
  | [], _ => rfl
  | n :: ns, h => by
    have h1 := h n (by simp)
    have h2 := cloop_fm o ns (fun m hm => h m (by simp [hm]))
    simp only [List.map_cons, cloop, h1, h2]
    cases ho : o n <;> simp [List.filterMap_cons, ho]
theorem allInt_ex : ∀ ds : List D, (∀ d ∈ ds, ∃ i : Int, d = .int i) → ∃ l, allInt ds = some l
  | [], _ => ⟨[], rfl⟩
  | d :: ds, h => by
    obtain ⟨i, rfl⟩ := h d (by simp)
    obtain ⟨l, hl⟩ := allInt_ex ds (fun e he => h e (by simp [he]))
    exact ⟨i :: l, by simp [allInt, hl]⟩
theorem powOk5 {a b : Int} (ha : a.natAbs < 2 ^ 64) (hb : 0 ≤ b) (hb2 : b ≤ 1000) : powOk a b = true := by
  have h1 : (Builtin.Int.intBits a : Int) ≤ 64 := by
    unfold Builtin.Int.intBits
    split
    · decide
    · rename_i hz
      have : a.natAbs.log2 < 64 := (Nat.log2_lt (fun z => hz (by rw [Int.natAbs_eq_zero.mp z]; rfl))).mpr ha
      omega
  have h2 : (Builtin.Int.intBits a : Int) * b ≤ 64 * 1000 := Int.le_trans (Int.mul_le_mul_of_nonneg_right h1 hb) (by omega)
  have h3 : (Builtin.Int.intBits a : Int) * b ≤ 2 ^ 27 := by omega
  unfold powOk
  rw [decide_eq_true hb, decide_eq_true h3]
  rfl
def eB1 : E := .comp (.bin .sub (.blt .abs (.cons (.var 2) .nil)) (.bin .pow (.const (.int (10))) (.const (.int (18))))) (.name 2) (.seq (.var 0)) (.cons (.cmp .ge (.blt .abs (.cons (.var 2) .nil)) (.bin .pow (.const (.int (10))) (.const (.int (18))))) .nil) [2]
def eB2 : E := .comp (.blt .abs (.cons (.var 2) .nil)) (.name 2) (.seq (.var 0)) .nil [2]
theorem bB_eq : b32 = .cons (.asgF 1 eB1 [0]) (.cons (.retDraw 1 eB2 [0]) .nil) := rfl
theorem f_begun (ns : List Int) : ∃ l cells, callK (fnsOf ds) W (k + 1) 32 [.lst (ns.map .int)] none = some (.draw, some ⟨l, 0, cells, 0⟩) := by
  have pw : binD .pow (.int 10) (.int 18) = some (.int 1000000000000000000) := by rw [bin_pow (powOk5 (by decide) (by decide) (by decide))]; rfl
  let o : Int → Option D := fun n => if 1000000000000000000 ≤ (if n < 0 then -n else n) then some (.int ((if n < 0 then -n else n) - 1000000000000000000)) else none
  have h1 : ev (callK (fnsOf ds) W k) eB1 [some (.val (.lst (ns.map .int))), none, none] none = some (.lst (ns.filterMap o), none) := by
    unfold eB1
    simp only [ev, evI, bdL, bd, List.getElem?_cons_zero]
    rw [cloop_fm o ns fun n hn => ?_]
    by_cases hh : 1000000000000000000 ≤ (if n < 0 then -n else n)
    · simp [exs, ex, ev, evs, evC, evI, bd, bdL, bdB, exAsg, exAsgF, exPar, exApp, exPut, exDraw, exRetD, bindT, bindTs, behind, behindL, view, view1, scalarD, ret1, retB, fin, setAll, floop, same_self, OwnC.d, cmpD, truthD, bltD, idxD, keyD, freshE, wipeR, pw, bin_sub, hh, o]
    · simp [exs, ex, ev, evs, evC, evI, bd, bdL, bdB, exAsg, exAsgF, exPar, exApp, exPut, exDraw, exRetD, bindT, bindTs, behind, behindL, view, view1, scalarD, ret1, retB, fin, setAll, floop, same_self, OwnC.d, cmpD, truthD, bltD, idxD, keyD, freshE, wipeR, pw, bin_sub, hh, o]
  obtain ⟨l, hl⟩ := allInt_ex (ns.filterMap o) fun d hd => by
    obtain ⟨n, _, hn⟩ := List.mem_filterMap.mp hd
    simp only [o] at hn
    generalize (if n < 0 then -n else n) = A at hn
    split at hn
    · cases hn; exact ⟨_, rfl⟩
    · cases hn
  let c : Int → Option D := fun n => some (.int (if n < 0 then -n else n))
  have h2 : ∀ (s : Slot), ev (callK (fnsOf ds) W k) eB2 [some (.val (.lst (ns.map .int))), some s, none] none = some (.lst (ns.filterMap c), none) := fun s => by
    unfold eB2
    simp only [ev, evI, bdL, bd, List.getElem?_cons_zero]
    rw [cloop_fm c ns fun n hn => ?_]
    simp [exs, ex, ev, evs, evC, evI, bd, bdL, bdB, exAsg, exAsgF, exPar, exApp, exPut, exDraw, exRetD, bindT, bindTs, behind, behindL, view, view1, scalarD, ret1, retB, fin, setAll, floop, same_self, OwnC.d, cmpD, truthD, bltD, idxD, keyD, freshE, wipeR, c]
  obtain ⟨cells, hc⟩ := allInt_ex (ns.filterMap c) fun d hd => by
    obtain ⟨n, _, hn⟩ := List.mem_filterMap.mp hd
    simp only [c] at hn
    cases hn; exact ⟨_, rfl⟩
  refine ⟨l, cells, ?_⟩
  rw [callD (Df := D32) rfl rfl]
  simp only [bB_eq]
  have fr : freshE eB1 = true := rfl
  simp [exs, ex, fin, bd, exAsgF, exRetD, behindL, view, view1, h1, h2, hl, hc, fr, same_self]

/-- one lap's inner loop -/
def bM : Ss := .cons (.asg (.name 4) (.bin .mod (.bin .add (.bin .add (.bin .mul (.var 4) (.const (.int (69621)))) (.blt .int1 (.cons (.var 5) .nil))) (.var 2)) (.var 1)) [4, 5, 2, 1]) .nil
def bM2 : Ss := .cons (.asg (.name 4) (.bin .mod (.bin .add (.bin .mul (.var 2) (.const (.int (48271)))) (.bin .fdiv (.var 1) (.const (.int (11))))) (.var 1)) [2, 1]) (.cons (.for_ (.name 5) (.seq (.dget (.var 0) .cells)) [0] bM) (.cons (.asg (.name 3) (.bin .add (.bin .mul (.var 3) (.const (.int (2147483659)))) (.bin .mod (.bin .pow (.var 4) (.const (.int (5)))) (.var 1))) [3, 4, 1]) .nil))
theorem bM_eq : b33 = .cons (.drawSet 0 .turn (.bin .add (.dget (.var 0) .turn) (.const (.int (1)))) [0]) (.cons (.par [2, 3] (.cons (.blt .int1 (.cons (.dget (.var 0) .turn) .nil)) (.cons (.const (.int (0))) .nil)) [0])
  (.cons (.for_ (.name 1) (.seq (.lst (.cons (.const (.int (2147483647))) (.cons (.const (.int (2147483629))) (.cons (.const (.int (2147483587))) .nil))))) [] bM2) (.cons (.ret (.var 3) [3]) .nil))) := rfl
theorem mix_in {C : Orc} {gr lap fo : Int} (h0 : 0 < gr) : ∀ (cells : List Int) (b : Int) (s5 : Option Slot), 0 ≤ b → b < gr → ∃ b' s5', 0 ≤ b' ∧ b' < gr ∧
    floop (fun ρ d M => match bindT (.name 5) d ρ with | some ρ' => exs C W bM ρ' M | none => none) (cells.map .int) [some (.val .draw), some (.val (.int gr)), some (.val (.int lap)), some (.val (.int fo)), some (.val (.int b)), s5] M =
      some (.nx [some (.val .draw), some (.val (.int gr)), some (.val (.int lap)), some (.val (.int fo)), some (.val (.int b')), s5'], M)
  | [], b, s5, h1, h2 => ⟨b, s5, h1, h2, rfl⟩
  | c :: cells, b, s5, h1, h2 => by
    have mo : ∀ x, binD .mod (.int x) (.int gr) = some (.int (x % gr)) := fun x => bin_mod h0
    have mu : ∀ x, binD .mul (.int x) (.int 69621) = some (.int (x * 69621)) := fun x => bin_mul (mulOk_r (by decide))
    obtain ⟨b', s5', h3, h4, h5⟩ := mix_in (C := C) (lap := lap) (fo := fo) h0 cells ((b * 69621 + c + lap) % gr) (some (.val (.int c))) (Int.emod_nonneg _ (by omega)) (Int.emod_lt_of_pos _ h0)
    refine ⟨b', s5', h3, h4, ?_⟩
    rw [← h5]
    have e : exs C W bM [some (.val .draw), some (.val (.int gr)), some (.val (.int lap)), some (.val (.int fo)), some (.val (.int b)), some (.val (.int c))] M = some (.nx [some (.val .draw), some (.val (.int gr)), some (.val (.int lap)), some (.val (.int fo)), some (.val (.int ((b * 69621 + c + lap) % gr))), some (.val (.int c))], M) := by
      simp [bM, exs, ex, ev, evs, evC, evI, bd, bdL, bdB, exAsg, exAsgF, exPar, exApp, exPut, exDraw, exRetD, bindT, bindTs, behind, behindL, view, view1, scalarD, ret1, retB, fin, setAll, floop, same_self, OwnC.d, cmpD, truthD, bltD, idxD, keyD, freshE, mo, mu, bin_add]
    simp only [List.map_cons, floop, bindT, List.set, e]
theorem mix_one {C : Orc} {m : Draw} {gr lap fo : Int} {s1 s4 s5 : Option Slot} (h0 : 0 < gr) (h1 : gr < 2 ^ 40) : ∃ fo' s4' s5', exs C W bM2 [some (.val .draw), some (.val (.int gr)), some (.val (.int lap)), some (.val (.int fo)), s4, s5] (some m) =
      some (.nx [some (.val .draw), some (.val (.int gr)), some (.val (.int lap)), some (.val (.int fo')), s4', s5'], some m) := by
  have mo : ∀ x, binD .mod (.int x) (.int gr) = some (.int (x % gr)) := fun x => bin_mod h0
  have mu : ∀ x, binD .mul (.int x) (.int 48271) = some (.int (x * 48271)) := fun x => bin_mul (mulOk_r (by decide))
  have mv : ∀ x, binD .mul (.int x) (.int 2147483659) = some (.int (x * 2147483659)) := fun x => bin_mul (mulOk_r (by decide))
  have dv : ∀ x, binD .fdiv (.int x) (.int 11) = some (.int (x / 11)) := fun x => bin_div (divOk_s (by decide) (by decide))
  obtain ⟨b', s5', h3, h4, h5⟩ := mix_in (C := C) (W := W) (M := some m) (lap := lap) (fo := fo) h0 m.cells ((lap * 48271 + gr / 11) % gr) s5 (Int.emod_nonneg _ (by omega)) (Int.emod_lt_of_pos _ h0)
  have pw : binD .pow (.int b') (.int 5) = some (.int (b' ^ 5)) := by rw [bin_pow (powOk5 (by omega) (by decide) (by decide))]; rfl
  simp only [bindT] at h5
  refine ⟨fo * 2147483659 + b' ^ 5 % gr, some (.val (.int b')), s5', ?_⟩
  simp [bM2, exs, ex, ev, evs, evC, evI, bd, bdL, bdB, exAsg, exAsgF, exPar, exApp, exPut, exDraw, exRetD, bindT, bindTs, behind, behindL, view, view1, scalarD, ret1, retB, fin, setAll, floop, same_self, OwnC.d, cmpD, truthD, bltD, idxD, keyD, freshE, mo, mu, mv, dv, bin_add, h5, pw]
end L82

set_option Elab.async false
set_option linter.all false
set_option maxRecDepth 100000
set_option maxHeartbeats 8000000
namespace L82
open PySem L2 EV
variable {k W : Nat} {M : Mst}
theorem f_mixed (m : Draw) : ∃ z m', callK (fnsOf ds) W (k + 1) 33 [.draw] (some m) = some (.int z, some m') := by
  obtain ⟨z1, u1, v1, h1⟩ := mix_one (W := W) (C := callK (fnsOf ds) W k) (m := { m with turn := m.turn + 1 }) (gr := 2147483647) (lap := m.turn + 1) (fo := 0) (s1 := none) (s4 := none) (s5 := none) (by decide) (by decide)
  obtain ⟨z2, u2, v2, h2⟩ := mix_one (W := W) (C := callK (fnsOf ds) W k) (m := { m with turn := m.turn + 1 }) (gr := 2147483629) (lap := m.turn + 1) (fo := z1) (s1 := none) (s4 := u1) (s5 := v1) (by decide) (by decide)
  obtain ⟨z3, u3, v3, h3⟩ := mix_one (W := W) (C := callK (fnsOf ds) W k) (m := { m with turn := m.turn + 1 }) (gr := 2147483587) (lap := m.turn + 1) (fo := z2) (s1 := none) (s4 := u2) (s5 := v2) (by decide) (by decide)
  refine ⟨z3, { m with turn := m.turn + 1 }, ?_⟩
  rw [callD (Df := D33) rfl rfl]
  simp only [bM_eq]
  simp [exs, ex, ev, evs, evC, evI, bd, bdL, bdB, exAsg, exAsgF, exPar, exApp, exPut, exDraw, exRetD, bindT, bindTs, behind, behindL, view, view1, scalarD, ret1, retB, fin, setAll, floop, same_self, OwnC.d, cmpD, truthD, bltD, idxD, keyD, freshE, drawPut, bin_add, h1, h2, h3]
theorem f_take (m : Draw) {n : Int} (h0 : 0 < n) (h1 : n < 2 ^ 60) : ∃ r m', callK (fnsOf ds) W (k + 2) 34 [.draw, .int n] (some m) = some (.int r, some m') ∧ 0 ≤ r ∧ r < n := by
  have mo : ∀ x, binD .mod (.int x) (.int n) = some (.int (x % n)) := fun x => bin_mod h0
  have dv : ∀ x, binD .fdiv (.int x) (.int n) = some (.int (x / n)) := fun x => bin_div (divOk_s h0 (by omega))
  have fi : ∀ x : Int, 0 ≤ x % n ∧ x % n < n := fun x => ⟨Int.emod_nonneg _ (by omega), Int.emod_lt_of_pos _ h0⟩
  by_cases hr : m.rest = 0
  · cases hl : m.large with
    | nil =>
      obtain ⟨z, m', hz⟩ := f_mixed (k := k) (W := W) m
      refine ⟨z % n, { m' with rest := z / n }, ?_, (fi z).1, (fi z).2⟩
      rw [callD (Df := D34) rfl rfl]
      simp [b34, exs, ex, ev, evs, evC, evI, bd, bdL, bdB, exAsg, exAsgF, exPar, exApp, exPut, exDraw, exRetD, bindT, bindTs, behind, behindL, view, view1, scalarD, ret1, retB, fin, setAll, floop, same_self, OwnC.d, cmpD, truthD, bltD, idxD, keyD, freshE, drawPut, mo, dv, hr, hl, hz, eq_int]
    | cons i r =>
      refine ⟨i % n, { m with large := r, rest := i / n }, ?_, (fi i).1, (fi i).2⟩
      rw [callD (Df := D34) rfl rfl]
      simp [b34, exs, ex, ev, evs, evC, evI, bd, bdL, bdB, exAsg, exAsgF, exPar, exApp, exPut, exDraw, exRetD, bindT, bindTs, behind, behindL, view, view1, scalarD, ret1, retB, fin, setAll, floop, same_self, OwnC.d, cmpD, truthD, bltD, idxD, keyD, freshE, drawPut, mo, dv, hr, hl, eq_int]
  · refine ⟨m.rest % n, { m with rest := m.rest / n }, ?_, (fi m.rest).1, (fi m.rest).2⟩
    have hr' : (m.rest == 0) = false := by simpa using hr
    rw [callD (Df := D34) rfl rfl]
    simp [b34, exs, ex, ev, evs, evC, evI, bd, bdL, bdB, exAsg, exAsgF, exPar, exApp, exPut, exDraw, exRetD, bindT, bindTs, behind, behindL, view, view1, scalarD, ret1, retB, fin, setAll, floop, same_self, OwnC.d, cmpD, truthD, bltD, idxD, keyD, freshE, drawPut, mo, dv, hr', eq_int]
/-- a drawn quad -/
structure Qb (a b c d : Int) : Prop where
  ha : Bd 4 a
  hb : Bd 4 b
  hc : Bd 4 c
  hd : Bd 4 d
  ab : (b - a) % 2 = 0
  ac : (c - a) % 2 = 0
  ad : (d - a) % 2 = 0
theorem Qb.s {a b c d : Int} (q : Qb a b c d) : Qs a b c d := ⟨q.ha.mono (by decide), q.hb.mono (by decide), q.hc.mono (by decide), q.hd.mono (by decide), q.ab, q.ac, q.ad⟩
theorem f_size {a b c d : Int} (q : Qb a b c d) : callK (fnsOf ds) W (k + 1) 36 [q4 a b c d] M = some (.int (nN a b c d / 4), M) := by
  have m : ∀ {x : Int}, Bd 4 x → binD .mul (.int x) (.int x) = some (.int (x * x)) := fun h => bin_mul (mulOk_bd h h (by decide) (by decide))
  have dv : ∀ x, binD .fdiv (.int x) (.int 4) = some (.int (x / 4)) := fun x => bin_div (divOk_s (by decide) (by decide))
  have e : a * a + (b * b + (c * c + d * d)) = nN a b c d := by unfold nN; omega
  rw [callD (Df := D36) rfl rfl]
  simp [b36, exs, ex, ev, evs, evC, evI, bd, bdL, bdB, exAsg, exAsgF, exPar, exApp, exPut, exDraw, exRetD, bindT, bindTs, behind, behindL, view, view1, scalarD, ret1, retB, fin, setAll, floop, same_self, OwnC.d, cmpD, truthD, bltD, idxD, keyD, freshE, cloop, wipeR, m, q.ha, q.hb, q.hc, q.hd, dv, allInt, e]
theorem f_quad (m : Draw) : ∃ a b c d m', callK (fnsOf ds) W (k + 3) 37 [.draw] (some m) = some (q4 a b c d, some m') ∧ Qb a b c d := by
  have m2 : ∀ x : Int, binD .mul (.int 2) (.int x) = some (.int (2 * x)) := fun x => bin_mul (mulOk_l (by decide))
  obtain ⟨t, m0, h0, t0, t1⟩ := f_take (k := k) (W := W) m (n := 2) (by decide) (by decide)
  obtain ⟨a, m1, h1, a0, a1⟩ := f_take (k := k) (W := W) m0 (n := 9) (by decide) (by decide)
  obtain ⟨b, m2', h2, b0, b1⟩ := f_take (k := k) (W := W) m1 (n := 9) (by decide) (by decide)
  obtain ⟨c, m3, h3, c0, c1⟩ := f_take (k := k) (W := W) m2' (n := 9) (by decide) (by decide)
  obtain ⟨d, m4, h4, d0, d1⟩ := f_take (k := k) (W := W) m3 (n := 9) (by decide) (by decide)
  refine ⟨2 * (a - 4) + t, 2 * (b - 4) + t, 2 * (c - 4) + t, 2 * (d - 4) + t, m4, ?_, ⟨by unfold Bd; omega, by unfold Bd; omega, by unfold Bd; omega, by unfold Bd; omega, by omega, by omega, by omega⟩⟩
  rw [callD (Df := D37) rfl rfl]
  simp [b37, exs, ex, ev, evs, evC, evI, bd, bdL, bdB, exAsg, exAsgF, exPar, exApp, exPut, exDraw, exRetD, bindT, bindTs, behind, behindL, view, view1, scalarD, ret1, retB, fin, setAll, floop, same_self, OwnC.d, cmpD, truthD, bltD, idxD, keyD, freshE, cloop, wipeR, rngL, List.range, List.range.loop, m2, bin_add, bin_sub, h0, h1, h2, h3, h4]
theorem f_some_quad (m : Draw) : ∃ a b c d m', callK (fnsOf ds) W (k + 4) 38 [.draw] (some m) = some (q4 a b c d, some m') ∧ Qb a b c d := by
  obtain ⟨a, b, c, d, m', h, q⟩ := f_quad (k := k) (W := W) m
  have e := eq_q4 a b c d 0 0 0 0
  by_cases hz : (a == 0 && (b == 0 && (c == 0 && d == 0))) = true
  · refine ⟨2, 2, 0, 0, m', ?_, ⟨by unfold Bd; decide, by unfold Bd; decide, by unfold Bd; decide, by unfold Bd; decide, by decide, by decide, by decide⟩⟩
    rw [hz] at e
    rw [callD (Df := D38) rfl rfl]
    simp [b38, exs, ex, ev, evs, evC, evI, bd, bdL, bdB, exAsg, exAsgF, exPar, exApp, exPut, exDraw, exRetD, bindT, bindTs, behind, behindL, view, view1, scalarD, ret1, retB, fin, setAll, floop, same_self, OwnC.d, cmpD, truthD, bltD, idxD, keyD, freshE, h, e]
  · refine ⟨a, b, c, d, m', ?_, q⟩
    have hz : (a == 0 && (b == 0 && (c == 0 && d == 0))) = false := by simpa using hz
    rw [hz] at e
    rw [callD (Df := D38) rfl rfl]
    simp [b38, exs, ex, ev, evs, evC, evI, bd, bdL, bdB, exAsg, exAsgF, exPar, exApp, exPut, exDraw, exRetD, bindT, bindTs, behind, behindL, view, view1, scalarD, ret1, retB, fin, setAll, floop, same_self, OwnC.d, cmpD, truthD, bltD, idxD, keyD, freshE, h, e]
def bN : Ss := .cons (.asg (.name 3) (.call 38 (.cons (.var 0) .nil)) [0]) (.cons (.ite (.cmp .ne (.bin .mod (.call 36 (.cons (.var 3) .nil)) (.var 1)) (.const (.int (0)))) [3, 1] (.cons (.ret (.var 3) [3]) .nil) .nil) .nil)
theorem bN_eq : b39 = .cons (.for_ (.name 2) (.rng1 (.const (.int (20)))) [] bN) (.cons (.ret (.tup (.cons (.const (.int (2))) (.cons (.const (.int (0))) (.cons (.const (.int (0))) (.cons (.const (.int (0))) .nil))))) []) .nil) := rfl
theorem net_loop {q : Int} (h0 : 0 < q) : ∀ (items : List D) (m : Draw) (s2 s3 : Option Slot),
    (∃ a b c d m', floop (fun ρ d M => match bindT (.name 2) d ρ with | some ρ' => exs (callK (fnsOf ds) W (k + 4)) W bN ρ' M | none => none) items [some (.val .draw), some (.val (.int q)), s2, s3] (some m) = some (.ret (q4 a b c d), some m') ∧ Qb a b c d ∧ nN a b c d / 4 % q ≠ 0) ∨
    ∃ s2' s3' m', floop (fun ρ d M => match bindT (.name 2) d ρ with | some ρ' => exs (callK (fnsOf ds) W (k + 4)) W bN ρ' M | none => none) items [some (.val .draw), some (.val (.int q)), s2, s3] (some m) = some (.nx [some (.val .draw), some (.val (.int q)), s2', s3'], some m')
  | [], m, s2, s3 => .inr ⟨s2, s3, m, rfl⟩
  | i :: items, m, s2, s3 => by
    obtain ⟨a, b, c, d, m', h, qb⟩ := f_some_quad (k := k) (W := W) m
    have mo : ∀ x, binD .mod (.int x) (.int q) = some (.int (x % q)) := fun x => bin_mod h0
    have hs := f_size (k := k + 3) (W := W) (M := some m') qb
    by_cases hz : nN a b c d / 4 % q = 0
    · have e : exs (callK (fnsOf ds) W (k + 4)) W bN [some (.val .draw), some (.val (.int q)), some (.val i), s3] (some m) = some (.nx [some (.val .draw), some (.val (.int q)), some (.val i), some (.val (q4 a b c d))], some m') := by
        simp [bN, exs, ex, ev, evs, evC, evI, bd, bdL, bdB, exAsg, exAsgF, exPar, exApp, exPut, exDraw, exRetD, bindT, bindTs, behind, behindL, view, view1, scalarD, ret1, retB, fin, setAll, floop, same_self, OwnC.d, cmpD, truthD, bltD, idxD, keyD, freshE, h, hs, mo, eq_int, hz]
      rcases net_loop h0 items m' (some (.val i)) (some (.val (q4 a b c d))) with ⟨a', b', c', d', m2, r⟩ | ⟨s2', s3', m2, r⟩
      · refine .inl ⟨a', b', c', d', m2, ?_, r.2⟩
        rw [← r.1]
        simp only [floop, bindT, List.set, e]
      · refine .inr ⟨s2', s3', m2, ?_⟩
        rw [← r]
        simp only [floop, bindT, List.set, e]
    · refine .inl ⟨a, b, c, d, m', ?_, qb, hz⟩
      have hz' : (nN a b c d / 4 % q == 0) = false := by simpa using hz
      have e : exs (callK (fnsOf ds) W (k + 4)) W bN [some (.val .draw), some (.val (.int q)), some (.val i), s3] (some m) = some (.ret (q4 a b c d), some m') := by
        simp [bN, exs, ex, ev, evs, evC, evI, bd, bdL, bdB, exAsg, exAsgF, exPar, exApp, exPut, exDraw, exRetD, bindT, bindTs, behind, behindL, view, view1, scalarD, ret1, retB, fin, setAll, floop, same_self, OwnC.d, cmpD, truthD, bltD, idxD, keyD, freshE, h, hs, mo, eq_int, hz']
      simp only [floop, bindT, List.set, e]
theorem f_net {q : Int} (h2 : 2 < q) (m : Draw) : ∃ a b c d m', callK (fnsOf ds) W (k + 5) 39 [.draw, .int q] (some m) = some (q4 a b c d, some m') ∧ Qb a b c d ∧ nN a b c d / 4 % q ≠ 0 := by
  rcases net_loop (k := k) (W := W) (show 0 < q by omega) (rngL 0 20) m none none with ⟨a, b, c, d, m', r, qb, hz⟩ | ⟨s2, s3, m', r⟩
  · refine ⟨a, b, c, d, m', ?_, qb, hz⟩
    rw [callD (Df := D39) rfl rfl]
    simp only [bN_eq]
    simp only [bindT] at r
    simp [exs, ex, ev, evI, bd, bdL, view, fin, r, bindT]
  · refine ⟨2, 0, 0, 0, m', ?_, ⟨by unfold Bd; decide, by unfold Bd; decide, by unfold Bd; decide, by unfold Bd; decide, by decide, by decide, by decide⟩, ?_⟩
    · rw [callD (Df := D39) rfl rfl]
      simp only [bN_eq]
      simp only [bindT] at r
      simp [exs, ex, ev, evs, evI, bd, bdL, view, fin, r, bindT]
    · have e : nN 2 0 0 0 / 4 = 1 := by decide
      rw [e, Int.emod_eq_of_lt (by decide) (by omega)]
      decide
theorem f_pick (m : Draw) : ∃ q e f m', callK (fnsOf ds) W (k + 3) 35 [.draw, .lst [.int 3, .int 5, .int 7, .int 11, .int 13]] (some m) = some (.int q, some m') ∧ Pr q e f := by
  obtain ⟨r, m', h, h0, h1⟩ := f_take (k := k) (W := W) m (n := 5) (by decide) (by decide)
  have hc : r = 0 ∨ r = 1 ∨ r = 2 ∨ r = 3 ∨ r = 4 := by omega
  have fi : ∀ (i : Nat) (q : Int), ([.int 3, .int 5, .int 7, .int 11, .int 13] : List D)[i]? = some (.int q) → r = i → callK (fnsOf ds) W (k + 3) 35 [.draw, .lst [.int 3, .int 5, .int 7, .int 11, .int 13]] (some m) = some (.int q, some m') := fun i q hi hr => by
    have ha := atN _ i _ hi
    subst hr
    rw [callD (Df := D35) rfl rfl]
    simp [b35, exs, ex, ev, evs, evC, evI, bd, bdL, bdB, exAsg, exAsgF, exPar, exApp, exPut, exDraw, exRetD, bindT, bindTs, behind, behindL, view, view1, scalarD, ret1, retB, fin, setAll, floop, same_self, OwnC.d, cmpD, truthD, bltD, idxD, keyD, freshE, h, ha]
  rcases hc with z | z | z | z | z
  · exact ⟨3, _, _, m', fi 0 3 rfl z, pr3⟩
  · exact ⟨5, _, _, m', fi 1 5 rfl z, pr5⟩
  · exact ⟨7, _, _, m', fi 2 7 rfl z, pr7⟩
  · exact ⟨11, _, _, m', fi 3 11 rfl z, pr11⟩
  · exact ⟨13, _, _, m', fi 4 13 rfl z, pr13⟩
end L82

set_option Elab.async false
set_option linter.all false
set_option maxRecDepth 100000
set_option maxHeartbeats 8000000
namespace L82
open PySem L2 EV
/-! ### the law's turns -/
def S1 : S := .asg (.name 3) (.call 35 (.cons (.var 1) (.cons (.lst (.cons (.const (.int (3))) (.cons (.const (.int (5))) (.cons (.const (.int (7))) (.cons (.const (.int (11))) (.cons (.const (.int (13))) .nil)))))) .nil))) [1]
def S2 : S := .par [10, 11] (.cons (.call 39 (.cons (.var 1) (.cons (.var 3) .nil))) (.cons (.call 37 (.cons (.var 1) .nil)) .nil)) [1, 3]
def S3 : S := .asg (.name 4) (.call 9 (.cons (.var 10) (.cons (.var 11) (.cons (.bin .mul (.var 3) (.bin .add (.const (.int (1))) (.call 34 (.cons (.var 1) (.cons (.const (.int (4))) .nil))))) .nil)))) [10, 11, 3, 1]
def S4 : S := .ite (.cmp .eq (.var 4) (.tup (.cons (.const (.int (0))) (.cons (.const (.int (0))) (.cons (.const (.int (0))) (.cons (.const (.int (0))) .nil)))))) [4] (.cons .cnt .nil) .nil
def S5 : S := .ite (.orV (.cmp .ne (.call 29 (.cons (.var 3) (.cons (.var 4) .nil))) (.call 29 (.cons (.var 3) (.cons (.var 10) .nil)))) (.cmp .ne (.call 40 (.cons (.var 3) (.cons (.call 18 (.cons (.var 4) .nil)) .nil))) (.call 40 (.cons (.var 3) (.cons (.call 18 (.cons (.var 10) .nil)) .nil))))) [3, 4, 10] (.cons (.ret (.const (.bl false)) []) .nil) .nil
def S6 : S := .asg (.name 5) (.call 31 (.cons (.var 3) (.cons (.call 29 (.cons (.var 3) (.cons (.var 10) .nil))) .nil))) [3, 10]
def S7 : S := .ite (.cmp .ne (.call 40 (.cons (.var 3) (.cons (.call 18 (.cons (.var 5) .nil)) .nil))) (.call 40 (.cons (.var 3) (.cons (.call 18 (.cons (.var 10) .nil)) .nil)))) [3, 5, 10] (.cons (.ret (.const (.bl false)) []) .nil) .nil
def S8 : S := .asg (.name 6) (.call 39 (.cons (.var 1) (.cons (.var 3) .nil))) [1, 3]
def S9 : S := .asg (.name 7) (.call 8 (.cons (.var 10) (.cons (.var 6) .nil))) [10, 6]
def S10 : S := .asg (.tup [(.name 12), (.name 13), (.name 14)]) (.tup (.cons (.call 40 (.cons (.var 3) (.cons (.call 18 (.cons (.var 7) .nil)) .nil))) (.cons (.call 40 (.cons (.var 3) (.cons (.call 18 (.cons (.var 10) .nil)) .nil))) (.cons (.call 40 (.cons (.var 3) (.cons (.call 18 (.cons (.var 6) .nil)) .nil))) .nil)))) [3, 7, 10, 6]
def eDue : E := .blt .tuple1 (.cons (.comp (.blt .tuple1 (.cons (.comp (.bin .mod (.blt .int1 (.cons (.blt .sumL (.cons (.comp (.bin .mul (.idx (.var 15) (.var 17)) (.idx (.idx (.var 14) (.var 17)) (.var 16))) (.name 17) (.rng1 (.const (.int (3)))) .nil [17]) .nil)) .nil)) (.var 3)) (.name 16) (.rng1 (.const (.int (3)))) .nil [16]) .nil)) (.name 15) (.seq (.var 13)) .nil [15]) .nil)
def S11 : S := .asg (.name 8) eDue [13, 14, 3]
def S12 : S := .ite (.orV (.cmp .ne (.var 12) (.var 8)) (.orV (.cmp .ne (.call 29 (.cons (.var 3) (.cons (.var 7) .nil))) (.call 30 (.cons (.var 3) (.cons (.call 29 (.cons (.var 3) (.cons (.var 10) .nil))) (.cons (.call 29 (.cons (.var 3) (.cons (.var 6) .nil))) .nil))))) (.cmp .ne (.call 18 (.cons (.var 7) .nil)) (.call 19 (.cons (.call 18 (.cons (.var 6) .nil)) (.cons (.call 18 (.cons (.var 10) .nil)) .nil)))))) [12, 8, 3, 7, 10, 6] (.cons (.ret (.const (.bl false)) []) .nil) .nil
def S13 : S := .asg (.name 9) (.bin .add (.const (.int (1))) (.call 34 (.cons (.var 1) (.cons (.bin .sub (.var 3) (.const (.int (1)))) .nil)))) [1, 3]
def S14 : S := .ite (.orV (.cmp .ne (.call 40 (.cons (.var 3) (.cons (.call 18 (.cons (.tup (.cons (.bin .mul (.const (.int (2))) (.var 9)) (.cons (.const (.int (0))) (.cons (.const (.int (0))) (.cons (.const (.int (0))) .nil))))) .nil)) .nil))) (.tup (.cons (.tup (.cons (.const (.int (1))) (.cons (.const (.int (0))) (.cons (.const (.int (0))) .nil)))) (.cons (.tup (.cons (.const (.int (0))) (.cons (.const (.int (1))) (.cons (.const (.int (0))) .nil)))) (.cons (.tup (.cons (.const (.int (0))) (.cons (.const (.int (0))) (.cons (.const (.int (1))) .nil)))) .nil))))) (.cmp .ne (.call 29 (.cons (.var 3) (.cons (.tup (.cons (.bin .mul (.const (.int (2))) (.var 9)) (.cons (.const (.int (0))) (.cons (.const (.int (0))) (.cons (.const (.int (0))) .nil))))) .nil))) (.tup (.cons (.var 9) (.cons (.const (.int (0))) (.cons (.const (.int (0))) (.cons (.var 9) .nil))))))) [3, 9] (.cons (.ret (.const (.bl false)) []) .nil) .nil
def T5 : Ss := .cons S13 (.cons S14 .nil)
def T4 (r : Ss) : Ss := .cons S12 r
def T3 (r : Ss) : Ss := .cons S8 (.cons S9 (.cons S10 (.cons S11 r)))
def T2 (r : Ss) : Ss := .cons S5 (.cons S6 (.cons S7 r))
def T1 (r : Ss) : Ss := .cons S1 (.cons S2 (.cons S3 (.cons S4 r)))
def bT : Ss := T1 (T2 (T3 (T4 T5)))
theorem bT_eq : b41 = .cons (.asg (.name 1) (.call 32 (.cons (.var 0) .nil)) [0]) (.cons (.for_ (.name 2) (.rng1 (.bin .add (.const (.int (3))) (.blt .min2 (.cons (.blt .len (.cons (.var 0) .nil)) (.cons (.const (.int (6))) .nil))))) [0] bT) (.cons (.ret (.const (.bl true)) []) .nil)) := rfl

section
variable {C : Orc} {W : Nat} {r : Ss} {sc : D} {s0 s1 s2 s3 s4 s5 s6 s7 s8 s9 s10 s11 s12 s13 s14 s15 s16 s17 : Option Slot}
theorem g1 {m m1 m2 m3 m4 : Draw} {q t la lb lc ld : Int} {Q R : D} (h1 : C 35 [.draw, .lst [.int 3, .int 5, .int 7, .int 11, .int 13]] (some m) = some (.int q, some m1)) (h2 : C 39 [.draw, .int q] (some m1) = some (Q, some m2))
    (h3 : C 37 [.draw] (some m2) = some (R, some m3)) (h4 : C 34 [.draw, .int 4] (some m3) = some (.int t, some m4)) (hq : q.natAbs < 2 ^ 64) (h5 : C 9 [Q, R, .int (q * (1 + t))] (some m4) = some (q4 la lb lc ld, some m4)) :
    exs C W (T1 r) [some (.val sc), some (.val .draw), s2, s3, s4, s5, s6, s7, s8, s9, s10, s11, s12, s13, s14, s15, s16, s17] (some m) = if (la == 0 && (lb == 0 && (lc == 0 && ld == 0))) = true then some (.cnt [some (.val sc), some (.val .draw), s2, some (.val (.int q)), some (.val (q4 la lb lc ld)), s5, s6, s7, s8, s9, some (.val Q), some (.val R), s12, s13, s14, s15, s16, s17], some m4) else exs C W r [some (.val sc), some (.val .draw), s2, some (.val (.int q)), some (.val (q4 la lb lc ld)), s5, s6, s7, s8, s9, some (.val Q), some (.val R), s12, s13, s14, s15, s16, s17] (some m4) := by
  have mq : binD .mul (.int q) (.int (1 + t)) = some (.int (q * (1 + t))) := bin_mul (mulOk_l hq)
  have e := eq_q4 la lb lc ld 0 0 0 0
  generalize (la == 0 && (lb == 0 && (lc == 0 && ld == 0))) = z at *
  cases z
  · simp [T1, S1, S2, S3, S4, exs, ex, ev, evs, evC, evI, bd, bdL, bdB, exAsg, exAsgF, exPar, exApp, exPut, exDraw, exRetD, bindT, bindTs, behind, behindL, view, view1, scalarD, ret1, retB, fin, setAll, floop, same_self, OwnC.d, cmpD, truthD, bltD, idxD, keyD, freshE, h1, h2, h3, h4, h5, mq, bin_add, e]
  · simp [T1, S1, S2, S3, S4, exs, ex, ev, evs, evC, evI, bd, bdL, bdB, exAsg, exAsgF, exPar, exApp, exPut, exDraw, exRetD, bindT, bindTs, behind, behindL, view, view1, scalarD, ret1, retB, fin, setAll, floop, same_self, OwnC.d, cmpD, truthD, bltD, idxD, keyD, freshE, h1, h2, h3, h4, h5, mq, bin_add, e]
theorem g2 {M : Mst} {q : Int} {Q L Lw tb tL tQ tW lf : D} (h1 : C 29 [.int q, L] M = some (tb, M)) (h2 : C 29 [.int q, Q] M = some (tb, M)) (h3 : eqD tb tb = some true) (h4 : C 18 [L] M = some (tL, M)) (h5 : C 18 [Q] M = some (tQ, M))
    (h6 : C 40 [.int q, tL] M = some (lf, M)) (h7 : C 40 [.int q, tQ] M = some (lf, M)) (h8 : eqD lf lf = some true) (h9 : C 31 [.int q, tb] M = some (Lw, M)) (h10 : C 18 [Lw] M = some (tW, M)) (h11 : C 40 [.int q, tW] M = some (lf, M)) :
    exs C W (T2 r) [some (.val sc), some (.val .draw), s2, some (.val (.int q)), some (.val L), s5, s6, s7, s8, s9, some (.val Q), s11, s12, s13, s14, s15, s16, s17] M = exs C W r [some (.val sc), some (.val .draw), s2, some (.val (.int q)), some (.val L), some (.val Lw), s6, s7, s8, s9, some (.val Q), s11, s12, s13, s14, s15, s16, s17] M := by
  simp [T2, S5, S6, S7, exs, ex, ev, evs, evC, evI, bd, bdL, bdB, exAsg, exAsgF, exPar, exApp, exPut, exDraw, exRetD, bindT, bindTs, behind, behindL, view, view1, scalarD, ret1, retB, fin, setAll, floop, same_self, OwnC.d, cmpD, truthD, bltD, idxD, keyD, freshE, h1, h2, h3, h4, h5, h6, h7, h8, h9, h10, h11]
theorem g3 {m m1 : Draw} {q : Int} {Q O B tB tQ tO lB lQ lO du : D} (h1 : C 39 [.draw, .int q] (some m) = some (O, some m1)) (h2 : C 8 [Q, O] (some m1) = some (B, some m1)) (h3 : C 18 [B] (some m1) = some (tB, some m1)) (h4 : C 18 [Q] (some m1) = some (tQ, some m1)) (h5 : C 18 [O] (some m1) = some (tO, some m1))
    (h6 : C 40 [.int q, tB] (some m1) = some (lB, some m1)) (h7 : C 40 [.int q, tQ] (some m1) = some (lQ, some m1)) (h8 : C 40 [.int q, tO] (some m1) = some (lO, some m1))
    (h9 : ev C eDue [some (.val sc), some (.val .draw), s2, some (.val (.int q)), s4, s5, some (.val O), some (.val B), s8, s9, some (.val Q), s11, some (.val lB), some (.val lQ), some (.val lO), s15, s16, s17] (some m1) = some (du, some m1)) :
    exs C W (T3 r) [some (.val sc), some (.val .draw), s2, some (.val (.int q)), s4, s5, s6, s7, s8, s9, some (.val Q), s11, s12, s13, s14, s15, s16, s17] (some m) = exs C W r [some (.val sc), some (.val .draw), s2, some (.val (.int q)), s4, s5, some (.val O), some (.val B), some (.val du), s9, some (.val Q), s11, some (.val lB), some (.val lQ), some (.val lO), s15, s16, s17] (some m1) := by
  simp [T3, S8, S9, S10, S11, exs, ex, ev, evs, evC, evI, bd, bdL, bdB, exAsg, exAsgF, exPar, exApp, exPut, exDraw, exRetD, bindT, bindTs, behind, behindL, view, view1, scalarD, ret1, retB, fin, setAll, floop, same_self, OwnC.d, cmpD, truthD, bltD, idxD, keyD, freshE, h1, h2, h3, h4, h5, h6, h7, h8, h9]
theorem g4 {M : Mst} {q : Int} {Q O B lB tQ tO tB bQ bO bB : D} (h1 : eqD lB lB = some true) (h2 : C 29 [.int q, B] M = some (bB, M)) (h3 : C 29 [.int q, Q] M = some (bQ, M)) (h4 : C 29 [.int q, O] M = some (bO, M)) (h5 : C 30 [.int q, bQ, bO] M = some (bB, M)) (h6 : eqD bB bB = some true)
    (h7 : C 18 [B] M = some (tB, M)) (h8 : C 18 [Q] M = some (tQ, M)) (h9 : C 18 [O] M = some (tO, M)) (h10 : C 19 [tO, tQ] M = some (tB, M)) (h11 : eqD tB tB = some true) :
    exs C W (T4 r) [some (.val sc), some (.val .draw), s2, some (.val (.int q)), s4, s5, some (.val O), some (.val B), some (.val lB), s9, some (.val Q), s11, some (.val lB), s13, s14, s15, s16, s17] M = exs C W r [some (.val sc), some (.val .draw), s2, some (.val (.int q)), s4, s5, some (.val O), some (.val B), some (.val lB), s9, some (.val Q), s11, some (.val lB), s13, s14, s15, s16, s17] M := by
  simp [T4, S12, exs, ex, ev, evs, evC, evI, bd, bdL, bdB, exAsg, exAsgF, exPar, exApp, exPut, exDraw, exRetD, bindT, bindTs, behind, behindL, view, view1, scalarD, ret1, retB, fin, setAll, floop, same_self, OwnC.d, cmpD, truthD, bltD, idxD, keyD, freshE, h1, h2, h3, h4, h5, h6, h7, h8, h9, h10, h11]
theorem g5 {m m1 : Draw} {q t : Int} {tM : D} (h1 : C 34 [.draw, .int (q - 1)] (some m) = some (.int t, some m1)) (h2 : C 18 [q4 (2 * (1 + t)) 0 0 0] (some m1) = some (tM, some m1)) (h3 : C 40 [.int q, tM] (some m1) = some (q9 1 0 0 0 1 0 0 0 1, some m1)) (h4 : C 29 [.int q, q4 (2 * (1 + t)) 0 0 0] (some m1) = some (q4 (1 + t) 0 0 (1 + t), some m1)) :
    exs C W T5 [some (.val sc), some (.val .draw), s2, some (.val (.int q)), s4, s5, s6, s7, s8, s9, s10, s11, s12, s13, s14, s15, s16, s17] (some m) = some (.nx [some (.val sc), some (.val .draw), s2, some (.val (.int q)), s4, s5, s6, s7, s8, some (.val (.int (1 + t))), s10, s11, s12, s13, s14, s15, s16, s17], some m1) := by
  have m2 : ∀ x : Int, binD .mul (.int 2) (.int x) = some (.int (2 * x)) := fun x => bin_mul (mulOk_l (by decide))
  have e1 := eq_q9s 1 0 0 0 1 0 0 0 1
  have e2 := eq_q4s (1 + t) 0 0 (1 + t)
  simp [T5, S13, S14, exs, ex, ev, evs, evC, evI, bd, bdL, bdB, exAsg, exAsgF, exPar, exApp, exPut, exDraw, exRetD, bindT, bindTs, behind, behindL, view, view1, scalarD, ret1, retB, fin, setAll, floop, same_self, OwnC.d, cmpD, truthD, bltD, idxD, keyD, freshE, h1, h2, h3, h4, m2, bin_add, bin_sub, e1, e2]
theorem f_due {M : Mst} {q u1 u2 u3 u4 u5 u6 u7 u8 u9 v1 v2 v3 v4 v5 v6 v7 v8 v9 : Int} (hq : 0 < q) (hu1 : Bd 6 u1) (hu2 : Bd 6 u2) (hu3 : Bd 6 u3) (hu4 : Bd 6 u4) (hu5 : Bd 6 u5) (hu6 : Bd 6 u6) (hu7 : Bd 6 u7) (hu8 : Bd 6 u8) (hu9 : Bd 6 u9) (hv1 : Bd 6 v1) (hv2 : Bd 6 v2) (hv3 : Bd 6 v3) (hv4 : Bd 6 v4) (hv5 : Bd 6 v5) (hv6 : Bd 6 v6) (hv7 : Bd 6 v7) (hv8 : Bd 6 v8) (hv9 : Bd 6 v9) :
    ev C eDue [some (.val sc), some (.val .draw), s2, some (.val (.int q)), s4, s5, s6, s7, s8, s9, s10, s11, s12, some (.val (q9 u1 u2 u3 u4 u5 u6 u7 u8 u9)), some (.val (q9 v1 v2 v3 v4 v5 v6 v7 v8 v9)), s15, s16, s17] M = some (q9 ((u1 * v1 + (u2 * v4 + u3 * v7)) % q) ((u1 * v2 + (u2 * v5 + u3 * v8)) % q) ((u1 * v3 + (u2 * v6 + u3 * v9)) % q) ((u4 * v1 + (u5 * v4 + u6 * v7)) % q) ((u4 * v2 + (u5 * v5 + u6 * v8)) % q) ((u4 * v3 + (u5 * v6 + u6 * v9)) % q) ((u7 * v1 + (u8 * v4 + u9 * v7)) % q) ((u7 * v2 + (u8 * v5 + u9 * v8)) % q) ((u7 * v3 + (u8 * v6 + u9 * v9)) % q), M) := by
  have m : ∀ {x y : Int}, Bd 6 x → Bd 6 y → binD .mul (.int x) (.int y) = some (.int (x * y)) := fun h k => bin_mul (mulOk_bd h k (by decide) (by decide))
  have mo : ∀ x, binD .mod (.int x) (.int q) = some (.int (x % q)) := fun x => bin_mod hq
  simp [eDue, exs, ex, ev, evs, evC, evI, bd, bdL, bdB, exAsg, exAsgF, exPar, exApp, exPut, exDraw, exRetD, bindT, bindTs, behind, behindL, view, view1, scalarD, ret1, retB, fin, setAll, floop, same_self, OwnC.d, cmpD, truthD, bltD, idxD, keyD, freshE, cloop, wipeR, rngL, List.range, List.range.loop, at0, at1, at2, m, mo, allInt, hu1, hu2, hu3, hu4, hu5, hu6, hu7, hu8, hu9, hv1, hv2, hv3, hv4, hv5, hv6, hv7, hv8, hv9]
end
end L82

set_option Elab.async false
set_option linter.all false
set_option maxRecDepth 100000
set_option maxHeartbeats 8000000
namespace L82
open PySem L2 EV
variable {k W : Nat}
theorem nN_four {a b c d : Int} (ab : (b - a) % 2 = 0) (ac : (c - a) % 2 = 0) (ad : (d - a) % 2 = 0) : nN a b c d = 4 * (nN a b c d / 4) := by
  obtain ⟨b', rfl⟩ := even_ex ab
  obtain ⟨c', rfl⟩ := even_ex ac
  obtain ⟨d', rfl⟩ := even_ex ad
  have e : nN a (a + 2 * b') (a + 2 * c') (a + 2 * d') = 4 * (a * a + a * b' + a * c' + a * d' + b' * b' + c' * c' + d' * d') := by unfold nN; grind
  omega
section
variable {q e f : Int}
theorem Pr.two (P : Pr q e f) : (2 : Int) % q ≠ 0 := by
  rw [Int.emod_eq_of_lt (by decide) (by have := P.lo; omega)]; decide
theorem Pr.four (P : Pr q e f) {x : Int} (h : x % q ≠ 0) : 4 * x % q ≠ 0 := by
  have e1 : (4 : Int) * x = 2 * (2 * x) := by omega
  rw [e1]
  exact P.prime _ _ P.two (P.prime _ _ P.two h)
theorem Pr.one (P : Pr q e f) : (1 : Int) % q = 1 := Int.emod_eq_of_lt (by decide) (by have := P.lo; omega)
/-- of a drawn quad: its net is no multiple of q -/
theorem net_ok (P : Pr q e f) {a b c d : Int} (h : Qb a b c d) (z : nN a b c d / 4 % q ≠ 0) : nN a b c d % q ≠ 0 := by
  rw [nN_four h.ab h.ac h.ad]
  exact P.four z
theorem net_pos {a b c d : Int} (z : nN a b c d % q ≠ 0) : 0 < nN a b c d := by
  have h1 := nN_nn a b c d
  have h2 : nN a b c d ≠ 0 := fun e => z (by rw [e, Int.zero_emod])
  omega
theorem inv_of (P : Pr q e f) {n : Int} (z : n % q ≠ 0) : ∃ x, x * n % q = 1 := by
  obtain ⟨y, _, _, h⟩ := P.inv n z
  exact ⟨y, h⟩
theorem cg_one (P : Pr q e f) {x n : Int} (h : x * n % q = 1) : Cg q (x * n) 1 := Cg.of_emod (by rw [h, P.one])
theorem one_cg (P : Pr q e f) {x : Int} (h : Cg q x 1) : x % q = 1 := by rw [h.emod, P.one]
/-- what goes like a quad over q has a turn with like rows -/
theorem like (P : Pr q e f) {a b c d x a' b' c' d' : Int} (hx : x * nN a b c d % q = 1) (t : Qt a' b' c' d') (ha : Cg q a' a) (hb : Cg q b' b) (hc : Cg q c' c) (hd : Cg q d' d) {M : Mst} :
    callK (fnsOf ds) W (k + 5) 18 [q4 a' b' c' d'] M = some (tq a' b' c' d', M) ∧ callK (fnsOf ds) W (k + 5) 40 [.int q, tq a' b' c' d'] M = some (lD q x (r1 a b c d) (r2 a b c d) (r3 a b c d) (r4 a b c d) (r5 a b c d) (r6 a b c d) (r7 a b c d) (r8 a b c d) (r9 a b c d), M) := by
  have h1 : x * nN a' b' c' d' % q = 1 := one_cg P (((Cg.refl x).mul (cg_nN ha hb hc hd)).trans (cg_one P hx))
  have h0 : 0 < nN a' b' c' d' := net_pos (q := q) fun z => by
    rw [Int.mul_emod, z] at h1
    simp at h1
  refine ⟨f_turn_of t h0, ?_⟩
  rw [f_left_tq (k := k + 4) P t h0 h1, lD_cg x ha hb hc hd]
theorem lD_self (x a b c d e f g' h i : Int) : eqD (lD q x a b c d e f g' h i) (lD q x a b c d e f g' h i) = some true := eq_q9s _ _ _ _ _ _ _ _ _
theorem tb_self (a b c d : Int) : eqD (tbD q e f a b c d) (tbD q e f a b c d) = some true := eq_q4s _ _ _ _
theorem tq_self (a b c d : Int) : eqD (tq a b c d) (tq a b c d) = some true := eq_ts _ _ _ _ _ _ _ _ _ _
theorem Qb.t {a b c d : Int} (q : Qb a b c d) : Qt a b c d := q.s.t
theorem par_add {a b a' b' n : Int} (h : (b - a) % 2 = 0) (h' : (b' - a') % 2 = 0) : ((b + n * b') - (a + n * a')) % 2 = 0 := by
  obtain ⟨z, rfl⟩ := even_ex h
  obtain ⟨z', rfl⟩ := even_ex h'
  exact even_of (z + n * z') (by grind)
theorem bd6 (P : Pr q e f) (x : Int) : Bd 6 (x % q) := by
  have h1 := Int.emod_nonneg x (show q ≠ 0 by have := P.lo; omega)
  have h2 := Int.emod_lt_of_pos x (show 0 < q by have := P.lo; omega)
  have := P.hi
  unfold Bd; omega
/-- the last question of a turn: a whole multiple of the one turns nothing -/
theorem whole (P : Pr q e f) {t : Int} (t0 : 0 ≤ t) (t1 : t < q - 1) {M : Mst} : ∃ tM, callK (fnsOf ds) W (k + 5) 18 [q4 (2 * (1 + t)) 0 0 0] M = some (tM, M) ∧ callK (fnsOf ds) W (k + 5) 40 [.int q, tM] M = some (q9 1 0 0 0 1 0 0 0 1, M) ∧
    callK (fnsOf ds) W (k + 5) 29 [.int q, q4 (2 * (1 + t)) 0 0 0] M = some (q4 (1 + t) 0 0 (1 + t), M) := by
  have hi := P.hi
  have lo := P.lo
  have m1 : (1 + t) % q = 1 + t := Int.emod_eq_of_lt (by omega) (by omega)
  have hm : (1 + t) % q ≠ 0 := by omega
  have z0 : Bd 21 0 := by unfold Bd; decide
  have hQ : Qt (2 * (1 + t)) 0 0 0 := ⟨by unfold Bd; omega, z0, z0, z0, by omega, by omega, by omega⟩
  have en : nN (2 * (1 + t)) 0 0 0 = 4 * ((1 + t) * (1 + t)) := by unfold nN; grind
  have hn : nN (2 * (1 + t)) 0 0 0 % q ≠ 0 := by rw [en]; exact P.four (P.prime _ _ hm hm)
  obtain ⟨x, hx⟩ := inv_of P hn
  have h0 := net_pos hn
  refine ⟨_, f_turn_of hQ h0, ?_, ?_⟩
  · rw [f_left_tq (k := k + 4) P hQ h0 hx]
    have e1 : r1 (2 * (1 + t)) 0 0 0 = nN (2 * (1 + t)) 0 0 0 := by unfold r1 nN; omega
    have e5 : r5 (2 * (1 + t)) 0 0 0 = nN (2 * (1 + t)) 0 0 0 := by unfold r5 nN; omega
    have e9 : r9 (2 * (1 + t)) 0 0 0 = nN (2 * (1 + t)) 0 0 0 := by unfold r9 nN; omega
    have e2 : r2 (2 * (1 + t)) 0 0 0 = 0 := by unfold r2; grind
    have e3 : r3 (2 * (1 + t)) 0 0 0 = 0 := by unfold r3; grind
    have e4 : r4 (2 * (1 + t)) 0 0 0 = 0 := by unfold r4; grind
    have e6 : r6 (2 * (1 + t)) 0 0 0 = 0 := by unfold r6; grind
    have e7 : r7 (2 * (1 + t)) 0 0 0 = 0 := by unfold r7; grind
    have e8 : r8 (2 * (1 + t)) 0 0 0 = 0 := by unfold r8; grind
    unfold lD
    rw [e1, e2, e3, e4, e5, e6, e7, e8, e9, hx, Int.mul_zero, Int.zero_emod]
  · rw [f_table_of P hQ]
    have h0 : 0 < q := by omega
    have l1' : l1 e f (2 * (1 + t)) 0 0 0 = 2 * (1 + t) := by unfold l1; grind
    have l2' : l2 e f (2 * (1 + t)) 0 0 0 = 0 := by unfold l2; grind
    have l3' : l3 e f (2 * (1 + t)) 0 0 0 = 0 := by unfold l3; grind
    have l4' : l4 e f (2 * (1 + t)) 0 0 0 = 2 * (1 + t) := by unfold l4; grind
    have a1 : hb q (2 * (1 + t)) = 1 + t := by rw [← hb_uniq h0 P.odd (Cg.refl (2 * (1 + t))), m1]
    have a2 : hb q 0 = 0 := by rw [← hb_uniq (y := 0) (x := 0) h0 P.odd ⟨0, by omega⟩]; exact Int.zero_emod q
    unfold tbD
    rw [l1', l2', l3', l4', a1, a2]
theorem due_one (P : Pr q e f) {x x' u1 u2 u3 v1 v2 v3 w : Int} (h : u1 * v1 + (u2 * v2 + u3 * v3) = 4 * w) : ((x * u1 % q) * (x' * v1 % q) + ((x * u2 % q) * (x' * v2 % q) + (x * u3 % q) * (x' * v3 % q))) % q = 4 * (x * x') * w % q := by
  have c := ((Cg.mod (q := q) (x * u1)).mul (Cg.mod (q := q) (x' * v1))).add (((Cg.mod (q := q) (x * u2)).mul (Cg.mod (q := q) (x' * v2))).add ((Cg.mod (q := q) (x * u3)).mul (Cg.mod (q := q) (x' * v3))))
  rw [c.emod]
  congr 1
  grind

/-- one turn of the law's loop -/
theorem turn_ok (sc : D) (m : Draw) (s2 s3 s4 s5 s6 s7 s8 s9 s10 s11 s12 s13 s14 s15 s16 s17 : Option Slot) : ∃ t2 t3 t4 t5 t6 t7 t8 t9 t10 t11 t12 t13 t14 t15 t16 t17 m', exs (callK (fnsOf ds) W (k + 5)) W bT [some (.val sc), some (.val .draw), s2, s3, s4, s5, s6, s7, s8, s9, s10, s11, s12, s13, s14, s15, s16, s17] (some m) = some (.nx [some (.val sc), some (.val .draw), t2, t3, t4, t5, t6, t7, t8, t9, t10, t11, t12, t13, t14, t15, t16, t17], some m') ∨
    exs (callK (fnsOf ds) W (k + 5)) W bT [some (.val sc), some (.val .draw), s2, s3, s4, s5, s6, s7, s8, s9, s10, s11, s12, s13, s14, s15, s16, s17] (some m) = some (.cnt [some (.val sc), some (.val .draw), t2, t3, t4, t5, t6, t7, t8, t9, t10, t11, t12, t13, t14, t15, t16, t17], some m') := by
  obtain ⟨q, e, f, m1, h1, P⟩ := f_pick (k := k + 2) (W := W) m
  have lo := P.lo
  have hi := P.hi
  obtain ⟨a, b, c, d, m2, h2, qb, hz⟩ := f_net (k := k) (W := W) P.lo m1
  obtain ⟨g1', g2', g3', g4', m3, h3, gb⟩ := f_quad (k := k + 2) (W := W) m2
  obtain ⟨t, m4, h4, t0, t1⟩ := f_take (k := k + 3) (W := W) m3 (n := 4) (by decide) (by decide)
  have bn : Bd 8 (q * (1 + t)) := Bd.mul (n := 5) (m := 3) (by unfold Bd; omega) (by unfold Bd; omega)
  have h5 := f_plus (k := k) (W := W) (M := some m4) qb.s gb.s (bn.mono (by decide))
  have G1 := g1 (W := W) (r := T2 (T3 (T4 T5))) (sc := sc) (s2 := s2) (s3 := s3) (s4 := s4) (s5 := s5) (s6 := s6) (s7 := s7) (s8 := s8) (s9 := s9) (s10 := s10) (s11 := s11) (s12 := s12) (s13 := s13) (s14 := s14) (s15 := s15) (s16 := s16) (s17 := s17) h1 h2 h3 h4 (by omega) h5
  unfold bT
  rw [G1]
  split
  · exact ⟨_, _, _, _, _, _, _, _, _, _, _, _, _, _, _, _, _, .inr rfl⟩
  · -- the late quad is like the first
    have nz := net_ok P qb hz
    obtain ⟨x, hx⟩ := inv_of P nz
    have lt : ∀ {a a' : Int}, Bd 4 a → Bd 4 a' → Bd 21 (a + q * (1 + t) * a') := fun h k => ((h.mono (m := 12) (by decide)).add' (bn.mul k)).mono (by decide)
    have ct : ∀ a a' : Int, Cg q (a + q * (1 + t) * a') a := fun a a' => ⟨(1 + t) * a', by grind⟩
    have hL : Qt (a + q * (1 + t) * g1') (b + q * (1 + t) * g2') (c + q * (1 + t) * g3') (d + q * (1 + t) * g4') := ⟨lt qb.ha gb.ha, lt qb.hb gb.hb, lt qb.hc gb.hc, lt qb.hd gb.hd, par_add qb.ab gb.ab, par_add qb.ac gb.ac, par_add qb.ad gb.ad⟩
    obtain ⟨k1, k2⟩ := like (k := k) (W := W) (M := some m4) P hx hL (ct _ _) (ct _ _) (ct _ _) (ct _ _)
    obtain ⟨k3, k4⟩ := like (k := k) (W := W) (M := some m4) P hx qb.t (Cg.refl _) (Cg.refl _) (Cg.refl _) (Cg.refl _)
    have k5 := f_table_of (k := k) (W := W) (M := some m4) P hL
    rw [tb_cg (ct a g1') (ct b g2') (ct c g3') (ct d g4')] at k5
    have k6 := f_table_of (k := k) (W := W) (M := some m4) P qb.t
    obtain ⟨w1, w2, w3, w4, k7, wt, c1, c2, c3, c4⟩ := f_quad_of (k := k) (W := W) (M := some m4) P a b c d
    obtain ⟨k8, k9⟩ := like (k := k) (W := W) (M := some m4) P hx wt c1 c2 c3 c4
    rw [g2 k5 k6 (tb_self _ _ _ _) k1 k3 k2 k4 (lD_self _ _ _ _ _ _ _ _ _ _) k7 k8 k9]
    -- another, and their product
    obtain ⟨a', b', c', d', m5, j1, ob, oz⟩ := f_net (k := k) (W := W) P.lo m4
    have noz := net_ok P ob oz
    obtain ⟨x', hx'⟩ := inv_of P noz
    obtain ⟨y1, y2, y3, y4, p⟩ := pq_ex qb.ab qb.ac qb.ad ob.ab ob.ac ob.ad
    have j2 := f_product (k := k) (W := W) (M := some m5) qb.s ob.s
    have i1 : (a * a' - b * b' - c * c' - d * d') / 2 = y1 := by have := p.h1; unfold p1 at this; omega
    have i2 : (a * b' + b * a' + c * d' - d * c') / 2 = y2 := by have := p.h2; unfold p2 at this; omega
    have i3 : (a * c' - b * d' + c * a' + d * b') / 2 = y3 := by have := p.h3; unfold p3 at this; omega
    have i4 : (a * d' + b * c' - c * b' + d * a') / 2 = y4 := by have := p.h4; unfold p4 at this; omega
    rw [i1, i2, i3, i4] at j2
    have bb : ∀ {y p : Int}, Bd 20 p → p = 2 * y → Bd 21 y := fun h e => by subst e; unfold Bd at *; omega
    have mm : ∀ {x y : Int}, Bd 4 x → Bd 4 y → Bd 8 (x * y) := fun h k => h.mul k
    have u8 : ∀ {n : Nat} {x : Int}, Bd n x → Bd (n + 1) x := fun h => h.mono (by omega)
    have hB : Qt y1 y2 y3 y4 := ⟨
      bb (((((mm qb.ha ob.ha).sub' (mm qb.hb ob.hb)).sub' (u8 (mm qb.hc ob.hc))).sub' (u8 (u8 (mm qb.hd ob.hd)))).mono (by decide)) p.h1,
      bb (((((mm qb.ha ob.hb).add' (mm qb.hb ob.ha)).add' (u8 (mm qb.hc ob.hd))).sub' (u8 (u8 (mm qb.hd ob.hc)))).mono (by decide)) p.h2,
      bb (((((mm qb.ha ob.hc).sub' (mm qb.hb ob.hd)).add' (u8 (mm qb.hc ob.ha))).add' (u8 (u8 (mm qb.hd ob.hb)))).mono (by decide)) p.h3,
      bb (((((mm qb.ha ob.hd).add' (mm qb.hb ob.hc)).sub' (u8 (mm qb.hc ob.hb))).add' (u8 (u8 (mm qb.hd ob.ha)))).mono (by decide)) p.h4, p.ab, p.ac, p.ad⟩
    have hxB : 4 * (x * x') * nN y1 y2 y3 y4 % q = 1 := by
      have e1 : 4 * (x * x') * nN y1 y2 y3 y4 = (x * nN a b c d) * (x' * nN a' b' c' d') := by have := p.nn; grind
      rw [e1]
      exact one_cg P ((cg_one P hx).mul (cg_one P hx') |>.trans (by rw [Int.one_mul]; exact Cg.refl _))
    have B0 : 0 < nN y1 y2 y3 y4 := net_pos (q := q) fun z => by
      rw [Int.mul_emod, z] at hxB
      simp at hxB
    have j3 := f_turn_of (k := k) (W := W) (M := some m5) hB B0
    have j4 := f_turn_of (k := k) (W := W) (M := some m5) qb.t (net_pos nz)
    have j5 := f_turn_of (k := k) (W := W) (M := some m5) ob.t (net_pos noz)
    have j6 := f_left_tq (k := k + 4) (W := W) (M := some m5) P hB B0 hxB
    have j7 := f_left_tq (k := k + 4) (W := W) (M := some m5) P qb.t (net_pos nz) hx
    have j8 := f_left_tq (k := k + 4) (W := W) (M := some m5) P ob.t (net_pos noz) hx'
    have h0 : 0 < q := by omega
    have s := bd6 P
    have j9 : ∀ (s2 s4 s5 s6 s7 s8 s9 s10 s11 s12 s15 s16 s17 : Option Slot), ev (callK (fnsOf ds) W (k + 5)) eDue [some (.val sc), some (.val .draw), s2, some (.val (.int q)), s4, s5, s6, s7, s8, s9, s10, s11, s12, some (.val (lD q x (r1 a b c d) (r2 a b c d) (r3 a b c d) (r4 a b c d) (r5 a b c d) (r6 a b c d) (r7 a b c d) (r8 a b c d) (r9 a b c d))), some (.val (lD q x' (r1 a' b' c' d') (r2 a' b' c' d') (r3 a' b' c' d') (r4 a' b' c' d') (r5 a' b' c' d') (r6 a' b' c' d') (r7 a' b' c' d') (r8 a' b' c' d') (r9 a' b' c' d'))), s15, s16, s17] (some m5) =
        some (lD q (4 * (x * x')) (r1 y1 y2 y3 y4) (r2 y1 y2 y3 y4) (r3 y1 y2 y3 y4) (r4 y1 y2 y3 y4) (r5 y1 y2 y3 y4) (r6 y1 y2 y3 y4) (r7 y1 y2 y3 y4) (r8 y1 y2 y3 y4) (r9 y1 y2 y3 y4), some m5) := fun s2 s4 s5 s6 s7 s8 s9 s10 s11 s12 s15 s16 s17 => by
      have z := f_due (C := callK (fnsOf ds) W (k + 5)) (M := some m5) (sc := sc) (s2 := s2) (s4 := s4) (s5 := s5) (s6 := s6) (s7 := s7) (s8 := s8) (s9 := s9) (s10 := s10) (s11 := s11) (s12 := s12) (s15 := s15) (s16 := s16) (s17 := s17) h0 (s (x * r1 a b c d)) (s (x * r2 a b c d)) (s (x * r3 a b c d)) (s (x * r4 a b c d)) (s (x * r5 a b c d)) (s (x * r6 a b c d)) (s (x * r7 a b c d)) (s (x * r8 a b c d)) (s (x * r9 a b c d)) (s (x' * r1 a' b' c' d')) (s (x' * r2 a' b' c' d')) (s (x' * r3 a' b' c' d')) (s (x' * r4 a' b' c' d')) (s (x' * r5 a' b' c' d')) (s (x' * r6 a' b' c' d')) (s (x' * r7 a' b' c' d')) (s (x' * r8 a' b' c' d')) (s (x' * r9 a' b' c' d'))
      rw [due_one P p.rr1, due_one P p.rr2, due_one P p.rr3, due_one P p.rr4, due_one P p.rr5, due_one P p.rr6, due_one P p.rr7, due_one P p.rr8, due_one P p.rr9] at z
      exact z
    rw [g3 j1 j2 j3 j4 j5 j6 j7 j8 (j9 _ _ _ _ _ _ _ _ _ _ _ _ _)]
    have n1 : nN a b c d < 2 ^ 30 := by
      have := sq_lt qb.ha; have := sq_lt qb.hb; have := sq_lt qb.hc; have := sq_lt qb.hd
      unfold nN; omega
    have n2 : nN a' b' c' d' < 2 ^ 30 := by
      have := sq_lt ob.ha; have := sq_lt ob.hb; have := sq_lt ob.hc; have := sq_lt ob.hd
      unfold nN; omega
    have l5 := f_then (k := k + 1) (W := W) (M := some m5) qb.t ob.t (net_pos nz) (net_pos noz) n1 n2 p
    rw [g4 (lD_self _ _ _ _ _ _ _ _ _ _) (f_table_of P hB) (f_table_of P qb.t) (f_table_of P ob.t) (f_tables_then P p) (tb_self _ _ _ _) j3 j4 j5 l5 (tq_self _ _ _ _)]
    obtain ⟨t', m6, o1, o2, o3⟩ := f_take (k := k + 3) (W := W) m5 (n := q - 1) (by omega) (by omega)
    obtain ⟨tM, o4, o5, o6⟩ := whole (k := k) (W := W) (M := some m6) P o2 o3
    rw [g5 o1 o4 o5 o6]
    exact ⟨_, _, _, _, _, _, _, _, _, _, _, _, _, _, _, _, _, .inl rfl⟩
end
end L82

set_option Elab.async false
set_option linter.all false
set_option maxRecDepth 100000
set_option maxHeartbeats 8000000
namespace L82
open PySem L2 EV
variable {k W : Nat}
theorem loop_ok (sc : D) : ∀ (items : List D) (m : Draw) (s2 s3 s4 s5 s6 s7 s8 s9 s10 s11 s12 s13 s14 s15 s16 s17 : Option Slot), ∃ t2 t3 t4 t5 t6 t7 t8 t9 t10 t11 t12 t13 t14 t15 t16 t17 m',
    floop (fun ρ d M => match bindT (.name 2) d ρ with | some ρ' => exs (callK (fnsOf ds) W (k + 5)) W bT ρ' M | none => none) items [some (.val sc), some (.val .draw), s2, s3, s4, s5, s6, s7, s8, s9, s10, s11, s12, s13, s14, s15, s16, s17] (some m) = some (.nx [some (.val sc), some (.val .draw), t2, t3, t4, t5, t6, t7, t8, t9, t10, t11, t12, t13, t14, t15, t16, t17], some m')
  | [], m, s2, s3, s4, s5, s6, s7, s8, s9, s10, s11, s12, s13, s14, s15, s16, s17 => ⟨s2, s3, s4, s5, s6, s7, s8, s9, s10, s11, s12, s13, s14, s15, s16, s17, m, rfl⟩
  | i :: items, m, s2, s3, s4, s5, s6, s7, s8, s9, s10, s11, s12, s13, s14, s15, s16, s17 => by
    obtain ⟨u2, u3, u4, u5, u6, u7, u8, u9, u10, u11, u12, u13, u14, u15, u16, u17, m1, h⟩ := turn_ok (k := k) (W := W) sc m (some (.val i)) s3 s4 s5 s6 s7 s8 s9 s10 s11 s12 s13 s14 s15 s16 s17
    obtain ⟨t2, t3, t4, t5, t6, t7, t8, t9, t10, t11, t12, t13, t14, t15, t16, t17, m2, h2⟩ := loop_ok sc items m1 u2 u3 u4 u5 u6 u7 u8 u9 u10 u11 u12 u13 u14 u15 u16 u17
    refine ⟨t2, t3, t4, t5, t6, t7, t8, t9, t10, t11, t12, t13, t14, t15, t16, t17, m2, ?_⟩
    rw [← h2]
    rcases h with h | h
    · simp only [floop, bindT, List.set, h]
    · simp only [floop, bindT, List.set, h]
theorem f_law (ns : List Int) (hn : ns.length ≤ 1000) : ∃ M, callK (fnsOf ds) W (k + 6) 41 [.lst (ns.map .int)] none = some (.bl true, M) := by
  obtain ⟨l, cells, h1⟩ := f_begun (k := k + 4) (W := W) ns
  generalize hA : (if (6 : Int) < (ns.length : Int) then 6 else (ns.length : Int)) = A
  have a0 : 0 ≤ A ∧ A ≤ 6 := by rw [← hA]; split <;> omega
  obtain ⟨t2, t3, t4, t5, t6, t7, t8, t9, t10, t11, t12, t13, t14, t15, t16, t17, m', h2⟩ := loop_ok (k := k) (W := W) (.lst (ns.map .int)) (rngL 0 (3 + A).toNat) ⟨l, 0, cells, 0⟩ none none none none none none none none none none none none none none none none
  have hi : evI (callK (fnsOf ds) W (k + 5)) (.rng1 (.bin .add (.const (.int (3))) (.blt .min2 (.cons (.blt .len (.cons (.var 0) .nil)) (.cons (.const (.int (6))) .nil))))) [some (.val (.lst (ns.map .int))), some (.val .draw), none, none, none, none, none, none, none, none, none, none, none, none, none, none, none, none] (some ⟨l, 0, cells, 0⟩) = some (rngL 0 (3 + A).toNat, some ⟨l, 0, cells, 0⟩) := by
    have c1 : -1000000 ≤ 3 + A ∧ 3 + A ≤ 1000000 := by omega
    simp [exs, ex, ev, evs, evC, evI, bd, bdL, bdB, exAsg, exAsgF, exPar, exApp, exPut, exDraw, exRetD, bindT, bindTs, behind, behindL, view, view1, scalarD, ret1, retB, fin, setAll, floop, same_self, OwnC.d, cmpD, truthD, bltD, idxD, keyD, freshE, bin_add, hA, c1]
  refine ⟨some m', ?_⟩
  rw [callD (Df := D41) rfl rfl]
  simp only [bT_eq]
  simp only [bindT] at h2
  simp [exs, ex, ev, evs, bd, bdL, exAsg, behind, view, view1, bindT, fin, h1, hi, h2]
end L82

set_option Elab.async false
set_option maxRecDepth 100000
open PySem PySem.W PyProof.Rows
set_option maxRecDepth 100000 in
set_option maxHeartbeats 0 in
open_top head82 for PySem.Challenge.rw_foursteps_k82_across_turns_over_a_prime

open PySem PySem.W PyProof.Rows
set_option maxRecDepth 100000 in
set_option maxHeartbeats 0 in
theorem PySem.Challenge.cw_foursteps_k82_across_turns_over_a_prime_holds : PySem.Challenge.rw_foursteps_k82_across_turns_over_a_prime.Holds := by
  refine head82 ?_
  k_fill
  refine EV.walk_X (l := PySem.Challenge.rw_foursteps_k82_across_turns_over_a_prime) (n := 63) (k := 6) (x := "script") rfl (by decide) rfl ⟨rfl, by decide, by decide⟩ (fun w h Y => PySem.W.kIn_of Y) ?F
  case F =>
    intro w mg fa h KX G XX hmg
    have d0 : EV.DefD (head82.heap_39 w.params) mg L82.D0 := by
      refine' EV.mkD KX G ?a ?l ?c ?k (fun _ _ _ _ _ _ us hl => match us, hl with | [_], _ => rfl)
      (case a => k_is); (case l => k_is); (case c => k_is); (case k => k_is)
    have d1 : EV.DefD (head82.heap_39 w.params) mg L82.D1 := by
      refine' EV.mkD KX G ?a ?l ?c ?k (fun _ _ _ _ _ _ us hl => match us, hl with | [_], _ => rfl)
      (case a => k_is); (case l => k_is); (case c => k_is); (case k => k_is)
    have d2 : EV.DefD (head82.heap_39 w.params) mg L82.D2 := by
      refine' EV.mkD KX G ?a ?l ?c ?k (fun _ _ _ _ _ _ us hl => match us, hl with | [_], _ => rfl)
      (case a => k_is); (case l => k_is); (case c => k_is); (case k => k_is)
    have d3 : EV.DefD (head82.heap_39 w.params) mg L82.D3 := by
      refine' EV.mkD KX G ?a ?l ?c ?k (fun _ _ _ _ _ _ us hl => match us, hl with | [_], _ => rfl)
      (case a => k_is); (case l => k_is); (case c => k_is); (case k => k_is)
    have d4 : EV.DefD (head82.heap_39 w.params) mg L82.D4 := by
      refine' EV.mkD KX G ?a ?l ?c ?k (fun _ _ _ _ _ _ us hl => match us, hl with | [_, _], _ => rfl)
      (case a => k_is); (case l => k_is); (case c => k_is); (case k => k_is)
    have d5 : EV.DefD (head82.heap_39 w.params) mg L82.D5 := by
      refine' EV.mkD KX G ?a ?l ?c ?k (fun _ _ _ _ _ _ us hl => match us, hl with | [_], _ => rfl)
      (case a => k_is); (case l => k_is); (case c => k_is); (case k => k_is)
    have d6 : EV.DefD (head82.heap_39 w.params) mg L82.D6 := by
      refine' EV.mkD KX G ?a ?l ?c ?k (fun _ _ _ _ _ _ us hl => match us, hl with | [_, _], _ => rfl)
      (case a => k_is); (case l => k_is); (case c => k_is); (case k => k_is)
    have d7 : EV.DefD (head82.heap_39 w.params) mg L82.D7 := by
      refine' EV.mkD KX G ?a ?l ?c ?k (fun _ _ _ _ _ _ us hl => match us, hl with | [_, _, _], _ => rfl)
      (case a => k_is); (case l => k_is); (case c => k_is); (case k => k_is)
    have d8 : EV.DefD (head82.heap_39 w.params) mg L82.D8 := by
      refine' EV.mkD KX G ?a ?l ?c ?k (fun _ _ _ _ _ _ us hl => match us, hl with | [_, _], _ => rfl)
      (case a => k_is); (case l => k_is); (case c => k_is); (case k => k_is)
    have d9 : EV.DefD (head82.heap_39 w.params) mg L82.D9 := by
      refine' EV.mkD KX G ?a ?l ?c ?k (fun _ _ _ _ _ _ us hl => match us, hl with | [_, _, _], _ => rfl)
      (case a => k_is); (case l => k_is); (case c => k_is); (case k => k_is)
    have d10 : EV.DefD (head82.heap_39 w.params) mg L82.D10 := by
      refine' EV.mkD KX G ?a ?l ?c ?k (fun _ _ _ _ _ _ us hl => match us, hl with | [_], _ => rfl)
      (case a => k_is); (case l => k_is); (case c => k_is); (case k => k_is)
    have d11 : EV.DefD (head82.heap_39 w.params) mg L82.D11 := by
      refine' EV.mkD KX G ?a ?l ?c ?k (fun _ _ _ _ _ _ us hl => match us, hl with | [_, _], _ => rfl)
      (case a => k_is); (case l => k_is); (case c => k_is); (case k => k_is)
    have d12 : EV.DefD (head82.heap_39 w.params) mg L82.D12 := by
      refine' EV.mkD KX G ?a ?l ?c ?k (fun _ _ _ _ _ _ us hl => match us, hl with | [_, _], _ => rfl)
      (case a => k_is); (case l => k_is); (case c => k_is); (case k => k_is)
    have d13 : EV.DefD (head82.heap_39 w.params) mg L82.D13 := by
      refine' EV.mkD KX G ?a ?l ?c ?k (fun _ _ _ _ _ _ us hl => match us, hl with | [_], _ => rfl)
      (case a => k_is); (case l => k_is); (case c => k_is); (case k => k_is)
    have d14 : EV.DefD (head82.heap_39 w.params) mg L82.D14 := by
      refine' EV.mkD KX G ?a ?l ?c ?k (fun _ _ _ _ _ _ us hl => match us, hl with | [_], _ => rfl)
      (case a => k_is); (case l => k_is); (case c => k_is); (case k => k_is)
    have d15 : EV.DefD (head82.heap_39 w.params) mg L82.D15 := by
      refine' EV.mkD KX G ?a ?l ?c ?k (fun _ _ _ _ _ _ us hl => match us, hl with | [_], _ => rfl)
      (case a => k_is); (case l => k_is); (case c => k_is); (case k => k_is)
    have d16 : EV.DefD (head82.heap_39 w.params) mg L82.D16 := by
      refine' EV.mkD KX G ?a ?l ?c ?k (fun _ _ _ _ _ _ us hl => match us, hl with | [_], _ => rfl)
      (case a => k_is); (case l => k_is); (case c => k_is); (case k => k_is)
    have d17 : EV.DefD (head82.heap_39 w.params) mg L82.D17 := by
      refine' EV.mkD KX G ?a ?l ?c ?k (fun _ _ _ _ _ _ us hl => match us, hl with | [_, _], _ => rfl)
      (case a => k_is); (case l => k_is); (case c => k_is); (case k => k_is)
    have d18 : EV.DefD (head82.heap_39 w.params) mg L82.D18 := by
      refine' EV.mkD KX G ?a ?l ?c ?k (fun _ _ _ _ _ _ us hl => match us, hl with | [_], _ => rfl)
      (case a => k_is); (case l => k_is); (case c => k_is); (case k => k_is)
    have d19 : EV.DefD (head82.heap_39 w.params) mg L82.D19 := by
      refine' EV.mkD KX G ?a ?l ?c ?k (fun _ _ _ _ _ _ us hl => match us, hl with | [_, _], _ => rfl)
      (case a => k_is); (case l => k_is); (case c => k_is); (case k => k_is)
    have d20 : EV.DefD (head82.heap_39 w.params) mg L82.D20 := by
      refine' EV.mkD KX G ?a ?l ?c ?k (fun _ _ _ _ _ _ us hl => match us, hl with | [_], _ => rfl)
      (case a => k_is); (case l => k_is); (case c => k_is); (case k => k_is)
    have d21 : EV.DefD (head82.heap_39 w.params) mg L82.D21 := by
      refine' EV.mkD KX G ?a ?l ?c ?k (fun _ _ _ _ _ _ us hl => match us, hl with | [_], _ => rfl)
      (case a => k_is); (case l => k_is); (case c => k_is); (case k => k_is)
    have d22 : EV.DefD (head82.heap_39 w.params) mg L82.D22 := by
      refine' EV.mkD KX G ?a ?l ?c ?k (fun _ _ _ _ _ _ us hl => match us, hl with | [_], _ => rfl)
      (case a => k_is); (case l => k_is); (case c => k_is); (case k => k_is)
    have d23 : EV.DefD (head82.heap_39 w.params) mg L82.D23 := by
      refine' EV.mkD KX G ?a ?l ?c ?k (fun _ _ _ _ _ _ us hl => match us, hl with | [_, _], _ => rfl)
      (case a => k_is); (case l => k_is); (case c => k_is); (case k => k_is)
    have d24 : EV.DefD (head82.heap_39 w.params) mg L82.D24 := by
      refine' EV.mkD KX G ?a ?l ?c ?k (fun _ _ _ _ _ _ us hl => match us, hl with | [_], _ => rfl)
      (case a => k_is); (case l => k_is); (case c => k_is); (case k => k_is)
    have d25 : EV.DefD (head82.heap_39 w.params) mg L82.D25 := by
      refine' EV.mkD KX G ?a ?l ?c ?k (fun _ _ _ _ _ _ us hl => match us, hl with | [_, _], _ => rfl)
      (case a => k_is); (case l => k_is); (case c => k_is); (case k => k_is)
    have d26 : EV.DefD (head82.heap_39 w.params) mg L82.D26 := by
      refine' EV.mkD KX G ?a ?l ?c ?k (fun _ _ _ _ _ _ us hl => match us, hl with | [_, _], _ => rfl)
      (case a => k_is); (case l => k_is); (case c => k_is); (case k => k_is)
    have d27 : EV.DefD (head82.heap_39 w.params) mg L82.D27 := by
      refine' EV.mkD KX G ?a ?l ?c ?k (fun _ _ _ _ _ _ us hl => match us, hl with | [_, _, _], _ => rfl)
      (case a => k_is); (case l => k_is); (case c => k_is); (case k => k_is)
    have d28 : EV.DefD (head82.heap_39 w.params) mg L82.D28 := by
      refine' EV.mkD KX G ?a ?l ?c ?k (fun _ _ _ _ _ _ us hl => match us, hl with | [_, _], _ => rfl)
      (case a => k_is); (case l => k_is); (case c => k_is); (case k => k_is)
    have d29 : EV.DefD (head82.heap_39 w.params) mg L82.D29 := by
      refine' EV.mkD KX G ?a ?l ?c ?k (fun _ _ _ _ _ _ us hl => match us, hl with | [_, _], _ => rfl)
      (case a => k_is); (case l => k_is); (case c => k_is); (case k => k_is)
    have d30 : EV.DefD (head82.heap_39 w.params) mg L82.D30 := by
      refine' EV.mkD KX G ?a ?l ?c ?k (fun _ _ _ _ _ _ us hl => match us, hl with | [_, _, _], _ => rfl)
      (case a => k_is); (case l => k_is); (case c => k_is); (case k => k_is)
    have d31 : EV.DefD (head82.heap_39 w.params) mg L82.D31 := by
      refine' EV.mkD KX G ?a ?l ?c ?k (fun _ _ _ _ _ _ us hl => match us, hl with | [_, _], _ => rfl)
      (case a => k_is); (case l => k_is); (case c => k_is); (case k => k_is)
    have d32 : EV.DefD (head82.heap_39 w.params) mg L82.D32 := by
      refine' EV.mkD KX G ?a ?l ?c ?k (fun _ _ _ _ _ _ us hl => match us, hl with | [_], _ => rfl)
      (case a => k_is); (case l => k_is); (case c => k_is); (case k => k_is)
    have d33 : EV.DefD (head82.heap_39 w.params) mg L82.D33 := by
      refine' EV.mkD KX G ?a ?l ?c ?k (fun _ _ _ _ _ _ us hl => match us, hl with | [_], _ => rfl)
      (case a => k_is); (case l => k_is); (case c => k_is); (case k => k_is)
    have d34 : EV.DefD (head82.heap_39 w.params) mg L82.D34 := by
      refine' EV.mkD KX G ?a ?l ?c ?k (fun _ _ _ _ _ _ us hl => match us, hl with | [_, _], _ => rfl)
      (case a => k_is); (case l => k_is); (case c => k_is); (case k => k_is)
    have d35 : EV.DefD (head82.heap_39 w.params) mg L82.D35 := by
      refine' EV.mkD KX G ?a ?l ?c ?k (fun _ _ _ _ _ _ us hl => match us, hl with | [_, _], _ => rfl)
      (case a => k_is); (case l => k_is); (case c => k_is); (case k => k_is)
    have d36 : EV.DefD (head82.heap_39 w.params) mg L82.D36 := by
      refine' EV.mkD KX G ?a ?l ?c ?k (fun _ _ _ _ _ _ us hl => match us, hl with | [_], _ => rfl)
      (case a => k_is); (case l => k_is); (case c => k_is); (case k => k_is)
    have d37 : EV.DefD (head82.heap_39 w.params) mg L82.D37 := by
      refine' EV.mkD KX G ?a ?l ?c ?k (fun _ _ _ _ _ _ us hl => match us, hl with | [_], _ => rfl)
      (case a => k_is); (case l => k_is); (case c => k_is); (case k => k_is)
    have d38 : EV.DefD (head82.heap_39 w.params) mg L82.D38 := by
      refine' EV.mkD KX G ?a ?l ?c ?k (fun _ _ _ _ _ _ us hl => match us, hl with | [_], _ => rfl)
      (case a => k_is); (case l => k_is); (case c => k_is); (case k => k_is)
    have d39 : EV.DefD (head82.heap_39 w.params) mg L82.D39 := by
      refine' EV.mkD KX G ?a ?l ?c ?k (fun _ _ _ _ _ _ us hl => match us, hl with | [_, _], _ => rfl)
      (case a => k_is); (case l => k_is); (case c => k_is); (case k => k_is)
    have d40 : EV.DefD (head82.heap_39 w.params) mg L82.D40 := by
      refine' EV.mkD KX G ?a ?l ?c ?k (fun _ _ _ _ _ _ us hl => match us, hl with | [_, _], _ => rfl)
      (case a => k_is); (case l => k_is); (case c => k_is); (case k => k_is)
    have d41 : EV.DefD (head82.heap_39 w.params) mg L82.D41 := by
      refine' EV.mkD KX G ?a ?l ?c ?k (fun _ _ _ _ _ _ us hl => match us, hl with | [_], _ => rfl)
      (case a => k_is); (case l => k_is); (case c => k_is); (case k => k_is)
    have hF : ∀ D ∈ L82.ds, EV.DefD (head82.heap_39 w.params) mg D := by
      unfold L82.ds
      simp only [List.forall_mem_cons]
      exact ⟨d0, d1, d2, d3, d4, d5, d6, d7, d8, d9, d10, d11, d12, d13, d14, d15, d16, d17, d18, d19, d20, d21, d22, d23, d24, d25, d26, d27, d28, d29, d30, d31, d32, d33, d34, d35, d36, d37, d38, d39, d40, d41, fun _ h => nomatch h⟩
    have c_FIFTY_DIGITS := EV.cst_loose (K := head82.heap_39 w.params) (x := "FIFTY_DIGITS") (i := 100000000000000000000000000000000000000000000000000) XX (by simp)
    have c_MOST_DIGITS : EV.CstOk (head82.heap_39 w.params) mg ("MOST_DIGITS", .int 200) := by
      refine' EV.cst_int KX G ?a
      (case a => k_is)
    have c_PARTS : EV.CstOk (head82.heap_39 w.params) mg ("PARTS", .int 4) := by
      refine' EV.cst_int KX G ?a
      (case a => k_is)
    have c_NOUGHT : EV.CstOk (head82.heap_39 w.params) mg ("NOUGHT", .tup (([0, 0, 0, 0] : List Int).map .int)) := by
      refine' EV.cst_tup KX G ?a ?l ?v ?hl
      (case a => k_is); (case l => k_is)
      (case hl => decide)
      (case v => exact .cons ⟨_, rfl⟩ (.cons ⟨_, rfl⟩ (.cons ⟨_, rfl⟩ (.cons ⟨_, rfl⟩ .nil))))
    have c_SPACE : EV.CstOk (head82.heap_39 w.params) mg ("SPACE", .tup (([0, 1, 2] : List Int).map .int)) := by
      refine' EV.cst_tup KX G ?a ?l ?v ?hl
      (case a => k_is); (case l => k_is)
      (case hl => decide)
      (case v => exact .cons ⟨_, rfl⟩ (.cons ⟨_, rfl⟩ (.cons ⟨_, rfl⟩ .nil)))
    have c_MOST_PRIME : EV.CstOk (head82.heap_39 w.params) mg ("MOST_PRIME", .int 1000) := by
      refine' EV.cst_int KX G ?a
      (case a => k_is)
    have hE : EV.EnvD (head82.heap_39 w.params) mg L82.T := by
      refine EV.envD_mk ?_ ?_ (fun _ => ?_)
      · unfold L82.T
        simp only [List.forall_mem_cons]
        exact ⟨c_FIFTY_DIGITS, c_MOST_DIGITS, c_PARTS, c_NOUGHT, c_SPACE, c_MOST_PRIME, fun _ h => nomatch h⟩
      · unfold EV.bltNames
        simp only [List.forall_mem_cons]
        refine ⟨?b0, ?b1, ?b2, ?b3, ?b4, ?b5, ?b6, ?b7, ?b8, ?b9, ?b10, ?b11, ?b12, ?b13, ?b14, fun _ h => nomatch h⟩
        (case b0 => refine PySem.W.mg_none_of KX G ?z; (case z => k_is))
        (case b1 => refine PySem.W.mg_none_of KX G ?z; (case z => k_is))
        (case b2 => refine PySem.W.mg_none_of KX G ?z; (case z => k_is))
        (case b3 => refine PySem.W.mg_none_of KX G ?z; (case z => k_is))
        (case b4 => refine PySem.W.mg_none_of KX G ?z; (case z => k_is))
        (case b5 => refine PySem.W.mg_none_of KX G ?z; (case z => k_is))
        (case b6 => refine PySem.W.mg_none_of KX G ?z; (case z => k_is))
        (case b7 => refine PySem.W.mg_none_of KX G ?z; (case z => k_is))
        (case b8 => refine PySem.W.mg_none_of KX G ?z; (case z => k_is))
        (case b9 => refine PySem.W.mg_none_of KX G ?z; (case z => k_is))
        (case b10 => refine PySem.W.mg_none_of KX G ?z; (case z => k_is))
        (case b11 => refine PySem.W.mg_none_of KX G ?z; (case z => k_is))
        (case b12 => refine PySem.W.mg_none_of KX G ?z; (case z => k_is))
        (case b13 => refine PySem.W.mg_none_of KX G ?z; (case z => k_is))
        (case b14 => refine PySem.W.mg_none_of KX G ?z; (case z => k_is))
      · refine PySem.W.mg_of KX G ?z; (case z => k_is)
    exact EV.law_end (k := 5) (i := 41) (W := 0) (D := L82.D41) (by decide) L82.hS hF hE L82.hT rfl hmg rfl (fun ns hl => L82.f_law (k := 0) ns (by omega))

