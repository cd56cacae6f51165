import PyProof.Rows.All
import Wide.All
import OpenK.AllK
import Wide.FinOn
import KE.KStateDown
import Lean
import HandS.Conv
import HandS.Deep
import HandS.Defaults
import HandS.EndBits
import HandS.ForMost
import HandS.HeadHook2
import HandS.IsInst
import HandS.List
import HandS.RaiseMore
import HandS.Star
import HandS.Style
import HandS.TupAny
import HandS.TupMul
import HandS.Zip
import KE.GoesEnum
import KE.GoesMore
import PyProof.ReprRoads
import HandS.Head0
import HandS.Head1
import HandS.Head2
import HandS.HeadEnd
import HandS.HeadHook1
import HandS.HeadHook3
import HandS.HeadHook4
import PySem.Challenge.RW_facenumbers_k54_lines_for_all_dimensions
set_option Elab.async false
set_option linter.all false
set_option maxRecDepth 100000
set_option maxHeartbeats 0
namespace PD
open PySem PySem.Spec PyProof.Rows L2

/-- plain data -/
inductive D where
  | non | bl (b : Bool) | int (i : Int) | str (x : Str) | tup (xs : List D) | lst (xs : List D) | fn (a : Addr) | dct | ty (n : String) | scr (ns : List Int)
  deriving Inhabited

mutual
/-- the value v stands for the data d in the heap G -/
inductive Rp (K : PySem.W.Frag) (G : Hp) : V → D → Prop
  | non : Rp K G .non .non
  | bl (b : Bool) : Rp K G (.bl b) (.bl b)
  | int (i : Int) : Rp K G (.int i) (.int i)
  | str (x : Str) : Rp K G (.str x) (.str x)
  | fn (a : Addr) : Rp K G (.ref a) (.fn a)
  | dct {a : Addr} {kvs : List (Key × V)} : G a = some (.dK kvs) → Rp K G (.ref a) .dct
  | tup {a : Addr} {vs : List V} {ds : List D} : SqT K G a vs → RpL K G vs ds → Rp K G (.ref a) (.tup ds)
  | lst {a : Addr} {vs : List V} {ds : List D} : Rd G a (.lst vs) → RpL K G vs ds → Rp K G (.ref a) (.lst ds)
  | ty (n : String) : Rp K G (.ty n) (.ty n)
  | scr {a : Addr} {ns : List Int} : SqL K G a (ns.map V.int) → Rp K G (.ref a) (.scr ns)
inductive RpL (K : PySem.W.Frag) (G : Hp) : List V → List D → Prop
  | nil : RpL K G [] []
  | cons {v : V} {vs : List V} {d : D} {ds : List D} : Rp K G v d → RpL K G vs ds → RpL K G (v :: vs) (d :: ds)
end

theorem same_rd {H H' : Hp} {a : Addr} {o : HO} (e : Same H H') (h : Rd H a o) : Rd H' a o := by
  rcases h with h | ⟨u, h⟩
  · exact .inl (e _ _ h)
  · exact .inr ⟨u, e _ _ h⟩
theorem same_sqL {K : PySem.W.Frag} {H H' : Hp} {a : Addr} {xs : List V} (e : Same H H') (h : SqL K H a xs) : SqL K H' a xs := h.elim (fun q => .inl (same_rd e q)) .inr
theorem same_sqT {K : PySem.W.Frag} {H H' : Hp} {a : Addr} {xs : List V} (e : Same H H') (h : SqT K H a xs) : SqT K H' a xs := by
  rcases h with (h | ⟨o, h⟩) | h
  · exact .inl (.inl (e _ _ h))
  · exact .inl (.inr ⟨o, e _ _ h⟩)
  · exact .inr h

mutual
theorem Rp.mono {K : PySem.W.Frag} {G G' : Hp} (e : Same G G') : ∀ {v : V} {d : D}, Rp K G v d → Rp K G' v d
  | _, _, .non => .non
  | _, _, .bl b => .bl b
  | _, _, .int i => .int i
  | _, _, .str x => .str x
  | _, _, .fn a => .fn a
  | _, _, .dct h => .dct (e _ _ h)
  | _, _, .tup h r => .tup (same_sqT e h) (RpL.mono e r)
  | _, _, .lst h r => .lst (same_rd e h) (RpL.mono e r)
  | _, _, .ty n => .ty n
  | _, _, .scr h => .scr (same_sqL e h)
theorem RpL.mono {K : PySem.W.Frag} {G G' : Hp} (e : Same G G') : ∀ {vs : List V} {ds : List D}, RpL K G vs ds → RpL K G' vs ds
  | _, _, .nil => .nil
  | _, _, .cons h r => .cons (Rp.mono e h) (RpL.mono e r)
end
section
variable {K : PySem.W.Frag} {G G' H H' : Hp} {v : V} {vs ws : List V} {d : D} {ds es : List D}
theorem RpL.len : ∀ {vs : List V} {ds : List D}, RpL K G vs ds → vs.length = ds.length
  | _, _, .nil => rfl
  | _, _, .cons _ r => by rw [List.length_cons, List.length_cons, RpL.len r]
theorem RpL.app : ∀ {vs : List V} {ds : List D}, RpL K G vs ds → RpL K G ws es → RpL K G (vs ++ ws) (ds ++ es)
  | _, _, .nil, s => s
  | _, _, .cons h r, s => .cons h (RpL.app r s)
theorem RpL.get : ∀ {vs : List V} {ds : List D} {i : Nat} {d : D}, RpL K G vs ds → ds[i]? = some d → ∃ v, vs[i]? = some v ∧ Rp K G v d
  | _, _, _, _, .nil, e => by simp at e
  | _, _, 0, d, .cons h _, e => by
    have e : _ = d := Option.some.inj e
    subst e
    exact ⟨_, rfl, h⟩
  | _, _, i + 1, d, .cons _ r, e => RpL.get (i := i) r e
theorem RpL.getV : ∀ {vs : List V} {ds : List D} {i : Nat} {v : V}, RpL K G vs ds → vs[i]? = some v → ∃ d, ds[i]? = some d ∧ Rp K G v d
  | _, _, _, _, .nil, e => by simp at e
  | _, _, 0, d, .cons h _, e => by
    have e : _ = d := Option.some.inj e
    subst e
    exact ⟨_, rfl, h⟩
  | _, _, i + 1, d, .cons _ r, e => RpL.getV (i := i) r e
theorem RpL.take : ∀ {vs : List V} {ds : List D} (n : Nat), RpL K G vs ds → RpL K G (vs.take n) (ds.take n)
  | _, _, 0, _ => .nil
  | _, _, _ + 1, .nil => .nil
  | _, _, n + 1, .cons h r => .cons h (RpL.take n r)
theorem RpL.drop : ∀ {vs : List V} {ds : List D} (n : Nat), RpL K G vs ds → RpL K G (vs.drop n) (ds.drop n)
  | _, _, 0, r => r
  | _, _, _ + 1, .nil => .nil
  | _, _, n + 1, .cons _ r => RpL.drop n r
theorem RpL.set (h : Rp K G v d) : ∀ {vs : List V} {ds : List D} (n : Nat), RpL K G vs ds → RpL K G (vs.set n v) (ds.set n d)
  | _, _, _, .nil => .nil
  | _, _, 0, .cons _ r => .cons h r
  | _, _, n + 1, .cons q r => .cons q (RpL.set h n r)
theorem RpL.erase : ∀ {vs : List V} {ds : List D} (n : Nat), RpL K G vs ds → RpL K G (vs.eraseIdx n) (ds.eraseIdx n)
  | _, _, _, .nil => .nil
  | _, _, 0, .cons _ r => r
  | _, _, n + 1, .cons q r => .cons q (RpL.erase n r)
theorem RpL.rev (r : RpL K G vs ds) : RpL K G vs.reverse ds.reverse := by
  have go : ∀ {vs : List V} {ds : List D}, RpL K G vs ds → ∀ {ws es}, RpL K G ws es → RpL K G (vs.reverse ++ ws) (ds.reverse ++ es) := by
    intro vs ds r
    induction vs generalizing ds with
    | nil => cases r with | nil => intro ws es s; exact s
    | cons v vs ih =>
      cases r with
      | cons h r =>
        intro ws es s
        rw [List.reverse_cons, List.reverse_cons, List.append_assoc, List.append_assoc]
        exact ih r (.cons h s)
  have := go r RpL.nil
  simpa using this
theorem RpL.rep (r : RpL K G vs ds) : ∀ k : Nat, RpL K G (List.replicate k vs).flatten (List.replicate k ds).flatten
  | 0 => .nil
  | k + 1 => by
    rw [List.replicate_succ, List.replicate_succ, List.flatten_cons, List.flatten_cons]
    exact r.app (RpL.rep r k)
theorem RpL.one (h : Rp K G v d) : RpL K G [v] [d] := .cons h .nil
/-! inversions -/
theorem Rp.tupI (h : Rp K G v (.tup ds)) : ∃ a vs, v = .ref a ∧ SqT K G a vs ∧ RpL K G vs ds := by
  cases h with | tup h r => exact ⟨_, _, rfl, h, r⟩
theorem Rp.lstI (h : Rp K G v (.lst ds)) : ∃ a vs, v = .ref a ∧ Rd G a (.lst vs) ∧ RpL K G vs ds := by
  cases h with | lst h r => exact ⟨_, _, rfl, h, r⟩
theorem Rp.intI {i : Int} (h : Rp K G v (.int i)) : v = .int i := by cases h; rfl
theorem Rp.blI {b : Bool} (h : Rp K G v (.bl b)) : v = .bl b := by cases h; rfl
theorem Rp.strI {x : Str} (h : Rp K G v (.str x)) : v = .str x := by cases h; rfl
theorem Rp.nonI (h : Rp K G v .non) : v = .non := by cases h; rfl
theorem RpL.nilI (h : RpL K G vs []) : vs = [] := by cases h; rfl
theorem RpL.consI (h : RpL K G vs (d :: ds)) : ∃ v ws, vs = v :: ws ∧ Rp K G v d ∧ RpL K G ws ds := by
  cases h with | cons h r => exact ⟨_, _, rfl, h, r⟩
theorem RpL.ints : ∀ {vs : List V} {ns : List Int}, RpL K G vs (ns.map D.int) → vs = ns.map V.int
  | _, [], h => h.nilI
  | _, n :: ns, h => by
    obtain ⟨v, ws, rfl, h1, h2⟩ := RpL.consI h
    rw [h1.intI, RpL.ints h2]; rfl
theorem RpL.bls : ∀ {vs : List V} {ns : List Bool}, RpL K G vs (ns.map D.bl) → vs = ns.map V.bl
  | _, [], h => h.nilI
  | _, n :: ns, h => by
    obtain ⟨v, ws, rfl, h1, h2⟩ := RpL.consI h
    rw [h1.blI, RpL.bls h2]; rfl
theorem RpL.strs : ∀ {vs : List V} {ns : List Str}, RpL K G vs (ns.map D.str) → vs = ns.map V.str
  | _, [], h => h.nilI
  | _, n :: ns, h => by
    obtain ⟨v, ws, rfl, h1, h2⟩ := RpL.consI h
    rw [h1.strI, RpL.strs h2]; rfl
theorem RpL.ofInts : ∀ (ns : List Int), RpL K G (ns.map V.int) (ns.map D.int)
  | [] => .nil
  | n :: ns => .cons (.int n) (RpL.ofInts ns)
end

/-! ### slots, frames -/
inductive Sl where
  | no | fz (d : D) | ow (ds : List D) | ur
abbrev Env := List Sl
/-- F: what must stand; L: what the frozen heap must not take in; U: the urn -/
structure Fm where
  F : Hp
  L : Addr → Prop
  U : Option Addr
def UrnOk (H : Hp) (u : Addr) : Prop := ∃ x y z : Int, H u = some (.lst [.int x, .int y, .int z])
structure Frm (M : Fm) (G H : Hp) : Prop where
  gs : Same G H
  fs : Same M.F H
  lk : ∀ b, M.L b → G b = none
  lf : ∀ b, M.L b → M.F b ≠ none
  ur : ∀ u, M.U = some u → M.F u = none ∧ G u = none ∧ UrnOk H u
def SlOk (K : PySem.W.Frag) (M : Fm) (G H : Hp) (x : Option (Option V)) : Sl → Prop
  | .no => True
  | .fz d => ∃ v, x = some (some v) ∧ Rp K G v d
  | .ow ds => ∃ a vs, x = some (some (.ref a)) ∧ G a = none ∧ M.F a = none ∧ M.U ≠ some a ∧ H a = some (.lst vs) ∧ RpL K G vs ds
  | .ur => ∃ u, M.U = some u ∧ x = some (some (.ref u))
structure Rel (K : PySem.W.Frag) (M : Fm) (G : Hp) (ρ : Env) (σ : L2.St) (H : Hp) : Prop where
  frm : Frm M G H
  len : ρ.length = σ.length
  sl : ∀ (i : Nat) (s : Sl), ρ[i]? = some s → SlOk K M G H σ[i]? s
  sep : ∀ (i j : Nat) (a : Addr) (ds es : List D), i ≠ j → ρ[i]? = some (.ow ds) → ρ[j]? = some (.ow es) → σ[i]? = some (some (.ref a)) → σ[j]? = some (some (.ref a)) → False

section
variable {K : PySem.W.Frag} {M : Fm} {G G' H H' : Hp} {ρ : Env} {σ : L2.St} {p : Addr} {o : HO}
theorem same_upd {H : Hp} {p : Addr} {o : HO} (h : H p = none) : Same H (upd H p o) := fun b x e => by
  rw [upd_ne (ne_of_none e h)]
  exact e
theorem upd2 (s : Same G H) (h : H p = none) : Same (upd G p o) (upd H p o) := fun b x e => by
  by_cases hb : b = p
  · subst hb; rw [upd_same] at e ⊢; exact e
  · rw [upd_ne hb] at e ⊢; exact s _ _ e
theorem to_upd (s : Same G H) (h : G p = none) : Same G (upd H p o) := fun b x e => by
  rw [upd_ne (ne_of_none e h)]; exact s _ _ e
/-- a new object, taken in -/
theorem Frm.new (f : Frm M G H) (hp : H p = none) : Frm M (upd G p o) (upd H p o) where
  gs := upd2 f.gs hp
  fs := to_upd f.fs (f.fs.free hp)
  lk := fun b hb => by
    have : b ≠ p := fun e => by subst e; exact f.lf b hb (f.fs.free hp)
    rw [upd_ne this]; exact f.lk b hb
  lf := f.lf
  ur := fun u hu => by
    obtain ⟨h1, h2, x, y, z, h3⟩ := f.ur u hu
    have : u ≠ p := ne_of_none h3 hp
    exact ⟨h1, by rw [upd_ne this]; exact h2, x, y, z, by rw [upd_ne this]; exact h3⟩
/-- a new object, not taken in -/
theorem Frm.out (f : Frm M G H) (hp : H p = none) : Frm M G (upd H p o) where
  gs := to_upd f.gs (f.gs.free hp)
  fs := to_upd f.fs (f.fs.free hp)
  lk := f.lk
  lf := f.lf
  ur := fun u hu => by
    obtain ⟨h1, h2, x, y, z, h3⟩ := f.ur u hu
    have : u ≠ p := ne_of_none h3 hp
    exact ⟨h1, h2, x, y, z, by rw [upd_ne this]; exact h3⟩
theorem SlOk.grow {x : Option (Option V)} {s : Sl} (h : SlOk K M G H x s) (g : Same G G') (k : ∀ a vs, G a = none → M.F a = none → M.U ≠ some a → H a = some (.lst vs) → G' a = none ∧ H' a = some (.lst vs)) : SlOk K M G' H' x s := by
  cases s with
  | no => trivial
  | fz d => obtain ⟨v, e, r⟩ := h; exact ⟨v, e, r.mono g⟩
  | ow ds =>
    obtain ⟨a, vs, e, h1, h2, h3, h4, r⟩ := h
    obtain ⟨k1, k2⟩ := k a vs h1 h2 h3 h4
    exact ⟨a, vs, e, k1, h2, h3, k2, r.mono g⟩
  | ur => exact h
theorem Rel.new (r : Rel K M G ρ σ H) (hp : H p = none) : Rel K M (upd G p o) ρ σ (upd H p o) where
  frm := r.frm.new hp
  len := r.len
  sl := fun i s e => (r.sl i s e).grow (same_upd (r.frm.gs.free hp)) fun a vs h1 _ _ h4 => by
    have : a ≠ p := ne_of_none h4 hp
    rw [upd_ne this, upd_ne this]; exact ⟨h1, h4⟩
  sep := r.sep
theorem Rel.out (r : Rel K M G ρ σ H) (hp : H p = none) : Rel K M G ρ σ (upd H p o) where
  frm := r.frm.out hp
  len := r.len
  sl := fun i s e => (r.sl i s e).grow (Same.refl G) fun a vs h1 _ _ h4 => by
    have : a ≠ p := ne_of_none h4 hp
    rw [upd_ne this]; exact ⟨h1, h4⟩
  sep := r.sep
/-- a slot is given frozen data -/
theorem Rel.setF {v : V} {d : D} (r : Rel K M G ρ σ H) (h : Rp K G v d) (i : Nat) : Rel K M G (ρ.set i (.fz d)) (σ.set i (some v)) H where
  frm := r.frm
  len := by rw [List.length_set, List.length_set]; exact r.len
  sl := fun j s e => by
    by_cases hj : i = j
    · subst hj
      have hi : i < ρ.length := by
        have := (List.getElem?_eq_some_iff.mp e).1
        simpa using this
      rw [List.getElem?_set_self hi] at e
      have e := Option.some.inj e
      subst e
      rw [List.getElem?_set_self (by rw [← r.len]; exact hi)]
      exact ⟨v, rfl, h⟩
    · rw [List.getElem?_set_ne hj] at e ⊢
      exact r.sl j s e
  sep := fun j k a ds es hjk e1 e2 e3 e4 => by
    by_cases hj : i = j
    · subst hj
      have hi : i < ρ.length := by simpa using (List.getElem?_eq_some_iff.mp e1).1
      rw [List.getElem?_set_self hi] at e1; cases e1
    · by_cases hk : i = k
      · subst hk
        have hi : i < ρ.length := by simpa using (List.getElem?_eq_some_iff.mp e2).1
        rw [List.getElem?_set_self hi] at e2; cases e2
      · rw [List.getElem?_set_ne hj] at e1 e3
        rw [List.getElem?_set_ne hk] at e2 e4
        exact r.sep j k a ds es hjk e1 e2 e3 e4
/-- a slot is forgotten -/
theorem Rel.drop (r : Rel K M G ρ σ H) (i : Nat) (w : Option V) : Rel K M G (ρ.set i .no) (σ.set i w) H where
  frm := r.frm
  len := by rw [List.length_set, List.length_set]; exact r.len
  sl := fun j s e => by
    by_cases hj : i = j
    · subst hj
      have hi : i < ρ.length := by simpa using (List.getElem?_eq_some_iff.mp e).1
      rw [List.getElem?_set_self hi] at e
      have e := Option.some.inj e
      subst e
      trivial
    · rw [List.getElem?_set_ne hj] at e ⊢
      exact r.sl j s e
  sep := fun j k a ds es hjk e1 e2 e3 e4 => by
    by_cases hj : i = j
    · subst hj
      have hi : i < ρ.length := by simpa using (List.getElem?_eq_some_iff.mp e1).1
      rw [List.getElem?_set_self hi] at e1; cases e1
    · by_cases hk : i = k
      · subst hk
        have hi : i < ρ.length := by simpa using (List.getElem?_eq_some_iff.mp e2).1
        rw [List.getElem?_set_self hi] at e2; cases e2
      · rw [List.getElem?_set_ne hj] at e1 e3
        rw [List.getElem?_set_ne hk] at e2 e4
        exact r.sep j k a ds es hjk e1 e2 e3 e4
/-- a new list for an owned slot -/
theorem Rel.own {vs : List V} {ds : List D} (r : Rel K M G ρ σ H) (hp : H p = none) (h : RpL K G vs ds) (i : Nat) : Rel K M G (ρ.set i (.ow ds)) (σ.set i (some (.ref p))) (upd H p (.lst vs)) where
  frm := r.frm.out hp
  len := by rw [List.length_set, List.length_set]; exact r.len
  sl := fun j s e => by
    by_cases hj : i = j
    · subst hj
      have hi : i < ρ.length := by simpa using (List.getElem?_eq_some_iff.mp e).1
      rw [List.getElem?_set_self hi] at e
      have e := Option.some.inj e
      subst e
      rw [List.getElem?_set_self (by rw [← r.len]; exact hi)]
      refine ⟨p, vs, rfl, r.frm.gs.free hp, r.frm.fs.free hp, fun hu => ?_, upd_same, h⟩
      obtain ⟨_, _, x, y, z, q⟩ := r.frm.ur p hu
      rw [hp] at q; cases q
    · rw [List.getElem?_set_ne hj] at e ⊢
      exact (r.out hp).sl j s e
  sep := fun j k a ds es hjk e1 e2 e3 e4 => by
    have no : ∀ j es, i ≠ j → ρ[j]? = some (.ow es) → σ[j]? ≠ some (some (.ref p)) := fun j es hj e1 e2 => by
      obtain ⟨a, vs, e, _, _, _, q, _⟩ := r.sl j _ e1
      rw [e2] at e; cases e
      rw [hp] at q; cases q
    by_cases hj : i = j
    · subst hj
      have hi : i < σ.length := by simpa using (List.getElem?_eq_some_iff.mp e3).1
      rw [List.getElem?_set_self hi] at e3
      cases e3
      rw [List.getElem?_set_ne hjk] at e2 e4
      exact no k es hjk e2 e4
    · by_cases hk : i = k
      · subst hk
        have hi : i < σ.length := by simpa using (List.getElem?_eq_some_iff.mp e4).1
        rw [List.getElem?_set_self hi] at e4
        cases e4
        rw [List.getElem?_set_ne hj] at e1 e3
        exact no j ds hj e1 e3
      · rw [List.getElem?_set_ne hj] at e1 e3
        rw [List.getElem?_set_ne hk] at e2 e4
        exact r.sep j k a ds es hjk e1 e2 e3 e4
/-- an owned list is changed -/
theorem Rel.wr {vs ws : List V} {ds es : List D} {a : Addr} {i : Nat} (r : Rel K M G ρ σ H) (hi : ρ[i]? = some (.ow ds)) (ha : σ[i]? = some (some (.ref a))) (hH : H a = some (.lst vs)) (h : RpL K G ws es) :
    Rel K M G (ρ.set i (.ow es)) σ (upd H a (.lst ws)) := by
  obtain ⟨a', vs', e', g1, g2, g3, g4, g5⟩ := r.sl i _ hi
  rw [ha] at e'
  cases e'
  have hlt : i < ρ.length := (List.getElem?_eq_some_iff.mp hi).1
  refine ⟨⟨to_upd r.frm.gs g1, to_upd r.frm.fs g2, r.frm.lk, r.frm.lf, fun u hu => ?_⟩, by rw [List.length_set]; exact r.len, fun j s e => ?_, fun j k b ds' es' hjk e1 e2 e3 e4 => ?_⟩
  · obtain ⟨h1, h2, x, y, z, h3⟩ := r.frm.ur u hu
    have : u ≠ a := fun e => g3 (by rw [← e]; exact hu)
    exact ⟨h1, h2, x, y, z, by rw [upd_ne this]; exact h3⟩
  · by_cases hj : i = j
    · subst hj
      rw [List.getElem?_set_self hlt] at e
      have e := Option.some.inj e
      subst e
      exact ⟨a, ws, ha, g1, g2, g3, upd_same, h⟩
    · rw [List.getElem?_set_ne hj] at e
      have q := r.sl j s e
      cases s with
      | no => trivial
      | fz d => exact q
      | ur => exact q
      | ow ds' =>
        obtain ⟨b, us, e', q1, q2, q3, q4, q5⟩ := q
        refine ⟨b, us, e', q1, q2, q3, ?_, q5⟩
        have : b ≠ a := fun z => by
          subst z
          exact r.sep i j b _ _ hj hi e ha e'
        rw [upd_ne this]; exact q4
  · by_cases hj : i = j
    · subst hj
      rw [List.getElem?_set_ne hjk] at e2
      exact r.sep i k b _ _ hjk hi e2 e3 e4
    · by_cases hk : i = k
      · subst hk
        rw [List.getElem?_set_ne hj] at e1
        exact r.sep j i b _ _ hjk e1 hi e3 e4
      · rw [List.getElem?_set_ne hj] at e1
        rw [List.getElem?_set_ne hk] at e2
        exact r.sep j k b ds' es' hjk e1 e2 e3 e4
/-- an owned list becomes frozen -/
theorem Rel.freeze {ds : List D} {i : Nat} (r : Rel K M G ρ σ H) (hi : ρ[i]? = some (.ow ds)) : ∃ G', Same G G' ∧ Rel K M G' (ρ.set i (.fz (.lst ds))) σ H ∧ ∃ a vs, σ[i]? = some (some (.ref a)) ∧ G a = none ∧ H a = some (.lst vs) ∧ G' = upd G a (.lst vs) := by
  obtain ⟨a, vs, e', g1, g2, g3, g4, g5⟩ := r.sl i _ hi
  have hlt : i < ρ.length := (List.getElem?_eq_some_iff.mp hi).1
  have sg : Same G (upd G a (.lst vs)) := same_upd g1
  refine ⟨upd G a (.lst vs), sg, ⟨⟨fun b o e => ?_, r.frm.fs, fun b hb => ?_, r.frm.lf, fun u hu => ?_⟩, by rw [List.length_set]; exact r.len, fun j s e => ?_, fun j k b ds' es' hjk e1 e2 e3 e4 => ?_⟩, a, vs, e', g1, g4, rfl⟩
  · by_cases hb : b = a
    · subst hb; rw [upd_same] at e; cases e; exact g4
    · rw [upd_ne hb] at e; exact r.frm.gs _ _ e
  · have : b ≠ a := fun e => by subst e; exact r.frm.lf b hb g2
    rw [upd_ne this]; exact r.frm.lk b hb
  · obtain ⟨h1, h2, h3⟩ := r.frm.ur u hu
    have : u ≠ a := fun e => g3 (by rw [← e]; exact hu)
    exact ⟨h1, by rw [upd_ne this]; exact h2, h3⟩
  · by_cases hj : i = j
    · subst hj
      rw [List.getElem?_set_self hlt] at e
      have e := Option.some.inj e
      subst e
      exact ⟨_, e', .lst (.inl upd_same) (g5.mono sg)⟩
    · rw [List.getElem?_set_ne hj] at e
      have q := r.sl j s e
      cases s with
      | no => trivial
      | fz d => obtain ⟨v, e1, q⟩ := q; exact ⟨v, e1, q.mono sg⟩
      | ur => exact q
      | ow ds' =>
        obtain ⟨b, us, e'', q1, q2, q3, q4, q5⟩ := q
        have : b ≠ a := fun z => by
          subst z
          exact r.sep i j b _ _ hj hi e e' e''
        exact ⟨b, us, e'', by rw [upd_ne this]; exact q1, q2, q3, q4, q5.mono sg⟩
  · by_cases hj : i = j
    · subst hj
      rw [List.getElem?_set_self hlt] at e1; cases e1
    · by_cases hk : i = k
      · subst hk
        rw [List.getElem?_set_self hlt] at e2; cases e2
      · rw [List.getElem?_set_ne hj] at e1
        rw [List.getElem?_set_ne hk] at e2
        exact r.sep j k b ds' es' hjk e1 e2 e3 e4
end


/-! ### readings over plain data -/
abbrev DE := Env → (D → Prop) → Prop
abbrev DT := Env → (Bool → Prop) → Prop
abbrev DA := Env → (List D → Prop) → Prop
structure DEnds where
  nx : Env → Prop
  rt : D → Prop
  bk : Env → Prop := fun _ => False
  ct : Env → Prop := fun _ => False
  rf : List D → Prop := fun _ => False
abbrev DS := DEnds → Env → Prop
abbrev DG := D → Env → (Env → Prop) → Prop

def SE (K : PySem.W.Frag) (t : TE) (e : DE) : Prop := ∀ (M : Fm) (G : Hp) (ρ : Env) (σ : L2.St) (H : Hp) (P : D → Prop) (Q : VK), Rel K M G ρ σ H → e ρ P →
  (∀ d v G' H', P d → Rel K M G' ρ σ H' → Same G G' → Rp K G' v d → Q v H') → t σ H Q
/-- an expression that gives a new list -/
def SF (K : PySem.W.Frag) (t : TE) (e : DA) : Prop := ∀ (M : Fm) (G : Hp) (ρ : Env) (σ : L2.St) (H : Hp) (P : List D → Prop) (Q : VK), Rel K M G ρ σ H → e ρ P →
  (∀ ds vs p G' H', P ds → Rel K M G' ρ σ H' → Same G G' → RpL K G' vs ds → H' p = none → Q (.ref p) (upd H' p (.lst vs))) → t σ H Q
def ST (K : PySem.W.Frag) (t : TT) (e : DT) : Prop := ∀ (M : Fm) (G : Hp) (ρ : Env) (σ : L2.St) (H : Hp) (P : Bool → Prop) (Q : Bool → Hp → Prop), Rel K M G ρ σ H → e ρ P →
  (∀ b G' H', P b → Rel K M G' ρ σ H' → Same G G' → Q b H') → t σ H Q
def SA (K : PySem.W.Frag) (t : TA) (e : DA) : Prop := ∀ (M : Fm) (G : Hp) (ρ : Env) (σ : L2.St) (H : Hp) (P : List D → Prop) (Q : List V → Hp → Prop), Rel K M G ρ σ H → e ρ P →
  (∀ ds vs G' H', P ds → Rel K M G' ρ σ H' → Same G G' → RpL K G' vs ds → Q vs H') → t σ H Q
structure Lk (K : PySem.W.Frag) (M : Fm) (G : Hp) (P : DEnds) (D : Ends) : Prop where
  nx : ∀ ρ σ G' H', P.nx ρ → Rel K M G' ρ σ H' → Same G G' → D.nx σ H'
  bk : ∀ ρ σ G' H', P.bk ρ → Rel K M G' ρ σ H' → Same G G' → D.bk σ H'
  ct : ∀ ρ σ G' H', P.ct ρ → Rel K M G' ρ σ H' → Same G G' → D.ct σ H'
  rt : ∀ d v G' H', P.rt d → Frm M G' H' → Same G G' → Rp K G' v d → D.rt v H'
  rf : ∀ ds vs p G' H', P.rf ds → Frm M G' H' → Same G G' → RpL K G' vs ds → H' p = none → D.rt (.ref p) (upd H' p (.lst vs))
def SS (K : PySem.W.Frag) (t : TS) (e : DS) : Prop := ∀ (M : Fm) (G : Hp) (ρ : Env) (σ : L2.St) (H : Hp) (P : DEnds) (D : Ends), Rel K M G ρ σ H → e P ρ → Lk K M G P D → t D σ H
def SG (K : PySem.W.Frag) (t : TG) (g : DG) : Prop := ∀ (M : Fm) (G : Hp) (ρ : Env) (σ : L2.St) (H : Hp) (v : V) (d : D) (P : Env → Prop) (Q : L2.St → Hp → Prop), Rel K M G ρ σ H → Rp K G v d → g d ρ P →
  (∀ ρ' σ', P ρ' → Rel K M G ρ' σ' H → Q σ' H) → t v σ H Q
theorem Lk.mono {K : PySem.W.Frag} {M : Fm} {G G' : Hp} {P : DEnds} {D : Ends} (l : Lk K M G P D) (s : Same G G') : Lk K M G' P D :=
  ⟨fun ρ σ g h a b c => l.nx ρ σ g h a b (s.trans c), fun ρ σ g h a b c => l.bk ρ σ g h a b (s.trans c), fun ρ σ g h a b c => l.ct ρ σ g h a b (s.trans c), fun d v g h a b c => l.rt d v g h a b (s.trans c), fun ds vs p g h a b c => l.rf ds vs p g h a b (s.trans c)⟩

structure PDE (X : Cx) (e : Expr) (t : TE) (d : DE) : Prop where
  pe : PE X e t
  se : SE X.K t d
structure PDF (X : Cx) (e : Expr) (t : TE) (d : DA) : Prop where
  pe : PE X e t
  se : SF X.K t d
structure PDT (X : Cx) (e : Expr) (t : TT) (d : DT) : Prop where
  pe : PT X e t
  se : ST X.K t d
structure PDW (X : Cx) (e : Expr) (t : TT) (d : DT) : Prop where
  pe : PW X e t
  se : ST X.K t d
structure PDA (X : Cx) (es : List Expr) (t : TA) (d : DA) : Prop where
  pe : PA X es t
  se : SA X.K t d
structure PDS (X : Cx) (e : Stmt) (t : TS) (d : DS) : Prop where
  pe : PS X e t
  se : SS X.K t d
structure PDSs (X : Cx) (e : List Stmt) (t : TS) (d : DS) : Prop where
  pe : PSs X e t
  se : SS X.K t d
structure PDG (X : Cx) (e : Expr) (t : TG) (d : DG) : Prop where
  pe : PG X e t
  se : SG X.K t d

/-! ### names, constants -/
def sat : Env → Nat → Sl
  | [], _ => .no
  | s :: _, 0 => s
  | _ :: r, n + 1 => sat r n
theorem sat_get : ∀ {ρ : Env} {i : Nat} {s : Sl}, sat ρ i = s → s ≠ .no → ρ[i]? = some s
  | [], _, _, h, n => absurd h.symm n
  | s :: _, 0, _, h, _ => by subst h; rfl
  | _ :: r, i + 1, _, h, n => sat_get (ρ := r) (i := i) h n
/-- what a frozen slot holds -/
def Sl.fzP (P : D → Prop) : Sl → Prop
  | .fz d => P d
  | _ => False
def Sl.owP (P : List D → Prop) : Sl → Prop
  | .ow ds => P ds
  | _ => False
theorem Sl.fzP_of {P : D → Prop} : ∀ {s : Sl}, s.fzP P → ∃ d, s = .fz d ∧ P d
  | .fz d, h => ⟨d, rfl, h⟩
  | .no, h => h.elim
  | .ow _, h => h.elim
  | .ur, h => h.elim
theorem Sl.owP_of {P : List D → Prop} : ∀ {s : Sl}, s.owP P → ∃ d, s = .ow d ∧ P d
  | .ow d, h => ⟨d, rfl, h⟩
  | .no, h => h.elim
  | .fz _, h => h.elim
  | .ur, h => h.elim
def dVar (i : Nat) : DE := fun ρ P => (sat ρ i).fzP P
def dC (d : D) : DE := fun _ P => P d
section
variable {X : Cx} {K : PySem.W.Frag}
theorem Rel.fzAt {M : Fm} {G H : Hp} {ρ : Env} {σ : L2.St} {i : Nat} {P : D → Prop} (r : Rel K M G ρ σ H) (h : (sat ρ i).fzP P) : ∃ d v, P d ∧ σ[i]? = some (some v) ∧ Rp K G v d := by
  obtain ⟨d, e, p⟩ := Sl.fzP_of h
  obtain ⟨v, e1, q⟩ := r.sl i _ (sat_get e (fun z => nomatch z))
  exact ⟨d, v, p, e1, q⟩
theorem se_var (i : Nat) : SE K (tVar i) (dVar i) := fun M G ρ σ H P Q r h k => by
  obtain ⟨d, v, p, e1, q⟩ := r.fzAt h
  exact ⟨v, e1, k d v G H p r (Same.refl G) q⟩
theorem se_c {v : V} {d : D} (h : ∀ G, Rp K G v d) : SE K (tC v) (dC d) := fun M G ρ σ H P Q r hp k => k d v G H hp r (Same.refl G) (h G)
theorem dv (i : Nat) {x : Str} {pos : Pos} (hN : X.N[i]? = some x := by rfl) (hv : Vis X.env.scope x := by first | exact Or.inl rfl | exact Or.inr (Or.inl rfl) | exact Or.inr (Or.inr rfl)) (hd : (x == ("__debug__" : Str)) = false := by decide)
    (hcd : (x == ("__classdict__" : Str)) = false := by decide) : PDE X (.Name x pos) (tVar i) (dVar i) := ⟨pe_var hN hv hd hcd, se_var i⟩
theorem d_int {i j pos} : PDE X (.Constant (.int i) j pos) (tC (.int i)) (dC (.int i)) := ⟨pe_int, se_c fun _ => .int _⟩
theorem d_bl {b j pos} : PDE X (.Constant (.bool b) j pos) (tC (.bl b)) (dC (.bl b)) := ⟨pe_bl, se_c fun _ => .bl _⟩
theorem d_non {j pos} : PDE X (.Constant .none j pos) (tC .non) (dC .non) := ⟨pe_non, se_c fun _ => .non⟩
theorem d_str {x j pos} : PDE X (.Constant (.str x) j pos) (tC (.str x)) (dC (.str x)) := ⟨pe_str, se_c fun _ => .str _⟩
/-- a module's constant -/
theorem d_glob {x : Str} {v : V} {u : Value} {d : D} {pos : Pos} (hg : Gl X x) (hm : X.mg x = some u) (r : RelV v u) (h : ∀ G, Rp X.K G v d) (hd : (x == ("__debug__" : Str)) = false := by decide) : PDE X (.Name x pos) (tC v) (dC d) :=
  ⟨pe_glob hg hm r hd, se_c h⟩
theorem d_bltn {x : Str} {n : String} {pos : Pos} (hg : Gl X x) (hm : X.mg x = none) (hv : bootBuiltins x = some (.type n)) (hn : x ≠ "__name__" := by decide) (hd : (x == ("__debug__" : Str)) = false := by decide) : PDE X (.Name x pos) (tC (.ty n)) (dC (.ty n)) :=
  ⟨pe_bltn hg hm hv rfl hn hd, se_c fun _ => .ty n⟩

/-! ### operators -/
abbrev DO := D → D → (D → Prop) → Prop
def SOp (K : PySem.W.Frag) (r : R2) (f : DO) : Prop := ∀ (M : Fm) (G : Hp) (ρ : Env) (σ : L2.St) (H : Hp) (x y : V) (d e : D) (P : D → Prop) (Q : VK), Rel K M G ρ σ H → Rp K G x d → Rp K G y e → f d e P →
  (∀ d v G' H', P d → Rel K M G' ρ σ H' → Same G G' → Rp K G' v d → Q v H') → r x y H Q
def dBin (f : DO) (a b : DE) : DE := fun ρ P => a ρ fun x => b ρ fun y => f x y P
theorem se_bin {r : R2} {f : DO} {ta tb : TE} {da db : DE} (h : SOp K r f) (ha : SE K ta da) (hb : SE K tb db) : SE K (tOp r ta tb) (dBin f da db) := fun M G ρ σ H P Q rl hp k => by
  refine ha M G ρ σ H _ _ rl hp fun x vx G1 H1 p1 r1 s1 q1 => ?_
  refine hb M G1 ρ σ H1 _ _ r1 p1 fun y vy G2 H2 p2 r2 s2 q2 => ?_
  exact h M G2 ρ σ H2 vx vy x y P Q r2 (q1.mono s2) q2 p2 fun d v G' H' p r s q => k d v G' H' p r (s1.trans (s2.trans s)) q
structure PDO (X : Cx) (fn : Value → Value → Sem Value) (r : R2) (f : DO) : Prop where
  pe : OpR X fn r
  se : SOp X.K r f
theorem d_op {op : Operator} {r : R2} {f : DO} {a b : Expr} {ta tb : TE} {da db : DE} {pos : Pos} (h : PDO X (binaryOp op) r f) (ha : PDE X a ta da) (hb : PDE X b tb db) : PDE X (.BinOp a op b pos) (tOp r ta tb) (dBin f da db) :=
  ⟨pe_op h.pe ha.pe hb.pe, se_bin h.se ha.se hb.se⟩
theorem d_cmp {op : CmpOp} {r : R2} {f : DO} {a b : Expr} {ta tb : TE} {da db : DE} {pos : Pos} (h : PDO X (compareOp op) r f) (ha : PDE X a ta da) (hb : PDE X b tb db) (hm : behindInMarks op b = false) : PDE X (.Compare a [op] [b] pos) (tOp r ta tb) (dBin f da db) :=
  ⟨pe_cmpR h.pe ha.pe hb.pe hm, se_bin h.se ha.se hb.se⟩
/-- a op b op' c -/
def dChain (f f' : DO) (a b c : DE) : DE := fun ρ P => a ρ fun x => b ρ fun y => f x y fun z => match z with
  | .bl true => c ρ fun w => f' y w P
  | .bl false => P (.bl false)
  | _ => False
/-- ints -/
def oI (C : Int → Int → Prop) (g : Int → Int → D) : DO := fun x y P => match x, y with
  | .int i, .int j => C i j ∧ P (g i j)
  | _, _ => False
def oI0 (g : Int → Int → D) : DO := fun x y P => match x, y with
  | .int i, .int j => P (g i j)
  | _, _ => False
theorem oI_of {C : Int → Int → Prop} {g : Int → Int → D} {x y : D} {P : D → Prop} (h : oI C g x y P) : ∃ i j, x = .int i ∧ y = .int j ∧ C i j ∧ P (g i j) := by
  unfold oI at h; split at h
  · exact ⟨_, _, rfl, rfl, h⟩
  · exact h.elim
theorem oI0_of {g : Int → Int → D} {x y : D} {P : D → Prop} (h : oI0 g x y P) : ∃ i j, x = .int i ∧ y = .int j ∧ P (g i j) := by
  unfold oI0 at h; split at h
  · exact ⟨_, _, rfl, rfl, h⟩
  · exact h.elim
theorem so_I {C : Int → Int → Prop} {g : Int → Int → V} {g' : Int → Int → D} (h : ∀ i j G, Rp K G (g i j) (g' i j)) : SOp K (rI C g) (oI C g') := fun M G ρ σ H x y d e P Q r hx hy hp k => by
  obtain ⟨i, j, rfl, rfl, c, p⟩ := oI_of hp
  exact ⟨i, j, hx.intI, hy.intI, c, k _ _ G H p r (Same.refl G) (h i j G)⟩
theorem so_I0 {g : Int → Int → V} {g' : Int → Int → D} (h : ∀ i j G, Rp K G (g i j) (g' i j)) : SOp K (rI0 g) (oI0 g') := fun M G ρ σ H x y d e P Q r hx hy hp k => by
  obtain ⟨i, j, rfl, rfl, p⟩ := oI0_of hp
  exact ⟨i, j, hx.intI, hy.intI, k _ _ G H p r (Same.refl G) (h i j G)⟩
abbrev oSub : DO := oI0 fun i j => .int (i - j)
abbrev oLt : DO := oI0 fun i j => .bl (decide (i < j))
abbrev oLe : DO := oI0 fun i j => .bl (decide (i ≤ j))
abbrev oGt : DO := oI0 fun i j => .bl (decide (j < i))
abbrev oGe : DO := oI0 fun i j => .bl (decide (j ≤ i))
abbrev oMod : DO := oI (fun _ j => j ≠ 0) fun i j => .int (i.fmod j)
theorem do_sub : PDO X (binaryOp .Sub) (rI0 fun i j => .int (i - j)) oSub := ⟨op_sub, so_I0 fun _ _ _ => .int _⟩
theorem do_lt : PDO X (compareOp .Lt) (rI0 fun i j => .bl (decide (i < j))) oLt := ⟨op_lt, so_I0 fun _ _ _ => .bl _⟩
theorem do_le : PDO X (compareOp .LtE) (rI0 fun i j => .bl (decide (i ≤ j))) oLe := ⟨op_le, so_I0 fun _ _ _ => .bl _⟩
theorem do_gt : PDO X (compareOp .Gt) (rI0 fun i j => .bl (decide (j < i))) oGt := ⟨op_gt, so_I0 fun _ _ _ => .bl _⟩
theorem do_ge : PDO X (compareOp .GtE) (rI0 fun i j => .bl (decide (j ≤ i))) oGe := ⟨op_ge, so_I0 fun _ _ _ => .bl _⟩
theorem do_mod : PDO X (binaryOp .Mod) (rI (fun _ j => j ≠ 0) fun i j => .int (i.fmod j)) oMod := ⟨op_modN, so_I fun _ _ _ => .int _⟩
abbrev oPow : DO := oI CPow fun i j => .int (i ^ j.toNat)
theorem do_pow : PDO X (binaryOp .Pow) (rI CPow fun i j => .int (i ^ j.toNat)) oPow := ⟨op_pow, so_I fun _ _ _ => .int _⟩
/-- //: a divisor below 2 ^ 9000 -/
def CDv (_ j : Int) : Prop := j ≠ 0 ∧ j.natAbs.log2 < 9000
theorem op_dv : OpR X (binaryOp .FloorDiv) (rI CDv fun i j => .int (i.fdiv j)) := opI fun _ _ _ _ _ _ _ hc q => floordiv_int hc.1 q (.inl (PyProof.noPylong_of_log2 hc.2))
abbrev oDiv : DO := oI CDv fun i j => .int (i.fdiv j)
theorem do_div : PDO X (binaryOp .FloorDiv) (rI CDv fun i j => .int (i.fdiv j)) oDiv := ⟨op_dv, so_I fun _ _ _ => .int _⟩
theorem so_or {r r' : R2} {f : DO} (h : ∀ (M : Fm) (G : Hp) (ρ : Env) (σ : L2.St) (H : Hp) (x y : V) (d e : D) (P : D → Prop) (Q : VK), Rel K M G ρ σ H → Rp K G x d → Rp K G y e → f d e P →
    (∀ d v G' H', P d → Rel K M G' ρ σ H' → Same G G' → Rp K G' v d → Q v H') → r x y H Q ∨ r' x y H Q) : SOp K (fun x y H Q => r x y H Q ∨ r' x y H Q) f := h
/-! lists as they stand -/
theorem Inv.lstR {pins : List (Addr × Obj)} {σ : L2.St} {H : Hp} {s : Shared} {l : Addr} {xs : List V} (I : Inv X pins σ H s) (h : Rd H l (.lst xs)) :
    xs.length ≤ sizeLine ∧ ∃ (its : List Value) (n : Nat), Vals xs its ∧ xs.length = its.length ∧ s.heap.get? l = some { cls := .type "list", data := .seq its.toArray n } := by
  obtain ⟨z, its, n, r, e⟩ := h.ok I.hok
  exact ⟨z, its, n, r, r.length, e⟩
def rCatR : R2 := fun x y H Q => ∃ l b xs zs, x = .ref l ∧ y = .ref b ∧ Rd H l (.lst xs) ∧ Rd H b (.lst zs) ∧ xs.length + zs.length ≤ sizeLine ∧ ∀ p, H p = none → Q (.ref p) (upd H p (.lst (xs ++ zs)))
theorem op_catR : OpR X (binaryOp .Add) rCatR := by
  intro pins s σ H x y v u Q I rx ry ⟨l, b, xs, zs, ex, ey, hH, hB, hz, q⟩
  subst ex ey
  cases rx
  cases ry
  obtain ⟨_, its, n, r, hl, e⟩ := Inv.lstR I hH
  obtain ⟨_, its2, n2, r2, hl2, e2⟩ := Inv.lstR I hB
  refine PySem.P.add_list e e2 ?_ (by simp only [List.size_toArray]; omega)
  have ea : its.toArray ++ its2.toArray = (its ++ its2).toArray := by simp
  rw [ea]
  have hn : (xs ++ zs).length ≤ sizeLine := by rw [List.length_append]; exact hz
  exact ⟨.ref _, _, I.lnew (t' := s.toks) (r.append r2) hn, rfl, q _ I.fresh⟩
/-- + : ints, tuples, lists, texts -/
def oAdd : DO := fun x y P => match x, y with
  | .int i, .int j => P (.int (i + j))
  | .tup a, .tup b => a.length + b.length ≤ sizeLine ∧ P (.tup (a ++ b))
  | .lst a, .lst b => a.length + b.length ≤ sizeLine ∧ P (.lst (a ++ b))
  | .str a, .str b => a.length + b.length ≤ sizeLine ∧ P (.str (a ++ b))
  | _, _ => False
def rAddS : R2 := fun x y H Q => ∃ i j, x = .str i ∧ y = .str j ∧ i.length + j.length ≤ sizeLine ∧ Q (.str (i ++ j)) H
def rAddA (K : PySem.W.Frag) : R2 := fun x y H Q => (rI0 (fun i j => .int (i + j)) x y H Q ∨ rCatA K x y H Q) ∨ (rCatR x y H Q ∨ rAddS x y H Q)
theorem do_add : PDO X (binaryOp .Add) (rAddA X.K) oAdd := ⟨(op_add.or op_catA).or (op_catR.or op_add_str), fun M G ρ σ H x y d e P Q r hx hy hp k => by
  unfold oAdd at hp
  split at hp
  · exact .inl (.inl ⟨_, _, hx.intI, hy.intI, k _ _ G H hp r (Same.refl G) (.int _)⟩)
  · rename_i a b
    obtain ⟨p, xs, rfl, hs, rx⟩ := hx.tupI
    obtain ⟨q, ys, rfl, ht, ry⟩ := hy.tupI
    refine .inl (.inr ⟨p, q, xs, ys, rfl, rfl, same_sqT r.frm.gs hs, same_sqT r.frm.gs ht, by rw [rx.len, ry.len]; exact hp.1, fun z => ?_, fun z1 z2 => ?_, fun z1 z2 t ht' => ?_⟩)
    · subst z
      cases rx
      exact k _ _ G H hp.2 r (Same.refl G) hy
    · subst z2
      cases ry
      exact k _ _ G H (by rw [List.append_nil] at hp; exact hp.2) r (Same.refl G) hx
    · exact k _ _ _ _ hp.2 (r.new ht') (same_upd (r.frm.gs.free ht')) (.tup (.inl (.inl upd_same)) ((rx.app ry).mono (same_upd (r.frm.gs.free ht'))))
  · rename_i a b
    obtain ⟨p, xs, rfl, hs, rx⟩ := hx.lstI
    obtain ⟨q, ys, rfl, ht, ry⟩ := hy.lstI
    refine .inr (.inl ⟨p, q, xs, ys, rfl, rfl, same_rd r.frm.gs hs, same_rd r.frm.gs ht, by rw [rx.len, ry.len]; exact hp.1, fun t ht' => ?_⟩)
    exact k _ _ _ _ hp.2 (r.new ht') (same_upd (r.frm.gs.free ht')) (.lst (.inl upd_same) ((rx.app ry).mono (same_upd (r.frm.gs.free ht'))))
  · exact .inr (.inr ⟨_, _, hx.strI, hy.strI, hp.1, k _ _ G H hp.2 r (Same.refl G) (.str _)⟩)
  · exact hp.elim⟩
/-- a new list by + -/
def dCatF (a b : DE) : DA := fun ρ P => a ρ fun x => b ρ fun y => match x, y with
  | .lst u, .lst v => u.length + v.length ≤ sizeLine ∧ P (u ++ v)
  | _, _ => False
theorem f_cat {a b : Expr} {ta tb : TE} {da db : DE} {pos : Pos} (ha : PDE X a ta da) (hb : PDE X b tb db) : PDF X (.BinOp a .Add b pos) (tOp rCatR ta tb) (dCatF da db) := ⟨pe_op op_catR ha.pe hb.pe, fun M G ρ σ H P Q rl hp k => by
  refine ha.se M G ρ σ H _ _ rl hp fun x vx G1 H1 p1 r1 s1 q1 => ?_
  refine hb.se M G1 ρ σ H1 _ _ r1 p1 fun y vy G2 H2 p2 r2 s2 q2 => ?_
  split at p2
  · obtain ⟨p, xs, rfl, hs, rx⟩ := (q1.mono s2).lstI
    obtain ⟨q, ys, rfl, ht, ry⟩ := q2.lstI
    exact ⟨p, q, xs, ys, rfl, rfl, same_rd r2.frm.gs hs, same_rd r2.frm.gs ht, by rw [rx.len, ry.len]; exact p2.1, fun t ht' => k _ _ t G2 H2 p2.2 r2 (s1.trans s2) (rx.app ry) ht'⟩
  · exact p2.elim⟩
/-- a new list as data -/
def dF (a : DA) : DE := fun ρ P => a ρ fun ds => P (.lst ds)
theorem PDF.e {e : Expr} {t : TE} {d : DA} (h : PDF X e t d) : PDE X e t (dF d) := ⟨h.pe, fun M G ρ σ H P Q rl hp k =>
  h.se M G ρ σ H _ _ rl hp fun ds vs p G' H' p1 r1 s1 q1 hn => k _ _ _ _ p1 (r1.new hn) (s1.trans (same_upd (r1.frm.gs.free hn))) (.lst (.inl upd_same) (q1.mono (same_upd (r1.frm.gs.free hn))))⟩
end


/-! ### plain data in the model's own words -/
mutual
def D.py : D → PyData
  | .bl b => .bool b
  | .int i => .int i
  | .str x => .str x
  | .tup xs => .tuple (pyL xs)
  | .lst xs => .list (pyL xs)
  | _ => .none
def pyL : List D → List PyData
  | [] => []
  | x :: xs => x.py :: pyL xs
end
/-- data of a depth up to n, nothing odd in it -/
def D.fit : Nat → D → Bool
  | _, .non => true
  | _, .bl _ => true
  | _, .int _ => true
  | _, .str x => PyData.strOk x
  | n + 1, .tup xs => xs.all (D.fit n)
  | n + 1, .lst xs => xs.all (D.fit n)
  | _, _ => false
theorem fit_shape : ∀ (n : Nat) (d : D), d.fit n = true → d.py.canLay0 = true ∧ d.py.depth ≤ n := by
  have all : ∀ (n : Nat), (∀ d : D, d.fit n = true → d.py.canLay0 = true ∧ d.py.depth ≤ n) → ∀ xs : List D, xs.all (D.fit n) = true → PyData.canLayAll0 (pyL xs) = true ∧ PyData.depthAll (pyL xs) ≤ n := by
    intro n ih xs
    induction xs with
    | nil => intro _; simp [pyL, PyData.canLayAll0, PyData.depthAll]
    | cons x xs ihx =>
      intro h
      rw [List.all_cons, Bool.and_eq_true] at h
      obtain ⟨h1, h2⟩ := ih x h.1
      obtain ⟨h3, h4⟩ := ihx h.2
      simp only [pyL, PyData.canLayAll0, PyData.depthAll, h1, h3, Bool.and_self, true_and]
      omega
  intro n
  induction n with
  | zero =>
    intro d h
    cases d <;> simp_all [D.fit, D.py, PyData.canLay0, PyData.depth]
  | succ n ih =>
    intro d h
    cases d with
    | tup xs =>
      obtain ⟨h1, h2⟩ := all n ih xs (by simpa [D.fit] using h)
      simp only [D.py, PyData.canLay0, PyData.depth, h1, true_and]
      omega
    | lst xs =>
      obtain ⟨h1, h2⟩ := all n ih xs (by simpa [D.fit] using h)
      simp only [D.py, PyData.canLay0, PyData.depth, h1, true_and]
      omega
    | non => simp [D.py, PyData.canLay0, PyData.depth]
    | bl b => simp [D.py, PyData.canLay0, PyData.depth]
    | int i => simp [D.py, PyData.canLay0, PyData.depth]
    | str x => simp_all [D.fit, D.py, PyData.canLay0, PyData.depth]
    | fn a => simp [D.fit] at h
    | dct => simp [D.fit] at h
    | ty n => simp [D.fit] at h
    | scr n => simp [D.fit] at h
theorem fit_shaped {d : D} (h : d.fit 60 = true) : SeqAt.shaped d.py = true := by
  obtain ⟨h1, h2⟩ := fit_shape 60 d h
  unfold SeqAt.shaped
  rw [h1, Bool.true_and, decide_eq_true_eq]
  omega
theorem fit_mono : ∀ (n : Nat) (d : D), d.fit n = true → d.fit (n + 1) = true := by
  intro n
  induction n with
  | zero => intro d h; cases d <;> simp_all [D.fit]
  | succ n ih =>
    intro d h
    cases d with
    | tup xs => simp only [D.fit, List.all_eq_true] at h ⊢; exact fun x hx => ih x (h x hx)
    | lst xs => simp only [D.fit, List.all_eq_true] at h ⊢; exact fun x hx => ih x (h x hx)
    | non => rfl
    | bl b => rfl
    | int i => rfl
    | str x => simpa [D.fit] using h
    | fn a => simp [D.fit] at h
    | dct => simp [D.fit] at h
    | ty n => simp [D.fit] at h
    | scr n => simp [D.fit] at h
theorem fit_le {n m : Nat} {d : D} (h : d.fit n = true) (hm : n ≤ m) : d.fit m = true := by
  induction hm with
  | refl => exact h
  | step _ ih => exact fit_mono _ _ ih
section
variable {K : PySem.W.Frag} {G H : Hp}
mutual
theorem Rp.dp (e : Same G H) : ∀ {v : V} {d : D} (n : Nat), Rp K G v d → d.fit n = true → Dp K H v d.py
  | _, _, _, .non, _ => by simp only [D.py]; exact .non
  | _, _, _, .bl b, _ => by rw [D.py]; exact .bl b
  | _, _, _, .int i, _ => by rw [D.py]; exact .int i
  | _, _, _, .str x, _ => by rw [D.py]; exact .str x
  | _, _, n, .fn a, h => by cases n <;> simp [D.fit] at h
  | _, _, n, .ty a, h => by cases n <;> simp [D.fit] at h
  | _, _, n, .scr a, h => by cases n <;> simp [D.fit] at h
  | _, _, n, .dct _, h => by cases n <;> simp [D.fit] at h
  | _, _, 0, .tup _ _, h => by simp [D.fit] at h
  | _, _, 0, .lst _ _, h => by simp [D.fit] at h
  | _, _, n + 1, .tup s r, h => by rw [D.py]; exact .tup (same_sqT e s) (RpL.dp e n r (by simpa [D.fit] using h))
  | _, _, n + 1, .lst s r, h => by rw [D.py]; exact .lst (.inl (same_rd e s)) (RpL.dp e n r (by simpa [D.fit] using h))
theorem RpL.dp (e : Same G H) : ∀ {vs : List V} {ds : List D} (n : Nat), RpL K G vs ds → (∀ d ∈ ds, d.fit n = true) → DpAll K H vs (pyL ds)
  | _, _, _, .nil, _ => by rw [pyL]; exact .nil
  | _, _, n, .cons h r, q => by rw [pyL]; exact .cons (Rp.dp e n h (q _ List.mem_cons_self)) (RpL.dp e n r fun d hd => q d (List.mem_cons_of_mem _ hd))
end
end
/-- Python's == of data -/
def D.eqv (d e : D) : Bool := PyData.eqv d.py e.py

/-! ### multiplication -/
abbrev flatRep {α : Type} (k : Nat) (xs : List α) : List α := (List.replicate k xs).flatten
def oMul : DO := fun x y P => match x, y with
  | .int i, .int j => IntMulOk i j ∧ P (.int (i * j))
  | .tup a, .int k => (a ≠ [] ∧ 2 ≤ k ∧ k ≤ 1000 ∧ a.length ≤ 1000) ∧ P (.tup (flatRep k.toNat a))
  | _, _ => False
/-- a frame that holds one more object -/
def Fm.hold (M : Fm) (p : Addr) (o : HO) : Fm := { M with F := upd M.F p o, L := fun b => M.L b ∨ b = p }
section
variable {K : PySem.W.Frag} {M : Fm} {G G' H H' : Hp} {ρ : Env} {σ : L2.St} {p : Addr} {o : HO}
theorem Rel.hold (r : Rel K M G ρ σ H) (hp : H p = none) : Rel K (M.hold p o) G ρ σ (upd H p o) where
  frm := by
    have f := r.frm.out (o := o) hp
    refine ⟨f.gs, fun b x e => ?_, fun b hb => ?_, fun b hb z => ?_, fun u hu => ?_⟩
    · exact upd2 r.frm.fs hp b x e
    · rcases hb with hb | rfl
      · exact f.lk b hb
      · exact r.frm.gs.free hp
    · by_cases e : b = p
      · subst e; rw [show (M.hold b o).F b = some o from upd_same] at z; cases z
      · rw [show (M.hold p o).F b = M.F b from upd_ne e] at z; exact f.lf b (hb.resolve_right e) z
    · obtain ⟨h1, h2, x, y, z, h3⟩ := r.frm.ur u hu
      have ne : u ≠ p := ne_of_none h3 hp
      exact ⟨(upd_ne ne).trans h1, h2, x, y, z, (upd_ne ne).trans h3⟩
  len := r.len
  sl := fun i s e => by
    have q := r.sl i s e
    cases s with
    | no => trivial
    | fz d => exact q
    | ur => exact q
    | ow ds =>
      obtain ⟨a, vs, e', q1, q2, q3, q4, q5⟩ := q
      have ne : a ≠ p := ne_of_none q4 hp
      exact ⟨a, vs, e', q1, (upd_ne ne).trans q2, q3, (upd_ne ne).trans q4, q5⟩
  sep := r.sep
theorem Rel.unhold (r : Rel K (M.hold p o) G ρ σ H) (hp : M.F p = none) (lf : ∀ b, M.L b → M.F b ≠ none) : Rel K M G ρ σ H where
  frm := by
    have f := r.frm
    have back : ∀ b, b ≠ p → (M.hold p o).F b = M.F b := fun b e => upd_ne e
    refine ⟨f.gs, fun b x e => ?_, fun b hb => f.lk b (.inl hb), lf, fun u hu => ?_⟩
    · exact f.fs b x ((back b (ne_of_none e hp)).trans e)
    · obtain ⟨h1, h2, h3⟩ := f.ur u hu
      have ne : u ≠ p := fun e => by
        subst e
        rw [show (M.hold u o).F u = some o from upd_same] at h1; cases h1
      exact ⟨(back u ne).symm.trans h1, h2, h3⟩
  len := r.len
  sl := fun i s e => by
    have q := r.sl i s e
    cases s with
    | no => trivial
    | fz d => exact q
    | ur => exact q
    | ow ds =>
      obtain ⟨a, vs, e', q1, q2, q3, q4, q5⟩ := q
      have ne : a ≠ p := fun z => by
        subst z
        rw [show (M.hold a o).F a = some o from upd_same] at q2; cases q2
      exact ⟨a, vs, e', q1, (show (M.hold p o).F a = M.F a from upd_ne ne).symm.trans q2, q3, q4, q5⟩
  sep := r.sep
theorem Rel.held (r : Rel K (M.hold p o) G ρ σ H) : H p = some o := r.frm.fs p o upd_same
/-- an object that is no slot's, taken out of the heap -/
def rem (H : Hp) (p : Addr) : Hp := fun b => if b = p then none else H b
theorem rem_same {H : Hp} {p : Addr} : rem H p p = none := if_pos rfl
theorem rem_ne {H : Hp} {p b : Addr} (h : b ≠ p) : rem H p b = H b := if_neg h
theorem upd_rem {H : Hp} {p : Addr} {o : HO} (h : H p = some o) : upd (rem H p) p o = H := by
  funext b
  by_cases e : b = p
  · subst e; rw [upd_same, h]
  · rw [upd_ne e, rem_ne e]
theorem upd_rem' {H : Hp} {p : Addr} {o : HO} : upd (rem H p) p o = upd H p o := by
  funext b
  by_cases e : b = p
  · subst e; rw [upd_same, upd_same]
  · rw [upd_ne e, upd_ne e, rem_ne e]
theorem Rel.rem (r : Rel K M G ρ σ H) (hG : G p = none) (hF : M.F p = none) (hU : M.U ≠ some p) (hn : ∀ (i : Nat) (ds : List D), ρ[i]? = some (.ow ds) → σ[i]? ≠ some (some (.ref p))) : Rel K M G ρ σ (rem H p) where
  frm := by
    refine ⟨fun b x e => ?_, fun b x e => ?_, r.frm.lk, r.frm.lf, fun u hu => ?_⟩
    · rw [rem_ne (ne_of_none e hG)]; exact r.frm.gs b x e
    · rw [rem_ne (ne_of_none e hF)]; exact r.frm.fs b x e
    · obtain ⟨h1, h2, x, y, z, h3⟩ := r.frm.ur u hu
      have ne : u ≠ p := fun e => hU (by rw [← e]; exact hu)
      exact ⟨h1, h2, x, y, z, by rw [rem_ne ne]; exact h3⟩
  len := r.len
  sl := fun i s e => by
    have q := r.sl i s e
    cases s with
    | no => trivial
    | fz d => exact q
    | ur => exact q
    | ow ds =>
      obtain ⟨a, vs, e', q1, q2, q3, q4, q5⟩ := q
      have ne : a ≠ p := fun z => by subst z; exact hn i ds e e'
      exact ⟨a, vs, e', q1, q2, q3, by rw [rem_ne ne]; exact q4, q5⟩
  sep := r.sep
/-- the held object is taken out again -/
theorem Rel.take (r : Rel K (M.hold p o) G ρ σ H) (hp : M.F p = none) (lf : ∀ b, M.L b → M.F b ≠ none) : Rel K M G ρ σ (PD.rem H p) := by
  have r2 := r.unhold hp lf
  refine r2.rem (r.frm.lk p (.inr rfl)) hp (fun hu => ?_) (fun i ds e e2 => ?_)
  · obtain ⟨h1, _⟩ := r.frm.ur p hu
    rw [show (M.hold p o).F p = some o from upd_same] at h1; cases h1
  · obtain ⟨a, vs, e', q1, q2, _⟩ := r.sl i _ e
    rw [e2] at e'; cases e'
    rw [show (M.hold p o).F p = some o from upd_same] at q2; cases q2
end
section
variable {X : Cx} {K : PySem.W.Frag}
theorem op_mulA : OpR X (binaryOp .Mult) (rI IntMulOk fun i j => .int (i * j)) := opI fun _ _ _ _ _ _ _ hc q => mul_int q hc
theorem do_mul : PDO X (binaryOp .Mult) (fun x y H Q => rI IntMulOk (fun i j => .int (i * j)) x y H Q ∨ rRepT X.K x y H Q) oMul := ⟨op_mulA.or op_repT, fun M G ρ σ H x y d e P Q r hx hy hp k => by
  unfold oMul at hp
  split at hp
  · exact .inl ⟨_, _, hx.intI, hy.intI, hp.1, k _ _ G H hp.2 r (Same.refl G) (.int _)⟩
  · obtain ⟨p, xs, rfl, hs, rx⟩ := hx.tupI
    obtain ⟨⟨h1, h2, h3, h4⟩, hp⟩ := hp
    refine .inr ⟨p, _, xs, rfl, hy.intI, same_sqT r.frm.gs hs, fun z => h1 ?_, h2, h3, by rw [rx.len]; exact h4, fun t ht' => ?_⟩
    · subst z; cases rx; rfl
    · exact k _ _ _ _ hp (r.new ht') (same_upd (r.frm.gs.free ht')) (.tup (.inl (.inl upd_same)) ((rx.rep _).mono (same_upd (r.frm.gs.free ht'))))
  · exact hp.elim⟩
/-- [..] * n -/
def dRepF (a : DA) (b : DE) : DA := fun ρ P => a ρ fun xs => b ρ fun y => match y with
  | .int k => (-(2 ^ 63) ≤ k ∧ k < 2 ^ 63 ∧ xs.length * k.toNat ≤ sizeLine) ∧ P (flatRep k.toNat xs)
  | _ => False
theorem f_rep {a b : Expr} {ta tb : TE} {da : DA} {db : DE} {pos : Pos} (ha : PDF X a ta da) (hb : PDE X b tb db) : PDF X (.BinOp a .Mult b pos) (tOp rRep ta tb) (dRepF da db) := ⟨pe_op op_rep ha.pe hb.pe, fun M G ρ σ H P Q rl hp k => by
  refine ha.se M G ρ σ H _ _ rl hp fun xs vs p G1 H1 p1 r1 s1 q1 hn => ?_
  have hF : M.F p = none := r1.frm.fs.free hn
  refine hb.se (M.hold p (.lst vs)) G1 ρ σ _ _ _ (r1.hold hn) p1 fun y vy G2 H2 p2 r2 s2 q2 => ?_
  split at p2
  · obtain ⟨⟨h1, h2, h3⟩, p2⟩ := p2
    have q2 := q2.intI
    exact ⟨p, _, vs, rfl, q2, r2.held, h1, h2, by rw [q1.len]; exact h3, fun t ht => k _ _ t G2 H2 p2 (r2.unhold hF rl.frm.lf) (s1.trans s2) ((q1.mono s2).rep _) ht⟩
  · exact p2.elim⟩

/-! ### ==, !=, in -/
def oEq : DO := fun x y P => (x.fit 60 = true ∧ y.fit 60 = true) ∧ P (.bl (x.eqv y))
def oNe : DO := fun x y P => (x.fit 60 = true ∧ y.fit 60 = true) ∧ P (.bl (!x.eqv y))
theorem do_eq (hu : X.A.units + 64 < cLine) : PDO X (compareOp .Eq) (rEqD X.K) oEq := ⟨op_eqD hu, fun M G ρ σ H x y d e P Q r hx hy hp k =>
  ⟨d.py, e.py, hx.dp r.frm.gs 60 hp.1.1, hy.dp r.frm.gs 60 hp.1.2, fit_shaped hp.1.1, fit_shaped hp.1.2, k _ _ G H hp.2 r (Same.refl G) (.bl _)⟩⟩
theorem do_ne (hu : X.A.units + 64 < cLine) : PDO X (compareOp .NotEq) (rNeD X.K) oNe := ⟨op_neD hu, fun M G ρ σ H x y d e P Q r hx hy hp k =>
  ⟨d.py, e.py, hx.dp r.frm.gs 60 hp.1.1, hy.dp r.frm.gs 60 hp.1.2, fit_shaped hp.1.1, fit_shaped hp.1.2, k _ _ G H hp.2 r (Same.refl G) (.bl _)⟩⟩
def rInT (K : PySem.W.Frag) : R2 := fun x y H Q => ∃ d ds, Dp K H x d ∧ Dp K H y (.tuple ds) ∧ SeqAt.shaped d = true ∧ SeqAt.shaped (.tuple ds) = true ∧ Q (.bl (ds.any fun z => PyData.eqv z d)) H
def rNotInT (K : PySem.W.Frag) : R2 := fun x y H Q => ∃ d ds, Dp K H x d ∧ Dp K H y (.tuple ds) ∧ SeqAt.shaped d = true ∧ SeqAt.shaped (.tuple ds) = true ∧ Q (.bl (!ds.any fun z => PyData.eqv z d)) H
theorem op_inT (hu : X.A.units + 65 < cLine) : OpR X (compareOp .In) (rInT X.K) := by
  intro pins s σ H x y v u Q I rx ry ⟨d, ds, hd, he, sd, se, q⟩
  obtain ⟨_, r1⟩ := Dp.reads I d x v hd rx
  obtain ⟨_, r2⟩ := Dp.reads I (.tuple ds) y u he ry
  exact SeqAt.in_tuple_reads r2 r1 (SeqAt.canLay_of_shaped se) (SeqAt.canLay_of_shaped sd) (room_in_shaped sd hu) ⟨.bl _, H, I, rfl, q⟩
theorem op_notInT (hu : X.A.units + 65 < cLine) : OpR X (compareOp .NotIn) (rNotInT X.K) := by
  intro pins s σ H x y v u Q I rx ry ⟨d, ds, hd, he, sd, se, q⟩
  obtain ⟨_, r1⟩ := Dp.reads I d x v hd rx
  obtain ⟨_, r2⟩ := Dp.reads I (.tuple ds) y u he ry
  exact SeqAt.notIn_tuple_reads r2 r1 (SeqAt.canLay_of_shaped se) (SeqAt.canLay_of_shaped sd) (room_in_shaped sd hu) ⟨.bl _, H, I, rfl, q⟩
/-- the items of a list or a tuple -/
def D.seqP (P : List D → Prop) : D → Prop
  | .lst xs => P xs
  | .tup xs => P xs
  | _ => False
def oIn : DO := fun x y P => (x.fit 59 = true) ∧ y.seqP fun ys => ys.all (D.fit 59) = true ∧ P (.bl (ys.any fun z => z.eqv x))
def oNotIn : DO := fun x y P => (x.fit 59 = true) ∧ y.seqP fun ys => ys.all (D.fit 59) = true ∧ P (.bl (!ys.any fun z => z.eqv x))
theorem pyL_any (x : D) : ∀ ys : List D, (pyL ys).any (fun z => PyData.eqv z x.py) = ys.any fun z => z.eqv x
  | [] => by simp [pyL]
  | y :: ys => by simp only [pyL, List.any_cons, pyL_any x ys]; rfl
theorem do_in (hu : X.A.units + 65 < cLine) : PDO X (compareOp .In) (fun x y H Q => rInD X.K x y H Q ∨ rInT X.K x y H Q) oIn := ⟨(op_inD hu).or (op_inT hu), fun M G ρ σ H x y d e P Q r hx hy hp k => by
  obtain ⟨h1, h2⟩ := hp
  have s1 := fit_shaped (fit_le h1 (by decide : 59 ≤ 60))
  cases e with
  | lst ys =>
    obtain ⟨h2, h3⟩ := h2
    have f : (D.lst ys).fit 60 = true := h2
    have q := hy.dp r.frm.gs 60 f
    have s2 := fit_shaped f
    rw [D.py] at q s2
    exact .inl ⟨d.py, pyL ys, hx.dp r.frm.gs 59 h1, q, s1, s2, by rw [pyL_any]; exact k _ _ G H h3 r (Same.refl G) (.bl _)⟩
  | tup ys =>
    obtain ⟨h2, h3⟩ := h2
    have f : (D.tup ys).fit 60 = true := h2
    have q := hy.dp r.frm.gs 60 f
    have s2 := fit_shaped f
    rw [D.py] at q s2
    exact .inr ⟨d.py, pyL ys, hx.dp r.frm.gs 59 h1, q, s1, s2, by rw [pyL_any]; exact k _ _ G H h3 r (Same.refl G) (.bl _)⟩
  | _ => exact h2.elim⟩
theorem do_notIn (hu : X.A.units + 65 < cLine) : PDO X (compareOp .NotIn) (fun x y H Q => rNotInD X.K x y H Q ∨ rNotInT X.K x y H Q) oNotIn := ⟨(op_notInD hu).or (op_notInT hu), fun M G ρ σ H x y d e P Q r hx hy hp k => by
  obtain ⟨h1, h2⟩ := hp
  have s1 := fit_shaped (fit_le h1 (by decide : 59 ≤ 60))
  cases e with
  | lst ys =>
    obtain ⟨h2, h3⟩ := h2
    have f : (D.lst ys).fit 60 = true := h2
    have q := hy.dp r.frm.gs 60 f
    have s2 := fit_shaped f
    rw [D.py] at q s2
    exact .inl ⟨d.py, pyL ys, hx.dp r.frm.gs 59 h1, q, s1, s2, by rw [pyL_any]; exact k _ _ G H h3 r (Same.refl G) (.bl _)⟩
  | tup ys =>
    obtain ⟨h2, h3⟩ := h2
    have f : (D.tup ys).fit 60 = true := h2
    have q := hy.dp r.frm.gs 60 f
    have s2 := fit_shaped f
    rw [D.py] at q s2
    exact .inr ⟨d.py, pyL ys, hx.dp r.frm.gs 59 h1, q, s1, s2, by rw [pyL_any]; exact k _ _ G H h3 r (Same.refl G) (.bl _)⟩
  | _ => exact h2.elim⟩

/-! ### unary, chains, and, or, not -/
def dUn (f : D → (D → Prop) → Prop) (a : DE) : DE := fun ρ P => a ρ fun x => f x P
def D.intP (P : Int → Prop) : D → Prop
  | .int i => P i
  | _ => False
def D.blP (P : Bool → Prop) : D → Prop
  | .bl i => P i
  | _ => False
theorem D.intP_of {P : Int → Prop} : ∀ {d : D}, d.intP P → ∃ i, d = .int i ∧ P i
  | .int i, h => ⟨i, rfl, h⟩
  | .non, h => h.elim | .bl _, h => h.elim | .str _, h => h.elim | .tup _, h => h.elim | .lst _, h => h.elim | .fn _, h => h.elim | .dct, h => h.elim | .ty _, h => h.elim | .scr _, h => h.elim
theorem D.blP_of {P : Bool → Prop} : ∀ {d : D}, d.blP P → ∃ i, d = .bl i ∧ P i
  | .bl i, h => ⟨i, rfl, h⟩
  | .non, h => h.elim | .int _, h => h.elim | .str _, h => h.elim | .tup _, h => h.elim | .lst _, h => h.elim | .fn _, h => h.elim | .dct, h => h.elim | .ty _, h => h.elim | .scr _, h => h.elim
theorem D.seqP_of {P : List D → Prop} : ∀ {d : D}, d.seqP P → ∃ xs, (d = .lst xs ∨ d = .tup xs) ∧ P xs
  | .lst i, h => ⟨i, .inl rfl, h⟩
  | .tup i, h => ⟨i, .inr rfl, h⟩
  | .non, h => h.elim | .int _, h => h.elim | .str _, h => h.elim | .bl _, h => h.elim | .fn _, h => h.elim | .dct, h => h.elim | .ty _, h => h.elim | .scr _, h => h.elim
theorem d_neg {a : Expr} {ta : TE} {da : DE} {pos : Pos} (h : PDE X a ta da) : PDE X (.UnaryOp .USub a pos) (tUn (rU fun i => .int (-i)) ta) (dUn (fun x P => x.intP fun i => P (.int (-i))) da) := ⟨pe_un un_neg h.pe, fun M G ρ σ H P Q rl hp k => by
  refine h.se M G ρ σ H _ _ rl hp fun x vx G1 H1 p1 r1 s1 q1 => ?_
  obtain ⟨i, rfl, p⟩ := D.intP_of p1
  exact ⟨i, q1.intI, k _ _ G1 H1 p r1 s1 (.int _)⟩⟩
theorem d_not {a : Expr} {ta : TE} {da : DE} {pos : Pos} (h : PDE X a ta da) : PDE X (.UnaryOp .Not a pos) (tNotV ta) (dUn (fun x P => x.blP fun i => P (.bl (!i))) da) := ⟨pe_not h.pe, fun M G ρ σ H P Q rl hp k => by
  refine h.se M G ρ σ H _ _ rl hp fun x vx G1 H1 p1 r1 s1 q1 => ?_
  obtain ⟨i, rfl, p⟩ := D.blP_of p1
  exact ⟨i, q1.blI, k _ _ G1 H1 p r1 s1 (.bl _)⟩⟩
def dCh (f f' : DO) (a b c : DE) : DE := fun ρ P => a ρ fun x => b ρ fun y => f x y fun z => z.blP fun t => if t = true then c ρ fun w => f' y w P else P (.bl false)
theorem d_chain {op op' : CmpOp} {r r' : R2} {f f' : DO} {a b c : Expr} {ta tb tc : TE} {da db dc : DE} {pos : Pos} (h : PDO X (compareOp op) r f) (h' : PDO X (compareOp op') r' f') (ha : PDE X a ta da) (hb : PDE X b tb db) (hc : PDE X c tc dc)
    (hm : lastMarks [op, op'] [b, c] = false := by with_unfolding_all rfl) : PDE X (.Compare a [op, op'] [b, c] pos) (tChain r r' ta tb tc) (dCh f f' da db dc) := ⟨pe_chain h.pe h'.pe ha.pe hb.pe hc.pe hm, fun M G ρ σ H P Q rl hp k => by
  refine ha.se M G ρ σ H _ _ rl hp fun x vx G1 H1 p1 r1 s1 q1 => ?_
  refine hb.se M G1 ρ σ H1 _ _ r1 p1 fun y vy G2 H2 p2 r2 s2 q2 => ?_
  refine h.se M G2 ρ σ H2 vx vy x y _ _ r2 (q1.mono s2) q2 p2 fun z vz G3 H3 p3 r3 s3 q3 => ?_
  obtain ⟨t, rfl, p⟩ := D.blP_of p3
  refine ⟨t, q3.blI, ?_⟩
  cases t with
  | false => exact iteF (k _ _ G3 H3 (by simpa using p) r3 (s1.trans (s2.trans s3)) (.bl _))
  | true =>
    refine iteT (hc.se M G3 ρ σ H3 _ _ r3 (by simpa using p) fun w vw G4 H4 p4 r4 s4 q4 => ?_)
    exact h'.se M G4 ρ σ H4 vy vw y w _ _ r4 ((q2.mono s3).mono s4) q4 p4 fun d v G5 H5 p5 r5 s5 q5 => k _ _ G5 H5 p5 r5 (s1.trans (s2.trans (s3.trans (s4.trans s5)))) q5⟩
def dAndV (a b : DE) : DE := fun ρ P => a ρ fun x => x.blP fun c => if c = true then b ρ P else P (.bl false)
def dOrV (a b : DE) : DE := fun ρ P => a ρ fun x => x.blP fun c => if c = true then P (.bl true) else b ρ P
theorem d_one {op : BoolOp} {a : Expr} {ta : TE} {da : DE} {pos : Pos} (h : PDE X a ta da) : PDE X (.BoolOp op [a] pos) ta da := ⟨pe_one h.pe, h.se⟩
theorem d_and {a b : Expr} {rest : List Expr} {ta tb : TE} {da db : DE} {pos : Pos} (ha : PDE X a ta da) (hb : PDE X (.BoolOp .And (b :: rest) pos) tb db) : PDE X (.BoolOp .And (a :: b :: rest) pos) (tAndV ta tb) (dAndV da db) := ⟨pe_and ha.pe hb.pe, fun M G ρ σ H P Q rl hp k => by
  refine ha.se M G ρ σ H _ _ rl hp fun x vx G1 H1 p1 r1 s1 q1 => ?_
  obtain ⟨c, rfl, p⟩ := D.blP_of p1
  refine ⟨c, q1.blI, ?_⟩
  cases c with
  | true => exact iteT (hb.se M G1 ρ σ H1 _ _ r1 (by simpa using p) fun d v G2 H2 p2 r2 s2 q2 => k _ _ G2 H2 p2 r2 (s1.trans s2) q2)
  | false => exact iteF (k _ _ G1 H1 (by simpa using p) r1 s1 (.bl _))⟩
theorem d_or {a b : Expr} {rest : List Expr} {ta tb : TE} {da db : DE} {pos : Pos} (ha : PDE X a ta da) (hb : PDE X (.BoolOp .Or (b :: rest) pos) tb db) : PDE X (.BoolOp .Or (a :: b :: rest) pos) (tOrV ta tb) (dOrV da db) := ⟨pe_or ha.pe hb.pe, fun M G ρ σ H P Q rl hp k => by
  refine ha.se M G ρ σ H _ _ rl hp fun x vx G1 H1 p1 r1 s1 q1 => ?_
  obtain ⟨c, rfl, p⟩ := D.blP_of p1
  refine ⟨c, q1.blI, ?_⟩
  cases c with
  | true => exact iteT (k _ _ G1 H1 (by simpa using p) r1 s1 (.bl _))
  | false => exact iteF (hb.se M G1 ρ σ H1 _ _ r1 (by simpa using p) fun d v G2 H2 p2 r2 s2 q2 => k _ _ G2 H2 p2 r2 (s1.trans s2) q2)⟩
/-! tests -/
def dTest (a : DE) : DT := fun ρ P => a ρ fun x => x.blP P
theorem t_val {e : Expr} {t : TE} {d : DE} (h : PDE X e t d) (he : ∀ whole, isTrue e X.env whole = (do let v ← whole; standAt e.pos; holding [v] (truthy v)) := by intro _; rfl) : PDT X e (tB t) (dTest d) := ⟨pt_val h.pe he, fun M G ρ σ H P Q rl hp k => by
  refine h.se M G ρ σ H _ _ rl hp fun x vx G1 H1 p1 r1 s1 q1 => ?_
  obtain ⟨c, rfl, p⟩ := D.blP_of p1
  exact ⟨c, q1.blI, k c G1 H1 p r1 s1⟩⟩
theorem t_cmp {op : CmpOp} {r : R2} {f : DO} {a b : Expr} {ta tb : TE} {da db : DE} {pos : Pos} (h : PDO X (compareOp op) r f) (ha : PDE X a ta da) (hb : PDE X b tb db) (hm : behindInMarks op b = false) : PDT X (.Compare a [op] [b] pos) (tTest (tOp r ta tb)) (dTest (dBin f da db)) :=
  ⟨pt_cmpR h.pe ha.pe hb.pe hm, fun M G ρ σ H P Q rl hp k => by
    refine se_bin h.se ha.se hb.se M G ρ σ H _ _ rl hp fun x vx G1 H1 p1 r1 s1 q1 => ?_
    obtain ⟨c, rfl, p⟩ := D.blP_of p1
    exact ⟨c, q1.blI, k c G1 H1 p r1 s1⟩⟩
theorem t_chain {op op' : CmpOp} {r r' : R2} {f f' : DO} {a b c : Expr} {ta tb tc : TE} {da db dc : DE} {pos : Pos} (h : PDO X (compareOp op) r f) (h' : PDO X (compareOp op') r' f') (ha : PDE X a ta da) (hb : PDE X b tb db) (hc : PDE X c tc dc)
    (hm : lastMarks [op, op'] [b, c] = false := by with_unfolding_all rfl) : PDT X (.Compare a [op, op'] [b, c] pos) (tTest (tChain r r' ta tb tc)) (dTest (dCh f f' da db dc)) := ⟨pt_chain h.pe h'.pe ha.pe hb.pe hc.pe hm, fun M G ρ σ H P Q rl hp k => by
    refine (d_chain (pos := pos) h h' ha hb hc hm).se M G ρ σ H _ _ rl hp fun x vx G1 H1 p1 r1 s1 q1 => ?_
    obtain ⟨c, rfl, p⟩ := D.blP_of p1
    exact ⟨c, q1.blI, k c G1 H1 p r1 s1⟩⟩
def dTNot (a : DT) : DT := fun ρ P => a ρ fun c => P (!c)
def dTAnd (a b : DT) : DT := fun ρ P => a ρ fun c => if c = true then b ρ P else P false
def dTOr (a b : DT) : DT := fun ρ P => a ρ fun c => if c = true then P true else b ρ P
theorem t_not {a : Expr} {t : TT} {d : DT} {pos : Pos} (h : PDT X a t d) : PDT X (.UnaryOp .Not a pos) (tNot t) (dTNot d) := ⟨pt_not h.pe, fun M G ρ σ H P Q rl hp k =>
  h.se M G ρ σ H _ _ rl hp fun c G1 H1 p1 r1 s1 => k _ G1 H1 p1 r1 s1⟩
theorem w_and1 {a : Expr} {t : TT} {d : DT} {pos : Pos} (h : PDT X a t d) : PDW X (.BoolOp .And [a] pos) t d := ⟨pw_and1 h.pe, h.se⟩
theorem w_or1 {a : Expr} {t : TT} {d : DT} {pos : Pos} (h : PDT X a t d) : PDW X (.BoolOp .Or [a] pos) t d := ⟨pw_or1 h.pe, h.se⟩
theorem w_and {a b : Expr} {rest : List Expr} {ta tb : TT} {da db : DT} {pos : Pos} (ha : PDT X a ta da) (hb : PDW X (.BoolOp .And (b :: rest) pos) tb db) : PDW X (.BoolOp .And (a :: b :: rest) pos) (tAnd ta tb) (dTAnd da db) := ⟨pw_and ha.pe hb.pe, fun M G ρ σ H P Q rl hp k => by
  refine ha.se M G ρ σ H _ _ rl hp fun c G1 H1 p1 r1 s1 => ?_
  cases c with
  | true => exact iteT (hb.se M G1 ρ σ H1 _ _ r1 (by simpa using p1) fun d G2 H2 p2 r2 s2 => k _ G2 H2 p2 r2 (s1.trans s2))
  | false => exact iteF (k _ G1 H1 (by simpa using p1) r1 s1)⟩
theorem w_or {a b : Expr} {rest : List Expr} {ta tb : TT} {da db : DT} {pos : Pos} (ha : PDT X a ta da) (hb : PDW X (.BoolOp .Or (b :: rest) pos) tb db) : PDW X (.BoolOp .Or (a :: b :: rest) pos) (tOr ta tb) (dTOr da db) := ⟨pw_or ha.pe hb.pe, fun M G ρ σ H P Q rl hp k => by
  refine ha.se M G ρ σ H _ _ rl hp fun c G1 H1 p1 r1 s1 => ?_
  cases c with
  | true => exact iteT (k _ G1 H1 (by simpa using p1) r1 s1)
  | false => exact iteF (hb.se M G1 ρ σ H1 _ _ r1 (by simpa using p1) fun d G2 H2 p2 r2 s2 => k _ G2 H2 p2 r2 (s1.trans s2))⟩
theorem PDW.t {e : Expr} {t : TT} {d : DT} (h : PDW X e t d) : PDT X e t d := ⟨h.pe.pt, h.se⟩
def dIf (c : DT) (a b : DE) : DE := fun ρ P => c ρ fun t => if t = true then a ρ P else b ρ P
theorem d_if {c a b : Expr} {tc : TT} {ta tb : TE} {dc : DT} {da db : DE} {pos : Pos} (hc : PDT X c tc dc) (ha : PDE X a ta da) (hb : PDE X b tb db) : PDE X (.IfExp c a b pos) (tIf tc ta tb) (dIf dc da db) := ⟨pe_ifExp hc.pe ha.pe hb.pe, fun M G ρ σ H P Q rl hp k => by
  refine hc.se M G ρ σ H _ _ rl hp fun c G1 H1 p1 r1 s1 => ?_
  cases c with
  | true => exact iteT (ha.se M G1 ρ σ H1 _ _ r1 (by simpa using p1) fun d v G2 H2 p2 r2 s2 q2 => k _ _ G2 H2 p2 r2 (s1.trans s2) q2)
  | false => exact iteF (hb.se M G1 ρ σ H1 _ _ r1 (by simpa using p1) fun d v G2 H2 p2 r2 s2 q2 => k _ _ G2 H2 p2 r2 (s1.trans s2) q2)⟩

/-! ### argument lists, displays -/
def dNil : DA := fun _ P => P []
def dCons (a : DE) (r : DA) : DA := fun ρ P => a ρ fun x => r ρ fun xs => P (x :: xs)
def dStar (a : DE) (r : DA) : DA := fun ρ P => a ρ fun x => x.seqP fun ys => r ρ fun xs => P (ys ++ xs)
theorem a_nil : PDA X [] tNil dNil := ⟨pa_nil, fun M G ρ σ H P Q rl hp k => k [] [] G H hp rl (Same.refl G) .nil⟩
theorem a_cons {e : Expr} {es : List Expr} {te : TE} {t : TA} {de : DE} {d : DA} (h : PDE X e te de) (hr : PDA X es t d) (hs : starEach (e :: es) X.env = (false, eval e X.env) :: starEach es X.env := by rfl) : PDA X (e :: es) (tCons te t) (dCons de d) := ⟨pa_cons h.pe hr.pe hs, fun M G ρ σ H P Q rl hp k => by
  refine h.se M G ρ σ H _ _ rl hp fun x vx G1 H1 p1 r1 s1 q1 => ?_
  exact hr.se M G1 ρ σ H1 _ _ r1 p1 fun xs vs G2 H2 p2 r2 s2 q2 => k _ _ G2 H2 p2 r2 (s1.trans s2) (.cons (q1.mono s2) q2)⟩
theorem a_star {e : Expr} {es : List Expr} {te : TE} {t : TA} {de : DE} {d : DA} {p : Pos} (h : PDE X e te de) (hr : PDA X es t d) (hs : starEach (.Starred e p :: es) X.env = (true, eval e X.env) :: starEach es X.env := by rfl) : PDA X (.Starred e p :: es) (StX.tStar X.K te t) (dStar de d) := ⟨StX.pa_star h.pe hr.pe hs, fun M G ρ σ H P Q rl hp k => by
  refine h.se M G ρ σ H _ _ rl hp fun x vx G1 H1 p1 r1 s1 q1 => ?_
  obtain ⟨ys, e, p⟩ := D.seqP_of p1
  rcases e with rfl | rfl
  · obtain ⟨a, vs, rfl, h1, h2⟩ := q1.lstI
    exact ⟨a, vs, rfl, .inr (.inl (same_rd r1.frm.gs h1)), hr.se M G1 ρ σ H1 _ _ r1 p fun xs ws G2 H2 p2 r2 s2 q2 => k _ _ G2 H2 p2 r2 (s1.trans s2) ((h2.mono s2).app q2)⟩
  · obtain ⟨a, vs, rfl, h1, h2⟩ := q1.tupI
    exact ⟨a, vs, rfl, .inl (same_sqT r1.frm.gs h1), hr.se M G1 ρ σ H1 _ _ r1 p fun xs ws G2 H2 p2 r2 s2 q2 => k _ _ G2 H2 p2 r2 (s1.trans s2) ((h2.mono s2).app q2)⟩⟩
def dTup (a : DA) : DE := fun ρ P => a ρ fun xs => xs.length ≤ sizeLine ∧ P (.tup xs)
def dLstF (a : DA) : DA := fun ρ P => a ρ fun xs => xs.length ≤ sizeLine ∧ P xs
theorem d_tup {es : List Expr} {t : TA} {d : DA} {pos : Pos} {x1} (h : PDA X es t d) : PDE X (.Tuple es x1 pos) (tTup t) (dTup d) := ⟨pe_tup h.pe, fun M G ρ σ H P Q rl hp k =>
  h.se M G ρ σ H _ _ rl hp fun xs vs G1 H1 p1 r1 s1 q1 => ⟨by rw [q1.len]; exact p1.1, fun p hn =>
    k _ _ _ _ p1.2 (r1.new hn) (s1.trans (same_upd (r1.frm.gs.free hn))) (.tup (.inl (.inl upd_same)) (q1.mono (same_upd (r1.frm.gs.free hn))))⟩⟩
theorem f_lst {es : List Expr} {t : TA} {d : DA} {pos : Pos} (h : PDA X es t d) : PDF X (.List es pos) (tLst t) (dLstF d) := ⟨pe_lst h.pe, fun M G ρ σ H P Q rl hp k =>
  h.se M G ρ σ H _ _ rl hp fun xs vs G1 H1 p1 r1 s1 q1 => ⟨by rw [q1.len]; exact p1.1, fun p hn => k _ _ p G1 H1 p1.2 r1 s1 q1 hn⟩⟩
end


section
variable {X : Cx} {K : PySem.W.Frag}
/-! ### subscripts -/
def optP {α : Type} (P : α → Prop) : Option α → Prop
  | some a => P a
  | none => False
theorem optP_of {α : Type} {P : α → Prop} : ∀ {o : Option α}, optP P o → ∃ a, o = some a ∧ P a
  | some a, h => ⟨a, rfl, h⟩
  | none, h => h.elim
def oIx : DO := fun x y P => y.intP fun i => x.seqP fun xs => optP P (atI xs i)
theorem RpL.atI {G : Hp} {vs : List V} {ds : List D} {i : Int} {d : D} (r : RpL K G vs ds) (h : L2.atI ds i = some d) : ∃ v, L2.atI vs i = some v ∧ Rp K G v d := by
  unfold L2.atI at h ⊢
  rw [r.len]
  cases e : ixN ds.length i with
  | none => rw [e] at h; cases h
  | some j =>
    rw [e] at h
    exact r.get h
theorem ix_pe : IxR X (fun x y H Q => rIxL X.K x y H Q ∨ rIxT X.K x y H Q) := ix_list.or ix_tup
theorem ix_se : SOp K (fun x y H Q => rIxL K x y H Q ∨ rIxT K x y H Q) oIx := fun M G ρ σ H x y d e P Q r hx hy hp k => by
  obtain ⟨i, rfl, hp1⟩ := D.intP_of hp
  obtain ⟨xs, ex, hp2⟩ := D.seqP_of hp1
  obtain ⟨z, ez, hp3⟩ := optP_of hp2
  rcases ex with rfl | rfl
  · obtain ⟨a, vs, rfl, h1, h2⟩ := hx.lstI
    obtain ⟨v, ev, rv⟩ := h2.atI ez
    exact .inl ⟨a, vs, i, v, rfl, hy.intI, .inl (same_rd r.frm.gs h1), ev, k _ _ G H hp3 r (Same.refl G) rv⟩
  · obtain ⟨a, vs, rfl, h1, h2⟩ := hx.tupI
    obtain ⟨v, ev, rv⟩ := h2.atI ez
    exact .inr ⟨a, vs, i, v, rfl, hy.intI, same_sqT r.frm.gs h1, ev, k _ _ G H hp3 r (Same.refl G) rv⟩
theorem d_ix {a b : Expr} {ta tb : TE} {da db : DE} {pos : Pos} (ha : PDE X a ta da) (hb : PDE X b tb db) (hs : PlainIx b := by exact fun _ _ => rfl) : PDE X (.Subscript a b pos) (tOp (fun x y H Q => rIxL X.K x y H Q ∨ rIxT X.K x y H Q) ta tb) (dBin oIx da db) :=
  ⟨pe_ix ix_pe ha.pe hb.pe hs, se_bin ix_se ha.se hb.se⟩
/-! ### slices -/
abbrev DP := Env → (Option Int → Prop) → Prop
def SPt (K : PySem.W.Frag) (t : TO) (d : DP) : Prop := ∀ (M : Fm) (G : Hp) (ρ : Env) (σ : L2.St) (H : Hp) (P : Option Int → Prop) (Q : Option Int → Hp → Prop), Rel K M G ρ σ H → d ρ P →
  (∀ o G' H', P o → Rel K M G' ρ σ H' → Same G G' → Q o H') → t σ H Q
structure PDP (X : Cx) (e : Option Expr) (t : TO) (d : DP) : Prop where
  pe : PO X e t
  se : SPt X.K t d
def dNoP : DP := fun _ P => P none
def dPart (a : DE) : DP := fun ρ P => a ρ fun x => x.intP fun i => P (some i)
theorem p_none : PDP X none tNoPart dNoP := ⟨po_none, fun M G ρ σ H P Q rl hp k => k none G H hp rl (Same.refl G)⟩
theorem p_some {e : Expr} {t : TE} {d : DE} (h : PDE X e t d) : PDP X (some e) (tPart t) (dPart d) := ⟨po_some h.pe, fun M G ρ σ H P Q rl hp k => by
  refine h.se M G ρ σ H _ _ rl hp fun x vx G1 H1 p1 r1 s1 q1 => ?_
  obtain ⟨i, rfl, p⟩ := D.intP_of p1
  exact ⟨i, q1.intI, k _ G1 H1 p r1 s1⟩⟩
def cut {α : Type} (xs : List α) (lo hi : Option Int) : List α := (xs.drop (HT.sIx xs.length 0 lo)).take (HT.sIx xs.length xs.length hi - HT.sIx xs.length 0 lo)
theorem cut_len {α : Type} (xs : List α) (lo hi : Option Int) : (cut xs lo hi).length ≤ xs.length := by
  unfold cut; rw [List.length_take, List.length_drop]; omega
theorem cut_all {α : Type} {xs : List α} {lo hi : Option Int} (h1 : HT.sIx xs.length 0 lo = 0) (h2 : HT.sIx xs.length xs.length hi = xs.length) : cut xs lo hi = xs := by
  unfold cut; rw [h1, h2]; simp
theorem RpL.cut {G : Hp} {vs : List V} {ds : List D} (r : RpL K G vs ds) (lo hi : Option Int) : RpL K G (cutV vs lo hi) (PD.cut ds lo hi) := by
  unfold cutV PD.cut
  rw [r.len]
  exact (r.drop _).take _
def dSl (a : DE) (l h : DP) : DE := fun ρ P => a ρ fun x => l ρ fun lo => h ρ fun hi => match x with
  | .tup xs => P (.tup (cut xs lo hi))
  | .lst xs => P (.lst (cut xs lo hi))
  | _ => False
theorem d_sl {a : Expr} {lo hi : Option Expr} {ta : TE} {tl th : TO} {da : DE} {dl dh : DP} {p2 pos : Pos} (ha : PDE X a ta da) (hl : PDP X lo tl dl) (hh : PDP X hi th dh) :
    PDE X (.Subscript a (.Slice lo hi none p2) pos) (tSl (fun x l u H Q => rSlA X.K x l u H Q ∨ rSlL X.K x l u H Q) ta tl th) (dSl da dl dh) := ⟨pe_slice (sl_tupA.or sl_list) ha.pe hl.pe hh.pe, fun M G ρ σ H P Q rl hp k => by
  refine ha.se M G ρ σ H _ _ rl hp fun x vx G1 H1 p1 r1 s1 q1 => ?_
  refine hl.se M G1 ρ σ H1 _ _ r1 p1 fun l G2 H2 p2 r2 s2 => ?_
  refine hh.se M G2 ρ σ H2 _ _ r2 p2 fun h G3 H3 p3 r3 s3 => ?_
  have q1 := q1.mono (s2.trans s3)
  have s := s1.trans (s2.trans s3)
  split at p3
  · obtain ⟨a, vs, rfl, h1, h2⟩ := q1.tupI
    refine .inl ⟨a, vs, rfl, same_sqT r3.frm.gs h1, fun z => ?_, fun z p hn => ?_⟩
    · rw [cut_all (by rw [← h2.len]; exact z.1) (by rw [← h2.len]; exact z.2)] at p3
      exact k _ _ G3 H3 p3 r3 s q1
    · exact k _ _ _ _ p3 (r3.new hn) (s.trans (same_upd (r3.frm.gs.free hn))) (.tup (.inl (.inl upd_same)) ((h2.cut l h).mono (same_upd (r3.frm.gs.free hn))))
  · obtain ⟨a, vs, rfl, h1, h2⟩ := q1.lstI
    exact .inr ⟨a, vs, rfl, .inl (same_rd r3.frm.gs h1), fun p hn => k _ _ _ _ p3 (r3.new hn) (s.trans (same_upd (r3.frm.gs.free hn))) (.lst (.inl upd_same) ((h2.cut l h).mono (same_upd (r3.frm.gs.free hn))))⟩
  · exact p3.elim⟩

/-! ### calls of the text's defs -/
/-- a def's promise over plain data: pre tells, of the arguments, what is asked of them and what is said of the answer -/
abbrev Pre := List D → (D → Prop) → Prop
def spP (K : PySem.W.Frag) (n : Nat) (pre : Pre) : Sp := fun vs H Q _ => ∃ (G : Hp) (ds : List D) (P : D → Prop), ds.length = n ∧ Same G H ∧ RpL K G vs ds ∧ pre ds P ∧
  ∀ d v G' H', P d → Same G G' → Same G' H' → Same H H' → (∀ b, H b ≠ none → G b = none → G' b = none) → Rp K G' v d → Q v H'
/-- .. the first argument is the urn -/
def spU (K : PySem.W.Frag) (n : Nat) (pre : Pre) : Sp := fun vs H Q _ => ∃ (G : Hp) (u : Addr) (ws : List V) (ds : List D) (P : D → Prop), vs = .ref u :: ws ∧ ds.length = n ∧ G u = none ∧ UrnOk H u ∧ Same G H ∧ RpL K G ws ds ∧ pre ds P ∧
  ∀ d v G' H', P d → Same G G' → Same G' H' → G' u = none → UrnOk H' u → (∀ b o, b ≠ u → H b = some o → H' b = some o) → (∀ b, H b ≠ none → G b = none → G' b = none) → Rp K G' v d → Q v H'
/-- behind a call that leaves all as it stood -/
theorem Rel.after {M : Fm} {G G' H H' : Hp} {ρ : Env} {σ : L2.St} (r : Rel K M G ρ σ H) (g : Same G G') (gh : Same G' H') (hh : Same H H') (n : ∀ b, H b ≠ none → G b = none → G' b = none) : Rel K M G' ρ σ H' where
  frm := by
    refine ⟨gh, fun b o e => hh b o (r.frm.fs b o e), fun b hb => n b ?_ (r.frm.lk b hb), r.frm.lf, fun u hu => ?_⟩
    · intro z
      exact r.frm.lf b hb (r.frm.fs.free z)
    · obtain ⟨h1, h2, x, y, z, h3⟩ := r.frm.ur u hu
      exact ⟨h1, n u (by rw [h3]; simp) h2, x, y, z, hh _ _ h3⟩
  len := r.len
  sl := fun i s e => (r.sl i s e).grow g fun a vs h1 h2 h3 h4 => ⟨n a (by rw [h4]; simp) h1, hh _ _ h4⟩
  sep := r.sep
theorem Rel.afterU {M : Fm} {G G' H H' : Hp} {ρ : Env} {σ : L2.St} {u : Addr} (r : Rel K M G ρ σ H) (hu : M.U = some u) (g : Same G G') (gh : Same G' H') (gu : G' u = none) (ok : UrnOk H' u) (hh : ∀ b o, b ≠ u → H b = some o → H' b = some o) (n : ∀ b, H b ≠ none → G b = none → G' b = none) : Rel K M G' ρ σ H' where
  frm := by
    obtain ⟨hF, hG, x, y, z, h3⟩ := r.frm.ur u hu
    refine ⟨gh, fun b o e => hh b o (ne_of_none e hF) (r.frm.fs b o e), fun b hb => n b ?_ (r.frm.lk b hb), r.frm.lf, fun u' hu' => ?_⟩
    · intro z
      exact r.frm.lf b hb (r.frm.fs.free z)
    · rw [hu] at hu'; cases hu'
      exact ⟨hF, gu, ok⟩
  len := r.len
  sl := fun i s e => (r.sl i s e).grow g fun a vs h1 h2 h3 h4 => ⟨n a (by rw [h4]; simp) h1, hh _ _ (fun z => h3 (by rw [hu, z])) h4⟩
  sep := r.sep
def dCall (n : Nat) (pre : Pre) (a : DA) : DE := fun ρ P => a ρ fun ds => ds.length = n ∧ pre ds P
theorem se_call {n : Nat} {pre : Pre} {t : TA} {d : DA} {E : XK} (h : SA K t d) : SE K (tCall (spP K n pre) [] E t) (dCall n pre d) := fun M G ρ σ H P Q rl hp k => by
  refine h M G ρ σ H _ _ rl hp fun xs vs G1 H1 p1 r1 s1 q1 => ?_
  show spP K n pre (vs ++ []) H1 Q E
  rw [List.append_nil]
  exact ⟨G1, xs, P, p1.1, r1.frm.gs, q1, p1.2, fun d v G' H' p g gh hh nw q => k d v G' H' p (r1.after g gh hh nw) (s1.trans g) q⟩
/-- the urn, then data -/
structure PDU (X : Cx) (es : List Expr) (t : TA) (d : DA) : Prop where
  pe : PA X es t
  se : ∀ (M : Fm) (G : Hp) (ρ : Env) (σ : L2.St) (H : Hp) (P : List D → Prop) (Q : List V → Hp → Prop), Rel X.K M G ρ σ H → d ρ P →
    (∀ u ds vs G' H', M.U = some u → P ds → Rel X.K M G' ρ σ H' → Same G G' → RpL X.K G' vs ds → Q (.ref u :: vs) H') → t σ H Q
def Sl.urP (P : Prop) : Sl → Prop
  | .ur => P
  | _ => False
theorem Sl.urP_of {P : Prop} : ∀ {s : Sl}, s.urP P → s = .ur ∧ P
  | .ur, h => ⟨rfl, h⟩
  | .no, h => h.elim
  | .ow _, h => h.elim
  | .fz _, h => h.elim
def dUrn (i : Nat) (r : DA) : DA := fun ρ P => (sat ρ i).urP (r ρ P)
theorem u_cons (i : Nat) {x : Str} {p : Pos} {es : List Expr} {t : TA} {d : DA} (hr : PDA X es t d) (hN : X.N[i]? = some x := by rfl) (hv : Vis X.env.scope x := by first | exact Or.inl rfl | exact Or.inr (Or.inl rfl) | exact Or.inr (Or.inr rfl)) (hd : (x == ("__debug__" : Str)) = false := by decide)
    (hcd : (x == ("__classdict__" : Str)) = false := by decide) (hs : starEach (.Name x p :: es) X.env = (false, eval (.Name x p) X.env) :: starEach es X.env := by rfl) : PDU X (.Name x p :: es) (tCons (tVar i) t) (dUrn i d) := ⟨pa_cons (pe_var hN hv hd hcd) hr.pe hs, fun M G ρ σ H P Q rl hp k => by
  obtain ⟨e, hp⟩ := Sl.urP_of hp
  obtain ⟨u, hu, ev⟩ := rl.sl i _ (sat_get e (fun z => nomatch z))
  exact ⟨.ref u, ev, hr.se M G ρ σ H _ _ rl hp fun ds vs G' H' p r s q => k u ds vs G' H' hu p r s q⟩⟩
theorem se_callU {n : Nat} {pre : Pre} {es : List Expr} {t : TA} {d : DA} {E : XK} (h : PDU X es t d) : SE X.K (tCall (spU X.K n pre) [] E t) (dCall n pre d) := fun M G ρ σ H P Q rl hp k => by
  refine h.se M G ρ σ H _ _ rl hp fun u xs vs G1 H1 hu p1 r1 s1 q1 => ?_
  show spU X.K n pre ((.ref u :: vs) ++ []) H1 Q E
  rw [List.append_nil]
  obtain ⟨_, gu, ok⟩ := r1.frm.ur u hu
  exact ⟨G1, u, vs, xs, P, rfl, p1.1, gu, ok, r1.frm.gs, q1, p1.2, fun d v G' H' p g gh gu' ok' hh nw q => k d v G' H' p (r1.afterU hu g gh gu' ok' hh nw) (s1.trans g) q⟩
/-- what a caller must know of a def -/
structure Def (P : Program) (w : World) (K : PySem.W.Frag) (mg : Str → Option Value) (base : Heap) (x : Str) (ps : List Str) (k : Nat) (sp : Sp) : Prop where
  ex : ∃ (f : Addr) (fd : FuncData), mg x = some (.ref f) ∧ FnOk P w K mg base CX0 k f fd ps sp ∧ PySem.W.keepIn K (.ref f) = true ∧ Binds K fd ps []
theorem d_call {x : Str} {ps : List Str} {k n : Nat} {pre : Pre} {e : Expr} {es : List Expr} {t : TA} {d : DA} {p pos : Pos} (F : Def X.prog X.w X.K X.mg X.base x ps k (spP X.K n pre)) (hr : Room k X.A) (hg : Gl X x) (ha : PDA X (e :: es) t d)
    (hdb : (x == ("__debug__" : Str)) = false := by decide) (he : starEach (e :: es) X.env = (false, eval e X.env) :: starEach es X.env := by rfl) (hpl : (backTo pos (starEach es X.env)).any (·.1) = false := by rfl) :
    PDE X (.Call (.Name x p) (e :: es) [] pos) (tCall (spP X.K n pre) [] E0 t) (dCall n pre d) := by
  obtain ⟨f, fd, hm, F, hk, hb⟩ := F.ex
  exact ⟨pe_call F hr hg hm hk hb .nil pass0 ha.pe hdb he hpl, se_call ha.se⟩
theorem d_callU {x : Str} {ps : List Str} {k n : Nat} {pre : Pre} {e : Expr} {es : List Expr} {t : TA} {d : DA} {p pos : Pos} (F : Def X.prog X.w X.K X.mg X.base x ps k (spU X.K n pre)) (hr : Room k X.A) (hg : Gl X x) (ha : PDU X (e :: es) t d)
    (hdb : (x == ("__debug__" : Str)) = false := by decide) (he : starEach (e :: es) X.env = (false, eval e X.env) :: starEach es X.env := by rfl) (hpl : (backTo pos (starEach es X.env)).any (·.1) = false := by rfl) :
    PDE X (.Call (.Name x p) (e :: es) [] pos) (tCall (spU X.K n pre) [] E0 t) (dCall n pre d) := by
  obtain ⟨f, fd, hm, F, hk, hb⟩ := F.ex
  exact ⟨pe_call F hr hg hm hk hb .nil pass0 ha.pe hdb he hpl, se_callU ha⟩

/-! ### built-ins -/
abbrev DC := List D → (D → Prop) → Prop
def SC (K : PySem.W.Frag) (r : List V → Hp → VK → Prop) (f : DC) : Prop := ∀ (M : Fm) (G : Hp) (ρ : Env) (σ : L2.St) (H : Hp) (vs : List V) (ds : List D) (P : D → Prop) (Q : VK), Rel K M G ρ σ H → RpL K G vs ds → f ds P →
  (∀ d v G' H', P d → Rel K M G' ρ σ H' → Same G G' → Rp K G' v d → Q v H') → r vs H Q
structure PDC (X : Cx) (fv : Value) (r : List V → Hp → VK → Prop) (f : DC) : Prop where
  pe : CallR X fv r
  se : SC X.K r f
def dCB (f : DC) (a : DA) : DE := fun ρ P => a ρ fun ds => f ds P
theorem se_cb {r : List V → Hp → VK → Prop} {f : DC} {t : TA} {d : DA} (h : SC K r f) (ha : SA K t d) : SE K (tCB r t) (dCB f d) := fun M G ρ σ H P Q rl hp k => by
  refine ha M G ρ σ H _ _ rl hp fun xs vs G1 H1 p1 r1 s1 q1 => ?_
  exact h M G1 ρ σ H1 vs xs P Q r1 q1 p1 fun d v G' H' p r s q => k d v G' H' p r (s1.trans s) q
theorem d_blt {id : String} {x : Str} {r : List V → Hp → VK → Prop} {f : DC} {e : Expr} {es : List Expr} {t : TA} {d : DA} {p pos : Pos} (h : PDC X (.builtin id) r f) (hg : Gl X x) (hm : X.mg x = none) (hv : bootBuiltins x = some (.builtin id)) (ha : PDA X (e :: es) t d)
    (hn : x ≠ "__name__" := by decide) (hdb : (x == ("__debug__" : Str)) = false := by decide) (he : starEach (e :: es) X.env = (false, eval e X.env) :: starEach es X.env := by rfl) (hpl : (backTo pos (starEach es X.env)).any (·.1) = false := by rfl) :
    PDE X (.Call (.Name x p) (e :: es) [] pos) (tCB r t) (dCB f d) := ⟨pe_callB h.pe hg hm hv ha.pe hn hdb he hpl, se_cb h.se ha.se⟩
theorem d_bty {T : String} {x : Str} {r : List V → Hp → VK → Prop} {f : DC} {e : Expr} {es : List Expr} {t : TA} {d : DA} {p pos : Pos} (h : PDC X (.type T) r f) (hg : Gl X x) (hm : X.mg x = none) (hv : bootBuiltins x = some (.type T)) (ha : PDA X (e :: es) t d)
    (hn : x ≠ "__name__" := by decide) (hdb : (x == ("__debug__" : Str)) = false := by decide) (he : starEach (e :: es) X.env = (false, eval e X.env) :: starEach es X.env := by rfl) (hpl : (backTo pos (starEach es X.env)).any (·.1) = false := by rfl) :
    PDE X (.Call (.Name x p) (e :: es) [] pos) (tCB r t) (dCB f d) := ⟨pe_callTy h.pe hg hm hv ha.pe hn hdb he hpl, se_cb h.se ha.se⟩
/-- one argument -/
def one1 (f : D → (D → Prop) → Prop) : DC := fun ds P => match ds with
  | [x] => f x P
  | _ => False
def two2 (f : DO) : DC := fun ds P => match ds with
  | [x, y] => f x y P
  | _ => False
theorem one1_of {f : D → (D → Prop) → Prop} {ds : List D} {P : D → Prop} (h : one1 f ds P) : ∃ x, ds = [x] ∧ f x P := by
  unfold one1 at h; split at h
  · exact ⟨_, rfl, h⟩
  · exact h.elim
theorem two2_of {f : DO} {ds : List D} {P : D → Prop} (h : two2 f ds P) : ∃ x y, ds = [x, y] ∧ f x y P := by
  unfold two2 at h; split at h
  · exact ⟨_, _, rfl, h⟩
  · exact h.elim
theorem RpL.oneI {G : Hp} {vs : List V} {d : D} (h : RpL K G vs [d]) : ∃ v, vs = [v] ∧ Rp K G v d := by
  obtain ⟨v, ws, rfl, h1, h2⟩ := h.consI
  rw [h2.nilI]; exact ⟨v, rfl, h1⟩
theorem RpL.twoI {G : Hp} {vs : List V} {d e : D} (h : RpL K G vs [d, e]) : ∃ v w, vs = [v, w] ∧ Rp K G v d ∧ Rp K G w e := by
  obtain ⟨v, ws, rfl, h1, h2⟩ := h.consI
  obtain ⟨w, rfl, h3⟩ := h2.oneI
  exact ⟨v, w, rfl, h1, h3⟩
/-- len of a list, a tuple -/
abbrev cLen : DC := one1 fun x P => x.seqP fun xs => P (.int xs.length)
theorem c_len : PDC X (.builtin "len") (fun xs H Q => ∃ p ys, xs = [.ref p] ∧ (SqL X.K H p ys ∨ SqT X.K H p ys) ∧ Q (.int ys.length) H) cLen := ⟨call_len_seq, fun M G ρ σ H vs ds P Q r h hp k => by
  obtain ⟨x, rfl, hp1⟩ := one1_of hp
  obtain ⟨v, rfl, hv⟩ := h.oneI
  obtain ⟨xs, e, hp2⟩ := D.seqP_of hp1
  rcases e with rfl | rfl
  · obtain ⟨a, vs, rfl, h1, h2⟩ := hv.lstI
    exact ⟨a, vs, rfl, .inl (.inl (same_rd r.frm.gs h1)), by rw [h2.len]; exact k _ _ G H hp2 r (Same.refl G) (.int _)⟩
  · obtain ⟨a, vs, rfl, h1, h2⟩ := hv.tupI
    exact ⟨a, vs, rfl, .inr (same_sqT r.frm.gs h1), by rw [h2.len]; exact k _ _ G H hp2 r (Same.refl G) (.int _)⟩⟩
/-- all, any of a list of truth values; sum of ints -/
def blsOf : List D → Option (List Bool)
  | [] => some []
  | .bl b :: r => (blsOf r).map (b :: ·)
  | _ :: _ => none
def intsOf : List D → Option (List Int)
  | [] => some []
  | .int b :: r => (intsOf r).map (b :: ·)
  | _ :: _ => none
theorem blsOf_eq : ∀ {ds : List D} {bs : List Bool}, blsOf ds = some bs → ds = bs.map D.bl
  | [], bs, h => by cases h; rfl
  | .bl b :: r, bs, h => by
    simp only [blsOf, Option.map_eq_some_iff] at h
    obtain ⟨cs, h, rfl⟩ := h
    rw [blsOf_eq h]; rfl
  | .non :: _, _, h => by simp [blsOf] at h
  | .int _ :: _, _, h => by simp [blsOf] at h
  | .str _ :: _, _, h => by simp [blsOf] at h
  | .tup _ :: _, _, h => by simp [blsOf] at h
  | .lst _ :: _, _, h => by simp [blsOf] at h
  | .fn _ :: _, _, h => by simp [blsOf] at h
  | .dct :: _, _, h => by simp [blsOf] at h
  | .ty _ :: _, _, h => by simp [blsOf] at h
theorem intsOf_eq : ∀ {ds : List D} {bs : List Int}, intsOf ds = some bs → ds = bs.map D.int
  | [], bs, h => by cases h; rfl
  | .int b :: r, bs, h => by
    simp only [intsOf, Option.map_eq_some_iff] at h
    obtain ⟨cs, h, rfl⟩ := h
    rw [intsOf_eq h]; rfl
  | .non :: _, _, h => by simp [intsOf] at h
  | .bl _ :: _, _, h => by simp [intsOf] at h
  | .str _ :: _, _, h => by simp [intsOf] at h
  | .tup _ :: _, _, h => by simp [intsOf] at h
  | .lst _ :: _, _, h => by simp [intsOf] at h
  | .fn _ :: _, _, h => by simp [intsOf] at h
  | .dct :: _, _, h => by simp [intsOf] at h
  | .ty _ :: _, _, h => by simp [intsOf] at h
@[simp] theorem blsOf_map (bs : List Bool) : blsOf (bs.map D.bl) = some bs := by
  induction bs with
  | nil => rfl
  | cons b r ih => simp [blsOf, ih]
@[simp] theorem intsOf_map (bs : List Int) : intsOf (bs.map D.int) = some bs := by
  induction bs with
  | nil => rfl
  | cons b r ih => simp [intsOf, ih]
def D.lstP (P : List D → Prop) : D → Prop
  | .lst xs => P xs
  | _ => False
def D.tupP (P : List D → Prop) : D → Prop
  | .tup xs => P xs
  | _ => False
theorem D.lstP_of {P : List D → Prop} : ∀ {d : D}, d.lstP P → ∃ xs, d = .lst xs ∧ P xs
  | .lst i, h => ⟨i, rfl, h⟩
  | .tup _, h => h.elim | .non, h => h.elim | .int _, h => h.elim | .str _, h => h.elim | .bl _, h => h.elim | .fn _, h => h.elim | .dct, h => h.elim | .ty _, h => h.elim | .scr _, h => h.elim
theorem D.tupP_of {P : List D → Prop} : ∀ {d : D}, d.tupP P → ∃ xs, d = .tup xs ∧ P xs
  | .tup i, h => ⟨i, rfl, h⟩
  | .lst _, h => h.elim | .non, h => h.elim | .int _, h => h.elim | .str _, h => h.elim | .bl _, h => h.elim | .fn _, h => h.elim | .dct, h => h.elim | .ty _, h => h.elim | .scr _, h => h.elim
abbrev cAll : DC := one1 fun x P => x.lstP fun xs => optP (fun bs => P (.bl (bs.all id))) (blsOf xs)
abbrev cAny : DC := one1 fun x P => x.lstP fun xs => optP (fun bs => P (.bl (bs.any id))) (blsOf xs)
abbrev cSum : DC := one1 fun x P => x.lstP fun xs => optP (fun bs => P (.int bs.sum)) (intsOf xs)
theorem c_all (hc : X.calm = true) : PDC X (.builtin "all") (rAll X.K) cAll := ⟨cr_all hc, fun M G ρ σ H vs ds P Q r h hp k => by
  obtain ⟨x, rfl, hp1⟩ := one1_of hp
  obtain ⟨v, rfl, hv⟩ := h.oneI
  obtain ⟨xs, rfl, hp2⟩ := D.lstP_of hp1
  obtain ⟨bs, e, hp3⟩ := optP_of hp2
  obtain ⟨a, vs, rfl, h1, h2⟩ := hv.lstI
  rw [blsOf_eq e] at h2
  rw [h2.bls] at h1
  exact ⟨a, bs, rfl, .inl (same_rd r.frm.gs h1), k _ _ G H hp3 r (Same.refl G) (.bl _)⟩⟩
theorem c_any (hc : X.calm = true) : PDC X (.builtin "any") (rAny X.K) cAny := ⟨cr_any hc, fun M G ρ σ H vs ds P Q r h hp k => by
  obtain ⟨x, rfl, hp1⟩ := one1_of hp
  obtain ⟨v, rfl, hv⟩ := h.oneI
  obtain ⟨xs, rfl, hp2⟩ := D.lstP_of hp1
  obtain ⟨bs, e, hp3⟩ := optP_of hp2
  obtain ⟨a, vs, rfl, h1, h2⟩ := hv.lstI
  rw [blsOf_eq e] at h2
  rw [h2.bls] at h1
  exact ⟨a, bs, rfl, .inl (same_rd r.frm.gs h1), k _ _ G H hp3 r (Same.refl G) (.bl _)⟩⟩
theorem c_sum (hc : X.calm = true) : PDC X (.builtin "sum") (rSum X.K) cSum := ⟨cr_sum hc, fun M G ρ σ H vs ds P Q r h hp k => by
  obtain ⟨x, rfl, hp1⟩ := one1_of hp
  obtain ⟨v, rfl, hv⟩ := h.oneI
  obtain ⟨xs, rfl, hp2⟩ := D.lstP_of hp1
  obtain ⟨bs, e, hp3⟩ := optP_of hp2
  obtain ⟨a, vs, rfl, h1, h2⟩ := hv.lstI
  rw [intsOf_eq e] at h2
  rw [h2.ints] at h1
  exact ⟨a, bs, rfl, .inl (same_rd r.frm.gs h1), k _ _ G H hp3 r (Same.refl G) (.int _)⟩⟩
/-- max, min of a list of ints that is not empty: some int of it, the greatest -/
abbrev cMaxL : DC := one1 fun x P => x.lstP fun xs => optP (fun ns => ns ≠ [] ∧ ∀ m, m ∈ ns → (∀ y, y ∈ ns → y ≤ m) → P (.int m)) (intsOf xs)
abbrev cMinL : DC := one1 fun x P => x.lstP fun xs => optP (fun ns => ns ≠ [] ∧ ∀ m, m ∈ ns → (∀ y, y ∈ ns → m ≤ y) → P (.int m)) (intsOf xs)
theorem c_maxL (hc : X.calm = true) : PDC X (.builtin "max") (rMax X.K) cMaxL := ⟨cr_max hc, fun M G ρ σ H vs ds P Q r h hp k => by
  obtain ⟨x, rfl, hp1⟩ := one1_of hp
  obtain ⟨v, rfl, hv⟩ := h.oneI
  obtain ⟨xs, rfl, hp2⟩ := D.lstP_of hp1
  obtain ⟨bs, e, hn, hp3⟩ := optP_of hp2
  obtain ⟨a, vs, rfl, h1, h2⟩ := hv.lstI
  rw [intsOf_eq e] at h2
  rw [h2.ints] at h1
  exact ⟨a, bs, rfl, .inl (same_rd r.frm.gs h1), List.length_pos_iff.mpr hn, fun m hm hl => k _ _ G H (hp3 m hm hl) r (Same.refl G) (.int _)⟩⟩
theorem c_minL (hc : X.calm = true) : PDC X (.builtin "min") (rMin X.K) cMinL := ⟨cr_min hc, fun M G ρ σ H vs ds P Q r h hp k => by
  obtain ⟨x, rfl, hp1⟩ := one1_of hp
  obtain ⟨v, rfl, hv⟩ := h.oneI
  obtain ⟨xs, rfl, hp2⟩ := D.lstP_of hp1
  obtain ⟨bs, e, hn, hp3⟩ := optP_of hp2
  obtain ⟨a, vs, rfl, h1, h2⟩ := hv.lstI
  rw [intsOf_eq e] at h2
  rw [h2.ints] at h1
  exact ⟨a, bs, rfl, .inl (same_rd r.frm.gs h1), List.length_pos_iff.mpr hn, fun m hm hl => k _ _ G H (hp3 m hm hl) r (Same.refl G) (.int _)⟩⟩
abbrev cMax2 : DC := two2 (oI0 fun i j => .int (if j > i then j else i))
abbrev cMin2 : DC := two2 (oI0 fun i j => .int (if j < i then j else i))
theorem c_max2 (hc : X.calm = true) : PDC X (.builtin "max") (fun xs H Q => ∃ i j, xs = [.int i, .int j] ∧ Q (.int (if j > i then j else i)) H) cMax2 := ⟨call_max2 hc, fun M G ρ σ H vs ds P Q r h hp k => by
  obtain ⟨x, y, rfl, hp1⟩ := two2_of hp
  obtain ⟨v, w, rfl, h1, h2⟩ := h.twoI
  obtain ⟨i, j, rfl, rfl, hp2⟩ := oI0_of hp1
  exact ⟨i, j, by rw [h1.intI, h2.intI], k _ _ G H hp2 r (Same.refl G) (.int _)⟩⟩
theorem c_min2 (hc : X.calm = true) : PDC X (.builtin "min") (fun xs H Q => ∃ i j, xs = [.int i, .int j] ∧ Q (.int (if j < i then j else i)) H) cMin2 := ⟨call_min2 hc, fun M G ρ σ H vs ds P Q r h hp k => by
  obtain ⟨x, y, rfl, hp1⟩ := two2_of hp
  obtain ⟨v, w, rfl, h1, h2⟩ := h.twoI
  obtain ⟨i, j, rfl, rfl, hp2⟩ := oI0_of hp1
  exact ⟨i, j, by rw [h1.intI, h2.intI], k _ _ G H hp2 r (Same.refl G) (.int _)⟩⟩
abbrev cAbs : DC := one1 fun x P => x.intP fun i => P (.int (if i < 0 then -i else i))
theorem c_abs : PDC X (.builtin "abs") (fun xs H Q => ∃ i, xs = [.int i] ∧ Q (.int (if i < 0 then -i else i)) H) cAbs := ⟨call_abs, fun M G ρ σ H vs ds P Q r h hp k => by
  obtain ⟨x, rfl, hp1⟩ := one1_of hp
  obtain ⟨v, rfl, hv⟩ := h.oneI
  obtain ⟨i, rfl, hp2⟩ := D.intP_of hp1
  exact ⟨i, by rw [hv.intI], k _ _ G H hp2 r (Same.refl G) (.int _)⟩⟩
/-- int of an int, of a truth value -/
def cInt : DC := one1 fun x P => match x with
  | .int i => P (.int i)
  | .bl b => P (.int (if b then 1 else 0))
  | _ => False
theorem c_int : PDC X (.type "int") (fun xs H Q => (∃ i, xs = [.int i] ∧ Q (.int i) H) ∨ ∃ k, xs = [.bl k] ∧ Q (.int (if k then 1 else 0)) H) cInt := ⟨call_int1, fun M G ρ σ H vs ds P Q r h hp k => by
  obtain ⟨x, rfl, hp1⟩ := one1_of hp
  obtain ⟨v, rfl, hv⟩ := h.oneI
  split at hp1
  · exact .inl ⟨_, by rw [hv.intI], k _ _ G H hp1 r (Same.refl G) (.int _)⟩
  · exact .inr ⟨_, by rw [hv.blI], k _ _ G H hp1 r (Same.refl G) (.int _)⟩
  · exact hp1.elim⟩
/-- tuple of a list or a tuple -/
abbrev cTup : DC := one1 fun x P => x.seqP fun xs => P (.tup xs)
theorem c_tup : PDC X (.type "tuple") (fun xs H Q => ∃ p ys, xs = [.ref p] ∧ ((SqL X.K H p ys ∧ ∀ l, H l = none → Q (.ref l) (upd H l (.tup ys))) ∨ (SqT X.K H p ys ∧ Q (.ref p) H))) cTup := ⟨call_tuple_of, fun M G ρ σ H vs ds P Q r h hp k => by
  obtain ⟨x, rfl, hp1⟩ := one1_of hp
  obtain ⟨v, rfl, hv⟩ := h.oneI
  obtain ⟨xs, e, hp2⟩ := D.seqP_of hp1
  rcases e with rfl | rfl
  · obtain ⟨a, vs, rfl, h1, h2⟩ := hv.lstI
    exact ⟨a, vs, rfl, .inl ⟨.inl (same_rd r.frm.gs h1), fun p hn => k _ _ _ _ hp2 (r.new hn) (same_upd (r.frm.gs.free hn)) (.tup (.inl (.inl upd_same)) (h2.mono (same_upd (r.frm.gs.free hn))))⟩⟩
  · obtain ⟨a, vs, rfl, h1, h2⟩ := id hv.tupI
    exact ⟨a, vs, rfl, .inr ⟨same_sqT r.frm.gs h1, k _ _ G H hp2 r (Same.refl G) hv⟩⟩⟩
/-- a new list: list(x) -/
def dListF (a : DA) : DA := fun ρ P => a ρ fun ds => match ds with
  | [x] => x.seqP P
  | _ => False
theorem f_list {x : Str} {e : Expr} {t : TA} {d : DA} {p pos : Pos} (hg : Gl X x) (hm : X.mg x = none) (hv : bootBuiltins x = some (.type "list")) (ha : PDA X [e] t d)
    (hn : x ≠ "__name__" := by decide) (hdb : (x == ("__debug__" : Str)) = false := by decide) (he : starEach [e] X.env = (false, eval e X.env) :: starEach [] X.env := by rfl) (hpl : (backTo pos (starEach [] X.env)).any (·.1) = false := by rfl) :
    PDF X (.Call (.Name x p) [e] [] pos) (tCB (fun xs H Q => ∃ p ys, xs = [.ref p] ∧ (SqL X.K H p ys ∨ SqT X.K H p ys) ∧ ∀ l, H l = none → Q (.ref l) (upd H l (.lst ys))) t) (dListF d) := ⟨pe_callTy call_list_of hg hm hv ha.pe hn hdb he hpl, fun M G ρ σ H P Q rl hp k => by
  refine ha.se M G ρ σ H _ _ rl hp fun xs vs G1 H1 p1 r1 s1 q1 => ?_
  split at p1
  · obtain ⟨v, rfl, h⟩ := q1.oneI
    obtain ⟨ys, e, p1⟩ := D.seqP_of p1
    rcases e with rfl | rfl
    · obtain ⟨a, vs, rfl, h1, h2⟩ := h.lstI
      exact ⟨a, vs, rfl, .inl (.inl (same_rd r1.frm.gs h1)), fun l hl => k _ _ l G1 H1 p1 r1 s1 h2 hl⟩
    · obtain ⟨a, vs, rfl, h1, h2⟩ := h.tupI
      exact ⟨a, vs, rfl, .inr (same_sqT r1.frm.gs h1), fun l hl => k _ _ l G1 H1 p1 r1 s1 h2 hl⟩
  · exact p1.elim⟩
/-- a new tuple of both parts of a division -/
abbrev cDivmod : DC := two2 (oI CDiv fun i j => .tup [.int (i / j), .int (i % j)])
theorem c_divmod : PDC X (.builtin "divmod") (fun xs H Q => ∃ i j, xs = [.int i, .int j] ∧ CDiv i j ∧ ∀ p, H p = none → Q (.ref p) (upd H p (.tup [.int (i / j), .int (i % j)]))) cDivmod := ⟨call_divmod, fun M G ρ σ H vs ds P Q r h hp k => by
  obtain ⟨x, y, rfl, hp1⟩ := two2_of hp
  obtain ⟨v, w, rfl, h1, h2⟩ := h.twoI
  obtain ⟨i, j, rfl, rfl, hc, hp2⟩ := oI_of hp1
  exact ⟨i, j, by rw [h1.intI, h2.intI], hc, fun p hn => k _ _ _ _ hp2 (r.new hn) (same_upd (r.frm.gs.free hn)) (.tup (.inl (.inl upd_same)) (.cons (.int _) (.cons (.int _) .nil)))⟩⟩
/-- isinstance(x, T), T a built-in class -/
def D.cls : D → String
  | .non => "NoneType"
  | .bl _ => "bool"
  | .int _ => "int"
  | .str _ => "str"
  | .tup _ => "tuple"
  | .lst _ => "list"
  | .dct => "dict"
  | .fn _ => "function"
  | .ty _ => "type"
  | .scr _ => "list"
def clsT (c T : String) : Bool := c == T || (c == "bool" && T == "int")
def isT (d : D) (T : String) : Bool := clsT d.cls T
def D.norm : D → Bool
  | .fn _ => false
  | .ty _ => false
  | .scr _ => false
  | _ => true
abbrev plainTys : List String := ["int", "bool", "tuple", "str", "list", "dict"]
def cIsi : DC := two2 fun x y P => match y with
  | .ty T => x.norm = true ∧ T ∈ plainTys ∧ P (.bl (isT x T))
  | _ => False
theorem Rp.tyx {G H : Hp} {v : V} {d : D} (e : Same G H) (h : Rp K G v d) (n : d.norm = true) : TyX K H v (.type d.cls) := by
  cases h with
  | non => exact .base .non
  | bl b => exact .base (.bl b)
  | int b => exact .base (.int b)
  | str b => exact .base (.str b)
  | fn a => cases n
  | ty a => cases n
  | scr a => cases n
  | dct h => exact .base (.dK (e _ _ h))
  | tup h r =>
    rcases h with (h | ⟨o, h⟩) | ⟨o, its, n, h, hc, _⟩
    · exact .base (.tup (e _ _ h))
    · exact .fTuple (e _ _ h)
    · exact .kTuple h hc
  | lst h r =>
    rcases h with h | ⟨o, h⟩
    · exact .base (.lst (e _ _ h))
    · exact .base (.frz (e _ _ h))
theorem kit_isT (d : D) (n : d.norm = true) (T : String) (hT : T ∈ plainTys) : PySem.W.kitOne K (.type d.cls) (.type T) = some (isT d T) := by
  refine kit_ty ?_
  simp only [plainTys, List.mem_cons, List.not_mem_nil, or_false] at hT
  rcases hT with rfl | rfl | rfl | rfl | rfl | rfl <;> cases d <;> first | (cases n; done) | (simp only [isT, D.cls]; decide +kernel)
theorem c_isi : PDC X (.builtin "isinstance") (rIsi X.K) cIsi := ⟨call_isi, fun M G ρ σ H vs ds P Q r h hp k => by
  obtain ⟨x, y, rfl, hp1⟩ := two2_of hp
  obtain ⟨v, w, rfl, h1, h2⟩ := h.twoI
  split at hp1
  · rename_i T
    obtain ⟨hn, hT, hp2⟩ := hp1
    cases h2
    exact ⟨v, .ty T, _, _, _, rfl, .ty T, h1.tyx r.frm.gs hn, kit_isT x hn T hT, k _ _ G H hp2 r (Same.refl G) (.bl _)⟩
  · exact hp1.elim⟩
end


section
variable {X : Cx} {K : PySem.W.Frag}
/-! ### what is assigned: data, or a new list -/
def SlNew (K : PySem.W.Frag) (M : Fm) (G : Hp) (ρ : Env) (σ : L2.St) (H : Hp) (v : V) : Sl → Prop
  | .fz d => Rel K M G ρ σ H ∧ Rp K G v d
  | .ow ds => ∃ p vs H0, v = .ref p ∧ H = upd H0 p (.lst vs) ∧ H0 p = none ∧ Rel K M G ρ σ H0 ∧ RpL K G vs ds
  | _ => False
abbrev DX := Env → (Sl → Prop) → Prop
def SX (K : PySem.W.Frag) (t : TE) (e : DX) : Prop := ∀ (M : Fm) (G : Hp) (ρ : Env) (σ : L2.St) (H : Hp) (P : Sl → Prop) (Q : VK), Rel K M G ρ σ H → e ρ P →
  (∀ s v G' H', P s → SlNew K M G' ρ σ H' v s → Same G G' → Q v H') → t σ H Q
structure PDX (X : Cx) (e : Expr) (t : TE) (d : DX) : Prop where
  pe : PE X e t
  se : SX X.K t d
def xE (d : DE) : DX := fun ρ P => d ρ fun x => P (.fz x)
def xF (d : DA) : DX := fun ρ P => d ρ fun x => P (.ow x)
theorem PDE.x {e : Expr} {t : TE} {d : DE} (h : PDE X e t d) : PDX X e t (xE d) := ⟨h.pe, fun M G ρ σ H P Q rl hp k => h.se M G ρ σ H _ _ rl hp fun d v G' H' p r s q => k (.fz d) v G' H' p ⟨r, q⟩ s⟩
theorem PDF.x {e : Expr} {t : TE} {d : DA} (h : PDF X e t d) : PDX X e t (xF d) := ⟨h.pe, fun M G ρ σ H P Q rl hp k => h.se M G ρ σ H _ _ rl hp fun ds vs p G' H' pp r s q hn => k (.ow ds) (.ref p) G' _ pp ⟨p, vs, H', rfl, rfl, hn, r, q⟩ s⟩
theorem SlNew.put {M : Fm} {G H : Hp} {ρ : Env} {σ : L2.St} {v : V} {s : Sl} (h : SlNew K M G ρ σ H v s) (i : Nat) : Rel K M G (ρ.set i s) (σ.set i (some v)) H := by
  cases s with
  | fz d => exact h.1.setF h.2 i
  | ow ds =>
    obtain ⟨p, vs, H0, rfl, rfl, hn, r, q⟩ := h
    exact r.own hn q i
  | no => exact h.elim
  | ur => exact h.elim
theorem SlNew.len {M : Fm} {G H : Hp} {ρ : Env} {σ : L2.St} {v : V} {s : Sl} (h : SlNew K M G ρ σ H v s) : ∃ H0, Rel K M G ρ σ H0 := by
  cases s with
  | fz d => exact ⟨_, h.1⟩
  | ow ds =>
    obtain ⟨p, vs, H0, rfl, rfl, hn, r, q⟩ := h
    exact ⟨_, r⟩
  | no => exact h.elim
  | ur => exact h.elim
/-- two in a row: the first is held while the second is reckoned -/
theorem two_x {ta tb : TE} {da db : DX} (ha : SX K ta da) (hb : SX K tb db) (M : Fm) (G : Hp) (ρ : Env) (σ : L2.St) (H : Hp) (P : Sl → Sl → Prop) (Q : V → V → Hp → Prop) (rl : Rel K M G ρ σ H) (hp : da ρ fun s => db ρ fun t => P s t)
    (k : ∀ s t v w G' H', P s t → Same G G' → (∀ i j, i ≠ j → Rel K M G' ((ρ.set i s).set j t) ((σ.set i (some v)).set j (some w)) H') → Q v w H') : ta σ H fun v H1 => tb σ H1 fun w H2 => Q v w H2 := by
  refine ha M G ρ σ H _ _ rl hp fun s v G1 H1 p1 n1 s1 => ?_
  cases s with
  | no => exact n1.elim
  | ur => exact n1.elim
  | fz d =>
    obtain ⟨r1, q1⟩ := n1
    refine hb M G1 ρ σ H1 _ _ r1 p1 fun t w G2 H2 p2 n2 s2 => ?_
    refine k _ _ _ _ G2 H2 p2 (s1.trans s2) fun i j hij => ?_
    have := (n2.put j).setF (q1.mono s2) i
    rw [List.set_comm _ _ hij.symm, List.set_comm _ _ hij.symm] at this
    exact this
  | ow ds =>
    obtain ⟨p, vs, H0, rfl, rfl, hn, r1, q1⟩ := n1
    have hF : M.F p = none := r1.frm.fs.free hn
    refine hb (M.hold p (.lst vs)) G1 ρ σ _ _ _ (r1.hold hn) p1 fun t w G2 H2 p2 n2 s2 => ?_
    refine k _ _ _ _ G2 H2 p2 (s1.trans s2) fun i j hij => ?_
    have r2 := n2.put j
    have e2 : H2 p = some (.lst vs) := r2.held
    have r3 := (r2.take hF rl.frm.lf).own rem_same (q1.mono s2) i
    rw [upd_rem e2, List.set_comm _ _ hij.symm, List.set_comm _ _ hij.symm] at r3
    exact r3

/-! ### targets -/
def dName (i : Nat) : DG := fun d ρ P => P (ρ.set i (.fz d))
theorem g_name {i : Nat} {x : Str} {pos : Pos} (hN : X.N.Nodup) (hi : X.N[i]? = some x := by rfl) (hx : Loc X.env.scope x := by first | exact Or.inl rfl | exact Or.inr rfl) (hf : X.fn x = true ∨ X.env.scope.names.lookup x = some .local := by first | exact .inl rfl | exact .inr rfl | assumption) : PDG X (.Name x pos) (gName i) (dName i) :=
  ⟨pg_name hN hi hx hf, fun M G ρ σ H v d P Q rl hv hp k => k _ _ hp (rl.setF hv i)⟩
abbrev DGs := List D → Env → (Env → Prop) → Prop
def SGs (K : PySem.W.Frag) (t : TGs) (g : DGs) : Prop := ∀ (M : Fm) (G : Hp) (ρ : Env) (σ : L2.St) (H : Hp) (vs : List V) (ds : List D) (P : Env → Prop) (Q : L2.St → Hp → Prop), Rel K M G ρ σ H → RpL K G vs ds → g ds ρ P →
  (∀ ρ' σ', P ρ' → Rel K M G ρ' σ' H → Q σ' H) → t vs σ H Q
structure PDGs (X : Cx) (es : List Expr) (t : TGs) (d : DGs) : Prop where
  pe : PGs X es t
  se : SGs X.K t d
def dGNil : DGs := fun ds ρ P => match ds with
  | [] => P ρ
  | _ => False
def dGCons (g : DG) (r : DGs) : DGs := fun ds ρ P => match ds with
  | d :: ds => g d ρ fun ρ' => r ds ρ' P
  | [] => False
theorem gs_nil : PDGs X [] gNil dGNil := ⟨pgs_nil, fun M G ρ σ H vs ds P Q rl hv hp k => by
  unfold dGNil at hp; split at hp
  · exact ⟨hv.nilI, k _ _ hp rl⟩
  · exact hp.elim⟩
theorem gs_cons {e : Expr} {es : List Expr} {t : TG} {u : TGs} {g : DG} {r : DGs} (h : PDG X e t g) (hr : PDGs X es u r) (hs : (assignEach (e :: es) X.env).map (·.2) = assign e X.env :: (assignEach es X.env).map (·.2) := by rfl) : PDGs X (e :: es) (gCons t u) (dGCons g r) := ⟨pgs_cons h.pe hr.pe hs, fun M G ρ σ H vs ds P Q rl hv hp k => by
  unfold dGCons at hp; split at hp
  · obtain ⟨v, ws, rfl, h1, h2⟩ := hv.consI
    exact ⟨v, ws, rfl, h.se M G ρ σ H v _ _ _ rl h1 hp fun ρ' σ' hp' rl' => hr.se M G ρ' σ' H ws _ _ _ rl' h2 hp' k⟩
  · exact hp.elim⟩
def dGTup (n : Nat) (g : DGs) : DG := fun d ρ P => d.tupP fun ds => ds.length = n ∧ g ds ρ P
theorem g_tup {es : List Expr} {k : Nat} {pos : Pos} {t : TGs} {g : DGs} (hc : X.calm = true) {n : Nat} (h : PDGs X es t g) (hn : (assignEach es X.env).length = n := by rfl) (hst : (assignEach es X.env).findIdx? (·.1) = none := by rfl) : PDG X (.Tuple es k pos) (gTup X.K n t) (dGTup n g) := ⟨pg_tup hc h.pe hn hst, fun M G ρ σ H v d P Q rl hv hp k => by
  obtain ⟨ds, rfl, hl, hp⟩ := D.tupP_of hp
  obtain ⟨a, vs, rfl, h1, h2⟩ := hv.tupI
  exact ⟨a, vs, rfl, same_sqT rl.frm.gs h1, by rw [h2.len]; exact hl, h.se M G ρ σ H vs ds P Q rl h2 hp k⟩⟩

/-! ### statements -/
def dNext : DS := fun P ρ => P.nx ρ
def dSeq (t u : DS) : DS := fun P ρ => t { P with nx := fun ρ' => u P ρ' } ρ
def dDrop (e : DE) : DS := fun P ρ => e ρ fun _ => P.nx ρ
def dRet (e : DE) : DS := fun P ρ => e ρ P.rt
def dRetN : DS := fun P _ => P.rt .non
def dIfS (c : DT) (t u : DS) : DS := fun P ρ => c ρ fun b => if b = true then t P ρ else u P ρ
def dBreak : DS := fun P ρ => P.bk ρ
def dCont : DS := fun P ρ => P.ct ρ
theorem ss_nil : PDSs X [] tNext dNext := ⟨pss_nil, fun M G ρ σ H P D rl hp l => l.nx ρ σ G H hp rl (Same.refl G)⟩
theorem ss_cons {st : Stmt} {rest : List Stmt} {t u : TS} {d e : DS} (h : PDS X st t d) (hr : PDSs X rest u e) : PDSs X (st :: rest) (tSeq t u) (dSeq d e) := ⟨pss_cons h.pe hr.pe, fun M G ρ σ H P D rl hp l =>
  h.se M G ρ σ H { P with nx := fun ρ' => e P ρ' } { D with nx := u D } rl hp
    { nx := fun ρ' σ' G' H' hp' rl' s' => hr.se M G' ρ' σ' H' P D rl' hp' (l.mono s'), bk := l.bk, ct := l.ct, rt := l.rt, rf := l.rf }⟩
theorem ss_one {st : Stmt} {t : TS} {d : DS} (h : PDS X st t d) : PDSs X [st] t d := ⟨pss_one h.pe, h.se⟩
theorem s_pass {pos : Pos} : PDS X (.Pass pos) tNext dNext := ⟨ps_pass, ss_nil.se⟩
theorem s_break {pos : Pos} : PDS X (.Break pos) tBreak dBreak := ⟨ps_break, fun M G ρ σ H P D rl hp l => l.bk ρ σ G H hp rl (Same.refl G)⟩
theorem s_cont {pos : Pos} : PDS X (.Continue pos) tCont dCont := ⟨ps_continue, fun M G ρ σ H P D rl hp l => l.ct ρ σ G H hp rl (Same.refl G)⟩
theorem s_ret {e : Expr} {te : TE} {d : DE} {pos : Pos} (h : PDE X e te d) : PDS X (.Return (some e) pos) (tRet te) (dRet d) := ⟨ps_ret h.pe, fun M G ρ σ H P D rl hp l =>
  h.se M G ρ σ H _ _ rl hp fun d v G' H' p r s q => l.rt d v G' H' p r.frm s q⟩
/-- an owned list handed back -/
def dRetO (i : Nat) : DS := fun P ρ => (sat ρ i).owP fun ds => P.rt (.lst ds)
theorem s_retO (i : Nat) {x : Str} {pos p : Pos} (hN : X.N[i]? = some x := by rfl) (hv : Vis X.env.scope x := by first | exact Or.inl rfl | exact Or.inr (Or.inl rfl) | exact Or.inr (Or.inr rfl)) (hd : (x == ("__debug__" : Str)) = false := by decide)
    (hcd : (x == ("__classdict__" : Str)) = false := by decide) : PDS X (.Return (some (.Name x p)) pos) (tRet (tVar i)) (dRetO i) := ⟨ps_ret (pe_var hN hv hd hcd), fun M G ρ σ H P D rl hp l => by
  obtain ⟨ds, e, hp⟩ := Sl.owP_of hp
  have e := sat_get e (fun z => nomatch z)
  obtain ⟨G', s, r, a, vs, e1, g1, h1, rfl⟩ := rl.freeze e
  obtain ⟨v, e2, q⟩ := r.sl i _ (List.getElem?_set_self (List.getElem?_eq_some_iff.mp e).1)
  exact ⟨v, e2, l.rt _ v _ H hp r.frm s q⟩⟩
theorem s_retN {pos : Pos} : PDS X (.Return none pos) tRetN dRetN := ⟨ps_retN, fun M G ρ σ H P D rl hp l => l.rt .non .non G H hp rl.frm (Same.refl G) .non⟩
theorem s_if {c : Expr} {a b : List Stmt} {tc : TT} {t u : TS} {dc : DT} {d e : DS} {pos : Pos} (hc : PDT X c tc dc) (ha : PDSs X a t d) (hb : PDSs X b u e) : PDS X (.If c a b pos) (tIfS tc t u) (dIfS dc d e) := ⟨ps_if hc.pe ha.pe hb.pe, fun M G ρ σ H P D rl hp l => by
  refine hc.se M G ρ σ H _ _ rl hp fun c G1 H1 p1 r1 s1 => ?_
  cases c with
  | true => exact iteT (ha.se M G1 ρ σ H1 P D r1 (by simpa using p1) (l.mono s1))
  | false => exact iteF (hb.se M G1 ρ σ H1 P D r1 (by simpa using p1) (l.mono s1))⟩
theorem s_expr {e : Expr} {te : TE} {d : DE} {pos : Pos} (h : PDE X e te d) (hs : swapsWith e none pos.line X.env = pure false := by rfl) : PDS X (.Expr e pos) (tDrop te) (dDrop d) := ⟨ps_expr h.pe hs, fun M G ρ σ H P D rl hp l =>
  h.se M G ρ σ H _ _ rl hp fun d v G' H' p r s q => l.nx ρ σ G' H' p r s⟩
def dNever : DS := fun _ _ => False
theorem s_never {st : Stmt} : PDS X st tNever dNever := ⟨ps_never, fun M G ρ σ H P D rl hp l => hp.elim⟩
/-- x = e -/
def dSet (i : Nat) (e : DX) : DS := fun P ρ => e ρ fun s => P.nx (ρ.set i s)
theorem s_set {i : Nat} {x : Str} {e : Expr} {te : TE} {d : DX} {pos pos' : Pos} (hN : X.N.Nodup) (h : PDX X e te d) (hi : X.N[i]? = some x := by rfl) (hx : Loc X.env.scope x := by first | exact Or.inl rfl | exact Or.inr rfl) (hs : swapsWith e (some (.Name x pos')) pos.line X.env = pure false := by rfl)
    (hf : X.fn x = true ∨ X.env.scope.names.lookup x = some .local := by first | exact .inl rfl | exact .inr rfl | assumption) : PDS X (.Assign [.Name x pos'] e pos) (tAsg te (gName i)) (dSet i d) := ⟨ps_set hN hi hx h.pe hs hf, fun M G ρ σ H P D rl hp l =>
  h.se M G ρ σ H _ _ rl hp fun s v G' H' p n s' => l.nx _ _ G' H' p (n.put i) s'⟩
/-- a, b = e, the right side no written tuple -/
def dAsg (e : DE) (g : DG) : DS := fun P ρ => e ρ fun d => g d ρ P.nx
theorem s_asg {tg e : Expr} {te : TE} {t : TG} {d : DE} {g : DG} {pos : Pos} (h : PDE X e te d) (hg : PDG X tg t g) (hs : swapsWithSole [tg] e pos.line X.env = pure false := by rfl) (hw : swappedStores [tg] e X.env = pure none := by rfl) (h1 : (assignEach [tg] X.env).map (·.2) = [assign tg X.env] := by rfl) : PDS X (.Assign [tg] e pos) (tAsg te t) (dAsg d g) :=
  ⟨ps_asg h.pe hg.pe hs hw h1, fun M G ρ σ H P D rl hp l => h.se M G ρ σ H _ _ rl hp fun d v G' H' p r s q => hg.se M G' ρ σ H' v d _ _ r q p fun ρ' σ' p' r' => l.nx ρ' σ' G' H' p' r' s⟩
/-- a, b = e1, e2 -/
def dPar (i j : Nat) (a b : DX) : DS := fun P ρ => a ρ fun s => b ρ fun t => P.nx ((ρ.set i s).set j t)
theorem s_par {i j : Nat} {x y : Str} {a b : Expr} {ta tb : TE} {da db : DX} {px py pt pos : Pos} {kt k2 pt2} (hc : X.calm = true) (hN : X.N.Nodup) (ha : PDX X a ta da) (hb : PDX X b tb db) (hi : X.N[i]? = some x := by rfl) (hj : X.N[j]? = some y := by rfl) (hij : i ≠ j := by decide)
    (hx : X.env.scope.names.lookup x = some .local := by rfl) (hy : X.env.scope.names.lookup y = some .local := by rfl) (hsa : starEach [a, b] X.env = (false, eval a X.env) :: starEach [b] X.env := by rfl) (hsb : starEach [b] X.env = (false, eval b X.env) :: starEach [] X.env := by rfl)
    (hw : swappedStores [.Tuple [.Name x px, .Name y py] kt pt] (.Tuple [a, b] k2 pt2) X.env = pure (some [x, y]) := by rfl)
    (hs : swapsWithSole [.Tuple [.Name x px, .Name y py] kt pt] (.Tuple [a, b] k2 pt2) pos.line X.env = pure false := by rfl) :
    PDS X (.Assign [.Tuple [.Name x px, .Name y py] kt pt] (.Tuple [a, b] k2 pt2) pos) (tPar i j (tCons ta (tCons tb tNil))) (dPar i j da db) :=
  ⟨ps_par hc hN hi hj hij hx hy (pa_cons ha.pe (pa_cons hb.pe pa_nil hsb) hsa) hw hs, fun M G ρ σ H P D rl hp l =>
    two_x ha.se hb.se M G ρ σ H _ (fun v w H2 => ∃ v' w', [v, w] = [v', w'] ∧ D.nx ((σ.set i (some v')).set j (some w')) H2) rl hp fun s t v w G' H' p s' r => ⟨v, w, rfl, l.nx _ _ G' H' p (r i j hij) s'⟩⟩
end


/-! ### what is walked -/
structure Yld (K : PySem.W.Frag) (G : Hp) (J : It) (ds : List D) : Prop where
  go : ∀ (i : Nat) (H : Hp), Same G H → i < ds.length → J.go i H
  stop : ∀ (i : Nat) (H : Hp), Same G H → ds.length ≤ i → J.stop i H
  yl : ∀ (i : Nat) (d : D) (H : Hp) (x : V) (H' : Hp), Same G H → ds[i]? = some d → J.yld i H x H' → (H' = H ∧ Rp K G x d) ∨ ∃ p vs es, H p = none ∧ H' = upd H p (.tup vs) ∧ x = .ref p ∧ d = .tup es ∧ RpL K G vs es
abbrev DI := Env → (List D → Prop) → Prop
def SI (K : PySem.W.Frag) (t : TI) (e : DI) : Prop := ∀ (M : Fm) (G : Hp) (ρ : Env) (σ : L2.St) (H : Hp) (P : List D → Prop) (R : It → Hp → Prop), Rel K M G ρ σ H → e ρ P →
  (∀ ds J G' H', P ds → Rel K M G' ρ σ H' → Same G G' → Yld K G' J ds → R J H') → t σ H R
structure PDI (X : Cx) (tg e : Expr) (t : TI) (d : DI) : Prop where
  pe : PI X tg e t
  se : SI X.K t d
section
variable {X : Cx} {K : PySem.W.Frag}
theorem yld_list {G : Hp} {a : Addr} {vs : List V} {ds : List D} (h : Rd G a (.lst vs)) (r : RpL K G vs ds) : Yld K G (Itl K a) ds where
  go := fun i H s hi => by
    obtain ⟨v, e, _⟩ := r.get (List.getElem?_eq_getElem hi)
    exact ⟨vs, v, .inl (same_rd s h), e⟩
  stop := fun i H s hi => ⟨vs, .inl (same_rd s h), by rw [r.len]; exact hi⟩
  yl := fun i d H x H' s e y => by
    obtain ⟨rfl, y⟩ := y
    obtain ⟨v, e1, q⟩ := r.get e
    have := (y vs (.inl (same_rd s h))).symm.trans e1
    cases this
    exact .inl ⟨rfl, q⟩
theorem yld_tup {G : Hp} {a : Addr} {vs : List V} {ds : List D} (h : SqT K G a vs) (r : RpL K G vs ds) : Yld K G (Itt K a) ds where
  go := fun i H s hi => by
    obtain ⟨v, e, _⟩ := r.get (List.getElem?_eq_getElem hi)
    exact ⟨vs, v, same_sqT s h, e⟩
  stop := fun i H s hi => ⟨vs, same_sqT s h, by rw [r.len]; exact hi⟩
  yl := fun i d H x H' s e y => by
    obtain ⟨rfl, y⟩ := y
    obtain ⟨v, e1, q⟩ := r.get e
    have := (y vs (same_sqT s h)).symm.trans e1
    cases this
    exact .inl ⟨rfl, q⟩
/-- a list or a tuple, whichever the value is -/
def iSeq (K : PySem.W.Frag) (tl : TE) : TI := fun σ H R => tl σ H fun x H1 => ∃ a, x = .ref a ∧ (((∃ xs, SqL K H1 a xs) ∧ R (Itl K a) H1) ∨ ((∃ xs, SqT K H1 a xs) ∧ R (Itt K a) H1))
theorem pi_seq {tg l : Expr} {tl : TE} (hl : PE X l tl) : PI X tg l (iSeq X.K tl) := ⟨fun pins s σ H R I h => by
  refine thn (hl.run pins s σ H _ I h) fun v s1 ⟨x, H1, I1, r1, a, e, q1⟩ => ?_
  subst e
  cases r1
  have new : ∀ b ∈ [s1.heap.objs.size], FpOk X pins H1 b := fun b hb => by
    rw [List.mem_singleton.mp hb]
    exact I1.fpOk (Nat.le_refl _) (I1.hok.fresh (Nat.le_refl _))
  rcases q1 with ⟨⟨xs, hq⟩, q⟩ | ⟨⟨xs, hq⟩, q⟩
  · obtain ⟨its, rv, p, hz⟩ := I1.list hq
    exact wpAny_pyIter_list p.isList ⟨_, _, _, _, H1, rfl, I1.kept (t' := s1.toks) fun b o e => Heap.get?_push_of_some _ e, turn_list a _, ⟨_, Heap.get?_push_size _ rfl, rfl, rfl⟩, new, q⟩
  · obtain ⟨its, rv, p, hz⟩ := I1.tuple hq
    exact wpAny_pyIter_tuple (show s1.heap.IsTuple a its.toArray from p) ⟨_, _, _, _, H1, rfl, I1.kept (t' := s1.toks) fun b o e => Heap.get?_push_of_some _ e, turn_tuple a _, ⟨_, Heap.get?_push_size _ rfl, rfl, rfl⟩, new, q⟩⟩
def dSeqI (e : DE) : DI := fun ρ P => e ρ fun x => x.seqP P
theorem i_seq {tg e : Expr} {te : TE} {d : DE} (h : PDE X e te d) : PDI X tg e (iSeq X.K te) (dSeqI d) := ⟨pi_seq h.pe, fun M G ρ σ H P R rl hp k => by
  refine h.se M G ρ σ H _ _ rl hp fun x vx G1 H1 p1 r1 s1 q1 => ?_
  obtain ⟨ds, e, p⟩ := D.seqP_of p1
  rcases e with rfl | rfl
  · obtain ⟨a, vs, rfl, h1, h2⟩ := q1.lstI
    exact ⟨a, rfl, .inl ⟨⟨vs, .inl (same_rd r1.frm.gs h1)⟩, k ds _ G1 H1 p r1 s1 (yld_list h1 h2)⟩⟩
  · obtain ⟨a, vs, rfl, h1, h2⟩ := q1.tupI
    exact ⟨a, rfl, .inr ⟨⟨vs, same_sqT r1.frm.gs h1⟩, k ds _ G1 H1 p r1 s1 (yld_tup h1 h2)⟩⟩⟩
/-- ranges -/
def rgI (lo hi : Int) : List D := (List.range (hi - lo).toNat).map fun i => D.int (lo + (i : Nat))
theorem rgI_get {lo hi : Int} {i : Nat} {d : D} (h : (rgI lo hi)[i]? = some d) : d = .int (lo + (i : Nat)) := by
  unfold rgI at h
  rw [List.getElem?_map, Option.map_eq_some_iff] at h
  obtain ⟨j, h, rfl⟩ := h
  rw [List.getElem?_eq_some_iff] at h
  obtain ⟨h1, h2⟩ := h
  rw [List.getElem_range] at h2
  rw [h2]
theorem rgI_len (lo hi : Int) : (rgI lo hi).length = (hi - lo).toNat := by unfold rgI; rw [List.length_map, List.length_range]
theorem yld_rg {G : Hp} (lo hi : Int) : Yld K G (Itr lo (hi - lo).toNat) (rgI lo hi) where
  go := fun i H s h => by rw [rgI_len] at h; exact h
  stop := fun i H s h => by rw [rgI_len] at h; exact h
  yl := fun i d H x H' s e y => by
    obtain ⟨rfl, rfl⟩ := y
    rw [rgI_get e]
    exact .inl ⟨rfl, .int _⟩
def dRg1 (a : DE) : DI := fun ρ P => a ρ fun x => x.intP fun j => (-(2 ^ 62) ≤ j ∧ j < 2 ^ 62) ∧ P (rgI 0 j)
def dRg2 (a b : DE) : DI := fun ρ P => a ρ fun x => b ρ fun y => x.intP fun i => y.intP fun j => (-(2 ^ 62) ≤ i ∧ i < 2 ^ 62 ∧ -(2 ^ 62) ≤ j ∧ j < 2 ^ 62) ∧ P (rgI i j)
theorem i_rg1 {tg a : Expr} {ta : TE} {da : DE} {p pos : Pos} (hg : Gl X "range") (hm : X.mg "range" = none) (ha : PDE X a ta da) (hs : starEach [a] X.env = [(false, eval a X.env)] := by rfl) : PDI X tg (.Call (.Name "range" p) [a] [] pos) (iRng1 (tCons ta tNil)) (dRg1 da) :=
  ⟨pi_range1 hg hm (pa_cons ha.pe pa_nil hs) hs, fun M G ρ σ H P R rl hp k => by
    refine ha.se M G ρ σ H _ _ rl hp fun x vx G1 H1 p1 r1 s1 q1 => ?_
    obtain ⟨j, rfl, ⟨h1, h2⟩, p⟩ := D.intP_of p1
    have e : j.toNat = (j - 0).toNat := by rw [Int.sub_zero]
    exact ⟨j, by rw [q1.intI], h1, h2, by rw [e]; exact k _ _ G1 H1 p r1 s1 (yld_rg 0 j)⟩⟩
theorem i_rg2 {tg a b : Expr} {ta tb : TE} {da db : DE} {p pos : Pos} (hg : Gl X "range") (hm : X.mg "range" = none) (ha : PDE X a ta da) (hb : PDE X b tb db) (hs : starEach [a, b] X.env = [(false, eval a X.env), (false, eval b X.env)] := by rfl) (hs2 : starEach [b] X.env = [(false, eval b X.env)] := by rfl) :
    PDI X tg (.Call (.Name "range" p) [a, b] [] pos) (iRng2 (tCons ta (tCons tb tNil))) (dRg2 da db) :=
  ⟨pi_range2 hg hm (pa_cons ha.pe (pa_cons hb.pe pa_nil hs2) (by rw [hs, hs2])) hs hs2, fun M G ρ σ H P R rl hp k => by
    refine ha.se M G ρ σ H _ _ rl hp fun x vx G1 H1 p1 r1 s1 q1 => ?_
    refine hb.se M G1 ρ σ H1 _ _ r1 p1 fun y vy G2 H2 p2 r2 s2 q2 => ?_
    obtain ⟨i, rfl, p3⟩ := D.intP_of p2
    obtain ⟨j, rfl, h, p⟩ := D.intP_of p3
    exact ⟨i, j, by rw [q1.intI, q2.intI], h, k _ _ G2 H2 p r2 (s1.trans s2) (yld_rg i j)⟩⟩
/-- enumerate of a list, of a tuple -/
def enI (xs : List D) : List D := (List.range xs.length).zipWith (fun i x => D.tup [.int (i : Nat), x]) xs
theorem enI_len (xs : List D) : (enI xs).length = xs.length := by unfold enI; simp
theorem enI_get {xs : List D} {i : Nat} {d : D} (h : (enI xs)[i]? = some d) : ∃ x, xs[i]? = some x ∧ d = .tup [.int (i : Nat), x] := by
  unfold enI at h
  rw [List.getElem?_zipWith] at h
  by_cases hi : i < xs.length
  · rw [List.getElem?_range hi, List.getElem?_eq_getElem hi] at h
    exact ⟨_, List.getElem?_eq_getElem hi, (Option.some.inj h).symm⟩
  · rw [List.getElem?_eq_none (by simpa using hi)] at h
    cases h
def IteT (K : PySem.W.Frag) (a : Addr) : It :=
  ⟨fun i H => ∃ (xs : List V) (x : V), SqT K H a xs ∧ xs[i]? = some x, fun i H v H' => ∃ T x, v = .ref T ∧ H T = none ∧ H' = upd H T (.tup [.int (i : Nat), x]) ∧ ∀ xs, SqT K H a xs → xs[i]? = some x, fun i H => ∃ xs : List V, SqT K H a xs ∧ xs.length ≤ i⟩
theorem turn_enumT {P : Program} {w : World} {elts : List Expr} {kk : Nat} {tpos : Pos} (a e it : Addr) :
    Turn P w K (.Tuple elts kk tpos) (IteT K a) [e, it] e (fun i h => (∃ old, IsEnum h e it ((i : Nat) : Int) old) ∧ h.IsTupleIter it a i ∧ e ≠ it) where
  mem := List.mem_cons_self
  obj := fun i h ⟨⟨old, he⟩, ⟨o, ho, hc, hd⟩, _⟩ b hb => by
    rcases List.mem_cons.mp hb with z | z
    · subst z; exact ⟨_, he, fun v q => nomatch q⟩
    · rw [List.mem_singleton.mp z]; exact ⟨o, ho, fun v q => by rw [hd] at q; cases q⟩
  keep := fun i h h' ⟨⟨old, he⟩, hi, hne⟩ k => ⟨⟨old, k e (by simp) _ he⟩, hi.at fun o q => k it (by simp) o q, hne⟩
  item := by
    intro X hP hw hK hc i pins s σ H E I hf ⟨⟨old, he⟩, hit, hne⟩ ⟨xs, x, hq, hx⟩
    subst hP hw hK
    obtain ⟨its, rv, p, hz⟩ := I.tuple hq
    obtain ⟨u, hu, ru⟩ := rv.get hx
    have pT : s.heap.IsTuple a its.toArray := p
    have hel : e < s.heap.objs.size := Heap.lt_size he
    have hil : it < s.heap.objs.size := let ⟨_, q, _⟩ := hit; Heap.lt_size q
    have hai : a ≠ it := fun z => by
      obtain ⟨o1, h1, c1, _⟩ := pT
      obtain ⟨o2, h2, c2, _⟩ := hit
      rw [z, h2] at h1; cases h1
      rw [c2] at c1; exact absurd (Value.type.inj c1) (by decide)
    have hae : e ≠ a := fun z => by
      obtain ⟨o1, h1, c1, _⟩ := pT
      rw [← z, show s.heap.get? e = some _ from he] at h1; cases h1
      exact absurd (Value.type.inj c1) (by decide)
    have hl := rv.length
    have hi : i < its.toArray.size := by
      have := (List.getElem?_eq_some_iff.mp hx).1
      simp only [List.size_toArray]; omega
    have hh := I.ok.hd hc
    refine wpAny_pyNext_enum_itemC (i := i) (Draws.tuple (prog := X.prog) (w := X.w) (A := X.A.in1) hh it a hai its.toArray) he ⟨hit, pT⟩ hi hne (by simp [hne, hae]) fun y h' tk hy ho st' hT hsz hk => ?_
    refine ⟨_, rfl, wpAny_letOwnedTupleGo_enum (s := { s with heap := h', toks := tk + 1 }) ho fun h'' he' sb => ?_⟩
    have ey : y = u := Option.some.inj (hy.symm.trans (by simpa using hu))
    subst ey
    have hT2 : h''.get? s.heap.objs.size = some { cls := .type "tuple", data := .seq #[.int i tk, y] } := (sb.2 _ (Nat.ne_of_gt hel)).trans hT
    have new : ObjOk X.prog X.w (upd H s.heap.objs.size (.tup [.int (i : Nat), x])) h'' s.heap.objs.size (.tup [.int (i : Nat), x]) :=
      ⟨by show 2 ≤ sizeLine; decide, [.int i tk, y], .cons ⟨_, rfl⟩ (.cons ru .nil), ⟨_, hT2, rfl, _, rfl⟩⟩
    have I1 := I.turnedNew (t' := tk + 1) (ch := [e, it]) (fun b ob hb q => (sb.2 b (fun z => hb (by simp [z]))).trans (hk b ob (fun z => hb (by simp [z])) (fun z => hb (by simp [z])) q)) hf (Nat.le_refl _) new
    refine ⟨.ref s.heap.objs.size, _, I1, rfl, ⟨_, x, rfl, I.hok.fresh (Nat.le_refl _), rfl, fun ys hy' => by rw [I.tuple_inj hy' hq]; exact hx⟩, ⟨⟨y, ?_⟩, st'.1.at fun o q => (sb.2 it (Ne.symm hne)).trans q, hne⟩, fun b hb => ?_⟩
    · rw [show ((i + 1 : Nat) : Int) = (i : Int) + 1 by omega]; exact he'
    · have hb' : b < s.heap.objs.size := by
        rcases List.mem_cons.mp hb with z | z
        · rw [z]; exact hel
        · rw [List.mem_singleton.mp z]; exact hil
      rw [upd_ne (Nat.ne_of_lt hb')]
      exact (hf b hb).1
  done := by
    intro X hP hw hK hc i pins s σ H E I hf ⟨⟨old, he⟩, hit, hne⟩ ⟨xs, hq, hx⟩
    subst hP hw hK
    obtain ⟨its, rv, p, hz⟩ := I.tuple hq
    have pT : s.heap.IsTuple a its.toArray := p
    obtain ⟨f0, f1, f2, f3, f4, f5⟩ := hf it (by simp)
    have hh := I.ok.hd hc
    have hai : a ≠ it := fun z => by
      obtain ⟨o1, h1, c1, _⟩ := pT
      obtain ⟨o2, h2, c2, _⟩ := hit
      rw [z, h2] at h1; cases h1
      rw [c2] at c1; exact absurd (Value.type.inj c1) (by decide)
    have hl := rv.length
    have none : its.toArray[i]? = none := Array.getElem?_eq_none (by simp only [List.size_toArray]; omega)
    have D : Draws X.prog X.w X.A.in1 it [it, a] 0 (fun _ _ => False) (fun _ h => h.IsTupleIter it a i ∧ h.IsTuple a its.toArray) := {
      live := fun _ _ st => let ⟨o, ho, _⟩ := st.1; ⟨o, ho⟩
      frame := fun _ _ _ st hk => ⟨st.1.at fun o e => hk it (by simp) o e, st.2.at fun o e => hk a (by simp) o e⟩
      item := fun j _ _ _ hj => absurd hj (Nat.not_lt_zero j)
      done := fun s Q E st hQ => wpAny_nextOf_tuple_end hh st.1 st.2 none fun h' e2 hx ho => hQ h' e2 hx ho }
    exact wpAny_pyNext_enum_endD D he ⟨hit, pT⟩ fun h' eb => ⟨rfl, I.turned (t' := s.toks) (fun b o hb q => eb b o hb q) f0 f1 f3 f4 f5⟩
  self := fun A i s Q E ⟨⟨_, he⟩, _⟩ h => wpAny_pyIter_enum he h
end

open Sem (wp)

set_option maxHeartbeats 1000000 in
/-- enumerate(v) makes two new cells, whatever v's iterator is -/
theorem meets_enum1 {v : Value} {o : Obj} {Hc : Heap → Prop} (B : Begins v o Hc) :
    Meets (Builtin.«enumerate.__new__» ⟨[.type "enumerate", v], []⟩) (fun _ R s => Hc s.heap ∧
      R (.ok (.ret (.ref (s.heap.push o).objs.size))) { s with heap := (s.heap.push o).push { cls := .type "enumerate", data := .fields #[.none, .bool false, .ref s.heap.objs.size, rawInt 0, .none, .none] } }) :=
  .of_wp fun prog w A R s h => by
    obtain ⟨hp, g, d, tk, os⟩ := s
    obtain ⟨h1, h⟩ := h
    have hsub := sub_enumerate
    have it0 : ∀ {A' : Around} {E : Value → Shared → Prop} {Q : Value → Shared → Prop}, Q (.ref hp.objs.size) ⟨hp.push o, g, d, tk, os⟩ → wpAny (model prog w) A' (pyIter v) Q E ⟨hp, g, d, tk, os⟩ := fun q => B.iter prog w _ _ ⟨hp, g, d, tk, os⟩ _ h1 q
    wp_walk using it0
    refine wpAny_stack_any fun st => wpAny_pure ?_
    split
    · rename_i c _ _ _ _ _
      cases (c == Value.type "enumerate")
      all_goals (wp_walk using it0; exact ⟨_, rfl, h⟩)
    · wp_walk using it0
      exact ⟨_, rfl, h⟩
section
variable {prog : Program} {w : World} {A : Around} {E : Value → Shared → Prop} {s : Shared}
theorem call_enum1 {v : Value} {o : Obj} {Hc : Heap → Prop} {Q : Value → Shared → Prop} (B : Begins v o Hc) (h1 : Hc s.heap)
    (h : ∀ h', IsEnum h' (s.heap.objs.size + 1) s.heap.objs.size 0 .none → h'.get? s.heap.objs.size = some o → (∀ b o', s.heap.get? b = some o' → h'.get? b = some o') → Q (.ref (s.heap.objs.size + 1)) { s with heap := h' }) :
    wpAny (model prog w) A (call (.type "enumerate") [v]) Q E s := by
  refine callType_new F.called_enumerate (by decide) (F.typeCall_enumerate_1 _) (F.newCall_enumerate_1 _) (fun obj => F.args_object_init_2 obj _) F.entry_enumerate_new (meets_enum1 B) ⟨h1, ?_⟩
  have hz : (s.heap.push o).objs.size = s.heap.objs.size + 1 := Heap.size_push ..
  show _ ∧ _
  rw [hz]
  have he : IsEnum ((s.heap.push o).push { cls := .type "enumerate", data := .fields #[.none, .bool false, .ref s.heap.objs.size, rawInt 0, .none, .none] }) (s.heap.objs.size + 1) s.heap.objs.size 0 .none := by
    have e := Heap.get?_push_size (s.heap.push o) (o := { cls := .type "enumerate", data := .fields #[.none, .bool false, .ref s.heap.objs.size, rawInt 0, .none, .none] }) rfl
    rw [hz] at e
    exact e
  exact ⟨⟨_, he, rfl⟩, h _ he (Heap.get?_push_of_some _ (Heap.get?_push_size _ B.free)) fun b o' x => Heap.get?_push_of_some _ (Heap.get?_push_of_some _ x)⟩
end
section
variable {X : Cx} {K : PySem.W.Frag}
def iEnA (K : PySem.W.Frag) (ta : TA) : TI := fun σ H R => ta σ H fun vs H1 => ∃ a, vs = [.ref a] ∧ (((∃ xs, SqL K H1 a xs) ∧ R (Ite K a) H1) ∨ ((∃ xs, SqT K H1 a xs) ∧ R (IteT K a) H1))
theorem pi_enA {e : Expr} {ta : TA} {p pos tpos : Pos} {elts : List Expr} {kk : Nat} (hg : Gl X "enumerate") (hm : X.mg "enumerate" = none) (ha : PA X [e] ta) (hs : starEach [e] X.env = [(false, eval e X.env)] := by rfl) :
    PI X (.Tuple elts kk tpos) (.Call (.Name "enumerate" p) [e] [] pos) (iEnA X.K ta) := ⟨fun pins s σ H R I h => by
  refine Call_ (ld_blt I hg hm boot_enumerate (PyProof.Rows.callWith_type1 (thn (ha.run pos pins s σ H _ I h) fun us s1 ⟨vs, H1, I1, r1, a, ex, q⟩ => ?_) hs rfl))
  subst ex
  obtain ⟨u, rfl, ru⟩ := vals1 r1
  cases ru
  have new : ∀ b ∈ [s1.heap.objs.size + 1, s1.heap.objs.size], FpOk X pins H1 b := fun b hb => by
    have hle : s1.heap.objs.size ≤ b := by
      rcases List.mem_cons.mp hb with z | z
      · rw [z]; exact Nat.le_add_right _ _
      · rw [List.mem_singleton.mp z]; exact Nat.le_refl _
    exact I1.fpOk hle (I1.hok.fresh hle)
  rcases q with ⟨⟨xs, hq⟩, q⟩ | ⟨⟨xs, hq⟩, q⟩
  · obtain ⟨its, rv, p', hz⟩ := I1.list hq
    refine call_enum1 (begins_list a its.toArray) p'.isList fun h' he ho hk => wpAny_pyIter_enum he ?_
    exact ⟨_, _, _, _, H1, rfl, I1.kept (t' := s1.toks) hk, turn_enum a (s1.heap.objs.size + 1) s1.heap.objs.size, ⟨⟨.none, he⟩, ⟨_, ho, rfl, rfl⟩, Nat.succ_ne_self _⟩, new, q⟩
  · obtain ⟨its, rv, p', hz⟩ := I1.tuple hq
    refine call_enum1 (begins_tuple a its.toArray) (show s1.heap.IsTuple a its.toArray from p') fun h' he ho hk => wpAny_pyIter_enum he ?_
    exact ⟨_, _, _, _, H1, rfl, I1.kept (t' := s1.toks) hk, turn_enumT a (s1.heap.objs.size + 1) s1.heap.objs.size, ⟨⟨.none, he⟩, ⟨_, ho, rfl, rfl⟩, Nat.succ_ne_self _⟩, new, q⟩⟩
theorem yld_en {G : Hp} {a : Addr} {vs : List V} {ds : List D} (h : Rd G a (.lst vs)) (r : RpL K G vs ds) : Yld K G (Ite K a) (enI ds) where
  go := fun i H s hi => by
    rw [enI_len] at hi
    obtain ⟨v, e, _⟩ := r.get (List.getElem?_eq_getElem hi)
    exact ⟨vs, v, .inl (same_rd s h), e⟩
  stop := fun i H s hi => by
    rw [enI_len] at hi
    exact ⟨vs, .inl (same_rd s h), by rw [r.len]; exact hi⟩
  yl := fun i d H x H' s e y => by
    obtain ⟨T, z, rfl, hT, rfl, y⟩ := y
    obtain ⟨w, e1, rfl⟩ := enI_get e
    obtain ⟨v, e2, q⟩ := r.get e1
    have := (y vs (.inl (same_rd s h))).symm.trans e2
    cases this
    exact .inr ⟨T, _, _, hT, rfl, rfl, rfl, .cons (.int _) (.cons q .nil)⟩
theorem yld_enT {G : Hp} {a : Addr} {vs : List V} {ds : List D} (h : SqT K G a vs) (r : RpL K G vs ds) : Yld K G (IteT K a) (enI ds) where
  go := fun i H s hi => by
    rw [enI_len] at hi
    obtain ⟨v, e, _⟩ := r.get (List.getElem?_eq_getElem hi)
    exact ⟨vs, v, same_sqT s h, e⟩
  stop := fun i H s hi => by
    rw [enI_len] at hi
    exact ⟨vs, same_sqT s h, by rw [r.len]; exact hi⟩
  yl := fun i d H x H' s e y => by
    obtain ⟨T, z, rfl, hT, rfl, y⟩ := y
    obtain ⟨w, e1, rfl⟩ := enI_get e
    obtain ⟨v, e2, q⟩ := r.get e1
    have := (y vs (same_sqT s h)).symm.trans e2
    cases this
    exact .inr ⟨T, _, _, hT, rfl, rfl, rfl, .cons (.int _) (.cons q .nil)⟩
def dEnI (e : DE) : DI := fun ρ P => e ρ fun x => x.seqP fun xs => P (enI xs)
theorem i_en {e : Expr} {te : TE} {d : DE} {p pos tpos : Pos} {elts : List Expr} {kk : Nat} (hg : Gl X "enumerate") (hm : X.mg "enumerate" = none) (h : PDE X e te d) (hs : starEach [e] X.env = [(false, eval e X.env)] := by rfl) :
    PDI X (.Tuple elts kk tpos) (.Call (.Name "enumerate" p) [e] [] pos) (iEnA X.K (tCons te tNil)) (dEnI d) := ⟨pi_enA hg hm (pa_cons h.pe pa_nil hs) hs, fun M G ρ σ H P R rl hp k => by
  refine h.se M G ρ σ H _ _ rl hp fun x vx G1 H1 p1 r1 s1 q1 => ?_
  obtain ⟨ds, e, p⟩ := D.seqP_of p1
  rcases e with rfl | rfl
  · obtain ⟨a, vs, rfl, h1, h2⟩ := q1.lstI
    exact ⟨a, rfl, .inl ⟨⟨vs, .inl (same_rd r1.frm.gs h1)⟩, k _ _ G1 H1 p r1 s1 (yld_en h1 h2)⟩⟩
  · obtain ⟨a, vs, rfl, h1, h2⟩ := q1.tupI
    exact ⟨a, rfl, .inr ⟨⟨vs, same_sqT r1.frm.gs h1⟩, k _ _ G1 H1 p r1 s1 (yld_enT h1 h2)⟩⟩⟩
/-- zip of two lists, of two tuples -/
def zpI (xs ys : List D) : List D := xs.zipWith (fun x y => D.tup [x, y]) ys
theorem zpI_len (xs ys : List D) : (zpI xs ys).length = min xs.length ys.length := by unfold zpI; simp
theorem zpI_get {xs ys : List D} {i : Nat} {d : D} (h : (zpI xs ys)[i]? = some d) : ∃ x y, xs[i]? = some x ∧ ys[i]? = some y ∧ d = .tup [x, y] := by
  unfold zpI at h
  rw [List.getElem?_zipWith] at h
  cases e1 : xs[i]? with
  | none => rw [e1] at h; cases h
  | some x =>
    cases e2 : ys[i]? with
    | none => rw [e1, e2] at h; cases h
    | some y => rw [e1, e2] at h; exact ⟨x, y, rfl, rfl, (Option.some.inj h).symm⟩
theorem yld_zp {G : Hp} {a b : Addr} {vs ws : List V} {ds es : List D} (h : Rd G a (.lst vs)) (r : RpL K G vs ds) (h' : Rd G b (.lst ws)) (r' : RpL K G ws es) : Yld K G (Itz K a b) (zpI ds es) where
  go := fun i H s hi => by
    rw [zpI_len] at hi
    obtain ⟨v, e, _⟩ := r.get (List.getElem?_eq_getElem (show i < ds.length by omega))
    obtain ⟨w, e', _⟩ := r'.get (List.getElem?_eq_getElem (show i < es.length by omega))
    exact ⟨vs, ws, v, w, .inl (same_rd s h), .inl (same_rd s h'), e, e'⟩
  stop := fun i H s hi => by
    rw [zpI_len] at hi
    exact ⟨vs, ws, .inl (same_rd s h), .inl (same_rd s h'), by rw [r.len, r'.len]; omega⟩
  yl := fun i d H x H' s e y => by
    obtain ⟨T, z, z', rfl, hT, rfl, y, y'⟩ := y
    obtain ⟨u, u', e1, e1', rfl⟩ := zpI_get e
    obtain ⟨v, e2, q⟩ := r.get e1
    obtain ⟨v', e2', q'⟩ := r'.get e1'
    have := (y vs (.inl (same_rd s h))).symm.trans e2
    cases this
    have := (y' ws (.inl (same_rd s h'))).symm.trans e2'
    cases this
    exact .inr ⟨T, _, _, hT, rfl, rfl, rfl, .cons q (.cons q' .nil)⟩
theorem yld_zpT {G : Hp} {a b : Addr} {vs ws : List V} {ds es : List D} (h : SqT K G a vs) (r : RpL K G vs ds) (h' : SqT K G b ws) (r' : RpL K G ws es) : Yld K G (RZ.ItzT K a b) (zpI ds es) where
  go := fun i H s hi => by
    rw [zpI_len] at hi
    obtain ⟨v, e, _⟩ := r.get (List.getElem?_eq_getElem (show i < ds.length by omega))
    obtain ⟨w, e', _⟩ := r'.get (List.getElem?_eq_getElem (show i < es.length by omega))
    exact ⟨vs, ws, v, w, same_sqT s h, same_sqT s h', e, e'⟩
  stop := fun i H s hi => by
    rw [zpI_len] at hi
    exact ⟨vs, ws, same_sqT s h, same_sqT s h', by rw [r.len, r'.len]; omega⟩
  yl := fun i d H x H' s e y => by
    obtain ⟨T, z, z', rfl, hT, rfl, y, y'⟩ := y
    obtain ⟨u, u', e1, e1', rfl⟩ := zpI_get e
    obtain ⟨v, e2, q⟩ := r.get e1
    obtain ⟨v', e2', q'⟩ := r'.get e1'
    have := (y vs (same_sqT s h)).symm.trans e2
    cases this
    have := (y' ws (same_sqT s h')).symm.trans e2'
    cases this
    exact .inr ⟨T, _, _, hT, rfl, rfl, rfl, .cons q (.cons q' .nil)⟩
def dZpI (a b : DE) : DI := fun ρ P => a ρ fun x => b ρ fun y => match x, y with
  | .lst xs, .lst ys => P (zpI xs ys)
  | .tup xs, .tup ys => P (zpI xs ys)
  | _, _ => False
theorem i_zip {a b : Expr} {ta tb : TE} {da db : DE} {p pos tpos : Pos} {elts : List Expr} {kk : Nat} (hg : Gl X "zip") (hm : X.mg "zip" = none) (ha : PDE X a ta da) (hb : PDE X b tb db)
    (hs : starEach [a, b] X.env = (false, eval a X.env) :: starEach [b] X.env := by rfl) (hs2 : starEach [b] X.env = (false, eval b X.env) :: starEach [] X.env := by rfl) (hpl : (backTo pos (starEach [b] X.env)).any (·.1) = false := by rfl) :
    PDI X (.Tuple elts kk tpos) (.Call (.Name "zip" p) [a, b] [] pos) (RZ.iZipA X.K (tCons ta (tCons tb tNil))) (dZpI da db) := ⟨RZ.pi_zipA hg hm (pa_cons ha.pe (pa_cons hb.pe pa_nil hs2) hs) hs hpl, fun M G ρ σ H P R rl hp k => by
  refine ha.se M G ρ σ H _ _ rl hp fun x vx G1 H1 p1 r1 s1 q1 => ?_
  refine hb.se M G1 ρ σ H1 _ _ r1 p1 fun y vy G2 H2 p2 r2 s2 q2 => ?_
  split at p2
  · obtain ⟨a, vs, rfl, h1, h2⟩ := (q1.mono s2).lstI
    obtain ⟨b, ws, rfl, h3, h4⟩ := q2.lstI
    exact ⟨a, b, vs, ws, rfl, .inl ⟨.inl (same_rd r2.frm.gs h1), .inl (same_rd r2.frm.gs h3), k _ _ G2 H2 p2 r2 (s1.trans s2) (yld_zp h1 h2 h3 h4)⟩⟩
  · obtain ⟨a, vs, rfl, h1, h2⟩ := (q1.mono s2).tupI
    obtain ⟨b, ws, rfl, h3, h4⟩ := q2.tupI
    exact ⟨a, b, vs, ws, rfl, .inr ⟨same_sqT r2.frm.gs h1, same_sqT r2.frm.gs h3, k _ _ G2 H2 p2 r2 (s1.trans s2) (yld_zpT h1 h2 h3 h4)⟩⟩
  · exact p2.elim⟩
/-- a turn's item comes -/
theorem Yld.come {G1 : Hp} {J : It} {ds : List D} (y : Yld K G1 J ds) {M : Fm} {G H H' : Hp} {ρ : Env} {σ : L2.St} {i : Nat} {d : D} {x : V} (r : Rel K M G ρ σ H) (s : Same G1 G) (e : ds[i]? = some d) (h : J.yld i H x H') :
    ∃ G', Same G G' ∧ Rel K M G' ρ σ H' ∧ Rp K G' x d ∧ ∀ b, H b ≠ none → G b = none → G' b = none := by
  rcases y.yl i d H x H' (s.trans r.frm.gs) e h with ⟨rfl, q⟩ | ⟨p, vs, es, hp, rfl, rfl, rfl, q⟩
  · exact ⟨G, Same.refl G, r, q.mono s, fun _ _ h => h⟩
  · refine ⟨upd G p (.tup vs), same_upd (r.frm.gs.free hp), r.new hp, .tup (.inl (.inl upd_same)) ((q.mono s).mono (same_upd (r.frm.gs.free hp))), fun b h1 h2 => ?_⟩
    have : b ≠ p := fun z => h1 (by rw [z]; exact hp)
    rw [upd_ne this]; exact h2

/-! ### for -/
def forP (g : DG) (body : DS) (P : DEnds) : List D → Env → Prop
  | [], ρ => P.nx ρ
  | d :: ds, ρ => g d ρ fun ρ' => body { P with nx := forP g body P ds, ct := forP g body P ds, bk := P.nx } ρ'
def dFor (i : DI) (g : DG) (body : DS) : DS := fun P ρ => i ρ fun ds => forP g body P ds ρ
theorem s_for {tg iter : Expr} {body : List Stmt} {wi : TI} {t : TG} {tb : TS} {di : DI} {g : DG} {db : DS} {pos : Pos} (hp : PassesOwn (model X.prog X.w) X.A X.env X.xe) (hc : X.calm = true) (hi : PDI X tg iter wi di) (hg : PDG X tg t g) (hb : PDSs X body tb db)
    (hs : ∀ x, foldedSetIterable iter X.env x = pure x := by intro _; rfl) : PDS X (.For tg iter body [] pos) (tFor wi t tb) (dFor di g db) := ⟨ps_for hp hc hi.pe hg.pe hb.pe hs, fun M G ρ σ H P D rl hp l => by
  refine hi.se M G ρ σ H _ _ rl hp fun ds J G1 H1 p1 r1 s1 y => ?_
  refine ⟨fun i m σ' H' => ∃ ρ' G', m = ds.length - i ∧ i ≤ ds.length ∧ Rel X.K M G' ρ' σ' H' ∧ Same G1 G' ∧ forP g db P (ds.drop i) ρ', ⟨ds.length, ρ, G1, by simp, Nat.zero_le _, r1, Same.refl _, p1⟩, ?_⟩
  rintro i m σ' H' ⟨ρ', G', rfl, hle, r2, s2, p2⟩
  by_cases hlt : i < ds.length
  · refine .inr ⟨y.go i H' (s2.trans r2.frm.gs) hlt, fun σ'' H'' => ∃ ρ'' G'', Rel X.K M G'' ρ'' σ'' H'' ∧ Same G1 G'' ∧ forP g db P (ds.drop (i + 1)) ρ'', fun σ'' H'' ⟨ρ'', G'', r3, s3, p3⟩ => ⟨ds.length - (i + 1), by omega, ρ'', G'', rfl, hlt, r3, s3, p3⟩, fun x H2 hy => ?_⟩
    rw [List.drop_eq_getElem_cons hlt] at p2
    obtain ⟨G2, s3, r3, q3, _⟩ := y.come r2 s2 (List.getElem?_eq_getElem hlt) hy
    refine hg.se M G2 ρ' σ' H2 x _ _ _ r3 q3 p2 fun ρ3 σ3 p3 r4 => ?_
    refine hb.se M G2 ρ3 σ3 H2 _ _ r4 p3 { nx := ?_, bk := ?_, ct := ?_, rt := ?_, rf := ?_ }
    · exact fun ρ4 σ4 G4 H4 p4 r5 s5 => ⟨ρ4, G4, r5, s2.trans (s3.trans s5), p4⟩
    · exact fun ρ4 σ4 G4 H4 p4 r5 s5 => l.nx ρ4 σ4 G4 H4 p4 r5 (s1.trans (s2.trans (s3.trans s5)))
    · exact fun ρ4 σ4 G4 H4 p4 r5 s5 => ⟨ρ4, G4, r5, s2.trans (s3.trans s5), p4⟩
    · exact fun d v G4 H4 p4 f s5 q => l.rt d v G4 H4 p4 f (s1.trans (s2.trans (s3.trans s5))) q
    · exact fun d v p G4 H4 p4 f s5 q => l.rf d v p G4 H4 p4 f (s1.trans (s2.trans (s3.trans s5))) q
  · have e : i = ds.length := by omega
    subst e
    rw [List.drop_length] at p2
    exact .inl ⟨y.stop _ H' (s2.trans r2.frm.gs) (Nat.le_refl _), l.nx ρ' σ' G' H' p2 r2 (s1.trans s2)⟩⟩
/-! ### while -/
def dWhile (c : DT) (body : DS) : DS := fun P ρ => ∃ W : Nat → Env → Prop, (∃ m, W m ρ) ∧ ∀ m ρ, W m ρ → c ρ fun b => if b = true then body { P with nx := fun ρ' => ∃ m', m' < m ∧ W m' ρ', ct := fun ρ' => ∃ m', m' < m ∧ W m' ρ', bk := P.nx } ρ else P.nx ρ
theorem s_while {c : Expr} {body : List Stmt} {tc : TT} {tb : TS} {dc : DT} {db : DS} {pos : Pos} (hp : PassesOwn (model X.prog X.w) X.A X.env X.xe) (hc : PDT X c tc dc) (hb : PDSs X body tb db) : PDS X (.While c body [] pos) (tWhile tc tb) (dWhile dc db) := ⟨ps_while hp hc.pe hb.pe, fun M G ρ σ H P D rl hp l => by
  obtain ⟨W, ⟨m0, w0⟩, turn⟩ := hp
  refine ⟨fun m σ' H' => ∃ ρ' G', W m ρ' ∧ Rel X.K M G' ρ' σ' H' ∧ Same G G', ⟨m0, ρ, G, w0, rl, Same.refl G⟩, ?_⟩
  rintro m σ' H' ⟨ρ', G', w', r2, s2⟩
  refine hc.se M G' ρ' σ' H' _ _ r2 (turn m ρ' w') fun b G3 H3 p3 r3 s3 => ?_
  cases b with
  | false => exact iteF (l.nx ρ' σ' G3 H3 (by simpa using p3) r3 (s2.trans s3))
  | true =>
    refine iteT ⟨fun σ'' H'' => ∃ m' ρ'' G'', m' < m ∧ W m' ρ'' ∧ Rel X.K M G'' ρ'' σ'' H'' ∧ Same G G'', fun σ'' H'' ⟨m', ρ'', G'', h1, h2, h3, h4⟩ => ⟨m', h1, ρ'', G'', h2, h3, h4⟩, ?_⟩
    refine hb.se M G3 ρ' σ' H3 _ _ r3 (by simpa using p3) { nx := ?_, bk := ?_, ct := ?_, rt := ?_, rf := ?_ }
    · exact fun ρ4 σ4 G4 H4 ⟨m', h1, h2⟩ r5 s5 => ⟨m', ρ4, G4, h1, h2, r5, s2.trans (s3.trans s5)⟩
    · exact fun ρ4 σ4 G4 H4 p4 r5 s5 => l.nx ρ4 σ4 G4 H4 p4 r5 (s2.trans (s3.trans s5))
    · exact fun ρ4 σ4 G4 H4 ⟨m', h1, h2⟩ r5 s5 => ⟨m', ρ4, G4, h1, h2, r5, s2.trans (s3.trans s5)⟩
    · exact fun d v G4 H4 p4 f s5 q => l.rt d v G4 H4 p4 f (s2.trans (s3.trans s5)) q
    · exact fun d v p G4 H4 p4 f s5 q => l.rf d v p G4 H4 p4 f (s2.trans (s3.trans s5)) q⟩
end


/-! ### comprehensions -/
def wipeE (ρ : Env) : List Nat → Env
  | [] => ρ
  | v :: vs => (wipeE ρ vs).set v .no
theorem wipeE_out {ρ : Env} {i : Nat} : ∀ {vs : List Nat}, i ∉ vs → (wipeE ρ vs)[i]? = ρ[i]?
  | [], _ => rfl
  | v :: vs, h => by
    rw [List.mem_cons, not_or] at h
    unfold wipeE
    rw [List.getElem?_set_ne (Ne.symm h.1), wipeE_out h.2]
theorem wipeE_len (ρ : Env) : ∀ vs : List Nat, (wipeE ρ vs).length = ρ.length
  | [] => rfl
  | v :: vs => by unfold wipeE; rw [List.length_set, wipeE_len ρ vs]
theorem set_set_comm {α : Type} (l : List α) (i j : Nat) (a b : α) (h : i = j → a = b) : (l.set i a).set j b = (l.set j b).set i a := by
  by_cases e : i = j
  · subst e; rw [h rfl]
  · exact List.set_comm _ _ e
theorem wipeE_set {ρ : Env} {i : Nat} {s : Sl} : ∀ {vs : List Nat}, i ∈ vs → wipeE (ρ.set i s) vs = wipeE ρ vs
  | v :: vs, h => by
    by_cases hi : i ∈ vs
    · unfold wipeE; rw [wipeE_set hi]
    · have e : i = v := (List.mem_cons.mp h).resolve_right hi
      subst e
      have out : ∀ (ws : List Nat), i ∉ ws → wipeE (ρ.set i s) ws = (wipeE ρ ws).set i s := fun ws => by
        induction ws with
        | nil => intro _; rfl
        | cons w ws ih =>
          intro hw
          rw [List.mem_cons, not_or] at hw
          show (wipeE (ρ.set i s) ws).set w .no = ((wipeE ρ ws).set w .no).set i s
          rw [ih hw.2, List.set_comm _ _ hw.1]
      show (wipeE (ρ.set i s) vs).set i .no = (wipeE ρ vs).set i .no
      rw [out vs hi, List.set_set]
theorem wipe_set {σ : L2.St} {i : Nat} {s : Option V} : ∀ {vs : List Nat}, i ∈ vs → wipe (σ.set i s) vs = wipe σ vs
  | v :: vs, h => by
    by_cases hi : i ∈ vs
    · unfold wipe; rw [wipe_set hi]
    · have e : i = v := (List.mem_cons.mp h).resolve_right hi
      subst e
      have out : ∀ (ws : List Nat), i ∉ ws → wipe (σ.set i s) ws = (wipe σ ws).set i s := fun ws => by
        induction ws with
        | nil => intro _; rfl
        | cons w ws ih =>
          intro hw
          rw [List.mem_cons, not_or] at hw
          show (wipe (σ.set i s) ws).set w none = ((wipe σ ws).set w none).set i s
          rw [ih hw.2, List.set_comm _ _ hw.1]
      show (wipe (σ.set i s) vs).set i none = (wipe σ vs).set i none
      rw [out vs hi, List.set_set]
theorem wipeE_idem (ρ : Env) (vs : List Nat) : wipeE (wipeE ρ vs) vs = wipeE ρ vs := by
  have go : ∀ ws : List Nat, (∀ w ∈ ws, w ∈ vs) → wipeE (wipeE ρ ws) vs = wipeE ρ vs := fun ws => by
    induction ws with
    | nil => intro _; rfl
    | cons w ws ih =>
      intro h
      show wipeE ((wipeE ρ ws).set w .no) vs = wipeE ρ vs
      rw [wipeE_set (h w List.mem_cons_self)]
      exact ih fun x hx => h x (List.mem_cons_of_mem _ hx)
  exact go vs fun _ h => h
theorem wipe_idem (σ : L2.St) (vs : List Nat) : wipe (wipe σ vs) vs = wipe σ vs := by
  have go : ∀ ws : List Nat, (∀ w ∈ ws, w ∈ vs) → wipe (wipe σ ws) vs = wipe σ vs := fun ws => by
    induction ws with
    | nil => intro _; rfl
    | cons w ws ih =>
      intro h
      show wipe ((wipe σ ws).set w none) vs = wipe σ vs
      rw [wipe_set (h w List.mem_cons_self)]
      exact ih fun x hx => h x (List.mem_cons_of_mem _ hx)
  exact go vs fun _ h => h
/-- a target sets these slots alone -/
def GW (t : TG) (vs : List Nat) : Prop := ∀ v σ H (Q Q' : L2.St → Hp → Prop), t v σ H Q → (∀ σ' H', wipe σ' vs = wipe σ vs → Q σ' H' → Q' σ' H') → t v σ H Q'
def GWs (t : TGs) (vs : List Nat) : Prop := ∀ v σ H (Q Q' : L2.St → Hp → Prop), t v σ H Q → (∀ σ' H', wipe σ' vs = wipe σ vs → Q σ' H' → Q' σ' H') → t v σ H Q'
def GWd (g : DG) (vs : List Nat) : Prop := ∀ d ρ (P P' : Env → Prop), g d ρ P → (∀ ρ', wipeE ρ' vs = wipeE ρ vs → P ρ' → P' ρ') → g d ρ P'
def GWds (g : DGs) (vs : List Nat) : Prop := ∀ d ρ (P P' : Env → Prop), g d ρ P → (∀ ρ', wipeE ρ' vs = wipeE ρ vs → P ρ' → P' ρ') → g d ρ P'
theorem gw_name {i : Nat} {vs : List Nat} (h : i ∈ vs) : GW (gName i) vs := fun v σ H Q Q' q k => k _ _ (wipe_set h) q
theorem gw_nil {vs : List Nat} : GWs gNil vs := fun v σ H Q Q' q k => ⟨q.1, k _ _ rfl q.2⟩
theorem gw_cons {t : TG} {u : TGs} {vs : List Nat} (h : GW t vs) (h' : GWs u vs) : GWs (gCons t u) vs := fun v σ H Q Q' ⟨x, r, e, q⟩ k =>
  ⟨x, r, e, h x σ H _ _ q fun σ' H' w q' => h' r σ' H' _ _ q' fun σ'' H'' w' q'' => k _ _ (w'.trans w) q''⟩
theorem gw_tup {K : PySem.W.Frag} {n : Nat} {u : TGs} {vs : List Nat} (h : GWs u vs) : GW (gTup K n u) vs := fun v σ H Q Q' ⟨a, xs, e1, e2, e3, q⟩ k => ⟨a, xs, e1, e2, e3, h xs σ H _ _ q k⟩
theorem gwd_name {i : Nat} {vs : List Nat} (h : i ∈ vs) : GWd (dName i) vs := fun v σ Q Q' q k => k _ (wipeE_set h) q
theorem gwd_nil {vs : List Nat} : GWds dGNil vs := fun d ρ P P' p k => by
  unfold dGNil at p ⊢; split at p
  · exact k _ rfl p
  · exact p.elim
theorem gwd_cons {t : DG} {u : DGs} {vs : List Nat} (h : GWd t vs) (h' : GWds u vs) : GWds (dGCons t u) vs := fun d ρ P P' p k => by
  unfold dGCons at p ⊢; split at p
  · exact h _ ρ _ _ p fun ρ' w p' => h' _ ρ' _ _ p' fun ρ'' w' p'' => k _ (w'.trans w) p''
  · exact p.elim
theorem gwd_tup {n : Nat} {u : DGs} {vs : List Nat} (h : GWds u vs) : GWd (dGTup n u) vs := fun d ρ P P' p k => by
  obtain ⟨ds, rfl, hl, p⟩ := D.tupP_of p
  exact ⟨hl, h ds ρ _ _ p k⟩
def Sl.still : Sl → Bool
  | .ow _ => false
  | _ => true
section
variable {X : Cx} {K : PySem.W.Frag} {M : Fm} {G G' H H' : Hp} {ρ ρ' : Env} {σ σ' : L2.St}
theorem Rel.wiped (r : Rel K M G ρ σ H) : ∀ vs : List Nat, Rel K M G (wipeE ρ vs) (wipe σ vs) H
  | [] => r
  | v :: vs => (r.wiped vs).drop v none
theorem still_of {vs : List Nat} (h : (vs.all fun v => (sat ρ v).still) = true) {v : Nat} (hv : v ∈ vs) {ds : List D} : ρ[v]? ≠ some (.ow ds) := fun e => by
  have q := List.all_eq_true.mp h v hv
  have sat_of : ∀ {ρ : Env} {v : Nat} {s : Sl}, ρ[v]? = some s → sat ρ v = s := fun {ρ} => by
    induction ρ with
    | nil => intro v s h; simp at h
    | cons x r ih =>
      intro v s h
      cases v with
      | zero => exact Option.some.inj h
      | succ v => exact ih (v := v) h
  rw [sat_of e] at q
  cases q
theorem Rel.unwipe {vs : List Nat} (r : Rel K M G ρ σ H) (r' : Rel K M G' ρ' σ' H') (e : wipeE ρ' vs = wipeE ρ vs) (e' : wipe σ' vs = wipe σ vs) (s : Same G G') (h : (vs.all fun v => (sat ρ v).still) = true) : Rel K M G' ρ σ H' := by
  have eq1 : ∀ {i : Nat}, i ∉ vs → ρ'[i]? = ρ[i]? := fun {i} hi => by rw [← wipeE_out hi, e, wipeE_out hi]
  have eq2 : ∀ {i : Nat}, i ∉ vs → σ'[i]? = σ[i]? := fun {i} hi => by rw [← wipe_out hi, e', wipe_out hi]
  refine ⟨r'.frm, r.len, fun i t et => ?_, fun i j a ds es hij e1 e2 e3 e4 => ?_⟩
  · by_cases hi : i ∈ vs
    · have q := r.sl i t et
      cases t with
      | no => trivial
      | fz d => obtain ⟨v, e1, q⟩ := q; exact ⟨v, e1, q.mono s⟩
      | ow ds => exact absurd et (still_of h hi)
      | ur => exact q
    · have q := r'.sl i t ((eq1 hi).trans et)
      rw [eq2 hi] at q
      exact q
  · have hi : i ∉ vs := fun z => still_of h z e1
    have hj : j ∉ vs := fun z => still_of h z e2
    exact r'.sep i j a ds es hij ((eq1 hi).trans e1) ((eq1 hj).trans e2) ((eq2 hi).trans e3) ((eq2 hj).trans e4)
def compP (g : DG) (t : DT) (e : DE) (ρ : Env) : List D → (List D → Prop) → Prop
  | [], P => P []
  | d :: ds, P => g d ρ fun ρ1 => t ρ1 fun b => if b = true then e ρ1 fun y => compP g t e ρ ds fun ys => P (y :: ys) else compP g t e ρ ds P
def dComp (i : DI) (g : DG) (t : DT) (e : DE) (vs : List Nat) : DA := fun ρ P => i ρ fun ds => ((vs.all fun v => (sat ρ v).still) = true ∧ ds.length ≤ sizeLine) ∧ compP g t e (wipeE ρ vs) ds P
structure PDTs (X : Cx) (ifs : List Expr) (t : TT) (d : DT) : Prop where
  pe : PTs X ifs t
  se : ST X.K t d
def dYes : DT := fun _ P => P true
theorem ts_nil : PDTs X [] tYes dYes := ⟨pts_nil, fun M G ρ σ H P Q rl hp k => k true G H hp rl (Same.refl G)⟩
theorem ts_one {c : Expr} {t : TT} {d : DT} (h : PDT X c t d) : PDTs X [c] t d := ⟨pts_one h.pe, h.se⟩
theorem rem_upd {p : Addr} {o : HO} (h : H p = none) : rem (upd H p o) p = H := by
  funext b
  by_cases e : b = p
  · subst e; rw [rem_same, h]
  · rw [rem_ne e, upd_ne e]
theorem rem_upd2 {p : Addr} {o : HO} : rem (upd H p o) p = rem H p := by
  funext b
  by_cases e : b = p
  · subst e; rw [rem_same, rem_same]
  · rw [rem_ne e, rem_ne e, upd_ne e]
theorem sf_lc {wi : TI} {t : TG} {tt : TT} {te : TE} {vs : List Nat} {di : DI} {g : DG} {dt : DT} {de : DE} (hi : SI K wi di) (hg : SG K t g) (gw : GW t vs) (gwd : GWd g vs) (ht : ST K tt dt) (he : SE K te de) : SF K (tLc wi t tt te vs) (dComp di g dt de vs) := fun M G ρ σ H P Q rl hp k => by
  refine hi M G ρ σ H _ _ rl hp fun ds J G1 H1 p1 r1 s1 y => ?_
  obtain ⟨⟨st, hsz⟩, p1⟩ := p1
  intro D hD
  have hF : M.F D = none := r1.frm.fs.free hD
  refine ⟨fun i m H' => ∃ G' acc ys, (m = ds.length - i ∧ i ≤ ds.length ∧ ys.length ≤ i) ∧ Same G1 G' ∧ H' D = some (.lst acc) ∧ Rel K M G' ρ σ (rem H' D) ∧ RpL K G' acc ys ∧ compP g dt de (wipeE ρ vs) (ds.drop i) (fun zs => P (ys ++ zs)),
    ⟨ds.length, G1, [], [], ⟨rfl, Nat.zero_le _, Nat.le_refl _⟩, Same.refl _, upd_same, by rw [rem_upd hD]; exact r1, .nil, by simpa using p1⟩, ?_⟩
  rintro i m H2 ⟨G2, acc, ys, ⟨rfl, hle, hy⟩, s2, eD, r2, q2, p2⟩
  have eH : upd (rem H2 D) D (.lst acc) = H2 := upd_rem eD
  have sH : Same (rem H2 D) H2 := fun b o e => by
    have : b ≠ D := fun z => by rw [z, rem_same] at e; cases e
    rw [rem_ne this] at e; exact e
  have sG : Same G1 H2 := s2.trans (r2.frm.gs.trans sH)
  by_cases hlt : i < ds.length
  · refine .inr ⟨y.go i H2 sG hlt, fun H' => ∃ G' acc ys, ys.length ≤ i + 1 ∧ Same G1 G' ∧ H' D = some (.lst acc) ∧ Rel K M G' ρ σ (rem H' D) ∧ RpL K G' acc ys ∧ compP g dt de (wipeE ρ vs) (ds.drop (i + 1)) (fun zs => P (ys ++ zs)),
      fun H' ⟨G', acc, ys, h1, h2, h3, h4, h5, h6⟩ => ⟨ds.length - (i + 1), by omega, G', acc, ys, ⟨rfl, hlt, h1⟩, h2, h3, h4, h5, h6⟩, fun x H3 hy3 => ?_⟩
    rw [List.drop_eq_getElem_cons hlt] at p2
    have rh : Rel K (M.hold D (.lst acc)) G2 ρ σ H2 := by
      have q := r2.hold (o := .lst acc) (rem_same (H := H2) (p := D))
      rw [eH] at q
      exact q
    obtain ⟨G3, s3, r3, q3, _⟩ := y.come (rh.wiped vs) s2 (List.getElem?_eq_getElem hlt) hy3
    refine gw x (wipe σ vs) H3 _ _ (hg _ G3 _ _ H3 x _ (fun ρ1 => wipeE ρ1 vs = wipeE ρ vs ∧ dt ρ1 fun b => if b = true then de ρ1 fun y => compP g dt de (wipeE ρ vs) (ds.drop (i + 1)) fun zs => P (ys ++ (y :: zs)) else compP g dt de (wipeE ρ vs) (ds.drop (i + 1)) fun zs => P (ys ++ zs))
      (fun σ1 H4 => ∃ ρ1, (wipeE ρ1 vs = wipeE ρ vs ∧ dt ρ1 fun b => if b = true then de ρ1 fun y => compP g dt de (wipeE ρ vs) (ds.drop (i + 1)) fun zs => P (ys ++ (y :: zs)) else compP g dt de (wipeE ρ vs) (ds.drop (i + 1)) fun zs => P (ys ++ zs)) ∧ Rel K (M.hold D (.lst acc)) G3 ρ1 σ1 H4) r3 q3
      (gwd _ _ _ _ p2 fun ρ1 w p => ⟨w.trans (wipeE_idem ρ vs), p⟩) fun ρ1 σ1 p r => ⟨ρ1, p, r⟩) fun σ1 H4 w h => ?_
    obtain ⟨ρ1, ⟨w1, p4⟩, r4⟩ := h
    have w2 : wipe σ1 vs = wipe σ vs := w.trans (wipe_idem σ vs)
    refine ⟨w2, ht _ G3 ρ1 σ1 H4 _ _ r4 p4 fun b G5 H5 p5 r5 s5 => ?_⟩
    have lf := r1.frm.lf
    cases b with
    | false =>
      refine iteF ⟨G5, acc, ys, Nat.le_succ_of_le hy, s2.trans (s3.trans s5), r5.held, ?_, q2.mono (s3.trans s5), by simpa using p5⟩
      exact (rh.unwipe r5 w1 w2 (s3.trans s5) st).take hF lf
    | true =>
      refine iteT (he _ G5 ρ1 σ1 H5 _ _ r5 (by simpa using p5) fun d v G6 H6 p6 r6 s6 q6 => ?_)
      refine ⟨acc, r6.held, by rw [q2.len]; omega, G6, acc ++ [v], ys ++ [d], by rw [List.length_append, List.length_singleton]; omega, s2.trans (s3.trans (s5.trans s6)), upd_same, ?_, (q2.mono (s3.trans (s5.trans s6))).app (.one q6), by simpa using p6⟩
      rw [rem_upd2]
      exact (rh.unwipe r6 w1 w2 (s3.trans (s5.trans s6)) st).take hF lf
  · have e : i = ds.length := by omega
    subst e
    rw [List.drop_length] at p2
    refine .inl ⟨y.stop _ H2 sG (Nat.le_refl _), ?_⟩
    have p2 : P (ys ++ []) := p2
    rw [List.append_nil] at p2
    rw [← eH]
    exact k ys acc D G2 _ p2 r2 (s1.trans s2) q2 rem_same
theorem f_lc {elt tg iter : Expr} {ifs : List Expr} {scope : Scope} {own : List (Str × Nat)} {pos : Pos} {wi : TI} {t : TG} {tt : TT} {te : TE} {di : DI} {g : DG} {dt : DT} {de : DE} (hc : X.calm = true) (hN : X.N.Nodup) (hi : PDI X tg iter wi di) (ok : BlkOk X.N X.env.scope scope own)
    (hg : ∀ (s : Shared) (H : Hp) (C : Addr) (cl : List (Str × Addr)) (fp : List Addr), PDG (X.blk s H scope (compEnvC scope cl C X.env) fp) tg t g) (gw : GW t (own.map (·.2))) (gwd : GWd g (own.map (·.2)))
    (ht : ∀ (s : Shared) (H : Hp) (C : Addr) (cl : List (Str × Addr)) (fp : List Addr), PDTs (X.blk s H scope (compEnvC scope cl C X.env) fp) ifs tt dt) (he : ∀ (s : Shared) (H : Hp) (C : Addr) (cl : List (Str × Addr)) (fp : List Addr), PDE (X.blk s H scope (compEnvC scope cl C X.env) fp) elt te de)
    (hs : ∀ x, foldedSetIterable iter X.env x = pure x := by intro _; rfl) : PDF X (.ListComp elt [⟨tg, iter, ifs, 0⟩] scope pos) (tLc wi t tt te (own.map (·.2))) (dComp di g dt de (own.map (·.2))) :=
  ⟨pe_lc hc hN hi.pe ok (fun s H C cl fp => (hg s H C cl fp).pe) (fun s H C cl fp => (ht s H C cl fp).pe) (fun s H C cl fp => (he s H C cl fp).pe) hs,
    sf_lc hi.se (hg X.s_0 X.H_0 0 [] []).se gw gwd (ht X.s_0 X.H_0 0 [] []).se (he X.s_0 X.H_0 0 [] []).se⟩
/-- y = [..] -/
theorem s_lcO {i : Nat} {y : Str} {py : Pos} {elt tg iter : Expr} {ifs : List Expr} {scope : Scope} {own : List (Str × Nat)} {pos spos : Pos} {wi : TI} {t : TG} {tt : TT} {te : TE} {di : DI} {g : DG} {dt : DT} {de : DE} (hc : X.calm = true) (hN : X.N.Nodup)
    (hi : PDI X tg iter wi di) (ok : BlkOk X.N X.env.scope scope own)
    (hg : ∀ (s : Shared) (H : Hp) (C : Addr) (cl : List (Str × Addr)) (fp : List Addr), PDG (X.blk s H scope (compEnvC scope cl C X.env) fp) tg t g) (gw : GW t (own.map (·.2))) (gwd : GWd g (own.map (·.2)))
    (ht : ∀ (s : Shared) (H : Hp) (C : Addr) (cl : List (Str × Addr)) (fp : List Addr), PDTs (X.blk s H scope (compEnvC scope cl C X.env) fp) ifs tt dt) (he : ∀ (s : Shared) (H : Hp) (C : Addr) (cl : List (Str × Addr)) (fp : List Addr), PDE (X.blk s H scope (compEnvC scope cl C X.env) fp) elt te de)
    (hsw : swapsWith (.ListComp elt [⟨tg, iter, ifs, 0⟩] scope pos) (some (.Name y py)) spos.line X.env = pure true)
    (hy : X.N[i]? = some y := by rfl) (hyl : X.env.scope.names.lookup y = some .local := by rfl) (hs : ∀ x, foldedSetIterable iter X.env x = pure x := by intro _; rfl) :
    PDS X (.Assign [.Name y py] (.ListComp elt [⟨tg, iter, ifs, 0⟩] scope pos) spos) (tAsg (tLc wi t tt te (own.map (·.2))) (gName i)) (dSet i (xF (dComp di g dt de (own.map (·.2))))) :=
  ⟨ps_setLc hc hN hy hyl hsw hi.pe ok (fun s H C cl fp => (hg s H C cl fp).pe) (fun s H C cl fp => (ht s H C cl fp).pe) (fun s H C cl fp => (he s H C cl fp).pe) hs, fun M G ρ σ H P D rl hp l =>
    (f_lc (pos := pos) hc hN hi ok hg gw gwd ht he hs).x.se M G ρ σ H _ _ rl hp fun s v G' H' p n s' => l.nx _ _ G' H' p (n.put i) s'⟩
theorem s_lcE {i : Nat} {y : Str} {py : Pos} {elt tg iter : Expr} {ifs : List Expr} {scope : Scope} {own : List (Str × Nat)} {pos spos : Pos} {wi : TI} {t : TG} {tt : TT} {te : TE} {di : DI} {g : DG} {dt : DT} {de : DE} (hc : X.calm = true) (hN : X.N.Nodup)
    (hi : PDI X tg iter wi di) (ok : BlkOk X.N X.env.scope scope own)
    (hg : ∀ (s : Shared) (H : Hp) (C : Addr) (cl : List (Str × Addr)) (fp : List Addr), PDG (X.blk s H scope (compEnvC scope cl C X.env) fp) tg t g) (gw : GW t (own.map (·.2))) (gwd : GWd g (own.map (·.2)))
    (ht : ∀ (s : Shared) (H : Hp) (C : Addr) (cl : List (Str × Addr)) (fp : List Addr), PDTs (X.blk s H scope (compEnvC scope cl C X.env) fp) ifs tt dt) (he : ∀ (s : Shared) (H : Hp) (C : Addr) (cl : List (Str × Addr)) (fp : List Addr), PDE (X.blk s H scope (compEnvC scope cl C X.env) fp) elt te de)
    (hsw : swapsWith (.ListComp elt [⟨tg, iter, ifs, 0⟩] scope pos) (some (.Name y py)) spos.line X.env = pure true)
    (hy : X.N[i]? = some y := by rfl) (hyl : X.env.scope.names.lookup y = some .local := by rfl) (hs : ∀ x, foldedSetIterable iter X.env x = pure x := by intro _; rfl) :
    PDS X (.Assign [.Name y py] (.ListComp elt [⟨tg, iter, ifs, 0⟩] scope pos) spos) (tAsg (tLc wi t tt te (own.map (·.2))) (gName i)) (dSet i (xE (dF (dComp di g dt de (own.map (·.2)))))) :=
  ⟨ps_setLc hc hN hy hyl hsw hi.pe ok (fun s H C cl fp => (hg s H C cl fp).pe) (fun s H C cl fp => (ht s H C cl fp).pe) (fun s H C cl fp => (he s H C cl fp).pe) hs, fun M G ρ σ H P D rl hp l =>
    (f_lc (pos := pos) hc hN hi ok hg gw gwd ht he hs).e.x.se M G ρ σ H _ _ rl hp fun s v G' H' p n s' => l.nx _ _ G' H' p (n.put i) s'⟩

/-! ### lists that are changed -/
theorem Rel.owAt {i : Nat} {P : List D → Prop} (r : Rel K M G ρ σ H) (h : (sat ρ i).owP P) : ∃ ds a vs, P ds ∧ ρ[i]? = some (.ow ds) ∧ σ[i]? = some (some (.ref a)) ∧ G a = none ∧ H a = some (.lst vs) ∧ RpL K G vs ds := by
  obtain ⟨ds, e, p⟩ := Sl.owP_of h
  have e := sat_get e (fun z => nomatch z)
  obtain ⟨a, vs, e1, g1, _, _, h1, q⟩ := r.sl i _ e
  exact ⟨ds, a, vs, p, e, e1, g1, h1, q⟩
/-- what a changed list's slot holds, its address found ahead of an expression -/
theorem Rel.owAdr {i : Nat} {ds : List D} (r : Rel K M G ρ σ H) (r' : Rel K M G' ρ σ H') {a : Addr} (e : ρ[i]? = some (.ow ds)) (ea : σ[i]? = some (some (.ref a))) : ∃ vs, H' a = some (.lst vs) ∧ RpL K G' vs ds := by
  obtain ⟨a', vs, e1, _, _, _, h1, q⟩ := r'.sl i _ e
  rw [ea] at e1; cases e1
  exact ⟨vs, h1, q⟩
theorem sat_at {s : Sl} : ∀ {ρ : Env} {i : Nat}, ρ[i]? = some s → sat ρ i = s
  | [], _, h => by simp at h
  | _ :: _, 0, h => Option.some.inj h
  | _ :: r, i + 1, h => sat_at (ρ := r) (i := i) h
def dApp (i : Nat) (e : DE) : DS := fun P ρ => (sat ρ i).owP fun ds => e ρ fun d => ds.length < sizeLine ∧ P.nx (ρ.set i (.ow (ds ++ [d])))
theorem s_app (i : Nat) {x : Str} {p ap cp pos : Pos} {e : Expr} {te : TE} {d : DE} (he : PDE X e te d) (hN : X.N[i]? = some x := by rfl) (hv : Vis X.env.scope x := by first | exact Or.inl rfl | exact Or.inr (Or.inl rfl) | exact Or.inr (Or.inr rfl)) (hd : (x == ("__debug__" : Str)) = false := by decide)
    (hcd : (x == ("__classdict__" : Str)) = false := by decide) (hbase : attributeBase (.Name x p) "append" X.env (eval (.Name x p) X.env) = eval (.Name x p) X.env := by rfl)
    (hfew : ((backTo cp (starEach [e] X.env)).all (fun x => !x.1) && (backToKw cp (keywordEach [] X.env)).all (fun x => x.1.isSome) && decide ([e].length + ([] : List Keyword).length + (if ([] : List Keyword).isEmpty then 0 else 1) < 30)) = true := by rfl)
    (hline : (ap.endLine == cp.line) = true := by rfl) (hst : starEach [e] X.env = (false, eval e X.env) :: starEach [] X.env := by rfl) (hplain : (backTo cp (starEach [] X.env)).any (·.1) = false := by rfl)
    (hs : swapsWith (.Call (.Attribute (.Name x p) "append" ap) [e] [] cp) none pos.line X.env = pure false := by rfl) :
    PDS X (.Expr (.Call (.Attribute (.Name x p) "append" ap) [e] [] cp) pos) (tDrop (tBM X.K "list" rAppend (tVar i) (tCons te tNil))) (dApp i d) :=
  ⟨ps_expr (pe_bm PySem.F.plainAttrs_list PySem.F.slot_list_append PySem.F.type_list_append mt_append (pe_var hN hv hd hcd) (pa_cons he.pe pa_nil hst) hbase hfew hline hst hplain) hs, fun M G ρ σ H P D rl hp l => by
    obtain ⟨ds, a, vs, p1, e1, e2, g1, h1, q1⟩ := rl.owAt hp
    refine ⟨_, e2, .inl ⟨rfl, _, .inl (.inl h1)⟩, ?_⟩
    refine he.se M G ρ σ H _ _ rl p1 fun d v G2 H2 p2 r2 s2 q2 => ?_
    obtain ⟨ws, h2, q3⟩ := rl.owAdr r2 e1 e2
    exact ⟨a, ws, v, rfl, rfl, h2, by rw [q3.len]; exact p2.1, l.nx _ _ G2 _ p2.2 (r2.wr e1 e2 h2 (q3.app (.one q2))) s2⟩⟩
/-- .. the item popped from another one -/
def dAppPop (i j : Nat) (e : DE) : DS := fun P ρ => (sat ρ i).owP fun ds => (sat ρ j).owP fun es => e ρ fun x => x.intP fun k => i ≠ j ∧ -(2 ^ 63) ≤ k ∧ k < 2 ^ 63 ∧ optP (fun m => optP (fun d => ds.length < sizeLine ∧ P.nx ((ρ.set j (.ow (es.eraseIdx m))).set i (.ow (ds ++ [d])))) es[m]?) (ixN es.length k)
theorem s_appPop (i j : Nat) {x y : Str} {p ap cp pos p' ap' cp' : Pos} {e : Expr} {te : TE} {d : DE} (he : PDE X e te d) (hN : X.N[i]? = some x := by rfl) (hN' : X.N[j]? = some y := by rfl)
    (hv : Vis X.env.scope x := by first | exact Or.inl rfl | exact Or.inr (Or.inl rfl) | exact Or.inr (Or.inr rfl)) (hd : (x == ("__debug__" : Str)) = false := by decide)
    (hcd : (x == ("__classdict__" : Str)) = false := by decide) (hv' : Vis X.env.scope y := by first | exact Or.inl rfl | exact Or.inr (Or.inl rfl) | exact Or.inr (Or.inr rfl)) (hd' : (y == ("__debug__" : Str)) = false := by decide)
    (hcd' : (y == ("__classdict__" : Str)) = false := by decide)
    (hb1 : attributeBase (.Name y p') "pop" X.env (eval (.Name y p') X.env) = eval (.Name y p') X.env := by rfl)
    (hf1 : ((backTo cp' (starEach [e] X.env)).all (fun x => !x.1) && (backToKw cp' (keywordEach [] X.env)).all (fun x => x.1.isSome) && decide ([e].length + ([] : List Keyword).length + (if ([] : List Keyword).isEmpty then 0 else 1) < 30)) = true := by rfl)
    (hl1 : (ap'.endLine == cp'.line) = true := by rfl) (hst1 : starEach [e] X.env = (false, eval e X.env) :: starEach [] X.env := by rfl) (hpl1 : (backTo cp' (starEach [] X.env)).any (·.1) = false := by rfl)
    (hbase : attributeBase (.Name x p) "append" X.env (eval (.Name x p) X.env) = eval (.Name x p) X.env := by rfl)
    (hfew : ((backTo cp (starEach [.Call (.Attribute (.Name y p') "pop" ap') [e] [] cp'] X.env)).all (fun x => !x.1) && (backToKw cp (keywordEach [] X.env)).all (fun x => x.1.isSome) && decide ([Expr.Call (.Attribute (.Name y p') "pop" ap') [e] [] cp'].length + ([] : List Keyword).length + (if ([] : List Keyword).isEmpty then 0 else 1) < 30)) = true := by rfl)
    (hline : (ap.endLine == cp.line) = true := by rfl) (hst : starEach [.Call (.Attribute (.Name y p') "pop" ap') [e] [] cp'] X.env = (false, eval (.Call (.Attribute (.Name y p') "pop" ap') [e] [] cp') X.env) :: starEach [] X.env := by rfl) (hplain : (backTo cp (starEach [] X.env)).any (·.1) = false := by rfl)
    (hs : swapsWith (.Call (.Attribute (.Name x p) "append" ap) [.Call (.Attribute (.Name y p') "pop" ap') [e] [] cp'] [] cp) none pos.line X.env = pure false := by rfl) :
    PDS X (.Expr (.Call (.Attribute (.Name x p) "append" ap) [.Call (.Attribute (.Name y p') "pop" ap') [e] [] cp'] [] cp) pos) (tDrop (tBM X.K "list" rAppend (tVar i) (tCons (tBM X.K "list" rPopAt (tVar j) (tCons te tNil)) tNil))) (dAppPop i j d) :=
  ⟨ps_expr (pe_bm PySem.F.plainAttrs_list PySem.F.slot_list_append PySem.F.type_list_append mt_append (pe_var hN hv hd hcd) (pa_cons (pe_bm PySem.F.plainAttrs_list PySem.F.slot_list_pop PySem.F.type_list_pop mt_popAt (pe_var hN' hv' hd' hcd') (pa_cons he.pe pa_nil hst1) hb1 hf1 hl1 hst1 hpl1) pa_nil hst) hbase hfew hline hst hplain) hs, fun M G ρ σ H P Dn rl hp l => by
    obtain ⟨ds, a, vs, p1, e1, e2, g1, h1, q1⟩ := rl.owAt hp
    obtain ⟨es, b, ws, p1, f1, f2, g2, h2, q2⟩ := rl.owAt p1
    refine ⟨_, e2, .inl ⟨rfl, _, .inl (.inl h1)⟩, _, f2, .inl ⟨rfl, _, .inl (.inl h2)⟩, ?_⟩
    refine he.se M G ρ σ H _ _ rl p1 fun x v G3 H3 p3 r3 s3 q3 => ?_
    obtain ⟨k, rfl, hij, hk1, hk2, p3⟩ := D.intP_of p3
    obtain ⟨m, em, p3⟩ := optP_of p3
    obtain ⟨d, ed, hl, p3⟩ := optP_of p3
    obtain ⟨vs', h3, q4⟩ := rl.owAdr r3 e1 e2
    obtain ⟨ws', h4, q5⟩ := rl.owAdr r3 f1 f2
    obtain ⟨w, ew, q6⟩ := q5.get ed
    have hab : a ≠ b := fun z => by subst z; exact r3.sep i j a _ _ hij e1 f1 e2 f2
    have r4 := r3.wr f1 f2 h4 (q5.erase m)
    have e1' : (ρ.set j (.ow (es.eraseIdx m)))[i]? = some (.ow ds) := by rw [List.getElem?_set_ne hij.symm]; exact e1
    have h3' : (upd H3 b (.lst (ws'.eraseIdx m))) a = some (.lst vs') := by rw [upd_ne hab]; exact h3
    refine ⟨b, ws', k, m, w, rfl, by rw [q3.intI], h4, hk1, hk2, (ixN_seq (by rw [q5.len]; exact em)).1, ew, ?_⟩
    exact ⟨a, vs', w, rfl, rfl, h3', by rw [q4.len]; exact hl, l.nx _ _ G3 _ p3 (r4.wr e1' e2 h3' (q4.app (.one q6))) s3⟩⟩
/-- xs[i] = e -/
def dSetI (i : Nat) (ix e : DE) : DS := fun P ρ => e ρ fun d => ix ρ fun x => x.intP fun k => (sat ρ i).owP fun ds => optP (fun j => P.nx (ρ.set i (.ow (ds.set j d)))) (ixN ds.length k)
/-! reading a list that is changed -/
def dLenO (i : Nat) : DE := fun ρ P => (sat ρ i).owP fun ds => P (.int ds.length)
theorem d_lenO (i : Nat) {x f : Str} {p fp pos : Pos} (hg : Gl X f) (hm : X.mg f = none) (hb : bootBuiltins f = some (.builtin "len")) (hN : X.N[i]? = some x := by rfl) (hv : Vis X.env.scope x := by first | exact Or.inl rfl | exact Or.inr (Or.inl rfl) | exact Or.inr (Or.inr rfl)) (hd : (x == ("__debug__" : Str)) = false := by decide)
    (hcd : (x == ("__classdict__" : Str)) = false := by decide) (hn : f ≠ "__name__" := by decide) (hdb : (f == ("__debug__" : Str)) = false := by decide) (he : starEach [.Name x p] X.env = (false, eval (.Name x p) X.env) :: starEach [] X.env := by rfl) (hpl : (backTo pos (starEach [] X.env)).any (·.1) = false := by rfl) :
    PDE X (.Call (.Name f fp) [.Name x p] [] pos) (tCB (fun xs H Q => ∃ p ys, xs = [.ref p] ∧ (SqL X.K H p ys ∨ SqT X.K H p ys) ∧ Q (.int ys.length) H) (tCons (tVar i) tNil)) (dLenO i) :=
  ⟨pe_callB call_len_seq hg hm hb (pa_cons (pe_var hN hv hd hcd) pa_nil he) hn hdb he hpl, fun M G ρ σ H P Q rl hp k => by
    obtain ⟨ds, a, vs, p1, e1, e2, g1, h1, q1⟩ := rl.owAt hp
    exact ⟨_, e2, a, vs, rfl, .inl (.inl (.inl h1)), by rw [q1.len]; exact k _ _ G H p1 rl (Same.refl G) (.int _)⟩⟩
/-- xs[k] -/
def dIxO (i : Nat) (e : DE) : DE := fun ρ P => (sat ρ i).owP fun ds => e ρ fun x => x.intP fun k => optP P (atI ds k)
theorem d_ixO (i : Nat) {x : Str} {p pos : Pos} {b : Expr} {tb : TE} {db : DE} (hb : PDE X b tb db) (hs : PlainIx b := by exact fun _ _ => rfl) (hN : X.N[i]? = some x := by rfl) (hv : Vis X.env.scope x := by first | exact Or.inl rfl | exact Or.inr (Or.inl rfl) | exact Or.inr (Or.inr rfl)) (hd : (x == ("__debug__" : Str)) = false := by decide)
    (hcd : (x == ("__classdict__" : Str)) = false := by decide) : PDE X (.Subscript (.Name x p) b pos) (tOp (rIxL X.K) (tVar i) tb) (dIxO i db) :=
  ⟨pe_ix ix_list (pe_var hN hv hd hcd) hb.pe hs, fun M G ρ σ H P Q rl hp k => by
    obtain ⟨ds, a, vs, p1, e1, e2, g1, h1, q1⟩ := rl.owAt hp
    refine ⟨_, e2, hb.se M G ρ σ H _ _ rl p1 fun y v G2 H2 p2 r2 s2 q2 => ?_⟩
    obtain ⟨z, rfl, p2⟩ := D.intP_of p2
    obtain ⟨d, ed, p2⟩ := optP_of p2
    obtain ⟨ws, h2, q3⟩ := rl.owAdr r2 e1 e2
    obtain ⟨w, ew, q4⟩ := q3.atI ed
    exact ⟨a, ws, z, w, rfl, q2.intI, .inl (.inl h2), ew, k _ _ G2 H2 p2 r2 s2 q4⟩⟩
/-- a changed list is left as it is from here on -/
def dFreeze (i : Nat) (d : DS) : DS := fun P ρ => (sat ρ i).owP fun ds => d P (ρ.set i (.fz (.lst ds)))
theorem ss_freeze (i : Nat) {sts : List Stmt} {t : TS} {d : DS} (h : PDSs X sts t d) : PDSs X sts t (dFreeze i d) := ⟨h.pe, fun M G ρ σ H P D rl hp l => by
  obtain ⟨ds, e, p⟩ := Sl.owP_of hp
  obtain ⟨G', s, r, _⟩ := rl.freeze (sat_get e (fun z => nomatch z))
  exact h.se M G' _ σ H P D r p (l.mono s)⟩

/-! ### a def -/
def startD (N : List Str) (ds : List D) : Env := ds.map Sl.fz ++ List.replicate (N.length - ds.length) .no
def startU (N : List Str) (ds : List D) : Env := .ur :: ds.map Sl.fz ++ List.replicate (N.length - (ds.length + 1)) .no
theorem rel_start {N : List Str} {vs : List V} {ds : List D} (f : Frm M G H) (r : RpL K G vs ds) : Rel K M G (startD N ds) (start N vs) H where
  frm := f
  len := by unfold startD L2.start; simp [r.len]
  sl := fun i s e => by
    unfold startD at e
    by_cases hi : i < ds.length
    · rw [List.getElem?_append_left (by simpa using hi), List.getElem?_map, List.getElem?_eq_getElem hi] at e
      have e := Option.some.inj e
      subst e
      obtain ⟨v, ev, q⟩ := r.get (List.getElem?_eq_getElem hi)
      refine ⟨v, ?_, q⟩
      unfold L2.start
      rw [List.getElem?_append_left (by rw [List.length_map, r.len]; exact hi), List.getElem?_map, ev]; rfl
    · rw [List.getElem?_append_right (by simpa using hi)] at e
      have := List.mem_of_getElem? e
      rw [List.mem_replicate] at this
      rw [this.2]; trivial
  sep := fun i j a ds' es hij e1 _ _ _ => by
    have : ∀ x ∈ startD N ds, ∀ es, x ≠ .ow es := fun x hx es => by
      unfold startD at hx
      rcases List.mem_append.mp hx with h | h
      · obtain ⟨d, _, rfl⟩ := List.mem_map.mp h; intro z; cases z
      · rw [(List.mem_replicate.mp h).2]; intro z; cases z
    exact this _ (List.mem_of_getElem? e1) _ rfl
theorem rel_startU {N : List Str} {u : Addr} {vs : List V} {ds : List D} (f : Frm M G H) (hu : M.U = some u) (r : RpL K G vs ds) : Rel K M G (startU N ds) (start N (.ref u :: vs)) H := by
  have r0 := rel_start (N := N.drop 1) f r
  have e1 : startU N ds = .ur :: startD (N.drop 1) ds := by
    unfold startU startD
    rw [List.length_drop, show N.length - 1 - ds.length = N.length - (ds.length + 1) by omega]; rfl
  have e2 : start N (.ref u :: vs) = some (.ref u) :: start (N.drop 1) vs := by
    unfold L2.start
    rw [List.length_drop, show N.length - 1 - vs.length = N.length - (.ref u :: vs).length by rw [List.length_cons]; omega]; rfl
  rw [e1, e2]
  refine ⟨f, by rw [List.length_cons, List.length_cons, r0.len], fun i s e => ?_, fun i j a ds' es hij h1 h2 h3 h4 => ?_⟩
  · cases i with
    | zero =>
      have e := Option.some.inj e
      subst e
      exact ⟨u, hu, rfl⟩
    | succ i => exact r0.sl i s e
  · cases i with
    | zero => cases h1
    | succ i =>
      cases j with
      | zero => cases h2
      | succ j => exact r0.sep i j a ds' es (fun z => hij (by rw [z])) h1 h2 h3 h4
end

/-! ### defs where nothing is being shown -/
structure RG (k : Nat) (A : Around) : Prop where
  rm : Room k A
  gd : A.guards = some []
theorem RG.mono {j k : Nat} {A : Around} (h : RG k A) (l : j ≤ k) : RG j A := ⟨h.rm.mono l, h.gd⟩
theorem RG.deeper {k : Nat} {A : Around} (h : RG (k + 1) A) (e : PySem.Env) : RG k (A.deeper e) := ⟨h.rm.deeper e, h.gd⟩
structure FnG (P : Program) (w : World) (K : PySem.W.Frag) (mg : Str → Option Value) (base : Heap) (k : Nat) (f : Addr) (fd : FuncData) (ps : List Str) (sp : Sp) : Prop where
  ln : ∀ vs H Q E, sp vs H Q E → vs.length = ps.length
  go : ∀ (A : Around) (out : List PySem.Env) (s : Shared) (H : Hp) (gs : Args) (us : List Value) (vs : List V) (Q : VK) (E : XK), RG k A → Env0 P w K mg base A out s H →
    BindsTo s fd gs (ps.zip us) → Vals vs us → sp vs H Q E → codeAny (model P w) A (.call (.ref f) gs) (CR CX0 out P w H s Q E) s
section
variable {P : Program} {w : World} {K : PySem.W.Frag} {mg : Str → Option Value} {base : Heap}
theorem FnG.mono {j k : Nat} {f : Addr} {fd : FuncData} {ps : List Str} {sp : Sp} (h : FnG P w K mg base j f fd ps sp) (l : j ≤ k) : FnG P w K mg base k f fd ps sp :=
  ⟨h.ln, fun A out s H gs us vs Q E r => h.go A out s H gs us vs Q E (r.mono l)⟩
theorem fng_of {x qual : Str} {params : Arguments} {body : List Stmt} {scope : Scope} {dvs : List V} {kws : List (Str × V)} {f : Addr} {fd : FuncData} {N ps : List Str} {k : Nat} {sp : Sp} (F : FunD K x qual params body scope dvs kws f fd) (S : FnScope N ps scope)
    (ln : ∀ vs H Q E, sp vs H Q E → vs.length = ps.length)
    (hb : ∀ (cdv : Value) (A : Around) (out : List PySem.Env) (s : Shared) (H : Hp) (vs : List V) (Q : VK) (E : XK), RG k (A.deeper (envOfC qual scope s.heap.objs.size f cdv)) → sp vs H Q E →
      ∃ t, PSs (cxOf CX0 P w K mg base N qual scope f cdv A out s H E) body t ∧ t { nx := fun _ J => Q .non J, rt := Q } (start N vs) H) : FnG P w K mg base (k + 1) f fd ps sp := by
  obtain ⟨oc, od, dV, kV, doc, pm, an, cdv, ct, osl, rfl, lk, hcd, _, _⟩ := F.ex
  refine ⟨ln, fun A out s H gs us vs Q E hr e0 hbd r hs => ?_⟩
  have hlen := ln _ _ _ _ hs
  have hK : K.In s.heap := e0.mod.kin.keeps fun b o z => (e0.bs b o z).1
  have hN : s.heap.NoLimit := e0.mod.nolimit.keeps fun b o z => (e0.bs b o z).1
  refine codeAny_call_function hr.rm.depth (hK _ _ lk) rfl S.co S.gen rfl (PySem.W.codeRec_of hK hcd) (hbd _ _ _ _ ?_)
  refine wpAny_newFunctionEnv_cells S.kind (fun y hy => ?_) fun env he s1 z => ?_
  · have hy' := S.par y.1 (List.of_mem_zip (a := y.1) (b := y.2) hy).1
    exact hy'.elim .inl fun q => .inr ⟨q, PySem.W.cellsFrom_some _ _ _ (.inl q)⟩
  · subst he
    refine ⟨hN.keeps z.toInCall.keep, codeAny_func ?_⟩
    obtain ⟨t, pt, qt⟩ := hb cdv A out s H vs Q E (hr.deeper _) hs
    refine wpAny_mono (pt.run [] s1 (start N vs) H _ (inv_start S hr.rm.hd e0 hlen r z) qt) (fun fl s2 hf => ?_) fun _ _ hx => hx
    cases fl with
    | brk => exact hf.choose_spec.choose_spec.2.elim
    | cont => exact hf.choose_spec.choose_spec.2.elim
    | ret u =>
      obtain ⟨v, σ2, H2, J, rv, q⟩ := hf
      exact ⟨v, H2, J.os, J.bare, J.base, J.hok, rv, q⟩
    | next =>
      obtain ⟨σ2, H2, J, q⟩ := hf
      exact ⟨V.non, H2, J.os, J.bare, J.base, J.hok, rfl, q⟩
end
section
variable {X : Cx} {k : Nat} {f : Addr} {fd : FuncData} {ps : List Str} {sp : Sp} {x : Str} {p pos : Pos}
theorem rung {pins : List (Addr × Obj)} {σ : L2.St} {H : Hp} {s : Shared} {Q : VK} {gp : List Value} {gk : List (Str × Value)} {us : List Value} {vs : List V} (F : FnG X.prog X.w X.K X.mg X.base k f fd ps sp) (hr : RG k X.A) (I : Inv X pins σ H s)
    (hb : BindsTo s fd ⟨gp, gk⟩ (ps.zip us)) (r : Vals vs us) (h : sp vs H Q E0) : wpAny (model X.prog X.w) X.A (call (.ref f) gp gk) (EP X pins σ Q) X.xe s := by
  refine wpAny_call (codeAny_mono (F.go X.A X.stack s H ⟨gp, gk⟩ us vs Q E0 hr I.env0 hb r h) fun r s2 hq => ?_)
  cases r with
  | error e => exact pass0 pins σ H s e s2 I hq
  | ok fl =>
    cases fl with
    | ret u => exact I.after hq
    | next => exact hq.elim
    | brk => exact hq.elim
    | cont => exact hq.elim
theorem pe_g {e : Expr} {es : List Expr} {t : TA} (F : FnG X.prog X.w X.K X.mg X.base k f fd ps sp) (hr : RG k X.A) (hg : Gl X x) (hm : X.mg x = some (.ref f)) (hk : PySem.W.keepIn X.K (.ref f) = true) (hb : Binds X.K fd ps []) (ha : PA X (e :: es) t)
    (hdb : (x == ("__debug__" : Str)) = false := by decide) (he : starEach (e :: es) X.env = (false, eval e X.env) :: starEach es X.env := by rfl) (hpl : (backTo pos (starEach es X.env)).any (·.1) = false := by rfl) :
    PE X (.Call (.Name x p) (e :: es) [] pos) (tCall sp [] E0 t) := ⟨fun pins s σ H Q I h => wpAny_Call_Name_kw (ld_glob I hg hm
  (PySem.W.callWith_K (h₀ := X.base) I.ok.mod.kin hk (thn (ha.run pos pins s σ H _ I h) fun us s1 ⟨vs, H1, I1, r, q⟩ => ⟨I1.kIn, by
    have q : sp (vs ++ []) H1 Q E0 := q
    rw [List.append_nil] at q
    have hl : us.length = ps.length := r.length.symm.trans (F.ln _ _ _ _ q)
    have b := hb s1 us I1.kIn (by rw [List.append_nil]; exact hl)
    rw [List.append_nil] at b
    exact rung F hr I1 b r q⟩) he hpl) hdb)⟩
/-- nothing given -/
theorem pe_g0 (F : FnG X.prog X.w X.K X.mg X.base k f fd ps sp) (hr : RG k X.A) (hg : Gl X x) (hm : X.mg x = some (.ref f)) (hk : PySem.W.keepIn X.K (.ref f) = true) (hb : Binds X.K fd ps [])
    (hdb : (x == ("__debug__" : Str)) = false := by decide) : PE X (.Call (.Name x p) [] [] pos) (tCall sp [] E0 tNil) := ⟨fun pins s σ H Q I h => wpAny_Call_Name_kw (ld_glob I hg hm
  (PySem.W.callWith_K0 I.kIn hk (by
    have h : sp ([] ++ []) H Q E0 := h
    have hl := F.ln _ _ _ _ h
    exact rung F hr I (hb s [] I.kIn hl) .nil h)) hdb)⟩
/-- by names alone: g puts the keywords' values in the parameters' order -/
structure KwB (K : PySem.W.Frag) (fd : FuncData) (ps ks : List Str) (g : {α : Type} → List α → List α) : Prop where
  to : ∀ (s : Shared) (ws : List Value), K.In s.heap → ws.length = ks.length → BindsTo s fd ⟨[], ks.zip ws⟩ (ps.zip (g ws))
  rel : ∀ {zs : List V} {ws : List Value}, Vals zs ws → Vals (g zs) (g ws)
def tKw (n : Nat) (sp : Sp) (g : {α : Type} → List α → List α) (t : TA) : TE := fun σ H Q => t σ H fun zs H1 => zs.length = n ∧ sp (g zs) H1 Q E0
theorem pe_gK {ks : List Str} {kws : List Keyword} {t : TA} {g : {α : Type} → List α → List α} (F : FnG X.prog X.w X.K X.mg X.base k f fd ps sp) (hr : RG k X.A) (hg : Gl X x) (hm : X.mg x = some (.ref f)) (hk : PySem.W.keepIn X.K (.ref f) = true) (hb : KwB X.K fd ps ks g) (ha : PK X kws t)
    (hall : (backToKw pos (keywordEach kws X.env)).all (·.1.isSome) = true := by rfl) (hks : (backToKw pos (keywordEach kws X.env)).filterMap (·.1) = ks := by rfl) (hdb : (x == ("__debug__" : Str)) = false := by decide)
    (hpl : ((backTo pos (starEach [] X.env)).any (·.1) || (backToKw pos (keywordEach kws X.env)).any (·.1.isNone)) = false := by rfl) : PE X (.Call (.Name x p) [] kws pos) (tKw ks.length sp g t) := ⟨fun pins s σ H Q I h => wpAny_Call_Name_kw (ld_glob I hg hm
  (PySem.W.callWith_KW0 (h₀ := X.base) I.ok.mod.kin hk hall (thn (ha.run pos pins s σ H _ I h) fun ws s1 ⟨zs, H1, I1, r, hl, q⟩ => ⟨I1.kIn, by
    rw [hks]
    exact rung F hr I1 (hb.to s1 ws I1.kIn (r.length.symm.trans hl)) (hb.rel r) q⟩) hpl) hdb)⟩
end
/-! ### over the data -/
structure DefG (P : Program) (w : World) (K : PySem.W.Frag) (mg : Str → Option Value) (base : Heap) (x : Str) (ps : List Str) (k : Nat) (sp : Sp) : Prop where
  ex : ∃ (f : Addr) (fd : FuncData), mg x = some (.ref f) ∧ FnG P w K mg base k f fd ps sp ∧ PySem.W.keepIn K (.ref f) = true ∧ Binds K fd ps [] ∧ ∃ oc od osl, K.lookup f = some ⟨oc, od, .func fd, osl⟩
section
variable {P : Program} {w : World} {K : PySem.W.Frag} {mg : Str → Option Value} {base : Heap} {x : Str} {st : Stmt} {N ps : List Str} {k : Nat}
/-- where a def stands -/
structure At (K : PySem.W.Frag) (mg : Str → Option Value) (x : Str) (st : Stmt) : Prop where
  ex : ∃ (f : Addr) (fd : FuncData), mg x = some (.ref f) ∧ FunD K x x (defArgs st) (defBody st) (defScope st) [] [] f fd
def Bnd (x : Str) (st : Stmt) (ps : List Str) : Prop := ∀ (kV doc pm : Value) (an : Option Addr) (cdv ct : Value) (us : List Value), us.length = ps.length → bindArgs (PySem.W.fnOf x x (defArgs st) (defBody st) (defScope st) .none kV doc pm an cdv ct) ⟨us, []⟩ = pure (ps.zip us)
theorem defg_of {sp : Sp} (F : At K mg x st) (S : FnScope N ps (defScope st)) (B : Bnd x st ps) (ln : ∀ vs H Q E, sp vs H Q E → vs.length = ps.length)
    (hb : ∀ (f : Addr) (cdv : Value) (A : Around) (out : List PySem.Env) (s : Shared) (H : Hp) (vs : List V) (Q : VK) (E : XK), RG k (A.deeper (envOfC x (defScope st) s.heap.objs.size f cdv)) → sp vs H Q E →
      ∃ t, PSs (cxOf CX0 P w K mg base N x (defScope st) f cdv A out s H E) (defBody st) t ∧ t { nx := fun _ J => Q .non J, rt := Q } (start N vs) H) : DefG P w K mg base x ps (k + 1) sp := by
  obtain ⟨f, fd, hm, F⟩ := F.ex
  obtain ⟨oc, od, dV, kV, doc, pm, an, cdv, ct, osl, e, lk, _⟩ := F.ex
  exact ⟨f, fd, hm, fng_of F S ln (hb f), F.kp, F.bindsN B, oc, od, osl, by rw [e] at lk ⊢; exact lk⟩
theorem defP (F : At K mg x st) (S : FnScope N ps (defScope st)) (B : Bnd x st ps) (pre : Pre) {d : DS}
    (hb : ∀ (f : Addr) (cdv : Value) (A : Around) (out : List PySem.Env) (s : Shared) (H : Hp) (E : XK), RG k (A.deeper (envOfC x (defScope st) s.heap.objs.size f cdv)) → ∃ t, PDSs (cxOf CX0 P w K mg base N x (defScope st) f cdv A out s H E).nox (defBody st) t d)
    (hr : ∀ ds Pd, ds.length = ps.length → pre ds Pd → d { nx := fun _ => Pd .non, rt := Pd } (startD N ds)) : DefG P w K mg base x ps (k + 1) (spP K ps.length pre) := by
  refine defg_of F S B (fun vs H Q E ⟨G, ds, Pd, hl, _, r, _⟩ => by rw [r.len, hl]) fun f cdv A out s H vs Q E hrm ⟨G, ds, Pd, hl, g, r, p, q⟩ => ?_
  obtain ⟨t, hb⟩ := hb f cdv A out s H E hrm
  refine ⟨t, hb.pe.nox, ?_⟩
  have fr : Frm ⟨H, fun b => H b ≠ none ∧ G b = none, none⟩ G H := ⟨g, Same.refl H, fun b h => h.2, fun b h => h.1, fun u h => by cases h⟩
  refine hb.se _ G _ _ H _ _ (rel_start fr r) (hr ds Pd hl p) { nx := fun ρ σ G1 H1 p1 r1 s1 => ?_, bk := fun _ _ _ _ z => z.elim, ct := fun _ _ _ _ z => z.elim, rt := fun d v G1 H1 p1 f1 s1 rv => ?_, rf := fun _ _ _ _ _ z => z.elim }
  · exact q .non .non G1 H1 p1 s1 r1.frm.gs r1.frm.fs (fun b h1 h2 => r1.frm.lk b ⟨h1, h2⟩) .non
  · exact q d v G1 H1 p1 s1 f1.gs f1.fs (fun b h1 h2 => f1.lk b ⟨h1, h2⟩) rv
end
section
variable {X : Cx} {k n : Nat} {x : Str} {ps : List Str} {pre : Pre} {p pos : Pos}
theorem dg_call {e : Expr} {es : List Expr} {t : TA} {d : DA} (F : DefG X.prog X.w X.K X.mg X.base x ps k (spP X.K n pre)) (hr : RG k X.A) (hg : Gl X x) (ha : PDA X (e :: es) t d)
    (hdb : (x == ("__debug__" : Str)) = false := by decide) (he : starEach (e :: es) X.env = (false, eval e X.env) :: starEach es X.env := by rfl) (hpl : (backTo pos (starEach es X.env)).any (·.1) = false := by rfl) :
    PDE X (.Call (.Name x p) (e :: es) [] pos) (tCall (spP X.K n pre) [] E0 t) (dCall n pre d) := by
  obtain ⟨f, fd, hm, F, hk, hb, _⟩ := F.ex
  exact ⟨pe_g F hr hg hm hk hb ha.pe hdb he hpl, se_call ha.se⟩
theorem dg_callU {e : Expr} {es : List Expr} {t : TA} {d : DA} (F : DefG X.prog X.w X.K X.mg X.base x ps k (spU X.K n pre)) (hr : RG k X.A) (hg : Gl X x) (ha : PDU X (e :: es) t d)
    (hdb : (x == ("__debug__" : Str)) = false := by decide) (he : starEach (e :: es) X.env = (false, eval e X.env) :: starEach es X.env := by rfl) (hpl : (backTo pos (starEach es X.env)).any (·.1) = false := by rfl) :
    PDE X (.Call (.Name x p) (e :: es) [] pos) (tCall (spU X.K n pre) [] E0 t) (dCall n pre d) := by
  obtain ⟨f, fd, hm, F, hk, hb, _⟩ := F.ex
  exact ⟨pe_g F hr hg hm hk hb ha.pe hdb he hpl, se_callU ha⟩
end
section
variable {P : Program} {w : World} {K : PySem.W.Frag} {mg : Str → Option Value} {base : Heap} {x : Str} {st : Stmt} {N ps : List Str} {k n : Nat}
theorem defU (F : At K mg x st) (S : FnScope N ps (defScope st)) (B : Bnd x st ps) (hn : ps.length = n + 1) (pre : Pre) {d : DS}
    (hb : ∀ (f : Addr) (cdv : Value) (A : Around) (out : List PySem.Env) (s : Shared) (H : Hp) (E : XK), RG k (A.deeper (envOfC x (defScope st) s.heap.objs.size f cdv)) → ∃ t, PDSs (cxOf CX0 P w K mg base N x (defScope st) f cdv A out s H E).nox (defBody st) t d)
    (hr : ∀ ds Pd, ds.length = n → pre ds Pd → d { nx := fun _ => Pd .non, rt := Pd } (startU N ds)) : DefG P w K mg base x ps (k + 1) (spU K n pre) := by
  refine defg_of F S B (fun vs H Q E ⟨G, u, ws, ds, Pd, e, hl, _, _, _, r, _⟩ => by rw [e, List.length_cons, r.len, hl, hn]) fun f cdv A out s H vs Q E hrm ⟨G, u, ws, ds, Pd, ev, hl, gu, ok, g, r, p, q⟩ => ?_
  subst ev
  obtain ⟨t, hb⟩ := hb f cdv A out s H E hrm
  refine ⟨t, hb.pe.nox, ?_⟩
  have sub : Same (rem H u) H := fun b o e => by
    by_cases z : b = u
    · rw [z, rem_same] at e; cases e
    · rwa [rem_ne z] at e
  have fr : Frm ⟨rem H u, fun b => rem H u b ≠ none ∧ G b = none, some u⟩ G H := ⟨g, sub, fun b h => h.2, fun b h => h.1, fun v h => by cases h; exact ⟨rem_same, gu, ok⟩⟩
  have fin : ∀ d v G1 H1, Pd d → Frm ⟨rem H u, fun b => rem H u b ≠ none ∧ G b = none, some u⟩ G1 H1 → Same G G1 → Rp K G1 v d → Q v H1 := fun d v G1 H1 p1 f1 s1 rv => by
    obtain ⟨_, g1, ok1⟩ := f1.ur u rfl
    refine q d v G1 H1 p1 s1 f1.gs g1 ok1 (fun b o hb e => f1.fs b o (by rw [show (Fm.F _ b) = rem H u b from rfl, rem_ne hb]; exact e)) (fun b h1 h2 => ?_) rv
    by_cases z : b = u
    · rw [z]; exact g1
    · exact f1.lk b ⟨by rw [rem_ne z]; exact h1, h2⟩
  exact hb.se _ G _ _ H _ _ (rel_startU fr rfl r) (hr ds Pd hl p) { nx := fun ρ σ G1 H1 p1 r1 s1 => fin .non .non G1 H1 p1 r1.frm s1 .non, bk := fun _ _ _ _ z => z.elim, ct := fun _ _ _ _ z => z.elim, rt := fin, rf := fun _ _ _ _ _ z => z.elim }
end
/-! ### repr -/
def D.shOk (d : D) : Prop := d.fit 60 = true ∧ d.py.showable = true ∧ d.py.shown.length ≤ sizeLine
def rRepr (K : PySem.W.Frag) : List V → Hp → VK → Prop := fun xs H Q => ∃ x d, xs = [x] ∧ Dp K H x d ∧ (d.canLay0 = true ∧ d.depth ≤ 60) ∧ d.showable = true ∧ d.shown.length ≤ sizeLine ∧ Q (.str d.shown) H
abbrev cRepr : DC := one1 fun x P => x.shOk ∧ P (.str x.py.shown)
section
variable {X : Cx}
theorem call_reprD (hg : X.A.guards = some []) (hu : X.A.units + 64 < cLine) : CallR X (.builtin "repr") (rRepr X.K) := by
  intro pins s σ H xs us Q I r h
  obtain ⟨x, d, rfl, dp, ⟨hl, hd⟩, hs, hz, q⟩ := h
  obtain ⟨u, rfl, ru⟩ : ∃ u, us = [u] ∧ RelV x u := by
    cases r with
    | cons r1 r2 => cases r2; exact ⟨_, rfl, r1⟩
  have big : ∀ a, u = .ref a → wpAny (model X.prog X.w) X.A (call (.builtin "repr") [u]) (EP X pins σ Q) X.xe s := fun a e => by
    subst e
    obtain ⟨as, rd⟩ := Dp.reads I d x _ dp ru
    exact PySem.repr_of_reads' rd hs (PyData.noDict_hsm (PyData.hasDict_of_canLay d hl)) hg (by omega) (fun _ _ z => z) (fun h2 u tk k => ⟨.str d.shown, H, I.kept k, ⟨_, rfl⟩, q⟩) hz
  cases dp with
  | non =>
    cases ru
    simp only [PyData.shown] at q
    exact PySem.P.repr_of_none ⟨.str _, H, I.tok _, ⟨_, rfl⟩, q⟩
  | bl b =>
    cases ru
    simp only [PyData.shown] at q
    refine PySem.P.repr_of_bool ⟨.str _, H, I.tok _, ⟨_, rfl⟩, ?_⟩
    cases b <;> exact q
  | int i =>
    obtain ⟨t, rfl⟩ := ru
    simp only [PyData.shown] at q
    simp only [PyData.showable, decide_eq_true_eq] at hs
    exact PySem.P.repr_of_int hs ⟨.str _, H, I.tok _, ⟨_, rfl⟩, q⟩
  | str y =>
    obtain ⟨t, rfl⟩ := ru
    simp only [PyData.shown] at q hz
    exact PySem.P.repr_of_str ⟨.str _, H, I.tok _, ⟨_, rfl⟩, q⟩ hz
  | tup => exact big _ ru
  | lst => exact big _ ru
theorem c_repr (hg : X.A.guards = some []) (hu : X.A.units + 64 < cLine) : PDC X (.builtin "repr") (rRepr X.K) cRepr := ⟨call_reprD hg hu, fun M G ρ σ H vs ds P Q r h hp k => by
  obtain ⟨x, rfl, hp1⟩ := one1_of hp
  obtain ⟨v, rfl, hv⟩ := h.oneI
  obtain ⟨⟨h1, h2, h3⟩, p⟩ := hp1
  exact ⟨v, x.py, rfl, hv.dp r.frm.gs 60 h1, fit_shape 60 x h1, h2, h3, k _ _ G H p r (Same.refl G) (.str _)⟩⟩
/-- strings told apart -/
theorem RG.units {k : Nat} {A : Around} (h : RG k A) : A.units + 65 < cLine := by have := h.rm.un; omega
theorem RG.u64 {k : Nat} {A : Around} (h : RG k A) : A.units + 64 < cLine := by have := h.rm.un; omega
end
/-! ### the law's end -/
theorem law_g {P : Program} {w : World} {K : PySem.W.Frag} {mg mb : Str → Option Value} {k : Nat} {fa a : Addr} {fd : FuncData} {x : Str} {sp : Sp} {s : Shared} {us : List Value} {ns : List Int}
    (kx : K.In s.heap) (n1 : s.heap.Ns mainGlobals mg) (n2 : s.heap.Ns builtinsNs mb) (n3 : ∀ y : Str, y ≠ "__name__" → mb y = bootBuiltins y) (nl : s.heap.NoLimit) (ng : s.gens = #[])
    (oa : s.heap.get? a = some { cls := .type "list", data := .seq us.toArray }) (ia : IntsAre us ns) (ln : ns.length ≤ sizeLine) (hr : RG k callerA)
    (F : ∀ base : Heap, K.In base → base.Ns mainGlobals mg → FnG P w K mg base k fa fd [x] sp) (bd : ∀ (s : Shared) (u : Value), BindsTo s fd ⟨[u], []⟩ [(x, u)])
    (hs : ∀ H : Hp, Only H → SqL K H a (ns.map V.int) → sp [.ref a] H (fun v _ => v = .bl true) fun _ _ _ => False) :
    codeAny (model P w) callerA (.call (.ref fa) ⟨[.ref a], []⟩) (fun r s' => r = .ok (.ret (.bool true)) ∧ OldK s.heap s'.heap ∧ s'.os = s.os ∧ AllBare s'.gens) s := by
  have rv := vals_ints ia
  have lv := ia.length
  -- H: nothing is tracked, or the script alone
  have main : ∀ H : Hp, Only H → SqL K H a (ns.map V.int) → HOk P w H s.heap → (∀ b, b ≠ a → H b = none) → (H a = none ∨ K.lookup a = none) →
      codeAny (model P w) callerA (.call (.ref fa) ⟨[.ref a], []⟩) (fun r s' => r = .ok (.ret (.bool true)) ∧ OldK s.heap s'.heap ∧ s'.os = s.os ∧ AllBare s'.gens) s := by
    intro H hO hS hok far near
    have same : ∀ {b : Addr} {o : Obj}, s.heap.get? b = some o → (b = a → H a = none) → (hidT s.heap H).get? b = some o := fun {b o} e z => hidT_get e (by
      by_cases q : b = a
      · rw [q]; exact z q
      · exact far b q)
    have nsame : ∀ {b : Addr} {m : Str → Option Value}, s.heap.Ns b m → (hidT s.heap H).Ns b m := fun {b m} ⟨o, es, ep, e, d, r⟩ => by
      refine ⟨o, es, ep, same e fun z => ?_, d, r⟩
      rw [z, oa] at e
      have e := Option.some.inj e
      rw [← e] at d
      have d : Data.seq us.toArray _ = Data.dict es ep := d
      cases d
    have kb : K.In (hidT s.heap H) := fun b o e => same (kx b o e) fun z => by
      subst z
      rcases near with q | q
      · exact q
      · rw [q] at e; cases e
    have md : Mod K mg (hidT s.heap H) := ⟨kb, nsame n1, ⟨mb, nsame n2, n3⟩, nl.elim fun mc q => ⟨mc, nsame q.1, q.2⟩⟩
    have e0 : Env0 P w K mg (hidT s.heap H) callerA [] s H := ⟨rfl, md, fun b o e => of_hidT e, Nat.le_of_eq (hidT_size _ _), trivial, fun b hb => (nomatch hb), hok, .of_eq ng⟩
    have go := (F _ kb (nsame n1)).go callerA [] s H ⟨[.ref a], []⟩ [.ref a] [.ref a] _ _ hr e0 (bd s (.ref a)) (.cons rfl .nil) (hs H hO hS)
    refine codeAny_mono go fun r s2 h => ?_
    match r, h with
    | .error e, h => exact (show False from h).elim
    | .ok .next, h => exact h.elim
    | .ok .brk, h => exact h.elim
    | .ok .cont, h => exact h.elim
    | .ok (.ret u), ⟨v, H2, os, bare, un, hok2, rv2, q⟩ =>
      obtain rfl : v = .bl true := q
      obtain rfl : u = Value.bool true := rv2
      refine ⟨rfl, OldK.of_keep fun b o e => ?_, os, bare⟩
      rcases hO b with z | ⟨ob, xs, z⟩
      · exact un.keep b o e z (fun z => nomatch z) (fun z => nomatch z)
      · have w1 := (hok b _ z).1
        have w2 := (hok2 b _ (un.frzs b ob _ z)).1
        rw [e] at w1; cases w1
        exact w2
  by_cases hk : K.lookup a = none
  · refine main (fun b => if b = a then some (.frz { cls := .type "list", data := .seq us.toArray } (.lst (ns.map V.int))) else none) (fun b => ?_) (.inl (.inr ⟨_, if_pos rfl⟩)) (fun b u z => ?_) (fun b z => if_neg z) (.inr hk)
    · by_cases z : b = a
      · exact .inr ⟨_, _, if_pos z⟩
      · exact .inl (if_neg z)
    · by_cases q : b = a
      · have z := (if_pos q).symm.trans z
        cases z
        subst q
        exact ⟨oa, by rw [List.length_map]; exact ln, us, _, rv, oa⟩
      · have z := (if_neg q).symm.trans z
        cases z
  · obtain ⟨o, e⟩ := Option.ne_none_iff_exists'.mp hk
    have e2 := kx a o e
    rw [oa] at e2
    cases e2
    exact main (fun _ => none) (fun _ => .inl rfl) (.inr ⟨_, us.toArray, _, e, rfl, rfl, rfl, by rw [List.size_toArray, lv]; exact ln, by simpa using rv⟩) (fun b u z => nomatch z) (fun _ _ => rfl) (.inl rfl)
theorem walk_g {l : PySem.W.OpenLaw} {n k : Nat} {q : Program} {loose : List Str} {XP : (Str → Option Value) → Heap → Prop} {YP : World → Heap → Prop} {d : DefRec} {x : Str} (hn : l.most = some n) (hz : n ≤ sizeLine) (hd : d.params.defaults = []) (hr : RG k callerA)
    (F : ∀ (w : World) (mg : Str → Option Value) (fa : Addr) (h : Heap), YP w h → h.Ns mainGlobals mg → mg d.name = some (.ref fa) → ∃ (K : PySem.W.Frag) (fd : FuncData) (sp : Sp), K.In h ∧ (∀ (s : Shared) (u : Value), BindsTo s fd ⟨[u], []⟩ [(x, u)]) ∧
      (∀ (H : Hp) (a : Addr) (ns : List Int), ns.length ≤ n → (∀ i ∈ ns, Builtin.Int.intBits i ≤ 1048576) → SqL K H a (ns.map V.int) → sp [.ref a] H (fun v _ => v = .bl true) fun _ _ _ => False) ∧ ∀ base : Heap, K.In base → base.Ns mainGlobals mg → FnG l.prog w K mg base k fa fd [x] sp) :
    PySem.W.WalkO q loose XP YP l.row.toRowW d [] (fun f vs => PySem.call f vs) := by
  refine Att.attach_callB hn hd fun w s0 s mg mb fa o pm cd doc a us ns g Y ho hod hcd hm oa ia ln hb ng => ?_
  obtain ⟨K, fd, sp, kx, bd, hsp, hF⟩ := F w mg fa _ Y g.T.g hm
  exact law_g kx g.T.g g.T.b g.T.builtins g.T.nolimit ng oa ia (Nat.le_trans ln hz) hr hF bd fun H _ hS => hsp H a ns ln hb hS
theorem rg_caller {k : Nat} (h : Room k callerA) : RG k callerA := ⟨h, rfl⟩

section
variable {X : Cx} {K : PySem.W.Frag} {pos : Pos}
/-! ### what stands at the top -/
theorem d_ci {x : Str} {i : Int} (hg : Gl X x) (h : ∃ t, X.mg x = some (.int i t)) (hd : (x == ("__debug__" : Str)) = false := by decide) : PDE X (.Name x pos) (tC (.int i)) (dC (.int i)) := by
  obtain ⟨t, e⟩ := h
  exact d_glob hg e ⟨t, rfl⟩ (fun _ => .int i) hd
theorem d_ct {x : Str} {a : Addr} {d : D} (hg : Gl X x) (h : X.mg x = some (.ref a)) (r : ∀ G, Rp X.K G (.ref a) d) (hd : (x == ("__debug__" : Str)) = false := by decide) : PDE X (.Name x pos) (tC (.ref a)) (dC d) := d_glob hg h rfl r hd
/-! ### a call by names alone -/
structure PDK (X : Cx) (es : List Keyword) (t : TA) (d : DA) : Prop where
  pe : PK X es t
  se : SA X.K t d
theorem k_nil : PDK X [] tNil dNil := ⟨pk_nil, a_nil (X := X).se⟩
theorem k_cons {e : Expr} {es : List Keyword} {te : TE} {t : TA} {de : DE} {d : DA} {nm : Option Str} {kp : Pos} (h : PDE X e te de) (hr : PDK X es t d) : PDK X (⟨nm, e, kp⟩ :: es) (tCons te t) (dCons de d) := ⟨pk_cons h.pe hr.pe, fun M G ρ σ H P Q rl hp k => by
  refine h.se M G ρ σ H _ _ rl hp fun x vx G1 H1 p1 r1 s1 q1 => ?_
  exact hr.se M G1 ρ σ H1 _ _ r1 p1 fun xs vs G2 H2 p2 r2 s2 q2 => k _ _ G2 H2 p2 r2 (s1.trans s2) (.cons (q1.mono s2) q2)⟩
def KwBnd (x : Str) (st : Stmt) (ps ks : List Str) (g : {α : Type} → List α → List α) : Prop := ∀ (kV doc pm : Value) (an : Option Addr) (cdv ct : Value) (us : List Value), us.length = ks.length → bindArgs (PySem.W.fnOf x x (defArgs st) (defBody st) (defScope st) .none kV doc pm an cdv ct) ⟨[], ks.zip us⟩ = pure (ps.zip (g us))
/-- g puts things in another order -/
def PermL (g : {α : Type} → List α → List α) : Prop := ∀ {α β : Type} (R : α → β → Prop) (xs : List α) (ys : List β), Paired R xs ys → Paired R (g xs) (g ys)
theorem RpL.pair {G : Hp} : ∀ {vs : List V} {ds : List D}, RpL K G vs ds → Paired (Rp K G) vs ds
  | _, _, .nil => .nil
  | _, _, .cons h t => .cons h t.pair
theorem RpL.unpair {G : Hp} : ∀ {vs : List V} {ds : List D}, Paired (Rp K G) vs ds → RpL K G vs ds
  | _, _, .nil => .nil
  | _, _, .cons h t => .cons h (RpL.unpair t)
def dKw (n : Nat) (g : {α : Type} → List α → List α) (c : DA → DE) (a : DA) : DE := c fun ρ P => a ρ fun ds => ds.length = n ∧ P (g ds)
end
section
variable {X : Cx} {pos : Pos}
theorem dg_callK {x : Str} {st : Stmt} {ps ks : List Str} {k n : Nat} {pre : Pre} {p : Pos} {kws : List Keyword} {t : TA} {d : DA} {g : {α : Type} → List α → List α} (F : DefG X.prog X.w X.K X.mg X.base x ps k (spP X.K n pre)) (A : At X.K X.mg x st) (B : KwBnd x st ps ks g) (hp : PermL g) (hr : RG k X.A) (hg : Gl X x)
    (ha : PDK X kws t d) (hall : (backToKw pos (keywordEach kws X.env)).all (·.1.isSome) = true := by rfl) (hks : (backToKw pos (keywordEach kws X.env)).filterMap (·.1) = ks := by rfl) (hdb : (x == ("__debug__" : Str)) = false := by decide)
    (hpl : ((backTo pos (starEach [] X.env)).any (·.1) || (backToKw pos (keywordEach kws X.env)).any (·.1.isNone)) = false := by rfl) :
    PDE X (.Call (.Name x p) [] kws pos) (tKw ks.length (spP X.K n pre) g t) (dKw ks.length g (dCall n pre) d) := by
  obtain ⟨f, fd, hm, F, hk, hb, oc, od, osl, lk⟩ := F.ex
  obtain ⟨f', fd', hm', A⟩ := A.ex
  have hm2 := hm
  rw [hm'] at hm2
  cases hm2
  obtain ⟨oc', od', dV, kV, doc, pm, an, cdv, ct, osl', e, lk', _, hD, hK⟩ := A.ex
  rw [lk] at lk'
  cases lk'
  have hB : KwB X.K fd ps ks g := ⟨fun s ws _ hl => .of_eq (by
    rcases hD with ⟨_, rfl⟩ | ⟨z, _⟩
    · rw [e]
      exact B _ _ _ _ _ _ ws hl
    · exact absurd rfl z), fun r => hp _ _ _ r⟩
  refine ⟨pe_gK F hr hg hm hk hB ha.pe hall hks hdb hpl, fun M G ρ σ H P Q rl h l => ha.se M G ρ σ H _ _ rl h fun ds vs G1 H1 p1 r1 s1 q1 => ?_⟩
  have q2 : RpL X.K G1 (g vs) (g ds) := RpL.unpair (hp _ _ _ q1.pair)
  obtain ⟨hl, hn, hp1⟩ := p1
  exact ⟨q1.len.trans hl, G1, g ds, P, hn, r1.frm.gs, q2, hp1, fun d v G' H' p c gh hh nw q => l d v G' H' p (r1.after c gh hh nw) (s1.trans c) q⟩
end
/-! ### the urn -/
section
variable {K : PySem.W.Frag} {M : Fm} {G H : Hp} {ρ : Env} {σ : L2.St}
theorem Rel.urAt {i : Nat} {P : Prop} (r : Rel K M G ρ σ H) (h : (sat ρ i).urP P) : ∃ u x y z, P ∧ M.U = some u ∧ σ[i]? = some (some (.ref u)) ∧ H u = some (.lst [.int x, .int y, .int z]) := by
  obtain ⟨e, p⟩ := Sl.urP_of h
  obtain ⟨u, hu, e1⟩ := r.sl i _ (sat_get e (fun z => nomatch z))
  obtain ⟨_, _, x, y, z, q⟩ := r.frm.ur u hu
  exact ⟨u, x, y, z, p, hu, e1, q⟩
theorem Rel.urw {u : Addr} {x y z : Int} (r : Rel K M G ρ σ H) (hu : M.U = some u) : Rel K M G ρ σ (upd H u (.lst [.int x, .int y, .int z])) := by
  obtain ⟨h1, h2, _⟩ := r.frm.ur u hu
  refine ⟨⟨to_upd r.frm.gs h2, to_upd r.frm.fs h1, r.frm.lk, r.frm.lf, fun v hv => ?_⟩, r.len, fun j s e => ?_, r.sep⟩
  · rw [hu] at hv
    cases hv
    exact ⟨h1, h2, x, y, z, upd_same⟩
  · refine (r.sl j s e).grow (Same.refl G) fun a vs g1 _ g3 g4 => ⟨g1, ?_⟩
    rw [upd_ne fun z => g3 (by rw [z]; exact hu)]
    exact g4
theorem urn_at {x y z : Int} {k : Int} (h : k = 0 ∨ k = 1 ∨ k = 2) : ∃ n : Int, atI [V.int x, .int y, .int z] k = some (.int n) := by
  rcases h with rfl | rfl | rfl
  · exact ⟨x, rfl⟩
  · exact ⟨y, rfl⟩
  · exact ⟨z, rfl⟩
theorem urn_set {x y z n : Int} {k : Int} (h : k = 0 ∨ k = 1 ∨ k = 2) : ∃ (j : Nat) (x' y' z' : Int), ixN ([V.int x, .int y, .int z] : List V).length k = some j ∧ [V.int x, .int y, .int z].set j (.int n) = [.int x', .int y', .int z'] := by
  rcases h with rfl | rfl | rfl
  · exact ⟨0, n, y, z, rfl, rfl⟩
  · exact ⟨1, x, n, z, rfl, rfl⟩
  · exact ⟨2, x, y, n, rfl, rfl⟩
end
section
variable {X : Cx} {pos : Pos}
/-- u[k]: any number -/
def dUIx (i : Nat) : DE := fun ρ P => (sat ρ i).urP (∀ n : Int, P (.int n))
theorem d_uIx (i : Nat) {x : Str} {p q : Pos} {k : Int} {j} (hk : k = 0 ∨ k = 1 ∨ k = 2) (hN : X.N[i]? = some x := by rfl) (hv : Vis X.env.scope x := by first | exact Or.inl rfl | exact Or.inr (Or.inl rfl) | exact Or.inr (Or.inr rfl)) (hd : (x == ("__debug__" : Str)) = false := by decide)
    (hcd : (x == ("__classdict__" : Str)) = false := by decide) : PDE X (.Subscript (.Name x p) (.Constant (.int k) j q) pos) (tOp (rIxL X.K) (tVar i) (tC (.int k))) (dUIx i) :=
  ⟨pe_ix ix_list (pe_var hN hv hd hcd) pe_int (fun _ _ => rfl), fun M G ρ σ H P Q rl hp l => by
    obtain ⟨u, a, b, c, p1, hu, e1, e2⟩ := rl.urAt hp
    obtain ⟨n, en⟩ := urn_at (x := a) (y := b) (z := c) hk
    exact ⟨_, e1, u, _, k, _, rfl, rfl, .inl (.inl e2), en, l _ _ G H (p1 n) rl (Same.refl G) (.int n)⟩⟩
/-- u[k] = e -/
def dUSet (i : Nat) (e : DE) : DS := fun P ρ => e ρ fun d => d.intP fun _ => (sat ρ i).urP (P.nx ρ)
theorem s_uSet (i : Nat) {x : Str} {p q r : Pos} {k : Int} {j} {e : Expr} {te : TE} {d : DE} (hk : k = 0 ∨ k = 1 ∨ k = 2) (h : PDE X e te d) (hN : X.N[i]? = some x := by rfl) (hv : Vis X.env.scope x := by first | exact Or.inl rfl | exact Or.inr (Or.inl rfl) | exact Or.inr (Or.inr rfl))
    (hd : (x == ("__debug__" : Str)) = false := by decide) (hcd : (x == ("__classdict__" : Str)) = false := by decide)
    (hs : swapsWithSole [.Subscript (.Name x p) (.Constant (.int k) j q) r] e pos.line X.env = pure false := by rfl) (hw : swappedStores [.Subscript (.Name x p) (.Constant (.int k) j q) r] e X.env = pure none := by rfl)
    (h1 : (assignEach [.Subscript (.Name x p) (.Constant (.int k) j q) r] X.env).map (·.2) = [assign (.Subscript (.Name x p) (.Constant (.int k) j q) r) X.env] := by rfl) :
    PDS X (.Assign [.Subscript (.Name x p) (.Constant (.int k) j q) r] e pos) (tAsg te (gSub (tVar i) (tC (.int k)) rSetL)) (dUSet i d) :=
  ⟨ps_asg h.pe (pg_sub (pe_var hN hv hd hcd) pe_int set_list) hs hw h1, fun M G ρ σ H P Dn rl hp l => by
    refine h.se M G ρ σ H _ _ rl hp fun d v G1 H1 p1 r1 s1 q1 => ?_
    obtain ⟨n, rfl, p1⟩ := D.intP_of p1
    obtain ⟨u, a, b, c, p1, hu, e1, e2⟩ := r1.urAt p1
    obtain ⟨m, a', b', c', em, es⟩ := urn_set (x := a) (y := b) (z := c) (n := n) hk
    refine ⟨_, e1, u, _, k, m, rfl, rfl, e2, em, ?_⟩
    rw [q1.intI, es]
    exact l.nx _ _ G1 _ p1 (r1.urw hu) s1⟩
/-- u[k], y = e -/
def pairI (P : D → Prop) : List D → Prop
  | [.int _, b] => P b
  | _ => False
theorem pairI_of {P : D → Prop} : ∀ {ds : List D}, pairI P ds → ∃ n b, ds = [.int n, b] ∧ P b := fun {ds} h => by
  unfold pairI at h
  split at h
  · exact ⟨_, _, rfl, h⟩
  · exact h.elim
def dUDiv (i y : Nat) (e : DE) : DS := fun P ρ => e ρ fun d => d.tupP (pairI fun b => (sat ρ i).urP (P.nx (ρ.set y (.fz b))))
theorem s_uDiv (i y : Nat) {x z : Str} {p q r pz pt : Pos} {k : Int} {j kt} {e : Expr} {te : TE} {d : DE} (hc : X.calm = true) (hk : k = 0 ∨ k = 1 ∨ k = 2) (hD : X.N.Nodup) (h : PDE X e te d) (hN : X.N[i]? = some x := by rfl) (hv : Vis X.env.scope x := by first | exact Or.inl rfl | exact Or.inr (Or.inl rfl) | exact Or.inr (Or.inr rfl))
    (hd : (x == ("__debug__" : Str)) = false := by decide) (hcd : (x == ("__classdict__" : Str)) = false := by decide) (hz : X.N[y]? = some z := by rfl) (hx : Loc X.env.scope z := by first | exact Or.inl rfl | exact Or.inr rfl)
    (hf : X.fn z = true ∨ X.env.scope.names.lookup z = some .local := by first | exact .inl rfl | exact .inr rfl | assumption)
    (hs : swapsWithSole [.Tuple [.Subscript (.Name x p) (.Constant (.int k) j q) r, .Name z pz] kt pt] e pos.line X.env = pure false := by rfl) (hw : swappedStores [.Tuple [.Subscript (.Name x p) (.Constant (.int k) j q) r, .Name z pz] kt pt] e X.env = pure none := by rfl)
    (h1 : (assignEach [.Tuple [.Subscript (.Name x p) (.Constant (.int k) j q) r, .Name z pz] kt pt] X.env).map (·.2) = [assign (.Tuple [.Subscript (.Name x p) (.Constant (.int k) j q) r, .Name z pz] kt pt) X.env] := by rfl)
    (hs1 : (assignEach [.Subscript (.Name x p) (.Constant (.int k) j q) r, .Name z pz] X.env).map (·.2) = assign (.Subscript (.Name x p) (.Constant (.int k) j q) r) X.env :: (assignEach [.Name z pz] X.env).map (·.2) := by rfl)
    (hs2 : (assignEach [.Name z pz] X.env).map (·.2) = assign (.Name z pz) X.env :: (assignEach [] X.env).map (·.2) := by rfl)
    (hst : (assignEach [.Subscript (.Name x p) (.Constant (.int k) j q) r, .Name z pz] X.env).findIdx? (·.1) = none := by rfl) (hn : (assignEach [.Subscript (.Name x p) (.Constant (.int k) j q) r, .Name z pz] X.env).length = 2 := by rfl) :
    PDS X (.Assign [.Tuple [.Subscript (.Name x p) (.Constant (.int k) j q) r, .Name z pz] kt pt] e pos) (tAsg te (gTup X.K 2 (gCons (gSub (tVar i) (tC (.int k)) rSetL) (gCons (gName y) gNil)))) (dUDiv i y d) :=
  ⟨ps_asg h.pe (pg_tup hc (pgs_cons (pg_sub (pe_var hN hv hd hcd) pe_int set_list) (pgs_cons (pg_name hD hz hx hf) pgs_nil hs2) hs1) hn hst) hs hw h1, fun M G ρ σ H P Dn rl hp l => by
    refine h.se M G ρ σ H _ _ rl hp fun d v G1 H1 p1 r1 s1 q1 => ?_
    obtain ⟨ds, rfl, p1⟩ := D.tupP_of p1
    obtain ⟨t, vs, rfl, ht, qt⟩ := q1.tupI
    obtain ⟨n, b, rfl, p1⟩ := pairI_of p1
    obtain ⟨v1, w1, rfl, hv1, qt⟩ := qt.consI
    obtain ⟨v2, w2, rfl, hv2, qt⟩ := qt.consI
    obtain rfl := qt.nilI
    obtain ⟨u, a, b', c, p1, hu, e1, e2⟩ := r1.urAt p1
    obtain ⟨m, a', b', c', em, es⟩ := urn_set (x := a) (y := b') (z := c) (n := n) hk
    refine ⟨t, _, rfl, same_sqT r1.frm.gs ht, rfl, v1, [v2], rfl, _, e1, u, _, k, m, rfl, rfl, e2, em, v2, [], rfl, ?_⟩
    rw [hv1.intI, es]
    exact ⟨rfl, l.nx _ _ G1 _ p1 ((r1.urw hu).setF hv2 y) s1⟩⟩
end

/-! ### xs[i] = e, of a list of one's own -/
section
variable {X : Cx} {pos : Pos}
def dSetO (i : Nat) (ix e : DE) : DS := fun P ρ => e ρ fun d => (sat ρ i).owP fun ds => ix ρ fun x => x.intP fun k => optP (fun j => P.nx (ρ.set i (.ow (ds.set j d)))) (ixN ds.length k)
theorem s_setI (i : Nat) {x : Str} {p r : Pos} {b e : Expr} {tb te : TE} {db d : DE} (h : PDE X e te d) (hb : PDE X b tb db) (hN : X.N[i]? = some x := by rfl) (hv : Vis X.env.scope x := by first | exact Or.inl rfl | exact Or.inr (Or.inl rfl) | exact Or.inr (Or.inr rfl))
    (hd : (x == ("__debug__" : Str)) = false := by decide) (hcd : (x == ("__classdict__" : Str)) = false := by decide)
    (ha : ∀ v, assign (.Subscript (.Name x p) b r) X.env v = (do
      let ov ← holding [v] (eval (.Name x p) X.env)
      let iv ← holding [v, ov] (eval b X.env)
      standAt r
      holding [v, ov, iv] (setItem ov iv v)
      release [v, ov, iv] []) := by intro _; rfl)
    (hs : swapsWithSole [.Subscript (.Name x p) b r] e pos.line X.env = pure false := by rfl) (hw : swappedStores [.Subscript (.Name x p) b r] e X.env = pure none := by rfl)
    (h1 : (assignEach [.Subscript (.Name x p) b r] X.env).map (·.2) = [assign (.Subscript (.Name x p) b r) X.env] := by rfl) :
    PDS X (.Assign [.Subscript (.Name x p) b r] e pos) (tAsg te (gSub (tVar i) tb rSetL)) (dSetO i db d) :=
  ⟨ps_asg h.pe (pg_sub (pe_var hN hv hd hcd) hb.pe set_list ha) hs hw h1, fun M G ρ σ H P Dn rl hp l => by
    refine h.se M G ρ σ H _ _ rl hp fun d v G1 H1 p1 r1 s1 q1 => ?_
    obtain ⟨ds, a, vs, p1, e1, e2, g1, h1, q2⟩ := r1.owAt p1
    refine ⟨_, e2, hb.se M G1 ρ σ H1 _ _ r1 p1 fun y w G2 H2 p2 r2 s2 q3 => ?_⟩
    obtain ⟨k, rfl, p2⟩ := D.intP_of p2
    obtain ⟨j, ej, p2⟩ := optP_of p2
    obtain ⟨ws, h2, q4⟩ := r2.owAdr r2 e1 e2
    exact ⟨a, ws, k, j, rfl, q3.intI, h2, by rw [q4.len]; exact ej, l.nx _ _ G2 _ p2 (r2.wr e1 e2 h2 (RpL.set (q1.mono s2) j q4)) (s1.trans s2)⟩⟩
end
/-! ### lists of one's own lent to an expression -/
def Sl.lent : Sl → Sl
  | .ow ds => .fz (.lst ds)
  | s => s
def lentE (ρ : Env) : Env := ρ.map Sl.lent
mutual
/-- no list stands in it -/
def D.noL : D → Bool
  | .lst _ => false
  | .scr _ => false
  | .tup xs => noLs xs
  | _ => true
def noLs : List D → Bool
  | [] => true
  | x :: xs => x.noL && noLs xs
end
section
variable {K : PySem.W.Frag} {M : Fm} {G G' G2 H H2 : Hp} {ρ : Env} {σ : L2.St}
/-- the owned addresses -/
def OwA (ρ : Env) (σ : L2.St) (b : Addr) : Prop := ∃ (i : Nat) (ds : List D), ρ[i]? = some (Sl.ow ds) ∧ σ[i]? = some (some (V.ref b))
open Classical in
noncomputable def lendG (ρ : Env) (σ : L2.St) (G H : Hp) : Hp := fun b => if OwA ρ σ b then H b else G b
open Classical in
noncomputable def backG (ρ : Env) (σ : L2.St) (G2 : Hp) : Hp := fun b => if OwA ρ σ b then none else G2 b
theorem lendG_ow {b : Addr} (h : OwA ρ σ b) : lendG ρ σ G H b = H b := if_pos h
theorem lendG_out {b : Addr} (h : ¬ OwA ρ σ b) : lendG ρ σ G H b = G b := if_neg h
theorem backG_ow {b : Addr} (h : OwA ρ σ b) : backG ρ σ G2 b = none := if_pos h
theorem backG_out {b : Addr} (h : ¬ OwA ρ σ b) : backG ρ σ G2 b = G2 b := if_neg h
open Classical in
/-- all of H but the urn -/
noncomputable def allBut (H : Hp) (U : Option Addr) : Hp := fun b => if U = some b then none else H b
theorem allBut_u {b : Addr} {U : Option Addr} (h : U = some b) : allBut H U b = none := if_pos h
theorem allBut_o {b : Addr} {U : Option Addr} (h : U ≠ some b) : allBut H U b = H b := if_neg h
noncomputable def lendM (M : Fm) (H : Hp) : Fm := ⟨allBut H M.U, M.L, M.U⟩
theorem Rel.owOf (r : Rel K M G ρ σ H) {b : Addr} (h : OwA ρ σ b) : G b = none ∧ M.F b = none ∧ M.U ≠ some b ∧ ∃ vs, H b = some (.lst vs) := by
  obtain ⟨i, ds, e1, e2⟩ := h
  obtain ⟨a, vs, e, h1, h2, h3, h4, _⟩ := r.sl i _ e1
  rw [e2] at e
  cases e
  exact ⟨h1, h2, h3, vs, h4⟩
theorem Rel.lendS (r : Rel K M G ρ σ H) : Same G (lendG ρ σ G H) := fun b o e => by
  by_cases h : OwA ρ σ b
  · rw [(r.owOf h).1] at e; cases e
  · rw [lendG_out h]; exact e
theorem Rel.lend (r : Rel K M G ρ σ H) : Rel K (lendM M H) (lendG ρ σ G H) (lentE ρ) σ H where
  frm := by
    refine ⟨fun b o e => ?_, fun b o e => ?_, fun b hb => ?_, fun b hb => ?_, fun u hu => ?_⟩
    · by_cases h : OwA ρ σ b
      · rw [lendG_ow h] at e; exact e
      · rw [lendG_out h] at e; exact r.frm.gs _ _ e
    · by_cases h : M.U = some b
      · have e : allBut H M.U b = some o := e
        rw [allBut_u h] at e; cases e
      · have e : allBut H M.U b = some o := e
        rw [allBut_o h] at e; exact e
    · by_cases h : OwA ρ σ b
      · exact absurd (r.owOf h).2.1 (r.frm.lf b hb)
      · rw [lendG_out h]; exact r.frm.lk b hb
    · show allBut H M.U b ≠ none
      have hF := r.frm.lf b hb
      by_cases h : M.U = some b
      · exact absurd (r.frm.ur b h).1 hF
      · rw [allBut_o h]
        exact fun z => hF (r.frm.fs.free z)
    · have hu : M.U = some u := hu
      obtain ⟨h1, h2, h3⟩ := r.frm.ur u hu
      refine ⟨allBut_u hu, ?_, h3⟩
      rw [lendG_out fun z => (r.owOf z).2.2.1 hu]; exact h2
  len := by unfold lentE; rw [List.length_map]; exact r.len
  sl := fun i s e => by
    unfold lentE at e
    rw [List.getElem?_map] at e
    cases q : ρ[i]? with
    | none => rw [q] at e; cases e
    | some t =>
      rw [q] at e
      have e : t.lent = s := Option.some.inj e
      subst e
      have k := r.sl i t q
      cases t with
      | no => trivial
      | fz d => obtain ⟨v, e1, k⟩ := k; exact ⟨v, e1, k.mono r.lendS⟩
      | ur => exact k
      | ow ds =>
        obtain ⟨a, vs, e1, h1, h2, h3, h4, k⟩ := k
        refine ⟨.ref a, e1, .lst (.inl ?_) (k.mono r.lendS)⟩
        rw [lendG_ow ⟨i, ds, q, e1⟩]; exact h4
  sep := fun i j a ds es hij e1 _ _ _ => by
    unfold lentE at e1
    rw [List.getElem?_map] at e1
    cases q : ρ[i]? with
    | none => rw [q] at e1; cases e1
    | some t => rw [q] at e1; cases t <;> cases Option.some.inj e1
theorem Rel.backS (r : Rel K M G ρ σ H) (s : Same (lendG ρ σ G H) G2) : Same G (backG ρ σ G2) := fun b o e => by
  by_cases h : OwA ρ σ b
  · rw [(r.owOf h).1] at e; cases e
  · rw [backG_out h]; exact s _ _ (by rw [lendG_out h]; exact e)
theorem Rel.back (r : Rel K M G ρ σ H) (r2 : Rel K (lendM M H) G2 (lentE ρ) σ H2) (s : Same (lendG ρ σ G H) G2) : Rel K M (backG ρ σ G2) ρ σ H2 where
  frm := by
    have keep : ∀ b o, M.U ≠ some b → H b = some o → H2 b = some o := fun b o h e => r2.frm.fs b o (by show allBut H M.U b = some o; rw [allBut_o h]; exact e)
    refine ⟨fun b o e => ?_, fun b o e => ?_, fun b hb => ?_, r.frm.lf, fun u hu => ?_⟩
    · by_cases h : OwA ρ σ b
      · rw [backG_ow h] at e; cases e
      · rw [backG_out h] at e; exact r2.frm.gs _ _ e
    · refine keep b o (fun z => ?_) (r.frm.fs _ _ e)
      rw [(r.frm.ur b z).1] at e; cases e
    · by_cases h : OwA ρ σ b
      · exact backG_ow h
      · rw [backG_out h]; exact r2.frm.lk b hb
    · obtain ⟨_, h2, h3⟩ := r2.frm.ur u hu
      refine ⟨(r.frm.ur u hu).1, ?_, h3⟩
      rw [backG_out fun z => (r.owOf z).2.2.1 hu]; exact h2
  len := r.len
  sl := fun i t e => by
    have k := r.sl i t e
    cases t with
    | no => trivial
    | fz d => obtain ⟨v, e1, k⟩ := k; exact ⟨v, e1, k.mono (r.backS s)⟩
    | ur => exact k
    | ow ds =>
      obtain ⟨a, vs, e1, h1, h2, h3, h4, k⟩ := k
      refine ⟨a, vs, e1, backG_ow ⟨i, ds, e, e1⟩, h2, h3, ?_, k.mono (r.backS s)⟩
      exact r2.frm.fs a _ (by show allBut H M.U a = _; rw [allBut_o h3]; exact h4)
  sep := r.sep
mutual
theorem Rp.back (r : Rel K M G ρ σ H) (s : Same (lendG ρ σ G H) G2) : ∀ {v : V} {d : D}, Rp K G2 v d → d.noL = true → Rp K (backG ρ σ G2) v d
  | _, _, .non, _ => .non
  | _, _, .bl b, _ => .bl b
  | _, _, .int i, _ => .int i
  | _, _, .str x, _ => .str x
  | _, _, .fn a, _ => .fn a
  | _, _, .ty n, _ => .ty n
  | _, _, .lst _ _, h => by simp [D.noL] at h
  | _, _, .scr _, h => by simp [D.noL] at h
  | _, _, .dct (a := a) (kvs := kv) h, _ => by
    refine .dct (kvs := kv) ?_
    rw [backG_out fun z => ?_]
    · exact h
    · obtain ⟨_, _, _, vs, q⟩ := r.owOf z
      have q2 := s a _ ((lendG_ow z).trans q)
      rw [h] at q2; cases q2
  | _, _, .tup (a := a) h t, q => by
    refine .tup ?_ (RpL.back r s t (by simpa [D.noL] using q))
    have no : ∀ o, G2 a = some o → (∀ vs, o ≠ .lst vs) → backG ρ σ G2 a = some o := fun o e z => by
      rw [backG_out fun w => ?_]
      · exact e
      · obtain ⟨_, _, _, vs, q⟩ := r.owOf w
        have q2 := s a _ ((lendG_ow w).trans q)
        rw [e] at q2; exact z vs (Option.some.inj q2)
    rcases h with (h | ⟨o, h⟩) | h
    · exact .inl (.inl (no _ h fun _ z => nomatch z))
    · exact .inl (.inr ⟨o, no _ h fun _ z => nomatch z⟩)
    · exact .inr h
theorem RpL.back (r : Rel K M G ρ σ H) (s : Same (lendG ρ σ G H) G2) : ∀ {vs : List V} {ds : List D}, RpL K G2 vs ds → noLs ds = true → RpL K (backG ρ σ G2) vs ds
  | _, _, .nil, _ => .nil
  | _, _, .cons h t, q => by
    simp only [noLs, Bool.and_eq_true] at q
    exact .cons (Rp.back r s h q.1) (RpL.back r s t q.2)
end
end
section
variable {X : Cx} {K : PySem.W.Frag} {pos : Pos}
def dLend (d : DE) : DE := fun ρ P => d (lentE ρ) fun x => x.noL = true ∧ P x
theorem d_lend {e : Expr} {t : TE} {d : DE} (h : PDE X e t d) : PDE X e t (dLend d) := ⟨h.pe, fun M G ρ σ H P Q rl hp k =>
  h.se _ _ _ σ H _ _ rl.lend hp fun x v G2 H2 p2 r2 s2 q2 => k x v _ H2 p2.2 (rl.back r2 s2) (rl.backS s2) (q2.back rl s2 p2.1)⟩
def dLendF (d : DA) : DA := fun ρ P => d (lentE ρ) fun xs => noLs xs = true ∧ P xs
theorem f_lend {e : Expr} {t : TE} {d : DA} (h : PDF X e t d) : PDF X e t (dLendF d) := ⟨h.pe, fun M G ρ σ H P Q rl hp k =>
  h.se _ _ _ σ H _ _ rl.lend hp fun xs vs p G2 H2 p2 r2 s2 q2 hn => k xs vs p _ H2 p2.2 (rl.back r2 s2) (rl.backS s2) (q2.back rl s2 p2.1) hn⟩
def dLendT (d : DT) : DT := fun ρ P => d (lentE ρ) P
theorem t_lend {e : Expr} {t : TT} {d : DT} (h : PDT X e t d) : PDT X e t (dLendT d) := ⟨h.pe, fun M G ρ σ H P Q rl hp k =>
  h.se _ _ _ σ H _ _ rl.lend hp fun c G2 H2 p2 r2 s2 => k c _ H2 p2 (rl.back r2 s2) (rl.backS s2)⟩
def dLendA (d : DA) : DA := fun ρ P => d (lentE ρ) fun xs => noLs xs = true ∧ P xs
theorem a_lend {es : List Expr} {t : TA} {d : DA} (h : PDA X es t d) : PDA X es t (dLendA d) := ⟨h.pe, fun M G ρ σ H P Q rl hp k =>
  h.se _ _ _ σ H _ _ rl.lend hp fun xs vs G2 H2 p2 r2 s2 q2 => k xs vs _ H2 p2.2 (rl.back r2 s2) (rl.backS s2) (q2.back rl s2 p2.1)⟩
end
/-! ### comprehensions, the parts' readings told apart -/
section
variable {X : Cx} {pos spos : Pos} {elt tg iter : Expr} {ifs : List Expr} {scope : Scope} {own : List (Str × Nat)} {wi : TI} {di : DI} {g : DG} {dt : DT} {de : DE}
abbrev BlkG (X : Cx) (scope : Scope) (tg : Expr) (g : DG) (vs : List Nat) : Prop := ∀ (s : Shared) (H : Hp) (C : Addr) (cl : List (Str × Addr)) (fp : List Addr), ∃ t, PDG (X.blk s H scope (compEnvC scope cl C X.env) fp) tg t g ∧ GW t vs
abbrev BlkT (X : Cx) (scope : Scope) (ifs : List Expr) (dt : DT) : Prop := ∀ (s : Shared) (H : Hp) (C : Addr) (cl : List (Str × Addr)) (fp : List Addr), ∃ t, PDTs (X.blk s H scope (compEnvC scope cl C X.env) fp) ifs t dt
abbrev BlkE (X : Cx) (scope : Scope) (elt : Expr) (de : DE) : Prop := ∀ (s : Shared) (H : Hp) (C : Addr) (cl : List (Str × Addr)) (fp : List Addr), ∃ t, PDE (X.blk s H scope (compEnvC scope cl C X.env) fp) elt t de
theorem BlkE.one (h : BlkE X scope elt de) : ∃ t : TE, ∀ (s : Shared) (H : Hp) (C : Addr) (cl : List (Str × Addr)) (fp : List Addr), PDE (X.blk s H scope (compEnvC scope cl C X.env) fp) elt t de :=
  ⟨fun σ H1 Q => ∀ s H C cl fp, (h s H C cl fp).choose σ H1 Q, fun s H C cl fp => ⟨⟨fun pins s1 σ H1 Q I q => (h s H C cl fp).choose_spec.pe.run pins s1 σ H1 Q I (q s H C cl fp)⟩,
    fun M G ρ σ H1 P Q rl p k s' H' C' cl' fp' => (h s' H' C' cl' fp').choose_spec.se M G ρ σ H1 P Q rl p k⟩⟩
theorem BlkT.one (h : BlkT X scope ifs dt) : ∃ t : TT, ∀ (s : Shared) (H : Hp) (C : Addr) (cl : List (Str × Addr)) (fp : List Addr), PDTs (X.blk s H scope (compEnvC scope cl C X.env) fp) ifs t dt :=
  ⟨fun σ H1 Q => ∀ s H C cl fp, (h s H C cl fp).choose σ H1 Q, fun s H C cl fp => ⟨⟨fun pins s1 σ H1 Q I q => (h s H C cl fp).choose_spec.pe.run pins s1 σ H1 Q I (q s H C cl fp)⟩,
    fun M G ρ σ H1 P Q rl p k s' H' C' cl' fp' => (h s' H' C' cl' fp').choose_spec.se M G ρ σ H1 P Q rl p k⟩⟩
theorem BlkG.one {vs : List Nat} (h : BlkG X scope tg g vs) : ∃ t : TG, GW t vs ∧ ∀ (s : Shared) (H : Hp) (C : Addr) (cl : List (Str × Addr)) (fp : List Addr), PDG (X.blk s H scope (compEnvC scope cl C X.env) fp) tg t g :=
  ⟨fun v σ H1 Q => ∀ s H C cl fp, (h s H C cl fp).choose v σ H1 Q, fun v σ H1 Q Q' q k s H C cl fp => (h s H C cl fp).choose_spec.2 v σ H1 Q Q' (q s H C cl fp) k,
    fun s H C cl fp => ⟨⟨fun pins s1 σ H1 v u Q I r q => (h s H C cl fp).choose_spec.1.pe.run pins s1 σ H1 v u Q I r (q s H C cl fp)⟩,
      fun M G ρ σ H1 v d P Q rl rv p k s' H' C' cl' fp' => (h s' H' C' cl' fp').choose_spec.1.se M G ρ σ H1 v d P Q rl rv p k⟩⟩
theorem fb_lc (hc : X.calm = true) (hN : X.N.Nodup) (hi : PDI X tg iter wi di) (ok : BlkOk X.N X.env.scope scope own) (hg : BlkG X scope tg g (own.map (·.2))) (gwd : GWd g (own.map (·.2))) (ht : BlkT X scope ifs dt) (he : BlkE X scope elt de)
    (hs : ∀ x, foldedSetIterable iter X.env x = pure x := by intro _; rfl) : ∃ t, PDF X (.ListComp elt [⟨tg, iter, ifs, 0⟩] scope pos) t (dComp di g dt de (own.map (·.2))) := by
  obtain ⟨t1, gw, h1⟩ := hg.one
  obtain ⟨t2, h2⟩ := ht.one
  obtain ⟨t3, h3⟩ := he.one
  exact ⟨_, f_lc hc hN hi ok h1 gw gwd h2 h3 hs⟩
variable {i : Nat} {y : Str} {py : Pos}
theorem sb_lcO (hc : X.calm = true) (hN : X.N.Nodup) (hi : PDI X tg iter wi di) (ok : BlkOk X.N X.env.scope scope own) (hg : BlkG X scope tg g (own.map (·.2))) (gwd : GWd g (own.map (·.2))) (ht : BlkT X scope ifs dt) (he : BlkE X scope elt de)
    (hsw : swapsWith (.ListComp elt [⟨tg, iter, ifs, 0⟩] scope pos) (some (.Name y py)) spos.line X.env = pure true)
    (hy : X.N[i]? = some y := by rfl) (hyl : X.env.scope.names.lookup y = some .local := by rfl) (hs : ∀ x, foldedSetIterable iter X.env x = pure x := by intro _; rfl) :
    ∃ t, PDS X (.Assign [.Name y py] (.ListComp elt [⟨tg, iter, ifs, 0⟩] scope pos) spos) t (dSet i (xF (dComp di g dt de (own.map (·.2))))) := by
  obtain ⟨t1, gw, h1⟩ := hg.one
  obtain ⟨t2, h2⟩ := ht.one
  obtain ⟨t3, h3⟩ := he.one
  exact ⟨_, s_lcO hc hN hi ok h1 gw gwd h2 h3 hsw hy hyl hs⟩
theorem sb_lcE (hc : X.calm = true) (hN : X.N.Nodup) (hi : PDI X tg iter wi di) (ok : BlkOk X.N X.env.scope scope own) (hg : BlkG X scope tg g (own.map (·.2))) (gwd : GWd g (own.map (·.2))) (ht : BlkT X scope ifs dt) (he : BlkE X scope elt de)
    (hsw : swapsWith (.ListComp elt [⟨tg, iter, ifs, 0⟩] scope pos) (some (.Name y py)) spos.line X.env = pure true)
    (hy : X.N[i]? = some y := by rfl) (hyl : X.env.scope.names.lookup y = some .local := by rfl) (hs : ∀ x, foldedSetIterable iter X.env x = pure x := by intro _; rfl) :
    ∃ t, PDS X (.Assign [.Name y py] (.ListComp elt [⟨tg, iter, ifs, 0⟩] scope pos) spos) t (dSet i (xE (dF (dComp di g dt de (own.map (·.2)))))) := by
  obtain ⟨t1, gw, h1⟩ := hg.one
  obtain ⟨t2, h2⟩ := ht.one
  obtain ⟨t3, h3⟩ := he.one
  exact ⟨_, s_lcE hc hN hi ok h1 gw gwd h2 h3 hsw hy hyl hs⟩
theorem PDF.of {e : Expr} {t : TE} {d : DA} (h : ∃ t, PDF X e t d) (ht : t = h.choose := by exact rfl) : PDF X e t d := ht ▸ h.choose_spec
theorem PDS.of {s : Stmt} {t : TS} {d : DS} (h : ∃ t, PDS X s t d) (ht : t = h.choose := by exact rfl) : PDS X s t d := ht ▸ h.choose_spec
end
/-! ### defs that give a new list -/
abbrev PreF := List D → (List D → Prop) → Prop
def spF (K : PySem.W.Frag) (n : Nat) (pre : PreF) : Sp := fun vs H Q _ => ∃ (G : Hp) (ds : List D) (P : List D → Prop), ds.length = n ∧ Same G H ∧ RpL K G vs ds ∧ pre ds P ∧
  ∀ es ws p G' H', P es → Same G G' → Same G' H' → Same H H' → (∀ b, H b ≠ none → G b = none → G' b = none) → RpL K G' ws es → H' p = none → Q (.ref p) (upd H' p (.lst ws))
section
variable {P : Program} {w : World} {K : PySem.W.Frag} {mg : Str → Option Value} {base : Heap} {x : Str} {st : Stmt} {N ps : List Str} {k : Nat}
theorem defF (F : At K mg x st) (S : FnScope N ps (defScope st)) (B : Bnd x st ps) (pre : PreF) {d : DS}
    (hb : ∀ (f : Addr) (cdv : Value) (A : Around) (out : List PySem.Env) (s : Shared) (H : Hp) (E : XK), RG k (A.deeper (envOfC x (defScope st) s.heap.objs.size f cdv)) → ∃ t, PDSs (cxOf CX0 P w K mg base N x (defScope st) f cdv A out s H E).nox (defBody st) t d)
    (hr : ∀ ds Pd, ds.length = ps.length → pre ds Pd → d { nx := fun _ => False, rt := fun _ => False, rf := Pd } (startD N ds)) : DefG P w K mg base x ps (k + 1) (spF K ps.length pre) := by
  refine defg_of F S B (fun vs H Q E ⟨G, ds, Pd, hl, _, r, _⟩ => by rw [r.len, hl]) fun f cdv A out s H vs Q E hrm ⟨G, ds, Pd, hl, g, r, p, q⟩ => ?_
  obtain ⟨t, hb⟩ := hb f cdv A out s H E hrm
  refine ⟨t, hb.pe.nox, ?_⟩
  have fr : Frm ⟨H, fun b => H b ≠ none ∧ G b = none, none⟩ G H := ⟨g, Same.refl H, fun b h => h.2, fun b h => h.1, fun u h => by cases h⟩
  exact hb.se _ G _ _ H _ _ (rel_start fr r) (hr ds Pd hl p) { nx := fun _ _ _ _ z => z.elim, bk := fun _ _ _ _ z => z.elim, ct := fun _ _ _ _ z => z.elim, rt := fun _ _ _ _ z => z.elim, rf := fun es ws p G1 H1 p1 f1 s1 rv hn => q es ws p G1 H1 p1 s1 f1.gs f1.fs (fun b h1 h2 => f1.lk b ⟨h1, h2⟩) rv hn }
end
section
variable {X : Cx} {K : PySem.W.Frag} {k n : Nat} {x : Str} {ps : List Str} {p pos : Pos}
def dRetF (d : DA) : DS := fun P ρ => d ρ P.rf
theorem s_retF {e : Expr} {te : TE} {d : DA} (h : PDF X e te d) : PDS X (.Return (some e) pos) (tRet te) (dRetF d) := ⟨ps_ret h.pe, fun M G ρ σ H P Dn rl hp l =>
  h.se M G ρ σ H _ _ rl hp fun ds vs p G' H' q r s rv hn => l.rf ds vs p G' H' q r.frm s rv hn⟩
def dRetOF (i : Nat) : DS := fun P ρ => (sat ρ i).owP P.rf
theorem s_retOF (i : Nat) {y : Str} {q : Pos} (hN : X.N[i]? = some y := by rfl) (hv : Vis X.env.scope y := by first | exact Or.inl rfl | exact Or.inr (Or.inl rfl) | exact Or.inr (Or.inr rfl)) (hd : (y == ("__debug__" : Str)) = false := by decide)
    (hcd : (y == ("__classdict__" : Str)) = false := by decide) : PDS X (.Return (some (.Name y q)) pos) (tRet (tVar i)) (dRetOF i) := ⟨ps_ret (pe_var hN hv hd hcd), fun M G ρ σ H P Dn rl hp l => by
  obtain ⟨ds, e, hp⟩ := Sl.owP_of hp
  obtain ⟨a, vs, e2, g1, f1, u1, h1, q1⟩ := rl.sl i _ (sat_get e (fun z => nomatch z))
  have fr : Frm M G (rem H a) := by
    have put : ∀ {b o}, H b = some o → b ≠ a → rem H a b = some o := fun h z => by rw [rem_ne z]; exact h
    refine ⟨fun b o z => put (rl.frm.gs _ _ z) fun w => ?_, fun b o z => put (rl.frm.fs _ _ z) fun w => ?_, rl.frm.lk, rl.frm.lf, fun u hu => ?_⟩
    · rw [w, g1] at z; cases z
    · rw [w, f1] at z; cases z
    · obtain ⟨a1, a2, y1, y2, y3, a3⟩ := rl.frm.ur u hu
      exact ⟨a1, a2, y1, y2, y3, put a3 fun w => u1 (by rw [← w]; exact hu)⟩
  have q := l.rf ds vs a G _ hp fr (Same.refl G) q1 rem_same
  rw [upd_rem h1] at q
  exact ⟨_, e2, q⟩⟩
def dCallF (n : Nat) (pre : PreF) (a : DA) : DA := fun ρ P => a ρ fun ds => ds.length = n ∧ pre ds P
theorem df_call {pre : PreF} {e : Expr} {es : List Expr} {t : TA} {d : DA} (F : DefG X.prog X.w X.K X.mg X.base x ps k (spF X.K n pre)) (hr : RG k X.A) (hg : Gl X x) (ha : PDA X (e :: es) t d)
    (hdb : (x == ("__debug__" : Str)) = false := by decide) (he : starEach (e :: es) X.env = (false, eval e X.env) :: starEach es X.env := by rfl) (hpl : (backTo pos (starEach es X.env)).any (·.1) = false := by rfl) :
    PDF X (.Call (.Name x p) (e :: es) [] pos) (tCall (spF X.K n pre) [] E0 t) (dCallF n pre d) := by
  obtain ⟨f, fd, hm, F, hk, hb, _⟩ := F.ex
  refine ⟨pe_g F hr hg hm hk hb ha.pe hdb he hpl, fun M G ρ σ H P Q rl hp l => ?_⟩
  refine ha.se M G ρ σ H _ _ rl hp fun xs vs G1 H1 p1 r1 s1 q1 => ?_
  show spF X.K n pre (vs ++ []) H1 Q E0
  rw [List.append_nil]
  exact ⟨G1, xs, P, p1.1, r1.frm.gs, q1, p1.2, fun es ws p G' H' p2 c gh hh nw q hn => l es ws p G' H' p2 (r1.after c gh hh nw) (s1.trans c) q hn⟩
/-- the urn made for the call -/
def urn3 : List D → Prop
  | [.int _, .int _, .int _] => True
  | _ => False
theorem urn3_of {K : PySem.W.Frag} {G : Hp} {vs : List V} : ∀ {ds : List D}, urn3 ds → RpL K G vs ds → ∃ x y z, vs = [.int x, .int y, .int z] := fun {ds} h r => by
  unfold urn3 at h
  split at h
  · rename_i x y z
    exact ⟨x, y, z, RpL.ints (ns := [x, y, z]) r⟩
  · exact h.elim
def dCallM (n : Nat) (pre : Pre) (f : DA) : DE := fun ρ P => f ρ fun us => urn3 us ∧ n = 0 ∧ pre [] P
theorem dg_callM {pre : Pre} {e : Expr} {t : TE} {d : DA} (F : DefG X.prog X.w X.K X.mg X.base x ps k (spU X.K n pre)) (hr : RG k X.A) (hg : Gl X x) (ha : PDF X e t d)
    (hdb : (x == ("__debug__" : Str)) = false := by decide) (he : starEach [e] X.env = (false, eval e X.env) :: starEach [] X.env := by rfl) (hpl : (backTo pos (starEach [] X.env)).any (·.1) = false := by rfl) :
    PDE X (.Call (.Name x p) [e] [] pos) (tCall (spU X.K n pre) [] E0 (tCons t tNil)) (dCallM n pre d) := by
  obtain ⟨f, fd, hm, F, hk, hb, _⟩ := F.ex
  refine ⟨pe_g F hr hg hm hk hb (pa_cons ha.pe pa_nil he) hdb he hpl, fun M G ρ σ H P Q rl hp l => ?_⟩
  refine ha.se M G ρ σ H _ _ rl hp fun us vs p G1 H1 p1 r1 s1 q1 hn => ?_
  obtain ⟨hu, rfl, p2⟩ := p1
  obtain ⟨x, y, z, rfl⟩ := urn3_of hu q1
  show spU X.K 0 pre ([V.ref p] ++ []) _ Q E0
  have gp : G1 p = none := r1.frm.gs.free hn
  refine ⟨G1, p, [], [], P, rfl, rfl, gp, ⟨x, y, z, upd_same⟩, to_upd r1.frm.gs gp, .nil, p2, fun d v G' H' pd c gh gp' ok hh nw rv => ?_⟩
  refine l d v G' H' pd ?_ (s1.trans c) rv
  have keep : Same H1 H' := fun b o e => by
    have z : b ≠ p := ne_of_none e hn
    exact hh b o z (by rw [upd_ne z]; exact e)
  refine r1.after c gh keep fun b h1 h2 => nw b ?_ h2
  rw [upd_ne fun z => h1 (by rw [z]; exact hn)]
  exact h1
/-! ### the script -/
def Sl.scP (P : List Int → Prop) : Sl → Prop
  | .fz (.scr ns) => P ns
  | _ => False
theorem Sl.scP_of {P : List Int → Prop} : ∀ {s : Sl}, s.scP P → ∃ ns, s = .fz (.scr ns) ∧ P ns := fun {s} h => by
  unfold Sl.scP at h
  split at h
  · exact ⟨_, rfl, h⟩
  · exact h.elim
theorem Rel.scAt {M : Fm} {G H : Hp} {ρ : Env} {σ : L2.St} {i : Nat} {P : List Int → Prop} (r : Rel K M G ρ σ H) (h : (sat ρ i).scP P) : ∃ ns a, P ns ∧ σ[i]? = some (some (.ref a)) ∧ SqL K G a (ns.map V.int) := by
  obtain ⟨ns, e, p⟩ := Sl.scP_of h
  obtain ⟨v, e1, q⟩ := r.sl i _ (sat_get e (fun z => nomatch z))
  cases q with
  | scr q => exact ⟨ns, _, p, e1, q⟩
def dLenS (i : Nat) : DE := fun ρ P => (sat ρ i).scP fun ns => P (.int ns.length)
theorem d_lenS (i : Nat) {x f : Str} {p fp pos : Pos} (hg : Gl X f) (hm : X.mg f = none) (hb : bootBuiltins f = some (.builtin "len")) (hN : X.N[i]? = some x := by rfl) (hv : Vis X.env.scope x := by first | exact Or.inl rfl | exact Or.inr (Or.inl rfl) | exact Or.inr (Or.inr rfl)) (hd : (x == ("__debug__" : Str)) = false := by decide)
    (hcd : (x == ("__classdict__" : Str)) = false := by decide) (hn : f ≠ "__name__" := by decide) (hdb : (f == ("__debug__" : Str)) = false := by decide) (he : starEach [.Name x p] X.env = (false, eval (.Name x p) X.env) :: starEach [] X.env := by rfl) (hpl : (backTo pos (starEach [] X.env)).any (·.1) = false := by rfl) :
    PDE X (.Call (.Name f fp) [.Name x p] [] pos) (tCB (fun xs H Q => ∃ p ys, xs = [.ref p] ∧ (SqL X.K H p ys ∨ SqT X.K H p ys) ∧ Q (.int ys.length) H) (tCons (tVar i) tNil)) (dLenS i) :=
  ⟨pe_callB call_len_seq hg hm hb (pa_cons (pe_var hN hv hd hcd) pa_nil he) hn hdb he hpl, fun M G ρ σ H P Q rl hp k => by
    obtain ⟨ns, a, p1, e2, q1⟩ := rl.scAt hp
    exact ⟨_, e2, a, _, rfl, .inl (same_sqL rl.frm.gs q1), by rw [List.length_map]; exact k _ _ G H p1 rl (Same.refl G) (.int _)⟩⟩
def dIxS (i : Nat) (e : DE) : DE := fun ρ P => (sat ρ i).scP fun ns => e ρ fun x => x.intP fun k => optP (fun n => P (.int n)) (atI ns k)
theorem atI_map {α β : Type} (f : α → β) {xs : List α} {k : Int} {y : α} (h : atI xs k = some y) : atI (xs.map f) k = some (f y) := by
  unfold atI at h ⊢
  rw [List.length_map]
  cases e : ixN xs.length k with
  | none => rw [e] at h; cases h
  | some j =>
    rw [e] at h
    have h : xs[j]? = some y := h
    show (xs.map f)[j]? = some (f y)
    rw [List.getElem?_map, h]; rfl
theorem d_ixS (i : Nat) {x : Str} {p pos : Pos} {b : Expr} {tb : TE} {db : DE} (hb : PDE X b tb db) (hs : PlainIx b := by exact fun _ _ => rfl) (hN : X.N[i]? = some x := by rfl) (hv : Vis X.env.scope x := by first | exact Or.inl rfl | exact Or.inr (Or.inl rfl) | exact Or.inr (Or.inr rfl)) (hd : (x == ("__debug__" : Str)) = false := by decide)
    (hcd : (x == ("__classdict__" : Str)) = false := by decide) : PDE X (.Subscript (.Name x p) b pos) (tOp (rIxL X.K) (tVar i) tb) (dIxS i db) :=
  ⟨pe_ix ix_list (pe_var hN hv hd hcd) hb.pe hs, fun M G ρ σ H P Q rl hp k => by
    obtain ⟨ns, a, p1, e2, q1⟩ := rl.scAt hp
    refine ⟨_, e2, hb.se M G ρ σ H _ _ rl p1 fun y v G2 H2 p2 r2 s2 q2 => ?_⟩
    obtain ⟨z, rfl, p2⟩ := D.intP_of p2
    obtain ⟨d, ed, p2⟩ := optP_of p2
    exact ⟨a, _, z, _, rfl, q2.intI, same_sqL (s2.trans r2.frm.gs) q1, atI_map V.int ed, k _ _ G2 H2 p2 r2 s2 (.int d)⟩⟩
/-- script[:k], k a written number -/
def dSlS (i : Nat) (k : Int) : DE := fun ρ P => (sat ρ i).scP fun ns => P (.lst ((cut ns none (some k)).map D.int))
theorem cut_map {α β : Type} (f : α → β) (xs : List α) (lo hi : Option Int) : cut (xs.map f) lo hi = (cut xs lo hi).map f := by
  unfold cut
  rw [List.length_map, List.map_take, List.map_drop]
theorem d_slS (i : Nat) {x : Str} {p p2 p3 pos : Pos} {k : Int} {j} (hN : X.N[i]? = some x := by rfl) (hv : Vis X.env.scope x := by first | exact Or.inl rfl | exact Or.inr (Or.inl rfl) | exact Or.inr (Or.inr rfl)) (hd : (x == ("__debug__" : Str)) = false := by decide)
    (hcd : (x == ("__classdict__" : Str)) = false := by decide) : PDE X (.Subscript (.Name x p) (.Slice none (some (.Constant (.int k) j p2)) none p3) pos) (tSl (rSlL X.K) (tVar i) tNoPart (tPart (tC (.int k)))) (dSlS i k) :=
  ⟨pe_slice sl_list (pe_var hN hv hd hcd) po_none (po_some pe_int), fun M G ρ σ H P Q rl hp l => by
    obtain ⟨ns, a, p1, e2, q1⟩ := rl.scAt hp
    refine ⟨_, e2, ?_⟩
    refine ⟨k, rfl, a, _, rfl, same_sqL rl.frm.gs q1, fun p hn => l _ _ _ _ p1 (rl.new hn) (same_upd (rl.frm.gs.free hn)) (.lst (.inl upd_same) ?_)⟩
    have e : cutV (ns.map V.int) none (some k) = (cut ns none (some k)).map V.int := cut_map V.int ns none (some k)
    rw [e]
    exact RpL.ofInts _⟩
end

/-! ### the readings, opened -/
section
variable {ρ : Env} {P : D → Prop} {R : List D → Prop} {S : DEnds} {s : Sl} {i j : Nat} {a b c : DE} {t u : DT} {xs ys : List D} {d e : D} {m n : Int} {A B : DA} {x y : DS} {g : DG}
@[simp] theorem sat_0 : sat (s :: ρ) 0 = s := rfl
@[simp] theorem sat_s : sat (s :: ρ) (i + 1) = sat ρ i := rfl
@[simp] theorem fzP_fz : Sl.fzP P (.fz d) ↔ (P d) := Iff.rfl
@[simp] theorem owP_ow : Sl.owP R (.ow xs) ↔ (R xs) := Iff.rfl
@[simp] theorem urP_ur {p : Prop} : Sl.urP p .ur ↔ (p) := Iff.rfl
@[simp] theorem scP_sc {ns : List Int} {Q : List Int → Prop} : Sl.scP Q (.fz (.scr ns)) ↔ (Q ns) := Iff.rfl
@[simp] theorem e_var : dVar i ρ P ↔ ((sat ρ i).fzP P) := Iff.rfl
@[simp] theorem e_c : dC d ρ P ↔ (P d) := Iff.rfl
@[simp] theorem e_bin {f : DO} : dBin f a b ρ P ↔ (a ρ fun x => b ρ fun y => f x y P) := Iff.rfl
@[simp] theorem e_un {f : D → (D → Prop) → Prop} : dUn f a ρ P ↔ (a ρ fun x => f x P) := Iff.rfl
@[simp] theorem e_ch {f f' : DO} : dCh f f' a b c ρ P ↔ (a ρ fun x => b ρ fun y => f x y fun z => z.blP fun t => if t = true then c ρ fun w => f' y w P else P (.bl false)) := Iff.rfl
@[simp] theorem e_and : dAndV a b ρ P ↔ (a ρ fun x => x.blP fun c => if c = true then b ρ P else P (.bl false)) := Iff.rfl
@[simp] theorem e_or : dOrV a b ρ P ↔ (a ρ fun x => x.blP fun c => if c = true then P (.bl true) else b ρ P) := Iff.rfl
@[simp] theorem e_if : dIf t a b ρ P ↔ (t ρ fun c => if c = true then a ρ P else b ρ P) := Iff.rfl
@[simp] theorem e_tup : dTup A ρ P ↔ (A ρ fun xs => xs.length ≤ sizeLine ∧ P (.tup xs)) := Iff.rfl
@[simp] theorem e_f : dF A ρ P ↔ (A ρ fun xs => P (.lst xs)) := Iff.rfl
@[simp] theorem e_call {k : Nat} {pre : Pre} : dCall k pre A ρ P ↔ (A ρ fun ds => ds.length = k ∧ pre ds P) := Iff.rfl
@[simp] theorem e_callF {k : Nat} {pre : PreF} : dCallF k pre A ρ R ↔ (A ρ fun ds => ds.length = k ∧ pre ds R) := Iff.rfl
@[simp] theorem e_callM {k : Nat} {pre : Pre} : dCallM k pre A ρ P ↔ (A ρ fun us => urn3 us ∧ k = 0 ∧ pre [] P) := Iff.rfl
@[simp] theorem e_cb {f : DC} : dCB f A ρ P ↔ (A ρ fun ds => f ds P) := Iff.rfl
@[simp] theorem e_kw {k : Nat} {h : {α : Type} → List α → List α} {q : DA → DE} : dKw k h q A ρ P ↔ (q (fun ρ P => A ρ fun ds => ds.length = k ∧ P (h ds)) ρ P) := Iff.rfl
@[simp] theorem e_uix : dUIx i ρ P ↔ ((sat ρ i).urP (∀ n : Int, P (.int n))) := Iff.rfl
@[simp] theorem e_lenO : dLenO i ρ P ↔ ((sat ρ i).owP fun ds => P (.int ds.length)) := Iff.rfl
@[simp] theorem e_ixO : dIxO i a ρ P ↔ ((sat ρ i).owP fun ds => a ρ fun x => x.intP fun k => optP P (atI ds k)) := Iff.rfl
@[simp] theorem e_lenS : dLenS i ρ P ↔ ((sat ρ i).scP fun ns => P (.int ns.length)) := Iff.rfl
@[simp] theorem e_ixS : dIxS i a ρ P ↔ ((sat ρ i).scP fun ns => a ρ fun x => x.intP fun k => optP (fun n => P (.int n)) (atI ns k)) := Iff.rfl
@[simp] theorem e_slS : dSlS i m ρ P ↔ ((sat ρ i).scP fun ns => P (.lst ((cut ns none (some m)).map D.int))) := Iff.rfl
@[simp] theorem a_nl : dNil ρ R ↔ (R []) := Iff.rfl
@[simp] theorem a_cs : dCons a A ρ R ↔ (a ρ fun x => A ρ fun xs => R (x :: xs)) := Iff.rfl
@[simp] theorem a_st : dStar a A ρ R ↔ (a ρ fun x => x.seqP fun ys => A ρ fun xs => R (ys ++ xs)) := Iff.rfl
@[simp] theorem a_urn : dUrn i A ρ R ↔ ((sat ρ i).urP (A ρ R)) := Iff.rfl
@[simp] theorem l_lst : dLstF A ρ R ↔ (A ρ fun xs => xs.length ≤ sizeLine ∧ R xs) := Iff.rfl
@[simp] theorem l_cat : dCatF a b ρ R ↔ a ρ fun x => b ρ fun y => x.lstP fun u => y.lstP fun v => u.length + v.length ≤ sizeLine ∧ R (u ++ v) := by
  refine Iff.of_eq ?_
  unfold dCatF
  congr 1; funext x
  congr 1; funext y
  cases x <;> try rfl
  cases y <;> rfl
@[simp] theorem l_rep : dRepF A b ρ R ↔ A ρ fun xs => b ρ fun y => y.intP fun k => (-(2 ^ 63) ≤ k ∧ k < 2 ^ 63 ∧ xs.length * k.toNat ≤ sizeLine) ∧ R (flatRep k.toNat xs) := by
  refine Iff.of_eq ?_
  unfold dRepF
  rfl
def listP (R : List D → Prop) : List D → Prop
  | [x] => x.seqP R
  | _ => False
@[simp] theorem l_list : dListF A ρ R ↔ A ρ fun ds => listP R ds := by
  refine Iff.of_eq ?_
  unfold dListF listP
  rfl
@[simp] theorem listP_1 : listP R [d] ↔ d.seqP R := Iff.rfl
@[simp] theorem p_no {Q : Option Int → Prop} : dNoP ρ Q ↔ (Q none) := Iff.rfl
@[simp] theorem p_pt {Q : Option Int → Prop} : dPart a ρ Q ↔ (a ρ fun x => x.intP fun i => Q (some i)) := Iff.rfl
def slO (d : D) (lo hi : Option Int) (P : D → Prop) : Prop := match d with
  | .tup xs => P (.tup (cut xs lo hi))
  | .lst xs => P (.lst (cut xs lo hi))
  | _ => False
@[simp] theorem e_sl {l h : DP} : dSl a l h ρ P ↔ (a ρ fun x => l ρ fun lo => h ρ fun hi => slO x lo hi P) := Iff.rfl
@[simp] theorem slO_tup {lo hi : Option Int} : slO (.tup xs) lo hi P ↔ (P (.tup (cut xs lo hi))) := Iff.rfl
@[simp] theorem slO_lst {lo hi : Option Int} : slO (.lst xs) lo hi P ↔ (P (.lst (cut xs lo hi))) := Iff.rfl
@[simp] theorem t_test {Q : Bool → Prop} : dTest a ρ Q ↔ (a ρ fun x => x.blP Q) := Iff.rfl
@[simp] theorem t_nt {Q : Bool → Prop} : dTNot t ρ Q ↔ (t ρ fun c => Q (!c)) := Iff.rfl
@[simp] theorem t_an {Q : Bool → Prop} : dTAnd t u ρ Q ↔ (t ρ fun c => if c = true then u ρ Q else Q false) := Iff.rfl
@[simp] theorem t_or {Q : Bool → Prop} : dTOr t u ρ Q ↔ (t ρ fun c => if c = true then Q true else u ρ Q) := Iff.rfl
@[simp] theorem t_yes {Q : Bool → Prop} : dYes ρ Q ↔ (Q true) := Iff.rfl
@[simp] theorem x_e {Q : Sl → Prop} : xE a ρ Q ↔ (a ρ fun x => Q (.fz x)) := Iff.rfl
@[simp] theorem x_f {Q : Sl → Prop} : xF A ρ Q ↔ (A ρ fun x => Q (.ow x)) := Iff.rfl
@[simp] theorem s_nx : dNext S ρ ↔ (S.nx ρ) := Iff.rfl
@[simp] theorem s_sq : dSeq x y S ρ ↔ (x { S with nx := fun ρ' => y S ρ' } ρ) := Iff.rfl
@[simp] theorem s_dr : dDrop a S ρ ↔ (a ρ fun _ => S.nx ρ) := Iff.rfl
@[simp] theorem s_rt : dRet a S ρ ↔ (a ρ S.rt) := Iff.rfl
@[simp] theorem s_rn : dRetN S ρ ↔ (S.rt .non) := Iff.rfl
@[simp] theorem s_rO : dRetO i S ρ ↔ ((sat ρ i).owP fun ds => S.rt (.lst ds)) := Iff.rfl
@[simp] theorem s_rF : dRetF A S ρ ↔ (A ρ S.rf) := Iff.rfl
@[simp] theorem s_rOF : dRetOF i S ρ ↔ ((sat ρ i).owP S.rf) := Iff.rfl
@[simp] theorem s_iff : dIfS t x y S ρ ↔ (t ρ fun b => if b = true then x S ρ else y S ρ) := Iff.rfl
@[simp] theorem s_bk : dBreak S ρ ↔ (S.bk ρ) := Iff.rfl
@[simp] theorem s_ct : dCont S ρ ↔ (S.ct ρ) := Iff.rfl
@[simp] theorem s_nv : dNever S ρ ↔ (False) := Iff.rfl
@[simp] theorem s_st {q : DX} : dSet i q S ρ ↔ (q ρ fun s => S.nx (ρ.set i s)) := Iff.rfl
@[simp] theorem s_as : dAsg a g S ρ ↔ (a ρ fun d => g d ρ S.nx) := Iff.rfl
@[simp] theorem s_pr {q r : DX} : dPar i j q r S ρ ↔ (q ρ fun s => r ρ fun t => S.nx ((ρ.set i s).set j t)) := Iff.rfl
@[simp] theorem s_ap : dApp i a S ρ ↔ ((sat ρ i).owP fun ds => a ρ fun d => ds.length < sizeLine ∧ S.nx (ρ.set i (.ow (ds ++ [d])))) := Iff.rfl
@[simp] theorem s_us : dUSet i a S ρ ↔ (a ρ fun d => d.intP fun _ => (sat ρ i).urP (S.nx ρ)) := Iff.rfl
@[simp] theorem s_ud : dUDiv i j a S ρ ↔ (a ρ fun d => d.tupP (pairI fun b => (sat ρ i).urP (S.nx (ρ.set j (.fz b))))) := Iff.rfl
@[simp] theorem s_so : dSetO i a b S ρ ↔ (b ρ fun d => (sat ρ i).owP fun ds => a ρ fun x => x.intP fun k => optP (fun j => S.nx (ρ.set i (.ow (ds.set j d)))) (ixN ds.length k)) := Iff.rfl
@[simp] theorem s_fo {q : DI} : dFor q g x S ρ ↔ (q ρ fun ds => forP g x S ds ρ) := Iff.rfl
@[simp] theorem s_fz : dFreeze i x S ρ ↔ ((sat ρ i).owP fun ds => x S (ρ.set i (.fz (.lst ds)))) := Iff.rfl
@[simp] theorem f_nil : forP g x S [] ρ ↔ (S.nx ρ) := Iff.rfl
theorem f_cons : forP g x S (d :: xs) ρ ↔ (g d ρ fun ρ' => x { S with nx := forP g x S xs, ct := forP g x S xs, bk := S.nx } ρ') := Iff.rfl
@[simp] theorem i_sq : dSeqI a ρ R ↔ (a ρ fun x => x.seqP R) := Iff.rfl
@[simp] theorem i_r1 : dRg1 a ρ R ↔ (a ρ fun x => x.intP fun j => (-(2 ^ 62) ≤ j ∧ j < 2 ^ 62) ∧ R (rgI 0 j)) := Iff.rfl
@[simp] theorem i_r2 : dRg2 a b ρ R ↔ (a ρ fun x => b ρ fun y => x.intP fun i => y.intP fun j => (-(2 ^ 62) ≤ i ∧ i < 2 ^ 62 ∧ -(2 ^ 62) ≤ j ∧ j < 2 ^ 62) ∧ R (rgI i j)) := Iff.rfl
@[simp] theorem i_ei : dEnI a ρ R ↔ (a ρ fun x => x.seqP fun xs => R (enI xs)) := Iff.rfl
@[simp] theorem g_nm {Q : Env → Prop} : dName i d ρ Q ↔ (Q (ρ.set i (.fz d))) := Iff.rfl
@[simp] theorem g_tp {k : Nat} {h : DGs} {Q : Env → Prop} : dGTup k h d ρ Q ↔ (d.tupP fun ds => ds.length = k ∧ h ds ρ Q) := Iff.rfl
@[simp] theorem g_nl {Q : Env → Prop} : dGNil [] ρ Q ↔ (Q ρ) := Iff.rfl
@[simp] theorem g_cs {h : DGs} {Q : Env → Prop} : dGCons g h (d :: xs) ρ Q ↔ (g d ρ fun ρ' => h xs ρ' Q) := Iff.rfl
@[simp] theorem intP_i {Q : Int → Prop} : D.intP Q (.int n) ↔ (Q n) := Iff.rfl
@[simp] theorem blP_b {Q : Bool → Prop} {q : Bool} : D.blP Q (.bl q) ↔ (Q q) := Iff.rfl
@[simp] theorem seqP_l : D.seqP R (.lst xs) ↔ (R xs) := Iff.rfl
@[simp] theorem seqP_t : D.seqP R (.tup xs) ↔ (R xs) := Iff.rfl
@[simp] theorem lstP_l : D.lstP R (.lst xs) ↔ (R xs) := Iff.rfl
@[simp] theorem tupP_t : D.tupP R (.tup xs) ↔ (R xs) := Iff.rfl
@[simp] theorem pairI_p : pairI P [.int n, d] ↔ (P d) := Iff.rfl
@[simp] theorem optP_s {α : Type} {Q : α → Prop} {z : α} : optP Q (some z) ↔ (Q z) := Iff.rfl
@[simp] theorem one1_1 {f : D → (D → Prop) → Prop} : one1 f [d] P ↔ (f d P) := Iff.rfl
@[simp] theorem two2_2 {f : DO} : two2 f [d, e] P ↔ (f d e P) := Iff.rfl
@[simp] theorem oI_i {C : Int → Int → Prop} {q : Int → Int → D} : oI C q (.int m) (.int n) P ↔ ((C m n ∧ P (q m n))) := Iff.rfl
@[simp] theorem oI0_i {q : Int → Int → D} : oI0 q (.int m) (.int n) P ↔ (P (q m n)) := Iff.rfl
@[simp] theorem oAdd_i : oAdd (.int m) (.int n) P ↔ (P (.int (m + n))) := Iff.rfl
@[simp] theorem oAdd_t : oAdd (.tup xs) (.tup ys) P ↔ ((xs.length + ys.length ≤ sizeLine ∧ P (.tup (xs ++ ys)))) := Iff.rfl
@[simp] theorem oAdd_l : oAdd (.lst xs) (.lst ys) P ↔ ((xs.length + ys.length ≤ sizeLine ∧ P (.lst (xs ++ ys)))) := Iff.rfl
@[simp] theorem oMul_i : oMul (.int m) (.int n) P ↔ ((IntMulOk m n ∧ P (.int (m * n)))) := Iff.rfl
@[simp] theorem oEq_e : oEq d e P ↔ (((d.fit 60 = true ∧ e.fit 60 = true) ∧ P (.bl (d.eqv e)))) := Iff.rfl
@[simp] theorem oNe_e : oNe d e P ↔ (((d.fit 60 = true ∧ e.fit 60 = true) ∧ P (.bl (!d.eqv e)))) := Iff.rfl
@[simp] theorem oIx_e : oIx d (.int n) P ↔ (d.seqP fun xs => optP P (atI xs n)) := Iff.rfl
@[simp] theorem cInt_i : cInt [.int n] P ↔ (P (.int n)) := Iff.rfl
@[simp] theorem cInt_b {q : Bool} : cInt [.bl q] P ↔ (P (.int (if q then 1 else 0))) := Iff.rfl
@[simp] theorem cIsi_t {T : String} : cIsi [d, .ty T] P ↔ ((d.norm = true ∧ T ∈ plainTys ∧ P (.bl (isT d T)))) := Iff.rfl
@[simp] theorem fit_int {k : Nat} : (D.int n).fit k = true := by cases k <;> rfl
@[simp] theorem fit_bl {k : Nat} {q : Bool} : (D.bl q).fit k = true := by cases k <;> rfl
@[simp] theorem fit_non {k : Nat} : D.non.fit k = true := by cases k <;> rfl
@[simp] theorem fit_tup {k : Nat} : (D.tup xs).fit (k + 1) = xs.all (D.fit k) := rfl
@[simp] theorem fit_lst {k : Nat} : (D.lst xs).fit (k + 1) = xs.all (D.fit k) := rfl
@[simp] theorem fit_str {k : Nat} {z : Str} : (D.str z).fit k = PyData.strOk z := by cases k <;> rfl
@[simp] theorem c_nil {ρ : Env} : compP g t a ρ [] R ↔ (R []) := Iff.rfl
theorem c_cons : compP g t a ρ (d :: xs) R ↔ (g d ρ fun ρ1 => t ρ1 fun b => if b = true then a ρ1 fun y => compP g t a ρ xs fun ys => R (y :: ys) else compP g t a ρ xs R) := Iff.rfl
@[simp] theorem c_all' {q : DI} {vs : List Nat} : dComp q g t a vs ρ R ↔ (q ρ fun ds => ((vs.all fun v => (sat ρ v).still) = true ∧ ds.length ≤ sizeLine) ∧ compP g t a (wipeE ρ vs) ds R) := Iff.rfl
end
@[simp] theorem sizeLine_eq : sizeLine = 16777216 := by unfold sizeLine; rfl
/-! ### == of data -/
@[simp] theorem eqv_ii {m n : Int} : (D.int m).eqv (.int n) = (m == n) := by
  simp [D.eqv, D.py, PyData.eqv]

def top (i : Nat) : Stmt := PySem.Challenge.pw_facenumbers_k54_lines_for_all_dimensions.main.body.getD i (.Pass ⟨0, 0, 0, 0⟩)
abbrev st_is_whole : Stmt := top 1
abbrev st_is_between : Stmt := top 2
abbrev st_check_dimension : Stmt := top 10
abbrev st_check_number : Stmt := top 11
abbrev st_check_points : Stmt := top 13
abbrev st_ahead_by : Stmt := top 16
abbrev st_others_by : Stmt := top 17
abbrev st_line_of : Stmt := top 19
abbrev st__law_pot : Stmt := top 21
abbrev st__law_take : Stmt := top 22
abbrev st__law_dealt : Stmt := top 23
abbrev st__law_line : Stmt := top 24
abbrev st__law_right : Stmt := top 25
abbrev st_law : Stmt := top 26
structure Fx (K : PySem.W.Frag) (mg : Str → Option Value) : Prop where
  f_isinstance : mg "isinstance" = none
  f_int : mg "int" = none
  f_bool : mg "bool" = none
  a_is_whole : At K mg "is_whole" st_is_whole
  a_is_between : At K mg "is_between" st_is_between
  i_MOST_DIMENSION : ∃ t, mg "MOST_DIMENSION" = some (.int 7 t)
  i_LEAST_DIMENSION : ∃ t, mg "LEAST_DIMENSION" = some (.int 2 t)
  a_check_dimension : At K mg "check_dimension" st_check_dimension
  a_check_number : At K mg "check_number" st_check_number
  i_MOST_MORE : ∃ t, mg "MOST_MORE" = some (.int 4 t)
  a_check_points : At K mg "check_points" st_check_points
  a_ahead_by : At K mg "ahead_by" st_ahead_by
  t_OTHERS : mg "OTHERS" = some (.ref (He.ga K "OTHERS"))
  u_OTHERS : ∀ G, Rp K G (.ref (He.ga K "OTHERS")) (.tup [(.int (-3)), (.int (-1)), (.int 0), (.int 1), (.int 2), (.int 4), (.int 8), (.int 16), (.int 40)])
  f_len : mg "len" = none
  a_others_by : At K mg "others_by" st_others_by
  a_line_of : At K mg "line_of" st_line_of
  f_abs : mg "abs" = none
  a__law_pot : At K mg "_law_pot" st__law_pot
  f_divmod : mg "divmod" = none
  a__law_take : At K mg "_law_take" st__law_take
  f_list : mg "list" = none
  f_range : mg "range" = none
  a__law_dealt : At K mg "_law_dealt" st__law_dealt
  a__law_line : At K mg "_law_line" st__law_line
  f_repr : mg "repr" = none
  a__law_right : At K mg "_law_right" st__law_right
  f_all : mg "all" = none
  f_max : mg "max" = none
  f_min : mg "min" = none
  a_law : At K mg "law" st_law
theorem bt_isinstance : bootBuiltins "isinstance" = some (.builtin "isinstance") := by first | rfl | decide +kernel
theorem bt_int : bootBuiltins "int" = some (.type "int") := by first | rfl | decide +kernel
theorem bt_bool : bootBuiltins "bool" = some (.type "bool") := by first | rfl | decide +kernel
theorem bt_len : bootBuiltins "len" = some (.builtin "len") := by first | rfl | decide +kernel
theorem bt_abs : bootBuiltins "abs" = some (.builtin "abs") := by first | rfl | decide +kernel
theorem bt_divmod : bootBuiltins "divmod" = some (.builtin "divmod") := by first | rfl | decide +kernel
theorem bt_list : bootBuiltins "list" = some (.type "list") := by first | rfl | decide +kernel
theorem bt_range : bootBuiltins "range" = some (.type "range") := by first | rfl | decide +kernel
theorem bt_repr : bootBuiltins "repr" = some (.builtin "repr") := by first | rfl | decide +kernel
theorem bt_all : bootBuiltins "all" = some (.builtin "all") := by first | rfl | decide +kernel
theorem bt_max : bootBuiltins "max" = some (.builtin "max") := by first | rfl | decide +kernel
theorem bt_min : bootBuiltins "min" = some (.builtin "min") := by first | rfl | decide +kernel

def nm_is_whole : List Str := ["value"]
def d_is_whole : DS :=
    (dRet (dAndV (dCB cIsi (dCons (dVar 0) (dCons (dC (.ty "int")) dNil))) (dUn (fun x P => x.blP fun i => P (.bl (!i))) (dCB cIsi (dCons (dVar 0) (dCons (dC (.ty "bool")) dNil))))))
def pre_is_whole : Pre := fun ds P => d_is_whole { nx := fun _ => P .non, rt := P } (startD nm_is_whole ds)
def nm_is_between : List Str := ["value", "least", "most"]
def d_is_between : DS :=
    (dRet (dAndV (dCall 1 pre_is_whole (dCons (dVar 0) dNil)) (dCh oLe oLe (dVar 1) (dVar 0) (dVar 2))))
def pre_is_between : Pre := fun ds P => d_is_between { nx := fun _ => P .non, rt := P } (startD nm_is_between ds)
def nm_check_dimension : List Str := ["value"]
def d_check_dimension : DS :=
    (dIfS (dTNot (dTest (dCall 3 pre_is_between (dCons (dVar 0) (dCons (dC (.int 2)) (dCons (dC (.int 7)) dNil)))))) dNever dNext)
def pre_check_dimension : Pre := fun ds P => d_check_dimension { nx := fun _ => P .non, rt := P } (startD nm_check_dimension ds)
def nm_check_number : List Str := ["value", "least", "most"]
def d_check_number : DS :=
    (dIfS (dTNot (dTest (dCall 3 pre_is_between (dCons (dVar 0) (dCons (dVar 1) (dCons (dVar 2) dNil)))))) dNever dNext)
def pre_check_number : Pre := fun ds P => d_check_number { nx := fun _ => P .non, rt := P } (startD nm_check_number ds)
def nm_check_points : List Str := ["dimension", "points"]
def d_check_points : DS :=
    (dDrop (dCall 3 pre_check_number (dCons (dVar 1) (dCons (dBin oAdd (dVar 0) (dC (.int 1))) (dCons (dBin oAdd (dVar 0) (dC (.int 4))) dNil)))))
def pre_check_points : Pre := fun ds P => d_check_points { nx := fun _ => P .non, rt := P } (startD nm_check_points ds)
def nm_ahead_by : List Str := ["dimension"]
def d_ahead_by : DS :=
    (dRet (dIf (dTest (dBin oEq (dBin oMod (dVar 0) (dC (.int 2))) (dC (.int 1)))) (dTup (dCons (dUn (fun x P => x.intP fun i => P (.int (-i))) (dC (.int 5))) (dCons (dUn (fun x P => x.intP fun i => P (.int (-i))) (dC (.int 4))) dNil))) (dTup (dCons (dUn (fun x P => x.intP fun i => P (.int (-i))) (dC (.int 4))) dNil))))
def pre_ahead_by : Pre := fun ds P => d_ahead_by { nx := fun _ => P .non, rt := P } (startD nm_ahead_by ds)
def nm_others_by : List Str := ["dimension", "points"]
def d_others_by : DS :=
    (dRet (dSl (dC (.tup [(.int (-3)), (.int (-1)), (.int 0), (.int 1), (.int 2), (.int 4), (.int 8), (.int 16), (.int 40)])) dNoP (dPart (dBin oSub (dVar 1) (dCB cLen (dCons (dCall 1 pre_ahead_by (dCons (dVar 0) dNil)) dNil))))))
def pre_others_by : Pre := fun ds P => d_others_by { nx := fun _ => P .non, rt := P } (startD nm_others_by ds)
def nm_line_of : List Str := ["dimension", "points"]
def d_line_of : DS :=
    (dSeq (dDrop (dCall 1 pre_check_dimension (dCons (dVar 0) dNil)))
    (dSeq (dDrop (dCall 2 pre_check_points (dCons (dVar 0) (dCons (dVar 1) dNil))))
    (dRet (dTup (dStar (dCall 1 pre_ahead_by (dCons (dVar 0) dNil)) (dStar (dCall 2 pre_others_by (dCons (dVar 0) (dCons (dVar 1) dNil))) dNil))))))
def pre_line_of : Pre := fun ds P => d_line_of { nx := fun _ => P .non, rt := P } (startD nm_line_of ds)
def nm__law_pot : List Str := ["script", "lap", "mixed", "cell", "own"]
def d__law_pot : DS :=
    (dSeq (dSet 2 (xE (dBin oAdd (dC (.int 60013)) (dBin oMul (dC (.int 8087)) (dVar 1)))))
    (dSeq (dFor (dSeqI (dSlS 0 9)) (dName 3) (dSet 2 (xE (dBin oMod (dCB cInt (dCons (dBin oAdd (dBin oAdd (dBin oMul (dVar 2) (dC (.int 50993))) (dBin oMul (dBin oMod (dCB cInt (dCons (dVar 3) dNil)) (dC (.int 2147483477))) (dC (.int 11)))) (dC (.int 23))) dNil)) (dC (.int 2147483477))))))
    (dSeq (dSet 4 (xE (dIf (dTest (dBin oLt (dVar 1) (dLenS 0))) (dCB cInt (dCons (dIxS 0 (dVar 1)) dNil)) (dC (.int 0)))))
    (dSeq (dSet 2 (xE (dBin oMod (dCB cInt (dCons (dBin oAdd (dBin oAdd (dBin oMul (dVar 2) (dC (.int 53))) (dBin oMul (dBin oMod (dCB cInt (dCons (dVar 4) dNil)) (dC (.int 2147483477))) (dC (.int 40009)))) (dC (.int 7))) dNil)) (dC (.int 2147483477)))))
    (dRetF (dLstF (dCons (dIf (dTOr (dTest (dBin oLt (dVar 4) (dC (.int 0)))) (dTest (dBin oGe (dVar 4) (dBin oPow (dC (.int 10)) (dC (.int 15)))))) (dCB cAbs (dCons (dVar 4) dNil)) (dC (.int 0))) (dCons (dVar 2) (dCons (dC (.int 0)) dNil)))))))))
def pre__law_pot : PreF := fun ds P => d__law_pot { nx := fun _ => False, rt := fun _ => False, rf := P } (startD nm__law_pot ds)
def nm__law_take : List Str := ["pot", "few", "stir", "figure"]
def d__law_take : DS :=
    (dSeq (dIfS (dTest (dBin oGt (dUIx 0) (dC (.int 0)))) (dSeq (dUDiv 0 3 (dCB cDivmod (dCons (dUIx 0) (dCons (dVar 1) dNil))))
    (dRet (dVar 3))) dNext)
    (dSeq (dUSet 0 (dBin oAdd (dUIx 0) (dC (.int 1))))
    (dSeq (dSet 2 (xE (dBin oMod (dCB cInt (dCons (dBin oAdd (dBin oMul (dUIx 0) (dC (.int 39373))) (dBin oMul (dC (.int 14173)) (dUIx 0))) dNil)) (dC (.int 2147483477)))))
    (dSeq (dUSet 0 (dBin oMod (dCB cInt (dCons (dBin oAdd (dBin oMul (dVar 2) (dBin oAdd (dBin oMod (dCB cInt (dCons (dVar 2) dNil)) (dC (.int 4957))) (dC (.int 30029)))) (dUIx 0)) dNil)) (dC (.int 2147483477))))
    (dRet (dBin oMod (dCB cInt (dCons (dBin oDiv (dUIx 0) (dC (.int 911))) dNil)) (dVar 1)))))))
def pre__law_take : Pre := fun ds P => d__law_take { nx := fun _ => P .non, rt := P } (startU nm__law_take ds)
def nm__law_dealt : List Str := ["pot", "some", "turn", "left", "found"]
def d__law_dealt : DS :=
    (dSeq (dPar 3 4 (xF (dListF (dCons (dVar 1) dNil))) (xF (dLstF dNil)))
    (dSeq (dFor (dRg1 (dCB cLen (dCons (dVar 1) dNil))) (dName 2) (dAppPop 4 3 (dCall 1 pre__law_take (dUrn 0 (dCons (dLenO 3) dNil)))))
    (dRetO 4)))
def pre__law_dealt : Pre := fun ds P => d__law_dealt { nx := fun _ => P .non, rt := P } (startU nm__law_dealt ds)
def nm__law_line : List Str := ["dim", "points", "free", "ahead"]
def d__law_line : DS :=
    (dSeq (dSet 2 (xE (dBin oSub (dBin oSub (dVar 1) (dVar 0)) (dC (.int 1)))))
    (dSeq (dSet 3 (xE (dIf (dTest (dBin oEq (dVar 0) (dBin oMul (dC (.int 2)) (dBin oDiv (dVar 0) (dC (.int 2)))))) (dTup (dCons (dBin oSub (dC (.int 0)) (dC (.int 4))) dNil)) (dTup (dCons (dBin oSub (dC (.int 0)) (dC (.int 5))) (dCons (dBin oSub (dC (.int 0)) (dC (.int 4))) dNil))))))
    (dRet (dBin oAdd (dVar 3) (dSl (dTup (dCons (dBin oSub (dC (.int 0)) (dC (.int 3))) (dCons (dBin oSub (dC (.int 0)) (dC (.int 1))) (dCons (dC (.int 0)) (dCons (dC (.int 1)) (dCons (dC (.int 2)) (dCons (dC (.int 4)) (dCons (dC (.int 8)) (dCons (dC (.int 16)) (dCons (dC (.int 40)) dNil)))))))))) dNoP (dPart (dBin oAdd (dBin oMul (dC (.int 2)) (dBin oDiv (dVar 0) (dC (.int 2)))) (dVar 2))))))))
def pre__law_line : Pre := fun ds P => d__law_line { nx := fun _ => P .non, rt := P } (startD nm__law_line ds)
def perm_line_of_points_dimension : {α : Type} → List α → List α := fun {α} l => match l with | [a0, a1] => [a1, a0] | l => l
def nm__law_right : List Str := ["pot", "pairs", "dim", "points", "due", "told", "more"]
def d__law_right : DS :=
    (dSeq (dSet 1 (xE (dF (dLstF dNil))))
    (dSeq (dFor (dRg2 (dC (.int 2)) (dC (.int 8))) (dName 2) (dSet 1 (xE (dF (dCatF (dVar 1) (dF (dComp (dRg2 (dC (.int 1)) (dC (.int 5))) (dName 6) dYes (dTup (dCons (dVar 2) (dCons (dBin oAdd (dVar 2) (dVar 6)) dNil))) [6])))))))
    (dSeq (dFor (dSeqI (dCall 1 pre__law_dealt (dUrn 0 (dCons (dVar 1) dNil)))) (dGTup 2 (dGCons (dName 2) (dGCons (dName 3) dGNil))) (dSeq (dSet 4 (xE (dCall 2 pre__law_line (dCons (dVar 2) (dCons (dVar 3) dNil)))))
    (dSeq (dSet 5 (xE (dF (dLstF (dCons (dCall 2 pre_line_of (dCons (dVar 2) (dCons (dVar 3) dNil))) (dCons (dKw 2 perm_line_of_points_dimension (dCall 2 pre_line_of) (dCons (dVar 3) (dCons (dVar 2) dNil))) dNil))))))
    (dIfS (dTOr (dTest (dBin oNe (dCB cRepr (dCons (dVar 5) dNil)) (dCB cRepr (dCons (dF (dLstF (dCons (dVar 4) (dCons (dVar 4) dNil)))) dNil)))) (dTest (dBin oNe (dCB cLen (dCons (dVar 4) dNil)) (dVar 3)))) (dRet (dC (.bl false))) dNext))))
    (dSeq (dAsg (dBin oIx (dVar 1) (dCall 1 pre__law_take (dUrn 0 (dCons (dCB cLen (dCons (dVar 1) dNil)) dNil)))) (dGTup 2 (dGCons (dName 2) (dGCons (dName 3) dGNil))))
    (dRet (dBin oEq (dCB cRepr (dCons (dCall 2 pre_line_of (dCons (dVar 2) (dCons (dVar 3) dNil))) dNil)) (dCB cRepr (dCons (dCall 2 pre__law_line (dCons (dVar 2) (dCons (dVar 3) dNil))) dNil))))))))
def pre__law_right : Pre := fun ds P => d__law_right { nx := fun _ => P .non, rt := P } (startU nm__law_right ds)
def nm_law : List Str := ["script", "lap"]
def d_law : DS :=
    (dRet (dCB cAll (dCons (dF (dComp (dRg1 (dCB cMax2 (dCons (dC (.int 2)) (dCons (dCB cMin2 (dCons (dLenS 0) (dCons (dC (.int 3)) dNil))) dNil)))) (dName 1) dYes (dCallM 0 pre__law_right (dCallF 2 pre__law_pot (dCons (dVar 0) (dCons (dVar 1) dNil)))) [1])) dNil)))
def pre_law : Pre := fun ds P => d_law { nx := fun _ => P .non, rt := P } (startD nm_law ds)

section
variable {P : Program} {w : World} {K : PySem.W.Frag} {mg : Str → Option Value} {base : Heap}
theorem sc_is_whole : FnScope nm_is_whole ["value"] (defScope st_is_whole) := ⟨rfl, rfl, rfl, by decide +kernel, rfl, by decide +kernel, by decide +kernel⟩
theorem bn_is_whole : Bnd "is_whole" st_is_whole ["value"] := fun _ _ _ _ _ _ us hl => match us, hl with | [_], _ => rfl
theorem ok_is_whole (F : Fx K mg) : DefG P w K mg base "is_whole" ["value"] 1 (spP K 1 pre_is_whole) := defP F.a_is_whole sc_is_whole bn_is_whole pre_is_whole (d := d_is_whole) (fun f cdv A out s H E hr => ⟨_, (ss_one (s_ret (d_and (d_blt c_isi rfl F.f_isinstance bt_isinstance (a_cons (dv 0) (a_cons (d_bltn rfl F.f_int bt_int) a_nil))) (d_one (d_not (d_blt c_isi rfl F.f_isinstance bt_isinstance (a_cons (dv 0) (a_cons (d_bltn rfl F.f_bool bt_bool) a_nil))))))))⟩) fun ds Pd _ h => h
theorem sc_is_between : FnScope nm_is_between ["value", "least", "most"] (defScope st_is_between) := ⟨rfl, rfl, rfl, by decide +kernel, rfl, by decide +kernel, by decide +kernel⟩
theorem bn_is_between : Bnd "is_between" st_is_between ["value", "least", "most"] := fun _ _ _ _ _ _ us hl => match us, hl with | [_, _, _], _ => rfl
theorem ok_is_between (F : Fx K mg) : DefG P w K mg base "is_between" ["value", "least", "most"] 2 (spP K 3 pre_is_between) := defP F.a_is_between sc_is_between bn_is_between pre_is_between (d := d_is_between) (fun f cdv A out s H E hr => ⟨_, (ss_one (s_ret (d_and (dg_call (ok_is_whole F) (hr.mono (by decide)) rfl (a_cons (dv 0) a_nil)) (d_one (d_chain do_le do_le (dv 1) (dv 0) (dv 2))))))⟩) fun ds Pd _ h => h
theorem sc_check_dimension : FnScope nm_check_dimension ["value"] (defScope st_check_dimension) := ⟨rfl, rfl, rfl, by decide +kernel, rfl, by decide +kernel, by decide +kernel⟩
theorem bn_check_dimension : Bnd "check_dimension" st_check_dimension ["value"] := fun _ _ _ _ _ _ us hl => match us, hl with | [_], _ => rfl
theorem ok_check_dimension (F : Fx K mg) : DefG P w K mg base "check_dimension" ["value"] 3 (spP K 1 pre_check_dimension) := defP F.a_check_dimension sc_check_dimension bn_check_dimension pre_check_dimension (d := d_check_dimension) (fun f cdv A out s H E hr => ⟨_, (ss_one (s_if (t_not (t_val (dg_call (ok_is_between F) (hr.mono (by decide)) rfl (a_cons (dv 0) (a_cons (d_ci rfl F.i_LEAST_DIMENSION) (a_cons (d_ci rfl F.i_MOST_DIMENSION) a_nil)))))) (ss_one s_never) ss_nil))⟩) fun ds Pd _ h => h
theorem sc_check_number : FnScope nm_check_number ["value", "least", "most"] (defScope st_check_number) := ⟨rfl, rfl, rfl, by decide +kernel, rfl, by decide +kernel, by decide +kernel⟩
theorem bn_check_number : Bnd "check_number" st_check_number ["value", "least", "most"] := fun _ _ _ _ _ _ us hl => match us, hl with | [_, _, _], _ => rfl
theorem ok_check_number (F : Fx K mg) : DefG P w K mg base "check_number" ["value", "least", "most"] 3 (spP K 3 pre_check_number) := defP F.a_check_number sc_check_number bn_check_number pre_check_number (d := d_check_number) (fun f cdv A out s H E hr => ⟨_, (ss_one (s_if (t_not (t_val (dg_call (ok_is_between F) (hr.mono (by decide)) rfl (a_cons (dv 0) (a_cons (dv 1) (a_cons (dv 2) a_nil)))))) (ss_one s_never) ss_nil))⟩) fun ds Pd _ h => h
theorem sc_check_points : FnScope nm_check_points ["dimension", "points"] (defScope st_check_points) := ⟨rfl, rfl, rfl, by decide +kernel, rfl, by decide +kernel, by decide +kernel⟩
theorem bn_check_points : Bnd "check_points" st_check_points ["dimension", "points"] := fun _ _ _ _ _ _ us hl => match us, hl with | [_, _], _ => rfl
theorem ok_check_points (F : Fx K mg) : DefG P w K mg base "check_points" ["dimension", "points"] 4 (spP K 2 pre_check_points) := defP F.a_check_points sc_check_points bn_check_points pre_check_points (d := d_check_points) (fun f cdv A out s H E hr => ⟨_, (ss_one (s_expr (dg_call (ok_check_number F) (hr.mono (by decide)) rfl (a_cons (dv 1) (a_cons (d_op do_add (dv 0) d_int) (a_cons (d_op do_add (dv 0) (d_ci rfl F.i_MOST_MORE)) a_nil))))))⟩) fun ds Pd _ h => h
theorem sc_ahead_by : FnScope nm_ahead_by ["dimension"] (defScope st_ahead_by) := ⟨rfl, rfl, rfl, by decide +kernel, rfl, by decide +kernel, by decide +kernel⟩
theorem bn_ahead_by : Bnd "ahead_by" st_ahead_by ["dimension"] := fun _ _ _ _ _ _ us hl => match us, hl with | [_], _ => rfl
theorem ok_ahead_by (F : Fx K mg) : DefG P w K mg base "ahead_by" ["dimension"] 1 (spP K 1 pre_ahead_by) := defP F.a_ahead_by sc_ahead_by bn_ahead_by pre_ahead_by (d := d_ahead_by) (fun f cdv A out s H E hr => ⟨_, (ss_one (s_ret (d_if (t_cmp (do_eq hr.u64) (d_op do_mod (dv 0) d_int) d_int (by rfl)) (d_tup (a_cons (d_neg d_int) (a_cons (d_neg d_int) a_nil))) (d_tup (a_cons (d_neg d_int) a_nil)))))⟩) fun ds Pd _ h => h
theorem sc_others_by : FnScope nm_others_by ["dimension", "points"] (defScope st_others_by) := ⟨rfl, rfl, rfl, by decide +kernel, rfl, by decide +kernel, by decide +kernel⟩
theorem bn_others_by : Bnd "others_by" st_others_by ["dimension", "points"] := fun _ _ _ _ _ _ us hl => match us, hl with | [_, _], _ => rfl
theorem ok_others_by (F : Fx K mg) : DefG P w K mg base "others_by" ["dimension", "points"] 2 (spP K 2 pre_others_by) := defP F.a_others_by sc_others_by bn_others_by pre_others_by (d := d_others_by) (fun f cdv A out s H E hr => ⟨_, (ss_one (s_ret (d_sl (d_ct rfl F.t_OTHERS F.u_OTHERS) p_none (p_some (d_op do_sub (dv 1) (d_blt c_len rfl F.f_len bt_len (a_cons (dg_call (ok_ahead_by F) (hr.mono (by decide)) rfl (a_cons (dv 0) a_nil)) a_nil)))))))⟩) fun ds Pd _ h => h
theorem sc_line_of : FnScope nm_line_of ["dimension", "points"] (defScope st_line_of) := ⟨rfl, rfl, rfl, by decide +kernel, rfl, by decide +kernel, by decide +kernel⟩
theorem bn_line_of : Bnd "line_of" st_line_of ["dimension", "points"] := fun _ _ _ _ _ _ us hl => match us, hl with | [_, _], _ => rfl
theorem ok_line_of (F : Fx K mg) : DefG P w K mg base "line_of" ["dimension", "points"] 5 (spP K 2 pre_line_of) := defP F.a_line_of sc_line_of bn_line_of pre_line_of (d := d_line_of) (fun f cdv A out s H E hr => ⟨_, (ss_cons (s_expr (dg_call (ok_check_dimension F) (hr.mono (by decide)) rfl (a_cons (dv 0) a_nil)))
    (ss_cons (s_expr (dg_call (ok_check_points F) (hr.mono (by decide)) rfl (a_cons (dv 0) (a_cons (dv 1) a_nil))))
    (ss_one (s_ret (d_tup (a_star (dg_call (ok_ahead_by F) (hr.mono (by decide)) rfl (a_cons (dv 0) a_nil)) (a_star (dg_call (ok_others_by F) (hr.mono (by decide)) rfl (a_cons (dv 0) (a_cons (dv 1) a_nil))) a_nil)))))))⟩) fun ds Pd _ h => h
theorem sc__law_pot : FnScope nm__law_pot ["script", "lap"] (defScope st__law_pot) := ⟨rfl, rfl, rfl, by decide +kernel, rfl, by decide +kernel, by decide +kernel⟩
theorem bn__law_pot : Bnd "_law_pot" st__law_pot ["script", "lap"] := fun _ _ _ _ _ _ us hl => match us, hl with | [_, _], _ => rfl
theorem ok__law_pot (F : Fx K mg) : DefG P w K mg base "_law_pot" ["script", "lap"] 1 (spF K 2 pre__law_pot) := defF F.a__law_pot sc__law_pot bn__law_pot pre__law_pot (d := d__law_pot) (fun f cdv A out s H E hr => ⟨_, (ss_cons (s_set (i := 2) sc__law_pot.nd (PDE.x (d_op do_add d_int (d_op do_mul d_int (dv 1)))))
    (ss_cons (s_for PassesOwn.never rfl (i_seq (d_slS 0)) (g_name sc__law_pot.nd (i := 3)) (ss_one (s_set (i := 2) sc__law_pot.nd (PDE.x (d_op do_mod (d_bty c_int rfl F.f_int bt_int (a_cons (d_op do_add (d_op do_add (d_op do_mul (dv 2) d_int) (d_op do_mul (d_op do_mod (d_bty c_int rfl F.f_int bt_int (a_cons (dv 3) a_nil)) d_int) d_int)) d_int) a_nil)) d_int)))))
    (ss_cons (s_set (i := 4) sc__law_pot.nd (PDE.x (d_if (t_cmp do_lt (dv 1) (d_lenS 0 rfl F.f_len bt_len) (by rfl)) (d_bty c_int rfl F.f_int bt_int (a_cons (d_ixS 0 (dv 1)) a_nil)) d_int)))
    (ss_cons (s_set (i := 2) sc__law_pot.nd (PDE.x (d_op do_mod (d_bty c_int rfl F.f_int bt_int (a_cons (d_op do_add (d_op do_add (d_op do_mul (dv 2) d_int) (d_op do_mul (d_op do_mod (d_bty c_int rfl F.f_int bt_int (a_cons (dv 4) a_nil)) d_int) d_int)) d_int) a_nil)) d_int)))
    (ss_one (s_retF (f_lst (a_cons (d_if (PDW.t (w_or (t_cmp do_lt (dv 4) d_int (by rfl)) (w_or1 (t_cmp do_ge (dv 4) (d_op do_pow d_int d_int) (by rfl))))) (d_blt c_abs rfl F.f_abs bt_abs (a_cons (dv 4) a_nil)) d_int) (a_cons (dv 2) (a_cons d_int a_nil))))))))))⟩) fun ds Pd _ h => h
theorem sc__law_take : FnScope nm__law_take ["pot", "few"] (defScope st__law_take) := ⟨rfl, rfl, rfl, by decide +kernel, rfl, by decide +kernel, by decide +kernel⟩
theorem bn__law_take : Bnd "_law_take" st__law_take ["pot", "few"] := fun _ _ _ _ _ _ us hl => match us, hl with | [_, _], _ => rfl
theorem ok__law_take (F : Fx K mg) : DefG P w K mg base "_law_take" ["pot", "few"] 1 (spU K 1 pre__law_take) := defU F.a__law_take sc__law_take bn__law_take rfl pre__law_take (d := d__law_take) (fun f cdv A out s H E hr => ⟨_, (ss_cons (s_if (t_cmp do_gt (d_uIx 0 (by decide)) d_int (by rfl)) (ss_cons (s_uDiv 0 3 rfl (by decide) sc__law_take.nd (d_blt c_divmod rfl F.f_divmod bt_divmod (a_cons (d_uIx 0 (by decide)) (a_cons (dv 1) a_nil))))
    (ss_one (s_ret (dv 3)))) ss_nil)
    (ss_cons (s_uSet 0 (by decide) (d_op do_add (d_uIx 0 (by decide)) d_int))
    (ss_cons (s_set (i := 2) sc__law_take.nd (PDE.x (d_op do_mod (d_bty c_int rfl F.f_int bt_int (a_cons (d_op do_add (d_op do_mul (d_uIx 0 (by decide)) d_int) (d_op do_mul d_int (d_uIx 0 (by decide)))) a_nil)) d_int)))
    (ss_cons (s_uSet 0 (by decide) (d_op do_mod (d_bty c_int rfl F.f_int bt_int (a_cons (d_op do_add (d_op do_mul (dv 2) (d_op do_add (d_op do_mod (d_bty c_int rfl F.f_int bt_int (a_cons (dv 2) a_nil)) d_int) d_int)) (d_uIx 0 (by decide))) a_nil)) d_int))
    (ss_one (s_ret (d_op do_mod (d_bty c_int rfl F.f_int bt_int (a_cons (d_op do_div (d_uIx 0 (by decide)) d_int) a_nil)) (dv 1))))))))⟩) fun ds Pd _ h => h
theorem sc__law_dealt : FnScope nm__law_dealt ["pot", "some"] (defScope st__law_dealt) := ⟨rfl, rfl, rfl, by decide +kernel, rfl, by decide +kernel, by decide +kernel⟩
theorem bn__law_dealt : Bnd "_law_dealt" st__law_dealt ["pot", "some"] := fun _ _ _ _ _ _ us hl => match us, hl with | [_, _], _ => rfl
theorem ok__law_dealt (F : Fx K mg) : DefG P w K mg base "_law_dealt" ["pot", "some"] 2 (spU K 1 pre__law_dealt) := defU F.a__law_dealt sc__law_dealt bn__law_dealt rfl pre__law_dealt (d := d__law_dealt) (fun f cdv A out s H E hr => ⟨_, (ss_cons (s_par (i := 3) (j := 4) rfl sc__law_dealt.nd (PDF.x (f_list rfl F.f_list bt_list (a_cons (dv 1) a_nil))) (PDF.x (f_lst a_nil)))
    (ss_cons (s_for PassesOwn.never rfl (i_rg1 rfl F.f_range (d_blt c_len rfl F.f_len bt_len (a_cons (dv 1) a_nil))) (g_name sc__law_dealt.nd (i := 2)) (ss_one (s_appPop 4 3 (dg_callU (ok__law_take F) (hr.mono (by decide)) rfl (u_cons 0 (a_cons (d_lenO 3 rfl F.f_len bt_len) a_nil))))))
    (ss_one (s_retO 4))))⟩) fun ds Pd _ h => h
theorem sc__law_line : FnScope nm__law_line ["dim", "points"] (defScope st__law_line) := ⟨rfl, rfl, rfl, by decide +kernel, rfl, by decide +kernel, by decide +kernel⟩
theorem bn__law_line : Bnd "_law_line" st__law_line ["dim", "points"] := fun _ _ _ _ _ _ us hl => match us, hl with | [_, _], _ => rfl
theorem ok__law_line (F : Fx K mg) : DefG P w K mg base "_law_line" ["dim", "points"] 1 (spP K 2 pre__law_line) := defP F.a__law_line sc__law_line bn__law_line pre__law_line (d := d__law_line) (fun f cdv A out s H E hr => ⟨_, (ss_cons (s_set (i := 2) sc__law_line.nd (PDE.x (d_op do_sub (d_op do_sub (dv 1) (dv 0)) d_int)))
    (ss_cons (s_set (i := 3) sc__law_line.nd (PDE.x (d_if (t_cmp (do_eq hr.u64) (dv 0) (d_op do_mul d_int (d_op do_div (dv 0) d_int)) (by rfl)) (d_tup (a_cons (d_op do_sub d_int d_int) a_nil)) (d_tup (a_cons (d_op do_sub d_int d_int) (a_cons (d_op do_sub d_int d_int) a_nil))))))
    (ss_one (s_ret (d_op do_add (dv 3) (d_sl (d_tup (a_cons (d_op do_sub d_int d_int) (a_cons (d_op do_sub d_int d_int) (a_cons d_int (a_cons d_int (a_cons d_int (a_cons d_int (a_cons d_int (a_cons d_int (a_cons d_int a_nil)))))))))) p_none (p_some (d_op do_add (d_op do_mul d_int (d_op do_div (dv 0) d_int)) (dv 2)))))))))⟩) fun ds Pd _ h => h
theorem sc__law_right : FnScope nm__law_right ["pot"] (defScope st__law_right) := ⟨rfl, rfl, rfl, by decide +kernel, rfl, by decide +kernel, by decide +kernel⟩
theorem bn__law_right : Bnd "_law_right" st__law_right ["pot"] := fun _ _ _ _ _ _ us hl => match us, hl with | [_], _ => rfl
theorem pm_line_of_points_dimension : PermL perm_line_of_points_dimension := by
  intro α β R xs ys t0
  cases t0 with
  | nil => exact .nil
  | cons h0 t1 =>
    cases t1 with
    | nil => exact (.cons h0 .nil)
    | cons h1 t2 =>
      cases t2 with
      | nil => exact (.cons h1 (.cons h0 .nil))
      | cons h2 t3 => exact (.cons h0 (.cons h1 (.cons h2 t3)))
theorem kw_line_of_points_dimension : KwBnd "line_of" st_line_of ["dimension", "points"] ["points", "dimension"] perm_line_of_points_dimension := fun _ _ _ _ _ _ us hl => match us, hl with | [_, _], _ => rfl
theorem ok__law_right (F : Fx K mg) : DefG P w K mg base "_law_right" ["pot"] 6 (spU K 0 pre__law_right) := defU F.a__law_right sc__law_right bn__law_right rfl pre__law_right (d := d__law_right) (fun f cdv A out s H E hr => ⟨_, (ss_cons (s_set (i := 1) sc__law_right.nd (PDE.x (PDF.e (f_lst a_nil))))
    (ss_cons (s_for PassesOwn.never rfl (i_rg2 rfl F.f_range d_int d_int) (g_name sc__law_right.nd (i := 2)) (ss_one (s_set (i := 1) sc__law_right.nd (PDE.x (PDF.e (f_cat (dv 1) (PDF.e (PDF.of (fb_lc rfl sc__law_right.nd (i_rg2 rfl F.f_range d_int d_int) (own := [("more", 6)]) (blkOk_by (by kernel_rfl)) (fun _ _ _ _ _ => ⟨_, (g_name sc__law_right.nd (i := 6)), gw_name (by decide)⟩) (gwd_name (by decide)) (fun _ _ _ _ _ => ⟨_, ts_nil⟩) (fun _ _ _ _ _ => ⟨_, (d_tup (a_cons (dv 2) (a_cons (d_op do_add (dv 2) (dv 6)) a_nil)))⟩))))))))))
    (ss_cons (s_for PassesOwn.never rfl (i_seq (dg_callU (ok__law_dealt F) (hr.mono (by decide)) rfl (u_cons 0 (a_cons (dv 1) a_nil)))) (g_tup rfl (gs_cons (g_name sc__law_right.nd (i := 2)) (gs_cons (g_name sc__law_right.nd (i := 3)) gs_nil))) (ss_cons (s_set (i := 4) sc__law_right.nd (PDE.x (dg_call (ok__law_line F) (hr.mono (by decide)) rfl (a_cons (dv 2) (a_cons (dv 3) a_nil)))))
    (ss_cons (s_set (i := 5) sc__law_right.nd (PDE.x (PDF.e (f_lst (a_cons (dg_call (ok_line_of F) (hr.mono (by decide)) rfl (a_cons (dv 2) (a_cons (dv 3) a_nil))) (a_cons (dg_callK (ok_line_of F) F.a_line_of kw_line_of_points_dimension pm_line_of_points_dimension (hr.mono (by decide)) rfl (k_cons (dv 3) (k_cons (dv 2) k_nil))) a_nil))))))
    (ss_one (s_if (PDW.t (w_or (t_cmp (do_ne hr.u64) (d_blt (c_repr hr.gd hr.u64) rfl F.f_repr bt_repr (a_cons (dv 5) a_nil)) (d_blt (c_repr hr.gd hr.u64) rfl F.f_repr bt_repr (a_cons (PDF.e (f_lst (a_cons (dv 4) (a_cons (dv 4) a_nil)))) a_nil)) (by rfl)) (w_or1 (t_cmp (do_ne hr.u64) (d_blt c_len rfl F.f_len bt_len (a_cons (dv 4) a_nil)) (dv 3) (by rfl))))) (ss_one (s_ret d_bl)) ss_nil)))))
    (ss_cons (s_asg (d_ix (dv 1) (dg_callU (ok__law_take F) (hr.mono (by decide)) rfl (u_cons 0 (a_cons (d_blt c_len rfl F.f_len bt_len (a_cons (dv 1) a_nil)) a_nil)))) (g_tup rfl (gs_cons (g_name sc__law_right.nd (i := 2)) (gs_cons (g_name sc__law_right.nd (i := 3)) gs_nil))))
    (ss_one (s_ret (d_cmp (do_eq hr.u64) (d_blt (c_repr hr.gd hr.u64) rfl F.f_repr bt_repr (a_cons (dg_call (ok_line_of F) (hr.mono (by decide)) rfl (a_cons (dv 2) (a_cons (dv 3) a_nil))) a_nil)) (d_blt (c_repr hr.gd hr.u64) rfl F.f_repr bt_repr (a_cons (dg_call (ok__law_line F) (hr.mono (by decide)) rfl (a_cons (dv 2) (a_cons (dv 3) a_nil))) a_nil)) (by rfl))))))))⟩) fun ds Pd _ h => h
theorem sc_law : FnScope nm_law ["script"] (defScope st_law) := ⟨rfl, rfl, rfl, by decide +kernel, rfl, by decide +kernel, by decide +kernel⟩
theorem bn_law : Bnd "law" st_law ["script"] := fun _ _ _ _ _ _ us hl => match us, hl with | [_], _ => rfl
theorem ok_law (F : Fx K mg) : DefG P w K mg base "law" ["script"] 7 (spP K 1 pre_law) := defP F.a_law sc_law bn_law pre_law (d := d_law) (fun f cdv A out s H E hr => ⟨_, (ss_one (s_ret (d_blt (c_all rfl) rfl F.f_all bt_all (a_cons (PDF.e (PDF.of (fb_lc rfl sc_law.nd (i_rg1 rfl F.f_range (d_blt (c_max2 rfl) rfl F.f_max bt_max (a_cons d_int (a_cons (d_blt (c_min2 rfl) rfl F.f_min bt_min (a_cons (d_lenS 0 rfl F.f_len bt_len) (a_cons d_int a_nil))) a_nil)))) (own := [("lap", 1)]) (blkOk_by (by kernel_rfl)) (fun _ _ _ _ _ => ⟨_, (g_name sc_law.nd (i := 1)), gw_name (by decide)⟩) (gwd_name (by decide)) (fun _ _ _ _ _ => ⟨_, ts_nil⟩) (fun _ _ _ _ _ => ⟨_, (dg_callM (ok__law_right F) (hr.mono (by decide)) rfl (df_call (ok__law_pot F) (hr.mono (by decide)) rfl (a_cons (dv 0) (a_cons (dv 1) a_nil))))⟩)))) a_nil))))⟩) fun ds Pd _ h => h

end
theorem whole_int {i : Int} {P : D → Prop} (h : P (.bl true)) : pre_is_whole [.int i] P := by
  simp [pre_is_whole, d_is_whole, startD, nm_is_whole, D.norm, isT, D.cls, clsT, h]
theorem between_int {i j k : Int} {P : D → Prop} (h : P (.bl (decide (i ≤ j ∧ j ≤ k)))) : pre_is_between [.int j, .int i, .int k] P := by
  simp [pre_is_between, d_is_between, startD, nm_is_between]
  refine whole_int ?_
  simp
  by_cases h1 : i ≤ j
  · simp_all
  · simp_all
    intro h2
    omega
theorem dim_ok {i : Int} {P : D → Prop} (h1 : 2 ≤ i) (h2 : i ≤ 7) (h : P .non) : pre_check_dimension [.int i] P := by
  simp [pre_check_dimension, d_check_dimension, startD, nm_check_dimension]
  refine between_int ?_
  simp [h1, h2, h]
theorem num_ok {i j k : Int} {P : D → Prop} (h1 : j ≤ i) (h2 : i ≤ k) (h : P .non) : pre_check_number [.int i, .int j, .int k] P := by
  simp [pre_check_number, d_check_number, startD, nm_check_number]
  refine between_int ?_
  simp [h1, h2, h]
theorem pts_ok {i j : Int} {P : D → Prop} (h1 : i + 1 ≤ j) (h2 : j ≤ i + 4) (h : P .non) : pre_check_points [.int i, .int j] P := by
  simp [pre_check_points, d_check_points, startD, nm_check_points]
  exact num_ok h1 h2 h
def ahead (i : Int) : List D := if i.fmod 2 = 1 then [.int (-5), .int (-4)] else [.int (-4)]
theorem ahead_ok {i : Int} {P : D → Prop} (h : P (.tup (ahead i))) : pre_ahead_by [.int i] P := by
  simp [pre_ahead_by, d_ahead_by, startD, nm_ahead_by]
  unfold ahead at h
  split
  · rw [if_pos (by assumption)] at h; exact h
  · rw [if_neg (by assumption)] at h; exact h
def nine : List D := [.int (-3), .int (-1), .int 0, .int 1, .int 2, .int 4, .int 8, .int 16, .int 40]
def others (i j : Int) : List D := cut nine none (some (j - (ahead i).length))
theorem others_ok {i j : Int} {P : D → Prop} (h : P (.tup (others i j))) : pre_others_by [.int i, .int j] P := by
  simp [pre_others_by, d_others_by, startD, nm_others_by]
  refine ahead_ok ?_
  simp
  exact h
theorem line_ok {i j : Int} {P : D → Prop} (h1 : 2 ≤ i) (h2 : i ≤ 7) (h3 : i + 1 ≤ j) (h4 : j ≤ i + 4) (h : P (.tup (ahead i ++ others i j))) : pre_line_of [.int i, .int j] P := by
  simp [pre_line_of, d_line_of, startD, nm_line_of]
  refine dim_ok h1 h2 (pts_ok h3 h4 (ahead_ok ?_))
  simp
  refine others_ok ?_
  simp
  refine ⟨?_, h⟩
  have a1 : (ahead i).length ≤ 2 := by unfold ahead; split <;> decide
  have a2 : (others i j).length ≤ 9 := Nat.le_trans (cut_len _ _ _) (by decide)
  omega
/-! ### the law's own -/
def lineL (i j : Int) : List D := (if i = 2 * i.fdiv 2 then [.int (-4)] else [.int (-5), .int (-4)]) ++ cut nine none (some (2 * i.fdiv 2 + (j - i - 1)))
theorem fdiv2 (i : Int) : CDv i 2 := ⟨by decide, by decide⟩
theorem mul_l {i j : Int} (h : -(2 ^ 64) < i ∧ i < 2 ^ 64) : IntMulOk i j := (CMul.ok (.inl h))
theorem mul_r {i j : Int} (h : -(2 ^ 64) < j ∧ j < 2 ^ 64) : IntMulOk i j := (CMul.ok (.inr h))
theorem lawline_ok {i j : Int} {P : D → Prop} (h : P (.tup (lineL i j))) : pre__law_line [.int i, .int j] P := by
  have c9 : (cut nine none (some (2 * i.fdiv 2 + (j - i - 1)))).length ≤ 9 := Nat.le_trans (cut_len _ _ _) (by decide)
  simp [pre__law_line, d__law_line, startD, nm__law_line, fdiv2, mul_l]
  unfold lineL at h
  unfold nine at h c9
  split
  · rename_i hi
    rw [if_pos hi] at h
    exact ⟨by omega, h⟩
  · rename_i hi
    rw [if_neg hi] at h
    exact ⟨by omega, h⟩
theorem take_ok {n : Int} {P : D → Prop} (h0 : 0 < n) (h1 : n < 1073741824) (h : ∀ i : Int, 0 ≤ i → i < n → P (.int i)) : pre__law_take [.int n] P := by
  simp [pre__law_take, d__law_take, startU, nm__law_take]
  intro m
  split
  · intro k
    refine ⟨⟨h0, h1⟩, ?_⟩
    exact h _ (Int.emod_nonneg _ (by omega)) (Int.emod_lt_of_pos _ h0)
  · intro a
    refine ⟨mul_r (by decide), fun b => ⟨mul_l (by decide), ?_, fun f => ⟨⟨by decide, by decide⟩, by omega, ?_⟩⟩⟩
    · refine mul_r ?_
      have z1 := Int.fmod_nonneg_of_pos ((a * 39373 + 14173 * b).fmod 2147483477) (show (0:Int) < 4957 by decide)
      have z2 := Int.fmod_lt_of_pos ((a * 39373 + 14173 * b).fmod 2147483477) (show (0:Int) < 4957 by decide)
      omega
    · exact h _ (Int.fmod_nonneg_of_pos _ h0) (Int.fmod_lt_of_pos _ h0)
theorem forall_perm {α : Type} {xs ys : List α} (h : ys.Perm xs) {p : α → Prop} (a : ∀ x ∈ xs, p x) : ∀ x ∈ ys, p x := fun x hx => a x (h.mem_iff.mp hx)
theorem ixN_at {n : Nat} {i : Int} (h0 : 0 ≤ i) (h1 : i < n) : ixN n i = some i.toNat := by
  unfold ixN
  rw [if_pos h0, if_pos h1]
theorem erase_perm {α : Type} : ∀ {xs : List α} {n : Nat} {x : α}, xs[n]? = some x → (x :: xs.eraseIdx n).Perm xs
  | [], _, _, h => by simp at h
  | y :: ys, 0, x, h => by simp at h; subst h; exact .refl _
  | y :: ys, n + 1, x, h => by
    have ih := erase_perm (xs := ys) (n := n) (x := x) (by simpa using h)
    rw [List.eraseIdx_cons_succ]
    exact (List.Perm.swap y x _).trans (ih.cons y)
theorem deal {S : DEnds} {sm : Sl} :
    ∀ (ds left found all : List D) (t : Sl), ds.length = left.length → all.length ≤ 1000 → (found ++ left).Perm all → (∀ ys t z, ys.Perm all → S.nx [.ur, sm, t, z, .ow ys]) →
      forP (dName 2) (dAppPop 4 3 (dCall 1 pre__law_take (dUrn 0 (dCons (dLenO 3) dNil)))) S ds [.ur, sm, t, .ow left, .ow found]
  | [], left, found, all, t, hl, ha, hp, h => by
    rw [f_nil]
    have : left = [] := List.length_eq_zero_iff.mp hl.symm
    subst this
    rw [List.append_nil] at hp
    exact h _ _ _ hp
  | d :: ds, left, found, all, t, hl, ha, hp, h => by
    rw [f_cons]
    have hlen : found.length + left.length = all.length := by rw [← List.length_append]; exact hp.length_eq
    have hpos : 0 < left.length := by rw [← hl]; simp
    simp [dAppPop]
    refine take_ok (by omega) (by omega) fun i h0 h1 => ?_
    have hi : i.toNat < left.length := by omega
    simp [ixN_at h0 h1, hi]
    refine ⟨by omega, by omega, by omega, ?_⟩
    refine deal ds _ _ all _ ?_ ha ?_ h
    · rw [List.length_eraseIdx_of_lt hi]
      simp at hl
      omega
    · refine List.Perm.trans ?_ hp
      rw [List.append_assoc]
      exact List.Perm.append_left _ (erase_perm (List.getElem?_eq_getElem hi))
theorem dealt_ok {xs : List D} {P : D → Prop} (hx : xs.length ≤ 1000) (h : ∀ ys : List D, ys.Perm xs → P (.lst ys)) : pre__law_dealt [.lst xs] P := by
  simp [pre__law_dealt, d__law_dealt, startU, nm__law_dealt]
  refine ⟨by omega, ?_⟩
  refine deal _ _ _ xs _ (by simp [rgI]) hx (by simp) fun ys t z hy => ?_
  simp
  exact h ys hy
/-! the pairs -/
def prs : List (Int × Int) := [(2, 3), (2, 4), (2, 5), (2, 6), (3, 4), (3, 5), (3, 6), (3, 7), (4, 5), (4, 6), (4, 7), (4, 8), (5, 6), (5, 7), (5, 8), (5, 9), (6, 7), (6, 8), (6, 9), (6, 10), (7, 8), (7, 9), (7, 10), (7, 11)]
def pD (p : Int × Int) : D := .tup [.int p.1, .int p.2]
def lnD (p : Int × Int) : D := .tup (ahead p.1 ++ others p.1 p.2)
theorem prs_ok : ∀ p ∈ prs, (2 ≤ p.1 ∧ p.1 ≤ 7 ∧ p.1 + 1 ≤ p.2 ∧ p.2 ≤ p.1 + 4) ∧ lineL p.1 p.2 = ahead p.1 ++ others p.1 p.2 ∧ ((ahead p.1 ++ others p.1 p.2).length : Int) = p.2 ∧ (lnD p).shOk ∧ (D.lst [lnD p, lnD p]).shOk ∧ PyData.strOk (lnD p).py.shown = true ∧ PyData.strOk (D.lst [lnD p, lnD p]).py.shown = true := by
  intro p hp
  simp only [prs, List.mem_cons, List.not_mem_nil, or_false] at hp
  rcases hp with rfl | rfl | rfl | rfl | rfl | rfl | rfl | rfl | rfl | rfl | rfl | rfl | rfl | rfl | rfl | rfl | rfl | rfl | rfl | rfl | rfl | rfl | rfl | rfl
  all_goals refine ⟨by decide, rfl, rfl, ⟨by decide +kernel, by decide +kernel, by decide +kernel⟩, ⟨by decide +kernel, by decide +kernel, by decide +kernel⟩, by decide +kernel, by decide +kernel⟩
theorem str_refl (x : Str) : (D.str x).eqv (.str x) = true := by
  simp [D.eqv, D.py, PyData.eqv]
theorem eqv_line (p : Int × Int) : D.eqv (lnD p) (lnD p) = true → True := fun _ => trivial
def rightBody : DS := (dSeq (dSet 4 (xE (dCall 2 pre__law_line (dCons (dVar 2) (dCons (dVar 3) dNil)))))
    (dSeq (dSet 5 (xE (dF (dLstF (dCons (dCall 2 pre_line_of (dCons (dVar 2) (dCons (dVar 3) dNil))) (dCons (dKw 2 perm_line_of_points_dimension (dCall 2 pre_line_of) (dCons (dVar 3) (dCons (dVar 2) dNil))) dNil))))))
    (dIfS (dTOr (dTest (dBin oNe (dCB cRepr (dCons (dVar 5) dNil)) (dCB cRepr (dCons (dF (dLstF (dCons (dVar 4) (dCons (dVar 4) dNil)))) dNil)))) (dTest (dBin oNe (dCB cLen (dCons (dVar 4) dNil)) (dVar 3)))) (dRet (dC (.bl false))) dNext)))
theorem right_body {S : DEnds} {p : Int × Int} (hp : p ∈ prs) {m a b e : Sl} (h : S.nx [.ur, m, .fz (.int p.1), .fz (.int p.2), .fz (lnD p), .fz (.lst [lnD p, lnD p]), e]) :
    rightBody S [.ur, m, .fz (.int p.1), .fz (.int p.2), a, b, e] := by
  obtain ⟨⟨h1, h2, h3, h4⟩, hl, hn, hs, hs2, hk, hk2⟩ := prs_ok p hp
  simp [rightBody]
  refine lawline_ok ?_
  rw [hl]
  refine line_ok h1 h2 h3 h4 ?_
  simp [perm_line_of_points_dimension]
  refine line_ok h1 h2 h3 h4 ?_
  simp only [lnD] at hs hs2 h hk2
  have hn' : ((ahead p.1).length : Int) + (others p.1 p.2).length = p.2 := by
    rw [← Int.natCast_add, ← List.length_append]; exact hn
  simp [hs2, str_refl, hn', hk2]
  exact h
theorem right_for {S : DEnds} {m : Sl} : ∀ (ys : List (Int × Int)), (∀ p ∈ ys, p ∈ prs) → (∀ a b c d e, S.nx [.ur, m, a, b, c, d, e]) → ∀ a b c d e,
    forP (dGTup 2 (dGCons (dName 2) (dGCons (dName 3) dGNil))) rightBody S (ys.map pD) [.ur, m, a, b, c, d, e]
  | [], _, h, a, b, c, d, e => h a b c d e
  | p :: ys, hy, h, a, b, c, d, e => by
    rw [List.map_cons, f_cons]
    simp [pD]
    exact right_body (hy p List.mem_cons_self) (right_for ys (fun q hq => hy q (List.mem_cons_of_mem _ hq)) h _ _ _ _ _)
theorem atI_at {α : Type} {xs : List α} {i : Int} (h0 : 0 ≤ i) (h1 : i < xs.length) : ∃ h : i.toNat < xs.length, atI xs i = some xs[i.toNat] := by
  have h : i.toNat < xs.length := by omega
  refine ⟨h, ?_⟩
  unfold atI
  rw [ixN_at h0 h1]
  exact List.getElem?_eq_getElem h
theorem perm_map {α β : Type} (f : α → β) {xs : List α} {ys : List β} (h : ys.Perm (xs.map f)) : ∃ zs : List α, ys = zs.map f ∧ ∀ z ∈ zs, z ∈ xs := by
  have hm : ∀ y ∈ ys, ∃ x, x ∈ xs ∧ f x = y := fun y hy => List.mem_map.mp (h.mem_iff.mp hy)
  clear h
  induction ys with
  | nil => exact ⟨[], rfl, fun z hz => by cases hz⟩
  | cons y ys ih =>
    obtain ⟨x, hx, rfl⟩ := hm y List.mem_cons_self
    obtain ⟨zs, rfl, hz⟩ := ih fun y hy => hm y (List.mem_cons_of_mem _ hy)
    refine ⟨x :: zs, rfl, fun z hz' => ?_⟩
    rcases List.mem_cons.mp hz' with e | e
    · rw [e]; exact hx
    · exact hz z e
def four (k : Int) : List D := [pD (k, k + 1), pD (k, k + 2), pD (k, k + 3), pD (k, k + 4)]
theorem pairs_for {S : DEnds} {b c d : Sl} : ∀ (ks : List Int) (L : List D) (a : Sl), L.length + 4 * ks.length ≤ 1000 → (∀ a, S.nx [.ur, .fz (.lst (L ++ ks.flatMap four)), a, b, c, d, .no]) →
    forP (dName 2) (dSet 1 (xE (dF (dCatF (dVar 1) (dF (dComp (dRg2 (dC (.int 1)) (dC (.int 5))) (dName 6) dYes (dTup (dCons (dVar 2) (dCons (dBin oAdd (dVar 2) (dVar 6)) dNil))) [6])))))) S (ks.map D.int) [.ur, .fz (.lst L), a, b, c, d, .no]
  | [], L, a, _, h => by simpa using h a
  | k :: ks, L, a, hl, h => by
    have r5 : rgI 1 5 = [.int 1, .int 2, .int 3, .int 4] := rfl
    rw [List.map_cons, f_cons]
    simp at hl
    simp [c_cons, r5, wipeE, Sl.still]
    refine ⟨by omega, ?_⟩
    refine pairs_for ks _ _ (by simp; omega) fun a => ?_
    have := h a
    simpa [four, pD] using this
theorem right_ok {P : D → Prop} (h : P (.bl true)) : pre__law_right [] P := by
  simp [pre__law_right, d__law_right, startU, nm__law_right]
  rw [show rgI 2 8 = [2, 3, 4, 5, 6, 7].map D.int from rfl]
  refine pairs_for _ _ _ (by decide) fun a => ?_
  have e : ([] : List D) ++ [2, 3, 4, 5, 6, 7].flatMap four = prs.map pD := rfl
  rw [e]
  simp
  refine dealt_ok (by decide) fun ys hy => ?_
  obtain ⟨zs, rfl, hz⟩ := perm_map pD hy
  simp
  refine right_for zs hz (fun a b c d e => ?_) _ _ _ _ _
  simp
  refine take_ok (by decide) (by decide) fun i h0 h1 => ?_
  have hi : i.toNat < prs.length := by omega
  have hp := prs_ok _ (List.getElem_mem hi)
  obtain ⟨⟨h2, h3, h4, h5⟩, hl, hn, hs, hs2, hk, hk2⟩ := hp
  obtain ⟨hj, ej⟩ := atI_at (xs := prs.map pD) h0 (by simpa using h1)
  simp [ej, pD]
  refine line_ok h2 h3 h4 h5 ?_
  simp only [lnD] at hs hk
  refine ⟨hs, lawline_ok ?_⟩
  rw [hl]
  simp [hs, hk, str_refl, h]

theorem pot_for {S : DEnds} {a b d : Sl} {x : DS} (hx : ∀ (S : DEnds) (m c : Int) , (∀ k : Int, S.nx [a, b, .fz (.int k), .fz (.int c), d]) → x S [a, b, .fz (.int m), .fz (.int c), d]) : ∀ (ns : List Int) (m : Int) (c : Sl), (∀ (k : Int) (c : Sl), S.nx [a, b, .fz (.int k), c, d]) → forP (dName 3) x S (ns.map D.int) [a, b, .fz (.int m), c, d]
  | [], m, c, h => by simpa using h m c
  | n :: ns, m, c, h => by
    rw [List.map_cons, f_cons]
    simp
    exact hx _ _ _ fun k => pot_for hx ns k _ h
theorem pot_ok {ns : List Int} {lap : Int} {R : List D → Prop} (h0 : 0 ≤ lap) (h : ∀ us, urn3 us → R us) : pre__law_pot [.scr ns, .int lap] R := by
  have cp : CPow 10 15 := ⟨by decide, by decide, by decide⟩
  simp [pre__law_pot, d__law_pot, startD, nm__law_pot, mul_l, mul_r]
  refine pot_for (fun S m c k => ?_) _ _ _ fun k c => ?_
  · simp
    refine ⟨mul_r (by decide), mul_r (by decide), k _⟩
  · simp
    split
    · rename_i hl
      obtain ⟨hi, ei⟩ := atI_at (xs := ns) h0 hl
      simp [ei, mul_r]
      split
      · exact h _ trivial
      · refine ⟨cp, ?_⟩
        split
        · exact h _ trivial
        · exact h _ trivial
    · simp [mul_r]
      refine ⟨cp, h _ trivial⟩
theorem law_for {P : List D → Prop} {ns : List Int} {a : Sl} : ∀ (ks : List Int), (∀ k ∈ ks, 0 ≤ k) → P (ks.map fun _ => D.bl true) →
    compP (dName 1) dYes (dCallM 0 pre__law_right (dCallF 2 pre__law_pot (dCons (dVar 0) (dCons (dVar 1) dNil)))) [.fz (.scr ns), a] (ks.map D.int) P
  | [], _, h => by simpa using h
  | k :: ks, hk, h => by
    rw [List.map_cons, c_cons]
    simp
    refine pot_ok (hk k List.mem_cons_self) fun us hu => ⟨hu, right_ok ?_⟩
    refine law_for ks (fun j hj => hk j (List.mem_cons_of_mem _ hj)) ?_
    exact h
theorem bls_true : ∀ ks : List Int, blsOf (ks.map fun _ => D.bl true) = some (ks.map fun _ => true)
  | [] => rfl
  | k :: ks => by
    rw [List.map_cons, blsOf, bls_true ks]
    rfl
theorem law_ok {ns : List Int} {P : D → Prop} (hn : ns.length ≤ 63) (h : P (.bl true)) : pre_law [.scr ns] P := by
  simp [pre_law, d_law, startD, nm_law, wipeE, Sl.still]
  have e : rgI 0 (if 2 < (if 3 < (ns.length : Int) then 3 else (ns.length : Int)) then (if 3 < (ns.length : Int) then 3 else (ns.length : Int)) else 2) = ((List.range (if 2 < (if 3 < (ns.length : Int) then 3 else (ns.length : Int)) then (if 3 < (ns.length : Int) then 3 else (ns.length : Int)) else 2).toNat).map (fun i : Nat => (i : Int))).map D.int := by
    unfold rgI
    rw [List.map_map]
    simp
  generalize hm : (if 2 < (if 3 < (ns.length : Int) then 3 else (ns.length : Int)) then (if 3 < (ns.length : Int) then 3 else (ns.length : Int)) else 2) = m at e
  have hm2 : 2 ≤ m ∧ m ≤ 3 := by
    subst hm
    split
    · split <;> omega
    · omega
  have hl : (rgI 0 m).length ≤ 3 := by
    unfold rgI
    simp
    omega
  refine ⟨by omega, by omega, ?_⟩
  rw [e]
  refine law_for _ (fun k hk => ?_) ?_
  · simp at hk
    obtain ⟨n, _, rfl⟩ := hk
    omega
  · rw [bls_true]
    simp
    rw [show ((List.range m.toNat).all fun x => true) = true from List.all_eq_true.mpr fun _ _ => rfl]
    exact h

/-! ### the head -/
def dD (n : Str) (st : Stmt) : He.DefD := ⟨(n, none), n, n, defArgs st, defBody st, defScope st, [], []⟩
def fnl0 : List He.DefD := [dD "is_whole" st_is_whole, dD "is_between" st_is_between, dD "check_dimension" st_check_dimension, dD "check_number" st_check_number, dD "check_points" st_check_points, dD "ahead_by" st_ahead_by, dD "others_by" st_others_by, dD "line_of" st_line_of, dD "_law_pot" st__law_pot, dD "_law_take" st__law_take, dD "_law_dealt" st__law_dealt, dD "_law_line" st__law_line, dD "_law_right" st__law_right, dD "law" st_law]
def fnl : List He.DefD := fnl0
def fal0 : List He.Fa := [.glo "is_whole", .glo "is_between", .glo "check_dimension", .glo "check_number", .glo "check_points", .glo "ahead_by", .glo "others_by", .glo "line_of", .glo "_law_pot", .glo "_law_take", .glo "_law_dealt", .glo "_law_line", .glo "_law_right", .glo "law", .glo "OTHERS", .free "isinstance", .free "int", .free "bool", .free "len", .free "abs", .free "divmod", .free "list", .free "range", .free "repr", .free "all", .free "max", .free "min", .int "MOST_DIMENSION" 7, .int "LEAST_DIMENSION" 2, .int "MOST_MORE" 4]
def fal : List He.Fa := fal0
def loosel0 : List Str := ["is_whole", "is_between", "LEAST_DIMENSION", "MOST_DIMENSION", "MOST_MORE", "FaceError", "InvalidNumber", "check_dimension", "check_number", "check_points", "OTHERS", "ahead_by", "others_by", "line_of", "_law_pot", "_law_take", "_law_dealt", "_law_line", "_law_right"]
def loosel : List Str := loosel0
def ex (K : PySem.W.Frag) : Bool := He.tupB K "OTHERS" [(.int (-3)), (.int (-1)), (.int 0), (.int 1), (.int 2), (.int 4), (.int 8), (.int 16), (.int 40)]
abbrev R : PySem.W.OpenRow := PySem.W.OpenLaw.row PySem.Challenge.rw_facenumbers_k54_lines_for_all_dimensions
abbrev hk : PySem.W.Hook := He.hookX 4 fal fnl [] [] ex
def ob (s : PySem.W.SharedT) : He.AlX := He.obsX 4 fal fnl [] [] ex (HandSHeadRun.getT s)
theorem ob_eq (s : PySem.W.SharedT) : ob s = hk.obs s.abs := He.obsX_eq (HandSHeadRun.getT_eq s)
theorem run (w : World) : HandSHeadRun.RunEq R (PySem.W.view R.prog [26]) hk ob 20000 loosel w := by
  intro os
  kernel_rfl
theorem fx_of {w : World} {h : Heap} {K : PySem.W.Frag} {mg : Str → Option Value} (X : K.In h) (G : h.Ns mainGlobals mg) (c : He.SaysX fal fnl [] [] ex w h K) : Fx K mg where
  f_isinstance := He.free_ok X G (c.t.d.fact 15 (f := .free "isinstance") rfl)
  f_int := He.free_ok X G (c.t.d.fact 16 (f := .free "int") rfl)
  f_bool := He.free_ok X G (c.t.d.fact 17 (f := .free "bool") rfl)
  a_is_whole := ⟨(c.t.d.def_ 0 (d := dD "is_whole" st_is_whole) rfl).elim fun fd F => ⟨_, fd, He.glo_ok X G (c.t.d.fact 0 (f := .glo "is_whole") rfl), F⟩⟩
  a_is_between := ⟨(c.t.d.def_ 1 (d := dD "is_between" st_is_between) rfl).elim fun fd F => ⟨_, fd, He.glo_ok X G (c.t.d.fact 1 (f := .glo "is_between") rfl), F⟩⟩
  i_MOST_DIMENSION := He.int_ok X G (c.t.d.fact 27 (f := .int "MOST_DIMENSION" 7) rfl)
  i_LEAST_DIMENSION := He.int_ok X G (c.t.d.fact 28 (f := .int "LEAST_DIMENSION" 2) rfl)
  a_check_dimension := ⟨(c.t.d.def_ 2 (d := dD "check_dimension" st_check_dimension) rfl).elim fun fd F => ⟨_, fd, He.glo_ok X G (c.t.d.fact 2 (f := .glo "check_dimension") rfl), F⟩⟩
  a_check_number := ⟨(c.t.d.def_ 3 (d := dD "check_number" st_check_number) rfl).elim fun fd F => ⟨_, fd, He.glo_ok X G (c.t.d.fact 3 (f := .glo "check_number") rfl), F⟩⟩
  i_MOST_MORE := He.int_ok X G (c.t.d.fact 29 (f := .int "MOST_MORE" 4) rfl)
  a_check_points := ⟨(c.t.d.def_ 4 (d := dD "check_points" st_check_points) rfl).elim fun fd F => ⟨_, fd, He.glo_ok X G (c.t.d.fact 4 (f := .glo "check_points") rfl), F⟩⟩
  a_ahead_by := ⟨(c.t.d.def_ 5 (d := dD "ahead_by" st_ahead_by) rfl).elim fun fd F => ⟨_, fd, He.glo_ok X G (c.t.d.fact 5 (f := .glo "ahead_by") rfl), F⟩⟩
  t_OTHERS := He.glo_ok X G (c.t.d.fact 14 (f := .glo "OTHERS") rfl)
  u_OTHERS := fun G => .tup (He.tupB_ok c.more G) (.cons (.int _) (.cons (.int _) (.cons (.int _) (.cons (.int _) (.cons (.int _) (.cons (.int _) (.cons (.int _) (.cons (.int _) (.cons (.int _) .nil)))))))))
  f_len := He.free_ok X G (c.t.d.fact 18 (f := .free "len") rfl)
  a_others_by := ⟨(c.t.d.def_ 6 (d := dD "others_by" st_others_by) rfl).elim fun fd F => ⟨_, fd, He.glo_ok X G (c.t.d.fact 6 (f := .glo "others_by") rfl), F⟩⟩
  a_line_of := ⟨(c.t.d.def_ 7 (d := dD "line_of" st_line_of) rfl).elim fun fd F => ⟨_, fd, He.glo_ok X G (c.t.d.fact 7 (f := .glo "line_of") rfl), F⟩⟩
  f_abs := He.free_ok X G (c.t.d.fact 19 (f := .free "abs") rfl)
  a__law_pot := ⟨(c.t.d.def_ 8 (d := dD "_law_pot" st__law_pot) rfl).elim fun fd F => ⟨_, fd, He.glo_ok X G (c.t.d.fact 8 (f := .glo "_law_pot") rfl), F⟩⟩
  f_divmod := He.free_ok X G (c.t.d.fact 20 (f := .free "divmod") rfl)
  a__law_take := ⟨(c.t.d.def_ 9 (d := dD "_law_take" st__law_take) rfl).elim fun fd F => ⟨_, fd, He.glo_ok X G (c.t.d.fact 9 (f := .glo "_law_take") rfl), F⟩⟩
  f_list := He.free_ok X G (c.t.d.fact 21 (f := .free "list") rfl)
  f_range := He.free_ok X G (c.t.d.fact 22 (f := .free "range") rfl)
  a__law_dealt := ⟨(c.t.d.def_ 10 (d := dD "_law_dealt" st__law_dealt) rfl).elim fun fd F => ⟨_, fd, He.glo_ok X G (c.t.d.fact 10 (f := .glo "_law_dealt") rfl), F⟩⟩
  a__law_line := ⟨(c.t.d.def_ 11 (d := dD "_law_line" st__law_line) rfl).elim fun fd F => ⟨_, fd, He.glo_ok X G (c.t.d.fact 11 (f := .glo "_law_line") rfl), F⟩⟩
  f_repr := He.free_ok X G (c.t.d.fact 23 (f := .free "repr") rfl)
  a__law_right := ⟨(c.t.d.def_ 12 (d := dD "_law_right" st__law_right) rfl).elim fun fd F => ⟨_, fd, He.glo_ok X G (c.t.d.fact 12 (f := .glo "_law_right") rfl), F⟩⟩
  f_all := He.free_ok X G (c.t.d.fact 24 (f := .free "all") rfl)
  f_max := He.free_ok X G (c.t.d.fact 25 (f := .free "max") rfl)
  f_min := He.free_ok X G (c.t.d.fact 26 (f := .free "min") rfl)
  a_law := ⟨(c.t.d.def_ 13 (d := dD "law" st_law) rfl).elim fun fd F => ⟨_, fd, He.glo_ok X G (c.t.d.fact 13 (f := .glo "law") rfl), F⟩⟩
theorem facts {P : Program} {w : World} {K : PySem.W.Frag} {h : Heap} {mg : Str → Option Value} {f : Addr} (X : K.In h) (G : h.Ns mainGlobals mg) (hfa : mg ("law" : Str) = some (.ref f)) (c : He.SaysX fal fnl [] [] ex w h K) :
    ∃ fd : FuncData, (∀ (s : Shared) (v : Value), BindsTo s fd ⟨[v], []⟩ [("script", v)]) ∧ ∀ base : Heap, FnG P w K mg base 7 f fd ["script"] (spP K 1 pre_law) := by
  have F := fx_of X G c
  obtain ⟨f', fd, hm, A⟩ := F.a_law.ex
  have e := hm
  rw [hfa] at e
  cases e
  refine ⟨fd, fun s v => FunD.bindsA (ps := ["script"]) A bn_law s [v] rfl, fun base => ?_⟩
  obtain ⟨f2, fd2, hm2, H, _, _, oc, od, osl, lk⟩ := (ok_law (P := P) (w := w) (base := base) F).ex
  have e := hm2
  rw [hfa] at e
  cases e
  obtain ⟨oc', od', dV, kV, doc, pm, an, cdv, ct, osl', e, lk', _⟩ := A.ex
  rw [lk] at lk'
  cases lk'
  exact H
end PD
open PySem PySem.W PySem.Calls PyProof.Rows
theorem PySem.Challenge.cw_facenumbers_k54_lines_for_all_dimensions_holds : PySem.Challenge.rw_facenumbers_k54_lines_for_all_dimensions.Holds := by
  w_on; o_law
  refine HandSHeadRun.head_any (r := OpenLaw.row PySem.Challenge.rw_facenumbers_k54_lines_for_all_dimensions) (q := view (OpenLaw.row PySem.Challenge.rw_facenumbers_k54_lines_for_all_dimensions).prog [26]) (H := PD.hk) (ob := PD.ob) (M := 20000) (loose := PD.loosel) (d := HandSHeadRun.topDef (OpenLaw.row PySem.Challenge.rw_facenumbers_k54_lines_for_all_dimensions).prog 26) (kwd := []) PD.ob_eq
    (by kernel_rfl) (fun s => by kernel_rfl) PD.run (by kernel_rfl) (by kernel_rfl) (by kernel_rfl) (by rfl) (by first | assumption | decide +kernel) (by decide +kernel) ⟨rfl, rfl, rfl, rfl, rfl, by decide +kernel⟩ ?hw ?hc
  case hw => w_witness2
  case hc =>
    refine PD.walk_g (l := PySem.Challenge.rw_facenumbers_k54_lines_for_all_dimensions) (n := 63) (k := 7) (x := "script") rfl (by decide) (by kernel_rfl) (PD.rg_caller ⟨rfl, by decide, by decide⟩) ?F
    intro w mg fa h Y G hmg0
    obtain ⟨K, KX, c⟩ := Y
    have hmg : mg ("law" : PySem.Str) = some (.ref fa) := by
      have e : (HandSHeadRun.topDef (OpenLaw.row PySem.Challenge.rw_facenumbers_k54_lines_for_all_dimensions).prog 26).name = ("law" : PySem.Str) := by kernel_rfl
      rw [← e]
      exact hmg0
    obtain ⟨fd, hb, hF⟩ := PD.facts (P := (PySem.Challenge.rw_facenumbers_k54_lines_for_all_dimensions).prog) (w := w) KX G hmg c
    refine ⟨K, fd, PD.spP K 1 PD.pre_law, KX, hb, fun H a ns hl hbits hS => ?_, fun base _ _ => hF base⟩
    exact ⟨H, [.scr ns], fun d => d = .bl true, rfl, fun _ _ e => e, .cons (.scr hS) .nil, PD.law_ok hl rfl, fun d v G' H' e _ _ _ _ q => by subst e; cases q; rfl⟩
